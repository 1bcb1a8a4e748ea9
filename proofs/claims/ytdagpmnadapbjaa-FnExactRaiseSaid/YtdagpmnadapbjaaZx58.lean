/- The Go functions laws_FnExactRaise as Lean functions, each with a proof that its code comes to just these answers; conditions: those of each theorem. -/
import Derived.Test.YtdagpmnadapbjaaZx0
import Derived.Test.YtdagpmnadapbjaaZx1
import Derived.Test.YtdagpmnadapbjaaZx6
import Derived.Test.YtdagpmnadapbjaaZx12
import Derived.Test.YtdagpmnadapbjaaZx13
import Derived.Test.YtdagpmnadapbjaaZx24
import Derived.Test.YtdagpmnadapbjaaZx25
import Derived.Test.YtdagpmnadapbjaaZx39
import Derived.Test.YtdagpmnadapbjaaZx41
namespace Go.Proofs.Ytdagpmnadapbjaa.Z
open Go.RowKit Go.Proofs.YtdagpmnadapbjaaW.PrintWords Go.Proofs.YtdagpmnadapbjaaW.PrintLast Go.Proofs.YtdagpmnadapbjaaW.PrintMore
attribute [local go_sem] max2_int min2_int max_two min_two max_three min_three max_four min_four   -- for this text's walks alone
set_option linter.unusedVariables false
set_option linter.unusedSimpArgs false
mutual
def laws_FnExactRaise.j0 : Nat → List Int → Int → List Int → Int → Bool → Bool → Bool → List Int → List Int → Int → Int → Int → Bool → Bool → List Int → List Int → Int → Int → Int → Bool → Bool → List Int → List Int → Int → Int → Int → Bool → Bool → List Int → List Int → Int → Int → Int → Option (Bool)
 | 0, _, _, _, _, _, _, _, _, _, _, _, _, _, _, _, _, _, _, _, _, _, _, _, _, _, _, _, _, _, _, _, _, _ => none
 | k + 1, x5, x6, x9, x10, x51, x1044000, x1044001, x1044002, x1044003, x1044004, x1044005, x1044006, x1072000, x1072001, x1072002, x1072003, x1072004, x1072005, x1072006, x1084000, x1084001, x1084002, x1084003, x1084004, x1084005, x1084006, x1100000, x1100001, x1100002, x1100003, x1100004, x1100005, x1100006 => if x51 = true then (some false) else ((laws_toEvent.f k x1044000 x1044001 x1044002 x1044003 x1044004 x1044005 x1044006).bind fun bt1102 => ((laws_eqEvent.f k x1084000 x1084001 x1084002 x1084003 x1084004 x1084005 x1084006 bt1102.1 bt1102.2.1 bt1102.2.2.1 bt1102.2.2.2.1 bt1102.2.2.2.2.1 bt1102.2.2.2.2.2.1 bt1102.2.2.2.2.2.2).bind fun t1113 => (if t1113 = true then ((laws_markEvent.f k x1084000 x1084001 x1084002 x1084003 x1084004 x1084005 x1084006 1).bind fun bt1114 => (if bt1114.1 < 0 then (laws_FnExactRaise.j1 k x5 x6 x9 true x1044000 x1044001 x1044002 x1044003 x1044004 x1044005 x1044006 x1072000 x1072001 x1072002 x1072003 x1072004 x1072005 x1072006 x1100000 x1100001 x1100002 x1100003 x1100004 x1100005 x1100006) else ((laws_eqEvent.f k x1100000 x1100001 x1100002 x1100003 x1100004 x1100005 x1100006 x1072000 x1072001 x1072002 x1072003 x1072004 x1072005 x1072006).bind fun t1117 => (if t1117 = true then ((laws_eqIntS.f k x9 x5).bind fun t1118 => (if t1118 = true then (laws_FnExactRaise.j1 k x5 x6 x9 (x10 != x6) x1044000 x1044001 x1044002 x1044003 x1044004 x1044005 x1044006 x1072000 x1072001 x1072002 x1072003 x1072004 x1072005 x1072006 x1100000 x1100001 x1100002 x1100003 x1100004 x1100005 x1100006) else (laws_FnExactRaise.j1 k x5 x6 x9 true x1044000 x1044001 x1044002 x1044003 x1044004 x1044005 x1044006 x1072000 x1072001 x1072002 x1072003 x1072004 x1072005 x1072006 x1100000 x1100001 x1100002 x1100003 x1100004 x1100005 x1100006))) else (laws_FnExactRaise.j1 k x5 x6 x9 true x1044000 x1044001 x1044002 x1044003 x1044004 x1044005 x1044006 x1072000 x1072001 x1072002 x1072003 x1072004 x1072005 x1072006 x1100000 x1100001 x1100002 x1100003 x1100004 x1100005 x1100006))))) else (some false))))
def laws_FnExactRaise.j1 : Nat → List Int → Int → List Int → Bool → Bool → Bool → List Int → List Int → Int → Int → Int → Bool → Bool → List Int → List Int → Int → Int → Int → Bool → Bool → List Int → List Int → Int → Int → Int → Option (Bool)
 | 0, _, _, _, _, _, _, _, _, _, _, _, _, _, _, _, _, _, _, _, _, _, _, _, _, _ => none
 | k + 1, x5, x6, x9, x78, x1044000, x1044001, x1044002, x1044003, x1044004, x1044005, x1044006, x1072000, x1072001, x1072002, x1072003, x1072004, x1072005, x1072006, x1100000, x1100001, x1100002, x1100003, x1100004, x1100005, x1100006 => if x78 = true then (some false) else ((laws_markEvent.f k x1100000 x1100001 x1100002 x1100003 x1100004 x1100005 x1100006 1).bind fun bt1119 => ((laws_markIntS.f k x9 bt1119.1).bind fun bt1122 => ((laws_heldEvent.f k x1100000 x1100001 bt1119.2.1 bt1119.2.2 x1100004 x1100005 x1100006 1).bind fun t1124 => (if t1124 < 0 then (some false) else ((laws_heldIntS.f k bt1122.2 t1124).bind fun t1125 => (if t1125 < 0 then (some false) else (if t1125 = bt1122.1 then ((laws_toEvent.f k x1044000 x1044001 x1044002 x1044003 x1044004 x1044005 x1044006).bind fun bt1126 => ((impl_Raise.f k bt1126.1 bt1126.2.1 bt1126.2.2.1 bt1126.2.2.2.1 bt1126.2.2.2.2.1 bt1126.2.2.2.2.2.1 bt1126.2.2.2.2.2.2).bind fun bt1137 => ((laws_eqEvent.f k bt1137.1 bt1137.2.1 bt1137.2.2.1 bt1137.2.2.2.1 bt1137.2.2.2.2.1 bt1137.2.2.2.2.2.1 bt1137.2.2.2.2.2.2.1 x1072000 x1072001 x1072002 x1072003 x1072004 x1072005 x1072006).bind fun t1153 => (if t1153 = true then ((laws_eqIntS.f k bt1137.2.2.2.2.2.2.2.1 x5).bind fun t1154 => (if t1154 = true then (laws_FnExactRaise.j2 k bt1122.2 bt1122.1 (bt1137.2.2.2.2.2.2.2.2 != x6) x1100000 x1100001 bt1119.2.1 bt1119.2.2 x1100004 x1100005 x1100006) else (laws_FnExactRaise.j2 k bt1122.2 bt1122.1 true x1100000 x1100001 bt1119.2.1 bt1119.2.2 x1100004 x1100005 x1100006))) else (laws_FnExactRaise.j2 k bt1122.2 bt1122.1 true x1100000 x1100001 bt1119.2.1 bt1119.2.2 x1100004 x1100005 x1100006))))) else (some false))))))))
def laws_FnExactRaise.j2 : Nat → List Int → Int → Bool → Bool → Bool → List Int → List Int → Int → Int → Int → Option (Bool)
 | 0, _, _, _, _, _, _, _, _, _, _ => none
 | k + 1, x9, x12, x119, x1100000, x1100001, x1100002, x1100003, x1100004, x1100005, x1100006 => if x119 = true then (some false) else ((laws_heldEvent.f k x1100000 x1100001 x1100002 x1100003 x1100004 x1100005 x1100006 1).bind fun t1155 => (if t1155 < 0 then (some false) else ((laws_heldIntS.f k x9 t1155).bind fun t1156 => (if t1156 < 0 then (some false) else (if t1156 = x12 then (some true) else (some false))))))
end
def laws_FnExactRaise.f (k : Nat) (a0_0 : Bool) (a0_1 : Bool) (l0_2 : List Int) (l0_3 : List Int) (a0_4 : Int) (a0_5 : Int) (a0_6 : Int) : Option (Bool) := (laws_szEvent.f a0_0 a0_1 l0_2 l0_3 a0_4 a0_5 a0_6 1048576).bind fun t1044 => (if t1044 < 0 then (some true) else ((laws_toEvent.f k a0_0 a0_1 l0_2 l0_3 a0_4 a0_5 a0_6).bind fun bt1045 => ((spec_Raise.f k bt1045.1 bt1045.2.1 bt1045.2.2.1 bt1045.2.2.2.1 bt1045.2.2.2.2.1 bt1045.2.2.2.2.2.1 bt1045.2.2.2.2.2.2).bind fun bt1056 => ((laws_toEvent.f k a0_0 a0_1 l0_2 l0_3 a0_4 a0_5 a0_6).bind fun bt1072 => ((impl_Raise.f k bt1072.1 bt1072.2.1 bt1072.2.2.1 bt1072.2.2.2.1 bt1072.2.2.2.2.1 bt1072.2.2.2.2.2.1 bt1072.2.2.2.2.2.2).bind fun bt1084 => ((laws_eqEvent.f k bt1084.1 bt1084.2.1 bt1084.2.2.1 bt1084.2.2.2.1 bt1084.2.2.2.2.1 bt1084.2.2.2.2.2.1 bt1084.2.2.2.2.2.2.1 bt1056.1 bt1056.2.1 bt1056.2.2.1 bt1056.2.2.2.1 bt1056.2.2.2.2.1 bt1056.2.2.2.2.2.1 bt1056.2.2.2.2.2.2.1).bind fun t1100 => (if t1100 = true then ((laws_eqIntS.f k bt1084.2.2.2.2.2.2.2.1 bt1056.2.2.2.2.2.2.2.1).bind fun t1101 => (if t1101 = true then (laws_FnExactRaise.j0 k bt1056.2.2.2.2.2.2.2.1 bt1056.2.2.2.2.2.2.2.2 bt1084.2.2.2.2.2.2.2.1 bt1084.2.2.2.2.2.2.2.2 (bt1084.2.2.2.2.2.2.2.2 != bt1056.2.2.2.2.2.2.2.2) a0_0 a0_1 l0_2 l0_3 a0_4 a0_5 a0_6 bt1056.1 bt1056.2.1 bt1056.2.2.1 bt1056.2.2.2.1 bt1056.2.2.2.2.1 bt1056.2.2.2.2.2.1 bt1056.2.2.2.2.2.2.1 bt1072.1 bt1072.2.1 bt1072.2.2.1 bt1072.2.2.2.1 bt1072.2.2.2.2.1 bt1072.2.2.2.2.2.1 bt1072.2.2.2.2.2.2 bt1084.1 bt1084.2.1 bt1084.2.2.1 bt1084.2.2.2.1 bt1084.2.2.2.2.1 bt1084.2.2.2.2.2.1 bt1084.2.2.2.2.2.2.1) else (laws_FnExactRaise.j0 k bt1056.2.2.2.2.2.2.2.1 bt1056.2.2.2.2.2.2.2.2 bt1084.2.2.2.2.2.2.2.1 bt1084.2.2.2.2.2.2.2.2 true a0_0 a0_1 l0_2 l0_3 a0_4 a0_5 a0_6 bt1056.1 bt1056.2.1 bt1056.2.2.1 bt1056.2.2.2.1 bt1056.2.2.2.2.1 bt1056.2.2.2.2.2.1 bt1056.2.2.2.2.2.2.1 bt1072.1 bt1072.2.1 bt1072.2.2.1 bt1072.2.2.2.1 bt1072.2.2.2.2.1 bt1072.2.2.2.2.2.1 bt1072.2.2.2.2.2.2 bt1084.1 bt1084.2.1 bt1084.2.2.1 bt1084.2.2.2.1 bt1084.2.2.2.2.1 bt1084.2.2.2.2.2.1 bt1084.2.2.2.2.2.2.1))) else (laws_FnExactRaise.j0 k bt1056.2.2.2.2.2.2.2.1 bt1056.2.2.2.2.2.2.2.2 bt1084.2.2.2.2.2.2.2.1 bt1084.2.2.2.2.2.2.2.2 true a0_0 a0_1 l0_2 l0_3 a0_4 a0_5 a0_6 bt1056.1 bt1056.2.1 bt1056.2.2.1 bt1056.2.2.2.1 bt1056.2.2.2.2.1 bt1056.2.2.2.2.2.1 bt1056.2.2.2.2.2.2.1 bt1072.1 bt1072.2.1 bt1072.2.2.1 bt1072.2.2.2.1 bt1072.2.2.2.2.1 bt1072.2.2.2.2.2.1 bt1072.2.2.2.2.2.2 bt1084.1 bt1084.2.1 bt1084.2.2.1 bt1084.2.2.2.1 bt1084.2.2.2.2.1 bt1084.2.2.2.2.2.1 bt1084.2.2.2.2.2.2.1))))))))
theorem laws_FnExactRaise.mono_l : ∀ k, (∀ y0 y1 y2 y3 y4 y5 y6 y7 y8 y9 y10 y11 y12 y13 y14 y15 y16 y17 y18 y19 y20 y21 y22 y23 y24 y25 y26 y27 y28 y29 y30 y31 y32, LeO (laws_FnExactRaise.j0 k y0 y1 y2 y3 y4 y5 y6 y7 y8 y9 y10 y11 y12 y13 y14 y15 y16 y17 y18 y19 y20 y21 y22 y23 y24 y25 y26 y27 y28 y29 y30 y31 y32) (laws_FnExactRaise.j0 (k + 1) y0 y1 y2 y3 y4 y5 y6 y7 y8 y9 y10 y11 y12 y13 y14 y15 y16 y17 y18 y19 y20 y21 y22 y23 y24 y25 y26 y27 y28 y29 y30 y31 y32)) ∧ (∀ y0 y1 y2 y3 y4 y5 y6 y7 y8 y9 y10 y11 y12 y13 y14 y15 y16 y17 y18 y19 y20 y21 y22 y23 y24, LeO (laws_FnExactRaise.j1 k y0 y1 y2 y3 y4 y5 y6 y7 y8 y9 y10 y11 y12 y13 y14 y15 y16 y17 y18 y19 y20 y21 y22 y23 y24) (laws_FnExactRaise.j1 (k + 1) y0 y1 y2 y3 y4 y5 y6 y7 y8 y9 y10 y11 y12 y13 y14 y15 y16 y17 y18 y19 y20 y21 y22 y23 y24)) ∧ (∀ y0 y1 y2 y3 y4 y5 y6 y7 y8 y9, LeO (laws_FnExactRaise.j2 k y0 y1 y2 y3 y4 y5 y6 y7 y8 y9) (laws_FnExactRaise.j2 (k + 1) y0 y1 y2 y3 y4 y5 y6 y7 y8 y9))
 | 0 => ⟨fun _ _ _ _ _ _ _ _ _ _ _ _ _ _ _ _ _ _ _ _ _ _ _ _ _ _ _ _ _ _ _ _ _ r h => by simp [laws_FnExactRaise.j0] at h, fun _ _ _ _ _ _ _ _ _ _ _ _ _ _ _ _ _ _ _ _ _ _ _ _ _ r h => by simp [laws_FnExactRaise.j1] at h, fun _ _ _ _ _ _ _ _ _ _ r h => by simp [laws_FnExactRaise.j2] at h⟩
 | k + 1 => by
  obtain ⟨ih0, ih1, ih2⟩ := laws_FnExactRaise.mono_l k
  refine ⟨?_, ?_, ?_⟩
  ·intro y0 y1 y2 y3 y4 y5 y6 y7 y8 y9 y10 y11 y12 y13 y14 y15 y16 y17 y18 y19 y20 y21 y22 y23 y24 y25 y26 y27 y28 y29 y30 y31 y32
   unfold laws_FnExactRaise.j0
   repeat' first
   | (with_reducible exact ih0 _ _ _ _ _ _ _ _ _ _ _ _ _ _ _ _ _ _ _ _ _ _ _ _ _ _ _ _ _ _ _ _ _)
   | (with_reducible exact ih1 _ _ _ _ _ _ _ _ _ _ _ _ _ _ _ _ _ _ _ _ _ _ _ _ _)
   | (with_reducible exact ih2 _ _ _ _ _ _ _ _ _ _)
   | (with_reducible exact impl_Raise.mono _ _ _ _ _ _ _ _)
   | (with_reducible exact laws_eqEvent.mono _ _ _ _ _ _ _ _ _ _ _ _ _ _ _)
   | (with_reducible exact laws_eqIntS.mono _ _ _)
   | (with_reducible exact laws_heldEvent.mono _ _ _ _ _ _ _ _ _)
   | (with_reducible exact laws_heldIntS.mono _ _ _)
   | (with_reducible exact laws_markEvent.mono _ _ _ _ _ _ _ _ _)
   | (with_reducible exact laws_markIntS.mono _ _ _)
   | (with_reducible exact laws_toEvent.mono _ _ _ _ _ _ _ _)
   | (with_reducible exact spec_Raise.mono _ _ _ _ _ _ _ _)
   | (with_reducible exact LeO.refl _)
   | (with_reducible exact LeO.none _)
   | (with_reducible refine LeO.ite ?_ ?_)
   | (with_reducible refine LeO.bind ?_ (fun _ => ?_))
  ·intro y0 y1 y2 y3 y4 y5 y6 y7 y8 y9 y10 y11 y12 y13 y14 y15 y16 y17 y18 y19 y20 y21 y22 y23 y24
   unfold laws_FnExactRaise.j1
   repeat' first
   | (with_reducible exact ih0 _ _ _ _ _ _ _ _ _ _ _ _ _ _ _ _ _ _ _ _ _ _ _ _ _ _ _ _ _ _ _ _ _)
   | (with_reducible exact ih1 _ _ _ _ _ _ _ _ _ _ _ _ _ _ _ _ _ _ _ _ _ _ _ _ _)
   | (with_reducible exact ih2 _ _ _ _ _ _ _ _ _ _)
   | (with_reducible exact impl_Raise.mono _ _ _ _ _ _ _ _)
   | (with_reducible exact laws_eqEvent.mono _ _ _ _ _ _ _ _ _ _ _ _ _ _ _)
   | (with_reducible exact laws_eqIntS.mono _ _ _)
   | (with_reducible exact laws_heldEvent.mono _ _ _ _ _ _ _ _ _)
   | (with_reducible exact laws_heldIntS.mono _ _ _)
   | (with_reducible exact laws_markEvent.mono _ _ _ _ _ _ _ _ _)
   | (with_reducible exact laws_markIntS.mono _ _ _)
   | (with_reducible exact laws_toEvent.mono _ _ _ _ _ _ _ _)
   | (with_reducible exact spec_Raise.mono _ _ _ _ _ _ _ _)
   | (with_reducible exact LeO.refl _)
   | (with_reducible exact LeO.none _)
   | (with_reducible refine LeO.ite ?_ ?_)
   | (with_reducible refine LeO.bind ?_ (fun _ => ?_))
  ·intro y0 y1 y2 y3 y4 y5 y6 y7 y8 y9
   unfold laws_FnExactRaise.j2
   repeat' first
   | (with_reducible exact ih0 _ _ _ _ _ _ _ _ _ _ _ _ _ _ _ _ _ _ _ _ _ _ _ _ _ _ _ _ _ _ _ _ _)
   | (with_reducible exact ih1 _ _ _ _ _ _ _ _ _ _ _ _ _ _ _ _ _ _ _ _ _ _ _ _ _)
   | (with_reducible exact ih2 _ _ _ _ _ _ _ _ _ _)
   | (with_reducible exact impl_Raise.mono _ _ _ _ _ _ _ _)
   | (with_reducible exact laws_eqEvent.mono _ _ _ _ _ _ _ _ _ _ _ _ _ _ _)
   | (with_reducible exact laws_eqIntS.mono _ _ _)
   | (with_reducible exact laws_heldEvent.mono _ _ _ _ _ _ _ _ _)
   | (with_reducible exact laws_heldIntS.mono _ _ _)
   | (with_reducible exact laws_markEvent.mono _ _ _ _ _ _ _ _ _)
   | (with_reducible exact laws_markIntS.mono _ _ _)
   | (with_reducible exact laws_toEvent.mono _ _ _ _ _ _ _ _)
   | (with_reducible exact spec_Raise.mono _ _ _ _ _ _ _ _)
   | (with_reducible exact LeO.refl _)
   | (with_reducible exact LeO.none _)
   | (with_reducible refine LeO.ite ?_ ?_)
   | (with_reducible refine LeO.bind ?_ (fun _ => ?_))
theorem laws_FnExactRaise.mono : ∀ a0 a1 a2 a3 a4 a5 a6 k, LeO (laws_FnExactRaise.f k a0 a1 a2 a3 a4 a5 a6) (laws_FnExactRaise.f (k + 1) a0 a1 a2 a3 a4 a5 a6) := by
 intro a0 a1 a2 a3 a4 a5 a6 k
 obtain ⟨ih0, ih1, ih2⟩ := laws_FnExactRaise.mono_l k
 unfold laws_FnExactRaise.f
 repeat' first
   | (with_reducible exact ih0 _ _ _ _ _ _ _ _ _ _ _ _ _ _ _ _ _ _ _ _ _ _ _ _ _ _ _ _ _ _ _ _ _)
   | (with_reducible exact ih1 _ _ _ _ _ _ _ _ _ _ _ _ _ _ _ _ _ _ _ _ _ _ _ _ _)
   | (with_reducible exact ih2 _ _ _ _ _ _ _ _ _ _)
   | (with_reducible exact impl_Raise.mono _ _ _ _ _ _ _ _)
   | (with_reducible exact laws_eqEvent.mono _ _ _ _ _ _ _ _ _ _ _ _ _ _ _)
   | (with_reducible exact laws_eqIntS.mono _ _ _)
   | (with_reducible exact laws_heldEvent.mono _ _ _ _ _ _ _ _ _)
   | (with_reducible exact laws_heldIntS.mono _ _ _)
   | (with_reducible exact laws_markEvent.mono _ _ _ _ _ _ _ _ _)
   | (with_reducible exact laws_markIntS.mono _ _ _)
   | (with_reducible exact laws_toEvent.mono _ _ _ _ _ _ _ _)
   | (with_reducible exact spec_Raise.mono _ _ _ _ _ _ _ _)
   | (with_reducible exact LeO.refl _)
   | (with_reducible exact LeO.none _)
   | (with_reducible refine LeO.ite ?_ ?_)
   | (with_reducible refine LeO.bind ?_ (fun _ => ?_))
set_option maxHeartbeats 8000000 in
set_option maxRecDepth 100000 in
theorem laws_FnExactRaise.calls (k : Nat) (a0_0 : Bool) (a0_1 : Bool) (A0_2 : Option Addr) (c0_2 : Nat) (l0_2 : List Int) (A0_3 : Option Addr) (c0_3 : Nat) (l0_3 : List Int) (a0_4 : Int) (a0_5 : Int) (a0_6 : Int) (r : Bool) (w : World) (hr0_2 : Kd.C (Kd.int .i64) w A0_2 l0_2.length l0_2) (hc0_2 : l0_2.length ≤ c0_2) (hr0_3 : Kd.C (Kd.int .i64) w A0_3 l0_3.length l0_3) (hc0_3 : l0_3.length ≤ c0_3) (HQ_ : Aside0 (r = true)) (h : laws_FnExactRaise.f k a0_0 a0_1 l0_2 l0_3 a0_4 a0_5 a0_6 = some r) :
  Calls Try.prog 9 #[.agg #[.bool a0_0, .bool a0_1, .slice A0_2 l0_2.length c0_2, .slice A0_3 l0_3.length c0_3, .int .i64 a0_4, .int .i64 a0_5, .int .i64 a0_6]] w fun e w' => e = .returned (.bool r) ∧ Below w.heap.size w w' := by
 have hu24 := Try.underlying24
 have hu27 := Try.underlying27
 have HR0_2 := am hr0_2
 have HC0_2 := am hc0_2
 clear hr0_2 hc0_2
 have HR0_3 := am hr0_3
 have HC0_3 := am hc0_3
 clear hr0_3 hc0_3
 have HB := am (Below.refl w.heap.size w)
 have H : ((laws_szEvent.f a0_0 a0_1 l0_2 l0_3 a0_4 a0_5 a0_6 1048576).bind fun t1044 => (if t1044 < 0 then (some true) else ((laws_toEvent.f k a0_0 a0_1 l0_2 l0_3 a0_4 a0_5 a0_6).bind fun bt1045 => ((spec_Raise.f k bt1045.1 bt1045.2.1 bt1045.2.2.1 bt1045.2.2.2.1 bt1045.2.2.2.2.1 bt1045.2.2.2.2.2.1 bt1045.2.2.2.2.2.2).bind fun bt1056 => ((laws_toEvent.f k a0_0 a0_1 l0_2 l0_3 a0_4 a0_5 a0_6).bind fun bt1072 => ((impl_Raise.f k bt1072.1 bt1072.2.1 bt1072.2.2.1 bt1072.2.2.2.1 bt1072.2.2.2.2.1 bt1072.2.2.2.2.2.1 bt1072.2.2.2.2.2.2).bind fun bt1084 => ((laws_eqEvent.f k bt1084.1 bt1084.2.1 bt1084.2.2.1 bt1084.2.2.2.1 bt1084.2.2.2.2.1 bt1084.2.2.2.2.2.1 bt1084.2.2.2.2.2.2.1 bt1056.1 bt1056.2.1 bt1056.2.2.1 bt1056.2.2.2.1 bt1056.2.2.2.2.1 bt1056.2.2.2.2.2.1 bt1056.2.2.2.2.2.2.1).bind fun t1100 => (if t1100 = true then ((laws_eqIntS.f k bt1084.2.2.2.2.2.2.2.1 bt1056.2.2.2.2.2.2.2.1).bind fun t1101 => (if t1101 = true then (laws_FnExactRaise.j0 k bt1056.2.2.2.2.2.2.2.1 bt1056.2.2.2.2.2.2.2.2 bt1084.2.2.2.2.2.2.2.1 bt1084.2.2.2.2.2.2.2.2 (bt1084.2.2.2.2.2.2.2.2 != bt1056.2.2.2.2.2.2.2.2) a0_0 a0_1 l0_2 l0_3 a0_4 a0_5 a0_6 bt1056.1 bt1056.2.1 bt1056.2.2.1 bt1056.2.2.2.1 bt1056.2.2.2.2.1 bt1056.2.2.2.2.2.1 bt1056.2.2.2.2.2.2.1 bt1072.1 bt1072.2.1 bt1072.2.2.1 bt1072.2.2.2.1 bt1072.2.2.2.2.1 bt1072.2.2.2.2.2.1 bt1072.2.2.2.2.2.2 bt1084.1 bt1084.2.1 bt1084.2.2.1 bt1084.2.2.2.1 bt1084.2.2.2.2.1 bt1084.2.2.2.2.2.1 bt1084.2.2.2.2.2.2.1) else (laws_FnExactRaise.j0 k bt1056.2.2.2.2.2.2.2.1 bt1056.2.2.2.2.2.2.2.2 bt1084.2.2.2.2.2.2.2.1 bt1084.2.2.2.2.2.2.2.2 true a0_0 a0_1 l0_2 l0_3 a0_4 a0_5 a0_6 bt1056.1 bt1056.2.1 bt1056.2.2.1 bt1056.2.2.2.1 bt1056.2.2.2.2.1 bt1056.2.2.2.2.2.1 bt1056.2.2.2.2.2.2.1 bt1072.1 bt1072.2.1 bt1072.2.2.1 bt1072.2.2.2.1 bt1072.2.2.2.2.1 bt1072.2.2.2.2.2.1 bt1072.2.2.2.2.2.2 bt1084.1 bt1084.2.1 bt1084.2.2.1 bt1084.2.2.2.1 bt1084.2.2.2.2.1 bt1084.2.2.2.2.2.1 bt1084.2.2.2.2.2.2.1))) else (laws_FnExactRaise.j0 k bt1056.2.2.2.2.2.2.2.1 bt1056.2.2.2.2.2.2.2.2 bt1084.2.2.2.2.2.2.2.1 bt1084.2.2.2.2.2.2.2.2 true a0_0 a0_1 l0_2 l0_3 a0_4 a0_5 a0_6 bt1056.1 bt1056.2.1 bt1056.2.2.1 bt1056.2.2.2.1 bt1056.2.2.2.2.1 bt1056.2.2.2.2.2.1 bt1056.2.2.2.2.2.2.1 bt1072.1 bt1072.2.1 bt1072.2.2.1 bt1072.2.2.2.1 bt1072.2.2.2.2.1 bt1072.2.2.2.2.2.1 bt1072.2.2.2.2.2.2 bt1084.1 bt1084.2.1 bt1084.2.2.1 bt1084.2.2.2.1 bt1084.2.2.2.2.1 bt1084.2.2.2.2.2.1 bt1084.2.2.2.2.2.2.1))))))))) = some r := h
 clear h
 replace H := Option.bind_eq_some_iff.mp H
 obtain ⟨t1044, A20, H⟩ := H
 replace H : (if t1044 < 0 then (some true) else ((laws_toEvent.f k a0_0 a0_1 l0_2 l0_3 a0_4 a0_5 a0_6).bind fun bt1045 => ((spec_Raise.f k bt1045.1 bt1045.2.1 bt1045.2.2.1 bt1045.2.2.2.1 bt1045.2.2.2.2.1 bt1045.2.2.2.2.2.1 bt1045.2.2.2.2.2.2).bind fun bt1056 => ((laws_toEvent.f k a0_0 a0_1 l0_2 l0_3 a0_4 a0_5 a0_6).bind fun bt1072 => ((impl_Raise.f k bt1072.1 bt1072.2.1 bt1072.2.2.1 bt1072.2.2.2.1 bt1072.2.2.2.2.1 bt1072.2.2.2.2.2.1 bt1072.2.2.2.2.2.2).bind fun bt1084 => ((laws_eqEvent.f k bt1084.1 bt1084.2.1 bt1084.2.2.1 bt1084.2.2.2.1 bt1084.2.2.2.2.1 bt1084.2.2.2.2.2.1 bt1084.2.2.2.2.2.2.1 bt1056.1 bt1056.2.1 bt1056.2.2.1 bt1056.2.2.2.1 bt1056.2.2.2.2.1 bt1056.2.2.2.2.2.1 bt1056.2.2.2.2.2.2.1).bind fun t1100 => (if t1100 = true then ((laws_eqIntS.f k bt1084.2.2.2.2.2.2.2.1 bt1056.2.2.2.2.2.2.2.1).bind fun t1101 => (if t1101 = true then (laws_FnExactRaise.j0 k bt1056.2.2.2.2.2.2.2.1 bt1056.2.2.2.2.2.2.2.2 bt1084.2.2.2.2.2.2.2.1 bt1084.2.2.2.2.2.2.2.2 (bt1084.2.2.2.2.2.2.2.2 != bt1056.2.2.2.2.2.2.2.2) a0_0 a0_1 l0_2 l0_3 a0_4 a0_5 a0_6 bt1056.1 bt1056.2.1 bt1056.2.2.1 bt1056.2.2.2.1 bt1056.2.2.2.2.1 bt1056.2.2.2.2.2.1 bt1056.2.2.2.2.2.2.1 bt1072.1 bt1072.2.1 bt1072.2.2.1 bt1072.2.2.2.1 bt1072.2.2.2.2.1 bt1072.2.2.2.2.2.1 bt1072.2.2.2.2.2.2 bt1084.1 bt1084.2.1 bt1084.2.2.1 bt1084.2.2.2.1 bt1084.2.2.2.2.1 bt1084.2.2.2.2.2.1 bt1084.2.2.2.2.2.2.1) else (laws_FnExactRaise.j0 k bt1056.2.2.2.2.2.2.2.1 bt1056.2.2.2.2.2.2.2.2 bt1084.2.2.2.2.2.2.2.1 bt1084.2.2.2.2.2.2.2.2 true a0_0 a0_1 l0_2 l0_3 a0_4 a0_5 a0_6 bt1056.1 bt1056.2.1 bt1056.2.2.1 bt1056.2.2.2.1 bt1056.2.2.2.2.1 bt1056.2.2.2.2.2.1 bt1056.2.2.2.2.2.2.1 bt1072.1 bt1072.2.1 bt1072.2.2.1 bt1072.2.2.2.1 bt1072.2.2.2.2.1 bt1072.2.2.2.2.2.1 bt1072.2.2.2.2.2.2 bt1084.1 bt1084.2.1 bt1084.2.2.1 bt1084.2.2.2.1 bt1084.2.2.2.2.1 bt1084.2.2.2.2.2.1 bt1084.2.2.2.2.2.2.1))) else (laws_FnExactRaise.j0 k bt1056.2.2.2.2.2.2.2.1 bt1056.2.2.2.2.2.2.2.2 bt1084.2.2.2.2.2.2.2.1 bt1084.2.2.2.2.2.2.2.2 true a0_0 a0_1 l0_2 l0_3 a0_4 a0_5 a0_6 bt1056.1 bt1056.2.1 bt1056.2.2.1 bt1056.2.2.2.1 bt1056.2.2.2.2.1 bt1056.2.2.2.2.2.1 bt1056.2.2.2.2.2.2.1 bt1072.1 bt1072.2.1 bt1072.2.2.1 bt1072.2.2.2.1 bt1072.2.2.2.2.1 bt1072.2.2.2.2.2.1 bt1072.2.2.2.2.2.2 bt1084.1 bt1084.2.1 bt1084.2.2.1 bt1084.2.2.2.1 bt1084.2.2.2.2.1 bt1084.2.2.2.2.2.1 bt1084.2.2.2.2.2.2.1)))))))) = some r := H
 have A2 := am A20
 clear A20
 by_cases c3 : t1044 < 0
 ·rw [if_pos c3] at H
  have c3b0 : decide (t1044 < 0) = true := decide_eq_true c3
  clear c3
  obtain rfl := Option.some.inj H
  go_enter Try.func9, Try.ntmps9
  go_wp2_with (first | ((with_reducible refine gate_dst (N := 1) rfl ?_); refine box_event ?hg (N := 1) ?hd (cs := #[.bool a0_0, .bool a0_1, .slice A0_2 l0_2.length c0_2, .slice A0_3 l0_3.length c0_3, .int .i64 a0_4, .int .i64 a0_5, .int .i64 a0_6]) (t := 24) ?hr ?_; (case hd => rfl); (case hg => rfl); (case hr => first | (go_simp; done) | (go_simp; rfl)); intro gb1043 hg w4 hbox hb; have BK1043 := am (hbox); have GW1043 := am ((by rw [hg]; exact (below_size (pkB HB.out)) : w.heap.size ≤ gb1043)); have GE1043 := am ((by rw [hg]; exact (below_size (pkB HB.out)) : w.heap.size ≤ gb1043)); replace HB := am (below_step (pkB HB.out) hb); clear hb hbox hg; obtain ⟨hcz5_0, hcz5_1, hcz5_2, hcz5_3, hcz5_4, hcz5_5, hcz5_6, hfz5_0, hfz5_1, hfz5_2, hfz5_3, hfz5_4, hfz5_5, hfz5_6⟩ := bk7 BK1043.out) | ((with_reducible refine gate_callee (f := 14) rfl ?_); refine goesL_ (some 19) rfl rfl Try.func14 (by kernel_rfl) rfl #[.agg #[.bool a0_0, .bool a0_1, .slice A0_2 l0_2.length c0_2, .slice A0_3 l0_3.length c0_3, .int .i64 a0_4, .int .i64 a0_5, .int .i64 a0_6], .int .i64 1048576] rfl mpx ?_; (with_reducible refine (laws_szEvent.calls a0_0 a0_1 _ _ l0_2 _ _ l0_3 a0_4 a0_5 a0_6 1048576 t1044 _ ?side1 ?side2 ?side3 ?side4 A2.out).mono ?_); (case side1 => exact pkC (Kd.C_below HR0_2.out HB.out)); (case side2 => exact HC0_2.out); (case side3 => exact pkC (Kd.C_below HR0_3.out HB.out)); (case side4 => exact HC0_3.out); rintro e w6 ⟨rfl, hb⟩; refine ⟨_, rfl, ?_⟩; replace BK1043 := am (blk_below (pkK BK1043.out) hb); replace HB := am (below_step (pkW HB.out) hb); (try clear hb)))
  go_ret
  exact ⟨rfe, pkW HB.out⟩
 ·rw [if_neg c3] at H
  have c3b0 : decide (t1044 < 0) = false := decide_eq_false c3
  clear c3
  replace H := Option.bind_eq_some_iff.mp H
  obtain ⟨⟨t1045, t1046, t1047, t1050, t1053, t1054, t1055⟩, A70, H⟩ := H
  replace H : ((spec_Raise.f k t1045 t1046 t1047 t1050 t1053 t1054 t1055).bind fun bt1056 => ((laws_toEvent.f k a0_0 a0_1 l0_2 l0_3 a0_4 a0_5 a0_6).bind fun bt1072 => ((impl_Raise.f k bt1072.1 bt1072.2.1 bt1072.2.2.1 bt1072.2.2.2.1 bt1072.2.2.2.2.1 bt1072.2.2.2.2.2.1 bt1072.2.2.2.2.2.2).bind fun bt1084 => ((laws_eqEvent.f k bt1084.1 bt1084.2.1 bt1084.2.2.1 bt1084.2.2.2.1 bt1084.2.2.2.2.1 bt1084.2.2.2.2.2.1 bt1084.2.2.2.2.2.2.1 bt1056.1 bt1056.2.1 bt1056.2.2.1 bt1056.2.2.2.1 bt1056.2.2.2.2.1 bt1056.2.2.2.2.2.1 bt1056.2.2.2.2.2.2.1).bind fun t1100 => (if t1100 = true then ((laws_eqIntS.f k bt1084.2.2.2.2.2.2.2.1 bt1056.2.2.2.2.2.2.2.1).bind fun t1101 => (if t1101 = true then (laws_FnExactRaise.j0 k bt1056.2.2.2.2.2.2.2.1 bt1056.2.2.2.2.2.2.2.2 bt1084.2.2.2.2.2.2.2.1 bt1084.2.2.2.2.2.2.2.2 (bt1084.2.2.2.2.2.2.2.2 != bt1056.2.2.2.2.2.2.2.2) a0_0 a0_1 l0_2 l0_3 a0_4 a0_5 a0_6 bt1056.1 bt1056.2.1 bt1056.2.2.1 bt1056.2.2.2.1 bt1056.2.2.2.2.1 bt1056.2.2.2.2.2.1 bt1056.2.2.2.2.2.2.1 bt1072.1 bt1072.2.1 bt1072.2.2.1 bt1072.2.2.2.1 bt1072.2.2.2.2.1 bt1072.2.2.2.2.2.1 bt1072.2.2.2.2.2.2 bt1084.1 bt1084.2.1 bt1084.2.2.1 bt1084.2.2.2.1 bt1084.2.2.2.2.1 bt1084.2.2.2.2.2.1 bt1084.2.2.2.2.2.2.1) else (laws_FnExactRaise.j0 k bt1056.2.2.2.2.2.2.2.1 bt1056.2.2.2.2.2.2.2.2 bt1084.2.2.2.2.2.2.2.1 bt1084.2.2.2.2.2.2.2.2 true a0_0 a0_1 l0_2 l0_3 a0_4 a0_5 a0_6 bt1056.1 bt1056.2.1 bt1056.2.2.1 bt1056.2.2.2.1 bt1056.2.2.2.2.1 bt1056.2.2.2.2.2.1 bt1056.2.2.2.2.2.2.1 bt1072.1 bt1072.2.1 bt1072.2.2.1 bt1072.2.2.2.1 bt1072.2.2.2.2.1 bt1072.2.2.2.2.2.1 bt1072.2.2.2.2.2.2 bt1084.1 bt1084.2.1 bt1084.2.2.1 bt1084.2.2.2.1 bt1084.2.2.2.2.1 bt1084.2.2.2.2.2.1 bt1084.2.2.2.2.2.2.1))) else (laws_FnExactRaise.j0 k bt1056.2.2.2.2.2.2.2.1 bt1056.2.2.2.2.2.2.2.2 bt1084.2.2.2.2.2.2.2.1 bt1084.2.2.2.2.2.2.2.2 true a0_0 a0_1 l0_2 l0_3 a0_4 a0_5 a0_6 bt1056.1 bt1056.2.1 bt1056.2.2.1 bt1056.2.2.2.1 bt1056.2.2.2.2.1 bt1056.2.2.2.2.2.1 bt1056.2.2.2.2.2.2.1 bt1072.1 bt1072.2.1 bt1072.2.2.1 bt1072.2.2.2.1 bt1072.2.2.2.2.1 bt1072.2.2.2.2.2.1 bt1072.2.2.2.2.2.2 bt1084.1 bt1084.2.1 bt1084.2.2.1 bt1084.2.2.2.1 bt1084.2.2.2.2.1 bt1084.2.2.2.2.2.1 bt1084.2.2.2.2.2.2.1)))))) = some r := H
  have A7 := am A70
  clear A70
  replace H := Option.bind_eq_some_iff.mp H
  obtain ⟨⟨t1056, t1057, t1058, t1061, t1064, t1065, t1066, t1067, t1070⟩, A80, H⟩ := H
  replace H : ((laws_toEvent.f k a0_0 a0_1 l0_2 l0_3 a0_4 a0_5 a0_6).bind fun bt1072 => ((impl_Raise.f k bt1072.1 bt1072.2.1 bt1072.2.2.1 bt1072.2.2.2.1 bt1072.2.2.2.2.1 bt1072.2.2.2.2.2.1 bt1072.2.2.2.2.2.2).bind fun bt1084 => ((laws_eqEvent.f k bt1084.1 bt1084.2.1 bt1084.2.2.1 bt1084.2.2.2.1 bt1084.2.2.2.2.1 bt1084.2.2.2.2.2.1 bt1084.2.2.2.2.2.2.1 t1056 t1057 t1058 t1061 t1064 t1065 t1066).bind fun t1100 => (if t1100 = true then ((laws_eqIntS.f k bt1084.2.2.2.2.2.2.2.1 t1067).bind fun t1101 => (if t1101 = true then (laws_FnExactRaise.j0 k t1067 t1070 bt1084.2.2.2.2.2.2.2.1 bt1084.2.2.2.2.2.2.2.2 (bt1084.2.2.2.2.2.2.2.2 != t1070) a0_0 a0_1 l0_2 l0_3 a0_4 a0_5 a0_6 t1056 t1057 t1058 t1061 t1064 t1065 t1066 bt1072.1 bt1072.2.1 bt1072.2.2.1 bt1072.2.2.2.1 bt1072.2.2.2.2.1 bt1072.2.2.2.2.2.1 bt1072.2.2.2.2.2.2 bt1084.1 bt1084.2.1 bt1084.2.2.1 bt1084.2.2.2.1 bt1084.2.2.2.2.1 bt1084.2.2.2.2.2.1 bt1084.2.2.2.2.2.2.1) else (laws_FnExactRaise.j0 k t1067 t1070 bt1084.2.2.2.2.2.2.2.1 bt1084.2.2.2.2.2.2.2.2 true a0_0 a0_1 l0_2 l0_3 a0_4 a0_5 a0_6 t1056 t1057 t1058 t1061 t1064 t1065 t1066 bt1072.1 bt1072.2.1 bt1072.2.2.1 bt1072.2.2.2.1 bt1072.2.2.2.2.1 bt1072.2.2.2.2.2.1 bt1072.2.2.2.2.2.2 bt1084.1 bt1084.2.1 bt1084.2.2.1 bt1084.2.2.2.1 bt1084.2.2.2.2.1 bt1084.2.2.2.2.2.1 bt1084.2.2.2.2.2.2.1))) else (laws_FnExactRaise.j0 k t1067 t1070 bt1084.2.2.2.2.2.2.2.1 bt1084.2.2.2.2.2.2.2.2 true a0_0 a0_1 l0_2 l0_3 a0_4 a0_5 a0_6 t1056 t1057 t1058 t1061 t1064 t1065 t1066 bt1072.1 bt1072.2.1 bt1072.2.2.1 bt1072.2.2.2.1 bt1072.2.2.2.2.1 bt1072.2.2.2.2.2.1 bt1072.2.2.2.2.2.2 bt1084.1 bt1084.2.1 bt1084.2.2.1 bt1084.2.2.2.1 bt1084.2.2.2.2.1 bt1084.2.2.2.2.2.1 bt1084.2.2.2.2.2.2.1))))) = some r := H
  have A8 := am A80
  clear A80
  replace H := Option.bind_eq_some_iff.mp H
  obtain ⟨⟨t1072, t1073, t1074, t1077, t1080, t1081, t1082⟩, A90, H⟩ := H
  replace H : ((impl_Raise.f k t1072 t1073 t1074 t1077 t1080 t1081 t1082).bind fun bt1084 => ((laws_eqEvent.f k bt1084.1 bt1084.2.1 bt1084.2.2.1 bt1084.2.2.2.1 bt1084.2.2.2.2.1 bt1084.2.2.2.2.2.1 bt1084.2.2.2.2.2.2.1 t1056 t1057 t1058 t1061 t1064 t1065 t1066).bind fun t1100 => (if t1100 = true then ((laws_eqIntS.f k bt1084.2.2.2.2.2.2.2.1 t1067).bind fun t1101 => (if t1101 = true then (laws_FnExactRaise.j0 k t1067 t1070 bt1084.2.2.2.2.2.2.2.1 bt1084.2.2.2.2.2.2.2.2 (bt1084.2.2.2.2.2.2.2.2 != t1070) a0_0 a0_1 l0_2 l0_3 a0_4 a0_5 a0_6 t1056 t1057 t1058 t1061 t1064 t1065 t1066 t1072 t1073 t1074 t1077 t1080 t1081 t1082 bt1084.1 bt1084.2.1 bt1084.2.2.1 bt1084.2.2.2.1 bt1084.2.2.2.2.1 bt1084.2.2.2.2.2.1 bt1084.2.2.2.2.2.2.1) else (laws_FnExactRaise.j0 k t1067 t1070 bt1084.2.2.2.2.2.2.2.1 bt1084.2.2.2.2.2.2.2.2 true a0_0 a0_1 l0_2 l0_3 a0_4 a0_5 a0_6 t1056 t1057 t1058 t1061 t1064 t1065 t1066 t1072 t1073 t1074 t1077 t1080 t1081 t1082 bt1084.1 bt1084.2.1 bt1084.2.2.1 bt1084.2.2.2.1 bt1084.2.2.2.2.1 bt1084.2.2.2.2.2.1 bt1084.2.2.2.2.2.2.1))) else (laws_FnExactRaise.j0 k t1067 t1070 bt1084.2.2.2.2.2.2.2.1 bt1084.2.2.2.2.2.2.2.2 true a0_0 a0_1 l0_2 l0_3 a0_4 a0_5 a0_6 t1056 t1057 t1058 t1061 t1064 t1065 t1066 t1072 t1073 t1074 t1077 t1080 t1081 t1082 bt1084.1 bt1084.2.1 bt1084.2.2.1 bt1084.2.2.2.1 bt1084.2.2.2.2.1 bt1084.2.2.2.2.2.1 bt1084.2.2.2.2.2.2.1)))) = some r := H
  have A9 := am A90
  clear A90
  replace H := Option.bind_eq_some_iff.mp H
  obtain ⟨⟨t1084, t1085, t1086, t1089, t1092, t1093, t1094, t1095, t1098⟩, A100, H⟩ := H
  replace H : ((laws_eqEvent.f k t1084 t1085 t1086 t1089 t1092 t1093 t1094 t1056 t1057 t1058 t1061 t1064 t1065 t1066).bind fun t1100 => (if t1100 = true then ((laws_eqIntS.f k t1095 t1067).bind fun t1101 => (if t1101 = true then (laws_FnExactRaise.j0 k t1067 t1070 t1095 t1098 (t1098 != t1070) a0_0 a0_1 l0_2 l0_3 a0_4 a0_5 a0_6 t1056 t1057 t1058 t1061 t1064 t1065 t1066 t1072 t1073 t1074 t1077 t1080 t1081 t1082 t1084 t1085 t1086 t1089 t1092 t1093 t1094) else (laws_FnExactRaise.j0 k t1067 t1070 t1095 t1098 true a0_0 a0_1 l0_2 l0_3 a0_4 a0_5 a0_6 t1056 t1057 t1058 t1061 t1064 t1065 t1066 t1072 t1073 t1074 t1077 t1080 t1081 t1082 t1084 t1085 t1086 t1089 t1092 t1093 t1094))) else (laws_FnExactRaise.j0 k t1067 t1070 t1095 t1098 true a0_0 a0_1 l0_2 l0_3 a0_4 a0_5 a0_6 t1056 t1057 t1058 t1061 t1064 t1065 t1066 t1072 t1073 t1074 t1077 t1080 t1081 t1082 t1084 t1085 t1086 t1089 t1092 t1093 t1094))) = some r := H
  have A10 := am A100
  clear A100
  have HC11 := am H
  clear H
  go_enter Try.func9, Try.ntmps9
  go_upto_region 8 with (first | ((with_reducible refine gate_dst (N := 1) rfl ?_); refine box_event ?hg (N := 1) ?hd (cs := #[.bool a0_0, .bool a0_1, .slice A0_2 l0_2.length c0_2, .slice A0_3 l0_3.length c0_3, .int .i64 a0_4, .int .i64 a0_5, .int .i64 a0_6]) (t := 24) ?hr ?_; (case hd => rfl); (case hg => rfl); (case hr => first | (go_simp; done) | (go_simp; rfl)); intro gb1043 hg w12 hbox hb; have BK1043 := am (hbox); have GW1043 := am ((by rw [hg]; exact (below_size (pkB HB.out)) : w.heap.size ≤ gb1043)); have GE1043 := am ((by rw [hg]; exact (below_size (pkB HB.out)) : w.heap.size ≤ gb1043)); replace HB := am (below_step (pkB HB.out) hb); clear hb hbox hg; obtain ⟨hcz13_0, hcz13_1, hcz13_2, hcz13_3, hcz13_4, hcz13_5, hcz13_6, hfz13_0, hfz13_1, hfz13_2, hfz13_3, hfz13_4, hfz13_5, hfz13_6⟩ := bk7 BK1043.out) | ((with_reducible refine gate_callee (f := 14) rfl ?_); refine goesL_ (some 19) rfl rfl Try.func14 (by kernel_rfl) rfl #[.agg #[.bool a0_0, .bool a0_1, .slice A0_2 l0_2.length c0_2, .slice A0_3 l0_3.length c0_3, .int .i64 a0_4, .int .i64 a0_5, .int .i64 a0_6], .int .i64 1048576] rfl mpx ?_; (with_reducible refine (laws_szEvent.calls a0_0 a0_1 _ _ l0_2 _ _ l0_3 a0_4 a0_5 a0_6 1048576 t1044 _ ?side1 ?side2 ?side3 ?side4 A2.out).mono ?_); (case side1 => exact pkC (Kd.C_below HR0_2.out HB.out)); (case side2 => exact HC0_2.out); (case side3 => exact pkC (Kd.C_below HR0_3.out HB.out)); (case side4 => exact HC0_3.out); rintro e w14 ⟨rfl, hb⟩; refine ⟨_, rfl, ?_⟩; replace BK1043 := am (blk_below (pkK BK1043.out) hb); replace HB := am (below_step (pkW HB.out) hb); (try clear hb); obtain ⟨hcz15_0, hcz15_1, hcz15_2, hcz15_3, hcz15_4, hcz15_5, hcz15_6, hfz15_0, hfz15_1, hfz15_2, hfz15_3, hfz15_4, hfz15_5, hfz15_6⟩ := bk7 BK1043.out) | ((with_reducible refine gate_callee (f := 16) rfl ?_); refine goesL_ (some 24) rfl rfl Try.func16 (by kernel_rfl) rfl #[.agg #[.bool a0_0, .bool a0_1, .slice A0_2 l0_2.length c0_2, .slice A0_3 l0_3.length c0_3, .int .i64 a0_4, .int .i64 a0_5, .int .i64 a0_6]] rfl mpx ?_; (with_reducible refine (laws_toEvent.calls k a0_0 a0_1 _ _ l0_2 _ _ l0_3 a0_4 a0_5 a0_6 t1045 t1046 t1047 t1050 t1053 t1054 t1055 _ ?side1 ?side2 ?side3 ?side4 A7.out).mono ?_); (case side1 => exact pkC (Kd.C_below HR0_2.out HB.out)); (case side2 => exact HC0_2.out); (case side3 => exact pkC (Kd.C_below HR0_3.out HB.out)); (case side4 => exact HC0_3.out); rintro e w16 ⟨v1048, v1051, rfl, ho0, ho1, hb⟩; refine ⟨_, rfl, ?_⟩; have HO1049 := am (Kd.R_lower ho0 (below_size (pkW HB.out))); have HO1052 := am (Kd.R_lower ho1 (below_size (pkW HB.out))); replace BK1043 := am (blk_below (pkK BK1043.out) hb); replace HB := am (below_step (pkW HB.out) hb); (try clear hb ho0 ho1); obtain ⟨Ao17, co17, eo17⟩ := Kd.R_slice HO1049.out; subst eo17; obtain ⟨Ao18, co18, eo18⟩ := Kd.R_slice HO1052.out; subst eo18) | ((with_reducible refine gate_callee (f := 39) rfl ?_); refine goesL_ (some 25) rfl rfl Try.func39 (by kernel_rfl) rfl #[.agg #[.bool t1045, .bool t1046, .slice Ao17 t1047.length co17, .slice Ao18 t1050.length co18, .int .i64 t1053, .int .i64 t1054, .int .i64 t1055]] rfl mpx ?_; (with_reducible refine (spec_Raise.calls k t1045 t1046 _ _ t1047 _ _ t1050 t1053 t1054 t1055 t1056 t1057 t1058 t1061 t1064 t1065 t1066 t1067 t1070 _ ?side1 ?side2 ?side3 ?side4 A8.out).mono ?_); (case side1 => exact pkC (Kd.R_reads' HO1049.out).2.2); (case side2 => exact (Kd.R_reads' HO1049.out).2.1); (case side3 => exact pkC (Kd.R_reads' HO1052.out).2.2); (case side4 => exact (Kd.R_reads' HO1052.out).2.1); rintro e w19 ⟨v1059, v1062, v1068, rfl, ho0, ho1, ho2, hb⟩; refine ⟨_, rfl, ?_⟩; have HO1060 := am (Kd.R_lower (Kd.R_new' (Kd.R_new' ho0 (Kd.R_lt (pkR HO1049.out))) (Kd.R_lt (pkR HO1052.out))) (below_size (pkW HB.out))); have HO1063 := am (Kd.R_lower (Kd.R_new' (Kd.R_new' ho1 (Kd.R_lt (pkR HO1049.out))) (Kd.R_lt (pkR HO1052.out))) (below_size (pkW HB.out))); have HO1069 := am (Kd.R_lower (Kd.R_new' (Kd.R_new' ho2 (Kd.R_lt (pkR HO1049.out))) (Kd.R_lt (pkR HO1052.out))) (below_size (pkW HB.out))); replace HO1049 := am (Kd.R_mono (Kd.R_told (Kd.R_told (Kd.R_told (Kd.R_old (pkR HO1049.out) hb) (Kd.R_base ho0)) (Kd.R_base ho1)) (Kd.R_base ho2)) (fun _ h_ => h_.1)); replace HO1052 := am (Kd.R_mono (Kd.R_told (Kd.R_told (Kd.R_told (Kd.R_old (pkR HO1052.out) hb) (Kd.R_base ho0)) (Kd.R_base ho1)) (Kd.R_base ho2)) (fun _ h_ => h_.1)); replace BK1043 := am (blk_below (pkK BK1043.out) hb); replace HB := am (below_step (pkW HB.out) hb); (try clear hb ho0 ho1 ho2)) | ((with_reducible refine gate_dst (N := 4) rfl ?_); refine box_event ?hg (N := 4) ?hd (cs := #[.bool false, .bool false, .slice none 0 0, .slice none 0 0, .int .i64 0, .int .i64 0, .int .i64 0]) (t := 27) ?hr ?_; (case hd => rfl); (case hg => rfl); (case hr => first | (go_simp; done) | (go_simp; rfl)); intro gb1071 hg w20 hbox hb; replace HO1049 := am (Kd.R_below (pkR HO1049.out) hb); replace HO1052 := am (Kd.R_below (pkR HO1052.out) hb); replace HO1060 := am (Kd.R_below (pkR HO1060.out) hb); replace HO1063 := am (Kd.R_below (pkR HO1063.out) hb); replace HO1069 := am (Kd.R_below (pkR HO1069.out) hb); have BK1071 := am (hbox); have GW1071 := am ((by rw [hg]; exact (below_size (pkW HB.out)) : w.heap.size ≤ gb1071)); have GE1071 := am ((by rw [hg]; exact (below_size (pkW HB.out)) : w.heap.size ≤ gb1071)); replace HB := am (below_step (pkW HB.out) hb); have NB1043_1071 := am ((by rw [hg]; exact Nat.ne_of_lt (blk_lt (g := gb1043) (o := .cells #[.bool a0_0, .bool a0_1, .slice A0_2 l0_2.length c0_2, .slice A0_3 l0_3.length c0_3, .int .i64 a0_4, .int .i64 a0_5, .int .i64 a0_6] 24 (0, 0)) (pkK BK1043.out)) : gb1043 ≠ gb1071)); have NB1071_1043 := am ((by rw [hg]; exact Nat.ne_of_gt (blk_lt (g := gb1043) (o := .cells #[.bool a0_0, .bool a0_1, .slice A0_2 l0_2.length c0_2, .slice A0_3 l0_3.length c0_3, .int .i64 a0_4, .int .i64 a0_5, .int .i64 a0_6] 24 (0, 0)) (pkK BK1043.out)) : gb1071 ≠ gb1043)); replace BK1043 := am (blk_below (pkK BK1043.out) hb); clear hb hbox hg; have hnb21 := NB1071_1043.out; have hnc21 := NB1043_1071.out; obtain ⟨hcz22_0, hcz22_1, hcz22_2, hcz22_3, hcz22_4, hcz22_5, hcz22_6, hfz22_0, hfz22_1, hfz22_2, hfz22_3, hfz22_4, hfz22_5, hfz22_6⟩ := bk7 BK1071.out; obtain ⟨Ao23, co23, eo23⟩ := Kd.R_slice HO1060.out; subst eo23; obtain ⟨Ao24, co24, eo24⟩ := Kd.R_slice HO1063.out; subst eo24; obtain ⟨hcz25_0, hcz25_1, hcz25_2, hcz25_3, hcz25_4, hcz25_5, hcz25_6, hfz25_0, hfz25_1, hfz25_2, hfz25_3, hfz25_4, hfz25_5, hfz25_6⟩ := bk7 BK1043.out) | ((with_reducible refine gate_callee (f := 16) rfl ?_); refine goesL_ (some 30) rfl rfl Try.func16 (by kernel_rfl) rfl #[.agg #[.bool a0_0, .bool a0_1, .slice A0_2 l0_2.length c0_2, .slice A0_3 l0_3.length c0_3, .int .i64 a0_4, .int .i64 a0_5, .int .i64 a0_6]] rfl mpx ?_; (with_reducible refine (laws_toEvent.calls k a0_0 a0_1 _ _ l0_2 _ _ l0_3 a0_4 a0_5 a0_6 t1072 t1073 t1074 t1077 t1080 t1081 t1082 _ ?side1 ?side2 ?side3 ?side4 A9.out).mono ?_); (case side1 => exact Kd.C_below HR0_2.out (pkW HB.out)); (case side2 => exact HC0_2.out); (case side3 => exact Kd.C_below HR0_3.out (pkW HB.out)); (case side4 => exact HC0_3.out); rintro e w26 ⟨v1075, v1078, rfl, ho0, ho1, hb⟩; refine ⟨_, rfl, ?_⟩; have HO1076 := am (Kd.R_lower (Kd.R_new' (Kd.R_new' (Kd.R_new' (Kd.R_new' (Kd.R_new' ho0 (Kd.R_lt (by (with_reducible repeat (first | apply Kd.R_alloc | apply Kd.R_drewN | apply Kd.R_drew)); exact (Kd.R_mono (Kd.R_far (p := ⟨gb1071, 6, none⟩) (Kd.R_far (p := ⟨gb1071, 5, none⟩) (Kd.R_far (p := ⟨gb1071, 4, none⟩) (Kd.R_far (p := ⟨gb1071, 3, none⟩) (Kd.R_far (p := ⟨gb1071, 2, none⟩) (Kd.R_far (p := ⟨gb1071, 1, none⟩) (Kd.R_far (p := ⟨gb1071, 0, none⟩) (Kd.R_types HO1049.out BK1071.out (by decide)) (fun _ hk => hk.2) (.bool t1056)) (fun _ hk => hk.2) (.bool t1057)) (fun _ hk => hk.2) (.slice Ao23 t1058.length co23)) (fun _ hk => hk.2) (.slice Ao24 t1061.length co24)) (fun _ hk => hk.2) (.int .i64 t1064)) (fun _ hk => hk.2) (.int .i64 t1065)) (fun _ hk => hk.2) (.int .i64 t1066)) (fun _ h_ => h_.1))))) (Kd.R_lt (by (with_reducible repeat (first | apply Kd.R_alloc | apply Kd.R_drewN | apply Kd.R_drew)); exact (Kd.R_mono (Kd.R_far (p := ⟨gb1071, 6, none⟩) (Kd.R_far (p := ⟨gb1071, 5, none⟩) (Kd.R_far (p := ⟨gb1071, 4, none⟩) (Kd.R_far (p := ⟨gb1071, 3, none⟩) (Kd.R_far (p := ⟨gb1071, 2, none⟩) (Kd.R_far (p := ⟨gb1071, 1, none⟩) (Kd.R_far (p := ⟨gb1071, 0, none⟩) (Kd.R_types HO1052.out BK1071.out (by decide)) (fun _ hk => hk.2) (.bool t1056)) (fun _ hk => hk.2) (.bool t1057)) (fun _ hk => hk.2) (.slice Ao23 t1058.length co23)) (fun _ hk => hk.2) (.slice Ao24 t1061.length co24)) (fun _ hk => hk.2) (.int .i64 t1064)) (fun _ hk => hk.2) (.int .i64 t1065)) (fun _ hk => hk.2) (.int .i64 t1066)) (fun _ h_ => h_.1))))) (Kd.R_lt (by (with_reducible repeat (first | apply Kd.R_alloc | apply Kd.R_drewN | apply Kd.R_drew)); exact (Kd.R_mono (Kd.R_far (p := ⟨gb1071, 6, none⟩) (Kd.R_far (p := ⟨gb1071, 5, none⟩) (Kd.R_far (p := ⟨gb1071, 4, none⟩) (Kd.R_far (p := ⟨gb1071, 3, none⟩) (Kd.R_far (p := ⟨gb1071, 2, none⟩) (Kd.R_far (p := ⟨gb1071, 1, none⟩) (Kd.R_far (p := ⟨gb1071, 0, none⟩) (Kd.R_types HO1060.out BK1071.out (by decide)) (fun _ hk => hk.2) (.bool t1056)) (fun _ hk => hk.2) (.bool t1057)) (fun _ hk => hk.2) (.slice Ao23 t1058.length co23)) (fun _ hk => hk.2) (.slice Ao24 t1061.length co24)) (fun _ hk => hk.2) (.int .i64 t1064)) (fun _ hk => hk.2) (.int .i64 t1065)) (fun _ hk => hk.2) (.int .i64 t1066)) (fun _ h_ => h_.1))))) (Kd.R_lt (by (with_reducible repeat (first | apply Kd.R_alloc | apply Kd.R_drewN | apply Kd.R_drew)); exact (Kd.R_mono (Kd.R_far (p := ⟨gb1071, 6, none⟩) (Kd.R_far (p := ⟨gb1071, 5, none⟩) (Kd.R_far (p := ⟨gb1071, 4, none⟩) (Kd.R_far (p := ⟨gb1071, 3, none⟩) (Kd.R_far (p := ⟨gb1071, 2, none⟩) (Kd.R_far (p := ⟨gb1071, 1, none⟩) (Kd.R_far (p := ⟨gb1071, 0, none⟩) (Kd.R_types HO1063.out BK1071.out (by decide)) (fun _ hk => hk.2) (.bool t1056)) (fun _ hk => hk.2) (.bool t1057)) (fun _ hk => hk.2) (.slice Ao23 t1058.length co23)) (fun _ hk => hk.2) (.slice Ao24 t1061.length co24)) (fun _ hk => hk.2) (.int .i64 t1064)) (fun _ hk => hk.2) (.int .i64 t1065)) (fun _ hk => hk.2) (.int .i64 t1066)) (fun _ h_ => h_.1))))) (Kd.R_lt (by (with_reducible repeat (first | apply Kd.R_alloc | apply Kd.R_drewN | apply Kd.R_drew)); exact (Kd.R_mono (Kd.R_far (p := ⟨gb1071, 6, none⟩) (Kd.R_far (p := ⟨gb1071, 5, none⟩) (Kd.R_far (p := ⟨gb1071, 4, none⟩) (Kd.R_far (p := ⟨gb1071, 3, none⟩) (Kd.R_far (p := ⟨gb1071, 2, none⟩) (Kd.R_far (p := ⟨gb1071, 1, none⟩) (Kd.R_far (p := ⟨gb1071, 0, none⟩) (Kd.R_types HO1069.out BK1071.out (by decide)) (fun _ hk => hk.2) (.bool t1056)) (fun _ hk => hk.2) (.bool t1057)) (fun _ hk => hk.2) (.slice Ao23 t1058.length co23)) (fun _ hk => hk.2) (.slice Ao24 t1061.length co24)) (fun _ hk => hk.2) (.int .i64 t1064)) (fun _ hk => hk.2) (.int .i64 t1065)) (fun _ hk => hk.2) (.int .i64 t1066)) (fun _ h_ => h_.1))))) (below_size (pkW HB.out))); have HO1079 := am (Kd.R_lower (Kd.R_new' (Kd.R_new' (Kd.R_new' (Kd.R_new' (Kd.R_new' ho1 (Kd.R_lt (by (with_reducible repeat (first | apply Kd.R_alloc | apply Kd.R_drewN | apply Kd.R_drew)); exact (Kd.R_mono (Kd.R_far (p := ⟨gb1071, 6, none⟩) (Kd.R_far (p := ⟨gb1071, 5, none⟩) (Kd.R_far (p := ⟨gb1071, 4, none⟩) (Kd.R_far (p := ⟨gb1071, 3, none⟩) (Kd.R_far (p := ⟨gb1071, 2, none⟩) (Kd.R_far (p := ⟨gb1071, 1, none⟩) (Kd.R_far (p := ⟨gb1071, 0, none⟩) (Kd.R_types HO1049.out BK1071.out (by decide)) (fun _ hk => hk.2) (.bool t1056)) (fun _ hk => hk.2) (.bool t1057)) (fun _ hk => hk.2) (.slice Ao23 t1058.length co23)) (fun _ hk => hk.2) (.slice Ao24 t1061.length co24)) (fun _ hk => hk.2) (.int .i64 t1064)) (fun _ hk => hk.2) (.int .i64 t1065)) (fun _ hk => hk.2) (.int .i64 t1066)) (fun _ h_ => h_.1))))) (Kd.R_lt (by (with_reducible repeat (first | apply Kd.R_alloc | apply Kd.R_drewN | apply Kd.R_drew)); exact (Kd.R_mono (Kd.R_far (p := ⟨gb1071, 6, none⟩) (Kd.R_far (p := ⟨gb1071, 5, none⟩) (Kd.R_far (p := ⟨gb1071, 4, none⟩) (Kd.R_far (p := ⟨gb1071, 3, none⟩) (Kd.R_far (p := ⟨gb1071, 2, none⟩) (Kd.R_far (p := ⟨gb1071, 1, none⟩) (Kd.R_far (p := ⟨gb1071, 0, none⟩) (Kd.R_types HO1052.out BK1071.out (by decide)) (fun _ hk => hk.2) (.bool t1056)) (fun _ hk => hk.2) (.bool t1057)) (fun _ hk => hk.2) (.slice Ao23 t1058.length co23)) (fun _ hk => hk.2) (.slice Ao24 t1061.length co24)) (fun _ hk => hk.2) (.int .i64 t1064)) (fun _ hk => hk.2) (.int .i64 t1065)) (fun _ hk => hk.2) (.int .i64 t1066)) (fun _ h_ => h_.1))))) (Kd.R_lt (by (with_reducible repeat (first | apply Kd.R_alloc | apply Kd.R_drewN | apply Kd.R_drew)); exact (Kd.R_mono (Kd.R_far (p := ⟨gb1071, 6, none⟩) (Kd.R_far (p := ⟨gb1071, 5, none⟩) (Kd.R_far (p := ⟨gb1071, 4, none⟩) (Kd.R_far (p := ⟨gb1071, 3, none⟩) (Kd.R_far (p := ⟨gb1071, 2, none⟩) (Kd.R_far (p := ⟨gb1071, 1, none⟩) (Kd.R_far (p := ⟨gb1071, 0, none⟩) (Kd.R_types HO1060.out BK1071.out (by decide)) (fun _ hk => hk.2) (.bool t1056)) (fun _ hk => hk.2) (.bool t1057)) (fun _ hk => hk.2) (.slice Ao23 t1058.length co23)) (fun _ hk => hk.2) (.slice Ao24 t1061.length co24)) (fun _ hk => hk.2) (.int .i64 t1064)) (fun _ hk => hk.2) (.int .i64 t1065)) (fun _ hk => hk.2) (.int .i64 t1066)) (fun _ h_ => h_.1))))) (Kd.R_lt (by (with_reducible repeat (first | apply Kd.R_alloc | apply Kd.R_drewN | apply Kd.R_drew)); exact (Kd.R_mono (Kd.R_far (p := ⟨gb1071, 6, none⟩) (Kd.R_far (p := ⟨gb1071, 5, none⟩) (Kd.R_far (p := ⟨gb1071, 4, none⟩) (Kd.R_far (p := ⟨gb1071, 3, none⟩) (Kd.R_far (p := ⟨gb1071, 2, none⟩) (Kd.R_far (p := ⟨gb1071, 1, none⟩) (Kd.R_far (p := ⟨gb1071, 0, none⟩) (Kd.R_types HO1063.out BK1071.out (by decide)) (fun _ hk => hk.2) (.bool t1056)) (fun _ hk => hk.2) (.bool t1057)) (fun _ hk => hk.2) (.slice Ao23 t1058.length co23)) (fun _ hk => hk.2) (.slice Ao24 t1061.length co24)) (fun _ hk => hk.2) (.int .i64 t1064)) (fun _ hk => hk.2) (.int .i64 t1065)) (fun _ hk => hk.2) (.int .i64 t1066)) (fun _ h_ => h_.1))))) (Kd.R_lt (by (with_reducible repeat (first | apply Kd.R_alloc | apply Kd.R_drewN | apply Kd.R_drew)); exact (Kd.R_mono (Kd.R_far (p := ⟨gb1071, 6, none⟩) (Kd.R_far (p := ⟨gb1071, 5, none⟩) (Kd.R_far (p := ⟨gb1071, 4, none⟩) (Kd.R_far (p := ⟨gb1071, 3, none⟩) (Kd.R_far (p := ⟨gb1071, 2, none⟩) (Kd.R_far (p := ⟨gb1071, 1, none⟩) (Kd.R_far (p := ⟨gb1071, 0, none⟩) (Kd.R_types HO1069.out BK1071.out (by decide)) (fun _ hk => hk.2) (.bool t1056)) (fun _ hk => hk.2) (.bool t1057)) (fun _ hk => hk.2) (.slice Ao23 t1058.length co23)) (fun _ hk => hk.2) (.slice Ao24 t1061.length co24)) (fun _ hk => hk.2) (.int .i64 t1064)) (fun _ hk => hk.2) (.int .i64 t1065)) (fun _ hk => hk.2) (.int .i64 t1066)) (fun _ h_ => h_.1))))) (below_size (pkW HB.out))); replace HO1049 := am (Kd.R_mono (Kd.R_told (Kd.R_told (Kd.R_old (by (with_reducible repeat (first | apply Kd.R_alloc | apply Kd.R_drewN | apply Kd.R_drew)); exact (Kd.R_mono (Kd.R_far (p := ⟨gb1071, 6, none⟩) (Kd.R_far (p := ⟨gb1071, 5, none⟩) (Kd.R_far (p := ⟨gb1071, 4, none⟩) (Kd.R_far (p := ⟨gb1071, 3, none⟩) (Kd.R_far (p := ⟨gb1071, 2, none⟩) (Kd.R_far (p := ⟨gb1071, 1, none⟩) (Kd.R_far (p := ⟨gb1071, 0, none⟩) (Kd.R_types HO1049.out BK1071.out (by decide)) (fun _ hk => hk.2) (.bool t1056)) (fun _ hk => hk.2) (.bool t1057)) (fun _ hk => hk.2) (.slice Ao23 t1058.length co23)) (fun _ hk => hk.2) (.slice Ao24 t1061.length co24)) (fun _ hk => hk.2) (.int .i64 t1064)) (fun _ hk => hk.2) (.int .i64 t1065)) (fun _ hk => hk.2) (.int .i64 t1066)) (fun _ h_ => h_.1))) hb) (Kd.R_base ho0)) (Kd.R_base ho1)) (fun _ h_ => h_.1)); replace HO1052 := am (Kd.R_mono (Kd.R_told (Kd.R_told (Kd.R_old (by (with_reducible repeat (first | apply Kd.R_alloc | apply Kd.R_drewN | apply Kd.R_drew)); exact (Kd.R_mono (Kd.R_far (p := ⟨gb1071, 6, none⟩) (Kd.R_far (p := ⟨gb1071, 5, none⟩) (Kd.R_far (p := ⟨gb1071, 4, none⟩) (Kd.R_far (p := ⟨gb1071, 3, none⟩) (Kd.R_far (p := ⟨gb1071, 2, none⟩) (Kd.R_far (p := ⟨gb1071, 1, none⟩) (Kd.R_far (p := ⟨gb1071, 0, none⟩) (Kd.R_types HO1052.out BK1071.out (by decide)) (fun _ hk => hk.2) (.bool t1056)) (fun _ hk => hk.2) (.bool t1057)) (fun _ hk => hk.2) (.slice Ao23 t1058.length co23)) (fun _ hk => hk.2) (.slice Ao24 t1061.length co24)) (fun _ hk => hk.2) (.int .i64 t1064)) (fun _ hk => hk.2) (.int .i64 t1065)) (fun _ hk => hk.2) (.int .i64 t1066)) (fun _ h_ => h_.1))) hb) (Kd.R_base ho0)) (Kd.R_base ho1)) (fun _ h_ => h_.1)); replace HO1060 := am (Kd.R_mono (Kd.R_told (Kd.R_told (Kd.R_old (by (with_reducible repeat (first | apply Kd.R_alloc | apply Kd.R_drewN | apply Kd.R_drew)); exact (Kd.R_mono (Kd.R_far (p := ⟨gb1071, 6, none⟩) (Kd.R_far (p := ⟨gb1071, 5, none⟩) (Kd.R_far (p := ⟨gb1071, 4, none⟩) (Kd.R_far (p := ⟨gb1071, 3, none⟩) (Kd.R_far (p := ⟨gb1071, 2, none⟩) (Kd.R_far (p := ⟨gb1071, 1, none⟩) (Kd.R_far (p := ⟨gb1071, 0, none⟩) (Kd.R_types HO1060.out BK1071.out (by decide)) (fun _ hk => hk.2) (.bool t1056)) (fun _ hk => hk.2) (.bool t1057)) (fun _ hk => hk.2) (.slice Ao23 t1058.length co23)) (fun _ hk => hk.2) (.slice Ao24 t1061.length co24)) (fun _ hk => hk.2) (.int .i64 t1064)) (fun _ hk => hk.2) (.int .i64 t1065)) (fun _ hk => hk.2) (.int .i64 t1066)) (fun _ h_ => h_.1))) hb) (Kd.R_base ho0)) (Kd.R_base ho1)) (fun _ h_ => h_.1)); replace HO1063 := am (Kd.R_mono (Kd.R_told (Kd.R_told (Kd.R_old (by (with_reducible repeat (first | apply Kd.R_alloc | apply Kd.R_drewN | apply Kd.R_drew)); exact (Kd.R_mono (Kd.R_far (p := ⟨gb1071, 6, none⟩) (Kd.R_far (p := ⟨gb1071, 5, none⟩) (Kd.R_far (p := ⟨gb1071, 4, none⟩) (Kd.R_far (p := ⟨gb1071, 3, none⟩) (Kd.R_far (p := ⟨gb1071, 2, none⟩) (Kd.R_far (p := ⟨gb1071, 1, none⟩) (Kd.R_far (p := ⟨gb1071, 0, none⟩) (Kd.R_types HO1063.out BK1071.out (by decide)) (fun _ hk => hk.2) (.bool t1056)) (fun _ hk => hk.2) (.bool t1057)) (fun _ hk => hk.2) (.slice Ao23 t1058.length co23)) (fun _ hk => hk.2) (.slice Ao24 t1061.length co24)) (fun _ hk => hk.2) (.int .i64 t1064)) (fun _ hk => hk.2) (.int .i64 t1065)) (fun _ hk => hk.2) (.int .i64 t1066)) (fun _ h_ => h_.1))) hb) (Kd.R_base ho0)) (Kd.R_base ho1)) (fun _ h_ => h_.1)); replace HO1069 := am (Kd.R_mono (Kd.R_told (Kd.R_told (Kd.R_old (by (with_reducible repeat (first | apply Kd.R_alloc | apply Kd.R_drewN | apply Kd.R_drew)); exact (Kd.R_mono (Kd.R_far (p := ⟨gb1071, 6, none⟩) (Kd.R_far (p := ⟨gb1071, 5, none⟩) (Kd.R_far (p := ⟨gb1071, 4, none⟩) (Kd.R_far (p := ⟨gb1071, 3, none⟩) (Kd.R_far (p := ⟨gb1071, 2, none⟩) (Kd.R_far (p := ⟨gb1071, 1, none⟩) (Kd.R_far (p := ⟨gb1071, 0, none⟩) (Kd.R_types HO1069.out BK1071.out (by decide)) (fun _ hk => hk.2) (.bool t1056)) (fun _ hk => hk.2) (.bool t1057)) (fun _ hk => hk.2) (.slice Ao23 t1058.length co23)) (fun _ hk => hk.2) (.slice Ao24 t1061.length co24)) (fun _ hk => hk.2) (.int .i64 t1064)) (fun _ hk => hk.2) (.int .i64 t1065)) (fun _ hk => hk.2) (.int .i64 t1066)) (fun _ h_ => h_.1))) hb) (Kd.R_base ho0)) (Kd.R_base ho1)) (fun _ h_ => h_.1)); replace BK1043 := am (blk_below (g := gb1043) (o := .cells #[.bool a0_0, .bool a0_1, .slice A0_2 l0_2.length c0_2, .slice A0_3 l0_3.length c0_3, .int .i64 a0_4, .int .i64 a0_5, .int .i64 a0_6] 24 (0, 0)) (by (with_reducible repeat (first | refine blk_drewN ?_ _ | refine blk_drew ?_ | refine blk_alloc ?_ _)); refine blk_far ?_ NB1043_1071.out _; (with_reducible repeat (first | refine blk_drewN ?_ _ | refine blk_drew ?_ | refine blk_alloc ?_ _)); refine blk_far ?_ NB1043_1071.out _; (with_reducible repeat (first | refine blk_drewN ?_ _ | refine blk_drew ?_ | refine blk_alloc ?_ _)); refine blk_far ?_ NB1043_1071.out _; (with_reducible repeat (first | refine blk_drewN ?_ _ | refine blk_drew ?_ | refine blk_alloc ?_ _)); refine blk_far ?_ NB1043_1071.out _; (with_reducible repeat (first | refine blk_drewN ?_ _ | refine blk_drew ?_ | refine blk_alloc ?_ _)); refine blk_far ?_ NB1043_1071.out _; (with_reducible repeat (first | refine blk_drewN ?_ _ | refine blk_drew ?_ | refine blk_alloc ?_ _)); refine blk_far ?_ NB1043_1071.out _; (with_reducible repeat (first | refine blk_drewN ?_ _ | refine blk_drew ?_ | refine blk_alloc ?_ _)); refine blk_far ?_ NB1043_1071.out _; exact pkK BK1043.out) hb); replace BK1071 := am (blk_below (g := gb1071) (o := .cells #[.bool t1056, .bool t1057, .slice Ao23 t1058.length co23, .slice Ao24 t1061.length co24, .int .i64 t1064, .int .i64 t1065, .int .i64 t1066] 27 (0, 0)) (by (with_reducible repeat (first | refine blk_drewN ?_ _ | refine blk_drew ?_ | refine blk_alloc ?_ _)); refine blk_put (cs := #[.bool t1056, .bool t1057, .slice Ao23 t1058.length co23, .slice Ao24 t1061.length co24, .int .i64 t1064, .int .i64 t1065, .int .i64 0]) ?_ 6 _ rfl; (with_reducible repeat (first | refine blk_drewN ?_ _ | refine blk_drew ?_ | refine blk_alloc ?_ _)); refine blk_put (cs := #[.bool t1056, .bool t1057, .slice Ao23 t1058.length co23, .slice Ao24 t1061.length co24, .int .i64 t1064, .int .i64 0, .int .i64 0]) ?_ 5 _ rfl; (with_reducible repeat (first | refine blk_drewN ?_ _ | refine blk_drew ?_ | refine blk_alloc ?_ _)); refine blk_put (cs := #[.bool t1056, .bool t1057, .slice Ao23 t1058.length co23, .slice Ao24 t1061.length co24, .int .i64 0, .int .i64 0, .int .i64 0]) ?_ 4 _ rfl; (with_reducible repeat (first | refine blk_drewN ?_ _ | refine blk_drew ?_ | refine blk_alloc ?_ _)); refine blk_put (cs := #[.bool t1056, .bool t1057, .slice Ao23 t1058.length co23, .slice none 0 0, .int .i64 0, .int .i64 0, .int .i64 0]) ?_ 3 _ rfl; (with_reducible repeat (first | refine blk_drewN ?_ _ | refine blk_drew ?_ | refine blk_alloc ?_ _)); refine blk_put (cs := #[.bool t1056, .bool t1057, .slice none 0 0, .slice none 0 0, .int .i64 0, .int .i64 0, .int .i64 0]) ?_ 2 _ rfl; (with_reducible repeat (first | refine blk_drewN ?_ _ | refine blk_drew ?_ | refine blk_alloc ?_ _)); refine blk_put (cs := #[.bool t1056, .bool false, .slice none 0 0, .slice none 0 0, .int .i64 0, .int .i64 0, .int .i64 0]) ?_ 1 _ rfl; (with_reducible repeat (first | refine blk_drewN ?_ _ | refine blk_drew ?_ | refine blk_alloc ?_ _)); refine blk_put (cs := #[.bool false, .bool false, .slice none 0 0, .slice none 0 0, .int .i64 0, .int .i64 0, .int .i64 0]) ?_ 0 _ rfl; exact pkK BK1071.out) hb); replace HB := am (below_step (pkW HB.out) hb); (try clear hb ho0 ho1)) | ((with_reducible refine gate_dst (N := 7) rfl ?_); refine box_event ?hg (N := 7) ?hd (cs := #[.bool false, .bool false, .slice none 0 0, .slice none 0 0, .int .i64 0, .int .i64 0, .int .i64 0]) (t := 27) ?hr ?_; (case hd => rfl); (case hg => rfl); (case hr => first | (go_simp; done) | (go_simp; rfl)); intro gb1083 hg w27 hbox hb; replace HO1049 := am (Kd.R_below (pkR HO1049.out) hb); replace HO1052 := am (Kd.R_below (pkR HO1052.out) hb); replace HO1060 := am (Kd.R_below (pkR HO1060.out) hb); replace HO1063 := am (Kd.R_below (pkR HO1063.out) hb); replace HO1069 := am (Kd.R_below (pkR HO1069.out) hb); replace HO1076 := am (Kd.R_below (pkR HO1076.out) hb); replace HO1079 := am (Kd.R_below (pkR HO1079.out) hb); have BK1083 := am (hbox); have GW1083 := am ((by rw [hg]; exact (below_size (pkW HB.out)) : w.heap.size ≤ gb1083)); have GE1083 := am ((by rw [hg]; exact (below_size (pkW HB.out)) : w.heap.size ≤ gb1083)); replace HB := am (below_step (pkW HB.out) hb); have NB1043_1083 := am ((by rw [hg]; exact Nat.ne_of_lt (blk_lt (g := gb1043) (o := .cells #[.bool a0_0, .bool a0_1, .slice A0_2 l0_2.length c0_2, .slice A0_3 l0_3.length c0_3, .int .i64 a0_4, .int .i64 a0_5, .int .i64 a0_6] 24 (0, 0)) (pkK BK1043.out)) : gb1043 ≠ gb1083)); have NB1083_1043 := am ((by rw [hg]; exact Nat.ne_of_gt (blk_lt (g := gb1043) (o := .cells #[.bool a0_0, .bool a0_1, .slice A0_2 l0_2.length c0_2, .slice A0_3 l0_3.length c0_3, .int .i64 a0_4, .int .i64 a0_5, .int .i64 a0_6] 24 (0, 0)) (pkK BK1043.out)) : gb1083 ≠ gb1043)); replace BK1043 := am (blk_below (pkK BK1043.out) hb); have NB1071_1083 := am ((by rw [hg]; exact Nat.ne_of_lt (blk_lt (g := gb1071) (o := .cells #[.bool t1056, .bool t1057, .slice Ao23 t1058.length co23, .slice Ao24 t1061.length co24, .int .i64 t1064, .int .i64 t1065, .int .i64 t1066] 27 (0, 0)) (pkK BK1071.out)) : gb1071 ≠ gb1083)); have NB1083_1071 := am ((by rw [hg]; exact Nat.ne_of_gt (blk_lt (g := gb1071) (o := .cells #[.bool t1056, .bool t1057, .slice Ao23 t1058.length co23, .slice Ao24 t1061.length co24, .int .i64 t1064, .int .i64 t1065, .int .i64 t1066] 27 (0, 0)) (pkK BK1071.out)) : gb1083 ≠ gb1071)); replace BK1071 := am (blk_below (pkK BK1071.out) hb); clear hb hbox hg; have hnb28 := NB1083_1043.out; have hnc28 := NB1043_1083.out; have hnb29 := NB1083_1071.out; have hnc29 := NB1071_1083.out; obtain ⟨hcz30_0, hcz30_1, hcz30_2, hcz30_3, hcz30_4, hcz30_5, hcz30_6, hfz30_0, hfz30_1, hfz30_2, hfz30_3, hfz30_4, hfz30_5, hfz30_6⟩ := bk7 BK1083.out; obtain ⟨Ao31, co31, eo31⟩ := Kd.R_slice HO1076.out; subst eo31; obtain ⟨Ao32, co32, eo32⟩ := Kd.R_slice HO1079.out; subst eo32) | ((with_reducible refine gate_callee (f := 40) rfl ?_); refine goesL_ (some 33) rfl rfl Try.func40 (by kernel_rfl) rfl #[.agg #[.bool t1072, .bool t1073, .slice Ao31 t1074.length co31, .slice Ao32 t1077.length co32, .int .i64 t1080, .int .i64 t1081, .int .i64 t1082]] rfl mpx ?_; (with_reducible refine (impl_Raise.calls k t1072 t1073 _ _ t1074 _ _ t1077 t1080 t1081 t1082 t1084 t1085 t1086 t1089 t1092 t1093 t1094 t1095 t1098 _ ?side1 ?side2 ?side3 ?side4 A10.out).mono ?_); (case side1 => refine (Kd.R_reads' (e := 3) (base := w.heap.size) (ok := fun k_ => (((((some k_ ≠ (.slice Ao32 t1077.length co32 : Value).ownBlock ∧ some k_ ≠ (.slice Ao17 t1047.length co17 : Value).ownBlock) ∧ some k_ ≠ (.slice Ao18 t1050.length co18 : Value).ownBlock) ∧ some k_ ≠ (.slice Ao23 t1058.length co23 : Value).ownBlock) ∧ some k_ ≠ (.slice Ao24 t1061.length co24 : Value).ownBlock) ∧ some k_ ≠ (v1068 : Value).ownBlock)) (n := t1074.length) (c := co31) ?_).2.2; exact (by (with_reducible repeat (first | apply Kd.R_alloc | apply Kd.R_drewN | apply Kd.R_drew)); exact (Kd.R_mono (Kd.R_far (p := ⟨gb1083, 6, none⟩) (Kd.R_far (p := ⟨gb1083, 5, none⟩) (Kd.R_far (p := ⟨gb1083, 4, none⟩) (Kd.R_far (p := ⟨gb1083, 3, none⟩) (Kd.R_far (p := ⟨gb1083, 2, none⟩) (Kd.R_far (p := ⟨gb1083, 1, none⟩) (Kd.R_far (p := ⟨gb1083, 0, none⟩) (Kd.R_types HO1076.out BK1083.out (by decide)) (fun _ hk => hk.2) (.bool t1072)) (fun _ hk => hk.2) (.bool t1073)) (fun _ hk => hk.2) (.slice Ao31 t1074.length co31)) (fun _ hk => hk.2) (.slice Ao32 t1077.length co32)) (fun _ hk => hk.2) (.int .i64 t1080)) (fun _ hk => hk.2) (.int .i64 t1081)) (fun _ hk => hk.2) (.int .i64 t1082)) (fun _ h_ => h_.1)))); (case side2 => exact (Kd.R_reads' HO1076.out).2.1); (case side3 => refine (Kd.R_reads' (e := 3) (base := w.heap.size) (ok := fun k_ => (((((some k_ ≠ (.slice Ao31 t1074.length co31 : Value).ownBlock ∧ some k_ ≠ (.slice Ao17 t1047.length co17 : Value).ownBlock) ∧ some k_ ≠ (.slice Ao18 t1050.length co18 : Value).ownBlock) ∧ some k_ ≠ (.slice Ao23 t1058.length co23 : Value).ownBlock) ∧ some k_ ≠ (.slice Ao24 t1061.length co24 : Value).ownBlock) ∧ some k_ ≠ (v1068 : Value).ownBlock)) (n := t1077.length) (c := co32) ?_).2.2; exact (by (with_reducible repeat (first | apply Kd.R_alloc | apply Kd.R_drewN | apply Kd.R_drew)); exact (Kd.R_mono (Kd.R_far (p := ⟨gb1083, 6, none⟩) (Kd.R_far (p := ⟨gb1083, 5, none⟩) (Kd.R_far (p := ⟨gb1083, 4, none⟩) (Kd.R_far (p := ⟨gb1083, 3, none⟩) (Kd.R_far (p := ⟨gb1083, 2, none⟩) (Kd.R_far (p := ⟨gb1083, 1, none⟩) (Kd.R_far (p := ⟨gb1083, 0, none⟩) (Kd.R_types HO1079.out BK1083.out (by decide)) (fun _ hk => hk.2) (.bool t1072)) (fun _ hk => hk.2) (.bool t1073)) (fun _ hk => hk.2) (.slice Ao31 t1074.length co31)) (fun _ hk => hk.2) (.slice Ao32 t1077.length co32)) (fun _ hk => hk.2) (.int .i64 t1080)) (fun _ hk => hk.2) (.int .i64 t1081)) (fun _ hk => hk.2) (.int .i64 t1082)) (fun _ h_ => h_.1)))); (case side4 => exact (Kd.R_reads' HO1079.out).2.1); rintro e w33 ⟨v1087, v1090, v1096, rfl, ho0, ho1, ho2, hb⟩; refine ⟨_, rfl, ?_⟩; have HO1088 := am (Kd.Q_lower (Kd.Q_new' (Kd.Q_new' (Kd.Q_new' (Kd.Q_new' (Kd.Q_new' (Kd.Q_new' (Kd.Q_new' ho0 (Kd.R_lt (by (with_reducible repeat (first | apply Kd.R_alloc | apply Kd.R_drewN | apply Kd.R_drew)); exact (Kd.R_mono (Kd.R_far (p := ⟨gb1083, 6, none⟩) (Kd.R_far (p := ⟨gb1083, 5, none⟩) (Kd.R_far (p := ⟨gb1083, 4, none⟩) (Kd.R_far (p := ⟨gb1083, 3, none⟩) (Kd.R_far (p := ⟨gb1083, 2, none⟩) (Kd.R_far (p := ⟨gb1083, 1, none⟩) (Kd.R_far (p := ⟨gb1083, 0, none⟩) (Kd.R_types HO1049.out BK1083.out (by decide)) (fun _ hk => hk.2) (.bool t1072)) (fun _ hk => hk.2) (.bool t1073)) (fun _ hk => hk.2) (.slice Ao31 t1074.length co31)) (fun _ hk => hk.2) (.slice Ao32 t1077.length co32)) (fun _ hk => hk.2) (.int .i64 t1080)) (fun _ hk => hk.2) (.int .i64 t1081)) (fun _ hk => hk.2) (.int .i64 t1082)) (fun _ h_ => h_.1))))) (Kd.R_lt (by (with_reducible repeat (first | apply Kd.R_alloc | apply Kd.R_drewN | apply Kd.R_drew)); exact (Kd.R_mono (Kd.R_far (p := ⟨gb1083, 6, none⟩) (Kd.R_far (p := ⟨gb1083, 5, none⟩) (Kd.R_far (p := ⟨gb1083, 4, none⟩) (Kd.R_far (p := ⟨gb1083, 3, none⟩) (Kd.R_far (p := ⟨gb1083, 2, none⟩) (Kd.R_far (p := ⟨gb1083, 1, none⟩) (Kd.R_far (p := ⟨gb1083, 0, none⟩) (Kd.R_types HO1052.out BK1083.out (by decide)) (fun _ hk => hk.2) (.bool t1072)) (fun _ hk => hk.2) (.bool t1073)) (fun _ hk => hk.2) (.slice Ao31 t1074.length co31)) (fun _ hk => hk.2) (.slice Ao32 t1077.length co32)) (fun _ hk => hk.2) (.int .i64 t1080)) (fun _ hk => hk.2) (.int .i64 t1081)) (fun _ hk => hk.2) (.int .i64 t1082)) (fun _ h_ => h_.1))))) (Kd.R_lt (by (with_reducible repeat (first | apply Kd.R_alloc | apply Kd.R_drewN | apply Kd.R_drew)); exact (Kd.R_mono (Kd.R_far (p := ⟨gb1083, 6, none⟩) (Kd.R_far (p := ⟨gb1083, 5, none⟩) (Kd.R_far (p := ⟨gb1083, 4, none⟩) (Kd.R_far (p := ⟨gb1083, 3, none⟩) (Kd.R_far (p := ⟨gb1083, 2, none⟩) (Kd.R_far (p := ⟨gb1083, 1, none⟩) (Kd.R_far (p := ⟨gb1083, 0, none⟩) (Kd.R_types HO1060.out BK1083.out (by decide)) (fun _ hk => hk.2) (.bool t1072)) (fun _ hk => hk.2) (.bool t1073)) (fun _ hk => hk.2) (.slice Ao31 t1074.length co31)) (fun _ hk => hk.2) (.slice Ao32 t1077.length co32)) (fun _ hk => hk.2) (.int .i64 t1080)) (fun _ hk => hk.2) (.int .i64 t1081)) (fun _ hk => hk.2) (.int .i64 t1082)) (fun _ h_ => h_.1))))) (Kd.R_lt (by (with_reducible repeat (first | apply Kd.R_alloc | apply Kd.R_drewN | apply Kd.R_drew)); exact (Kd.R_mono (Kd.R_far (p := ⟨gb1083, 6, none⟩) (Kd.R_far (p := ⟨gb1083, 5, none⟩) (Kd.R_far (p := ⟨gb1083, 4, none⟩) (Kd.R_far (p := ⟨gb1083, 3, none⟩) (Kd.R_far (p := ⟨gb1083, 2, none⟩) (Kd.R_far (p := ⟨gb1083, 1, none⟩) (Kd.R_far (p := ⟨gb1083, 0, none⟩) (Kd.R_types HO1063.out BK1083.out (by decide)) (fun _ hk => hk.2) (.bool t1072)) (fun _ hk => hk.2) (.bool t1073)) (fun _ hk => hk.2) (.slice Ao31 t1074.length co31)) (fun _ hk => hk.2) (.slice Ao32 t1077.length co32)) (fun _ hk => hk.2) (.int .i64 t1080)) (fun _ hk => hk.2) (.int .i64 t1081)) (fun _ hk => hk.2) (.int .i64 t1082)) (fun _ h_ => h_.1))))) (Kd.R_lt (by (with_reducible repeat (first | apply Kd.R_alloc | apply Kd.R_drewN | apply Kd.R_drew)); exact (Kd.R_mono (Kd.R_far (p := ⟨gb1083, 6, none⟩) (Kd.R_far (p := ⟨gb1083, 5, none⟩) (Kd.R_far (p := ⟨gb1083, 4, none⟩) (Kd.R_far (p := ⟨gb1083, 3, none⟩) (Kd.R_far (p := ⟨gb1083, 2, none⟩) (Kd.R_far (p := ⟨gb1083, 1, none⟩) (Kd.R_far (p := ⟨gb1083, 0, none⟩) (Kd.R_types HO1069.out BK1083.out (by decide)) (fun _ hk => hk.2) (.bool t1072)) (fun _ hk => hk.2) (.bool t1073)) (fun _ hk => hk.2) (.slice Ao31 t1074.length co31)) (fun _ hk => hk.2) (.slice Ao32 t1077.length co32)) (fun _ hk => hk.2) (.int .i64 t1080)) (fun _ hk => hk.2) (.int .i64 t1081)) (fun _ hk => hk.2) (.int .i64 t1082)) (fun _ h_ => h_.1))))) (Kd.R_lt (by (with_reducible repeat (first | apply Kd.R_alloc | apply Kd.R_drewN | apply Kd.R_drew)); exact (Kd.R_mono (Kd.R_far (p := ⟨gb1083, 6, none⟩) (Kd.R_far (p := ⟨gb1083, 5, none⟩) (Kd.R_far (p := ⟨gb1083, 4, none⟩) (Kd.R_far (p := ⟨gb1083, 3, none⟩) (Kd.R_far (p := ⟨gb1083, 2, none⟩) (Kd.R_far (p := ⟨gb1083, 1, none⟩) (Kd.R_far (p := ⟨gb1083, 0, none⟩) (Kd.R_types HO1076.out BK1083.out (by decide)) (fun _ hk => hk.2) (.bool t1072)) (fun _ hk => hk.2) (.bool t1073)) (fun _ hk => hk.2) (.slice Ao31 t1074.length co31)) (fun _ hk => hk.2) (.slice Ao32 t1077.length co32)) (fun _ hk => hk.2) (.int .i64 t1080)) (fun _ hk => hk.2) (.int .i64 t1081)) (fun _ hk => hk.2) (.int .i64 t1082)) (fun _ h_ => h_.1))))) (Kd.R_lt (by (with_reducible repeat (first | apply Kd.R_alloc | apply Kd.R_drewN | apply Kd.R_drew)); exact (Kd.R_mono (Kd.R_far (p := ⟨gb1083, 6, none⟩) (Kd.R_far (p := ⟨gb1083, 5, none⟩) (Kd.R_far (p := ⟨gb1083, 4, none⟩) (Kd.R_far (p := ⟨gb1083, 3, none⟩) (Kd.R_far (p := ⟨gb1083, 2, none⟩) (Kd.R_far (p := ⟨gb1083, 1, none⟩) (Kd.R_far (p := ⟨gb1083, 0, none⟩) (Kd.R_types HO1079.out BK1083.out (by decide)) (fun _ hk => hk.2) (.bool t1072)) (fun _ hk => hk.2) (.bool t1073)) (fun _ hk => hk.2) (.slice Ao31 t1074.length co31)) (fun _ hk => hk.2) (.slice Ao32 t1077.length co32)) (fun _ hk => hk.2) (.int .i64 t1080)) (fun _ hk => hk.2) (.int .i64 t1081)) (fun _ hk => hk.2) (.int .i64 t1082)) (fun _ h_ => h_.1))))) (below_size (pkW HB.out))); have HO1091 := am (Kd.R_lower (Kd.R_new' (Kd.R_new' (Kd.R_new' (Kd.R_new' (Kd.R_new' (Kd.R_new' (Kd.R_new' ho1 (Kd.R_lt (by (with_reducible repeat (first | apply Kd.R_alloc | apply Kd.R_drewN | apply Kd.R_drew)); exact (Kd.R_mono (Kd.R_far (p := ⟨gb1083, 6, none⟩) (Kd.R_far (p := ⟨gb1083, 5, none⟩) (Kd.R_far (p := ⟨gb1083, 4, none⟩) (Kd.R_far (p := ⟨gb1083, 3, none⟩) (Kd.R_far (p := ⟨gb1083, 2, none⟩) (Kd.R_far (p := ⟨gb1083, 1, none⟩) (Kd.R_far (p := ⟨gb1083, 0, none⟩) (Kd.R_types HO1049.out BK1083.out (by decide)) (fun _ hk => hk.2) (.bool t1072)) (fun _ hk => hk.2) (.bool t1073)) (fun _ hk => hk.2) (.slice Ao31 t1074.length co31)) (fun _ hk => hk.2) (.slice Ao32 t1077.length co32)) (fun _ hk => hk.2) (.int .i64 t1080)) (fun _ hk => hk.2) (.int .i64 t1081)) (fun _ hk => hk.2) (.int .i64 t1082)) (fun _ h_ => h_.1))))) (Kd.R_lt (by (with_reducible repeat (first | apply Kd.R_alloc | apply Kd.R_drewN | apply Kd.R_drew)); exact (Kd.R_mono (Kd.R_far (p := ⟨gb1083, 6, none⟩) (Kd.R_far (p := ⟨gb1083, 5, none⟩) (Kd.R_far (p := ⟨gb1083, 4, none⟩) (Kd.R_far (p := ⟨gb1083, 3, none⟩) (Kd.R_far (p := ⟨gb1083, 2, none⟩) (Kd.R_far (p := ⟨gb1083, 1, none⟩) (Kd.R_far (p := ⟨gb1083, 0, none⟩) (Kd.R_types HO1052.out BK1083.out (by decide)) (fun _ hk => hk.2) (.bool t1072)) (fun _ hk => hk.2) (.bool t1073)) (fun _ hk => hk.2) (.slice Ao31 t1074.length co31)) (fun _ hk => hk.2) (.slice Ao32 t1077.length co32)) (fun _ hk => hk.2) (.int .i64 t1080)) (fun _ hk => hk.2) (.int .i64 t1081)) (fun _ hk => hk.2) (.int .i64 t1082)) (fun _ h_ => h_.1))))) (Kd.R_lt (by (with_reducible repeat (first | apply Kd.R_alloc | apply Kd.R_drewN | apply Kd.R_drew)); exact (Kd.R_mono (Kd.R_far (p := ⟨gb1083, 6, none⟩) (Kd.R_far (p := ⟨gb1083, 5, none⟩) (Kd.R_far (p := ⟨gb1083, 4, none⟩) (Kd.R_far (p := ⟨gb1083, 3, none⟩) (Kd.R_far (p := ⟨gb1083, 2, none⟩) (Kd.R_far (p := ⟨gb1083, 1, none⟩) (Kd.R_far (p := ⟨gb1083, 0, none⟩) (Kd.R_types HO1060.out BK1083.out (by decide)) (fun _ hk => hk.2) (.bool t1072)) (fun _ hk => hk.2) (.bool t1073)) (fun _ hk => hk.2) (.slice Ao31 t1074.length co31)) (fun _ hk => hk.2) (.slice Ao32 t1077.length co32)) (fun _ hk => hk.2) (.int .i64 t1080)) (fun _ hk => hk.2) (.int .i64 t1081)) (fun _ hk => hk.2) (.int .i64 t1082)) (fun _ h_ => h_.1))))) (Kd.R_lt (by (with_reducible repeat (first | apply Kd.R_alloc | apply Kd.R_drewN | apply Kd.R_drew)); exact (Kd.R_mono (Kd.R_far (p := ⟨gb1083, 6, none⟩) (Kd.R_far (p := ⟨gb1083, 5, none⟩) (Kd.R_far (p := ⟨gb1083, 4, none⟩) (Kd.R_far (p := ⟨gb1083, 3, none⟩) (Kd.R_far (p := ⟨gb1083, 2, none⟩) (Kd.R_far (p := ⟨gb1083, 1, none⟩) (Kd.R_far (p := ⟨gb1083, 0, none⟩) (Kd.R_types HO1063.out BK1083.out (by decide)) (fun _ hk => hk.2) (.bool t1072)) (fun _ hk => hk.2) (.bool t1073)) (fun _ hk => hk.2) (.slice Ao31 t1074.length co31)) (fun _ hk => hk.2) (.slice Ao32 t1077.length co32)) (fun _ hk => hk.2) (.int .i64 t1080)) (fun _ hk => hk.2) (.int .i64 t1081)) (fun _ hk => hk.2) (.int .i64 t1082)) (fun _ h_ => h_.1))))) (Kd.R_lt (by (with_reducible repeat (first | apply Kd.R_alloc | apply Kd.R_drewN | apply Kd.R_drew)); exact (Kd.R_mono (Kd.R_far (p := ⟨gb1083, 6, none⟩) (Kd.R_far (p := ⟨gb1083, 5, none⟩) (Kd.R_far (p := ⟨gb1083, 4, none⟩) (Kd.R_far (p := ⟨gb1083, 3, none⟩) (Kd.R_far (p := ⟨gb1083, 2, none⟩) (Kd.R_far (p := ⟨gb1083, 1, none⟩) (Kd.R_far (p := ⟨gb1083, 0, none⟩) (Kd.R_types HO1069.out BK1083.out (by decide)) (fun _ hk => hk.2) (.bool t1072)) (fun _ hk => hk.2) (.bool t1073)) (fun _ hk => hk.2) (.slice Ao31 t1074.length co31)) (fun _ hk => hk.2) (.slice Ao32 t1077.length co32)) (fun _ hk => hk.2) (.int .i64 t1080)) (fun _ hk => hk.2) (.int .i64 t1081)) (fun _ hk => hk.2) (.int .i64 t1082)) (fun _ h_ => h_.1))))) (Kd.R_lt (by (with_reducible repeat (first | apply Kd.R_alloc | apply Kd.R_drewN | apply Kd.R_drew)); exact (Kd.R_mono (Kd.R_far (p := ⟨gb1083, 6, none⟩) (Kd.R_far (p := ⟨gb1083, 5, none⟩) (Kd.R_far (p := ⟨gb1083, 4, none⟩) (Kd.R_far (p := ⟨gb1083, 3, none⟩) (Kd.R_far (p := ⟨gb1083, 2, none⟩) (Kd.R_far (p := ⟨gb1083, 1, none⟩) (Kd.R_far (p := ⟨gb1083, 0, none⟩) (Kd.R_types HO1076.out BK1083.out (by decide)) (fun _ hk => hk.2) (.bool t1072)) (fun _ hk => hk.2) (.bool t1073)) (fun _ hk => hk.2) (.slice Ao31 t1074.length co31)) (fun _ hk => hk.2) (.slice Ao32 t1077.length co32)) (fun _ hk => hk.2) (.int .i64 t1080)) (fun _ hk => hk.2) (.int .i64 t1081)) (fun _ hk => hk.2) (.int .i64 t1082)) (fun _ h_ => h_.1))))) (Kd.R_lt (by (with_reducible repeat (first | apply Kd.R_alloc | apply Kd.R_drewN | apply Kd.R_drew)); exact (Kd.R_mono (Kd.R_far (p := ⟨gb1083, 6, none⟩) (Kd.R_far (p := ⟨gb1083, 5, none⟩) (Kd.R_far (p := ⟨gb1083, 4, none⟩) (Kd.R_far (p := ⟨gb1083, 3, none⟩) (Kd.R_far (p := ⟨gb1083, 2, none⟩) (Kd.R_far (p := ⟨gb1083, 1, none⟩) (Kd.R_far (p := ⟨gb1083, 0, none⟩) (Kd.R_types HO1079.out BK1083.out (by decide)) (fun _ hk => hk.2) (.bool t1072)) (fun _ hk => hk.2) (.bool t1073)) (fun _ hk => hk.2) (.slice Ao31 t1074.length co31)) (fun _ hk => hk.2) (.slice Ao32 t1077.length co32)) (fun _ hk => hk.2) (.int .i64 t1080)) (fun _ hk => hk.2) (.int .i64 t1081)) (fun _ hk => hk.2) (.int .i64 t1082)) (fun _ h_ => h_.1))))) (below_size (pkW HB.out))); have HO1097 := am (Kd.R_lower (Kd.R_new' (Kd.R_new' (Kd.R_new' (Kd.R_new' (Kd.R_new' (Kd.R_new' (Kd.R_new' ho2 (Kd.R_lt (by (with_reducible repeat (first | apply Kd.R_alloc | apply Kd.R_drewN | apply Kd.R_drew)); exact (Kd.R_mono (Kd.R_far (p := ⟨gb1083, 6, none⟩) (Kd.R_far (p := ⟨gb1083, 5, none⟩) (Kd.R_far (p := ⟨gb1083, 4, none⟩) (Kd.R_far (p := ⟨gb1083, 3, none⟩) (Kd.R_far (p := ⟨gb1083, 2, none⟩) (Kd.R_far (p := ⟨gb1083, 1, none⟩) (Kd.R_far (p := ⟨gb1083, 0, none⟩) (Kd.R_types HO1049.out BK1083.out (by decide)) (fun _ hk => hk.2) (.bool t1072)) (fun _ hk => hk.2) (.bool t1073)) (fun _ hk => hk.2) (.slice Ao31 t1074.length co31)) (fun _ hk => hk.2) (.slice Ao32 t1077.length co32)) (fun _ hk => hk.2) (.int .i64 t1080)) (fun _ hk => hk.2) (.int .i64 t1081)) (fun _ hk => hk.2) (.int .i64 t1082)) (fun _ h_ => h_.1))))) (Kd.R_lt (by (with_reducible repeat (first | apply Kd.R_alloc | apply Kd.R_drewN | apply Kd.R_drew)); exact (Kd.R_mono (Kd.R_far (p := ⟨gb1083, 6, none⟩) (Kd.R_far (p := ⟨gb1083, 5, none⟩) (Kd.R_far (p := ⟨gb1083, 4, none⟩) (Kd.R_far (p := ⟨gb1083, 3, none⟩) (Kd.R_far (p := ⟨gb1083, 2, none⟩) (Kd.R_far (p := ⟨gb1083, 1, none⟩) (Kd.R_far (p := ⟨gb1083, 0, none⟩) (Kd.R_types HO1052.out BK1083.out (by decide)) (fun _ hk => hk.2) (.bool t1072)) (fun _ hk => hk.2) (.bool t1073)) (fun _ hk => hk.2) (.slice Ao31 t1074.length co31)) (fun _ hk => hk.2) (.slice Ao32 t1077.length co32)) (fun _ hk => hk.2) (.int .i64 t1080)) (fun _ hk => hk.2) (.int .i64 t1081)) (fun _ hk => hk.2) (.int .i64 t1082)) (fun _ h_ => h_.1))))) (Kd.R_lt (by (with_reducible repeat (first | apply Kd.R_alloc | apply Kd.R_drewN | apply Kd.R_drew)); exact (Kd.R_mono (Kd.R_far (p := ⟨gb1083, 6, none⟩) (Kd.R_far (p := ⟨gb1083, 5, none⟩) (Kd.R_far (p := ⟨gb1083, 4, none⟩) (Kd.R_far (p := ⟨gb1083, 3, none⟩) (Kd.R_far (p := ⟨gb1083, 2, none⟩) (Kd.R_far (p := ⟨gb1083, 1, none⟩) (Kd.R_far (p := ⟨gb1083, 0, none⟩) (Kd.R_types HO1060.out BK1083.out (by decide)) (fun _ hk => hk.2) (.bool t1072)) (fun _ hk => hk.2) (.bool t1073)) (fun _ hk => hk.2) (.slice Ao31 t1074.length co31)) (fun _ hk => hk.2) (.slice Ao32 t1077.length co32)) (fun _ hk => hk.2) (.int .i64 t1080)) (fun _ hk => hk.2) (.int .i64 t1081)) (fun _ hk => hk.2) (.int .i64 t1082)) (fun _ h_ => h_.1))))) (Kd.R_lt (by (with_reducible repeat (first | apply Kd.R_alloc | apply Kd.R_drewN | apply Kd.R_drew)); exact (Kd.R_mono (Kd.R_far (p := ⟨gb1083, 6, none⟩) (Kd.R_far (p := ⟨gb1083, 5, none⟩) (Kd.R_far (p := ⟨gb1083, 4, none⟩) (Kd.R_far (p := ⟨gb1083, 3, none⟩) (Kd.R_far (p := ⟨gb1083, 2, none⟩) (Kd.R_far (p := ⟨gb1083, 1, none⟩) (Kd.R_far (p := ⟨gb1083, 0, none⟩) (Kd.R_types HO1063.out BK1083.out (by decide)) (fun _ hk => hk.2) (.bool t1072)) (fun _ hk => hk.2) (.bool t1073)) (fun _ hk => hk.2) (.slice Ao31 t1074.length co31)) (fun _ hk => hk.2) (.slice Ao32 t1077.length co32)) (fun _ hk => hk.2) (.int .i64 t1080)) (fun _ hk => hk.2) (.int .i64 t1081)) (fun _ hk => hk.2) (.int .i64 t1082)) (fun _ h_ => h_.1))))) (Kd.R_lt (by (with_reducible repeat (first | apply Kd.R_alloc | apply Kd.R_drewN | apply Kd.R_drew)); exact (Kd.R_mono (Kd.R_far (p := ⟨gb1083, 6, none⟩) (Kd.R_far (p := ⟨gb1083, 5, none⟩) (Kd.R_far (p := ⟨gb1083, 4, none⟩) (Kd.R_far (p := ⟨gb1083, 3, none⟩) (Kd.R_far (p := ⟨gb1083, 2, none⟩) (Kd.R_far (p := ⟨gb1083, 1, none⟩) (Kd.R_far (p := ⟨gb1083, 0, none⟩) (Kd.R_types HO1069.out BK1083.out (by decide)) (fun _ hk => hk.2) (.bool t1072)) (fun _ hk => hk.2) (.bool t1073)) (fun _ hk => hk.2) (.slice Ao31 t1074.length co31)) (fun _ hk => hk.2) (.slice Ao32 t1077.length co32)) (fun _ hk => hk.2) (.int .i64 t1080)) (fun _ hk => hk.2) (.int .i64 t1081)) (fun _ hk => hk.2) (.int .i64 t1082)) (fun _ h_ => h_.1))))) (Kd.R_lt (by (with_reducible repeat (first | apply Kd.R_alloc | apply Kd.R_drewN | apply Kd.R_drew)); exact (Kd.R_mono (Kd.R_far (p := ⟨gb1083, 6, none⟩) (Kd.R_far (p := ⟨gb1083, 5, none⟩) (Kd.R_far (p := ⟨gb1083, 4, none⟩) (Kd.R_far (p := ⟨gb1083, 3, none⟩) (Kd.R_far (p := ⟨gb1083, 2, none⟩) (Kd.R_far (p := ⟨gb1083, 1, none⟩) (Kd.R_far (p := ⟨gb1083, 0, none⟩) (Kd.R_types HO1076.out BK1083.out (by decide)) (fun _ hk => hk.2) (.bool t1072)) (fun _ hk => hk.2) (.bool t1073)) (fun _ hk => hk.2) (.slice Ao31 t1074.length co31)) (fun _ hk => hk.2) (.slice Ao32 t1077.length co32)) (fun _ hk => hk.2) (.int .i64 t1080)) (fun _ hk => hk.2) (.int .i64 t1081)) (fun _ hk => hk.2) (.int .i64 t1082)) (fun _ h_ => h_.1))))) (Kd.R_lt (by (with_reducible repeat (first | apply Kd.R_alloc | apply Kd.R_drewN | apply Kd.R_drew)); exact (Kd.R_mono (Kd.R_far (p := ⟨gb1083, 6, none⟩) (Kd.R_far (p := ⟨gb1083, 5, none⟩) (Kd.R_far (p := ⟨gb1083, 4, none⟩) (Kd.R_far (p := ⟨gb1083, 3, none⟩) (Kd.R_far (p := ⟨gb1083, 2, none⟩) (Kd.R_far (p := ⟨gb1083, 1, none⟩) (Kd.R_far (p := ⟨gb1083, 0, none⟩) (Kd.R_types HO1079.out BK1083.out (by decide)) (fun _ hk => hk.2) (.bool t1072)) (fun _ hk => hk.2) (.bool t1073)) (fun _ hk => hk.2) (.slice Ao31 t1074.length co31)) (fun _ hk => hk.2) (.slice Ao32 t1077.length co32)) (fun _ hk => hk.2) (.int .i64 t1080)) (fun _ hk => hk.2) (.int .i64 t1081)) (fun _ hk => hk.2) (.int .i64 t1082)) (fun _ h_ => h_.1))))) (below_size (pkW HB.out))); replace HO1049 := am (Kd.R_mono (Kd.R_told (Kd.R_told (Kd.R_told (Kd.R_old (by (with_reducible repeat (first | apply Kd.R_alloc | apply Kd.R_drewN | apply Kd.R_drew)); exact (Kd.R_mono (Kd.R_far (p := ⟨gb1083, 6, none⟩) (Kd.R_far (p := ⟨gb1083, 5, none⟩) (Kd.R_far (p := ⟨gb1083, 4, none⟩) (Kd.R_far (p := ⟨gb1083, 3, none⟩) (Kd.R_far (p := ⟨gb1083, 2, none⟩) (Kd.R_far (p := ⟨gb1083, 1, none⟩) (Kd.R_far (p := ⟨gb1083, 0, none⟩) (Kd.R_types HO1049.out BK1083.out (by decide)) (fun _ hk => hk.2) (.bool t1072)) (fun _ hk => hk.2) (.bool t1073)) (fun _ hk => hk.2) (.slice Ao31 t1074.length co31)) (fun _ hk => hk.2) (.slice Ao32 t1077.length co32)) (fun _ hk => hk.2) (.int .i64 t1080)) (fun _ hk => hk.2) (.int .i64 t1081)) (fun _ hk => hk.2) (.int .i64 t1082)) (fun _ h_ => h_.1))) hb) (Kd.Q_base ho0)) (Kd.R_base ho1)) (Kd.R_base ho2)) (fun _ h_ => h_.1)); replace HO1052 := am (Kd.R_mono (Kd.R_told (Kd.R_told (Kd.R_told (Kd.R_old (by (with_reducible repeat (first | apply Kd.R_alloc | apply Kd.R_drewN | apply Kd.R_drew)); exact (Kd.R_mono (Kd.R_far (p := ⟨gb1083, 6, none⟩) (Kd.R_far (p := ⟨gb1083, 5, none⟩) (Kd.R_far (p := ⟨gb1083, 4, none⟩) (Kd.R_far (p := ⟨gb1083, 3, none⟩) (Kd.R_far (p := ⟨gb1083, 2, none⟩) (Kd.R_far (p := ⟨gb1083, 1, none⟩) (Kd.R_far (p := ⟨gb1083, 0, none⟩) (Kd.R_types HO1052.out BK1083.out (by decide)) (fun _ hk => hk.2) (.bool t1072)) (fun _ hk => hk.2) (.bool t1073)) (fun _ hk => hk.2) (.slice Ao31 t1074.length co31)) (fun _ hk => hk.2) (.slice Ao32 t1077.length co32)) (fun _ hk => hk.2) (.int .i64 t1080)) (fun _ hk => hk.2) (.int .i64 t1081)) (fun _ hk => hk.2) (.int .i64 t1082)) (fun _ h_ => h_.1))) hb) (Kd.Q_base ho0)) (Kd.R_base ho1)) (Kd.R_base ho2)) (fun _ h_ => h_.1)); replace HO1060 := am (Kd.R_mono (Kd.R_told (Kd.R_told (Kd.R_told (Kd.R_old (by (with_reducible repeat (first | apply Kd.R_alloc | apply Kd.R_drewN | apply Kd.R_drew)); exact (Kd.R_mono (Kd.R_far (p := ⟨gb1083, 6, none⟩) (Kd.R_far (p := ⟨gb1083, 5, none⟩) (Kd.R_far (p := ⟨gb1083, 4, none⟩) (Kd.R_far (p := ⟨gb1083, 3, none⟩) (Kd.R_far (p := ⟨gb1083, 2, none⟩) (Kd.R_far (p := ⟨gb1083, 1, none⟩) (Kd.R_far (p := ⟨gb1083, 0, none⟩) (Kd.R_types HO1060.out BK1083.out (by decide)) (fun _ hk => hk.2) (.bool t1072)) (fun _ hk => hk.2) (.bool t1073)) (fun _ hk => hk.2) (.slice Ao31 t1074.length co31)) (fun _ hk => hk.2) (.slice Ao32 t1077.length co32)) (fun _ hk => hk.2) (.int .i64 t1080)) (fun _ hk => hk.2) (.int .i64 t1081)) (fun _ hk => hk.2) (.int .i64 t1082)) (fun _ h_ => h_.1))) hb) (Kd.Q_base ho0)) (Kd.R_base ho1)) (Kd.R_base ho2)) (fun _ h_ => h_.1)); replace HO1063 := am (Kd.R_mono (Kd.R_told (Kd.R_told (Kd.R_told (Kd.R_old (by (with_reducible repeat (first | apply Kd.R_alloc | apply Kd.R_drewN | apply Kd.R_drew)); exact (Kd.R_mono (Kd.R_far (p := ⟨gb1083, 6, none⟩) (Kd.R_far (p := ⟨gb1083, 5, none⟩) (Kd.R_far (p := ⟨gb1083, 4, none⟩) (Kd.R_far (p := ⟨gb1083, 3, none⟩) (Kd.R_far (p := ⟨gb1083, 2, none⟩) (Kd.R_far (p := ⟨gb1083, 1, none⟩) (Kd.R_far (p := ⟨gb1083, 0, none⟩) (Kd.R_types HO1063.out BK1083.out (by decide)) (fun _ hk => hk.2) (.bool t1072)) (fun _ hk => hk.2) (.bool t1073)) (fun _ hk => hk.2) (.slice Ao31 t1074.length co31)) (fun _ hk => hk.2) (.slice Ao32 t1077.length co32)) (fun _ hk => hk.2) (.int .i64 t1080)) (fun _ hk => hk.2) (.int .i64 t1081)) (fun _ hk => hk.2) (.int .i64 t1082)) (fun _ h_ => h_.1))) hb) (Kd.Q_base ho0)) (Kd.R_base ho1)) (Kd.R_base ho2)) (fun _ h_ => h_.1)); replace HO1069 := am (Kd.R_mono (Kd.R_told (Kd.R_told (Kd.R_told (Kd.R_old (by (with_reducible repeat (first | apply Kd.R_alloc | apply Kd.R_drewN | apply Kd.R_drew)); exact (Kd.R_mono (Kd.R_far (p := ⟨gb1083, 6, none⟩) (Kd.R_far (p := ⟨gb1083, 5, none⟩) (Kd.R_far (p := ⟨gb1083, 4, none⟩) (Kd.R_far (p := ⟨gb1083, 3, none⟩) (Kd.R_far (p := ⟨gb1083, 2, none⟩) (Kd.R_far (p := ⟨gb1083, 1, none⟩) (Kd.R_far (p := ⟨gb1083, 0, none⟩) (Kd.R_types HO1069.out BK1083.out (by decide)) (fun _ hk => hk.2) (.bool t1072)) (fun _ hk => hk.2) (.bool t1073)) (fun _ hk => hk.2) (.slice Ao31 t1074.length co31)) (fun _ hk => hk.2) (.slice Ao32 t1077.length co32)) (fun _ hk => hk.2) (.int .i64 t1080)) (fun _ hk => hk.2) (.int .i64 t1081)) (fun _ hk => hk.2) (.int .i64 t1082)) (fun _ h_ => h_.1))) hb) (Kd.Q_base ho0)) (Kd.R_base ho1)) (Kd.R_base ho2)) (fun _ h_ => h_.1)); replace HO1076 := am (Kd.R_mono (Kd.R_told (Kd.R_told (Kd.R_told (Kd.R_old (by (with_reducible repeat (first | apply Kd.R_alloc | apply Kd.R_drewN | apply Kd.R_drew)); exact (Kd.R_mono (Kd.R_far (p := ⟨gb1083, 6, none⟩) (Kd.R_far (p := ⟨gb1083, 5, none⟩) (Kd.R_far (p := ⟨gb1083, 4, none⟩) (Kd.R_far (p := ⟨gb1083, 3, none⟩) (Kd.R_far (p := ⟨gb1083, 2, none⟩) (Kd.R_far (p := ⟨gb1083, 1, none⟩) (Kd.R_far (p := ⟨gb1083, 0, none⟩) (Kd.R_types HO1076.out BK1083.out (by decide)) (fun _ hk => hk.2) (.bool t1072)) (fun _ hk => hk.2) (.bool t1073)) (fun _ hk => hk.2) (.slice Ao31 t1074.length co31)) (fun _ hk => hk.2) (.slice Ao32 t1077.length co32)) (fun _ hk => hk.2) (.int .i64 t1080)) (fun _ hk => hk.2) (.int .i64 t1081)) (fun _ hk => hk.2) (.int .i64 t1082)) (fun _ h_ => h_.1))) hb) (Kd.Q_base ho0)) (Kd.R_base ho1)) (Kd.R_base ho2)) (fun _ h_ => h_.1)); replace HO1079 := am (Kd.R_mono (Kd.R_told (Kd.R_told (Kd.R_told (Kd.R_old (by (with_reducible repeat (first | apply Kd.R_alloc | apply Kd.R_drewN | apply Kd.R_drew)); exact (Kd.R_mono (Kd.R_far (p := ⟨gb1083, 6, none⟩) (Kd.R_far (p := ⟨gb1083, 5, none⟩) (Kd.R_far (p := ⟨gb1083, 4, none⟩) (Kd.R_far (p := ⟨gb1083, 3, none⟩) (Kd.R_far (p := ⟨gb1083, 2, none⟩) (Kd.R_far (p := ⟨gb1083, 1, none⟩) (Kd.R_far (p := ⟨gb1083, 0, none⟩) (Kd.R_types HO1079.out BK1083.out (by decide)) (fun _ hk => hk.2) (.bool t1072)) (fun _ hk => hk.2) (.bool t1073)) (fun _ hk => hk.2) (.slice Ao31 t1074.length co31)) (fun _ hk => hk.2) (.slice Ao32 t1077.length co32)) (fun _ hk => hk.2) (.int .i64 t1080)) (fun _ hk => hk.2) (.int .i64 t1081)) (fun _ hk => hk.2) (.int .i64 t1082)) (fun _ h_ => h_.1))) hb) (Kd.Q_base ho0)) (Kd.R_base ho1)) (Kd.R_base ho2)) (fun _ h_ => h_.1)); replace BK1043 := am (blk_below (g := gb1043) (o := .cells #[.bool a0_0, .bool a0_1, .slice A0_2 l0_2.length c0_2, .slice A0_3 l0_3.length c0_3, .int .i64 a0_4, .int .i64 a0_5, .int .i64 a0_6] 24 (0, 0)) (by (with_reducible repeat (first | refine blk_drewN ?_ _ | refine blk_drew ?_ | refine blk_alloc ?_ _)); refine blk_far ?_ NB1043_1083.out _; (with_reducible repeat (first | refine blk_drewN ?_ _ | refine blk_drew ?_ | refine blk_alloc ?_ _)); refine blk_far ?_ NB1043_1083.out _; (with_reducible repeat (first | refine blk_drewN ?_ _ | refine blk_drew ?_ | refine blk_alloc ?_ _)); refine blk_far ?_ NB1043_1083.out _; (with_reducible repeat (first | refine blk_drewN ?_ _ | refine blk_drew ?_ | refine blk_alloc ?_ _)); refine blk_far ?_ NB1043_1083.out _; (with_reducible repeat (first | refine blk_drewN ?_ _ | refine blk_drew ?_ | refine blk_alloc ?_ _)); refine blk_far ?_ NB1043_1083.out _; (with_reducible repeat (first | refine blk_drewN ?_ _ | refine blk_drew ?_ | refine blk_alloc ?_ _)); refine blk_far ?_ NB1043_1083.out _; (with_reducible repeat (first | refine blk_drewN ?_ _ | refine blk_drew ?_ | refine blk_alloc ?_ _)); refine blk_far ?_ NB1043_1083.out _; exact pkK BK1043.out) hb); replace BK1071 := am (blk_below (g := gb1071) (o := .cells #[.bool t1056, .bool t1057, .slice Ao23 t1058.length co23, .slice Ao24 t1061.length co24, .int .i64 t1064, .int .i64 t1065, .int .i64 t1066] 27 (0, 0)) (by (with_reducible repeat (first | refine blk_drewN ?_ _ | refine blk_drew ?_ | refine blk_alloc ?_ _)); refine blk_far ?_ NB1071_1083.out _; (with_reducible repeat (first | refine blk_drewN ?_ _ | refine blk_drew ?_ | refine blk_alloc ?_ _)); refine blk_far ?_ NB1071_1083.out _; (with_reducible repeat (first | refine blk_drewN ?_ _ | refine blk_drew ?_ | refine blk_alloc ?_ _)); refine blk_far ?_ NB1071_1083.out _; (with_reducible repeat (first | refine blk_drewN ?_ _ | refine blk_drew ?_ | refine blk_alloc ?_ _)); refine blk_far ?_ NB1071_1083.out _; (with_reducible repeat (first | refine blk_drewN ?_ _ | refine blk_drew ?_ | refine blk_alloc ?_ _)); refine blk_far ?_ NB1071_1083.out _; (with_reducible repeat (first | refine blk_drewN ?_ _ | refine blk_drew ?_ | refine blk_alloc ?_ _)); refine blk_far ?_ NB1071_1083.out _; (with_reducible repeat (first | refine blk_drewN ?_ _ | refine blk_drew ?_ | refine blk_alloc ?_ _)); refine blk_far ?_ NB1071_1083.out _; exact pkK BK1071.out) hb); replace BK1083 := am (blk_below (g := gb1083) (o := .cells #[.bool t1072, .bool t1073, .slice Ao31 t1074.length co31, .slice Ao32 t1077.length co32, .int .i64 t1080, .int .i64 t1081, .int .i64 t1082] 27 (0, 0)) (by (with_reducible repeat (first | refine blk_drewN ?_ _ | refine blk_drew ?_ | refine blk_alloc ?_ _)); refine blk_put (cs := #[.bool t1072, .bool t1073, .slice Ao31 t1074.length co31, .slice Ao32 t1077.length co32, .int .i64 t1080, .int .i64 t1081, .int .i64 0]) ?_ 6 _ rfl; (with_reducible repeat (first | refine blk_drewN ?_ _ | refine blk_drew ?_ | refine blk_alloc ?_ _)); refine blk_put (cs := #[.bool t1072, .bool t1073, .slice Ao31 t1074.length co31, .slice Ao32 t1077.length co32, .int .i64 t1080, .int .i64 0, .int .i64 0]) ?_ 5 _ rfl; (with_reducible repeat (first | refine blk_drewN ?_ _ | refine blk_drew ?_ | refine blk_alloc ?_ _)); refine blk_put (cs := #[.bool t1072, .bool t1073, .slice Ao31 t1074.length co31, .slice Ao32 t1077.length co32, .int .i64 0, .int .i64 0, .int .i64 0]) ?_ 4 _ rfl; (with_reducible repeat (first | refine blk_drewN ?_ _ | refine blk_drew ?_ | refine blk_alloc ?_ _)); refine blk_put (cs := #[.bool t1072, .bool t1073, .slice Ao31 t1074.length co31, .slice none 0 0, .int .i64 0, .int .i64 0, .int .i64 0]) ?_ 3 _ rfl; (with_reducible repeat (first | refine blk_drewN ?_ _ | refine blk_drew ?_ | refine blk_alloc ?_ _)); refine blk_put (cs := #[.bool t1072, .bool t1073, .slice none 0 0, .slice none 0 0, .int .i64 0, .int .i64 0, .int .i64 0]) ?_ 2 _ rfl; (with_reducible repeat (first | refine blk_drewN ?_ _ | refine blk_drew ?_ | refine blk_alloc ?_ _)); refine blk_put (cs := #[.bool t1072, .bool false, .slice none 0 0, .slice none 0 0, .int .i64 0, .int .i64 0, .int .i64 0]) ?_ 1 _ rfl; (with_reducible repeat (first | refine blk_drewN ?_ _ | refine blk_drew ?_ | refine blk_alloc ?_ _)); refine blk_put (cs := #[.bool false, .bool false, .slice none 0 0, .slice none 0 0, .int .i64 0, .int .i64 0, .int .i64 0]) ?_ 0 _ rfl; exact pkK BK1083.out) hb); replace HB := am (below_step (pkW HB.out) hb); (try clear hb ho0 ho1 ho2)) | ((with_reducible refine gate_dst (N := 8) rfl ?_); refine box_event ?hg (N := 8) ?hd (cs := #[.bool false, .bool false, .slice none 0 0, .slice none 0 0, .int .i64 0, .int .i64 0, .int .i64 0]) (t := 27) ?hr ?_; (case hd => rfl); (case hg => rfl); (case hr => first | (go_simp; done) | (go_simp; rfl)); intro gb1099 hg w34 hbox hb; replace HO1049 := am (Kd.R_below (pkR HO1049.out) hb); replace HO1052 := am (Kd.R_below (pkR HO1052.out) hb); replace HO1060 := am (Kd.R_below (pkR HO1060.out) hb); replace HO1063 := am (Kd.R_below (pkR HO1063.out) hb); replace HO1069 := am (Kd.R_below (pkR HO1069.out) hb); replace HO1076 := am (Kd.R_below (pkR HO1076.out) hb); replace HO1079 := am (Kd.R_below (pkR HO1079.out) hb); replace HO1088 := am (Kd.Q_below (pkQ HO1088.out) hb); replace HO1091 := am (Kd.R_below (pkR HO1091.out) hb); replace HO1097 := am (Kd.R_below (pkR HO1097.out) hb); have BK1099 := am (hbox); have GW1099 := am ((by rw [hg]; exact (below_size (pkW HB.out)) : w.heap.size ≤ gb1099)); have GE1099 := am ((by rw [hg]; exact (below_size (pkW HB.out)) : w.heap.size ≤ gb1099)); replace HB := am (below_step (pkW HB.out) hb); have NB1043_1099 := am ((by rw [hg]; exact Nat.ne_of_lt (blk_lt (g := gb1043) (o := .cells #[.bool a0_0, .bool a0_1, .slice A0_2 l0_2.length c0_2, .slice A0_3 l0_3.length c0_3, .int .i64 a0_4, .int .i64 a0_5, .int .i64 a0_6] 24 (0, 0)) (pkK BK1043.out)) : gb1043 ≠ gb1099)); have NB1099_1043 := am ((by rw [hg]; exact Nat.ne_of_gt (blk_lt (g := gb1043) (o := .cells #[.bool a0_0, .bool a0_1, .slice A0_2 l0_2.length c0_2, .slice A0_3 l0_3.length c0_3, .int .i64 a0_4, .int .i64 a0_5, .int .i64 a0_6] 24 (0, 0)) (pkK BK1043.out)) : gb1099 ≠ gb1043)); replace BK1043 := am (blk_below (pkK BK1043.out) hb); have NB1071_1099 := am ((by rw [hg]; exact Nat.ne_of_lt (blk_lt (g := gb1071) (o := .cells #[.bool t1056, .bool t1057, .slice Ao23 t1058.length co23, .slice Ao24 t1061.length co24, .int .i64 t1064, .int .i64 t1065, .int .i64 t1066] 27 (0, 0)) (pkK BK1071.out)) : gb1071 ≠ gb1099)); have NB1099_1071 := am ((by rw [hg]; exact Nat.ne_of_gt (blk_lt (g := gb1071) (o := .cells #[.bool t1056, .bool t1057, .slice Ao23 t1058.length co23, .slice Ao24 t1061.length co24, .int .i64 t1064, .int .i64 t1065, .int .i64 t1066] 27 (0, 0)) (pkK BK1071.out)) : gb1099 ≠ gb1071)); replace BK1071 := am (blk_below (pkK BK1071.out) hb); have NB1083_1099 := am ((by rw [hg]; exact Nat.ne_of_lt (blk_lt (g := gb1083) (o := .cells #[.bool t1072, .bool t1073, .slice Ao31 t1074.length co31, .slice Ao32 t1077.length co32, .int .i64 t1080, .int .i64 t1081, .int .i64 t1082] 27 (0, 0)) (pkK BK1083.out)) : gb1083 ≠ gb1099)); have NB1099_1083 := am ((by rw [hg]; exact Nat.ne_of_gt (blk_lt (g := gb1083) (o := .cells #[.bool t1072, .bool t1073, .slice Ao31 t1074.length co31, .slice Ao32 t1077.length co32, .int .i64 t1080, .int .i64 t1081, .int .i64 t1082] 27 (0, 0)) (pkK BK1083.out)) : gb1099 ≠ gb1083)); replace BK1083 := am (blk_below (pkK BK1083.out) hb); clear hb hbox hg; have hnb35 := NB1099_1043.out; have hnc35 := NB1043_1099.out; have hnb36 := NB1099_1071.out; have hnc36 := NB1071_1099.out; have hnb37 := NB1099_1083.out; have hnc37 := NB1083_1099.out; obtain ⟨hcz38_0, hcz38_1, hcz38_2, hcz38_3, hcz38_4, hcz38_5, hcz38_6, hfz38_0, hfz38_1, hfz38_2, hfz38_3, hfz38_4, hfz38_5, hfz38_6⟩ := bk7 BK1099.out; obtain ⟨Ao39, co39, eo39, _⟩ := Kd.Q_slice HO1088.out; subst eo39; obtain ⟨Ao40, co40, eo40⟩ := Kd.R_slice HO1091.out; subst eo40))
  (try simp only [Act.put, List.setIfInBounds_toArray, List.set_cons_zero, List.set_cons_succ])
  go_cut [51] (fun v51 wc => ∃ (kq : Nat) (x51_10 : Bool), v51 = .bool x51_10 ∧ Aside0 (laws_FnExactRaise.j0 kq t1067 t1070 t1095 t1098 x51_10 a0_0 a0_1 l0_2 l0_3 a0_4 a0_5 a0_6 t1056 t1057 t1058 t1061 t1064 t1065 t1066 t1072 t1073 t1074 t1077 t1080 t1081 t1082 t1084 t1085 t1086 t1089 t1092 t1093 t1094 = some r) ∧ Aside0 (kq ≤ k) ∧ Aside0 (Kd.R (Kd.int .i64) 3 wc w.heap.size (fun k_ => some k_ ≠ (v1096 : Value).ownBlock ∧ some k_ ≠ ((.slice Ao23 t1058.length co23) : Value).ownBlock ∧ some k_ ≠ ((.slice Ao24 t1061.length co24) : Value).ownBlock ∧ some k_ ≠ ((.slice Ao31 t1074.length co31) : Value).ownBlock ∧ some k_ ≠ ((.slice Ao32 t1077.length co32) : Value).ownBlock ∧ some k_ ≠ ((.slice Ao39 t1086.length co39) : Value).ownBlock ∧ some k_ ≠ ((.slice Ao40 t1089.length co40) : Value).ownBlock) v1068 t1067) ∧ Aside0 (Kd.Q (Kd.int .i64) 3 wc w.heap.size (fun k_ => some k_ ≠ (v1068 : Value).ownBlock ∧ some k_ ≠ ((.slice Ao23 t1058.length co23) : Value).ownBlock ∧ some k_ ≠ ((.slice Ao24 t1061.length co24) : Value).ownBlock ∧ some k_ ≠ ((.slice Ao31 t1074.length co31) : Value).ownBlock ∧ some k_ ≠ ((.slice Ao32 t1077.length co32) : Value).ownBlock ∧ some k_ ≠ ((.slice Ao39 t1086.length co39) : Value).ownBlock ∧ some k_ ≠ ((.slice Ao40 t1089.length co40) : Value).ownBlock) v1096 t1095) ∧ Aside0 (Kd.Q (Kd.int .i64) 3 wc w.heap.size (fun k_ => some k_ ≠ (v1068 : Value).ownBlock ∧ some k_ ≠ (v1096 : Value).ownBlock ∧ some k_ ≠ ((.slice Ao24 t1061.length co24) : Value).ownBlock ∧ some k_ ≠ ((.slice Ao31 t1074.length co31) : Value).ownBlock ∧ some k_ ≠ ((.slice Ao32 t1077.length co32) : Value).ownBlock ∧ some k_ ≠ ((.slice Ao39 t1086.length co39) : Value).ownBlock ∧ some k_ ≠ ((.slice Ao40 t1089.length co40) : Value).ownBlock) (.slice Ao23 t1058.length co23) t1058) ∧ Aside0 (Kd.R (Kd.int .i64) 3 wc w.heap.size (fun k_ => some k_ ≠ (v1068 : Value).ownBlock ∧ some k_ ≠ (v1096 : Value).ownBlock ∧ some k_ ≠ ((.slice Ao23 t1058.length co23) : Value).ownBlock ∧ some k_ ≠ ((.slice Ao31 t1074.length co31) : Value).ownBlock ∧ some k_ ≠ ((.slice Ao32 t1077.length co32) : Value).ownBlock ∧ some k_ ≠ ((.slice Ao39 t1086.length co39) : Value).ownBlock ∧ some k_ ≠ ((.slice Ao40 t1089.length co40) : Value).ownBlock) (.slice Ao24 t1061.length co24) t1061) ∧ Aside0 (Kd.Q (Kd.int .i64) 3 wc w.heap.size (fun k_ => some k_ ≠ (v1068 : Value).ownBlock ∧ some k_ ≠ (v1096 : Value).ownBlock ∧ some k_ ≠ ((.slice Ao23 t1058.length co23) : Value).ownBlock ∧ some k_ ≠ ((.slice Ao24 t1061.length co24) : Value).ownBlock ∧ some k_ ≠ ((.slice Ao32 t1077.length co32) : Value).ownBlock ∧ some k_ ≠ ((.slice Ao39 t1086.length co39) : Value).ownBlock ∧ some k_ ≠ ((.slice Ao40 t1089.length co40) : Value).ownBlock) (.slice Ao31 t1074.length co31) t1074) ∧ Aside0 (Kd.Q (Kd.int .i64) 3 wc w.heap.size (fun k_ => some k_ ≠ (v1068 : Value).ownBlock ∧ some k_ ≠ (v1096 : Value).ownBlock ∧ some k_ ≠ ((.slice Ao23 t1058.length co23) : Value).ownBlock ∧ some k_ ≠ ((.slice Ao24 t1061.length co24) : Value).ownBlock ∧ some k_ ≠ ((.slice Ao31 t1074.length co31) : Value).ownBlock ∧ some k_ ≠ ((.slice Ao39 t1086.length co39) : Value).ownBlock ∧ some k_ ≠ ((.slice Ao40 t1089.length co40) : Value).ownBlock) (.slice Ao32 t1077.length co32) t1077) ∧ Aside0 (Kd.Q (Kd.int .i64) 3 wc w.heap.size (fun k_ => some k_ ≠ (v1068 : Value).ownBlock ∧ some k_ ≠ (v1096 : Value).ownBlock ∧ some k_ ≠ ((.slice Ao23 t1058.length co23) : Value).ownBlock ∧ some k_ ≠ ((.slice Ao24 t1061.length co24) : Value).ownBlock ∧ some k_ ≠ ((.slice Ao31 t1074.length co31) : Value).ownBlock ∧ some k_ ≠ ((.slice Ao32 t1077.length co32) : Value).ownBlock ∧ some k_ ≠ ((.slice Ao40 t1089.length co40) : Value).ownBlock) (.slice Ao39 t1086.length co39) t1086) ∧ Aside0 (Kd.Q (Kd.int .i64) 3 wc w.heap.size (fun k_ => some k_ ≠ (v1068 : Value).ownBlock ∧ some k_ ≠ (v1096 : Value).ownBlock ∧ some k_ ≠ ((.slice Ao23 t1058.length co23) : Value).ownBlock ∧ some k_ ≠ ((.slice Ao24 t1061.length co24) : Value).ownBlock ∧ some k_ ≠ ((.slice Ao31 t1074.length co31) : Value).ownBlock ∧ some k_ ≠ ((.slice Ao32 t1077.length co32) : Value).ownBlock ∧ some k_ ≠ ((.slice Ao39 t1086.length co39) : Value).ownBlock) (.slice Ao40 t1089.length co40) t1089) ∧ Aside0 (wc.heap[gb1043]? = some (.cells #[.bool a0_0, .bool a0_1, (.slice A0_2 l0_2.length c0_2), (.slice A0_3 l0_3.length c0_3), .int .i64 a0_4, .int .i64 a0_5, .int .i64 a0_6] 24 (0, 0))) ∧ Aside0 (wc.heap[gb1071]? = some (.cells #[.bool t1056, .bool t1057, (.slice Ao23 t1058.length co23), (.slice Ao24 t1061.length co24), .int .i64 t1064, .int .i64 t1065, .int .i64 t1066] 27 (0, 0))) ∧ Aside0 (wc.heap[gb1083]? = some (.cells #[.bool t1072, .bool t1073, (.slice Ao31 t1074.length co31), (.slice Ao32 t1077.length co32), .int .i64 t1080, .int .i64 t1081, .int .i64 t1082] 27 (0, 0))) ∧ Aside0 (wc.heap[gb1099]? = some (.cells #[.bool t1084, .bool t1085, (.slice Ao39 t1086.length co39), (.slice Ao40 t1089.length co40), .int .i64 t1092, .int .i64 t1093, .int .i64 t1094] 27 (0, 0))) ∧ Aside0 (Below w.heap.size w wc))
  case first =>
   have H := HC11.out
   clear HC11
   replace H := Option.bind_eq_some_iff.mp H
   obtain ⟨t1100, A410, H⟩ := H
   replace H : (if t1100 = true then ((laws_eqIntS.f k t1095 t1067).bind fun t1101 => (if t1101 = true then (laws_FnExactRaise.j0 k t1067 t1070 t1095 t1098 (t1098 != t1070) a0_0 a0_1 l0_2 l0_3 a0_4 a0_5 a0_6 t1056 t1057 t1058 t1061 t1064 t1065 t1066 t1072 t1073 t1074 t1077 t1080 t1081 t1082 t1084 t1085 t1086 t1089 t1092 t1093 t1094) else (laws_FnExactRaise.j0 k t1067 t1070 t1095 t1098 true a0_0 a0_1 l0_2 l0_3 a0_4 a0_5 a0_6 t1056 t1057 t1058 t1061 t1064 t1065 t1066 t1072 t1073 t1074 t1077 t1080 t1081 t1082 t1084 t1085 t1086 t1089 t1092 t1093 t1094))) else (laws_FnExactRaise.j0 k t1067 t1070 t1095 t1098 true a0_0 a0_1 l0_2 l0_3 a0_4 a0_5 a0_6 t1056 t1057 t1058 t1061 t1064 t1065 t1066 t1072 t1073 t1074 t1077 t1080 t1081 t1082 t1084 t1085 t1086 t1089 t1092 t1093 t1094)) = some r := H
   have A41 := am A410
   clear A410
   by_cases c42 : t1100 = true
   ·subst c42
    replace H : ((laws_eqIntS.f k t1095 t1067).bind fun t1101 => (if t1101 = true then (laws_FnExactRaise.j0 k t1067 t1070 t1095 t1098 (t1098 != t1070) a0_0 a0_1 l0_2 l0_3 a0_4 a0_5 a0_6 t1056 t1057 t1058 t1061 t1064 t1065 t1066 t1072 t1073 t1074 t1077 t1080 t1081 t1082 t1084 t1085 t1086 t1089 t1092 t1093 t1094) else (laws_FnExactRaise.j0 k t1067 t1070 t1095 t1098 true a0_0 a0_1 l0_2 l0_3 a0_4 a0_5 a0_6 t1056 t1057 t1058 t1061 t1064 t1065 t1066 t1072 t1073 t1074 t1077 t1080 t1081 t1082 t1084 t1085 t1086 t1089 t1092 t1093 t1094))) = some r := by rw [if_pos rfl] at H; exact H
    replace H := Option.bind_eq_some_iff.mp H
    obtain ⟨t1101, A430, H⟩ := H
    replace H : (if t1101 = true then (laws_FnExactRaise.j0 k t1067 t1070 t1095 t1098 (t1098 != t1070) a0_0 a0_1 l0_2 l0_3 a0_4 a0_5 a0_6 t1056 t1057 t1058 t1061 t1064 t1065 t1066 t1072 t1073 t1074 t1077 t1080 t1081 t1082 t1084 t1085 t1086 t1089 t1092 t1093 t1094) else (laws_FnExactRaise.j0 k t1067 t1070 t1095 t1098 true a0_0 a0_1 l0_2 l0_3 a0_4 a0_5 a0_6 t1056 t1057 t1058 t1061 t1064 t1065 t1066 t1072 t1073 t1074 t1077 t1080 t1081 t1082 t1084 t1085 t1086 t1089 t1092 t1093 t1094)) = some r := H
    have A43 := am A430
    clear A430
    by_cases c44 : t1101 = true
    ·subst c44
     replace H : (laws_FnExactRaise.j0 k t1067 t1070 t1095 t1098 (t1098 != t1070) a0_0 a0_1 l0_2 l0_3 a0_4 a0_5 a0_6 t1056 t1057 t1058 t1061 t1064 t1065 t1066 t1072 t1073 t1074 t1077 t1080 t1081 t1082 t1084 t1085 t1086 t1089 t1092 t1093 t1094) = some r := by rw [if_pos rfl] at H; exact H
     have H' := am H
     clear H
     have hnb45 := NB1099_1043.out
     have hnc45 := NB1043_1099.out
     have hnb46 := NB1099_1071.out
     have hnc46 := NB1071_1099.out
     have hnb47 := NB1099_1083.out
     have hnc47 := NB1083_1099.out
     obtain ⟨hcz48_0, hcz48_1, hcz48_2, hcz48_3, hcz48_4, hcz48_5, hcz48_6, hfz48_0, hfz48_1, hfz48_2, hfz48_3, hfz48_4, hfz48_5, hfz48_6⟩ := bk7 BK1099.out
     have hnb49 := NB1071_1043.out
     have hnc49 := NB1043_1071.out
     have hnb50 := NB1071_1083.out
     have hnc50 := NB1083_1071.out
     obtain ⟨hcz51_0, hcz51_1, hcz51_2, hcz51_3, hcz51_4, hcz51_5, hcz51_6, hfz51_0, hfz51_1, hfz51_2, hfz51_3, hfz51_4, hfz51_5, hfz51_6⟩ := bk7 BK1071.out
     go_wp2_with (first | ((with_reducible refine gate_callee (f := 18) rfl ?_); refine goesL_ (some 39) rfl rfl Try.func18 (by kernel_rfl) rfl #[.agg #[.bool t1084, .bool t1085, .slice Ao39 t1086.length co39, .slice Ao40 t1089.length co40, .int .i64 t1092, .int .i64 t1093, .int .i64 t1094], .agg #[.bool t1056, .bool t1057, .slice Ao23 t1058.length co23, .slice Ao24 t1061.length co24, .int .i64 t1064, .int .i64 t1065, .int .i64 t1066]] rfl mpx ?_; (with_reducible refine (laws_eqEvent.calls k t1084 t1085 _ _ t1086 _ _ t1089 t1092 t1093 t1094 t1056 t1057 _ _ t1058 _ _ t1061 t1064 t1065 t1066 true _ ?side1 ?side2 ?side3 ?side4 ?side5 ?side6 ?side7 ?side8 A41.out).mono ?_); (case side1 => refine (Kd.Q_reads' (e := 3) (base := w.heap.size) (ok := fun k_ => ((((((((some k_ ≠ (.slice Ao40 t1089.length co40 : Value).ownBlock ∧ some k_ ≠ (v1096 : Value).ownBlock) ∧ some k_ ≠ (.slice Ao17 t1047.length co17 : Value).ownBlock) ∧ some k_ ≠ (.slice Ao18 t1050.length co18 : Value).ownBlock) ∧ some k_ ≠ (.slice Ao23 t1058.length co23 : Value).ownBlock) ∧ some k_ ≠ (.slice Ao24 t1061.length co24 : Value).ownBlock) ∧ some k_ ≠ (v1068 : Value).ownBlock) ∧ some k_ ≠ (.slice Ao31 t1074.length co31 : Value).ownBlock) ∧ some k_ ≠ (.slice Ao32 t1077.length co32 : Value).ownBlock)) (n := t1086.length) (c := co39) ?_).2.2; exact (by (with_reducible repeat (first | apply Kd.Q_alloc | apply Kd.Q_drewN | apply Kd.Q_drew)); exact (Kd.Q_mono (Kd.Q_far (p := ⟨gb1099, 6, none⟩) (Kd.Q_far (p := ⟨gb1099, 5, none⟩) (Kd.Q_far (p := ⟨gb1099, 4, none⟩) (Kd.Q_far (p := ⟨gb1099, 3, none⟩) (Kd.Q_far (p := ⟨gb1099, 2, none⟩) (Kd.Q_far (p := ⟨gb1099, 1, none⟩) (Kd.Q_far (p := ⟨gb1099, 0, none⟩) (Kd.Q_types HO1088.out BK1099.out (by decide)) (fun _ hk => hk.2) (.bool t1084)) (fun _ hk => hk.2) (.bool t1085)) (fun _ hk => hk.2) (.slice Ao39 t1086.length co39)) (fun _ hk => hk.2) (.slice Ao40 t1089.length co40)) (fun _ hk => hk.2) (.int .i64 t1092)) (fun _ hk => hk.2) (.int .i64 t1093)) (fun _ hk => hk.2) (.int .i64 t1094)) (fun _ h_ => h_.1)))); (case side2 => exact (Kd.Q_reads' HO1088.out).2.1); (case side3 => refine (Kd.R_reads' (e := 3) (base := w.heap.size) (ok := fun k_ => ((((((((some k_ ≠ (.slice Ao39 t1086.length co39 : Value).ownBlock ∧ some k_ ≠ (v1096 : Value).ownBlock) ∧ some k_ ≠ (.slice Ao17 t1047.length co17 : Value).ownBlock) ∧ some k_ ≠ (.slice Ao18 t1050.length co18 : Value).ownBlock) ∧ some k_ ≠ (.slice Ao23 t1058.length co23 : Value).ownBlock) ∧ some k_ ≠ (.slice Ao24 t1061.length co24 : Value).ownBlock) ∧ some k_ ≠ (v1068 : Value).ownBlock) ∧ some k_ ≠ (.slice Ao31 t1074.length co31 : Value).ownBlock) ∧ some k_ ≠ (.slice Ao32 t1077.length co32 : Value).ownBlock)) (n := t1089.length) (c := co40) ?_).2.2; exact (by (with_reducible repeat (first | apply Kd.R_alloc | apply Kd.R_drewN | apply Kd.R_drew)); exact (Kd.R_mono (Kd.R_far (p := ⟨gb1099, 6, none⟩) (Kd.R_far (p := ⟨gb1099, 5, none⟩) (Kd.R_far (p := ⟨gb1099, 4, none⟩) (Kd.R_far (p := ⟨gb1099, 3, none⟩) (Kd.R_far (p := ⟨gb1099, 2, none⟩) (Kd.R_far (p := ⟨gb1099, 1, none⟩) (Kd.R_far (p := ⟨gb1099, 0, none⟩) (Kd.R_types HO1091.out BK1099.out (by decide)) (fun _ hk => hk.2) (.bool t1084)) (fun _ hk => hk.2) (.bool t1085)) (fun _ hk => hk.2) (.slice Ao39 t1086.length co39)) (fun _ hk => hk.2) (.slice Ao40 t1089.length co40)) (fun _ hk => hk.2) (.int .i64 t1092)) (fun _ hk => hk.2) (.int .i64 t1093)) (fun _ hk => hk.2) (.int .i64 t1094)) (fun _ h_ => h_.1)))); (case side4 => exact (Kd.R_reads' HO1091.out).2.1); (case side5 => refine (Kd.R_reads' (e := 3) (base := w.heap.size) (ok := fun k_ => ((((((((some k_ ≠ (.slice Ao24 t1061.length co24 : Value).ownBlock ∧ some k_ ≠ (v1068 : Value).ownBlock) ∧ some k_ ≠ (.slice Ao17 t1047.length co17 : Value).ownBlock) ∧ some k_ ≠ (.slice Ao18 t1050.length co18 : Value).ownBlock) ∧ some k_ ≠ (.slice Ao31 t1074.length co31 : Value).ownBlock) ∧ some k_ ≠ (.slice Ao32 t1077.length co32 : Value).ownBlock) ∧ some k_ ≠ (.slice Ao39 t1086.length co39 : Value).ownBlock) ∧ some k_ ≠ (.slice Ao40 t1089.length co40 : Value).ownBlock) ∧ some k_ ≠ (v1096 : Value).ownBlock)) (n := t1058.length) (c := co23) ?_).2.2; exact (by (with_reducible repeat (first | apply Kd.R_alloc | apply Kd.R_drewN | apply Kd.R_drew)); exact (Kd.R_mono (Kd.R_far (p := ⟨gb1099, 6, none⟩) (Kd.R_far (p := ⟨gb1099, 5, none⟩) (Kd.R_far (p := ⟨gb1099, 4, none⟩) (Kd.R_far (p := ⟨gb1099, 3, none⟩) (Kd.R_far (p := ⟨gb1099, 2, none⟩) (Kd.R_far (p := ⟨gb1099, 1, none⟩) (Kd.R_far (p := ⟨gb1099, 0, none⟩) (Kd.R_types HO1060.out BK1099.out (by decide)) (fun _ hk => hk.2) (.bool t1084)) (fun _ hk => hk.2) (.bool t1085)) (fun _ hk => hk.2) (.slice Ao39 t1086.length co39)) (fun _ hk => hk.2) (.slice Ao40 t1089.length co40)) (fun _ hk => hk.2) (.int .i64 t1092)) (fun _ hk => hk.2) (.int .i64 t1093)) (fun _ hk => hk.2) (.int .i64 t1094)) (fun _ h_ => h_.1)))); (case side6 => exact (Kd.R_reads' HO1060.out).2.1); (case side7 => refine (Kd.R_reads' (e := 3) (base := w.heap.size) (ok := fun k_ => ((((((((some k_ ≠ (.slice Ao23 t1058.length co23 : Value).ownBlock ∧ some k_ ≠ (v1068 : Value).ownBlock) ∧ some k_ ≠ (.slice Ao17 t1047.length co17 : Value).ownBlock) ∧ some k_ ≠ (.slice Ao18 t1050.length co18 : Value).ownBlock) ∧ some k_ ≠ (.slice Ao31 t1074.length co31 : Value).ownBlock) ∧ some k_ ≠ (.slice Ao32 t1077.length co32 : Value).ownBlock) ∧ some k_ ≠ (.slice Ao39 t1086.length co39 : Value).ownBlock) ∧ some k_ ≠ (.slice Ao40 t1089.length co40 : Value).ownBlock) ∧ some k_ ≠ (v1096 : Value).ownBlock)) (n := t1061.length) (c := co24) ?_).2.2; exact (by (with_reducible repeat (first | apply Kd.R_alloc | apply Kd.R_drewN | apply Kd.R_drew)); exact (Kd.R_mono (Kd.R_far (p := ⟨gb1099, 6, none⟩) (Kd.R_far (p := ⟨gb1099, 5, none⟩) (Kd.R_far (p := ⟨gb1099, 4, none⟩) (Kd.R_far (p := ⟨gb1099, 3, none⟩) (Kd.R_far (p := ⟨gb1099, 2, none⟩) (Kd.R_far (p := ⟨gb1099, 1, none⟩) (Kd.R_far (p := ⟨gb1099, 0, none⟩) (Kd.R_types HO1063.out BK1099.out (by decide)) (fun _ hk => hk.2) (.bool t1084)) (fun _ hk => hk.2) (.bool t1085)) (fun _ hk => hk.2) (.slice Ao39 t1086.length co39)) (fun _ hk => hk.2) (.slice Ao40 t1089.length co40)) (fun _ hk => hk.2) (.int .i64 t1092)) (fun _ hk => hk.2) (.int .i64 t1093)) (fun _ hk => hk.2) (.int .i64 t1094)) (fun _ h_ => h_.1)))); (case side8 => exact (Kd.R_reads' HO1063.out).2.1); rintro e w52 ⟨rfl, hb⟩; refine ⟨_, rfl, ?_⟩; replace HO1049 := am (Kd.R_below (by (with_reducible repeat (first | apply Kd.R_alloc | apply Kd.R_drewN | apply Kd.R_drew)); exact (Kd.R_mono (Kd.R_far (p := ⟨gb1099, 6, none⟩) (Kd.R_far (p := ⟨gb1099, 5, none⟩) (Kd.R_far (p := ⟨gb1099, 4, none⟩) (Kd.R_far (p := ⟨gb1099, 3, none⟩) (Kd.R_far (p := ⟨gb1099, 2, none⟩) (Kd.R_far (p := ⟨gb1099, 1, none⟩) (Kd.R_far (p := ⟨gb1099, 0, none⟩) (Kd.R_types HO1049.out BK1099.out (by decide)) (fun _ hk => hk.2) (.bool t1084)) (fun _ hk => hk.2) (.bool t1085)) (fun _ hk => hk.2) (.slice Ao39 t1086.length co39)) (fun _ hk => hk.2) (.slice Ao40 t1089.length co40)) (fun _ hk => hk.2) (.int .i64 t1092)) (fun _ hk => hk.2) (.int .i64 t1093)) (fun _ hk => hk.2) (.int .i64 t1094)) (fun _ h_ => h_.1))) hb); replace HO1052 := am (Kd.R_below (by (with_reducible repeat (first | apply Kd.R_alloc | apply Kd.R_drewN | apply Kd.R_drew)); exact (Kd.R_mono (Kd.R_far (p := ⟨gb1099, 6, none⟩) (Kd.R_far (p := ⟨gb1099, 5, none⟩) (Kd.R_far (p := ⟨gb1099, 4, none⟩) (Kd.R_far (p := ⟨gb1099, 3, none⟩) (Kd.R_far (p := ⟨gb1099, 2, none⟩) (Kd.R_far (p := ⟨gb1099, 1, none⟩) (Kd.R_far (p := ⟨gb1099, 0, none⟩) (Kd.R_types HO1052.out BK1099.out (by decide)) (fun _ hk => hk.2) (.bool t1084)) (fun _ hk => hk.2) (.bool t1085)) (fun _ hk => hk.2) (.slice Ao39 t1086.length co39)) (fun _ hk => hk.2) (.slice Ao40 t1089.length co40)) (fun _ hk => hk.2) (.int .i64 t1092)) (fun _ hk => hk.2) (.int .i64 t1093)) (fun _ hk => hk.2) (.int .i64 t1094)) (fun _ h_ => h_.1))) hb); replace HO1060 := am (Kd.R_below (by (with_reducible repeat (first | apply Kd.R_alloc | apply Kd.R_drewN | apply Kd.R_drew)); exact (Kd.R_mono (Kd.R_far (p := ⟨gb1099, 6, none⟩) (Kd.R_far (p := ⟨gb1099, 5, none⟩) (Kd.R_far (p := ⟨gb1099, 4, none⟩) (Kd.R_far (p := ⟨gb1099, 3, none⟩) (Kd.R_far (p := ⟨gb1099, 2, none⟩) (Kd.R_far (p := ⟨gb1099, 1, none⟩) (Kd.R_far (p := ⟨gb1099, 0, none⟩) (Kd.R_types HO1060.out BK1099.out (by decide)) (fun _ hk => hk.2) (.bool t1084)) (fun _ hk => hk.2) (.bool t1085)) (fun _ hk => hk.2) (.slice Ao39 t1086.length co39)) (fun _ hk => hk.2) (.slice Ao40 t1089.length co40)) (fun _ hk => hk.2) (.int .i64 t1092)) (fun _ hk => hk.2) (.int .i64 t1093)) (fun _ hk => hk.2) (.int .i64 t1094)) (fun _ h_ => h_.1))) hb); replace HO1063 := am (Kd.R_below (by (with_reducible repeat (first | apply Kd.R_alloc | apply Kd.R_drewN | apply Kd.R_drew)); exact (Kd.R_mono (Kd.R_far (p := ⟨gb1099, 6, none⟩) (Kd.R_far (p := ⟨gb1099, 5, none⟩) (Kd.R_far (p := ⟨gb1099, 4, none⟩) (Kd.R_far (p := ⟨gb1099, 3, none⟩) (Kd.R_far (p := ⟨gb1099, 2, none⟩) (Kd.R_far (p := ⟨gb1099, 1, none⟩) (Kd.R_far (p := ⟨gb1099, 0, none⟩) (Kd.R_types HO1063.out BK1099.out (by decide)) (fun _ hk => hk.2) (.bool t1084)) (fun _ hk => hk.2) (.bool t1085)) (fun _ hk => hk.2) (.slice Ao39 t1086.length co39)) (fun _ hk => hk.2) (.slice Ao40 t1089.length co40)) (fun _ hk => hk.2) (.int .i64 t1092)) (fun _ hk => hk.2) (.int .i64 t1093)) (fun _ hk => hk.2) (.int .i64 t1094)) (fun _ h_ => h_.1))) hb); replace HO1069 := am (Kd.R_below (by (with_reducible repeat (first | apply Kd.R_alloc | apply Kd.R_drewN | apply Kd.R_drew)); exact (Kd.R_mono (Kd.R_far (p := ⟨gb1099, 6, none⟩) (Kd.R_far (p := ⟨gb1099, 5, none⟩) (Kd.R_far (p := ⟨gb1099, 4, none⟩) (Kd.R_far (p := ⟨gb1099, 3, none⟩) (Kd.R_far (p := ⟨gb1099, 2, none⟩) (Kd.R_far (p := ⟨gb1099, 1, none⟩) (Kd.R_far (p := ⟨gb1099, 0, none⟩) (Kd.R_types HO1069.out BK1099.out (by decide)) (fun _ hk => hk.2) (.bool t1084)) (fun _ hk => hk.2) (.bool t1085)) (fun _ hk => hk.2) (.slice Ao39 t1086.length co39)) (fun _ hk => hk.2) (.slice Ao40 t1089.length co40)) (fun _ hk => hk.2) (.int .i64 t1092)) (fun _ hk => hk.2) (.int .i64 t1093)) (fun _ hk => hk.2) (.int .i64 t1094)) (fun _ h_ => h_.1))) hb); replace HO1076 := am (Kd.R_below (by (with_reducible repeat (first | apply Kd.R_alloc | apply Kd.R_drewN | apply Kd.R_drew)); exact (Kd.R_mono (Kd.R_far (p := ⟨gb1099, 6, none⟩) (Kd.R_far (p := ⟨gb1099, 5, none⟩) (Kd.R_far (p := ⟨gb1099, 4, none⟩) (Kd.R_far (p := ⟨gb1099, 3, none⟩) (Kd.R_far (p := ⟨gb1099, 2, none⟩) (Kd.R_far (p := ⟨gb1099, 1, none⟩) (Kd.R_far (p := ⟨gb1099, 0, none⟩) (Kd.R_types HO1076.out BK1099.out (by decide)) (fun _ hk => hk.2) (.bool t1084)) (fun _ hk => hk.2) (.bool t1085)) (fun _ hk => hk.2) (.slice Ao39 t1086.length co39)) (fun _ hk => hk.2) (.slice Ao40 t1089.length co40)) (fun _ hk => hk.2) (.int .i64 t1092)) (fun _ hk => hk.2) (.int .i64 t1093)) (fun _ hk => hk.2) (.int .i64 t1094)) (fun _ h_ => h_.1))) hb); replace HO1079 := am (Kd.R_below (by (with_reducible repeat (first | apply Kd.R_alloc | apply Kd.R_drewN | apply Kd.R_drew)); exact (Kd.R_mono (Kd.R_far (p := ⟨gb1099, 6, none⟩) (Kd.R_far (p := ⟨gb1099, 5, none⟩) (Kd.R_far (p := ⟨gb1099, 4, none⟩) (Kd.R_far (p := ⟨gb1099, 3, none⟩) (Kd.R_far (p := ⟨gb1099, 2, none⟩) (Kd.R_far (p := ⟨gb1099, 1, none⟩) (Kd.R_far (p := ⟨gb1099, 0, none⟩) (Kd.R_types HO1079.out BK1099.out (by decide)) (fun _ hk => hk.2) (.bool t1084)) (fun _ hk => hk.2) (.bool t1085)) (fun _ hk => hk.2) (.slice Ao39 t1086.length co39)) (fun _ hk => hk.2) (.slice Ao40 t1089.length co40)) (fun _ hk => hk.2) (.int .i64 t1092)) (fun _ hk => hk.2) (.int .i64 t1093)) (fun _ hk => hk.2) (.int .i64 t1094)) (fun _ h_ => h_.1))) hb); replace HO1088 := am (Kd.Q_below (by (with_reducible repeat (first | apply Kd.Q_alloc | apply Kd.Q_drewN | apply Kd.Q_drew)); exact (Kd.Q_mono (Kd.Q_far (p := ⟨gb1099, 6, none⟩) (Kd.Q_far (p := ⟨gb1099, 5, none⟩) (Kd.Q_far (p := ⟨gb1099, 4, none⟩) (Kd.Q_far (p := ⟨gb1099, 3, none⟩) (Kd.Q_far (p := ⟨gb1099, 2, none⟩) (Kd.Q_far (p := ⟨gb1099, 1, none⟩) (Kd.Q_far (p := ⟨gb1099, 0, none⟩) (Kd.Q_types HO1088.out BK1099.out (by decide)) (fun _ hk => hk.2) (.bool t1084)) (fun _ hk => hk.2) (.bool t1085)) (fun _ hk => hk.2) (.slice Ao39 t1086.length co39)) (fun _ hk => hk.2) (.slice Ao40 t1089.length co40)) (fun _ hk => hk.2) (.int .i64 t1092)) (fun _ hk => hk.2) (.int .i64 t1093)) (fun _ hk => hk.2) (.int .i64 t1094)) (fun _ h_ => h_.1))) hb); replace HO1091 := am (Kd.R_below (by (with_reducible repeat (first | apply Kd.R_alloc | apply Kd.R_drewN | apply Kd.R_drew)); exact (Kd.R_mono (Kd.R_far (p := ⟨gb1099, 6, none⟩) (Kd.R_far (p := ⟨gb1099, 5, none⟩) (Kd.R_far (p := ⟨gb1099, 4, none⟩) (Kd.R_far (p := ⟨gb1099, 3, none⟩) (Kd.R_far (p := ⟨gb1099, 2, none⟩) (Kd.R_far (p := ⟨gb1099, 1, none⟩) (Kd.R_far (p := ⟨gb1099, 0, none⟩) (Kd.R_types HO1091.out BK1099.out (by decide)) (fun _ hk => hk.2) (.bool t1084)) (fun _ hk => hk.2) (.bool t1085)) (fun _ hk => hk.2) (.slice Ao39 t1086.length co39)) (fun _ hk => hk.2) (.slice Ao40 t1089.length co40)) (fun _ hk => hk.2) (.int .i64 t1092)) (fun _ hk => hk.2) (.int .i64 t1093)) (fun _ hk => hk.2) (.int .i64 t1094)) (fun _ h_ => h_.1))) hb); replace HO1097 := am (Kd.R_below (by (with_reducible repeat (first | apply Kd.R_alloc | apply Kd.R_drewN | apply Kd.R_drew)); exact (Kd.R_mono (Kd.R_far (p := ⟨gb1099, 6, none⟩) (Kd.R_far (p := ⟨gb1099, 5, none⟩) (Kd.R_far (p := ⟨gb1099, 4, none⟩) (Kd.R_far (p := ⟨gb1099, 3, none⟩) (Kd.R_far (p := ⟨gb1099, 2, none⟩) (Kd.R_far (p := ⟨gb1099, 1, none⟩) (Kd.R_far (p := ⟨gb1099, 0, none⟩) (Kd.R_types HO1097.out BK1099.out (by decide)) (fun _ hk => hk.2) (.bool t1084)) (fun _ hk => hk.2) (.bool t1085)) (fun _ hk => hk.2) (.slice Ao39 t1086.length co39)) (fun _ hk => hk.2) (.slice Ao40 t1089.length co40)) (fun _ hk => hk.2) (.int .i64 t1092)) (fun _ hk => hk.2) (.int .i64 t1093)) (fun _ hk => hk.2) (.int .i64 t1094)) (fun _ h_ => h_.1))) hb); replace BK1043 := am (blk_below (g := gb1043) (o := .cells #[.bool a0_0, .bool a0_1, .slice A0_2 l0_2.length c0_2, .slice A0_3 l0_3.length c0_3, .int .i64 a0_4, .int .i64 a0_5, .int .i64 a0_6] 24 (0, 0)) (by (with_reducible repeat (first | refine blk_drewN ?_ _ | refine blk_drew ?_ | refine blk_alloc ?_ _)); refine blk_far ?_ NB1043_1099.out _; (with_reducible repeat (first | refine blk_drewN ?_ _ | refine blk_drew ?_ | refine blk_alloc ?_ _)); refine blk_far ?_ NB1043_1099.out _; (with_reducible repeat (first | refine blk_drewN ?_ _ | refine blk_drew ?_ | refine blk_alloc ?_ _)); refine blk_far ?_ NB1043_1099.out _; (with_reducible repeat (first | refine blk_drewN ?_ _ | refine blk_drew ?_ | refine blk_alloc ?_ _)); refine blk_far ?_ NB1043_1099.out _; (with_reducible repeat (first | refine blk_drewN ?_ _ | refine blk_drew ?_ | refine blk_alloc ?_ _)); refine blk_far ?_ NB1043_1099.out _; (with_reducible repeat (first | refine blk_drewN ?_ _ | refine blk_drew ?_ | refine blk_alloc ?_ _)); refine blk_far ?_ NB1043_1099.out _; (with_reducible repeat (first | refine blk_drewN ?_ _ | refine blk_drew ?_ | refine blk_alloc ?_ _)); refine blk_far ?_ NB1043_1099.out _; exact pkK BK1043.out) hb); replace BK1071 := am (blk_below (g := gb1071) (o := .cells #[.bool t1056, .bool t1057, .slice Ao23 t1058.length co23, .slice Ao24 t1061.length co24, .int .i64 t1064, .int .i64 t1065, .int .i64 t1066] 27 (0, 0)) (by (with_reducible repeat (first | refine blk_drewN ?_ _ | refine blk_drew ?_ | refine blk_alloc ?_ _)); refine blk_far ?_ NB1071_1099.out _; (with_reducible repeat (first | refine blk_drewN ?_ _ | refine blk_drew ?_ | refine blk_alloc ?_ _)); refine blk_far ?_ NB1071_1099.out _; (with_reducible repeat (first | refine blk_drewN ?_ _ | refine blk_drew ?_ | refine blk_alloc ?_ _)); refine blk_far ?_ NB1071_1099.out _; (with_reducible repeat (first | refine blk_drewN ?_ _ | refine blk_drew ?_ | refine blk_alloc ?_ _)); refine blk_far ?_ NB1071_1099.out _; (with_reducible repeat (first | refine blk_drewN ?_ _ | refine blk_drew ?_ | refine blk_alloc ?_ _)); refine blk_far ?_ NB1071_1099.out _; (with_reducible repeat (first | refine blk_drewN ?_ _ | refine blk_drew ?_ | refine blk_alloc ?_ _)); refine blk_far ?_ NB1071_1099.out _; (with_reducible repeat (first | refine blk_drewN ?_ _ | refine blk_drew ?_ | refine blk_alloc ?_ _)); refine blk_far ?_ NB1071_1099.out _; exact pkK BK1071.out) hb); replace BK1083 := am (blk_below (g := gb1083) (o := .cells #[.bool t1072, .bool t1073, .slice Ao31 t1074.length co31, .slice Ao32 t1077.length co32, .int .i64 t1080, .int .i64 t1081, .int .i64 t1082] 27 (0, 0)) (by (with_reducible repeat (first | refine blk_drewN ?_ _ | refine blk_drew ?_ | refine blk_alloc ?_ _)); refine blk_far ?_ NB1083_1099.out _; (with_reducible repeat (first | refine blk_drewN ?_ _ | refine blk_drew ?_ | refine blk_alloc ?_ _)); refine blk_far ?_ NB1083_1099.out _; (with_reducible repeat (first | refine blk_drewN ?_ _ | refine blk_drew ?_ | refine blk_alloc ?_ _)); refine blk_far ?_ NB1083_1099.out _; (with_reducible repeat (first | refine blk_drewN ?_ _ | refine blk_drew ?_ | refine blk_alloc ?_ _)); refine blk_far ?_ NB1083_1099.out _; (with_reducible repeat (first | refine blk_drewN ?_ _ | refine blk_drew ?_ | refine blk_alloc ?_ _)); refine blk_far ?_ NB1083_1099.out _; (with_reducible repeat (first | refine blk_drewN ?_ _ | refine blk_drew ?_ | refine blk_alloc ?_ _)); refine blk_far ?_ NB1083_1099.out _; (with_reducible repeat (first | refine blk_drewN ?_ _ | refine blk_drew ?_ | refine blk_alloc ?_ _)); refine blk_far ?_ NB1083_1099.out _; exact pkK BK1083.out) hb); replace BK1099 := am (blk_below (g := gb1099) (o := .cells #[.bool t1084, .bool t1085, .slice Ao39 t1086.length co39, .slice Ao40 t1089.length co40, .int .i64 t1092, .int .i64 t1093, .int .i64 t1094] 27 (0, 0)) (by (with_reducible repeat (first | refine blk_drewN ?_ _ | refine blk_drew ?_ | refine blk_alloc ?_ _)); refine blk_put (cs := #[.bool t1084, .bool t1085, .slice Ao39 t1086.length co39, .slice Ao40 t1089.length co40, .int .i64 t1092, .int .i64 t1093, .int .i64 0]) ?_ 6 _ rfl; (with_reducible repeat (first | refine blk_drewN ?_ _ | refine blk_drew ?_ | refine blk_alloc ?_ _)); refine blk_put (cs := #[.bool t1084, .bool t1085, .slice Ao39 t1086.length co39, .slice Ao40 t1089.length co40, .int .i64 t1092, .int .i64 0, .int .i64 0]) ?_ 5 _ rfl; (with_reducible repeat (first | refine blk_drewN ?_ _ | refine blk_drew ?_ | refine blk_alloc ?_ _)); refine blk_put (cs := #[.bool t1084, .bool t1085, .slice Ao39 t1086.length co39, .slice Ao40 t1089.length co40, .int .i64 0, .int .i64 0, .int .i64 0]) ?_ 4 _ rfl; (with_reducible repeat (first | refine blk_drewN ?_ _ | refine blk_drew ?_ | refine blk_alloc ?_ _)); refine blk_put (cs := #[.bool t1084, .bool t1085, .slice Ao39 t1086.length co39, .slice none 0 0, .int .i64 0, .int .i64 0, .int .i64 0]) ?_ 3 _ rfl; (with_reducible repeat (first | refine blk_drewN ?_ _ | refine blk_drew ?_ | refine blk_alloc ?_ _)); refine blk_put (cs := #[.bool t1084, .bool t1085, .slice none 0 0, .slice none 0 0, .int .i64 0, .int .i64 0, .int .i64 0]) ?_ 2 _ rfl; (with_reducible repeat (first | refine blk_drewN ?_ _ | refine blk_drew ?_ | refine blk_alloc ?_ _)); refine blk_put (cs := #[.bool t1084, .bool false, .slice none 0 0, .slice none 0 0, .int .i64 0, .int .i64 0, .int .i64 0]) ?_ 1 _ rfl; (with_reducible repeat (first | refine blk_drewN ?_ _ | refine blk_drew ?_ | refine blk_alloc ?_ _)); refine blk_put (cs := #[.bool false, .bool false, .slice none 0 0, .slice none 0 0, .int .i64 0, .int .i64 0, .int .i64 0]) ?_ 0 _ rfl; exact pkK BK1099.out) hb); replace HB := am (below_step (pkW HB.out) hb); (try clear hb); obtain ⟨Ao53, co53, eo53⟩ := Kd.R_slice HO1097.out; subst eo53; obtain ⟨Ao54, co54, eo54⟩ := Kd.R_slice HO1069.out; subst eo54) | (go_at_call 34; (with_reducible refine (laws_eqIntS.calls k _ _ t1095 _ _ t1067 true _ ?side1 ?side2 ?side3 ?side4 A43.out).mono ?_); (case side1 => exact pkC (Kd.R_reads' HO1097.out).2.2); (case side2 => exact (Kd.R_reads' HO1097.out).2.1); (case side3 => exact pkC (Kd.R_reads' HO1069.out).2.2); (case side4 => exact (Kd.R_reads' HO1069.out).2.1); rintro e w' ⟨rfl, ⟨nd, rfl⟩⟩))
     go_meet
     case rel => exact ⟨_, ((t1098 != t1070)), rfx, H', ⟨by first | omega | exact Nat.le_refl _⟩, ⟨by (with_reducible repeat (first | apply Kd.R_alloc | apply Kd.R_drewN | apply Kd.R_drew)); exact Kd.R_mono HO1069.out (fun _ hk => ⟨hk.2, ⟨hk.1.1.1.1.1.1.1.1, ⟨hk.1.1.1.1.1.1.1.2, ⟨hk.1.1.1.1.2, ⟨hk.1.1.1.2, ⟨hk.1.1.2, hk.1.2⟩⟩⟩⟩⟩⟩)⟩, ⟨Kd.Q_of_R (by (with_reducible repeat (first | apply Kd.R_alloc | apply Kd.R_drewN | apply Kd.R_drew)); exact Kd.R_mono HO1097.out (fun _ hk => ⟨hk.1.1.2, ⟨hk.1.1.1.1.2, ⟨hk.1.1.1.2, ⟨hk.1.2, ⟨hk.2, ⟨hk.1.1.1.1.1.1.1.1, hk.1.1.1.1.1.1.1.2⟩⟩⟩⟩⟩⟩))⟩, ⟨Kd.Q_of_R (by (with_reducible repeat (first | apply Kd.R_alloc | apply Kd.R_drewN | apply Kd.R_drew)); exact Kd.R_mono HO1060.out (fun _ hk => ⟨hk.1.1.1.1.1.1.1.2, ⟨hk.2, ⟨hk.1.1.1.1.1.1.1.1, ⟨hk.1.1.1.1.2, ⟨hk.1.1.1.2, ⟨hk.1.1.2, hk.1.2⟩⟩⟩⟩⟩⟩))⟩, ⟨by (with_reducible repeat (first | apply Kd.R_alloc | apply Kd.R_drewN | apply Kd.R_drew)); exact Kd.R_mono HO1063.out (fun _ hk => ⟨hk.1.1.1.1.1.1.1.2, ⟨hk.2, ⟨hk.1.1.1.1.1.1.1.1, ⟨hk.1.1.1.1.2, ⟨hk.1.1.1.2, ⟨hk.1.1.2, hk.1.2⟩⟩⟩⟩⟩⟩)⟩, ⟨Kd.Q_of_R (by (with_reducible repeat (first | apply Kd.R_alloc | apply Kd.R_drewN | apply Kd.R_drew)); exact Kd.R_mono HO1076.out (fun _ hk => ⟨hk.1.1.1.2, ⟨hk.2, ⟨hk.1.1.1.1.1.2, ⟨hk.1.1.1.1.2, ⟨hk.1.1.1.1.1.1.1.1, ⟨hk.1.1.2, hk.1.2⟩⟩⟩⟩⟩⟩))⟩, ⟨Kd.Q_of_R (by (with_reducible repeat (first | apply Kd.R_alloc | apply Kd.R_drewN | apply Kd.R_drew)); exact Kd.R_mono HO1079.out (fun _ hk => ⟨hk.1.1.1.2, ⟨hk.2, ⟨hk.1.1.1.1.1.2, ⟨hk.1.1.1.1.2, ⟨hk.1.1.1.1.1.1.1.1, ⟨hk.1.1.2, hk.1.2⟩⟩⟩⟩⟩⟩))⟩, ⟨by (with_reducible repeat (first | apply Kd.Q_alloc | apply Kd.Q_drewN | apply Kd.Q_drew)); exact Kd.Q_mono HO1088.out (fun _ hk => ⟨hk.1.1.2, ⟨hk.1.1.1.1.1.1.1.2, ⟨hk.1.1.1.1.2, ⟨hk.1.1.1.2, ⟨hk.1.2, ⟨hk.2, hk.1.1.1.1.1.1.1.1⟩⟩⟩⟩⟩⟩)⟩, ⟨Kd.Q_of_R (by (with_reducible repeat (first | apply Kd.R_alloc | apply Kd.R_drewN | apply Kd.R_drew)); exact Kd.R_mono HO1091.out (fun _ hk => ⟨hk.1.1.2, ⟨hk.1.1.1.1.1.1.1.2, ⟨hk.1.1.1.1.2, ⟨hk.1.1.1.2, ⟨hk.1.2, ⟨hk.2, hk.1.1.1.1.1.1.1.1⟩⟩⟩⟩⟩⟩))⟩, ⟨pkK BK1043.out⟩, ⟨pkK BK1071.out⟩, ⟨pkK BK1083.out⟩, ⟨pkK BK1099.out⟩, ⟨pkW HB.out⟩⟩
    ·replace c44 := Bool.eq_false_iff.mpr c44
     subst c44
     replace H : (laws_FnExactRaise.j0 k t1067 t1070 t1095 t1098 true a0_0 a0_1 l0_2 l0_3 a0_4 a0_5 a0_6 t1056 t1057 t1058 t1061 t1064 t1065 t1066 t1072 t1073 t1074 t1077 t1080 t1081 t1082 t1084 t1085 t1086 t1089 t1092 t1093 t1094) = some r := by rw [if_neg (show ¬ (false = true) by decide)] at H; exact H
     cases k with
     | zero => exact absurd H (by simp [laws_FnExactRaise.j0])
     | succ k_ => (simp only [laws_FnExactRaise.j0, if_pos] at H; exact absurd (Option.some.inj H) (by rw [HQ_.out]; simp))
   ·replace c42 := Bool.eq_false_iff.mpr c42
    subst c42
    replace H : (laws_FnExactRaise.j0 k t1067 t1070 t1095 t1098 true a0_0 a0_1 l0_2 l0_3 a0_4 a0_5 a0_6 t1056 t1057 t1058 t1061 t1064 t1065 t1066 t1072 t1073 t1074 t1077 t1080 t1081 t1082 t1084 t1085 t1086 t1089 t1092 t1093 t1094) = some r := by rw [if_neg (show ¬ (false = true) by decide)] at H; exact H
    cases k with
    | zero => exact absurd H (by simp [laws_FnExactRaise.j0])
    | succ k_ => (simp only [laws_FnExactRaise.j0, if_pos] at H; exact absurd (Option.some.inj H) (by rw [HQ_.out]; simp))
  case rest =>
   clear HC11
   try clear c1
   try clear c2
   try clear p2
   try clear c3
   try clear c3b0
   try clear c4
   try clear c5
   try clear c9
   try clear c14
   try clear c16
   try clear c18
   try clear c21
   try clear c28
   try clear c29
   try clear c35
   try clear c36
   try clear c37
   try clear c39
   try clear c40
   try clear c42
   try clear c44
   try clear c45
   try clear c46
   try clear c47
   try clear c49
   try clear c50
   try clear hcz13_0
   try clear hcz13_1
   try clear hcz13_2
   try clear hcz13_3
   try clear hcz13_4
   try clear hcz13_5
   try clear hcz13_6
   try clear hcz15_0
   try clear hcz15_1
   try clear hcz15_2
   try clear hcz15_3
   try clear hcz15_4
   try clear hcz15_5
   try clear hcz15_6
   try clear hcz22_0
   try clear hcz22_1
   try clear hcz22_2
   try clear hcz22_3
   try clear hcz22_4
   try clear hcz22_5
   try clear hcz22_6
   try clear hcz25_0
   try clear hcz25_1
   try clear hcz25_2
   try clear hcz25_3
   try clear hcz25_4
   try clear hcz25_5
   try clear hcz25_6
   try clear hcz30_0
   try clear hcz30_1
   try clear hcz30_2
   try clear hcz30_3
   try clear hcz30_4
   try clear hcz30_5
   try clear hcz30_6
   try clear hcz38_0
   try clear hcz38_1
   try clear hcz38_2
   try clear hcz38_3
   try clear hcz38_4
   try clear hcz38_5
   try clear hcz38_6
   try clear hcz48_0
   try clear hcz48_1
   try clear hcz48_2
   try clear hcz48_3
   try clear hcz48_4
   try clear hcz48_5
   try clear hcz48_6
   try clear hcz51_0
   try clear hcz51_1
   try clear hcz51_2
   try clear hcz51_3
   try clear hcz51_4
   try clear hcz51_5
   try clear hcz51_6
   try clear hcz5_0
   try clear hcz5_1
   try clear hcz5_2
   try clear hcz5_3
   try clear hcz5_4
   try clear hcz5_5
   try clear hcz5_6
   try clear hfz13_0
   try clear hfz13_1
   try clear hfz13_2
   try clear hfz13_3
   try clear hfz13_4
   try clear hfz13_5
   try clear hfz13_6
   try clear hfz15_0
   try clear hfz15_1
   try clear hfz15_2
   try clear hfz15_3
   try clear hfz15_4
   try clear hfz15_5
   try clear hfz15_6
   try clear hfz22_0
   try clear hfz22_1
   try clear hfz22_2
   try clear hfz22_3
   try clear hfz22_4
   try clear hfz22_5
   try clear hfz22_6
   try clear hfz25_0
   try clear hfz25_1
   try clear hfz25_2
   try clear hfz25_3
   try clear hfz25_4
   try clear hfz25_5
   try clear hfz25_6
   try clear hfz30_0
   try clear hfz30_1
   try clear hfz30_2
   try clear hfz30_3
   try clear hfz30_4
   try clear hfz30_5
   try clear hfz30_6
   try clear hfz38_0
   try clear hfz38_1
   try clear hfz38_2
   try clear hfz38_3
   try clear hfz38_4
   try clear hfz38_5
   try clear hfz38_6
   try clear hfz48_0
   try clear hfz48_1
   try clear hfz48_2
   try clear hfz48_3
   try clear hfz48_4
   try clear hfz48_5
   try clear hfz48_6
   try clear hfz51_0
   try clear hfz51_1
   try clear hfz51_2
   try clear hfz51_3
   try clear hfz51_4
   try clear hfz51_5
   try clear hfz51_6
   try clear hfz5_0
   try clear hfz5_1
   try clear hfz5_2
   try clear hfz5_3
   try clear hfz5_4
   try clear hfz5_5
   try clear hfz5_6
   obtain ⟨kq, x51_10, rfl, HA, HJ10, HO_5, HO_9, HO_1072002, HO_1072003, HO_1084002, HO_1084003, HO_1100002, HO_1100003, BK1043, BK1071, BK1083, BK1099, HB⟩ := hcut
   cases kq with
   | zero => exact absurd HA.out (by simp [laws_FnExactRaise.j0])
   | succ kj10 =>
    have H := HA.out
    clear HA
    simp only [laws_FnExactRaise.j0] at H
    by_cases c55 : x51_10 = true
    ·subst c55
     replace H : (some false) = some r := by rw [if_pos rfl] at H; exact H
     exact absurd (Option.some.inj H) (by rw [HQ_.out]; simp)
    ·replace c55 := Bool.eq_false_iff.mpr c55
     subst c55
     replace H : ((laws_toEvent.f kj10 a0_0 a0_1 l0_2 l0_3 a0_4 a0_5 a0_6).bind fun bt1102 => ((laws_eqEvent.f kj10 t1072 t1073 t1074 t1077 t1080 t1081 t1082 bt1102.1 bt1102.2.1 bt1102.2.2.1 bt1102.2.2.2.1 bt1102.2.2.2.2.1 bt1102.2.2.2.2.2.1 bt1102.2.2.2.2.2.2).bind fun t1113 => (if t1113 = true then ((laws_markEvent.f kj10 t1072 t1073 t1074 t1077 t1080 t1081 t1082 1).bind fun bt1114 => (if bt1114.1 < 0 then (laws_FnExactRaise.j1 kj10 t1067 t1070 t1095 true a0_0 a0_1 l0_2 l0_3 a0_4 a0_5 a0_6 t1056 t1057 t1058 t1061 t1064 t1065 t1066 t1084 t1085 t1086 t1089 t1092 t1093 t1094) else ((laws_eqEvent.f kj10 t1084 t1085 t1086 t1089 t1092 t1093 t1094 t1056 t1057 t1058 t1061 t1064 t1065 t1066).bind fun t1117 => (if t1117 = true then ((laws_eqIntS.f kj10 t1095 t1067).bind fun t1118 => (if t1118 = true then (laws_FnExactRaise.j1 kj10 t1067 t1070 t1095 (t1098 != t1070) a0_0 a0_1 l0_2 l0_3 a0_4 a0_5 a0_6 t1056 t1057 t1058 t1061 t1064 t1065 t1066 t1084 t1085 t1086 t1089 t1092 t1093 t1094) else (laws_FnExactRaise.j1 kj10 t1067 t1070 t1095 true a0_0 a0_1 l0_2 l0_3 a0_4 a0_5 a0_6 t1056 t1057 t1058 t1061 t1064 t1065 t1066 t1084 t1085 t1086 t1089 t1092 t1093 t1094))) else (laws_FnExactRaise.j1 kj10 t1067 t1070 t1095 true a0_0 a0_1 l0_2 l0_3 a0_4 a0_5 a0_6 t1056 t1057 t1058 t1061 t1064 t1065 t1066 t1084 t1085 t1086 t1089 t1092 t1093 t1094))))) else (some false)))) = some r := by rw [if_neg (show ¬ (false = true) by decide)] at H; exact H
     replace H := Option.bind_eq_some_iff.mp H
     obtain ⟨⟨t1102, t1103, t1104, t1107, t1110, t1111, t1112⟩, A560, H⟩ := H
     replace H : ((laws_eqEvent.f kj10 t1072 t1073 t1074 t1077 t1080 t1081 t1082 t1102 t1103 t1104 t1107 t1110 t1111 t1112).bind fun t1113 => (if t1113 = true then ((laws_markEvent.f kj10 t1072 t1073 t1074 t1077 t1080 t1081 t1082 1).bind fun bt1114 => (if bt1114.1 < 0 then (laws_FnExactRaise.j1 kj10 t1067 t1070 t1095 true a0_0 a0_1 l0_2 l0_3 a0_4 a0_5 a0_6 t1056 t1057 t1058 t1061 t1064 t1065 t1066 t1084 t1085 t1086 t1089 t1092 t1093 t1094) else ((laws_eqEvent.f kj10 t1084 t1085 t1086 t1089 t1092 t1093 t1094 t1056 t1057 t1058 t1061 t1064 t1065 t1066).bind fun t1117 => (if t1117 = true then ((laws_eqIntS.f kj10 t1095 t1067).bind fun t1118 => (if t1118 = true then (laws_FnExactRaise.j1 kj10 t1067 t1070 t1095 (t1098 != t1070) a0_0 a0_1 l0_2 l0_3 a0_4 a0_5 a0_6 t1056 t1057 t1058 t1061 t1064 t1065 t1066 t1084 t1085 t1086 t1089 t1092 t1093 t1094) else (laws_FnExactRaise.j1 kj10 t1067 t1070 t1095 true a0_0 a0_1 l0_2 l0_3 a0_4 a0_5 a0_6 t1056 t1057 t1058 t1061 t1064 t1065 t1066 t1084 t1085 t1086 t1089 t1092 t1093 t1094))) else (laws_FnExactRaise.j1 kj10 t1067 t1070 t1095 true a0_0 a0_1 l0_2 l0_3 a0_4 a0_5 a0_6 t1056 t1057 t1058 t1061 t1064 t1065 t1066 t1084 t1085 t1086 t1089 t1092 t1093 t1094))))) else (some false))) = some r := H
     have A56 := am A560
     clear A560
     replace H := Option.bind_eq_some_iff.mp H
     obtain ⟨t1113, A570, H⟩ := H
     replace H : (if t1113 = true then ((laws_markEvent.f kj10 t1072 t1073 t1074 t1077 t1080 t1081 t1082 1).bind fun bt1114 => (if bt1114.1 < 0 then (laws_FnExactRaise.j1 kj10 t1067 t1070 t1095 true a0_0 a0_1 l0_2 l0_3 a0_4 a0_5 a0_6 t1056 t1057 t1058 t1061 t1064 t1065 t1066 t1084 t1085 t1086 t1089 t1092 t1093 t1094) else ((laws_eqEvent.f kj10 t1084 t1085 t1086 t1089 t1092 t1093 t1094 t1056 t1057 t1058 t1061 t1064 t1065 t1066).bind fun t1117 => (if t1117 = true then ((laws_eqIntS.f kj10 t1095 t1067).bind fun t1118 => (if t1118 = true then (laws_FnExactRaise.j1 kj10 t1067 t1070 t1095 (t1098 != t1070) a0_0 a0_1 l0_2 l0_3 a0_4 a0_5 a0_6 t1056 t1057 t1058 t1061 t1064 t1065 t1066 t1084 t1085 t1086 t1089 t1092 t1093 t1094) else (laws_FnExactRaise.j1 kj10 t1067 t1070 t1095 true a0_0 a0_1 l0_2 l0_3 a0_4 a0_5 a0_6 t1056 t1057 t1058 t1061 t1064 t1065 t1066 t1084 t1085 t1086 t1089 t1092 t1093 t1094))) else (laws_FnExactRaise.j1 kj10 t1067 t1070 t1095 true a0_0 a0_1 l0_2 l0_3 a0_4 a0_5 a0_6 t1056 t1057 t1058 t1061 t1064 t1065 t1066 t1084 t1085 t1086 t1089 t1092 t1093 t1094))))) else (some false)) = some r := H
     have A57 := am A570
     clear A570
     by_cases c58 : t1113 = true
     ·subst c58
      replace H : ((laws_markEvent.f kj10 t1072 t1073 t1074 t1077 t1080 t1081 t1082 1).bind fun bt1114 => (if bt1114.1 < 0 then (laws_FnExactRaise.j1 kj10 t1067 t1070 t1095 true a0_0 a0_1 l0_2 l0_3 a0_4 a0_5 a0_6 t1056 t1057 t1058 t1061 t1064 t1065 t1066 t1084 t1085 t1086 t1089 t1092 t1093 t1094) else ((laws_eqEvent.f kj10 t1084 t1085 t1086 t1089 t1092 t1093 t1094 t1056 t1057 t1058 t1061 t1064 t1065 t1066).bind fun t1117 => (if t1117 = true then ((laws_eqIntS.f kj10 t1095 t1067).bind fun t1118 => (if t1118 = true then (laws_FnExactRaise.j1 kj10 t1067 t1070 t1095 (t1098 != t1070) a0_0 a0_1 l0_2 l0_3 a0_4 a0_5 a0_6 t1056 t1057 t1058 t1061 t1064 t1065 t1066 t1084 t1085 t1086 t1089 t1092 t1093 t1094) else (laws_FnExactRaise.j1 kj10 t1067 t1070 t1095 true a0_0 a0_1 l0_2 l0_3 a0_4 a0_5 a0_6 t1056 t1057 t1058 t1061 t1064 t1065 t1066 t1084 t1085 t1086 t1089 t1092 t1093 t1094))) else (laws_FnExactRaise.j1 kj10 t1067 t1070 t1095 true a0_0 a0_1 l0_2 l0_3 a0_4 a0_5 a0_6 t1056 t1057 t1058 t1061 t1064 t1065 t1066 t1084 t1085 t1086 t1089 t1092 t1093 t1094))))) = some r := by rw [if_pos rfl] at H; exact H
      replace H := Option.bind_eq_some_iff.mp H
      obtain ⟨⟨t1114, t1115, t1116⟩, A590, H⟩ := H
      replace H : (if t1114 < 0 then (laws_FnExactRaise.j1 kj10 t1067 t1070 t1095 true a0_0 a0_1 l0_2 l0_3 a0_4 a0_5 a0_6 t1056 t1057 t1058 t1061 t1064 t1065 t1066 t1084 t1085 t1086 t1089 t1092 t1093 t1094) else ((laws_eqEvent.f kj10 t1084 t1085 t1086 t1089 t1092 t1093 t1094 t1056 t1057 t1058 t1061 t1064 t1065 t1066).bind fun t1117 => (if t1117 = true then ((laws_eqIntS.f kj10 t1095 t1067).bind fun t1118 => (if t1118 = true then (laws_FnExactRaise.j1 kj10 t1067 t1070 t1095 (t1098 != t1070) a0_0 a0_1 l0_2 l0_3 a0_4 a0_5 a0_6 t1056 t1057 t1058 t1061 t1064 t1065 t1066 t1084 t1085 t1086 t1089 t1092 t1093 t1094) else (laws_FnExactRaise.j1 kj10 t1067 t1070 t1095 true a0_0 a0_1 l0_2 l0_3 a0_4 a0_5 a0_6 t1056 t1057 t1058 t1061 t1064 t1065 t1066 t1084 t1085 t1086 t1089 t1092 t1093 t1094))) else (laws_FnExactRaise.j1 kj10 t1067 t1070 t1095 true a0_0 a0_1 l0_2 l0_3 a0_4 a0_5 a0_6 t1056 t1057 t1058 t1061 t1064 t1065 t1066 t1084 t1085 t1086 t1089 t1092 t1093 t1094)))) = some r := H
      have A59 := am A590
      clear A590
      have HC60 := am H
      clear H
      try go_wp2
      replace HO_5 := am (Kd.R_drew HO_5.out)
      replace HO_9 := am (Kd.Q_drew HO_9.out)
      replace HO_1072002 := am (Kd.Q_drew HO_1072002.out)
      replace HO_1072003 := am (Kd.R_drew HO_1072003.out)
      replace HO_1084002 := am (Kd.Q_drew HO_1084002.out)
      replace HO_1084003 := am (Kd.Q_drew HO_1084003.out)
      replace HO_1100002 := am (Kd.Q_drew HO_1100002.out)
      replace HO_1100003 := am (Kd.Q_drew HO_1100003.out)
      replace BK1043 := am (blk_drew BK1043.out)
      replace BK1071 := am (blk_drew BK1071.out)
      replace BK1083 := am (blk_drew BK1083.out)
      replace BK1099 := am (blk_drew BK1099.out)
      replace HB := am (below_drew1 HB.out)
      refine start_ (n := 5) (S := fun w' => w'.cell? ⟨gb1083, 0, none⟩ = some (.bool t1072) ∧ w'.cell? ⟨gb1083, 1, none⟩ = some (.bool t1073) ∧ w'.cell? ⟨gb1083, 2, none⟩ = some (.slice Ao31 t1074.length co31) ∧ w'.cell? ⟨gb1083, 3, none⟩ = some (.slice Ao32 t1077.length co32) ∧ w'.cell? ⟨gb1083, 4, none⟩ = some (.int .i64 t1080) ∧ w'.cell? ⟨gb1083, 5, none⟩ = some (.int .i64 t1081) ∧ w'.cell? ⟨gb1083, 6, none⟩ = some (.int .i64 t1082) ∧ w'.cell? ⟨gb1043, 0, none⟩ = some (.bool a0_0) ∧ w'.cell? ⟨gb1043, 1, none⟩ = some (.bool a0_1) ∧ w'.cell? ⟨gb1043, 2, none⟩ = some (.slice A0_2 l0_2.length c0_2) ∧ w'.cell? ⟨gb1043, 3, none⟩ = some (.slice A0_3 l0_3.length c0_3) ∧ w'.cell? ⟨gb1043, 4, none⟩ = some (.int .i64 a0_4) ∧ w'.cell? ⟨gb1043, 5, none⟩ = some (.int .i64 a0_5) ∧ w'.cell? ⟨gb1043, 6, none⟩ = some (.int .i64 a0_6)) (ds := []) #[false, false, false, false, false] (by kernel_rfl) rfl rfl ⟨(blk_cell BK1083.out 0).trans rfl, (blk_cell BK1083.out 1).trans rfl, (blk_cell BK1083.out 2).trans rfl, (blk_cell BK1083.out 3).trans rfl, (blk_cell BK1083.out 4).trans rfl, (blk_cell BK1083.out 5).trans rfl, (blk_cell BK1083.out 6).trans rfl, (blk_cell BK1043.out 0).trans rfl, (blk_cell BK1043.out 1).trans rfl, (blk_cell BK1043.out 2).trans rfl, (blk_cell BK1043.out 3).trans rfl, (blk_cell BK1043.out 4).trans rfl, (blk_cell BK1043.out 5).trans rfl, (blk_cell BK1043.out 6).trans rfl⟩ (fun hHeld => ?_)
      generalize wc.drew = w61 at HO_5 HO_9 HO_1072002 HO_1072003 HO_1084002 HO_1084003 HO_1100002 HO_1100003 BK1043 BK1071 BK1083 BK1099 HB hHeld ⊢
      refine take_ (i := 0) (N := some 52) (v := ?_) (a' := ?_) #[true, false, false, false, false] rfl rfl (by kernel_rfl) (fun _ _ _ h => h) (Or.inl ⟨by rfl, ?_⟩) hHeld ?_ ?_
      rotate_left
      ·rintro w' ⟨s0, s1, s2, s3, s4, s5, s6, s7, s8, s9, s10, s11, s12, s13⟩
       go_simp
       with_reducible rfl
      rotate_left
      ·simp only [Act.put, List.setIfInBounds_toArray, List.set_cons_zero, List.set_cons_succ, i64_w, i32_w]
       rfl
      refine take_ (i := 1) (N := some 53) (v := ?_) (a' := ?_) #[true, true, false, false, false] rfl rfl (by kernel_rfl) (fun _ _ _ h => h) (Or.inl ⟨by rfl, ?_⟩) hHeld ?_ ?_
      rotate_left
      ·rintro w' ⟨s0, s1, s2, s3, s4, s5, s6, s7, s8, s9, s10, s11, s12, s13⟩
       go_simp
       with_reducible rfl
      rotate_left
      ·simp only [Act.put, List.setIfInBounds_toArray, List.set_cons_zero, List.set_cons_succ, i64_w, i32_w]
       rfl
      refine one_ (i := 2) (N := some 54) #[true, true, true, false, false] rfl rfl (by kernel_rfl) (by decide) (fun K hK => ?_)
      refine goes_ Try.func16 (by kernel_rfl) rfl #[.agg #[.bool a0_0, .bool a0_1, .slice A0_2 l0_2.length c0_2, .slice A0_3 l0_3.length c0_3, .int .i64 a0_4, .int .i64 a0_5, .int .i64 a0_6]] (by rfl) rfl rfl mpx ?_
      with_reducible refine (laws_toEvent.calls kj10 a0_0 a0_1 _ _ l0_2 _ _ l0_3 a0_4 a0_5 a0_6 t1102 t1103 t1104 t1107 t1110 t1111 t1112 _ ?side1 ?side2 ?side3 ?side4 A56.out).mono ?_
      (case side1 => exact pkC (Kd.C_below HR0_2.out HB.out))
      (case side2 => exact HC0_2.out)
      (case side3 => exact pkC (Kd.C_below HR0_3.out HB.out))
      (case side4 => exact HC0_3.out)
      rintro e w62 ⟨v1105, v1108, rfl, ho0, ho1, hb⟩
      refine ⟨_, rfl, ?_⟩
      have HO1106 := am (Kd.R_lower (Kd.R_new' (Kd.R_new' (Kd.R_new' (Kd.R_new' (Kd.R_new' (Kd.R_new' (Kd.R_new' (Kd.R_new' ho0 (Kd.R_lt (pkR HO_5.out))) (Kd.Q_lt (pkQ HO_9.out))) (Kd.Q_lt (pkQ HO_1072002.out))) (Kd.R_lt (pkR HO_1072003.out))) (Kd.Q_lt (pkQ HO_1084002.out))) (Kd.Q_lt (pkQ HO_1084003.out))) (Kd.Q_lt (pkQ HO_1100002.out))) (Kd.Q_lt (pkQ HO_1100003.out))) (below_size (pkW HB.out)))
      have HO1109 := am (Kd.R_lower (Kd.R_new' (Kd.R_new' (Kd.R_new' (Kd.R_new' (Kd.R_new' (Kd.R_new' (Kd.R_new' (Kd.R_new' ho1 (Kd.R_lt (pkR HO_5.out))) (Kd.Q_lt (pkQ HO_9.out))) (Kd.Q_lt (pkQ HO_1072002.out))) (Kd.R_lt (pkR HO_1072003.out))) (Kd.Q_lt (pkQ HO_1084002.out))) (Kd.Q_lt (pkQ HO_1084003.out))) (Kd.Q_lt (pkQ HO_1100002.out))) (Kd.Q_lt (pkQ HO_1100003.out))) (below_size (pkW HB.out)))
      replace HO_5 := am (Kd.R_mono (Kd.R_told (Kd.R_told (Kd.R_old (pkR HO_5.out) hb) (Kd.R_base ho0)) (Kd.R_base ho1)) (fun _ h_ => h_.1))
      replace HO_9 := am (Kd.Q_mono (Kd.Q_told (Kd.Q_told (Kd.Q_old (pkQ HO_9.out) hb) (Kd.R_base ho0)) (Kd.R_base ho1)) (fun _ h_ => h_.1))
      replace HO_1072002 := am (Kd.Q_mono (Kd.Q_told (Kd.Q_told (Kd.Q_old (pkQ HO_1072002.out) hb) (Kd.R_base ho0)) (Kd.R_base ho1)) (fun _ h_ => h_.1))
      replace HO_1072003 := am (Kd.R_mono (Kd.R_told (Kd.R_told (Kd.R_old (pkR HO_1072003.out) hb) (Kd.R_base ho0)) (Kd.R_base ho1)) (fun _ h_ => h_.1))
      replace HO_1084002 := am (Kd.Q_mono (Kd.Q_told (Kd.Q_told (Kd.Q_old (pkQ HO_1084002.out) hb) (Kd.R_base ho0)) (Kd.R_base ho1)) (fun _ h_ => h_.1))
      replace HO_1084003 := am (Kd.Q_mono (Kd.Q_told (Kd.Q_told (Kd.Q_old (pkQ HO_1084003.out) hb) (Kd.R_base ho0)) (Kd.R_base ho1)) (fun _ h_ => h_.1))
      replace HO_1100002 := am (Kd.Q_mono (Kd.Q_told (Kd.Q_told (Kd.Q_old (pkQ HO_1100002.out) hb) (Kd.R_base ho0)) (Kd.R_base ho1)) (fun _ h_ => h_.1))
      replace HO_1100003 := am (Kd.Q_mono (Kd.Q_told (Kd.Q_told (Kd.Q_old (pkQ HO_1100003.out) hb) (Kd.R_base ho0)) (Kd.R_base ho1)) (fun _ h_ => h_.1))
      replace BK1043 := am (blk_below (pkK BK1043.out) hb)
      replace BK1071 := am (blk_below (pkK BK1071.out) hb)
      replace BK1083 := am (blk_below (pkK BK1083.out) hb)
      replace BK1099 := am (blk_below (pkK BK1099.out) hb)
      replace HB := am (below_step (pkW HB.out) hb)
      (try clear hb); (try clear ho0 ho1)
      obtain ⟨Ao63, co63, eo63⟩ := Kd.R_slice HO1106.out
      (first | subst eo63 | (injection eo63 with f1_ f2_ f3_; have f4_ := f1_.symm; have f5_ := f3_.symm; clear f1_ f2_ f3_; subst f4_; subst f5_))
      obtain ⟨Ao64, co64, eo64⟩ := Kd.R_slice HO1109.out
      (first | subst eo64 | (injection eo64 with f1_ f2_ f3_; have f4_ := f1_.symm; have f5_ := f3_.symm; clear f1_ f2_ f3_; subst f4_; subst f5_))
      refine hK.out _ _ ⟨(blk_cell BK1083.out 0).trans rfl, (blk_cell BK1083.out 1).trans rfl, (blk_cell BK1083.out 2).trans rfl, (blk_cell BK1083.out 3).trans rfl, (blk_cell BK1083.out 4).trans rfl, (blk_cell BK1083.out 5).trans rfl, (blk_cell BK1083.out 6).trans rfl, (blk_cell BK1043.out 0).trans rfl, (blk_cell BK1043.out 1).trans rfl, (blk_cell BK1043.out 2).trans rfl, (blk_cell BK1043.out 3).trans rfl, (blk_cell BK1043.out 4).trans rfl, (blk_cell BK1043.out 5).trans rfl, (blk_cell BK1043.out 6).trans rfl⟩ (fun hHeld => ?_)
      clear hK K
      refine norm_ (a' := ?_) ?_ ?_
      rotate_left
      ·show Act.put _ (some 54) _ = _
       simp only [Act.put, List.setIfInBounds_toArray, List.set_cons_zero, List.set_cons_succ, i64_w, i32_w]
       rfl
      refine one_ (i := 3) (N := some 55) #[true, true, true, true, false] rfl rfl (by kernel_rfl) (by decide) (fun K hK => ?_)
      refine goes_ Try.func18 (by kernel_rfl) rfl #[.agg #[.bool t1072, .bool t1073, .slice Ao31 t1074.length co31, .slice Ao32 t1077.length co32, .int .i64 t1080, .int .i64 t1081, .int .i64 t1082], .agg #[.bool t1102, .bool t1103, .slice Ao63 t1104.length co63, .slice Ao64 t1107.length co64, .int .i64 t1110, .int .i64 t1111, .int .i64 t1112]] (by rfl) rfl rfl mpx ?_
      with_reducible refine (laws_eqEvent.calls kj10 t1072 t1073 _ _ t1074 _ _ t1077 t1080 t1081 t1082 t1102 t1103 _ _ t1104 _ _ t1107 t1110 t1111 t1112 true _ ?side1 ?side2 ?side3 ?side4 ?side5 ?side6 ?side7 ?side8 A57.out).mono ?_
      (case side1 => repeat (first | exact (Kd.Q_reads' HO_1084002.out).2.2 | (with_reducible refine Kd.C_alloc ?_ _) | (with_reducible refine Kd.C_drewN ?_ _) | (with_reducible refine Kd.C_drew ?_)))
      (case side2 => exact (Kd.Q_reads' HO_1084002.out).2.1)
      (case side3 => repeat (first | exact (Kd.Q_reads' HO_1084003.out).2.2 | (with_reducible refine Kd.C_alloc ?_ _) | (with_reducible refine Kd.C_drewN ?_ _) | (with_reducible refine Kd.C_drew ?_)))
      (case side4 => exact (Kd.Q_reads' HO_1084003.out).2.1)
      (case side5 => exact pkC (Kd.R_reads' HO1106.out).2.2)
      (case side6 => exact (Kd.R_reads' HO1106.out).2.1)
      (case side7 => exact pkC (Kd.R_reads' HO1109.out).2.2)
      (case side8 => exact (Kd.R_reads' HO1109.out).2.1)
      rintro e w65 ⟨rfl, hb⟩
      refine ⟨_, rfl, ?_⟩
      replace HO_5 := am (Kd.R_below (pkR HO_5.out) hb)
      replace HO_9 := am (Kd.Q_below (pkQ HO_9.out) hb)
      replace HO_1072002 := am (Kd.Q_below (pkQ HO_1072002.out) hb)
      replace HO_1072003 := am (Kd.R_below (pkR HO_1072003.out) hb)
      replace HO_1084002 := am (Kd.Q_below (pkQ HO_1084002.out) hb)
      replace HO_1084003 := am (Kd.Q_below (pkQ HO_1084003.out) hb)
      replace HO_1100002 := am (Kd.Q_below (pkQ HO_1100002.out) hb)
      replace HO_1100003 := am (Kd.Q_below (pkQ HO_1100003.out) hb)
      replace HO1106 := am (Kd.R_below (pkR HO1106.out) hb)
      replace HO1109 := am (Kd.R_below (pkR HO1109.out) hb)
      replace BK1043 := am (blk_below (pkK BK1043.out) hb)
      replace BK1071 := am (blk_below (pkK BK1071.out) hb)
      replace BK1083 := am (blk_below (pkK BK1083.out) hb)
      replace BK1099 := am (blk_below (pkK BK1099.out) hb)
      replace HB := am (below_step (pkW HB.out) hb)
      (try clear hb)
      refine hK.out _ _ ⟨(blk_cell BK1083.out 0).trans rfl, (blk_cell BK1083.out 1).trans rfl, (blk_cell BK1083.out 2).trans rfl, (blk_cell BK1083.out 3).trans rfl, (blk_cell BK1083.out 4).trans rfl, (blk_cell BK1083.out 5).trans rfl, (blk_cell BK1083.out 6).trans rfl, (blk_cell BK1043.out 0).trans rfl, (blk_cell BK1043.out 1).trans rfl, (blk_cell BK1043.out 2).trans rfl, (blk_cell BK1043.out 3).trans rfl, (blk_cell BK1043.out 4).trans rfl, (blk_cell BK1043.out 5).trans rfl, (blk_cell BK1043.out 6).trans rfl⟩ (fun hHeld => ?_)
      clear hK K
      refine norm_ (a' := ?_) ?_ ?_
      rotate_left
      ·show Act.put _ (some 55) _ = _
       simp only [Act.put, List.setIfInBounds_toArray, List.set_cons_zero, List.set_cons_succ, i64_w, i32_w]
       rfl
      refine pure_ (i := 4) (N := some 56) (v := ?_) (a' := ?_) #[true, true, true, true, true] rfl rfl (by kernel_rfl) (fun _ _ _ h => h) (Or.inl ⟨by rfl, ?_⟩) ?_ ?_
      rotate_left
      ·intro w'
       go_simp
       with_reducible rfl
      rotate_left
      ·simp only [Act.put, List.setIfInBounds_toArray, List.set_cons_zero, List.set_cons_succ, i64_w, i32_w]
       rfl
      refine done_ (by kernel_rfl) ?_
      have hnb66 := NB1083_1043.out
      have hnc66 := NB1043_1083.out
      have hnb67 := NB1083_1071.out
      have hnc67 := NB1071_1083.out
      have hnb68 := NB1083_1099.out
      have hnc68 := NB1099_1083.out
      obtain ⟨hcz69_0, hcz69_1, hcz69_2, hcz69_3, hcz69_4, hcz69_5, hcz69_6, hfz69_0, hfz69_1, hfz69_2, hfz69_3, hfz69_4, hfz69_5, hfz69_6⟩ := bk7 BK1083.out
      go_upto_region 14 with (first | ((with_reducible refine gate_callee (f := 26) rfl ?_); refine goesL_ (some 59) rfl rfl Try.func26 (by kernel_rfl) rfl #[.agg #[.bool t1072, .bool t1073, .slice Ao31 t1074.length co31, .slice Ao32 t1077.length co32, .int .i64 t1080, .int .i64 t1081, .int .i64 t1082], .int .i64 1] rfl mpx ?_; (with_reducible refine (laws_markEvent.calls kj10 t1072 t1073 (fun k_ => some k_ = (.slice Ao31 t1074.length co31 : Value).ownBlock) (.slice Ao31 t1074.length co31) t1074 (fun k_ => some k_ = (.slice Ao32 t1077.length co32 : Value).ownBlock) (.slice Ao32 t1077.length co32) t1077 t1080 t1081 t1082 1 t1114 t1115 t1116 w _ ?side1 ?side2 ?side3 ?side4 ?side5 A59.out).mono ?_); (case side1 => repeat (first | (with_reducible first | exact HB.out | apply below_alloc | apply pw_below_drewN | apply below_drew1 | refine below_set ?_ GE1043.out | refine below_set ?_ GE1071.out | refine below_set ?_ GE1083.out | refine below_set ?_ GE1099.out) | exact HB.out)); (case side2 => exact Kd.Q_tight rfl HO_1084002.out); (case side3 => exact fun k_ e_ => (HO_1084002.out.1 k_ e_.symm).1.1.2.2.2.2.1); (case side4 => exact Kd.Q_tight rfl HO_1084003.out); (case side5 => exact fun k_ e_ => (HO_1084003.out.1 k_ e_.symm).1.1.2.2.2.2.1); rintro e w70 ⟨rfl, hy0, hy1, hb, hkp⟩; refine ⟨_, rfl, ?_⟩; replace HO_5 := am (Kd.R_mono (ok' := fun k_ => some k_ ≠ (v1096 : Value).ownBlock ∧ some k_ ≠ (.slice Ao23 t1058.length co23 : Value).ownBlock ∧ some k_ ≠ (.slice Ao24 t1061.length co24 : Value).ownBlock ∧ some k_ ≠ (.slice Ao31 t1074.length co31 : Value).ownBlock ∧ some k_ ≠ (.slice Ao32 t1077.length co32 : Value).ownBlock ∧ some k_ ≠ (.slice Ao39 t1086.length co39 : Value).ownBlock ∧ some k_ ≠ (.slice Ao40 t1089.length co40 : Value).ownBlock ∧ some k_ ≠ (.slice Ao63 t1104.length co63 : Value).ownBlock ∧ some k_ ≠ (.slice Ao64 t1107.length co64 : Value).ownBlock) (Kd.R_keptB (HO_5.out) hkp (fun k_ hk_ hs_ => Or.elim hs_ (fun e_ => (hk_.1.1.2.2.2.1) e_) (fun e_ => (hk_.1.1.2.2.2.2.1) e_))) (fun k_ hk_ => ⟨hk_.1.1.1.1, hk_.1.1.1.2.1, hk_.1.1.1.2.2.1, hk_.1.1.1.2.2.2.1, hk_.1.1.1.2.2.2.2.1, hk_.1.1.1.2.2.2.2.2.1, hk_.1.1.1.2.2.2.2.2.2, hk_.1.1.2, hk_.1.2⟩)); replace HO_9 := am (Kd.Q_mono (ok' := fun k_ => some k_ ≠ (v1068 : Value).ownBlock ∧ some k_ ≠ (.slice Ao23 t1058.length co23 : Value).ownBlock ∧ some k_ ≠ (.slice Ao24 t1061.length co24 : Value).ownBlock ∧ some k_ ≠ (.slice Ao31 t1074.length co31 : Value).ownBlock ∧ some k_ ≠ (.slice Ao32 t1077.length co32 : Value).ownBlock ∧ some k_ ≠ (.slice Ao39 t1086.length co39 : Value).ownBlock ∧ some k_ ≠ (.slice Ao40 t1089.length co40 : Value).ownBlock ∧ some k_ ≠ (.slice Ao63 t1104.length co63 : Value).ownBlock ∧ some k_ ≠ (.slice Ao64 t1107.length co64 : Value).ownBlock) (Kd.Q_keptB (HO_9.out) hkp (fun k_ hk_ hs_ => Or.elim hs_ (fun e_ => (hk_.1.1.2.2.2.1) e_) (fun e_ => (hk_.1.1.2.2.2.2.1) e_))) (fun k_ hk_ => ⟨hk_.1.1.1.1, hk_.1.1.1.2.1, hk_.1.1.1.2.2.1, hk_.1.1.1.2.2.2.1, hk_.1.1.1.2.2.2.2.1, hk_.1.1.1.2.2.2.2.2.1, hk_.1.1.1.2.2.2.2.2.2, hk_.1.1.2, hk_.1.2⟩)); replace HO_1072002 := am (Kd.Q_mono (ok' := fun k_ => some k_ ≠ (v1068 : Value).ownBlock ∧ some k_ ≠ (v1096 : Value).ownBlock ∧ some k_ ≠ (.slice Ao24 t1061.length co24 : Value).ownBlock ∧ some k_ ≠ (.slice Ao31 t1074.length co31 : Value).ownBlock ∧ some k_ ≠ (.slice Ao32 t1077.length co32 : Value).ownBlock ∧ some k_ ≠ (.slice Ao39 t1086.length co39 : Value).ownBlock ∧ some k_ ≠ (.slice Ao40 t1089.length co40 : Value).ownBlock ∧ some k_ ≠ (.slice Ao63 t1104.length co63 : Value).ownBlock ∧ some k_ ≠ (.slice Ao64 t1107.length co64 : Value).ownBlock) (Kd.Q_keptB (HO_1072002.out) hkp (fun k_ hk_ hs_ => Or.elim hs_ (fun e_ => (hk_.1.1.2.2.2.1) e_) (fun e_ => (hk_.1.1.2.2.2.2.1) e_))) (fun k_ hk_ => ⟨hk_.1.1.1.1, hk_.1.1.1.2.1, hk_.1.1.1.2.2.1, hk_.1.1.1.2.2.2.1, hk_.1.1.1.2.2.2.2.1, hk_.1.1.1.2.2.2.2.2.1, hk_.1.1.1.2.2.2.2.2.2, hk_.1.1.2, hk_.1.2⟩)); replace HO_1072003 := am (Kd.R_mono (ok' := fun k_ => some k_ ≠ (v1068 : Value).ownBlock ∧ some k_ ≠ (v1096 : Value).ownBlock ∧ some k_ ≠ (.slice Ao23 t1058.length co23 : Value).ownBlock ∧ some k_ ≠ (.slice Ao31 t1074.length co31 : Value).ownBlock ∧ some k_ ≠ (.slice Ao32 t1077.length co32 : Value).ownBlock ∧ some k_ ≠ (.slice Ao39 t1086.length co39 : Value).ownBlock ∧ some k_ ≠ (.slice Ao40 t1089.length co40 : Value).ownBlock ∧ some k_ ≠ (.slice Ao63 t1104.length co63 : Value).ownBlock ∧ some k_ ≠ (.slice Ao64 t1107.length co64 : Value).ownBlock) (Kd.R_keptB (HO_1072003.out) hkp (fun k_ hk_ hs_ => Or.elim hs_ (fun e_ => (hk_.1.1.2.2.2.1) e_) (fun e_ => (hk_.1.1.2.2.2.2.1) e_))) (fun k_ hk_ => ⟨hk_.1.1.1.1, hk_.1.1.1.2.1, hk_.1.1.1.2.2.1, hk_.1.1.1.2.2.2.1, hk_.1.1.1.2.2.2.2.1, hk_.1.1.1.2.2.2.2.2.1, hk_.1.1.1.2.2.2.2.2.2, hk_.1.1.2, hk_.1.2⟩)); replace HO_1100002 := am (Kd.Q_mono (ok' := fun k_ => some k_ ≠ (v1068 : Value).ownBlock ∧ some k_ ≠ (v1096 : Value).ownBlock ∧ some k_ ≠ (.slice Ao23 t1058.length co23 : Value).ownBlock ∧ some k_ ≠ (.slice Ao24 t1061.length co24 : Value).ownBlock ∧ some k_ ≠ (.slice Ao31 t1074.length co31 : Value).ownBlock ∧ some k_ ≠ (.slice Ao32 t1077.length co32 : Value).ownBlock ∧ some k_ ≠ (.slice Ao40 t1089.length co40 : Value).ownBlock ∧ some k_ ≠ (.slice Ao63 t1104.length co63 : Value).ownBlock ∧ some k_ ≠ (.slice Ao64 t1107.length co64 : Value).ownBlock) (Kd.Q_keptB (HO_1100002.out) hkp (fun k_ hk_ hs_ => Or.elim hs_ (fun e_ => (hk_.1.1.2.2.2.2.1) e_) (fun e_ => (hk_.1.1.2.2.2.2.2.1) e_))) (fun k_ hk_ => ⟨hk_.1.1.1.1, hk_.1.1.1.2.1, hk_.1.1.1.2.2.1, hk_.1.1.1.2.2.2.1, hk_.1.1.1.2.2.2.2.1, hk_.1.1.1.2.2.2.2.2.1, hk_.1.1.1.2.2.2.2.2.2, hk_.1.1.2, hk_.1.2⟩)); replace HO_1100003 := am (Kd.Q_mono (ok' := fun k_ => some k_ ≠ (v1068 : Value).ownBlock ∧ some k_ ≠ (v1096 : Value).ownBlock ∧ some k_ ≠ (.slice Ao23 t1058.length co23 : Value).ownBlock ∧ some k_ ≠ (.slice Ao24 t1061.length co24 : Value).ownBlock ∧ some k_ ≠ (.slice Ao31 t1074.length co31 : Value).ownBlock ∧ some k_ ≠ (.slice Ao32 t1077.length co32 : Value).ownBlock ∧ some k_ ≠ (.slice Ao39 t1086.length co39 : Value).ownBlock ∧ some k_ ≠ (.slice Ao63 t1104.length co63 : Value).ownBlock ∧ some k_ ≠ (.slice Ao64 t1107.length co64 : Value).ownBlock) (Kd.Q_keptB (HO_1100003.out) hkp (fun k_ hk_ hs_ => Or.elim hs_ (fun e_ => (hk_.1.1.2.2.2.2.1) e_) (fun e_ => (hk_.1.1.2.2.2.2.2.1) e_))) (fun k_ hk_ => ⟨hk_.1.1.1.1, hk_.1.1.1.2.1, hk_.1.1.1.2.2.1, hk_.1.1.1.2.2.2.1, hk_.1.1.1.2.2.2.2.1, hk_.1.1.1.2.2.2.2.2.1, hk_.1.1.1.2.2.2.2.2.2, hk_.1.1.2, hk_.1.2⟩)); replace BK1043 := am (blk_kept (pkK BK1043.out) hkp (fun hs_ => Or.elim hs_ (fun e_ => (fun e_ => (Kd.Q_ne HO_1084002.out BK1043.out (by decide)) e_) e_) (fun e_ => (fun e_ => (Kd.Q_ne HO_1084003.out BK1043.out (by decide)) e_) e_))); replace BK1071 := am (blk_kept (pkK BK1071.out) hkp (fun hs_ => Or.elim hs_ (fun e_ => (fun e_ => (Kd.Q_ne HO_1084002.out BK1071.out (by decide)) e_) e_) (fun e_ => (fun e_ => (Kd.Q_ne HO_1084003.out BK1071.out (by decide)) e_) e_))); replace BK1083 := am (blk_kept (pkK BK1083.out) hkp (fun hs_ => Or.elim hs_ (fun e_ => (fun e_ => (Kd.Q_ne HO_1084002.out BK1083.out (by decide)) e_) e_) (fun e_ => (fun e_ => (Kd.Q_ne HO_1084003.out BK1083.out (by decide)) e_) e_))); replace BK1099 := am (blk_kept (pkK BK1099.out) hkp (fun hs_ => Or.elim hs_ (fun e_ => (fun e_ => (Kd.Q_ne HO_1084002.out BK1099.out (by decide)) e_) e_) (fun e_ => (fun e_ => (Kd.Q_ne HO_1084003.out BK1099.out (by decide)) e_) e_))); replace HO_1084002 := am (Kd.Q_reok rfl hy0 (fun k_ e_ => HO_1084002.out.1 k_ e_)); replace HO_1084003 := am (Kd.Q_reok rfl hy1 (fun k_ e_ => HO_1084003.out.1 k_ e_)); replace HO1106 := am (Kd.R_mono (ok' := fun k_ => some k_ ≠ (v1068 : Value).ownBlock ∧ some k_ ≠ (v1096 : Value).ownBlock ∧ some k_ ≠ (.slice Ao23 t1058.length co23 : Value).ownBlock ∧ some k_ ≠ (.slice Ao24 t1061.length co24 : Value).ownBlock ∧ some k_ ≠ (.slice Ao31 t1074.length co31 : Value).ownBlock ∧ some k_ ≠ (.slice Ao32 t1077.length co32 : Value).ownBlock ∧ some k_ ≠ (.slice Ao39 t1086.length co39 : Value).ownBlock ∧ some k_ ≠ (.slice Ao40 t1089.length co40 : Value).ownBlock ∧ some k_ ≠ (.slice Ao64 t1107.length co64 : Value).ownBlock) (Kd.R_keptB (HO1106.out) hkp (fun k_ hk_ hs_ => Or.elim hs_ (fun e_ => (hk_.1.1.1.2) e_) (fun e_ => (hk_.1.1.2) e_))) (fun k_ hk_ => ⟨hk_.1.1.1.1.1.1.1.1.2, hk_.1.1.1.1.1.1.1.2, hk_.1.1.1.1.1.1.2, hk_.1.1.1.1.1.2, hk_.1.1.1.1.2, hk_.1.1.1.2, hk_.1.1.2, hk_.1.2, hk_.1.1.1.1.1.1.1.1.1⟩)); replace HO1109 := am (Kd.R_mono (ok' := fun k_ => some k_ ≠ (v1068 : Value).ownBlock ∧ some k_ ≠ (v1096 : Value).ownBlock ∧ some k_ ≠ (.slice Ao23 t1058.length co23 : Value).ownBlock ∧ some k_ ≠ (.slice Ao24 t1061.length co24 : Value).ownBlock ∧ some k_ ≠ (.slice Ao31 t1074.length co31 : Value).ownBlock ∧ some k_ ≠ (.slice Ao32 t1077.length co32 : Value).ownBlock ∧ some k_ ≠ (.slice Ao39 t1086.length co39 : Value).ownBlock ∧ some k_ ≠ (.slice Ao40 t1089.length co40 : Value).ownBlock ∧ some k_ ≠ (.slice Ao63 t1104.length co63 : Value).ownBlock) (Kd.R_keptB (HO1109.out) hkp (fun k_ hk_ hs_ => Or.elim hs_ (fun e_ => (hk_.1.1.1.2) e_) (fun e_ => (hk_.1.1.2) e_))) (fun k_ hk_ => ⟨hk_.1.1.1.1.1.1.1.1.2, hk_.1.1.1.1.1.1.1.2, hk_.1.1.1.1.1.1.2, hk_.1.1.1.1.1.2, hk_.1.1.1.1.2, hk_.1.1.1.2, hk_.1.1.2, hk_.1.2, hk_.1.1.1.1.1.1.1.1.1⟩)); replace HB := am (hb); (try clear hb); (try clear hkp); (try clear hy0); (try clear hy1)))
      (try simp only [Act.put, List.setIfInBounds_toArray, List.set_cons_zero, List.set_cons_succ])
      go_cut [78] (fun v78 wc => ∃ (kq : Nat) (x78_59 : Bool), v78 = .bool x78_59 ∧ Aside0 (laws_FnExactRaise.j1 kq t1067 t1070 t1095 x78_59 a0_0 a0_1 l0_2 l0_3 a0_4 a0_5 a0_6 t1056 t1057 t1058 t1061 t1064 t1065 t1066 t1084 t1085 t1086 t1089 t1092 t1093 t1094 = some r) ∧ Aside0 (kq ≤ kj10) ∧ Aside0 (Kd.R (Kd.int .i64) 3 wc w.heap.size (fun k_ => some k_ ≠ (v1096 : Value).ownBlock ∧ some k_ ≠ ((.slice Ao23 t1058.length co23) : Value).ownBlock ∧ some k_ ≠ ((.slice Ao24 t1061.length co24) : Value).ownBlock ∧ some k_ ≠ ((.slice Ao31 t1074.length co31) : Value).ownBlock ∧ some k_ ≠ ((.slice Ao32 t1077.length co32) : Value).ownBlock ∧ some k_ ≠ ((.slice Ao39 t1086.length co39) : Value).ownBlock ∧ some k_ ≠ ((.slice Ao40 t1089.length co40) : Value).ownBlock) v1068 t1067) ∧ Aside0 (Kd.Q (Kd.int .i64) 3 wc w.heap.size (fun k_ => some k_ ≠ (v1068 : Value).ownBlock ∧ some k_ ≠ ((.slice Ao23 t1058.length co23) : Value).ownBlock ∧ some k_ ≠ ((.slice Ao24 t1061.length co24) : Value).ownBlock ∧ some k_ ≠ ((.slice Ao31 t1074.length co31) : Value).ownBlock ∧ some k_ ≠ ((.slice Ao32 t1077.length co32) : Value).ownBlock ∧ some k_ ≠ ((.slice Ao39 t1086.length co39) : Value).ownBlock ∧ some k_ ≠ ((.slice Ao40 t1089.length co40) : Value).ownBlock) v1096 t1095) ∧ Aside0 (Kd.Q (Kd.int .i64) 3 wc w.heap.size (fun k_ => some k_ ≠ (v1068 : Value).ownBlock ∧ some k_ ≠ (v1096 : Value).ownBlock ∧ some k_ ≠ ((.slice Ao24 t1061.length co24) : Value).ownBlock ∧ some k_ ≠ ((.slice Ao31 t1074.length co31) : Value).ownBlock ∧ some k_ ≠ ((.slice Ao32 t1077.length co32) : Value).ownBlock ∧ some k_ ≠ ((.slice Ao39 t1086.length co39) : Value).ownBlock ∧ some k_ ≠ ((.slice Ao40 t1089.length co40) : Value).ownBlock) (.slice Ao23 t1058.length co23) t1058) ∧ Aside0 (Kd.R (Kd.int .i64) 3 wc w.heap.size (fun k_ => some k_ ≠ (v1068 : Value).ownBlock ∧ some k_ ≠ (v1096 : Value).ownBlock ∧ some k_ ≠ ((.slice Ao23 t1058.length co23) : Value).ownBlock ∧ some k_ ≠ ((.slice Ao31 t1074.length co31) : Value).ownBlock ∧ some k_ ≠ ((.slice Ao32 t1077.length co32) : Value).ownBlock ∧ some k_ ≠ ((.slice Ao39 t1086.length co39) : Value).ownBlock ∧ some k_ ≠ ((.slice Ao40 t1089.length co40) : Value).ownBlock) (.slice Ao24 t1061.length co24) t1061) ∧ Aside0 (Kd.Q (Kd.int .i64) 3 wc w.heap.size (fun k_ => some k_ ≠ (v1068 : Value).ownBlock ∧ some k_ ≠ (v1096 : Value).ownBlock ∧ some k_ ≠ ((.slice Ao23 t1058.length co23) : Value).ownBlock ∧ some k_ ≠ ((.slice Ao24 t1061.length co24) : Value).ownBlock ∧ some k_ ≠ ((.slice Ao32 t1077.length co32) : Value).ownBlock ∧ some k_ ≠ ((.slice Ao39 t1086.length co39) : Value).ownBlock ∧ some k_ ≠ ((.slice Ao40 t1089.length co40) : Value).ownBlock) (.slice Ao31 t1074.length co31) t1115) ∧ Aside0 (Kd.Q (Kd.int .i64) 3 wc w.heap.size (fun k_ => some k_ ≠ (v1068 : Value).ownBlock ∧ some k_ ≠ (v1096 : Value).ownBlock ∧ some k_ ≠ ((.slice Ao23 t1058.length co23) : Value).ownBlock ∧ some k_ ≠ ((.slice Ao24 t1061.length co24) : Value).ownBlock ∧ some k_ ≠ ((.slice Ao31 t1074.length co31) : Value).ownBlock ∧ some k_ ≠ ((.slice Ao39 t1086.length co39) : Value).ownBlock ∧ some k_ ≠ ((.slice Ao40 t1089.length co40) : Value).ownBlock) (.slice Ao32 t1077.length co32) t1116) ∧ Aside0 (Kd.Q (Kd.int .i64) 3 wc w.heap.size (fun k_ => some k_ ≠ (v1068 : Value).ownBlock ∧ some k_ ≠ (v1096 : Value).ownBlock ∧ some k_ ≠ ((.slice Ao23 t1058.length co23) : Value).ownBlock ∧ some k_ ≠ ((.slice Ao24 t1061.length co24) : Value).ownBlock ∧ some k_ ≠ ((.slice Ao31 t1074.length co31) : Value).ownBlock ∧ some k_ ≠ ((.slice Ao32 t1077.length co32) : Value).ownBlock ∧ some k_ ≠ ((.slice Ao40 t1089.length co40) : Value).ownBlock) (.slice Ao39 t1086.length co39) t1086) ∧ Aside0 (Kd.Q (Kd.int .i64) 3 wc w.heap.size (fun k_ => some k_ ≠ (v1068 : Value).ownBlock ∧ some k_ ≠ (v1096 : Value).ownBlock ∧ some k_ ≠ ((.slice Ao23 t1058.length co23) : Value).ownBlock ∧ some k_ ≠ ((.slice Ao24 t1061.length co24) : Value).ownBlock ∧ some k_ ≠ ((.slice Ao31 t1074.length co31) : Value).ownBlock ∧ some k_ ≠ ((.slice Ao32 t1077.length co32) : Value).ownBlock ∧ some k_ ≠ ((.slice Ao39 t1086.length co39) : Value).ownBlock) (.slice Ao40 t1089.length co40) t1089) ∧ Aside0 (wc.heap[gb1043]? = some (.cells #[.bool a0_0, .bool a0_1, (.slice A0_2 l0_2.length c0_2), (.slice A0_3 l0_3.length c0_3), .int .i64 a0_4, .int .i64 a0_5, .int .i64 a0_6] 24 (0, 0))) ∧ Aside0 (wc.heap[gb1071]? = some (.cells #[.bool t1056, .bool t1057, (.slice Ao23 t1058.length co23), (.slice Ao24 t1061.length co24), .int .i64 t1064, .int .i64 t1065, .int .i64 t1066] 27 (0, 0))) ∧ Aside0 (wc.heap[gb1083]? = some (.cells #[.bool t1072, .bool t1073, (.slice Ao31 t1074.length co31), (.slice Ao32 t1077.length co32), .int .i64 t1080, .int .i64 t1081, .int .i64 t1082] 27 (0, 0))) ∧ Aside0 (wc.heap[gb1099]? = some (.cells #[.bool t1084, .bool t1085, (.slice Ao39 t1086.length co39), (.slice Ao40 t1089.length co40), .int .i64 t1092, .int .i64 t1093, .int .i64 t1094] 27 (0, 0))) ∧ Aside0 (Below w.heap.size w wc))
      case first =>
       have H := HC60.out
       clear HC60
       by_cases c71 : t1114 < 0
       ·rw [if_pos c71] at H
        have c71b0 : decide (t1114 < 0) = true := decide_eq_true c71
        clear c71
        (first | rw [c71b0] | (simp only [i64_w, i32_w]; rw [c71b0]) | skip)
        cases kj10 with
        | zero => exact absurd H (by simp [laws_FnExactRaise.j1])
        | succ k_ => (simp only [laws_FnExactRaise.j1, if_pos] at H; exact absurd (Option.some.inj H) (by rw [HQ_.out]; simp))
       ·rw [if_neg c71] at H
        have c71b0 : decide (t1114 < 0) = false := decide_eq_false c71
        clear c71
        (first | rw [c71b0] | (simp only [i64_w, i32_w]; rw [c71b0]) | skip)
        replace H := Option.bind_eq_some_iff.mp H
        obtain ⟨t1117, A720, H⟩ := H
        replace H : (if t1117 = true then ((laws_eqIntS.f kj10 t1095 t1067).bind fun t1118 => (if t1118 = true then (laws_FnExactRaise.j1 kj10 t1067 t1070 t1095 (t1098 != t1070) a0_0 a0_1 l0_2 l0_3 a0_4 a0_5 a0_6 t1056 t1057 t1058 t1061 t1064 t1065 t1066 t1084 t1085 t1086 t1089 t1092 t1093 t1094) else (laws_FnExactRaise.j1 kj10 t1067 t1070 t1095 true a0_0 a0_1 l0_2 l0_3 a0_4 a0_5 a0_6 t1056 t1057 t1058 t1061 t1064 t1065 t1066 t1084 t1085 t1086 t1089 t1092 t1093 t1094))) else (laws_FnExactRaise.j1 kj10 t1067 t1070 t1095 true a0_0 a0_1 l0_2 l0_3 a0_4 a0_5 a0_6 t1056 t1057 t1058 t1061 t1064 t1065 t1066 t1084 t1085 t1086 t1089 t1092 t1093 t1094)) = some r := H
        have A72 := am A720
        clear A720
        by_cases c73 : t1117 = true
        ·subst c73
         replace H : ((laws_eqIntS.f kj10 t1095 t1067).bind fun t1118 => (if t1118 = true then (laws_FnExactRaise.j1 kj10 t1067 t1070 t1095 (t1098 != t1070) a0_0 a0_1 l0_2 l0_3 a0_4 a0_5 a0_6 t1056 t1057 t1058 t1061 t1064 t1065 t1066 t1084 t1085 t1086 t1089 t1092 t1093 t1094) else (laws_FnExactRaise.j1 kj10 t1067 t1070 t1095 true a0_0 a0_1 l0_2 l0_3 a0_4 a0_5 a0_6 t1056 t1057 t1058 t1061 t1064 t1065 t1066 t1084 t1085 t1086 t1089 t1092 t1093 t1094))) = some r := by rw [if_pos rfl] at H; exact H
         replace H := Option.bind_eq_some_iff.mp H
         obtain ⟨t1118, A740, H⟩ := H
         replace H : (if t1118 = true then (laws_FnExactRaise.j1 kj10 t1067 t1070 t1095 (t1098 != t1070) a0_0 a0_1 l0_2 l0_3 a0_4 a0_5 a0_6 t1056 t1057 t1058 t1061 t1064 t1065 t1066 t1084 t1085 t1086 t1089 t1092 t1093 t1094) else (laws_FnExactRaise.j1 kj10 t1067 t1070 t1095 true a0_0 a0_1 l0_2 l0_3 a0_4 a0_5 a0_6 t1056 t1057 t1058 t1061 t1064 t1065 t1066 t1084 t1085 t1086 t1089 t1092 t1093 t1094)) = some r := H
         have A74 := am A740
         clear A740
         by_cases c75 : t1118 = true
         ·subst c75
          replace H : (laws_FnExactRaise.j1 kj10 t1067 t1070 t1095 (t1098 != t1070) a0_0 a0_1 l0_2 l0_3 a0_4 a0_5 a0_6 t1056 t1057 t1058 t1061 t1064 t1065 t1066 t1084 t1085 t1086 t1089 t1092 t1093 t1094) = some r := by rw [if_pos rfl] at H; exact H
          have H' := am H
          clear H
          have hnb76 := NB1099_1043.out
          have hnc76 := NB1043_1099.out
          have hnb77 := NB1099_1071.out
          have hnc77 := NB1071_1099.out
          have hnb78 := NB1099_1083.out
          have hnc78 := NB1083_1099.out
          obtain ⟨hcz79_0, hcz79_1, hcz79_2, hcz79_3, hcz79_4, hcz79_5, hcz79_6, hfz79_0, hfz79_1, hfz79_2, hfz79_3, hfz79_4, hfz79_5, hfz79_6⟩ := bk7 BK1099.out
          have hnb80 := NB1071_1043.out
          have hnc80 := NB1043_1071.out
          have hnb81 := NB1071_1083.out
          have hnc81 := NB1083_1071.out
          obtain ⟨hcz82_0, hcz82_1, hcz82_2, hcz82_3, hcz82_4, hcz82_5, hcz82_6, hfz82_0, hfz82_1, hfz82_2, hfz82_3, hfz82_4, hfz82_5, hfz82_6⟩ := bk7 BK1071.out
          go_wp2_with (first | (go_at_call 18; (with_reducible refine (laws_eqEvent.calls kj10 t1084 t1085 _ _ t1086 _ _ t1089 t1092 t1093 t1094 t1056 t1057 _ _ t1058 _ _ t1061 t1064 t1065 t1066 true _ ?side1 ?side2 ?side3 ?side4 ?side5 ?side6 ?side7 ?side8 A72.out).mono ?_); (case side1 => repeat (first | exact (Kd.Q_reads' HO_1100002.out).2.2 | (with_reducible refine Kd.C_alloc ?_ _) | (with_reducible refine Kd.C_drewN ?_ _) | (with_reducible refine Kd.C_drew ?_))); (case side2 => exact (Kd.Q_reads' HO_1100002.out).2.1); (case side3 => repeat (first | exact (Kd.Q_reads' HO_1100003.out).2.2 | (with_reducible refine Kd.C_alloc ?_ _) | (with_reducible refine Kd.C_drewN ?_ _) | (with_reducible refine Kd.C_drew ?_))); (case side4 => exact (Kd.Q_reads' HO_1100003.out).2.1); (case side5 => repeat (first | exact (Kd.Q_reads' HO_1072002.out).2.2 | (with_reducible refine Kd.C_alloc ?_ _) | (with_reducible refine Kd.C_drewN ?_ _) | (with_reducible refine Kd.C_drew ?_))); (case side6 => exact (Kd.Q_reads' HO_1072002.out).2.1); (case side7 => exact pkC (Kd.R_reads' HO_1072003.out).2.2); (case side8 => exact (Kd.R_reads' HO_1072003.out).2.1); rintro e w83 ⟨rfl, hb⟩; replace HO_5 := am (Kd.R_below (pkR HO_5.out) hb); replace HO_9 := am (Kd.Q_below (pkQ HO_9.out) hb); replace HO_1072002 := am (Kd.Q_below (pkQ HO_1072002.out) hb); replace HO_1072003 := am (Kd.R_below (pkR HO_1072003.out) hb); replace HO_1084002 := am (Kd.Q_below (pkQ HO_1084002.out) hb); replace HO_1084003 := am (Kd.Q_below (pkQ HO_1084003.out) hb); replace HO_1100002 := am (Kd.Q_below (pkQ HO_1100002.out) hb); replace HO_1100003 := am (Kd.Q_below (pkQ HO_1100003.out) hb); replace HO1106 := am (Kd.R_below (pkR HO1106.out) hb); replace HO1109 := am (Kd.R_below (pkR HO1109.out) hb); replace BK1043 := am (blk_below (pkK BK1043.out) hb); replace BK1071 := am (blk_below (pkK BK1071.out) hb); replace BK1083 := am (blk_below (pkK BK1083.out) hb); replace BK1099 := am (blk_below (pkK BK1099.out) hb); replace HB := am (below_step (pkW HB.out) hb); (try clear hb); obtain ⟨Ao84, co84, eo84, _⟩ := Kd.Q_slice HO_9.out; subst eo84; obtain ⟨Ao85, co85, eo85⟩ := Kd.R_slice HO_5.out; subst eo85) | (go_at_call 34; (with_reducible refine (laws_eqIntS.calls kj10 _ _ t1095 _ _ t1067 true _ ?side1 ?side2 ?side3 ?side4 A74.out).mono ?_); (case side1 => repeat (first | exact (Kd.Q_reads' HO_9.out).2.2 | (with_reducible refine Kd.C_alloc ?_ _) | (with_reducible refine Kd.C_drewN ?_ _) | (with_reducible refine Kd.C_drew ?_))); (case side2 => exact (Kd.Q_reads' HO_9.out).2.1); (case side3 => exact pkC (Kd.R_reads' HO_5.out).2.2); (case side4 => exact (Kd.R_reads' HO_5.out).2.1); rintro e w' ⟨rfl, ⟨nd, rfl⟩⟩))
          go_meet
          case rel => exact ⟨_, ((t1098 != t1070)), rfx, H', ⟨by have := HJ10.out; first | omega | exact Nat.le_refl _⟩, ⟨by (with_reducible repeat (first | apply Kd.R_alloc | apply Kd.R_drewN | apply Kd.R_drew)); exact Kd.R_mono HO_5.out (fun _ hk => ⟨hk.1, ⟨hk.2.1, ⟨hk.2.2.1, ⟨hk.2.2.2.1, ⟨hk.2.2.2.2.1, ⟨hk.2.2.2.2.2.1, hk.2.2.2.2.2.2.1⟩⟩⟩⟩⟩⟩)⟩, ⟨by (with_reducible repeat (first | apply Kd.Q_alloc | apply Kd.Q_drewN | apply Kd.Q_drew)); exact Kd.Q_mono HO_9.out (fun _ hk => ⟨hk.1, ⟨hk.2.1, ⟨hk.2.2.1, ⟨hk.2.2.2.1, ⟨hk.2.2.2.2.1, ⟨hk.2.2.2.2.2.1, hk.2.2.2.2.2.2.1⟩⟩⟩⟩⟩⟩)⟩, ⟨by (with_reducible repeat (first | apply Kd.Q_alloc | apply Kd.Q_drewN | apply Kd.Q_drew)); exact Kd.Q_mono HO_1072002.out (fun _ hk => ⟨hk.1, ⟨hk.2.1, ⟨hk.2.2.1, ⟨hk.2.2.2.1, ⟨hk.2.2.2.2.1, ⟨hk.2.2.2.2.2.1, hk.2.2.2.2.2.2.1⟩⟩⟩⟩⟩⟩)⟩, ⟨by (with_reducible repeat (first | apply Kd.R_alloc | apply Kd.R_drewN | apply Kd.R_drew)); exact Kd.R_mono HO_1072003.out (fun _ hk => ⟨hk.1, ⟨hk.2.1, ⟨hk.2.2.1, ⟨hk.2.2.2.1, ⟨hk.2.2.2.2.1, ⟨hk.2.2.2.2.2.1, hk.2.2.2.2.2.2.1⟩⟩⟩⟩⟩⟩)⟩, ⟨by (with_reducible repeat (first | apply Kd.Q_alloc | apply Kd.Q_drewN | apply Kd.Q_drew)); exact Kd.Q_mono HO_1084002.out (fun _ hk => ⟨hk.1.1.1, ⟨hk.1.1.2.1, ⟨hk.1.1.2.2.1, ⟨hk.1.1.2.2.2.1, ⟨hk.1.1.2.2.2.2.1, ⟨hk.1.1.2.2.2.2.2.1, hk.1.1.2.2.2.2.2.2⟩⟩⟩⟩⟩⟩)⟩, ⟨by (with_reducible repeat (first | apply Kd.Q_alloc | apply Kd.Q_drewN | apply Kd.Q_drew)); exact Kd.Q_mono HO_1084003.out (fun _ hk => ⟨hk.1.1.1, ⟨hk.1.1.2.1, ⟨hk.1.1.2.2.1, ⟨hk.1.1.2.2.2.1, ⟨hk.1.1.2.2.2.2.1, ⟨hk.1.1.2.2.2.2.2.1, hk.1.1.2.2.2.2.2.2⟩⟩⟩⟩⟩⟩)⟩, ⟨by (with_reducible repeat (first | apply Kd.Q_alloc | apply Kd.Q_drewN | apply Kd.Q_drew)); exact Kd.Q_mono HO_1100002.out (fun _ hk => ⟨hk.1, ⟨hk.2.1, ⟨hk.2.2.1, ⟨hk.2.2.2.1, ⟨hk.2.2.2.2.1, ⟨hk.2.2.2.2.2.1, hk.2.2.2.2.2.2.1⟩⟩⟩⟩⟩⟩)⟩, ⟨by (with_reducible repeat (first | apply Kd.Q_alloc | apply Kd.Q_drewN | apply Kd.Q_drew)); exact Kd.Q_mono HO_1100003.out (fun _ hk => ⟨hk.1, ⟨hk.2.1, ⟨hk.2.2.1, ⟨hk.2.2.2.1, ⟨hk.2.2.2.2.1, ⟨hk.2.2.2.2.2.1, hk.2.2.2.2.2.2.1⟩⟩⟩⟩⟩⟩)⟩, ⟨pkK BK1043.out⟩, ⟨pkK BK1071.out⟩, ⟨pkK BK1083.out⟩, ⟨pkK BK1099.out⟩, ⟨pkW HB.out⟩⟩
         ·replace c75 := Bool.eq_false_iff.mpr c75
          subst c75
          replace H : (laws_FnExactRaise.j1 kj10 t1067 t1070 t1095 true a0_0 a0_1 l0_2 l0_3 a0_4 a0_5 a0_6 t1056 t1057 t1058 t1061 t1064 t1065 t1066 t1084 t1085 t1086 t1089 t1092 t1093 t1094) = some r := by rw [if_neg (show ¬ (false = true) by decide)] at H; exact H
          cases kj10 with
          | zero => exact absurd H (by simp [laws_FnExactRaise.j1])
          | succ k_ => (simp only [laws_FnExactRaise.j1, if_pos] at H; exact absurd (Option.some.inj H) (by rw [HQ_.out]; simp))
        ·replace c73 := Bool.eq_false_iff.mpr c73
         subst c73
         replace H : (laws_FnExactRaise.j1 kj10 t1067 t1070 t1095 true a0_0 a0_1 l0_2 l0_3 a0_4 a0_5 a0_6 t1056 t1057 t1058 t1061 t1064 t1065 t1066 t1084 t1085 t1086 t1089 t1092 t1093 t1094) = some r := by rw [if_neg (show ¬ (false = true) by decide)] at H; exact H
         cases kj10 with
         | zero => exact absurd H (by simp [laws_FnExactRaise.j1])
         | succ k_ => (simp only [laws_FnExactRaise.j1, if_pos] at H; exact absurd (Option.some.inj H) (by rw [HQ_.out]; simp))
      case rest =>
       clear HC60
       try clear c1
       try clear c2
       try clear p2
       try clear c3
       try clear c3b0
       try clear c4
       try clear c5
       try clear c6
       try clear c7
       try clear c8
       try clear c9
       try clear c14
       try clear c16
       try clear c18
       try clear c21
       try clear c26
       try clear c28
       try clear c29
       try clear c35
       try clear c36
       try clear c37
       try clear c39
       try clear c40
       try clear c42
       try clear c44
       try clear c45
       try clear c46
       try clear c47
       try clear c49
       try clear c50
       try clear c55
       try clear c58
       try clear c66
       try clear c67
       try clear c68
       try clear c71
       try clear c71b0
       try clear c73
       try clear c75
       try clear c76
       try clear c77
       try clear c78
       try clear c80
       try clear c81
       try clear hcz13_0
       try clear hcz13_1
       try clear hcz13_2
       try clear hcz13_3
       try clear hcz13_4
       try clear hcz13_5
       try clear hcz13_6
       try clear hcz15_0
       try clear hcz15_1
       try clear hcz15_2
       try clear hcz15_3
       try clear hcz15_4
       try clear hcz15_5
       try clear hcz15_6
       try clear hcz22_0
       try clear hcz22_1
       try clear hcz22_2
       try clear hcz22_3
       try clear hcz22_4
       try clear hcz22_5
       try clear hcz22_6
       try clear hcz25_0
       try clear hcz25_1
       try clear hcz25_2
       try clear hcz25_3
       try clear hcz25_4
       try clear hcz25_5
       try clear hcz25_6
       try clear hcz30_0
       try clear hcz30_1
       try clear hcz30_2
       try clear hcz30_3
       try clear hcz30_4
       try clear hcz30_5
       try clear hcz30_6
       try clear hcz38_0
       try clear hcz38_1
       try clear hcz38_2
       try clear hcz38_3
       try clear hcz38_4
       try clear hcz38_5
       try clear hcz38_6
       try clear hcz48_0
       try clear hcz48_1
       try clear hcz48_2
       try clear hcz48_3
       try clear hcz48_4
       try clear hcz48_5
       try clear hcz48_6
       try clear hcz51_0
       try clear hcz51_1
       try clear hcz51_2
       try clear hcz51_3
       try clear hcz51_4
       try clear hcz51_5
       try clear hcz51_6
       try clear hcz5_0
       try clear hcz5_1
       try clear hcz5_2
       try clear hcz5_3
       try clear hcz5_4
       try clear hcz5_5
       try clear hcz5_6
       try clear hcz69_0
       try clear hcz69_1
       try clear hcz69_2
       try clear hcz69_3
       try clear hcz69_4
       try clear hcz69_5
       try clear hcz69_6
       try clear hcz79_0
       try clear hcz79_1
       try clear hcz79_2
       try clear hcz79_3
       try clear hcz79_4
       try clear hcz79_5
       try clear hcz79_6
       try clear hcz82_0
       try clear hcz82_1
       try clear hcz82_2
       try clear hcz82_3
       try clear hcz82_4
       try clear hcz82_5
       try clear hcz82_6
       try clear hfz13_0
       try clear hfz13_1
       try clear hfz13_2
       try clear hfz13_3
       try clear hfz13_4
       try clear hfz13_5
       try clear hfz13_6
       try clear hfz15_0
       try clear hfz15_1
       try clear hfz15_2
       try clear hfz15_3
       try clear hfz15_4
       try clear hfz15_5
       try clear hfz15_6
       try clear hfz22_0
       try clear hfz22_1
       try clear hfz22_2
       try clear hfz22_3
       try clear hfz22_4
       try clear hfz22_5
       try clear hfz22_6
       try clear hfz25_0
       try clear hfz25_1
       try clear hfz25_2
       try clear hfz25_3
       try clear hfz25_4
       try clear hfz25_5
       try clear hfz25_6
       try clear hfz30_0
       try clear hfz30_1
       try clear hfz30_2
       try clear hfz30_3
       try clear hfz30_4
       try clear hfz30_5
       try clear hfz30_6
       try clear hfz38_0
       try clear hfz38_1
       try clear hfz38_2
       try clear hfz38_3
       try clear hfz38_4
       try clear hfz38_5
       try clear hfz38_6
       try clear hfz48_0
       try clear hfz48_1
       try clear hfz48_2
       try clear hfz48_3
       try clear hfz48_4
       try clear hfz48_5
       try clear hfz48_6
       try clear hfz51_0
       try clear hfz51_1
       try clear hfz51_2
       try clear hfz51_3
       try clear hfz51_4
       try clear hfz51_5
       try clear hfz51_6
       try clear hfz5_0
       try clear hfz5_1
       try clear hfz5_2
       try clear hfz5_3
       try clear hfz5_4
       try clear hfz5_5
       try clear hfz5_6
       try clear hfz69_0
       try clear hfz69_1
       try clear hfz69_2
       try clear hfz69_3
       try clear hfz69_4
       try clear hfz69_5
       try clear hfz69_6
       try clear hfz79_0
       try clear hfz79_1
       try clear hfz79_2
       try clear hfz79_3
       try clear hfz79_4
       try clear hfz79_5
       try clear hfz79_6
       try clear hfz82_0
       try clear hfz82_1
       try clear hfz82_2
       try clear hfz82_3
       try clear hfz82_4
       try clear hfz82_5
       try clear hfz82_6
       try clear p2
       obtain ⟨kq, x78_59, rfl, HA, HJ59, HO_5, HO_9, HO_1072002, HO_1072003, HO_1084002, HO_1084003, HO_1100002, HO_1100003, BK1043, BK1071, BK1083, BK1099, HB⟩ := hcut
       have hl1084002_59 := (Kd.Q_reads' HO_1084002.out).1
       rw [hl1084002_59] at HO_1084002
       (try simp only [hl1084002_59])
       (try simp only [hl1084002_59] at BK1043)
       (try simp only [hl1084002_59] at BK1071)
       (try simp only [hl1084002_59] at BK1083)
       (try simp only [hl1084002_59] at BK1099)
       (try simp only [hl1084002_59] at HO_5)
       (try simp only [hl1084002_59] at HO_9)
       (try simp only [hl1084002_59] at HO_1072002)
       (try simp only [hl1084002_59] at HO_1072003)
       (try simp only [hl1084002_59] at HO_1084003)
       (try simp only [hl1084002_59] at HO_1100002)
       (try simp only [hl1084002_59] at HO_1100003)
       have hl1084003_59 := (Kd.Q_reads' HO_1084003.out).1
       rw [hl1084003_59] at HO_1084003
       (try simp only [hl1084003_59])
       (try simp only [hl1084003_59] at BK1043)
       (try simp only [hl1084003_59] at BK1071)
       (try simp only [hl1084003_59] at BK1083)
       (try simp only [hl1084003_59] at BK1099)
       (try simp only [hl1084003_59] at HO_5)
       (try simp only [hl1084003_59] at HO_9)
       (try simp only [hl1084003_59] at HO_1072002)
       (try simp only [hl1084003_59] at HO_1072003)
       (try simp only [hl1084003_59] at HO_1084002)
       (try simp only [hl1084003_59] at HO_1100002)
       (try simp only [hl1084003_59] at HO_1100003)
       cases kq with
       | zero => exact absurd HA.out (by simp [laws_FnExactRaise.j1])
       | succ kj59 =>
        have H := HA.out
        clear HA
        simp only [laws_FnExactRaise.j1] at H
        by_cases c86 : x78_59 = true
        ·subst c86
         replace H : (some false) = some r := by rw [if_pos rfl] at H; exact H
         exact absurd (Option.some.inj H) (by rw [HQ_.out]; simp)
        ·replace c86 := Bool.eq_false_iff.mpr c86
         subst c86
         replace H : ((laws_markEvent.f kj59 t1084 t1085 t1086 t1089 t1092 t1093 t1094 1).bind fun bt1119 => ((laws_markIntS.f kj59 t1095 bt1119.1).bind fun bt1122 => ((laws_heldEvent.f kj59 t1084 t1085 bt1119.2.1 bt1119.2.2 t1092 t1093 t1094 1).bind fun t1124 => (if t1124 < 0 then (some false) else ((laws_heldIntS.f kj59 bt1122.2 t1124).bind fun t1125 => (if t1125 < 0 then (some false) else (if t1125 = bt1122.1 then ((laws_toEvent.f kj59 a0_0 a0_1 l0_2 l0_3 a0_4 a0_5 a0_6).bind fun bt1126 => ((impl_Raise.f kj59 bt1126.1 bt1126.2.1 bt1126.2.2.1 bt1126.2.2.2.1 bt1126.2.2.2.2.1 bt1126.2.2.2.2.2.1 bt1126.2.2.2.2.2.2).bind fun bt1137 => ((laws_eqEvent.f kj59 bt1137.1 bt1137.2.1 bt1137.2.2.1 bt1137.2.2.2.1 bt1137.2.2.2.2.1 bt1137.2.2.2.2.2.1 bt1137.2.2.2.2.2.2.1 t1056 t1057 t1058 t1061 t1064 t1065 t1066).bind fun t1153 => (if t1153 = true then ((laws_eqIntS.f kj59 bt1137.2.2.2.2.2.2.2.1 t1067).bind fun t1154 => (if t1154 = true then (laws_FnExactRaise.j2 kj59 bt1122.2 bt1122.1 (bt1137.2.2.2.2.2.2.2.2 != t1070) t1084 t1085 bt1119.2.1 bt1119.2.2 t1092 t1093 t1094) else (laws_FnExactRaise.j2 kj59 bt1122.2 bt1122.1 true t1084 t1085 bt1119.2.1 bt1119.2.2 t1092 t1093 t1094))) else (laws_FnExactRaise.j2 kj59 bt1122.2 bt1122.1 true t1084 t1085 bt1119.2.1 bt1119.2.2 t1092 t1093 t1094))))) else (some false)))))))) = some r := by rw [if_neg (show ¬ (false = true) by decide)] at H; exact H
         replace H := Option.bind_eq_some_iff.mp H
         obtain ⟨⟨t1119, t1120, t1121⟩, A870, H⟩ := H
         replace H : ((laws_markIntS.f kj59 t1095 t1119).bind fun bt1122 => ((laws_heldEvent.f kj59 t1084 t1085 t1120 t1121 t1092 t1093 t1094 1).bind fun t1124 => (if t1124 < 0 then (some false) else ((laws_heldIntS.f kj59 bt1122.2 t1124).bind fun t1125 => (if t1125 < 0 then (some false) else (if t1125 = bt1122.1 then ((laws_toEvent.f kj59 a0_0 a0_1 l0_2 l0_3 a0_4 a0_5 a0_6).bind fun bt1126 => ((impl_Raise.f kj59 bt1126.1 bt1126.2.1 bt1126.2.2.1 bt1126.2.2.2.1 bt1126.2.2.2.2.1 bt1126.2.2.2.2.2.1 bt1126.2.2.2.2.2.2).bind fun bt1137 => ((laws_eqEvent.f kj59 bt1137.1 bt1137.2.1 bt1137.2.2.1 bt1137.2.2.2.1 bt1137.2.2.2.2.1 bt1137.2.2.2.2.2.1 bt1137.2.2.2.2.2.2.1 t1056 t1057 t1058 t1061 t1064 t1065 t1066).bind fun t1153 => (if t1153 = true then ((laws_eqIntS.f kj59 bt1137.2.2.2.2.2.2.2.1 t1067).bind fun t1154 => (if t1154 = true then (laws_FnExactRaise.j2 kj59 bt1122.2 bt1122.1 (bt1137.2.2.2.2.2.2.2.2 != t1070) t1084 t1085 t1120 t1121 t1092 t1093 t1094) else (laws_FnExactRaise.j2 kj59 bt1122.2 bt1122.1 true t1084 t1085 t1120 t1121 t1092 t1093 t1094))) else (laws_FnExactRaise.j2 kj59 bt1122.2 bt1122.1 true t1084 t1085 t1120 t1121 t1092 t1093 t1094))))) else (some false))))))) = some r := H
         have A87 := am A870
         clear A870
         replace H := Option.bind_eq_some_iff.mp H
         obtain ⟨⟨t1122, t1123⟩, A880, H⟩ := H
         replace H : ((laws_heldEvent.f kj59 t1084 t1085 t1120 t1121 t1092 t1093 t1094 1).bind fun t1124 => (if t1124 < 0 then (some false) else ((laws_heldIntS.f kj59 t1123 t1124).bind fun t1125 => (if t1125 < 0 then (some false) else (if t1125 = t1122 then ((laws_toEvent.f kj59 a0_0 a0_1 l0_2 l0_3 a0_4 a0_5 a0_6).bind fun bt1126 => ((impl_Raise.f kj59 bt1126.1 bt1126.2.1 bt1126.2.2.1 bt1126.2.2.2.1 bt1126.2.2.2.2.1 bt1126.2.2.2.2.2.1 bt1126.2.2.2.2.2.2).bind fun bt1137 => ((laws_eqEvent.f kj59 bt1137.1 bt1137.2.1 bt1137.2.2.1 bt1137.2.2.2.1 bt1137.2.2.2.2.1 bt1137.2.2.2.2.2.1 bt1137.2.2.2.2.2.2.1 t1056 t1057 t1058 t1061 t1064 t1065 t1066).bind fun t1153 => (if t1153 = true then ((laws_eqIntS.f kj59 bt1137.2.2.2.2.2.2.2.1 t1067).bind fun t1154 => (if t1154 = true then (laws_FnExactRaise.j2 kj59 t1123 t1122 (bt1137.2.2.2.2.2.2.2.2 != t1070) t1084 t1085 t1120 t1121 t1092 t1093 t1094) else (laws_FnExactRaise.j2 kj59 t1123 t1122 true t1084 t1085 t1120 t1121 t1092 t1093 t1094))) else (laws_FnExactRaise.j2 kj59 t1123 t1122 true t1084 t1085 t1120 t1121 t1092 t1093 t1094))))) else (some false)))))) = some r := H
         have A88 := am A880
         clear A880
         replace H := Option.bind_eq_some_iff.mp H
         obtain ⟨t1124, A890, H⟩ := H
         replace H : (if t1124 < 0 then (some false) else ((laws_heldIntS.f kj59 t1123 t1124).bind fun t1125 => (if t1125 < 0 then (some false) else (if t1125 = t1122 then ((laws_toEvent.f kj59 a0_0 a0_1 l0_2 l0_3 a0_4 a0_5 a0_6).bind fun bt1126 => ((impl_Raise.f kj59 bt1126.1 bt1126.2.1 bt1126.2.2.1 bt1126.2.2.2.1 bt1126.2.2.2.2.1 bt1126.2.2.2.2.2.1 bt1126.2.2.2.2.2.2).bind fun bt1137 => ((laws_eqEvent.f kj59 bt1137.1 bt1137.2.1 bt1137.2.2.1 bt1137.2.2.2.1 bt1137.2.2.2.2.1 bt1137.2.2.2.2.2.1 bt1137.2.2.2.2.2.2.1 t1056 t1057 t1058 t1061 t1064 t1065 t1066).bind fun t1153 => (if t1153 = true then ((laws_eqIntS.f kj59 bt1137.2.2.2.2.2.2.2.1 t1067).bind fun t1154 => (if t1154 = true then (laws_FnExactRaise.j2 kj59 t1123 t1122 (bt1137.2.2.2.2.2.2.2.2 != t1070) t1084 t1085 t1120 t1121 t1092 t1093 t1094) else (laws_FnExactRaise.j2 kj59 t1123 t1122 true t1084 t1085 t1120 t1121 t1092 t1093 t1094))) else (laws_FnExactRaise.j2 kj59 t1123 t1122 true t1084 t1085 t1120 t1121 t1092 t1093 t1094))))) else (some false))))) = some r := H
         have A89 := am A890
         clear A890
         by_cases c90 : t1124 < 0
         ·rw [if_pos c90] at H
          have c90b0 : decide (t1124 < 0) = true := decide_eq_true c90
          clear c90
          exact absurd (Option.some.inj H) (by rw [HQ_.out]; simp)
         ·rw [if_neg c90] at H
          have c90b0 : decide (t1124 < 0) = false := decide_eq_false c90
          clear c90
          replace H := Option.bind_eq_some_iff.mp H
          obtain ⟨t1125, A910, H⟩ := H
          replace H : (if t1125 < 0 then (some false) else (if t1125 = t1122 then ((laws_toEvent.f kj59 a0_0 a0_1 l0_2 l0_3 a0_4 a0_5 a0_6).bind fun bt1126 => ((impl_Raise.f kj59 bt1126.1 bt1126.2.1 bt1126.2.2.1 bt1126.2.2.2.1 bt1126.2.2.2.2.1 bt1126.2.2.2.2.2.1 bt1126.2.2.2.2.2.2).bind fun bt1137 => ((laws_eqEvent.f kj59 bt1137.1 bt1137.2.1 bt1137.2.2.1 bt1137.2.2.2.1 bt1137.2.2.2.2.1 bt1137.2.2.2.2.2.1 bt1137.2.2.2.2.2.2.1 t1056 t1057 t1058 t1061 t1064 t1065 t1066).bind fun t1153 => (if t1153 = true then ((laws_eqIntS.f kj59 bt1137.2.2.2.2.2.2.2.1 t1067).bind fun t1154 => (if t1154 = true then (laws_FnExactRaise.j2 kj59 t1123 t1122 (bt1137.2.2.2.2.2.2.2.2 != t1070) t1084 t1085 t1120 t1121 t1092 t1093 t1094) else (laws_FnExactRaise.j2 kj59 t1123 t1122 true t1084 t1085 t1120 t1121 t1092 t1093 t1094))) else (laws_FnExactRaise.j2 kj59 t1123 t1122 true t1084 t1085 t1120 t1121 t1092 t1093 t1094))))) else (some false))) = some r := H
          have A91 := am A910
          clear A910
          by_cases c92 : t1125 < 0
          ·rw [if_pos c92] at H
           have c92b0 : decide (t1125 < 0) = true := decide_eq_true c92
           clear c92
           exact absurd (Option.some.inj H) (by rw [HQ_.out]; simp)
          ·rw [if_neg c92] at H
           have c92b0 : decide (t1125 < 0) = false := decide_eq_false c92
           clear c92
           by_cases c93 : t1125 = t1122
           ·rw [if_pos c93] at H
            have c93b0 : (t1125 == t1122) = true := beq_iff_eq.mpr c93
            have c93b1 : (t1125 != t1122) = false := bne_eq_false_iff_eq.mpr c93
            clear c93
            replace H := Option.bind_eq_some_iff.mp H
            obtain ⟨⟨t1126, t1127, t1128, t1131, t1134, t1135, t1136⟩, A940, H⟩ := H
            replace H : ((impl_Raise.f kj59 t1126 t1127 t1128 t1131 t1134 t1135 t1136).bind fun bt1137 => ((laws_eqEvent.f kj59 bt1137.1 bt1137.2.1 bt1137.2.2.1 bt1137.2.2.2.1 bt1137.2.2.2.2.1 bt1137.2.2.2.2.2.1 bt1137.2.2.2.2.2.2.1 t1056 t1057 t1058 t1061 t1064 t1065 t1066).bind fun t1153 => (if t1153 = true then ((laws_eqIntS.f kj59 bt1137.2.2.2.2.2.2.2.1 t1067).bind fun t1154 => (if t1154 = true then (laws_FnExactRaise.j2 kj59 t1123 t1122 (bt1137.2.2.2.2.2.2.2.2 != t1070) t1084 t1085 t1120 t1121 t1092 t1093 t1094) else (laws_FnExactRaise.j2 kj59 t1123 t1122 true t1084 t1085 t1120 t1121 t1092 t1093 t1094))) else (laws_FnExactRaise.j2 kj59 t1123 t1122 true t1084 t1085 t1120 t1121 t1092 t1093 t1094)))) = some r := H
            have A94 := am A940
            clear A940
            replace H := Option.bind_eq_some_iff.mp H
            obtain ⟨⟨t1137, t1138, t1139, t1142, t1145, t1146, t1147, t1148, t1151⟩, A950, H⟩ := H
            replace H : ((laws_eqEvent.f kj59 t1137 t1138 t1139 t1142 t1145 t1146 t1147 t1056 t1057 t1058 t1061 t1064 t1065 t1066).bind fun t1153 => (if t1153 = true then ((laws_eqIntS.f kj59 t1148 t1067).bind fun t1154 => (if t1154 = true then (laws_FnExactRaise.j2 kj59 t1123 t1122 (t1151 != t1070) t1084 t1085 t1120 t1121 t1092 t1093 t1094) else (laws_FnExactRaise.j2 kj59 t1123 t1122 true t1084 t1085 t1120 t1121 t1092 t1093 t1094))) else (laws_FnExactRaise.j2 kj59 t1123 t1122 true t1084 t1085 t1120 t1121 t1092 t1093 t1094))) = some r := H
            have A95 := am A950
            clear A950
            have HC96 := am H
            clear H
            have hnb97 := NB1099_1043.out
            have hnc97 := NB1043_1099.out
            have hnb98 := NB1099_1071.out
            have hnc98 := NB1071_1099.out
            have hnb99 := NB1099_1083.out
            have hnc99 := NB1083_1099.out
            obtain ⟨hcz100_0, hcz100_1, hcz100_2, hcz100_3, hcz100_4, hcz100_5, hcz100_6, hfz100_0, hfz100_1, hfz100_2, hfz100_3, hfz100_4, hfz100_5, hfz100_6⟩ := bk7 BK1099.out
            go_upto_region 29 with (first | ((with_reducible refine gate_callee (f := 26) rfl ?_); refine goesL_ (some 81) rfl rfl Try.func26 (by kernel_rfl) rfl #[.agg #[.bool t1084, .bool t1085, .slice Ao39 t1086.length co39, .slice Ao40 t1089.length co40, .int .i64 t1092, .int .i64 t1093, .int .i64 t1094], .int .i64 1] rfl mpx ?_; (with_reducible refine (laws_markEvent.calls kj59 t1084 t1085 (fun k_ => some k_ = (.slice Ao39 t1086.length co39 : Value).ownBlock) (.slice Ao39 t1086.length co39) t1086 (fun k_ => some k_ = (.slice Ao40 t1089.length co40 : Value).ownBlock) (.slice Ao40 t1089.length co40) t1089 t1092 t1093 t1094 1 t1119 t1120 t1121 w _ ?side1 ?side2 ?side3 ?side4 ?side5 A87.out).mono ?_); (case side1 => repeat (first | (with_reducible first | exact HB.out | apply below_alloc | apply pw_below_drewN | apply below_drew1 | refine below_set ?_ GE1043.out | refine below_set ?_ GE1071.out | refine below_set ?_ GE1083.out | refine below_set ?_ GE1099.out) | exact HB.out)); (case side2 => exact Kd.Q_tight rfl HO_1100002.out); (case side3 => exact fun k_ e_ => (HO_1100002.out.1 k_ e_.symm).2.2.2.2.2.2); (case side4 => exact Kd.Q_tight rfl HO_1100003.out); (case side5 => exact fun k_ e_ => (HO_1100003.out.1 k_ e_.symm).2.2.2.2.2.2); rintro e w101 ⟨rfl, hy0, hy1, hb, hkp⟩; refine ⟨_, rfl, ?_⟩; replace HO_5 := am (Kd.R_mono (ok' := fun k_ => some k_ ≠ (v1096 : Value).ownBlock ∧ some k_ ≠ (.slice Ao23 t1058.length co23 : Value).ownBlock ∧ some k_ ≠ (.slice Ao24 t1061.length co24 : Value).ownBlock ∧ some k_ ≠ (.slice Ao31 t1115.length co31 : Value).ownBlock ∧ some k_ ≠ (.slice Ao32 t1116.length co32 : Value).ownBlock ∧ some k_ ≠ (.slice Ao39 t1086.length co39 : Value).ownBlock ∧ some k_ ≠ (.slice Ao40 t1089.length co40 : Value).ownBlock) (Kd.R_keptB (HO_5.out) hkp (fun k_ hk_ hs_ => Or.elim hs_ (fun e_ => (hk_.2.2.2.2.2.1) e_) (fun e_ => (hk_.2.2.2.2.2.2) e_))) (fun k_ hk_ => ⟨hk_.1.1, hk_.1.2.1, hk_.1.2.2.1, hk_.1.2.2.2.1, hk_.1.2.2.2.2.1, hk_.1.2.2.2.2.2.1, hk_.1.2.2.2.2.2.2⟩)); replace HO_9 := am (Kd.Q_mono (ok' := fun k_ => some k_ ≠ (v1068 : Value).ownBlock ∧ some k_ ≠ (.slice Ao23 t1058.length co23 : Value).ownBlock ∧ some k_ ≠ (.slice Ao24 t1061.length co24 : Value).ownBlock ∧ some k_ ≠ (.slice Ao31 t1115.length co31 : Value).ownBlock ∧ some k_ ≠ (.slice Ao32 t1116.length co32 : Value).ownBlock ∧ some k_ ≠ (.slice Ao39 t1086.length co39 : Value).ownBlock ∧ some k_ ≠ (.slice Ao40 t1089.length co40 : Value).ownBlock) (Kd.Q_keptB (HO_9.out) hkp (fun k_ hk_ hs_ => Or.elim hs_ (fun e_ => (hk_.2.2.2.2.2.1) e_) (fun e_ => (hk_.2.2.2.2.2.2) e_))) (fun k_ hk_ => ⟨hk_.1.1, hk_.1.2.1, hk_.1.2.2.1, hk_.1.2.2.2.1, hk_.1.2.2.2.2.1, hk_.1.2.2.2.2.2.1, hk_.1.2.2.2.2.2.2⟩)); replace HO_1072002 := am (Kd.Q_mono (ok' := fun k_ => some k_ ≠ (v1068 : Value).ownBlock ∧ some k_ ≠ (v1096 : Value).ownBlock ∧ some k_ ≠ (.slice Ao24 t1061.length co24 : Value).ownBlock ∧ some k_ ≠ (.slice Ao31 t1115.length co31 : Value).ownBlock ∧ some k_ ≠ (.slice Ao32 t1116.length co32 : Value).ownBlock ∧ some k_ ≠ (.slice Ao39 t1086.length co39 : Value).ownBlock ∧ some k_ ≠ (.slice Ao40 t1089.length co40 : Value).ownBlock) (Kd.Q_keptB (HO_1072002.out) hkp (fun k_ hk_ hs_ => Or.elim hs_ (fun e_ => (hk_.2.2.2.2.2.1) e_) (fun e_ => (hk_.2.2.2.2.2.2) e_))) (fun k_ hk_ => ⟨hk_.1.1, hk_.1.2.1, hk_.1.2.2.1, hk_.1.2.2.2.1, hk_.1.2.2.2.2.1, hk_.1.2.2.2.2.2.1, hk_.1.2.2.2.2.2.2⟩)); replace HO_1072003 := am (Kd.R_mono (ok' := fun k_ => some k_ ≠ (v1068 : Value).ownBlock ∧ some k_ ≠ (v1096 : Value).ownBlock ∧ some k_ ≠ (.slice Ao23 t1058.length co23 : Value).ownBlock ∧ some k_ ≠ (.slice Ao31 t1115.length co31 : Value).ownBlock ∧ some k_ ≠ (.slice Ao32 t1116.length co32 : Value).ownBlock ∧ some k_ ≠ (.slice Ao39 t1086.length co39 : Value).ownBlock ∧ some k_ ≠ (.slice Ao40 t1089.length co40 : Value).ownBlock) (Kd.R_keptB (HO_1072003.out) hkp (fun k_ hk_ hs_ => Or.elim hs_ (fun e_ => (hk_.2.2.2.2.2.1) e_) (fun e_ => (hk_.2.2.2.2.2.2) e_))) (fun k_ hk_ => ⟨hk_.1.1, hk_.1.2.1, hk_.1.2.2.1, hk_.1.2.2.2.1, hk_.1.2.2.2.2.1, hk_.1.2.2.2.2.2.1, hk_.1.2.2.2.2.2.2⟩)); replace HO_1084002 := am (Kd.Q_mono (ok' := fun k_ => some k_ ≠ (v1068 : Value).ownBlock ∧ some k_ ≠ (v1096 : Value).ownBlock ∧ some k_ ≠ (.slice Ao23 t1058.length co23 : Value).ownBlock ∧ some k_ ≠ (.slice Ao24 t1061.length co24 : Value).ownBlock ∧ some k_ ≠ (.slice Ao32 t1116.length co32 : Value).ownBlock ∧ some k_ ≠ (.slice Ao39 t1086.length co39 : Value).ownBlock ∧ some k_ ≠ (.slice Ao40 t1089.length co40 : Value).ownBlock) (Kd.Q_keptB (HO_1084002.out) hkp (fun k_ hk_ hs_ => Or.elim hs_ (fun e_ => (hk_.2.2.2.2.2.1) e_) (fun e_ => (hk_.2.2.2.2.2.2) e_))) (fun k_ hk_ => ⟨hk_.1.1, hk_.1.2.1, hk_.1.2.2.1, hk_.1.2.2.2.1, hk_.1.2.2.2.2.1, hk_.1.2.2.2.2.2.1, hk_.1.2.2.2.2.2.2⟩)); replace HO_1084003 := am (Kd.Q_mono (ok' := fun k_ => some k_ ≠ (v1068 : Value).ownBlock ∧ some k_ ≠ (v1096 : Value).ownBlock ∧ some k_ ≠ (.slice Ao23 t1058.length co23 : Value).ownBlock ∧ some k_ ≠ (.slice Ao24 t1061.length co24 : Value).ownBlock ∧ some k_ ≠ (.slice Ao31 t1115.length co31 : Value).ownBlock ∧ some k_ ≠ (.slice Ao39 t1086.length co39 : Value).ownBlock ∧ some k_ ≠ (.slice Ao40 t1089.length co40 : Value).ownBlock) (Kd.Q_keptB (HO_1084003.out) hkp (fun k_ hk_ hs_ => Or.elim hs_ (fun e_ => (hk_.2.2.2.2.2.1) e_) (fun e_ => (hk_.2.2.2.2.2.2) e_))) (fun k_ hk_ => ⟨hk_.1.1, hk_.1.2.1, hk_.1.2.2.1, hk_.1.2.2.2.1, hk_.1.2.2.2.2.1, hk_.1.2.2.2.2.2.1, hk_.1.2.2.2.2.2.2⟩)); replace BK1043 := am (blk_kept (pkK BK1043.out) hkp (fun hs_ => Or.elim hs_ (fun e_ => (fun e_ => (Kd.Q_ne HO_1100002.out BK1043.out (by decide)) e_) e_) (fun e_ => (fun e_ => (Kd.Q_ne HO_1100003.out BK1043.out (by decide)) e_) e_))); replace BK1071 := am (blk_kept (pkK BK1071.out) hkp (fun hs_ => Or.elim hs_ (fun e_ => (fun e_ => (Kd.Q_ne HO_1100002.out BK1071.out (by decide)) e_) e_) (fun e_ => (fun e_ => (Kd.Q_ne HO_1100003.out BK1071.out (by decide)) e_) e_))); replace BK1083 := am (blk_kept (pkK BK1083.out) hkp (fun hs_ => Or.elim hs_ (fun e_ => (fun e_ => (Kd.Q_ne HO_1100002.out BK1083.out (by decide)) e_) e_) (fun e_ => (fun e_ => (Kd.Q_ne HO_1100003.out BK1083.out (by decide)) e_) e_))); replace BK1099 := am (blk_kept (pkK BK1099.out) hkp (fun hs_ => Or.elim hs_ (fun e_ => (fun e_ => (Kd.Q_ne HO_1100002.out BK1099.out (by decide)) e_) e_) (fun e_ => (fun e_ => (Kd.Q_ne HO_1100003.out BK1099.out (by decide)) e_) e_))); replace HO_1100002 := am (Kd.Q_reok rfl hy0 (fun k_ e_ => HO_1100002.out.1 k_ e_)); replace HO_1100003 := am (Kd.Q_reok rfl hy1 (fun k_ e_ => HO_1100003.out.1 k_ e_)); replace HB := am (hb); (try clear hb); (try clear hkp); (try clear hy0); (try clear hy1); obtain ⟨Ao102, co102, eo102, _⟩ := Kd.Q_slice HO_9.out; subst eo102) | ((with_reducible refine gate_callee (f := 36) rfl ?_); refine goesL_ (some 84) rfl rfl Try.func36 (by kernel_rfl) rfl #[.slice Ao102 t1095.length co102, .int .i64 t1119] rfl mpx ?_; (with_reducible refine (laws_markIntS.calls kj59 (fun k_ => some k_ = (.slice Ao102 t1095.length co102 : Value).ownBlock) (.slice Ao102 t1095.length co102) t1095 t1119 t1122 t1123 w _ ?side1 ?side2 A88.out).mono ?_); (case side1 => repeat (first | (with_reducible first | exact HB.out | apply below_alloc | apply pw_below_drewN | apply below_drew1 | refine below_set ?_ GE1043.out | refine below_set ?_ GE1071.out | refine below_set ?_ GE1083.out | refine below_set ?_ GE1099.out) | exact HB.out)); (case side2 => exact Kd.Q_tight rfl HO_9.out); rintro e w103 ⟨rfl, hy0, hb, hkp⟩; refine ⟨_, rfl, ?_⟩; replace HO_5 := am (Kd.R_mono (ok' := fun k_ => some k_ ≠ (.slice Ao102 t1095.length co102 : Value).ownBlock ∧ some k_ ≠ (.slice Ao23 t1058.length co23 : Value).ownBlock ∧ some k_ ≠ (.slice Ao24 t1061.length co24 : Value).ownBlock ∧ some k_ ≠ (.slice Ao31 t1115.length co31 : Value).ownBlock ∧ some k_ ≠ (.slice Ao32 t1116.length co32 : Value).ownBlock ∧ some k_ ≠ (.slice Ao39 t1086.length co39 : Value).ownBlock ∧ some k_ ≠ (.slice Ao40 t1089.length co40 : Value).ownBlock) (Kd.R_keptB (HO_5.out) hkp (fun k_ hk_ hs_ => (hk_.1) hs_)) (fun k_ hk_ => ⟨hk_.1.1, hk_.1.2.1, hk_.1.2.2.1, hk_.1.2.2.2.1, hk_.1.2.2.2.2.1, hk_.1.2.2.2.2.2.1, hk_.1.2.2.2.2.2.2⟩)); replace HO_1072002 := am (Kd.Q_mono (ok' := fun k_ => some k_ ≠ (v1068 : Value).ownBlock ∧ some k_ ≠ (.slice Ao102 t1095.length co102 : Value).ownBlock ∧ some k_ ≠ (.slice Ao24 t1061.length co24 : Value).ownBlock ∧ some k_ ≠ (.slice Ao31 t1115.length co31 : Value).ownBlock ∧ some k_ ≠ (.slice Ao32 t1116.length co32 : Value).ownBlock ∧ some k_ ≠ (.slice Ao39 t1086.length co39 : Value).ownBlock ∧ some k_ ≠ (.slice Ao40 t1089.length co40 : Value).ownBlock) (Kd.Q_keptB (HO_1072002.out) hkp (fun k_ hk_ hs_ => (hk_.2.1) hs_)) (fun k_ hk_ => ⟨hk_.1.1, hk_.1.2.1, hk_.1.2.2.1, hk_.1.2.2.2.1, hk_.1.2.2.2.2.1, hk_.1.2.2.2.2.2.1, hk_.1.2.2.2.2.2.2⟩)); replace HO_1072003 := am (Kd.R_mono (ok' := fun k_ => some k_ ≠ (v1068 : Value).ownBlock ∧ some k_ ≠ (.slice Ao102 t1095.length co102 : Value).ownBlock ∧ some k_ ≠ (.slice Ao23 t1058.length co23 : Value).ownBlock ∧ some k_ ≠ (.slice Ao31 t1115.length co31 : Value).ownBlock ∧ some k_ ≠ (.slice Ao32 t1116.length co32 : Value).ownBlock ∧ some k_ ≠ (.slice Ao39 t1086.length co39 : Value).ownBlock ∧ some k_ ≠ (.slice Ao40 t1089.length co40 : Value).ownBlock) (Kd.R_keptB (HO_1072003.out) hkp (fun k_ hk_ hs_ => (hk_.2.1) hs_)) (fun k_ hk_ => ⟨hk_.1.1, hk_.1.2.1, hk_.1.2.2.1, hk_.1.2.2.2.1, hk_.1.2.2.2.2.1, hk_.1.2.2.2.2.2.1, hk_.1.2.2.2.2.2.2⟩)); replace HO_1084002 := am (Kd.Q_mono (ok' := fun k_ => some k_ ≠ (v1068 : Value).ownBlock ∧ some k_ ≠ (.slice Ao102 t1095.length co102 : Value).ownBlock ∧ some k_ ≠ (.slice Ao23 t1058.length co23 : Value).ownBlock ∧ some k_ ≠ (.slice Ao24 t1061.length co24 : Value).ownBlock ∧ some k_ ≠ (.slice Ao32 t1116.length co32 : Value).ownBlock ∧ some k_ ≠ (.slice Ao39 t1086.length co39 : Value).ownBlock ∧ some k_ ≠ (.slice Ao40 t1089.length co40 : Value).ownBlock) (Kd.Q_keptB (HO_1084002.out) hkp (fun k_ hk_ hs_ => (hk_.2.1) hs_)) (fun k_ hk_ => ⟨hk_.1.1, hk_.1.2.1, hk_.1.2.2.1, hk_.1.2.2.2.1, hk_.1.2.2.2.2.1, hk_.1.2.2.2.2.2.1, hk_.1.2.2.2.2.2.2⟩)); replace HO_1084003 := am (Kd.Q_mono (ok' := fun k_ => some k_ ≠ (v1068 : Value).ownBlock ∧ some k_ ≠ (.slice Ao102 t1095.length co102 : Value).ownBlock ∧ some k_ ≠ (.slice Ao23 t1058.length co23 : Value).ownBlock ∧ some k_ ≠ (.slice Ao24 t1061.length co24 : Value).ownBlock ∧ some k_ ≠ (.slice Ao31 t1115.length co31 : Value).ownBlock ∧ some k_ ≠ (.slice Ao39 t1086.length co39 : Value).ownBlock ∧ some k_ ≠ (.slice Ao40 t1089.length co40 : Value).ownBlock) (Kd.Q_keptB (HO_1084003.out) hkp (fun k_ hk_ hs_ => (hk_.2.1) hs_)) (fun k_ hk_ => ⟨hk_.1.1, hk_.1.2.1, hk_.1.2.2.1, hk_.1.2.2.2.1, hk_.1.2.2.2.2.1, hk_.1.2.2.2.2.2.1, hk_.1.2.2.2.2.2.2⟩)); replace HO_1100002 := am (Kd.Q_mono (ok' := fun k_ => some k_ ≠ (v1068 : Value).ownBlock ∧ some k_ ≠ (.slice Ao102 t1095.length co102 : Value).ownBlock ∧ some k_ ≠ (.slice Ao23 t1058.length co23 : Value).ownBlock ∧ some k_ ≠ (.slice Ao24 t1061.length co24 : Value).ownBlock ∧ some k_ ≠ (.slice Ao31 t1115.length co31 : Value).ownBlock ∧ some k_ ≠ (.slice Ao32 t1116.length co32 : Value).ownBlock ∧ some k_ ≠ (.slice Ao40 t1089.length co40 : Value).ownBlock) (Kd.Q_keptB (HO_1100002.out) hkp (fun k_ hk_ hs_ => (hk_.2.1) hs_)) (fun k_ hk_ => ⟨hk_.1.1, hk_.1.2.1, hk_.1.2.2.1, hk_.1.2.2.2.1, hk_.1.2.2.2.2.1, hk_.1.2.2.2.2.2.1, hk_.1.2.2.2.2.2.2⟩)); replace HO_1100003 := am (Kd.Q_mono (ok' := fun k_ => some k_ ≠ (v1068 : Value).ownBlock ∧ some k_ ≠ (.slice Ao102 t1095.length co102 : Value).ownBlock ∧ some k_ ≠ (.slice Ao23 t1058.length co23 : Value).ownBlock ∧ some k_ ≠ (.slice Ao24 t1061.length co24 : Value).ownBlock ∧ some k_ ≠ (.slice Ao31 t1115.length co31 : Value).ownBlock ∧ some k_ ≠ (.slice Ao32 t1116.length co32 : Value).ownBlock ∧ some k_ ≠ (.slice Ao39 t1086.length co39 : Value).ownBlock) (Kd.Q_keptB (HO_1100003.out) hkp (fun k_ hk_ hs_ => (hk_.2.1) hs_)) (fun k_ hk_ => ⟨hk_.1.1, hk_.1.2.1, hk_.1.2.2.1, hk_.1.2.2.2.1, hk_.1.2.2.2.2.1, hk_.1.2.2.2.2.2.1, hk_.1.2.2.2.2.2.2⟩)); replace BK1043 := am (blk_kept (pkK BK1043.out) hkp (fun hs_ => (fun e_ => (Kd.Q_ne HO_9.out BK1043.out (by decide)) e_) hs_)); replace BK1071 := am (blk_kept (pkK BK1071.out) hkp (fun hs_ => (fun e_ => (Kd.Q_ne HO_9.out BK1071.out (by decide)) e_) hs_)); replace BK1083 := am (blk_kept (pkK BK1083.out) hkp (fun hs_ => (fun e_ => (Kd.Q_ne HO_9.out BK1083.out (by decide)) e_) hs_)); replace BK1099 := am (blk_kept (pkK BK1099.out) hkp (fun hs_ => (fun e_ => (Kd.Q_ne HO_9.out BK1099.out (by decide)) e_) hs_)); replace HO_9 := am (Kd.Q_reok rfl hy0 (fun k_ e_ => HO_9.out.1 k_ e_)); replace HB := am (hb); (try clear hb); (try clear hkp); (try clear hy0); obtain ⟨hcz104_0, hcz104_1, hcz104_2, hcz104_3, hcz104_4, hcz104_5, hcz104_6, hfz104_0, hfz104_1, hfz104_2, hfz104_3, hfz104_4, hfz104_5, hfz104_6⟩ := bk7 BK1099.out) | ((with_reducible refine gate_callee (f := 27) rfl ?_); refine goesL_ (some 87) rfl rfl Try.func27 (by kernel_rfl) rfl #[.agg #[.bool t1084, .bool t1085, .slice Ao39 t1120.length co39, .slice Ao40 t1121.length co40, .int .i64 t1092, .int .i64 t1093, .int .i64 t1094], .int .i64 1] rfl (by (try simp only [List.map_toArray, List.map_cons, List.map_nil]); first | done | (rw [show t1120.length = t1086.length from (Kd.Q_reads' HO_1100002.out).1.symm, show t1121.length = t1089.length from (Kd.Q_reads' HO_1100003.out).1.symm] <;> rfl) | rfl | (simp only [List.length_drop, List.length_take]; rfl) | (go_simp; done) | (simp [*]; done)) ?_; (with_reducible refine (laws_heldEvent.calls kj59 t1084 t1085 _ _ t1120 _ _ t1121 t1092 t1093 t1094 1 t1124 _ ?side1 ?side2 ?side3 ?side4 A89.out).mono ?_); (case side1 => repeat (first | exact (Kd.Q_reads' HO_1100002.out).2.2 | (with_reducible refine Kd.C_alloc ?_ _) | (with_reducible refine Kd.C_drewN ?_ _) | (with_reducible refine Kd.C_drew ?_))); (case side2 => rw [show t1120.length = t1086.length from (Kd.Q_reads' HO_1100002.out).1.symm]; exact (Kd.Q_reads' HO_1100002.out).2.1); (case side3 => repeat (first | exact (Kd.Q_reads' HO_1100003.out).2.2 | (with_reducible refine Kd.C_alloc ?_ _) | (with_reducible refine Kd.C_drewN ?_ _) | (with_reducible refine Kd.C_drew ?_))); (case side4 => rw [show t1121.length = t1089.length from (Kd.Q_reads' HO_1100003.out).1.symm]; exact (Kd.Q_reads' HO_1100003.out).2.1); rintro e w105 ⟨rfl, hb⟩; refine ⟨_, rfl, ?_⟩; replace HO_5 := am (Kd.R_below (pkR HO_5.out) hb); replace HO_9 := am (Kd.Q_below (pkQ HO_9.out) hb); replace HO_1072002 := am (Kd.Q_below (pkQ HO_1072002.out) hb); replace HO_1072003 := am (Kd.R_below (pkR HO_1072003.out) hb); replace HO_1084002 := am (Kd.Q_below (pkQ HO_1084002.out) hb); replace HO_1084003 := am (Kd.Q_below (pkQ HO_1084003.out) hb); replace HO_1100002 := am (Kd.Q_below (pkQ HO_1100002.out) hb); replace HO_1100003 := am (Kd.Q_below (pkQ HO_1100003.out) hb); replace BK1043 := am (blk_below (pkK BK1043.out) hb); replace BK1071 := am (blk_below (pkK BK1071.out) hb); replace BK1083 := am (blk_below (pkK BK1083.out) hb); replace BK1099 := am (blk_below (pkK BK1099.out) hb); replace HB := am (below_step (pkW HB.out) hb); (try clear hb)) | ((with_reducible refine gate_callee (f := 38) rfl ?_); refine goesL_ (some 92) rfl rfl Try.func38 (by kernel_rfl) rfl #[.slice Ao102 t1123.length co102, .int .i64 t1124] rfl (by (try simp only [List.map_toArray, List.map_cons, List.map_nil]); first | done | (rw [show t1123.length = t1095.length from (Kd.Q_reads' HO_9.out).1.symm] <;> rfl) | rfl | (simp only [List.length_drop, List.length_take]; rfl) | (go_simp; done) | (simp [*]; done)) ?_; (with_reducible refine (laws_heldIntS.calls kj59 _ _ t1123 t1124 t1125 _ ?side1 ?side2 A91.out).mono ?_); (case side1 => repeat (first | exact (Kd.Q_reads' HO_9.out).2.2 | (with_reducible refine Kd.C_alloc ?_ _) | (with_reducible refine Kd.C_drewN ?_ _) | (with_reducible refine Kd.C_drew ?_))); (case side2 => rw [show t1123.length = t1095.length from (Kd.Q_reads' HO_9.out).1.symm]; exact (Kd.Q_reads' HO_9.out).2.1); rintro e w' ⟨rfl, ⟨nd, rfl⟩⟩; refine ⟨_, rfl, ?_⟩; (try (rw [drewN_self w105]; generalize hq_ : World.drewN w105 _ = w105; replace HO_1072002 : Aside0 (Kd.Q (Kd.int .i64) 3 w105 w.heap.size (fun k_ => (some k_ ≠ (v1068 : Value).ownBlock ∧ (some k_ ≠ (.slice Ao102 t1095.length co102 : Value).ownBlock ∧ (some k_ ≠ (.slice Ao24 t1061.length co24 : Value).ownBlock ∧ (some k_ ≠ (.slice Ao31 t1115.length co31 : Value).ownBlock ∧ (some k_ ≠ (.slice Ao32 t1116.length co32 : Value).ownBlock ∧ (some k_ ≠ (.slice Ao39 t1086.length co39 : Value).ownBlock ∧ some k_ ≠ (.slice Ao40 t1089.length co40 : Value).ownBlock))))))) (.slice Ao23 t1058.length co23) t1058) := ⟨by rw [← hq_]; exact (pkQ HO_1072002.out)⟩; replace HO_1072003 : Aside0 (Kd.R (Kd.int .i64) 3 w105 w.heap.size (fun k_ => (some k_ ≠ (v1068 : Value).ownBlock ∧ (some k_ ≠ (.slice Ao102 t1095.length co102 : Value).ownBlock ∧ (some k_ ≠ (.slice Ao23 t1058.length co23 : Value).ownBlock ∧ (some k_ ≠ (.slice Ao31 t1115.length co31 : Value).ownBlock ∧ (some k_ ≠ (.slice Ao32 t1116.length co32 : Value).ownBlock ∧ (some k_ ≠ (.slice Ao39 t1086.length co39 : Value).ownBlock ∧ some k_ ≠ (.slice Ao40 t1089.length co40 : Value).ownBlock))))))) (.slice Ao24 t1061.length co24) t1061) := ⟨by rw [← hq_]; exact (pkR HO_1072003.out)⟩; replace HO_1084002 : Aside0 (Kd.Q (Kd.int .i64) 3 w105 w.heap.size (fun k_ => (some k_ ≠ (v1068 : Value).ownBlock ∧ (some k_ ≠ (.slice Ao102 t1095.length co102 : Value).ownBlock ∧ (some k_ ≠ (.slice Ao23 t1058.length co23 : Value).ownBlock ∧ (some k_ ≠ (.slice Ao24 t1061.length co24 : Value).ownBlock ∧ (some k_ ≠ (.slice Ao32 t1116.length co32 : Value).ownBlock ∧ (some k_ ≠ (.slice Ao39 t1086.length co39 : Value).ownBlock ∧ some k_ ≠ (.slice Ao40 t1089.length co40 : Value).ownBlock))))))) (.slice Ao31 t1115.length co31) t1115) := ⟨by rw [← hq_]; exact (pkQ HO_1084002.out)⟩; replace HO_1084003 : Aside0 (Kd.Q (Kd.int .i64) 3 w105 w.heap.size (fun k_ => (some k_ ≠ (v1068 : Value).ownBlock ∧ (some k_ ≠ (.slice Ao102 t1095.length co102 : Value).ownBlock ∧ (some k_ ≠ (.slice Ao23 t1058.length co23 : Value).ownBlock ∧ (some k_ ≠ (.slice Ao24 t1061.length co24 : Value).ownBlock ∧ (some k_ ≠ (.slice Ao31 t1115.length co31 : Value).ownBlock ∧ (some k_ ≠ (.slice Ao39 t1086.length co39 : Value).ownBlock ∧ some k_ ≠ (.slice Ao40 t1089.length co40 : Value).ownBlock))))))) (.slice Ao32 t1116.length co32) t1116) := ⟨by rw [← hq_]; exact (pkQ HO_1084003.out)⟩; replace HO_1100002 : Aside0 (Kd.Q (Kd.int .i64) 3 w105 w.heap.size (fun k_ => (some k_ ≠ (v1068 : Value).ownBlock ∧ (some k_ ≠ (.slice Ao102 t1095.length co102 : Value).ownBlock ∧ (some k_ ≠ (.slice Ao23 t1058.length co23 : Value).ownBlock ∧ (some k_ ≠ (.slice Ao24 t1061.length co24 : Value).ownBlock ∧ (some k_ ≠ (.slice Ao31 t1115.length co31 : Value).ownBlock ∧ (some k_ ≠ (.slice Ao32 t1116.length co32 : Value).ownBlock ∧ some k_ ≠ (.slice Ao40 t1089.length co40 : Value).ownBlock))))))) (.slice Ao39 t1086.length co39) t1120) := ⟨by rw [← hq_]; exact (pkQ HO_1100002.out)⟩; replace HO_1100003 : Aside0 (Kd.Q (Kd.int .i64) 3 w105 w.heap.size (fun k_ => (some k_ ≠ (v1068 : Value).ownBlock ∧ (some k_ ≠ (.slice Ao102 t1095.length co102 : Value).ownBlock ∧ (some k_ ≠ (.slice Ao23 t1058.length co23 : Value).ownBlock ∧ (some k_ ≠ (.slice Ao24 t1061.length co24 : Value).ownBlock ∧ (some k_ ≠ (.slice Ao31 t1115.length co31 : Value).ownBlock ∧ (some k_ ≠ (.slice Ao32 t1116.length co32 : Value).ownBlock ∧ some k_ ≠ (.slice Ao39 t1086.length co39 : Value).ownBlock))))))) (.slice Ao40 t1089.length co40) t1121) := ⟨by rw [← hq_]; exact (pkQ HO_1100003.out)⟩; replace HO_5 : Aside0 (Kd.R (Kd.int .i64) 3 w105 w.heap.size (fun k_ => (some k_ ≠ (.slice Ao102 t1095.length co102 : Value).ownBlock ∧ (some k_ ≠ (.slice Ao23 t1058.length co23 : Value).ownBlock ∧ (some k_ ≠ (.slice Ao24 t1061.length co24 : Value).ownBlock ∧ (some k_ ≠ (.slice Ao31 t1115.length co31 : Value).ownBlock ∧ (some k_ ≠ (.slice Ao32 t1116.length co32 : Value).ownBlock ∧ (some k_ ≠ (.slice Ao39 t1086.length co39 : Value).ownBlock ∧ some k_ ≠ (.slice Ao40 t1089.length co40 : Value).ownBlock))))))) v1068 t1067) := ⟨by rw [← hq_]; exact (pkR HO_5.out)⟩; replace HO_9 : Aside0 (Kd.Q (Kd.int .i64) 3 w105 w.heap.size (fun k_ => (some k_ ≠ (v1068 : Value).ownBlock ∧ (some k_ ≠ (.slice Ao23 t1058.length co23 : Value).ownBlock ∧ (some k_ ≠ (.slice Ao24 t1061.length co24 : Value).ownBlock ∧ (some k_ ≠ (.slice Ao31 t1115.length co31 : Value).ownBlock ∧ (some k_ ≠ (.slice Ao32 t1116.length co32 : Value).ownBlock ∧ (some k_ ≠ (.slice Ao39 t1086.length co39 : Value).ownBlock ∧ some k_ ≠ (.slice Ao40 t1089.length co40 : Value).ownBlock))))))) (.slice Ao102 t1095.length co102) t1123) := ⟨by rw [← hq_]; exact (pkQ HO_9.out)⟩; replace BK1043 : Aside0 (w105.heap[gb1043]? = some (.cells #[.bool a0_0, .bool a0_1, .slice A0_2 l0_2.length c0_2, .slice A0_3 l0_3.length c0_3, .int .i64 a0_4, .int .i64 a0_5, .int .i64 a0_6] 24 (0, 0))) := ⟨by rw [← hq_]; exact (pkK BK1043.out)⟩; replace BK1071 : Aside0 (w105.heap[gb1071]? = some (.cells #[.bool t1056, .bool t1057, .slice Ao23 t1058.length co23, .slice Ao24 t1061.length co24, .int .i64 t1064, .int .i64 t1065, .int .i64 t1066] 27 (0, 0))) := ⟨by rw [← hq_]; exact (pkK BK1071.out)⟩; replace BK1083 : Aside0 (w105.heap[gb1083]? = some (.cells #[.bool t1072, .bool t1073, .slice Ao31 t1115.length co31, .slice Ao32 t1116.length co32, .int .i64 t1080, .int .i64 t1081, .int .i64 t1082] 27 (0, 0))) := ⟨by rw [← hq_]; exact (pkK BK1083.out)⟩; replace BK1099 : Aside0 (w105.heap[gb1099]? = some (.cells #[.bool t1084, .bool t1085, .slice Ao39 t1086.length co39, .slice Ao40 t1089.length co40, .int .i64 t1092, .int .i64 t1093, .int .i64 t1094] 27 (0, 0))) := ⟨by rw [← hq_]; exact (pkK BK1099.out)⟩; replace HB : Aside0 (Below w.heap.size w w105) := ⟨by rw [← hq_]; exact (pkW HB.out)⟩; clear hq_)); have hnb106 := NB1043_1071.out; have hnc106 := NB1071_1043.out; have hnb107 := NB1043_1083.out; have hnc107 := NB1083_1043.out; obtain ⟨hcz108_0, hcz108_1, hcz108_2, hcz108_3, hcz108_4, hcz108_5, hcz108_6, hfz108_0, hfz108_1, hfz108_2, hfz108_3, hfz108_4, hfz108_5, hfz108_6⟩ := bk7 BK1043.out) | ((with_reducible refine gate_callee (f := 16) rfl ?_); refine goesL_ (some 100) rfl rfl Try.func16 (by kernel_rfl) rfl #[.agg #[.bool a0_0, .bool a0_1, .slice A0_2 l0_2.length c0_2, .slice A0_3 l0_3.length c0_3, .int .i64 a0_4, .int .i64 a0_5, .int .i64 a0_6]] rfl mpx ?_; (with_reducible refine (laws_toEvent.calls kj59 a0_0 a0_1 _ _ l0_2 _ _ l0_3 a0_4 a0_5 a0_6 t1126 t1127 t1128 t1131 t1134 t1135 t1136 _ ?side1 ?side2 ?side3 ?side4 A94.out).mono ?_); (case side1 => exact pkC (Kd.C_below HR0_2.out HB.out)); (case side2 => exact HC0_2.out); (case side3 => exact pkC (Kd.C_below HR0_3.out HB.out)); (case side4 => exact HC0_3.out); rintro e w109 ⟨v1129, v1132, rfl, ho0, ho1, hb⟩; refine ⟨_, rfl, ?_⟩; have HO1130 := am (Kd.R_lower (Kd.R_new' (Kd.R_new' (Kd.R_new' (Kd.R_new' (Kd.R_new' (Kd.R_new' (Kd.R_new' (Kd.R_new' ho0 (Kd.R_lt (pkR HO_5.out))) (Kd.Q_lt (pkQ HO_9.out))) (Kd.Q_lt (pkQ HO_1072002.out))) (Kd.R_lt (pkR HO_1072003.out))) (Kd.Q_lt (pkQ HO_1084002.out))) (Kd.Q_lt (pkQ HO_1084003.out))) (Kd.Q_lt (pkQ HO_1100002.out))) (Kd.Q_lt (pkQ HO_1100003.out))) (below_size (pkW HB.out))); have HO1133 := am (Kd.R_lower (Kd.R_new' (Kd.R_new' (Kd.R_new' (Kd.R_new' (Kd.R_new' (Kd.R_new' (Kd.R_new' (Kd.R_new' ho1 (Kd.R_lt (pkR HO_5.out))) (Kd.Q_lt (pkQ HO_9.out))) (Kd.Q_lt (pkQ HO_1072002.out))) (Kd.R_lt (pkR HO_1072003.out))) (Kd.Q_lt (pkQ HO_1084002.out))) (Kd.Q_lt (pkQ HO_1084003.out))) (Kd.Q_lt (pkQ HO_1100002.out))) (Kd.Q_lt (pkQ HO_1100003.out))) (below_size (pkW HB.out))); replace HO_5 := am (Kd.R_mono (Kd.R_told (Kd.R_told (Kd.R_old (pkR HO_5.out) hb) (Kd.R_base ho0)) (Kd.R_base ho1)) (fun _ h_ => h_.1)); replace HO_9 := am (Kd.Q_mono (Kd.Q_told (Kd.Q_told (Kd.Q_old (pkQ HO_9.out) hb) (Kd.R_base ho0)) (Kd.R_base ho1)) (fun _ h_ => h_.1)); replace HO_1072002 := am (Kd.Q_mono (Kd.Q_told (Kd.Q_told (Kd.Q_old (pkQ HO_1072002.out) hb) (Kd.R_base ho0)) (Kd.R_base ho1)) (fun _ h_ => h_.1)); replace HO_1072003 := am (Kd.R_mono (Kd.R_told (Kd.R_told (Kd.R_old (pkR HO_1072003.out) hb) (Kd.R_base ho0)) (Kd.R_base ho1)) (fun _ h_ => h_.1)); replace HO_1084002 := am (Kd.Q_mono (Kd.Q_told (Kd.Q_told (Kd.Q_old (pkQ HO_1084002.out) hb) (Kd.R_base ho0)) (Kd.R_base ho1)) (fun _ h_ => h_.1)); replace HO_1084003 := am (Kd.Q_mono (Kd.Q_told (Kd.Q_told (Kd.Q_old (pkQ HO_1084003.out) hb) (Kd.R_base ho0)) (Kd.R_base ho1)) (fun _ h_ => h_.1)); replace HO_1100002 := am (Kd.Q_mono (Kd.Q_told (Kd.Q_told (Kd.Q_old (pkQ HO_1100002.out) hb) (Kd.R_base ho0)) (Kd.R_base ho1)) (fun _ h_ => h_.1)); replace HO_1100003 := am (Kd.Q_mono (Kd.Q_told (Kd.Q_told (Kd.Q_old (pkQ HO_1100003.out) hb) (Kd.R_base ho0)) (Kd.R_base ho1)) (fun _ h_ => h_.1)); replace BK1043 := am (blk_below (pkK BK1043.out) hb); replace BK1071 := am (blk_below (pkK BK1071.out) hb); replace BK1083 := am (blk_below (pkK BK1083.out) hb); replace BK1099 := am (blk_below (pkK BK1099.out) hb); replace HB := am (below_step (pkW HB.out) hb); (try clear hb ho0 ho1); obtain ⟨Ao110, co110, eo110⟩ := Kd.R_slice HO1130.out; subst eo110; obtain ⟨Ao111, co111, eo111⟩ := Kd.R_slice HO1133.out; subst eo111) | ((with_reducible refine gate_callee (f := 40) rfl ?_); refine goesL_ (some 101) rfl rfl Try.func40 (by kernel_rfl) rfl #[.agg #[.bool t1126, .bool t1127, .slice Ao110 t1128.length co110, .slice Ao111 t1131.length co111, .int .i64 t1134, .int .i64 t1135, .int .i64 t1136]] rfl mpx ?_; (with_reducible refine (impl_Raise.calls kj59 t1126 t1127 _ _ t1128 _ _ t1131 t1134 t1135 t1136 t1137 t1138 t1139 t1142 t1145 t1146 t1147 t1148 t1151 _ ?side1 ?side2 ?side3 ?side4 A95.out).mono ?_); (case side1 => exact pkC (Kd.R_reads' HO1130.out).2.2); (case side2 => exact (Kd.R_reads' HO1130.out).2.1); (case side3 => exact pkC (Kd.R_reads' HO1133.out).2.2); (case side4 => exact (Kd.R_reads' HO1133.out).2.1); rintro e w112 ⟨v1140, v1143, v1149, rfl, ho0, ho1, ho2, hb⟩; refine ⟨_, rfl, ?_⟩; have HO1141 := am (Kd.Q_lower (Kd.Q_new' (Kd.Q_new' (Kd.Q_new' (Kd.Q_new' (Kd.Q_new' (Kd.Q_new' (Kd.Q_new' (Kd.Q_new' (Kd.Q_new' (Kd.Q_new' ho0 (Kd.R_lt (pkR HO_5.out))) (Kd.Q_lt (pkQ HO_9.out))) (Kd.Q_lt (pkQ HO_1072002.out))) (Kd.R_lt (pkR HO_1072003.out))) (Kd.Q_lt (pkQ HO_1084002.out))) (Kd.Q_lt (pkQ HO_1084003.out))) (Kd.Q_lt (pkQ HO_1100002.out))) (Kd.Q_lt (pkQ HO_1100003.out))) (Kd.R_lt (pkR HO1130.out))) (Kd.R_lt (pkR HO1133.out))) (below_size (pkW HB.out))); have HO1144 := am (Kd.R_lower (Kd.R_new' (Kd.R_new' (Kd.R_new' (Kd.R_new' (Kd.R_new' (Kd.R_new' (Kd.R_new' (Kd.R_new' (Kd.R_new' (Kd.R_new' ho1 (Kd.R_lt (pkR HO_5.out))) (Kd.Q_lt (pkQ HO_9.out))) (Kd.Q_lt (pkQ HO_1072002.out))) (Kd.R_lt (pkR HO_1072003.out))) (Kd.Q_lt (pkQ HO_1084002.out))) (Kd.Q_lt (pkQ HO_1084003.out))) (Kd.Q_lt (pkQ HO_1100002.out))) (Kd.Q_lt (pkQ HO_1100003.out))) (Kd.R_lt (pkR HO1130.out))) (Kd.R_lt (pkR HO1133.out))) (below_size (pkW HB.out))); have HO1150 := am (Kd.R_lower (Kd.R_new' (Kd.R_new' (Kd.R_new' (Kd.R_new' (Kd.R_new' (Kd.R_new' (Kd.R_new' (Kd.R_new' (Kd.R_new' (Kd.R_new' ho2 (Kd.R_lt (pkR HO_5.out))) (Kd.Q_lt (pkQ HO_9.out))) (Kd.Q_lt (pkQ HO_1072002.out))) (Kd.R_lt (pkR HO_1072003.out))) (Kd.Q_lt (pkQ HO_1084002.out))) (Kd.Q_lt (pkQ HO_1084003.out))) (Kd.Q_lt (pkQ HO_1100002.out))) (Kd.Q_lt (pkQ HO_1100003.out))) (Kd.R_lt (pkR HO1130.out))) (Kd.R_lt (pkR HO1133.out))) (below_size (pkW HB.out))); replace HO_5 := am (Kd.R_mono (Kd.R_told (Kd.R_told (Kd.R_told (Kd.R_old (pkR HO_5.out) hb) (Kd.Q_base ho0)) (Kd.R_base ho1)) (Kd.R_base ho2)) (fun _ h_ => h_.1)); replace HO_9 := am (Kd.Q_mono (Kd.Q_told (Kd.Q_told (Kd.Q_told (Kd.Q_old (pkQ HO_9.out) hb) (Kd.Q_base ho0)) (Kd.R_base ho1)) (Kd.R_base ho2)) (fun _ h_ => h_.1)); replace HO_1072002 := am (Kd.Q_mono (Kd.Q_told (Kd.Q_told (Kd.Q_told (Kd.Q_old (pkQ HO_1072002.out) hb) (Kd.Q_base ho0)) (Kd.R_base ho1)) (Kd.R_base ho2)) (fun _ h_ => h_.1)); replace HO_1072003 := am (Kd.R_mono (Kd.R_told (Kd.R_told (Kd.R_told (Kd.R_old (pkR HO_1072003.out) hb) (Kd.Q_base ho0)) (Kd.R_base ho1)) (Kd.R_base ho2)) (fun _ h_ => h_.1)); replace HO_1084002 := am (Kd.Q_mono (Kd.Q_told (Kd.Q_told (Kd.Q_told (Kd.Q_old (pkQ HO_1084002.out) hb) (Kd.Q_base ho0)) (Kd.R_base ho1)) (Kd.R_base ho2)) (fun _ h_ => h_.1)); replace HO_1084003 := am (Kd.Q_mono (Kd.Q_told (Kd.Q_told (Kd.Q_told (Kd.Q_old (pkQ HO_1084003.out) hb) (Kd.Q_base ho0)) (Kd.R_base ho1)) (Kd.R_base ho2)) (fun _ h_ => h_.1)); replace HO_1100002 := am (Kd.Q_mono (Kd.Q_told (Kd.Q_told (Kd.Q_told (Kd.Q_old (pkQ HO_1100002.out) hb) (Kd.Q_base ho0)) (Kd.R_base ho1)) (Kd.R_base ho2)) (fun _ h_ => h_.1)); replace HO_1100003 := am (Kd.Q_mono (Kd.Q_told (Kd.Q_told (Kd.Q_told (Kd.Q_old (pkQ HO_1100003.out) hb) (Kd.Q_base ho0)) (Kd.R_base ho1)) (Kd.R_base ho2)) (fun _ h_ => h_.1)); replace HO1130 := am (Kd.R_mono (Kd.R_told (Kd.R_told (Kd.R_told (Kd.R_old (pkR HO1130.out) hb) (Kd.Q_base ho0)) (Kd.R_base ho1)) (Kd.R_base ho2)) (fun _ h_ => h_.1)); replace HO1133 := am (Kd.R_mono (Kd.R_told (Kd.R_told (Kd.R_told (Kd.R_old (pkR HO1133.out) hb) (Kd.Q_base ho0)) (Kd.R_base ho1)) (Kd.R_base ho2)) (fun _ h_ => h_.1)); replace BK1043 := am (blk_below (pkK BK1043.out) hb); replace BK1071 := am (blk_below (pkK BK1071.out) hb); replace BK1083 := am (blk_below (pkK BK1083.out) hb); replace BK1099 := am (blk_below (pkK BK1099.out) hb); replace HB := am (below_step (pkW HB.out) hb); (try clear hb ho0 ho1 ho2)) | ((with_reducible refine gate_dst (N := 14) rfl ?_); refine box_event ?hg (N := 14) ?hd (cs := #[.bool false, .bool false, .slice none 0 0, .slice none 0 0, .int .i64 0, .int .i64 0, .int .i64 0]) (t := 27) ?hr ?_; (case hd => rfl); (case hg => rfl); (case hr => first | (go_simp; done) | (go_simp; rfl)); intro gb1152 hg w113 hbox hb; replace HO_5 := am (Kd.R_below (pkR HO_5.out) hb); replace HO_9 := am (Kd.Q_below (pkQ HO_9.out) hb); replace HO_1072002 := am (Kd.Q_below (pkQ HO_1072002.out) hb); replace HO_1072003 := am (Kd.R_below (pkR HO_1072003.out) hb); replace HO_1084002 := am (Kd.Q_below (pkQ HO_1084002.out) hb); replace HO_1084003 := am (Kd.Q_below (pkQ HO_1084003.out) hb); replace HO_1100002 := am (Kd.Q_below (pkQ HO_1100002.out) hb); replace HO_1100003 := am (Kd.Q_below (pkQ HO_1100003.out) hb); replace HO1130 := am (Kd.R_below (pkR HO1130.out) hb); replace HO1133 := am (Kd.R_below (pkR HO1133.out) hb); replace HO1141 := am (Kd.Q_below (pkQ HO1141.out) hb); replace HO1144 := am (Kd.R_below (pkR HO1144.out) hb); replace HO1150 := am (Kd.R_below (pkR HO1150.out) hb); have BK1152 := am (hbox); have GW1152 := am ((by rw [hg]; exact (below_size (pkW HB.out)) : w.heap.size ≤ gb1152)); have GE1152 := am ((by rw [hg]; exact (below_size (pkW HB.out)) : w.heap.size ≤ gb1152)); replace HB := am (below_step (pkW HB.out) hb); have NB1043_1152 := am ((by rw [hg]; exact Nat.ne_of_lt (blk_lt (g := gb1043) (o := .cells #[.bool a0_0, .bool a0_1, .slice A0_2 l0_2.length c0_2, .slice A0_3 l0_3.length c0_3, .int .i64 a0_4, .int .i64 a0_5, .int .i64 a0_6] 24 (0, 0)) (pkK BK1043.out)) : gb1043 ≠ gb1152)); have NB1152_1043 := am ((by rw [hg]; exact Nat.ne_of_gt (blk_lt (g := gb1043) (o := .cells #[.bool a0_0, .bool a0_1, .slice A0_2 l0_2.length c0_2, .slice A0_3 l0_3.length c0_3, .int .i64 a0_4, .int .i64 a0_5, .int .i64 a0_6] 24 (0, 0)) (pkK BK1043.out)) : gb1152 ≠ gb1043)); replace BK1043 := am (blk_below (pkK BK1043.out) hb); have NB1071_1152 := am ((by rw [hg]; exact Nat.ne_of_lt (blk_lt (g := gb1071) (o := .cells #[.bool t1056, .bool t1057, .slice Ao23 t1058.length co23, .slice Ao24 t1061.length co24, .int .i64 t1064, .int .i64 t1065, .int .i64 t1066] 27 (0, 0)) (pkK BK1071.out)) : gb1071 ≠ gb1152)); have NB1152_1071 := am ((by rw [hg]; exact Nat.ne_of_gt (blk_lt (g := gb1071) (o := .cells #[.bool t1056, .bool t1057, .slice Ao23 t1058.length co23, .slice Ao24 t1061.length co24, .int .i64 t1064, .int .i64 t1065, .int .i64 t1066] 27 (0, 0)) (pkK BK1071.out)) : gb1152 ≠ gb1071)); replace BK1071 := am (blk_below (pkK BK1071.out) hb); have NB1083_1152 := am ((by rw [hg]; exact Nat.ne_of_lt (blk_lt (g := gb1083) (o := .cells #[.bool t1072, .bool t1073, .slice Ao31 t1115.length co31, .slice Ao32 t1116.length co32, .int .i64 t1080, .int .i64 t1081, .int .i64 t1082] 27 (0, 0)) (pkK BK1083.out)) : gb1083 ≠ gb1152)); have NB1152_1083 := am ((by rw [hg]; exact Nat.ne_of_gt (blk_lt (g := gb1083) (o := .cells #[.bool t1072, .bool t1073, .slice Ao31 t1115.length co31, .slice Ao32 t1116.length co32, .int .i64 t1080, .int .i64 t1081, .int .i64 t1082] 27 (0, 0)) (pkK BK1083.out)) : gb1152 ≠ gb1083)); replace BK1083 := am (blk_below (pkK BK1083.out) hb); have NB1099_1152 := am ((by rw [hg]; exact Nat.ne_of_lt (blk_lt (g := gb1099) (o := .cells #[.bool t1084, .bool t1085, .slice Ao39 t1086.length co39, .slice Ao40 t1089.length co40, .int .i64 t1092, .int .i64 t1093, .int .i64 t1094] 27 (0, 0)) (pkK BK1099.out)) : gb1099 ≠ gb1152)); have NB1152_1099 := am ((by rw [hg]; exact Nat.ne_of_gt (blk_lt (g := gb1099) (o := .cells #[.bool t1084, .bool t1085, .slice Ao39 t1086.length co39, .slice Ao40 t1089.length co40, .int .i64 t1092, .int .i64 t1093, .int .i64 t1094] 27 (0, 0)) (pkK BK1099.out)) : gb1152 ≠ gb1099)); replace BK1099 := am (blk_below (pkK BK1099.out) hb); clear hb hbox hg; have hnb114 := NB1152_1043.out; have hnc114 := NB1043_1152.out; have hnb115 := NB1152_1071.out; have hnc115 := NB1071_1152.out; have hnb116 := NB1152_1083.out; have hnc116 := NB1083_1152.out; have hnb117 := NB1152_1099.out; have hnc117 := NB1099_1152.out; obtain ⟨hcz118_0, hcz118_1, hcz118_2, hcz118_3, hcz118_4, hcz118_5, hcz118_6, hfz118_0, hfz118_1, hfz118_2, hfz118_3, hfz118_4, hfz118_5, hfz118_6⟩ := bk7 BK1152.out; obtain ⟨Ao119, co119, eo119, _⟩ := Kd.Q_slice HO1141.out; subst eo119; obtain ⟨Ao120, co120, eo120⟩ := Kd.R_slice HO1144.out; subst eo120))
            (try simp only [Act.put, List.setIfInBounds_toArray, List.set_cons_zero, List.set_cons_succ])
            go_cut [119] (fun v119 wc => ∃ (kq : Nat) (x119_95 : Bool), v119 = .bool x119_95 ∧ Aside0 (laws_FnExactRaise.j2 kq t1123 t1122 x119_95 t1084 t1085 t1120 t1121 t1092 t1093 t1094 = some r) ∧ Aside0 (kq ≤ kj59) ∧ Aside0 (Kd.Q (Kd.int .i64) 3 wc w.heap.size (fun k_ => some k_ ≠ ((.slice Ao23 t1058.length co23) : Value).ownBlock ∧ some k_ ≠ ((.slice Ao24 t1061.length co24) : Value).ownBlock ∧ some k_ ≠ ((.slice Ao31 t1115.length co31) : Value).ownBlock ∧ some k_ ≠ ((.slice Ao32 t1116.length co32) : Value).ownBlock ∧ some k_ ≠ ((.slice Ao39 t1086.length co39) : Value).ownBlock ∧ some k_ ≠ ((.slice Ao40 t1089.length co40) : Value).ownBlock ∧ some k_ ≠ ((.slice Ao119 t1139.length co119) : Value).ownBlock ∧ some k_ ≠ ((.slice Ao120 t1142.length co120) : Value).ownBlock) (.slice Ao102 t1095.length co102) t1123) ∧ Aside0 (Kd.Q (Kd.int .i64) 3 wc w.heap.size (fun k_ => some k_ ≠ ((.slice Ao102 t1095.length co102) : Value).ownBlock ∧ some k_ ≠ ((.slice Ao24 t1061.length co24) : Value).ownBlock ∧ some k_ ≠ ((.slice Ao31 t1115.length co31) : Value).ownBlock ∧ some k_ ≠ ((.slice Ao32 t1116.length co32) : Value).ownBlock ∧ some k_ ≠ ((.slice Ao39 t1086.length co39) : Value).ownBlock ∧ some k_ ≠ ((.slice Ao40 t1089.length co40) : Value).ownBlock ∧ some k_ ≠ ((.slice Ao119 t1139.length co119) : Value).ownBlock ∧ some k_ ≠ ((.slice Ao120 t1142.length co120) : Value).ownBlock) (.slice Ao23 t1058.length co23) t1058) ∧ Aside0 (Kd.R (Kd.int .i64) 3 wc w.heap.size (fun k_ => some k_ ≠ ((.slice Ao102 t1095.length co102) : Value).ownBlock ∧ some k_ ≠ ((.slice Ao23 t1058.length co23) : Value).ownBlock ∧ some k_ ≠ ((.slice Ao31 t1115.length co31) : Value).ownBlock ∧ some k_ ≠ ((.slice Ao32 t1116.length co32) : Value).ownBlock ∧ some k_ ≠ ((.slice Ao39 t1086.length co39) : Value).ownBlock ∧ some k_ ≠ ((.slice Ao40 t1089.length co40) : Value).ownBlock ∧ some k_ ≠ ((.slice Ao119 t1139.length co119) : Value).ownBlock ∧ some k_ ≠ ((.slice Ao120 t1142.length co120) : Value).ownBlock) (.slice Ao24 t1061.length co24) t1061) ∧ Aside0 (Kd.Q (Kd.int .i64) 3 wc w.heap.size (fun k_ => some k_ ≠ ((.slice Ao102 t1095.length co102) : Value).ownBlock ∧ some k_ ≠ ((.slice Ao23 t1058.length co23) : Value).ownBlock ∧ some k_ ≠ ((.slice Ao24 t1061.length co24) : Value).ownBlock ∧ some k_ ≠ ((.slice Ao32 t1116.length co32) : Value).ownBlock ∧ some k_ ≠ ((.slice Ao39 t1086.length co39) : Value).ownBlock ∧ some k_ ≠ ((.slice Ao40 t1089.length co40) : Value).ownBlock ∧ some k_ ≠ ((.slice Ao119 t1139.length co119) : Value).ownBlock ∧ some k_ ≠ ((.slice Ao120 t1142.length co120) : Value).ownBlock) (.slice Ao31 t1115.length co31) t1115) ∧ Aside0 (Kd.Q (Kd.int .i64) 3 wc w.heap.size (fun k_ => some k_ ≠ ((.slice Ao102 t1095.length co102) : Value).ownBlock ∧ some k_ ≠ ((.slice Ao23 t1058.length co23) : Value).ownBlock ∧ some k_ ≠ ((.slice Ao24 t1061.length co24) : Value).ownBlock ∧ some k_ ≠ ((.slice Ao31 t1115.length co31) : Value).ownBlock ∧ some k_ ≠ ((.slice Ao39 t1086.length co39) : Value).ownBlock ∧ some k_ ≠ ((.slice Ao40 t1089.length co40) : Value).ownBlock ∧ some k_ ≠ ((.slice Ao119 t1139.length co119) : Value).ownBlock ∧ some k_ ≠ ((.slice Ao120 t1142.length co120) : Value).ownBlock) (.slice Ao32 t1116.length co32) t1116) ∧ Aside0 (Kd.Q (Kd.int .i64) 3 wc w.heap.size (fun k_ => some k_ ≠ ((.slice Ao102 t1095.length co102) : Value).ownBlock ∧ some k_ ≠ ((.slice Ao23 t1058.length co23) : Value).ownBlock ∧ some k_ ≠ ((.slice Ao24 t1061.length co24) : Value).ownBlock ∧ some k_ ≠ ((.slice Ao31 t1115.length co31) : Value).ownBlock ∧ some k_ ≠ ((.slice Ao32 t1116.length co32) : Value).ownBlock ∧ some k_ ≠ ((.slice Ao40 t1089.length co40) : Value).ownBlock ∧ some k_ ≠ ((.slice Ao119 t1139.length co119) : Value).ownBlock ∧ some k_ ≠ ((.slice Ao120 t1142.length co120) : Value).ownBlock) (.slice Ao39 t1086.length co39) t1120) ∧ Aside0 (Kd.Q (Kd.int .i64) 3 wc w.heap.size (fun k_ => some k_ ≠ ((.slice Ao102 t1095.length co102) : Value).ownBlock ∧ some k_ ≠ ((.slice Ao23 t1058.length co23) : Value).ownBlock ∧ some k_ ≠ ((.slice Ao24 t1061.length co24) : Value).ownBlock ∧ some k_ ≠ ((.slice Ao31 t1115.length co31) : Value).ownBlock ∧ some k_ ≠ ((.slice Ao32 t1116.length co32) : Value).ownBlock ∧ some k_ ≠ ((.slice Ao39 t1086.length co39) : Value).ownBlock ∧ some k_ ≠ ((.slice Ao119 t1139.length co119) : Value).ownBlock ∧ some k_ ≠ ((.slice Ao120 t1142.length co120) : Value).ownBlock) (.slice Ao40 t1089.length co40) t1121) ∧ Aside0 (Kd.Q (Kd.int .i64) 3 wc w.heap.size (fun k_ => some k_ ≠ ((.slice Ao102 t1095.length co102) : Value).ownBlock ∧ some k_ ≠ ((.slice Ao23 t1058.length co23) : Value).ownBlock ∧ some k_ ≠ ((.slice Ao24 t1061.length co24) : Value).ownBlock ∧ some k_ ≠ ((.slice Ao31 t1115.length co31) : Value).ownBlock ∧ some k_ ≠ ((.slice Ao32 t1116.length co32) : Value).ownBlock ∧ some k_ ≠ ((.slice Ao39 t1086.length co39) : Value).ownBlock ∧ some k_ ≠ ((.slice Ao40 t1089.length co40) : Value).ownBlock ∧ some k_ ≠ ((.slice Ao120 t1142.length co120) : Value).ownBlock) (.slice Ao119 t1139.length co119) t1139) ∧ Aside0 (Kd.R (Kd.int .i64) 3 wc w.heap.size (fun k_ => some k_ ≠ ((.slice Ao102 t1095.length co102) : Value).ownBlock ∧ some k_ ≠ ((.slice Ao23 t1058.length co23) : Value).ownBlock ∧ some k_ ≠ ((.slice Ao24 t1061.length co24) : Value).ownBlock ∧ some k_ ≠ ((.slice Ao31 t1115.length co31) : Value).ownBlock ∧ some k_ ≠ ((.slice Ao32 t1116.length co32) : Value).ownBlock ∧ some k_ ≠ ((.slice Ao39 t1086.length co39) : Value).ownBlock ∧ some k_ ≠ ((.slice Ao40 t1089.length co40) : Value).ownBlock ∧ some k_ ≠ ((.slice Ao119 t1139.length co119) : Value).ownBlock) (.slice Ao120 t1142.length co120) t1142) ∧ Aside0 (wc.heap[gb1043]? = some (.cells #[.bool a0_0, .bool a0_1, (.slice A0_2 l0_2.length c0_2), (.slice A0_3 l0_3.length c0_3), .int .i64 a0_4, .int .i64 a0_5, .int .i64 a0_6] 24 (0, 0))) ∧ Aside0 (wc.heap[gb1071]? = some (.cells #[.bool t1056, .bool t1057, (.slice Ao23 t1058.length co23), (.slice Ao24 t1061.length co24), .int .i64 t1064, .int .i64 t1065, .int .i64 t1066] 27 (0, 0))) ∧ Aside0 (wc.heap[gb1083]? = some (.cells #[.bool t1072, .bool t1073, (.slice Ao31 t1115.length co31), (.slice Ao32 t1116.length co32), .int .i64 t1080, .int .i64 t1081, .int .i64 t1082] 27 (0, 0))) ∧ Aside0 (wc.heap[gb1099]? = some (.cells #[.bool t1084, .bool t1085, (.slice Ao39 t1086.length co39), (.slice Ao40 t1089.length co40), .int .i64 t1092, .int .i64 t1093, .int .i64 t1094] 27 (0, 0))) ∧ Aside0 (wc.heap[gb1152]? = some (.cells #[.bool t1137, .bool t1138, (.slice Ao119 t1139.length co119), (.slice Ao120 t1142.length co120), .int .i64 t1145, .int .i64 t1146, .int .i64 t1147] 27 (0, 0))) ∧ Aside0 (Below w.heap.size w wc))
            case first =>
             have H := HC96.out
             clear HC96
             replace H := Option.bind_eq_some_iff.mp H
             obtain ⟨t1153, A1210, H⟩ := H
             replace H : (if t1153 = true then ((laws_eqIntS.f kj59 t1148 t1067).bind fun t1154 => (if t1154 = true then (laws_FnExactRaise.j2 kj59 t1123 t1122 (t1151 != t1070) t1084 t1085 t1120 t1121 t1092 t1093 t1094) else (laws_FnExactRaise.j2 kj59 t1123 t1122 true t1084 t1085 t1120 t1121 t1092 t1093 t1094))) else (laws_FnExactRaise.j2 kj59 t1123 t1122 true t1084 t1085 t1120 t1121 t1092 t1093 t1094)) = some r := H
             have A121 := am A1210
             clear A1210
             by_cases c122 : t1153 = true
             ·subst c122
              replace H : ((laws_eqIntS.f kj59 t1148 t1067).bind fun t1154 => (if t1154 = true then (laws_FnExactRaise.j2 kj59 t1123 t1122 (t1151 != t1070) t1084 t1085 t1120 t1121 t1092 t1093 t1094) else (laws_FnExactRaise.j2 kj59 t1123 t1122 true t1084 t1085 t1120 t1121 t1092 t1093 t1094))) = some r := by rw [if_pos rfl] at H; exact H
              replace H := Option.bind_eq_some_iff.mp H
              obtain ⟨t1154, A1230, H⟩ := H
              replace H : (if t1154 = true then (laws_FnExactRaise.j2 kj59 t1123 t1122 (t1151 != t1070) t1084 t1085 t1120 t1121 t1092 t1093 t1094) else (laws_FnExactRaise.j2 kj59 t1123 t1122 true t1084 t1085 t1120 t1121 t1092 t1093 t1094)) = some r := H
              have A123 := am A1230
              clear A1230
              by_cases c124 : t1154 = true
              ·subst c124
               replace H : (laws_FnExactRaise.j2 kj59 t1123 t1122 (t1151 != t1070) t1084 t1085 t1120 t1121 t1092 t1093 t1094) = some r := by rw [if_pos rfl] at H; exact H
               have H' := am H
               clear H
               have hnb125 := NB1152_1043.out
               have hnc125 := NB1043_1152.out
               have hnb126 := NB1152_1071.out
               have hnc126 := NB1071_1152.out
               have hnb127 := NB1152_1083.out
               have hnc127 := NB1083_1152.out
               have hnb128 := NB1152_1099.out
               have hnc128 := NB1099_1152.out
               obtain ⟨hcz129_0, hcz129_1, hcz129_2, hcz129_3, hcz129_4, hcz129_5, hcz129_6, hfz129_0, hfz129_1, hfz129_2, hfz129_3, hfz129_4, hfz129_5, hfz129_6⟩ := bk7 BK1152.out
               have hnb130 := NB1071_1043.out
               have hnc130 := NB1043_1071.out
               have hnb131 := NB1071_1083.out
               have hnc131 := NB1083_1071.out
               have hnb132 := NB1071_1099.out
               have hnc132 := NB1099_1071.out
               obtain ⟨hcz133_0, hcz133_1, hcz133_2, hcz133_3, hcz133_4, hcz133_5, hcz133_6, hfz133_0, hfz133_1, hfz133_2, hfz133_3, hfz133_4, hfz133_5, hfz133_6⟩ := bk7 BK1071.out
               go_wp2_with (first | ((with_reducible refine gate_callee (f := 18) rfl ?_); refine goesL_ (some 107) rfl rfl Try.func18 (by kernel_rfl) rfl #[.agg #[.bool t1137, .bool t1138, .slice Ao119 t1139.length co119, .slice Ao120 t1142.length co120, .int .i64 t1145, .int .i64 t1146, .int .i64 t1147], .agg #[.bool t1056, .bool t1057, .slice Ao23 t1058.length co23, .slice Ao24 t1061.length co24, .int .i64 t1064, .int .i64 t1065, .int .i64 t1066]] rfl mpx ?_; (with_reducible refine (laws_eqEvent.calls kj59 t1137 t1138 _ _ t1139 _ _ t1142 t1145 t1146 t1147 t1056 t1057 _ _ t1058 _ _ t1061 t1064 t1065 t1066 true _ ?side1 ?side2 ?side3 ?side4 ?side5 ?side6 ?side7 ?side8 A121.out).mono ?_); (case side1 => refine (Kd.Q_reads' (e := 3) (base := w.heap.size) (ok := fun k_ => (((((((((((some k_ ≠ (.slice Ao120 t1142.length co120 : Value).ownBlock ∧ some k_ ≠ (v1149 : Value).ownBlock) ∧ some k_ ≠ (v1068 : Value).ownBlock) ∧ some k_ ≠ (.slice Ao102 t1095.length co102 : Value).ownBlock) ∧ some k_ ≠ (.slice Ao23 t1058.length co23 : Value).ownBlock) ∧ some k_ ≠ (.slice Ao24 t1061.length co24 : Value).ownBlock) ∧ some k_ ≠ (.slice Ao31 t1115.length co31 : Value).ownBlock) ∧ some k_ ≠ (.slice Ao32 t1116.length co32 : Value).ownBlock) ∧ some k_ ≠ (.slice Ao39 t1086.length co39 : Value).ownBlock) ∧ some k_ ≠ (.slice Ao40 t1089.length co40 : Value).ownBlock) ∧ some k_ ≠ (.slice Ao110 t1128.length co110 : Value).ownBlock) ∧ some k_ ≠ (.slice Ao111 t1131.length co111 : Value).ownBlock)) (n := t1139.length) (c := co119) ?_).2.2; exact (by (with_reducible repeat (first | apply Kd.Q_alloc | apply Kd.Q_drewN | apply Kd.Q_drew)); exact (Kd.Q_mono (Kd.Q_far (p := ⟨gb1152, 6, none⟩) (Kd.Q_far (p := ⟨gb1152, 5, none⟩) (Kd.Q_far (p := ⟨gb1152, 4, none⟩) (Kd.Q_far (p := ⟨gb1152, 3, none⟩) (Kd.Q_far (p := ⟨gb1152, 2, none⟩) (Kd.Q_far (p := ⟨gb1152, 1, none⟩) (Kd.Q_far (p := ⟨gb1152, 0, none⟩) (Kd.Q_types HO1141.out BK1152.out (by decide)) (fun _ hk => hk.2) (.bool t1137)) (fun _ hk => hk.2) (.bool t1138)) (fun _ hk => hk.2) (.slice Ao119 t1139.length co119)) (fun _ hk => hk.2) (.slice Ao120 t1142.length co120)) (fun _ hk => hk.2) (.int .i64 t1145)) (fun _ hk => hk.2) (.int .i64 t1146)) (fun _ hk => hk.2) (.int .i64 t1147)) (fun _ h_ => h_.1)))); (case side2 => exact (Kd.Q_reads' HO1141.out).2.1); (case side3 => refine (Kd.R_reads' (e := 3) (base := w.heap.size) (ok := fun k_ => (((((((((((some k_ ≠ (.slice Ao119 t1139.length co119 : Value).ownBlock ∧ some k_ ≠ (v1149 : Value).ownBlock) ∧ some k_ ≠ (v1068 : Value).ownBlock) ∧ some k_ ≠ (.slice Ao102 t1095.length co102 : Value).ownBlock) ∧ some k_ ≠ (.slice Ao23 t1058.length co23 : Value).ownBlock) ∧ some k_ ≠ (.slice Ao24 t1061.length co24 : Value).ownBlock) ∧ some k_ ≠ (.slice Ao31 t1115.length co31 : Value).ownBlock) ∧ some k_ ≠ (.slice Ao32 t1116.length co32 : Value).ownBlock) ∧ some k_ ≠ (.slice Ao39 t1086.length co39 : Value).ownBlock) ∧ some k_ ≠ (.slice Ao40 t1089.length co40 : Value).ownBlock) ∧ some k_ ≠ (.slice Ao110 t1128.length co110 : Value).ownBlock) ∧ some k_ ≠ (.slice Ao111 t1131.length co111 : Value).ownBlock)) (n := t1142.length) (c := co120) ?_).2.2; exact (by (with_reducible repeat (first | apply Kd.R_alloc | apply Kd.R_drewN | apply Kd.R_drew)); exact (Kd.R_mono (Kd.R_far (p := ⟨gb1152, 6, none⟩) (Kd.R_far (p := ⟨gb1152, 5, none⟩) (Kd.R_far (p := ⟨gb1152, 4, none⟩) (Kd.R_far (p := ⟨gb1152, 3, none⟩) (Kd.R_far (p := ⟨gb1152, 2, none⟩) (Kd.R_far (p := ⟨gb1152, 1, none⟩) (Kd.R_far (p := ⟨gb1152, 0, none⟩) (Kd.R_types HO1144.out BK1152.out (by decide)) (fun _ hk => hk.2) (.bool t1137)) (fun _ hk => hk.2) (.bool t1138)) (fun _ hk => hk.2) (.slice Ao119 t1139.length co119)) (fun _ hk => hk.2) (.slice Ao120 t1142.length co120)) (fun _ hk => hk.2) (.int .i64 t1145)) (fun _ hk => hk.2) (.int .i64 t1146)) (fun _ hk => hk.2) (.int .i64 t1147)) (fun _ h_ => h_.1)))); (case side4 => exact (Kd.R_reads' HO1144.out).2.1); (case side5 => refine (Kd.Q_reads' (e := 3) (base := w.heap.size) (ok := fun k_ => ((((((some k_ ≠ (v1068 : Value).ownBlock ∧ (some k_ ≠ (.slice Ao102 t1095.length co102 : Value).ownBlock ∧ (some k_ ≠ (.slice Ao24 t1061.length co24 : Value).ownBlock ∧ (some k_ ≠ (.slice Ao31 t1115.length co31 : Value).ownBlock ∧ (some k_ ≠ (.slice Ao32 t1116.length co32 : Value).ownBlock ∧ (some k_ ≠ (.slice Ao39 t1086.length co39 : Value).ownBlock ∧ some k_ ≠ (.slice Ao40 t1089.length co40 : Value).ownBlock)))))) ∧ some k_ ≠ (.slice Ao110 t1128.length co110 : Value).ownBlock) ∧ some k_ ≠ (.slice Ao111 t1131.length co111 : Value).ownBlock) ∧ some k_ ≠ (.slice Ao119 t1139.length co119 : Value).ownBlock) ∧ some k_ ≠ (.slice Ao120 t1142.length co120 : Value).ownBlock) ∧ some k_ ≠ (v1149 : Value).ownBlock)) (n := t1058.length) (c := co23) ?_).2.2; exact (by (with_reducible repeat (first | apply Kd.Q_alloc | apply Kd.Q_drewN | apply Kd.Q_drew)); exact (Kd.Q_mono (Kd.Q_far (p := ⟨gb1152, 6, none⟩) (Kd.Q_far (p := ⟨gb1152, 5, none⟩) (Kd.Q_far (p := ⟨gb1152, 4, none⟩) (Kd.Q_far (p := ⟨gb1152, 3, none⟩) (Kd.Q_far (p := ⟨gb1152, 2, none⟩) (Kd.Q_far (p := ⟨gb1152, 1, none⟩) (Kd.Q_far (p := ⟨gb1152, 0, none⟩) (Kd.Q_types HO_1072002.out BK1152.out (by decide)) (fun _ hk => hk.2) (.bool t1137)) (fun _ hk => hk.2) (.bool t1138)) (fun _ hk => hk.2) (.slice Ao119 t1139.length co119)) (fun _ hk => hk.2) (.slice Ao120 t1142.length co120)) (fun _ hk => hk.2) (.int .i64 t1145)) (fun _ hk => hk.2) (.int .i64 t1146)) (fun _ hk => hk.2) (.int .i64 t1147)) (fun _ h_ => h_.1)))); (case side6 => exact (Kd.Q_reads' HO_1072002.out).2.1); (case side7 => refine (Kd.R_reads' (e := 3) (base := w.heap.size) (ok := fun k_ => ((((((some k_ ≠ (v1068 : Value).ownBlock ∧ (some k_ ≠ (.slice Ao102 t1095.length co102 : Value).ownBlock ∧ (some k_ ≠ (.slice Ao23 t1058.length co23 : Value).ownBlock ∧ (some k_ ≠ (.slice Ao31 t1115.length co31 : Value).ownBlock ∧ (some k_ ≠ (.slice Ao32 t1116.length co32 : Value).ownBlock ∧ (some k_ ≠ (.slice Ao39 t1086.length co39 : Value).ownBlock ∧ some k_ ≠ (.slice Ao40 t1089.length co40 : Value).ownBlock)))))) ∧ some k_ ≠ (.slice Ao110 t1128.length co110 : Value).ownBlock) ∧ some k_ ≠ (.slice Ao111 t1131.length co111 : Value).ownBlock) ∧ some k_ ≠ (.slice Ao119 t1139.length co119 : Value).ownBlock) ∧ some k_ ≠ (.slice Ao120 t1142.length co120 : Value).ownBlock) ∧ some k_ ≠ (v1149 : Value).ownBlock)) (n := t1061.length) (c := co24) ?_).2.2; exact (by (with_reducible repeat (first | apply Kd.R_alloc | apply Kd.R_drewN | apply Kd.R_drew)); exact (Kd.R_mono (Kd.R_far (p := ⟨gb1152, 6, none⟩) (Kd.R_far (p := ⟨gb1152, 5, none⟩) (Kd.R_far (p := ⟨gb1152, 4, none⟩) (Kd.R_far (p := ⟨gb1152, 3, none⟩) (Kd.R_far (p := ⟨gb1152, 2, none⟩) (Kd.R_far (p := ⟨gb1152, 1, none⟩) (Kd.R_far (p := ⟨gb1152, 0, none⟩) (Kd.R_types HO_1072003.out BK1152.out (by decide)) (fun _ hk => hk.2) (.bool t1137)) (fun _ hk => hk.2) (.bool t1138)) (fun _ hk => hk.2) (.slice Ao119 t1139.length co119)) (fun _ hk => hk.2) (.slice Ao120 t1142.length co120)) (fun _ hk => hk.2) (.int .i64 t1145)) (fun _ hk => hk.2) (.int .i64 t1146)) (fun _ hk => hk.2) (.int .i64 t1147)) (fun _ h_ => h_.1)))); (case side8 => exact (Kd.R_reads' HO_1072003.out).2.1); rintro e w134 ⟨rfl, hb⟩; refine ⟨_, rfl, ?_⟩; replace HO_5 := am (Kd.R_below (by (with_reducible repeat (first | apply Kd.R_alloc | apply Kd.R_drewN | apply Kd.R_drew)); exact (Kd.R_mono (Kd.R_far (p := ⟨gb1152, 6, none⟩) (Kd.R_far (p := ⟨gb1152, 5, none⟩) (Kd.R_far (p := ⟨gb1152, 4, none⟩) (Kd.R_far (p := ⟨gb1152, 3, none⟩) (Kd.R_far (p := ⟨gb1152, 2, none⟩) (Kd.R_far (p := ⟨gb1152, 1, none⟩) (Kd.R_far (p := ⟨gb1152, 0, none⟩) (Kd.R_types HO_5.out BK1152.out (by decide)) (fun _ hk => hk.2) (.bool t1137)) (fun _ hk => hk.2) (.bool t1138)) (fun _ hk => hk.2) (.slice Ao119 t1139.length co119)) (fun _ hk => hk.2) (.slice Ao120 t1142.length co120)) (fun _ hk => hk.2) (.int .i64 t1145)) (fun _ hk => hk.2) (.int .i64 t1146)) (fun _ hk => hk.2) (.int .i64 t1147)) (fun _ h_ => h_.1))) hb); replace HO_9 := am (Kd.Q_below (by (with_reducible repeat (first | apply Kd.Q_alloc | apply Kd.Q_drewN | apply Kd.Q_drew)); exact (Kd.Q_mono (Kd.Q_far (p := ⟨gb1152, 6, none⟩) (Kd.Q_far (p := ⟨gb1152, 5, none⟩) (Kd.Q_far (p := ⟨gb1152, 4, none⟩) (Kd.Q_far (p := ⟨gb1152, 3, none⟩) (Kd.Q_far (p := ⟨gb1152, 2, none⟩) (Kd.Q_far (p := ⟨gb1152, 1, none⟩) (Kd.Q_far (p := ⟨gb1152, 0, none⟩) (Kd.Q_types HO_9.out BK1152.out (by decide)) (fun _ hk => hk.2) (.bool t1137)) (fun _ hk => hk.2) (.bool t1138)) (fun _ hk => hk.2) (.slice Ao119 t1139.length co119)) (fun _ hk => hk.2) (.slice Ao120 t1142.length co120)) (fun _ hk => hk.2) (.int .i64 t1145)) (fun _ hk => hk.2) (.int .i64 t1146)) (fun _ hk => hk.2) (.int .i64 t1147)) (fun _ h_ => h_.1))) hb); replace HO_1072002 := am (Kd.Q_below (by (with_reducible repeat (first | apply Kd.Q_alloc | apply Kd.Q_drewN | apply Kd.Q_drew)); exact (Kd.Q_mono (Kd.Q_far (p := ⟨gb1152, 6, none⟩) (Kd.Q_far (p := ⟨gb1152, 5, none⟩) (Kd.Q_far (p := ⟨gb1152, 4, none⟩) (Kd.Q_far (p := ⟨gb1152, 3, none⟩) (Kd.Q_far (p := ⟨gb1152, 2, none⟩) (Kd.Q_far (p := ⟨gb1152, 1, none⟩) (Kd.Q_far (p := ⟨gb1152, 0, none⟩) (Kd.Q_types HO_1072002.out BK1152.out (by decide)) (fun _ hk => hk.2) (.bool t1137)) (fun _ hk => hk.2) (.bool t1138)) (fun _ hk => hk.2) (.slice Ao119 t1139.length co119)) (fun _ hk => hk.2) (.slice Ao120 t1142.length co120)) (fun _ hk => hk.2) (.int .i64 t1145)) (fun _ hk => hk.2) (.int .i64 t1146)) (fun _ hk => hk.2) (.int .i64 t1147)) (fun _ h_ => h_.1))) hb); replace HO_1072003 := am (Kd.R_below (by (with_reducible repeat (first | apply Kd.R_alloc | apply Kd.R_drewN | apply Kd.R_drew)); exact (Kd.R_mono (Kd.R_far (p := ⟨gb1152, 6, none⟩) (Kd.R_far (p := ⟨gb1152, 5, none⟩) (Kd.R_far (p := ⟨gb1152, 4, none⟩) (Kd.R_far (p := ⟨gb1152, 3, none⟩) (Kd.R_far (p := ⟨gb1152, 2, none⟩) (Kd.R_far (p := ⟨gb1152, 1, none⟩) (Kd.R_far (p := ⟨gb1152, 0, none⟩) (Kd.R_types HO_1072003.out BK1152.out (by decide)) (fun _ hk => hk.2) (.bool t1137)) (fun _ hk => hk.2) (.bool t1138)) (fun _ hk => hk.2) (.slice Ao119 t1139.length co119)) (fun _ hk => hk.2) (.slice Ao120 t1142.length co120)) (fun _ hk => hk.2) (.int .i64 t1145)) (fun _ hk => hk.2) (.int .i64 t1146)) (fun _ hk => hk.2) (.int .i64 t1147)) (fun _ h_ => h_.1))) hb); replace HO_1084002 := am (Kd.Q_below (by (with_reducible repeat (first | apply Kd.Q_alloc | apply Kd.Q_drewN | apply Kd.Q_drew)); exact (Kd.Q_mono (Kd.Q_far (p := ⟨gb1152, 6, none⟩) (Kd.Q_far (p := ⟨gb1152, 5, none⟩) (Kd.Q_far (p := ⟨gb1152, 4, none⟩) (Kd.Q_far (p := ⟨gb1152, 3, none⟩) (Kd.Q_far (p := ⟨gb1152, 2, none⟩) (Kd.Q_far (p := ⟨gb1152, 1, none⟩) (Kd.Q_far (p := ⟨gb1152, 0, none⟩) (Kd.Q_types HO_1084002.out BK1152.out (by decide)) (fun _ hk => hk.2) (.bool t1137)) (fun _ hk => hk.2) (.bool t1138)) (fun _ hk => hk.2) (.slice Ao119 t1139.length co119)) (fun _ hk => hk.2) (.slice Ao120 t1142.length co120)) (fun _ hk => hk.2) (.int .i64 t1145)) (fun _ hk => hk.2) (.int .i64 t1146)) (fun _ hk => hk.2) (.int .i64 t1147)) (fun _ h_ => h_.1))) hb); replace HO_1084003 := am (Kd.Q_below (by (with_reducible repeat (first | apply Kd.Q_alloc | apply Kd.Q_drewN | apply Kd.Q_drew)); exact (Kd.Q_mono (Kd.Q_far (p := ⟨gb1152, 6, none⟩) (Kd.Q_far (p := ⟨gb1152, 5, none⟩) (Kd.Q_far (p := ⟨gb1152, 4, none⟩) (Kd.Q_far (p := ⟨gb1152, 3, none⟩) (Kd.Q_far (p := ⟨gb1152, 2, none⟩) (Kd.Q_far (p := ⟨gb1152, 1, none⟩) (Kd.Q_far (p := ⟨gb1152, 0, none⟩) (Kd.Q_types HO_1084003.out BK1152.out (by decide)) (fun _ hk => hk.2) (.bool t1137)) (fun _ hk => hk.2) (.bool t1138)) (fun _ hk => hk.2) (.slice Ao119 t1139.length co119)) (fun _ hk => hk.2) (.slice Ao120 t1142.length co120)) (fun _ hk => hk.2) (.int .i64 t1145)) (fun _ hk => hk.2) (.int .i64 t1146)) (fun _ hk => hk.2) (.int .i64 t1147)) (fun _ h_ => h_.1))) hb); replace HO_1100002 := am (Kd.Q_below (by (with_reducible repeat (first | apply Kd.Q_alloc | apply Kd.Q_drewN | apply Kd.Q_drew)); exact (Kd.Q_mono (Kd.Q_far (p := ⟨gb1152, 6, none⟩) (Kd.Q_far (p := ⟨gb1152, 5, none⟩) (Kd.Q_far (p := ⟨gb1152, 4, none⟩) (Kd.Q_far (p := ⟨gb1152, 3, none⟩) (Kd.Q_far (p := ⟨gb1152, 2, none⟩) (Kd.Q_far (p := ⟨gb1152, 1, none⟩) (Kd.Q_far (p := ⟨gb1152, 0, none⟩) (Kd.Q_types HO_1100002.out BK1152.out (by decide)) (fun _ hk => hk.2) (.bool t1137)) (fun _ hk => hk.2) (.bool t1138)) (fun _ hk => hk.2) (.slice Ao119 t1139.length co119)) (fun _ hk => hk.2) (.slice Ao120 t1142.length co120)) (fun _ hk => hk.2) (.int .i64 t1145)) (fun _ hk => hk.2) (.int .i64 t1146)) (fun _ hk => hk.2) (.int .i64 t1147)) (fun _ h_ => h_.1))) hb); replace HO_1100003 := am (Kd.Q_below (by (with_reducible repeat (first | apply Kd.Q_alloc | apply Kd.Q_drewN | apply Kd.Q_drew)); exact (Kd.Q_mono (Kd.Q_far (p := ⟨gb1152, 6, none⟩) (Kd.Q_far (p := ⟨gb1152, 5, none⟩) (Kd.Q_far (p := ⟨gb1152, 4, none⟩) (Kd.Q_far (p := ⟨gb1152, 3, none⟩) (Kd.Q_far (p := ⟨gb1152, 2, none⟩) (Kd.Q_far (p := ⟨gb1152, 1, none⟩) (Kd.Q_far (p := ⟨gb1152, 0, none⟩) (Kd.Q_types HO_1100003.out BK1152.out (by decide)) (fun _ hk => hk.2) (.bool t1137)) (fun _ hk => hk.2) (.bool t1138)) (fun _ hk => hk.2) (.slice Ao119 t1139.length co119)) (fun _ hk => hk.2) (.slice Ao120 t1142.length co120)) (fun _ hk => hk.2) (.int .i64 t1145)) (fun _ hk => hk.2) (.int .i64 t1146)) (fun _ hk => hk.2) (.int .i64 t1147)) (fun _ h_ => h_.1))) hb); replace HO1130 := am (Kd.R_below (by (with_reducible repeat (first | apply Kd.R_alloc | apply Kd.R_drewN | apply Kd.R_drew)); exact (Kd.R_mono (Kd.R_far (p := ⟨gb1152, 6, none⟩) (Kd.R_far (p := ⟨gb1152, 5, none⟩) (Kd.R_far (p := ⟨gb1152, 4, none⟩) (Kd.R_far (p := ⟨gb1152, 3, none⟩) (Kd.R_far (p := ⟨gb1152, 2, none⟩) (Kd.R_far (p := ⟨gb1152, 1, none⟩) (Kd.R_far (p := ⟨gb1152, 0, none⟩) (Kd.R_types HO1130.out BK1152.out (by decide)) (fun _ hk => hk.2) (.bool t1137)) (fun _ hk => hk.2) (.bool t1138)) (fun _ hk => hk.2) (.slice Ao119 t1139.length co119)) (fun _ hk => hk.2) (.slice Ao120 t1142.length co120)) (fun _ hk => hk.2) (.int .i64 t1145)) (fun _ hk => hk.2) (.int .i64 t1146)) (fun _ hk => hk.2) (.int .i64 t1147)) (fun _ h_ => h_.1))) hb); replace HO1133 := am (Kd.R_below (by (with_reducible repeat (first | apply Kd.R_alloc | apply Kd.R_drewN | apply Kd.R_drew)); exact (Kd.R_mono (Kd.R_far (p := ⟨gb1152, 6, none⟩) (Kd.R_far (p := ⟨gb1152, 5, none⟩) (Kd.R_far (p := ⟨gb1152, 4, none⟩) (Kd.R_far (p := ⟨gb1152, 3, none⟩) (Kd.R_far (p := ⟨gb1152, 2, none⟩) (Kd.R_far (p := ⟨gb1152, 1, none⟩) (Kd.R_far (p := ⟨gb1152, 0, none⟩) (Kd.R_types HO1133.out BK1152.out (by decide)) (fun _ hk => hk.2) (.bool t1137)) (fun _ hk => hk.2) (.bool t1138)) (fun _ hk => hk.2) (.slice Ao119 t1139.length co119)) (fun _ hk => hk.2) (.slice Ao120 t1142.length co120)) (fun _ hk => hk.2) (.int .i64 t1145)) (fun _ hk => hk.2) (.int .i64 t1146)) (fun _ hk => hk.2) (.int .i64 t1147)) (fun _ h_ => h_.1))) hb); replace HO1141 := am (Kd.Q_below (by (with_reducible repeat (first | apply Kd.Q_alloc | apply Kd.Q_drewN | apply Kd.Q_drew)); exact (Kd.Q_mono (Kd.Q_far (p := ⟨gb1152, 6, none⟩) (Kd.Q_far (p := ⟨gb1152, 5, none⟩) (Kd.Q_far (p := ⟨gb1152, 4, none⟩) (Kd.Q_far (p := ⟨gb1152, 3, none⟩) (Kd.Q_far (p := ⟨gb1152, 2, none⟩) (Kd.Q_far (p := ⟨gb1152, 1, none⟩) (Kd.Q_far (p := ⟨gb1152, 0, none⟩) (Kd.Q_types HO1141.out BK1152.out (by decide)) (fun _ hk => hk.2) (.bool t1137)) (fun _ hk => hk.2) (.bool t1138)) (fun _ hk => hk.2) (.slice Ao119 t1139.length co119)) (fun _ hk => hk.2) (.slice Ao120 t1142.length co120)) (fun _ hk => hk.2) (.int .i64 t1145)) (fun _ hk => hk.2) (.int .i64 t1146)) (fun _ hk => hk.2) (.int .i64 t1147)) (fun _ h_ => h_.1))) hb); replace HO1144 := am (Kd.R_below (by (with_reducible repeat (first | apply Kd.R_alloc | apply Kd.R_drewN | apply Kd.R_drew)); exact (Kd.R_mono (Kd.R_far (p := ⟨gb1152, 6, none⟩) (Kd.R_far (p := ⟨gb1152, 5, none⟩) (Kd.R_far (p := ⟨gb1152, 4, none⟩) (Kd.R_far (p := ⟨gb1152, 3, none⟩) (Kd.R_far (p := ⟨gb1152, 2, none⟩) (Kd.R_far (p := ⟨gb1152, 1, none⟩) (Kd.R_far (p := ⟨gb1152, 0, none⟩) (Kd.R_types HO1144.out BK1152.out (by decide)) (fun _ hk => hk.2) (.bool t1137)) (fun _ hk => hk.2) (.bool t1138)) (fun _ hk => hk.2) (.slice Ao119 t1139.length co119)) (fun _ hk => hk.2) (.slice Ao120 t1142.length co120)) (fun _ hk => hk.2) (.int .i64 t1145)) (fun _ hk => hk.2) (.int .i64 t1146)) (fun _ hk => hk.2) (.int .i64 t1147)) (fun _ h_ => h_.1))) hb); replace HO1150 := am (Kd.R_below (by (with_reducible repeat (first | apply Kd.R_alloc | apply Kd.R_drewN | apply Kd.R_drew)); exact (Kd.R_mono (Kd.R_far (p := ⟨gb1152, 6, none⟩) (Kd.R_far (p := ⟨gb1152, 5, none⟩) (Kd.R_far (p := ⟨gb1152, 4, none⟩) (Kd.R_far (p := ⟨gb1152, 3, none⟩) (Kd.R_far (p := ⟨gb1152, 2, none⟩) (Kd.R_far (p := ⟨gb1152, 1, none⟩) (Kd.R_far (p := ⟨gb1152, 0, none⟩) (Kd.R_types HO1150.out BK1152.out (by decide)) (fun _ hk => hk.2) (.bool t1137)) (fun _ hk => hk.2) (.bool t1138)) (fun _ hk => hk.2) (.slice Ao119 t1139.length co119)) (fun _ hk => hk.2) (.slice Ao120 t1142.length co120)) (fun _ hk => hk.2) (.int .i64 t1145)) (fun _ hk => hk.2) (.int .i64 t1146)) (fun _ hk => hk.2) (.int .i64 t1147)) (fun _ h_ => h_.1))) hb); replace BK1043 := am (blk_below (g := gb1043) (o := .cells #[.bool a0_0, .bool a0_1, .slice A0_2 l0_2.length c0_2, .slice A0_3 l0_3.length c0_3, .int .i64 a0_4, .int .i64 a0_5, .int .i64 a0_6] 24 (0, 0)) (by (with_reducible repeat (first | refine blk_drewN ?_ _ | refine blk_drew ?_ | refine blk_alloc ?_ _)); refine blk_far ?_ NB1043_1152.out _; (with_reducible repeat (first | refine blk_drewN ?_ _ | refine blk_drew ?_ | refine blk_alloc ?_ _)); refine blk_far ?_ NB1043_1152.out _; (with_reducible repeat (first | refine blk_drewN ?_ _ | refine blk_drew ?_ | refine blk_alloc ?_ _)); refine blk_far ?_ NB1043_1152.out _; (with_reducible repeat (first | refine blk_drewN ?_ _ | refine blk_drew ?_ | refine blk_alloc ?_ _)); refine blk_far ?_ NB1043_1152.out _; (with_reducible repeat (first | refine blk_drewN ?_ _ | refine blk_drew ?_ | refine blk_alloc ?_ _)); refine blk_far ?_ NB1043_1152.out _; (with_reducible repeat (first | refine blk_drewN ?_ _ | refine blk_drew ?_ | refine blk_alloc ?_ _)); refine blk_far ?_ NB1043_1152.out _; (with_reducible repeat (first | refine blk_drewN ?_ _ | refine blk_drew ?_ | refine blk_alloc ?_ _)); refine blk_far ?_ NB1043_1152.out _; exact pkK BK1043.out) hb); replace BK1071 := am (blk_below (g := gb1071) (o := .cells #[.bool t1056, .bool t1057, .slice Ao23 t1058.length co23, .slice Ao24 t1061.length co24, .int .i64 t1064, .int .i64 t1065, .int .i64 t1066] 27 (0, 0)) (by (with_reducible repeat (first | refine blk_drewN ?_ _ | refine blk_drew ?_ | refine blk_alloc ?_ _)); refine blk_far ?_ NB1071_1152.out _; (with_reducible repeat (first | refine blk_drewN ?_ _ | refine blk_drew ?_ | refine blk_alloc ?_ _)); refine blk_far ?_ NB1071_1152.out _; (with_reducible repeat (first | refine blk_drewN ?_ _ | refine blk_drew ?_ | refine blk_alloc ?_ _)); refine blk_far ?_ NB1071_1152.out _; (with_reducible repeat (first | refine blk_drewN ?_ _ | refine blk_drew ?_ | refine blk_alloc ?_ _)); refine blk_far ?_ NB1071_1152.out _; (with_reducible repeat (first | refine blk_drewN ?_ _ | refine blk_drew ?_ | refine blk_alloc ?_ _)); refine blk_far ?_ NB1071_1152.out _; (with_reducible repeat (first | refine blk_drewN ?_ _ | refine blk_drew ?_ | refine blk_alloc ?_ _)); refine blk_far ?_ NB1071_1152.out _; (with_reducible repeat (first | refine blk_drewN ?_ _ | refine blk_drew ?_ | refine blk_alloc ?_ _)); refine blk_far ?_ NB1071_1152.out _; exact pkK BK1071.out) hb); replace BK1083 := am (blk_below (g := gb1083) (o := .cells #[.bool t1072, .bool t1073, .slice Ao31 t1115.length co31, .slice Ao32 t1116.length co32, .int .i64 t1080, .int .i64 t1081, .int .i64 t1082] 27 (0, 0)) (by (with_reducible repeat (first | refine blk_drewN ?_ _ | refine blk_drew ?_ | refine blk_alloc ?_ _)); refine blk_far ?_ NB1083_1152.out _; (with_reducible repeat (first | refine blk_drewN ?_ _ | refine blk_drew ?_ | refine blk_alloc ?_ _)); refine blk_far ?_ NB1083_1152.out _; (with_reducible repeat (first | refine blk_drewN ?_ _ | refine blk_drew ?_ | refine blk_alloc ?_ _)); refine blk_far ?_ NB1083_1152.out _; (with_reducible repeat (first | refine blk_drewN ?_ _ | refine blk_drew ?_ | refine blk_alloc ?_ _)); refine blk_far ?_ NB1083_1152.out _; (with_reducible repeat (first | refine blk_drewN ?_ _ | refine blk_drew ?_ | refine blk_alloc ?_ _)); refine blk_far ?_ NB1083_1152.out _; (with_reducible repeat (first | refine blk_drewN ?_ _ | refine blk_drew ?_ | refine blk_alloc ?_ _)); refine blk_far ?_ NB1083_1152.out _; (with_reducible repeat (first | refine blk_drewN ?_ _ | refine blk_drew ?_ | refine blk_alloc ?_ _)); refine blk_far ?_ NB1083_1152.out _; exact pkK BK1083.out) hb); replace BK1099 := am (blk_below (g := gb1099) (o := .cells #[.bool t1084, .bool t1085, .slice Ao39 t1086.length co39, .slice Ao40 t1089.length co40, .int .i64 t1092, .int .i64 t1093, .int .i64 t1094] 27 (0, 0)) (by (with_reducible repeat (first | refine blk_drewN ?_ _ | refine blk_drew ?_ | refine blk_alloc ?_ _)); refine blk_far ?_ NB1099_1152.out _; (with_reducible repeat (first | refine blk_drewN ?_ _ | refine blk_drew ?_ | refine blk_alloc ?_ _)); refine blk_far ?_ NB1099_1152.out _; (with_reducible repeat (first | refine blk_drewN ?_ _ | refine blk_drew ?_ | refine blk_alloc ?_ _)); refine blk_far ?_ NB1099_1152.out _; (with_reducible repeat (first | refine blk_drewN ?_ _ | refine blk_drew ?_ | refine blk_alloc ?_ _)); refine blk_far ?_ NB1099_1152.out _; (with_reducible repeat (first | refine blk_drewN ?_ _ | refine blk_drew ?_ | refine blk_alloc ?_ _)); refine blk_far ?_ NB1099_1152.out _; (with_reducible repeat (first | refine blk_drewN ?_ _ | refine blk_drew ?_ | refine blk_alloc ?_ _)); refine blk_far ?_ NB1099_1152.out _; (with_reducible repeat (first | refine blk_drewN ?_ _ | refine blk_drew ?_ | refine blk_alloc ?_ _)); refine blk_far ?_ NB1099_1152.out _; exact pkK BK1099.out) hb); replace BK1152 := am (blk_below (g := gb1152) (o := .cells #[.bool t1137, .bool t1138, .slice Ao119 t1139.length co119, .slice Ao120 t1142.length co120, .int .i64 t1145, .int .i64 t1146, .int .i64 t1147] 27 (0, 0)) (by (with_reducible repeat (first | refine blk_drewN ?_ _ | refine blk_drew ?_ | refine blk_alloc ?_ _)); refine blk_put (cs := #[.bool t1137, .bool t1138, .slice Ao119 t1139.length co119, .slice Ao120 t1142.length co120, .int .i64 t1145, .int .i64 t1146, .int .i64 0]) ?_ 6 _ rfl; (with_reducible repeat (first | refine blk_drewN ?_ _ | refine blk_drew ?_ | refine blk_alloc ?_ _)); refine blk_put (cs := #[.bool t1137, .bool t1138, .slice Ao119 t1139.length co119, .slice Ao120 t1142.length co120, .int .i64 t1145, .int .i64 0, .int .i64 0]) ?_ 5 _ rfl; (with_reducible repeat (first | refine blk_drewN ?_ _ | refine blk_drew ?_ | refine blk_alloc ?_ _)); refine blk_put (cs := #[.bool t1137, .bool t1138, .slice Ao119 t1139.length co119, .slice Ao120 t1142.length co120, .int .i64 0, .int .i64 0, .int .i64 0]) ?_ 4 _ rfl; (with_reducible repeat (first | refine blk_drewN ?_ _ | refine blk_drew ?_ | refine blk_alloc ?_ _)); refine blk_put (cs := #[.bool t1137, .bool t1138, .slice Ao119 t1139.length co119, .slice none 0 0, .int .i64 0, .int .i64 0, .int .i64 0]) ?_ 3 _ rfl; (with_reducible repeat (first | refine blk_drewN ?_ _ | refine blk_drew ?_ | refine blk_alloc ?_ _)); refine blk_put (cs := #[.bool t1137, .bool t1138, .slice none 0 0, .slice none 0 0, .int .i64 0, .int .i64 0, .int .i64 0]) ?_ 2 _ rfl; (with_reducible repeat (first | refine blk_drewN ?_ _ | refine blk_drew ?_ | refine blk_alloc ?_ _)); refine blk_put (cs := #[.bool t1137, .bool false, .slice none 0 0, .slice none 0 0, .int .i64 0, .int .i64 0, .int .i64 0]) ?_ 1 _ rfl; (with_reducible repeat (first | refine blk_drewN ?_ _ | refine blk_drew ?_ | refine blk_alloc ?_ _)); refine blk_put (cs := #[.bool false, .bool false, .slice none 0 0, .slice none 0 0, .int .i64 0, .int .i64 0, .int .i64 0]) ?_ 0 _ rfl; exact pkK BK1152.out) hb); replace HB := am (below_step (pkW HB.out) hb); (try clear hb); obtain ⟨Ao135, co135, eo135⟩ := Kd.R_slice HO1150.out; subst eo135; obtain ⟨Ao136, co136, eo136⟩ := Kd.R_slice HO_5.out; subst eo136) | (go_at_call 34; (with_reducible refine (laws_eqIntS.calls kj59 _ _ t1148 _ _ t1067 true _ ?side1 ?side2 ?side3 ?side4 A123.out).mono ?_); (case side1 => exact pkC (Kd.R_reads' HO1150.out).2.2); (case side2 => exact (Kd.R_reads' HO1150.out).2.1); (case side3 => exact pkC (Kd.R_reads' HO_5.out).2.2); (case side4 => exact (Kd.R_reads' HO_5.out).2.1); rintro e w' ⟨rfl, ⟨nd, rfl⟩⟩))
               go_meet
               case rel => exact ⟨_, ((t1151 != t1070)), rfx, H', ⟨by have := HJ10.out; have := HJ59.out; first | omega | exact Nat.le_refl _⟩, ⟨by (try simp only [hl1084002_59]); (try simp only [hl1084003_59]); (with_reducible repeat (first | apply Kd.Q_alloc | apply Kd.Q_drewN | apply Kd.Q_drew)); exact Kd.Q_mono HO_9.out (fun _ hk => ⟨hk.1.1.1.1.1.2.1, ⟨hk.1.1.1.1.1.2.2.1, ⟨hk.1.1.1.1.1.2.2.2.1, ⟨hk.1.1.1.1.1.2.2.2.2.1, ⟨hk.1.1.1.1.1.2.2.2.2.2.1, ⟨hk.1.1.1.1.1.2.2.2.2.2.2, ⟨hk.1.1.2, hk.1.2⟩⟩⟩⟩⟩⟩⟩)⟩, ⟨by (try simp only [hl1084002_59]); (try simp only [hl1084003_59]); (with_reducible repeat (first | apply Kd.Q_alloc | apply Kd.Q_drewN | apply Kd.Q_drew)); exact Kd.Q_mono HO_1072002.out (fun _ hk => ⟨hk.1.1.1.1.1.2.1, ⟨hk.1.1.1.1.1.2.2.1, ⟨hk.1.1.1.1.1.2.2.2.1, ⟨hk.1.1.1.1.1.2.2.2.2.1, ⟨hk.1.1.1.1.1.2.2.2.2.2.1, ⟨hk.1.1.1.1.1.2.2.2.2.2.2, ⟨hk.1.1.2, hk.1.2⟩⟩⟩⟩⟩⟩⟩)⟩, ⟨by (try simp only [hl1084002_59]); (try simp only [hl1084003_59]); (with_reducible repeat (first | apply Kd.R_alloc | apply Kd.R_drewN | apply Kd.R_drew)); exact Kd.R_mono HO_1072003.out (fun _ hk => ⟨hk.1.1.1.1.1.2.1, ⟨hk.1.1.1.1.1.2.2.1, ⟨hk.1.1.1.1.1.2.2.2.1, ⟨hk.1.1.1.1.1.2.2.2.2.1, ⟨hk.1.1.1.1.1.2.2.2.2.2.1, ⟨hk.1.1.1.1.1.2.2.2.2.2.2, ⟨hk.1.1.2, hk.1.2⟩⟩⟩⟩⟩⟩⟩)⟩, ⟨by (try simp only [hl1084002_59]); (try simp only [hl1084003_59]); (with_reducible repeat (first | apply Kd.Q_alloc | apply Kd.Q_drewN | apply Kd.Q_drew)); exact Kd.Q_mono HO_1084002.out (fun _ hk => ⟨hk.1.1.1.1.1.2.1, ⟨hk.1.1.1.1.1.2.2.1, ⟨hk.1.1.1.1.1.2.2.2.1, ⟨hk.1.1.1.1.1.2.2.2.2.1, ⟨hk.1.1.1.1.1.2.2.2.2.2.1, ⟨hk.1.1.1.1.1.2.2.2.2.2.2, ⟨hk.1.1.2, hk.1.2⟩⟩⟩⟩⟩⟩⟩)⟩, ⟨by (try simp only [hl1084002_59]); (try simp only [hl1084003_59]); (with_reducible repeat (first | apply Kd.Q_alloc | apply Kd.Q_drewN | apply Kd.Q_drew)); exact Kd.Q_mono HO_1084003.out (fun _ hk => ⟨hk.1.1.1.1.1.2.1, ⟨hk.1.1.1.1.1.2.2.1, ⟨hk.1.1.1.1.1.2.2.2.1, ⟨hk.1.1.1.1.1.2.2.2.2.1, ⟨hk.1.1.1.1.1.2.2.2.2.2.1, ⟨hk.1.1.1.1.1.2.2.2.2.2.2, ⟨hk.1.1.2, hk.1.2⟩⟩⟩⟩⟩⟩⟩)⟩, ⟨by (try simp only [hl1084002_59]); (try simp only [hl1084003_59]); (with_reducible repeat (first | apply Kd.Q_alloc | apply Kd.Q_drewN | apply Kd.Q_drew)); exact Kd.Q_mono HO_1100002.out (fun _ hk => ⟨hk.1.1.1.1.1.2.1, ⟨hk.1.1.1.1.1.2.2.1, ⟨hk.1.1.1.1.1.2.2.2.1, ⟨hk.1.1.1.1.1.2.2.2.2.1, ⟨hk.1.1.1.1.1.2.2.2.2.2.1, ⟨hk.1.1.1.1.1.2.2.2.2.2.2, ⟨hk.1.1.2, hk.1.2⟩⟩⟩⟩⟩⟩⟩)⟩, ⟨by (try simp only [hl1084002_59]); (try simp only [hl1084003_59]); (with_reducible repeat (first | apply Kd.Q_alloc | apply Kd.Q_drewN | apply Kd.Q_drew)); exact Kd.Q_mono HO_1100003.out (fun _ hk => ⟨hk.1.1.1.1.1.2.1, ⟨hk.1.1.1.1.1.2.2.1, ⟨hk.1.1.1.1.1.2.2.2.1, ⟨hk.1.1.1.1.1.2.2.2.2.1, ⟨hk.1.1.1.1.1.2.2.2.2.2.1, ⟨hk.1.1.1.1.1.2.2.2.2.2.2, ⟨hk.1.1.2, hk.1.2⟩⟩⟩⟩⟩⟩⟩)⟩, ⟨by (try simp only [hl1084002_59]); (try simp only [hl1084003_59]); (with_reducible repeat (first | apply Kd.Q_alloc | apply Kd.Q_drewN | apply Kd.Q_drew)); exact Kd.Q_mono HO1141.out (fun _ hk => ⟨hk.1.1.1.1.1.1.1.1.2, ⟨hk.1.1.1.1.1.1.1.2, ⟨hk.1.1.1.1.1.1.2, ⟨hk.1.1.1.1.1.2, ⟨hk.1.1.1.1.2, ⟨hk.1.1.1.2, ⟨hk.1.1.2, hk.1.1.1.1.1.1.1.1.1.1.1⟩⟩⟩⟩⟩⟩⟩)⟩, ⟨by (try simp only [hl1084002_59]); (try simp only [hl1084003_59]); (with_reducible repeat (first | apply Kd.R_alloc | apply Kd.R_drewN | apply Kd.R_drew)); exact Kd.R_mono HO1144.out (fun _ hk => ⟨hk.1.1.1.1.1.1.1.1.2, ⟨hk.1.1.1.1.1.1.1.2, ⟨hk.1.1.1.1.1.1.2, ⟨hk.1.1.1.1.1.2, ⟨hk.1.1.1.1.2, ⟨hk.1.1.1.2, ⟨hk.1.1.2, hk.1.1.1.1.1.1.1.1.1.1.1⟩⟩⟩⟩⟩⟩⟩)⟩, ⟨by (try simp only [hl1084002_59]); (try simp only [hl1084003_59]); exact pkK BK1043.out⟩, ⟨by (try simp only [hl1084002_59]); (try simp only [hl1084003_59]); exact pkK BK1071.out⟩, ⟨by (try simp only [hl1084002_59]); (try simp only [hl1084003_59]); exact pkK BK1083.out⟩, ⟨by (try simp only [hl1084002_59]); (try simp only [hl1084003_59]); exact pkK BK1099.out⟩, ⟨by (try simp only [hl1084002_59]); (try simp only [hl1084003_59]); exact pkK BK1152.out⟩, ⟨pkW HB.out⟩⟩
              ·replace c124 := Bool.eq_false_iff.mpr c124
               subst c124
               replace H : (laws_FnExactRaise.j2 kj59 t1123 t1122 true t1084 t1085 t1120 t1121 t1092 t1093 t1094) = some r := by rw [if_neg (show ¬ (false = true) by decide)] at H; exact H
               cases kj59 with
               | zero => exact absurd H (by simp [laws_FnExactRaise.j2])
               | succ k_ => (simp only [laws_FnExactRaise.j2, if_pos] at H; exact absurd (Option.some.inj H) (by rw [HQ_.out]; simp))
             ·replace c122 := Bool.eq_false_iff.mpr c122
              subst c122
              replace H : (laws_FnExactRaise.j2 kj59 t1123 t1122 true t1084 t1085 t1120 t1121 t1092 t1093 t1094) = some r := by rw [if_neg (show ¬ (false = true) by decide)] at H; exact H
              cases kj59 with
              | zero => exact absurd H (by simp [laws_FnExactRaise.j2])
              | succ k_ => (simp only [laws_FnExactRaise.j2, if_pos] at H; exact absurd (Option.some.inj H) (by rw [HQ_.out]; simp))
            case rest =>
             clear HC96
             try clear c1
             try clear c2
             try clear p2
             try clear c3
             try clear c3b0
             try clear c4
             try clear c5
             try clear c6
             try clear c7
             try clear c8
             try clear c9
             try clear c10
             try clear c11
             try clear c12
             try clear c13
             try clear c14
             try clear c16
             try clear c18
             try clear c21
             try clear c26
             try clear c27
             try clear c28
             try clear c29
             try clear c35
             try clear c36
             try clear c37
             try clear c38
             try clear c39
             try clear c40
             try clear c42
             try clear c44
             try clear c45
             try clear c46
             try clear c47
             try clear c49
             try clear c50
             try clear c55
             try clear c58
             try clear c66
             try clear c67
             try clear c68
             try clear c71
             try clear c71b0
             try clear c73
             try clear c75
             try clear c76
             try clear c77
             try clear c78
             try clear c80
             try clear c81
             try clear c86
             try clear c90
             try clear c90b0
             try clear c92
             try clear c92b0
             try clear c93
             try clear c93b0
             try clear c93b1
             try clear c97
             try clear c98
             try clear c99
             try clear c106
             try clear c107
             try clear c114
             try clear c115
             try clear c116
             try clear c117
             try clear c122
             try clear c124
             try clear c125
             try clear c126
             try clear c127
             try clear c128
             try clear c130
             try clear c131
             try clear c132
             try clear hcz100_0
             try clear hcz100_1
             try clear hcz100_2
             try clear hcz100_3
             try clear hcz100_4
             try clear hcz100_5
             try clear hcz100_6
             try clear hcz104_0
             try clear hcz104_1
             try clear hcz104_2
             try clear hcz104_3
             try clear hcz104_4
             try clear hcz104_5
             try clear hcz104_6
             try clear hcz108_0
             try clear hcz108_1
             try clear hcz108_2
             try clear hcz108_3
             try clear hcz108_4
             try clear hcz108_5
             try clear hcz108_6
             try clear hcz118_0
             try clear hcz118_1
             try clear hcz118_2
             try clear hcz118_3
             try clear hcz118_4
             try clear hcz118_5
             try clear hcz118_6
             try clear hcz129_0
             try clear hcz129_1
             try clear hcz129_2
             try clear hcz129_3
             try clear hcz129_4
             try clear hcz129_5
             try clear hcz129_6
             try clear hcz133_0
             try clear hcz133_1
             try clear hcz133_2
             try clear hcz133_3
             try clear hcz133_4
             try clear hcz133_5
             try clear hcz133_6
             try clear hcz13_0
             try clear hcz13_1
             try clear hcz13_2
             try clear hcz13_3
             try clear hcz13_4
             try clear hcz13_5
             try clear hcz13_6
             try clear hcz15_0
             try clear hcz15_1
             try clear hcz15_2
             try clear hcz15_3
             try clear hcz15_4
             try clear hcz15_5
             try clear hcz15_6
             try clear hcz22_0
             try clear hcz22_1
             try clear hcz22_2
             try clear hcz22_3
             try clear hcz22_4
             try clear hcz22_5
             try clear hcz22_6
             try clear hcz25_0
             try clear hcz25_1
             try clear hcz25_2
             try clear hcz25_3
             try clear hcz25_4
             try clear hcz25_5
             try clear hcz25_6
             try clear hcz30_0
             try clear hcz30_1
             try clear hcz30_2
             try clear hcz30_3
             try clear hcz30_4
             try clear hcz30_5
             try clear hcz30_6
             try clear hcz38_0
             try clear hcz38_1
             try clear hcz38_2
             try clear hcz38_3
             try clear hcz38_4
             try clear hcz38_5
             try clear hcz38_6
             try clear hcz48_0
             try clear hcz48_1
             try clear hcz48_2
             try clear hcz48_3
             try clear hcz48_4
             try clear hcz48_5
             try clear hcz48_6
             try clear hcz51_0
             try clear hcz51_1
             try clear hcz51_2
             try clear hcz51_3
             try clear hcz51_4
             try clear hcz51_5
             try clear hcz51_6
             try clear hcz5_0
             try clear hcz5_1
             try clear hcz5_2
             try clear hcz5_3
             try clear hcz5_4
             try clear hcz5_5
             try clear hcz5_6
             try clear hcz69_0
             try clear hcz69_1
             try clear hcz69_2
             try clear hcz69_3
             try clear hcz69_4
             try clear hcz69_5
             try clear hcz69_6
             try clear hcz79_0
             try clear hcz79_1
             try clear hcz79_2
             try clear hcz79_3
             try clear hcz79_4
             try clear hcz79_5
             try clear hcz79_6
             try clear hcz82_0
             try clear hcz82_1
             try clear hcz82_2
             try clear hcz82_3
             try clear hcz82_4
             try clear hcz82_5
             try clear hcz82_6
             try clear hfz100_0
             try clear hfz100_1
             try clear hfz100_2
             try clear hfz100_3
             try clear hfz100_4
             try clear hfz100_5
             try clear hfz100_6
             try clear hfz104_0
             try clear hfz104_1
             try clear hfz104_2
             try clear hfz104_3
             try clear hfz104_4
             try clear hfz104_5
             try clear hfz104_6
             try clear hfz108_0
             try clear hfz108_1
             try clear hfz108_2
             try clear hfz108_3
             try clear hfz108_4
             try clear hfz108_5
             try clear hfz108_6
             try clear hfz118_0
             try clear hfz118_1
             try clear hfz118_2
             try clear hfz118_3
             try clear hfz118_4
             try clear hfz118_5
             try clear hfz118_6
             try clear hfz129_0
             try clear hfz129_1
             try clear hfz129_2
             try clear hfz129_3
             try clear hfz129_4
             try clear hfz129_5
             try clear hfz129_6
             try clear hfz133_0
             try clear hfz133_1
             try clear hfz133_2
             try clear hfz133_3
             try clear hfz133_4
             try clear hfz133_5
             try clear hfz133_6
             try clear hfz13_0
             try clear hfz13_1
             try clear hfz13_2
             try clear hfz13_3
             try clear hfz13_4
             try clear hfz13_5
             try clear hfz13_6
             try clear hfz15_0
             try clear hfz15_1
             try clear hfz15_2
             try clear hfz15_3
             try clear hfz15_4
             try clear hfz15_5
             try clear hfz15_6
             try clear hfz22_0
             try clear hfz22_1
             try clear hfz22_2
             try clear hfz22_3
             try clear hfz22_4
             try clear hfz22_5
             try clear hfz22_6
             try clear hfz25_0
             try clear hfz25_1
             try clear hfz25_2
             try clear hfz25_3
             try clear hfz25_4
             try clear hfz25_5
             try clear hfz25_6
             try clear hfz30_0
             try clear hfz30_1
             try clear hfz30_2
             try clear hfz30_3
             try clear hfz30_4
             try clear hfz30_5
             try clear hfz30_6
             try clear hfz38_0
             try clear hfz38_1
             try clear hfz38_2
             try clear hfz38_3
             try clear hfz38_4
             try clear hfz38_5
             try clear hfz38_6
             try clear hfz48_0
             try clear hfz48_1
             try clear hfz48_2
             try clear hfz48_3
             try clear hfz48_4
             try clear hfz48_5
             try clear hfz48_6
             try clear hfz51_0
             try clear hfz51_1
             try clear hfz51_2
             try clear hfz51_3
             try clear hfz51_4
             try clear hfz51_5
             try clear hfz51_6
             try clear hfz5_0
             try clear hfz5_1
             try clear hfz5_2
             try clear hfz5_3
             try clear hfz5_4
             try clear hfz5_5
             try clear hfz5_6
             try clear hfz69_0
             try clear hfz69_1
             try clear hfz69_2
             try clear hfz69_3
             try clear hfz69_4
             try clear hfz69_5
             try clear hfz69_6
             try clear hfz79_0
             try clear hfz79_1
             try clear hfz79_2
             try clear hfz79_3
             try clear hfz79_4
             try clear hfz79_5
             try clear hfz79_6
             try clear hfz82_0
             try clear hfz82_1
             try clear hfz82_2
             try clear hfz82_3
             try clear hfz82_4
             try clear hfz82_5
             try clear hfz82_6
             try clear p2
             obtain ⟨kq, x119_95, rfl, HA, HJ95, HO_9, HO_1072002, HO_1072003, HO_1084002, HO_1084003, HO_1100002, HO_1100003, HO_1153002, HO_1153003, BK1043, BK1071, BK1083, BK1099, BK1152, HB⟩ := hcut
             have hl9_95 := (Kd.Q_reads' HO_9.out).1
             rw [hl9_95] at HO_9
             (try simp only [hl9_95])
             (try simp only [hl9_95] at BK1043)
             (try simp only [hl9_95] at BK1071)
             (try simp only [hl9_95] at BK1083)
             (try simp only [hl9_95] at BK1099)
             (try simp only [hl9_95] at BK1152)
             (try simp only [hl9_95] at HO_1072002)
             (try simp only [hl9_95] at HO_1072003)
             (try simp only [hl9_95] at HO_1084002)
             (try simp only [hl9_95] at HO_1084003)
             (try simp only [hl9_95] at HO_1100002)
             (try simp only [hl9_95] at HO_1100003)
             (try simp only [hl9_95] at HO_1153002)
             (try simp only [hl9_95] at HO_1153003)
             have hl1100002_95 := (Kd.Q_reads' HO_1100002.out).1
             rw [hl1100002_95] at HO_1100002
             (try simp only [hl1100002_95])
             (try simp only [hl1100002_95] at BK1043)
             (try simp only [hl1100002_95] at BK1071)
             (try simp only [hl1100002_95] at BK1083)
             (try simp only [hl1100002_95] at BK1099)
             (try simp only [hl1100002_95] at BK1152)
             (try simp only [hl1100002_95] at HO_9)
             (try simp only [hl1100002_95] at HO_1072002)
             (try simp only [hl1100002_95] at HO_1072003)
             (try simp only [hl1100002_95] at HO_1084002)
             (try simp only [hl1100002_95] at HO_1084003)
             (try simp only [hl1100002_95] at HO_1100003)
             (try simp only [hl1100002_95] at HO_1153002)
             (try simp only [hl1100002_95] at HO_1153003)
             have hl1100003_95 := (Kd.Q_reads' HO_1100003.out).1
             rw [hl1100003_95] at HO_1100003
             (try simp only [hl1100003_95])
             (try simp only [hl1100003_95] at BK1043)
             (try simp only [hl1100003_95] at BK1071)
             (try simp only [hl1100003_95] at BK1083)
             (try simp only [hl1100003_95] at BK1099)
             (try simp only [hl1100003_95] at BK1152)
             (try simp only [hl1100003_95] at HO_9)
             (try simp only [hl1100003_95] at HO_1072002)
             (try simp only [hl1100003_95] at HO_1072003)
             (try simp only [hl1100003_95] at HO_1084002)
             (try simp only [hl1100003_95] at HO_1084003)
             (try simp only [hl1100003_95] at HO_1100002)
             (try simp only [hl1100003_95] at HO_1153002)
             (try simp only [hl1100003_95] at HO_1153003)
             cases kq with
             | zero => exact absurd HA.out (by simp [laws_FnExactRaise.j2])
             | succ kj95 =>
              have H := HA.out
              clear HA
              simp only [laws_FnExactRaise.j2] at H
              by_cases c137 : x119_95 = true
              ·subst c137
               replace H : (some false) = some r := by rw [if_pos rfl] at H; exact H
               exact absurd (Option.some.inj H) (by rw [HQ_.out]; simp)
              ·replace c137 := Bool.eq_false_iff.mpr c137
               subst c137
               replace H : ((laws_heldEvent.f kj95 t1084 t1085 t1120 t1121 t1092 t1093 t1094 1).bind fun t1155 => (if t1155 < 0 then (some false) else ((laws_heldIntS.f kj95 t1123 t1155).bind fun t1156 => (if t1156 < 0 then (some false) else (if t1156 = t1122 then (some true) else (some false)))))) = some r := by rw [if_neg (show ¬ (false = true) by decide)] at H; exact H
               replace H := Option.bind_eq_some_iff.mp H
               obtain ⟨t1155, A1380, H⟩ := H
               replace H : (if t1155 < 0 then (some false) else ((laws_heldIntS.f kj95 t1123 t1155).bind fun t1156 => (if t1156 < 0 then (some false) else (if t1156 = t1122 then (some true) else (some false))))) = some r := H
               have A138 := am A1380
               clear A1380
               by_cases c139 : t1155 < 0
               ·rw [if_pos c139] at H
                have c139b0 : decide (t1155 < 0) = true := decide_eq_true c139
                clear c139
                exact absurd (Option.some.inj H) (by rw [HQ_.out]; simp)
               ·rw [if_neg c139] at H
                have c139b0 : decide (t1155 < 0) = false := decide_eq_false c139
                clear c139
                replace H := Option.bind_eq_some_iff.mp H
                obtain ⟨t1156, A1400, H⟩ := H
                replace H : (if t1156 < 0 then (some false) else (if t1156 = t1122 then (some true) else (some false))) = some r := H
                have A140 := am A1400
                clear A1400
                by_cases c141 : t1156 < 0
                ·rw [if_pos c141] at H
                 have c141b0 : decide (t1156 < 0) = true := decide_eq_true c141
                 clear c141
                 exact absurd (Option.some.inj H) (by rw [HQ_.out]; simp)
                ·rw [if_neg c141] at H
                 have c141b0 : decide (t1156 < 0) = false := decide_eq_false c141
                 clear c141
                 by_cases c142 : t1156 = t1122
                 ·rw [if_pos c142] at H
                  have c142b0 : (t1156 == t1122) = true := beq_iff_eq.mpr c142
                  have c142b1 : (t1156 != t1122) = false := bne_eq_false_iff_eq.mpr c142
                  clear c142
                  obtain rfl := Option.some.inj H
                  have hnb143 := NB1099_1043.out
                  have hnc143 := NB1043_1099.out
                  have hnb144 := NB1099_1071.out
                  have hnc144 := NB1071_1099.out
                  have hnb145 := NB1099_1083.out
                  have hnc145 := NB1083_1099.out
                  have hnb146 := NB1099_1152.out
                  have hnc146 := NB1152_1099.out
                  obtain ⟨hcz147_0, hcz147_1, hcz147_2, hcz147_3, hcz147_4, hcz147_5, hcz147_6, hfz147_0, hfz147_1, hfz147_2, hfz147_3, hfz147_4, hfz147_5, hfz147_6⟩ := bk7 BK1099.out
                  go_wp2_with (first | ((with_reducible refine gate_callee (f := 27) rfl ?_); refine goesL_ (some 122) rfl rfl Try.func27 (by kernel_rfl) rfl #[.agg #[.bool t1084, .bool t1085, .slice Ao39 t1120.length co39, .slice Ao40 t1121.length co40, .int .i64 t1092, .int .i64 t1093, .int .i64 t1094], .int .i64 1] rfl mpx ?_; (with_reducible refine (laws_heldEvent.calls kj95 t1084 t1085 _ _ t1120 _ _ t1121 t1092 t1093 t1094 1 t1155 _ ?side1 ?side2 ?side3 ?side4 A138.out).mono ?_); (case side1 => repeat (first | exact (Kd.Q_reads' HO_1100002.out).2.2 | (with_reducible refine Kd.C_alloc ?_ _) | (with_reducible refine Kd.C_drewN ?_ _) | (with_reducible refine Kd.C_drew ?_))); (case side2 => exact (Kd.Q_reads' HO_1100002.out).2.1); (case side3 => repeat (first | exact (Kd.Q_reads' HO_1100003.out).2.2 | (with_reducible refine Kd.C_alloc ?_ _) | (with_reducible refine Kd.C_drewN ?_ _) | (with_reducible refine Kd.C_drew ?_))); (case side4 => exact (Kd.Q_reads' HO_1100003.out).2.1); rintro e w148 ⟨rfl, hb⟩; refine ⟨_, rfl, ?_⟩; replace HO_9 := am (Kd.Q_below (pkQ HO_9.out) hb); replace HO_1072002 := am (Kd.Q_below (pkQ HO_1072002.out) hb); replace HO_1072003 := am (Kd.R_below (pkR HO_1072003.out) hb); replace HO_1084002 := am (Kd.Q_below (pkQ HO_1084002.out) hb); replace HO_1084003 := am (Kd.Q_below (pkQ HO_1084003.out) hb); replace HO_1100002 := am (Kd.Q_below (pkQ HO_1100002.out) hb); replace HO_1100003 := am (Kd.Q_below (pkQ HO_1100003.out) hb); replace HO_1153002 := am (Kd.Q_below (pkQ HO_1153002.out) hb); replace HO_1153003 := am (Kd.R_below (pkR HO_1153003.out) hb); replace BK1043 := am (blk_below (pkK BK1043.out) hb); replace BK1071 := am (blk_below (pkK BK1071.out) hb); replace BK1083 := am (blk_below (pkK BK1083.out) hb); replace BK1099 := am (blk_below (pkK BK1099.out) hb); replace BK1152 := am (blk_below (pkK BK1152.out) hb); replace HB := am (below_step (pkW HB.out) hb); (try clear hb)) | ((with_reducible refine gate_callee (f := 38) rfl ?_); refine goesL_ (some 127) rfl rfl Try.func38 (by kernel_rfl) rfl #[.slice Ao102 t1123.length co102, .int .i64 t1155] rfl mpx ?_; (with_reducible refine (laws_heldIntS.calls kj95 _ _ t1123 t1155 t1156 _ ?side1 ?side2 A140.out).mono ?_); (case side1 => repeat (first | exact (Kd.Q_reads' HO_9.out).2.2 | (with_reducible refine Kd.C_alloc ?_ _) | (with_reducible refine Kd.C_drewN ?_ _) | (with_reducible refine Kd.C_drew ?_))); (case side2 => exact (Kd.Q_reads' HO_9.out).2.1); rintro e w' ⟨rfl, ⟨nd, rfl⟩⟩; refine ⟨_, rfl, ?_⟩))
                  go_ret
                  exact ⟨rfe, pkW HB.out⟩
                 ·rw [if_neg c142] at H
                  have c142b0 : (t1156 == t1122) = false := beq_eq_false_iff_ne.mpr c142
                  have c142b1 : (t1156 != t1122) = true := bne_iff_ne.mpr c142
                  exact absurd (Option.some.inj H) (by rw [HQ_.out]; simp)
           ·rw [if_neg c93] at H
            have c93b0 : (t1125 == t1122) = false := beq_eq_false_iff_ne.mpr c93
            have c93b1 : (t1125 != t1122) = true := bne_iff_ne.mpr c93
            exact absurd (Option.some.inj H) (by rw [HQ_.out]; simp)
     ·replace c58 := Bool.eq_false_iff.mpr c58
      subst c58
      replace H : (some false) = some r := by rw [if_neg (show ¬ (false = true) by decide)] at H; exact H
      exact absurd (Option.some.inj H) (by rw [HQ_.out]; simp)
end Go.Proofs.Ytdagpmnadapbjaa.Z
