/- The Go functions laws_FnExactUnwatch as Lean functions, each with a proof that its code comes to just these answers; conditions: those of each theorem. -/
import Derived.Test.YtffcphplnilokaaZx0
import Derived.Test.YtffcphplnilokaaZx28
import Derived.Test.YtffcphplnilokaaZx29
import Derived.Test.YtffcphplnilokaaZx42
import Derived.Test.YtffcphplnilokaaZx43
import Derived.Test.YtffcphplnilokaaZx44
namespace Go.Proofs.Ytffcphplnilokaa.Z
open Go.RowKit Go.Proofs.YtffcphplnilokaaW.PrintWords Go.Proofs.YtffcphplnilokaaW.PrintLast Go.Proofs.YtffcphplnilokaaW.PrintMore
attribute [local go_sem] max2_int min2_int max_two min_two max_three min_three max_four min_four   -- for this text's walks alone
set_option linter.unusedVariables false
set_option linter.unusedSimpArgs false
mutual
def laws_FnExactUnwatch.j0 : Nat → Int → Int → Int → Bool → Int → Int → ByteArray → Int → Bool → List Int → List Int → Int → Int → ByteArray → Int → Bool → List Int → List Int → Int → Int → ByteArray → Int → Bool → List Int → List Int → Int → Int → ByteArray → Int → Bool → List Int → List Int → Option (Bool)
 | 0, _, _, _, _, _, _, _, _, _, _, _, _, _, _, _, _, _, _, _, _, _, _, _, _, _, _, _, _, _, _, _, _ => none
 | k + 1, x1, x7, x10, x44, x1260000, x1260001, x1260002, x1260003, x1260004, x1260005, x1260006, x1285000, x1285001, x1285002, x1285003, x1285004, x1285005, x1285006, x1297000, x1297001, x1297002, x1297003, x1297004, x1297005, x1297006, x1310000, x1310001, x1310002, x1310003, x1310004, x1310005, x1310006 => if x44 = true then (some false) else ((laws_toCell.f k x1260000 x1260001 x1260002 x1260003 x1260004 x1260005 x1260006).bind fun bt1311 => ((laws_eqCell.f k x1297000 x1297001 x1297002 x1297003 x1297004 x1297005 x1297006 bt1311.1 bt1311.2.1 bt1311.2.2.1 bt1311.2.2.2.1 bt1311.2.2.2.2.1 bt1311.2.2.2.2.2.1 bt1311.2.2.2.2.2.2).bind fun t1322 => (if t1322 = true then ((laws_markCell.f k x1297000 x1297001 x1297002 x1297003 x1297004 x1297005 x1297006 1).bind fun bt1323 => (if bt1323.1 < 0 then (laws_FnExactUnwatch.j1 k x1 x7 true x1260000 x1260001 x1260002 x1260003 x1260004 x1260005 x1260006 x1285000 x1285001 x1285002 x1285003 x1285004 x1285005 x1285006 x1310000 x1310001 x1310002 x1310003 x1310004 x1310005 x1310006) else ((laws_eqCell.f k x1310000 x1310001 x1310002 x1310003 x1310004 x1310005 x1310006 x1285000 x1285001 x1285002 x1285003 x1285004 x1285005 x1285006).bind fun t1326 => (if t1326 = true then (laws_FnExactUnwatch.j1 k x1 x7 (x10 != x7) x1260000 x1260001 x1260002 x1260003 x1260004 x1260005 x1260006 x1285000 x1285001 x1285002 x1285003 x1285004 x1285005 x1285006 x1310000 x1310001 x1310002 x1310003 x1310004 x1310005 x1310006) else (laws_FnExactUnwatch.j1 k x1 x7 true x1260000 x1260001 x1260002 x1260003 x1260004 x1260005 x1260006 x1285000 x1285001 x1285002 x1285003 x1285004 x1285005 x1285006 x1310000 x1310001 x1310002 x1310003 x1310004 x1310005 x1310006))))) else (some false))))
def laws_FnExactUnwatch.j1 : Nat → Int → Int → Bool → Int → Int → ByteArray → Int → Bool → List Int → List Int → Int → Int → ByteArray → Int → Bool → List Int → List Int → Int → Int → ByteArray → Int → Bool → List Int → List Int → Option (Bool)
 | 0, _, _, _, _, _, _, _, _, _, _, _, _, _, _, _, _, _, _, _, _, _, _, _, _ => none
 | k + 1, x1, x7, x65, x1260000, x1260001, x1260002, x1260003, x1260004, x1260005, x1260006, x1285000, x1285001, x1285002, x1285003, x1285004, x1285005, x1285006, x1310000, x1310001, x1310002, x1310003, x1310004, x1310005, x1310006 => if x65 = true then (some false) else ((laws_markCell.f k x1310000 x1310001 x1310002 x1310003 x1310004 x1310005 x1310006 1).bind fun bt1327 => ((laws_heldCell.f k x1310000 x1310001 x1310002 x1310003 x1310004 bt1327.2.1 bt1327.2.2 1).bind fun t1330 => (if t1330 < 0 then (some false) else (if t1330 = bt1327.1 then ((laws_toCell.f k x1260000 x1260001 x1260002 x1260003 x1260004 x1260005 x1260006).bind fun bt1331 => ((impl_Unwatch.f k bt1331.1 bt1331.2.1 bt1331.2.2.1 bt1331.2.2.2.1 bt1331.2.2.2.2.1 bt1331.2.2.2.2.2.1 bt1331.2.2.2.2.2.2 x1).bind fun bt1342 => ((laws_eqCell.f k bt1342.1 bt1342.2.1 bt1342.2.2.1 bt1342.2.2.2.1 bt1342.2.2.2.2.1 bt1342.2.2.2.2.2.1 bt1342.2.2.2.2.2.2.1 x1285000 x1285001 x1285002 x1285003 x1285004 x1285005 x1285006).bind fun t1355 => (if t1355 = true then (laws_FnExactUnwatch.j2 k bt1327.1 (bt1342.2.2.2.2.2.2.2 != x7) x1310000 x1310001 x1310002 x1310003 x1310004 bt1327.2.1 bt1327.2.2) else (laws_FnExactUnwatch.j2 k bt1327.1 true x1310000 x1310001 x1310002 x1310003 x1310004 bt1327.2.1 bt1327.2.2))))) else (some false)))))
def laws_FnExactUnwatch.j2 : Nat → Int → Bool → Int → Int → ByteArray → Int → Bool → List Int → List Int → Option (Bool)
 | 0, _, _, _, _, _, _, _, _, _ => none
 | k + 1, x12, x92, x1310000, x1310001, x1310002, x1310003, x1310004, x1310005, x1310006 => if x92 = true then (some false) else ((laws_heldCell.f k x1310000 x1310001 x1310002 x1310003 x1310004 x1310005 x1310006 1).bind fun t1356 => (if t1356 < 0 then (some false) else (if t1356 = x12 then (some true) else (some false))))
end
def laws_FnExactUnwatch.f (k : Nat) (a0_0 : Int) (a0_1 : Int) (a0_2 : ByteArray) (a0_3 : Int) (a0_4 : Bool) (l0_5 : List Int) (l0_6 : List Int) (a1 : Int) : Option (Bool) := (laws_szCell.f a0_0 a0_1 a0_2 a0_3 a0_4 l0_5 l0_6 1048576).bind fun t1260 => (if t1260 < 0 then (some true) else ((laws_toCell.f k a0_0 a0_1 a0_2 a0_3 a0_4 l0_5 l0_6).bind fun bt1261 => ((spec_Unwatch.f k bt1261.1 bt1261.2.1 bt1261.2.2.1 bt1261.2.2.2.1 bt1261.2.2.2.2.1 bt1261.2.2.2.2.2.1 bt1261.2.2.2.2.2.2 a1).bind fun bt1272 => ((laws_toCell.f k a0_0 a0_1 a0_2 a0_3 a0_4 l0_5 l0_6).bind fun bt1285 => ((impl_Unwatch.f k bt1285.1 bt1285.2.1 bt1285.2.2.1 bt1285.2.2.2.1 bt1285.2.2.2.2.1 bt1285.2.2.2.2.2.1 bt1285.2.2.2.2.2.2 a1).bind fun bt1297 => ((laws_eqCell.f k bt1297.1 bt1297.2.1 bt1297.2.2.1 bt1297.2.2.2.1 bt1297.2.2.2.2.1 bt1297.2.2.2.2.2.1 bt1297.2.2.2.2.2.2.1 bt1272.1 bt1272.2.1 bt1272.2.2.1 bt1272.2.2.2.1 bt1272.2.2.2.2.1 bt1272.2.2.2.2.2.1 bt1272.2.2.2.2.2.2.1).bind fun t1310 => (if t1310 = true then (laws_FnExactUnwatch.j0 k a1 bt1272.2.2.2.2.2.2.2 bt1297.2.2.2.2.2.2.2 (bt1297.2.2.2.2.2.2.2 != bt1272.2.2.2.2.2.2.2) a0_0 a0_1 a0_2 a0_3 a0_4 l0_5 l0_6 bt1272.1 bt1272.2.1 bt1272.2.2.1 bt1272.2.2.2.1 bt1272.2.2.2.2.1 bt1272.2.2.2.2.2.1 bt1272.2.2.2.2.2.2.1 bt1285.1 bt1285.2.1 bt1285.2.2.1 bt1285.2.2.2.1 bt1285.2.2.2.2.1 bt1285.2.2.2.2.2.1 bt1285.2.2.2.2.2.2 bt1297.1 bt1297.2.1 bt1297.2.2.1 bt1297.2.2.2.1 bt1297.2.2.2.2.1 bt1297.2.2.2.2.2.1 bt1297.2.2.2.2.2.2.1) else (laws_FnExactUnwatch.j0 k a1 bt1272.2.2.2.2.2.2.2 bt1297.2.2.2.2.2.2.2 true a0_0 a0_1 a0_2 a0_3 a0_4 l0_5 l0_6 bt1272.1 bt1272.2.1 bt1272.2.2.1 bt1272.2.2.2.1 bt1272.2.2.2.2.1 bt1272.2.2.2.2.2.1 bt1272.2.2.2.2.2.2.1 bt1285.1 bt1285.2.1 bt1285.2.2.1 bt1285.2.2.2.1 bt1285.2.2.2.2.1 bt1285.2.2.2.2.2.1 bt1285.2.2.2.2.2.2 bt1297.1 bt1297.2.1 bt1297.2.2.1 bt1297.2.2.2.1 bt1297.2.2.2.2.1 bt1297.2.2.2.2.2.1 bt1297.2.2.2.2.2.2.1))))))))
theorem laws_FnExactUnwatch.mono_l : ∀ k, (∀ y0 y1 y2 y3 y4 y5 y6 y7 y8 y9 y10 y11 y12 y13 y14 y15 y16 y17 y18 y19 y20 y21 y22 y23 y24 y25 y26 y27 y28 y29 y30 y31, LeO (laws_FnExactUnwatch.j0 k y0 y1 y2 y3 y4 y5 y6 y7 y8 y9 y10 y11 y12 y13 y14 y15 y16 y17 y18 y19 y20 y21 y22 y23 y24 y25 y26 y27 y28 y29 y30 y31) (laws_FnExactUnwatch.j0 (k + 1) y0 y1 y2 y3 y4 y5 y6 y7 y8 y9 y10 y11 y12 y13 y14 y15 y16 y17 y18 y19 y20 y21 y22 y23 y24 y25 y26 y27 y28 y29 y30 y31)) ∧ (∀ y0 y1 y2 y3 y4 y5 y6 y7 y8 y9 y10 y11 y12 y13 y14 y15 y16 y17 y18 y19 y20 y21 y22 y23, LeO (laws_FnExactUnwatch.j1 k y0 y1 y2 y3 y4 y5 y6 y7 y8 y9 y10 y11 y12 y13 y14 y15 y16 y17 y18 y19 y20 y21 y22 y23) (laws_FnExactUnwatch.j1 (k + 1) y0 y1 y2 y3 y4 y5 y6 y7 y8 y9 y10 y11 y12 y13 y14 y15 y16 y17 y18 y19 y20 y21 y22 y23)) ∧ (∀ y0 y1 y2 y3 y4 y5 y6 y7 y8, LeO (laws_FnExactUnwatch.j2 k y0 y1 y2 y3 y4 y5 y6 y7 y8) (laws_FnExactUnwatch.j2 (k + 1) y0 y1 y2 y3 y4 y5 y6 y7 y8))
 | 0 => ⟨fun _ _ _ _ _ _ _ _ _ _ _ _ _ _ _ _ _ _ _ _ _ _ _ _ _ _ _ _ _ _ _ _ r h => by simp [laws_FnExactUnwatch.j0] at h, fun _ _ _ _ _ _ _ _ _ _ _ _ _ _ _ _ _ _ _ _ _ _ _ _ r h => by simp [laws_FnExactUnwatch.j1] at h, fun _ _ _ _ _ _ _ _ _ r h => by simp [laws_FnExactUnwatch.j2] at h⟩
 | k + 1 => by
  obtain ⟨ih0, ih1, ih2⟩ := laws_FnExactUnwatch.mono_l k
  refine ⟨?_, ?_, ?_⟩
  ·intro y0 y1 y2 y3 y4 y5 y6 y7 y8 y9 y10 y11 y12 y13 y14 y15 y16 y17 y18 y19 y20 y21 y22 y23 y24 y25 y26 y27 y28 y29 y30 y31
   unfold laws_FnExactUnwatch.j0
   repeat' first
   | (with_reducible exact ih0 _ _ _ _ _ _ _ _ _ _ _ _ _ _ _ _ _ _ _ _ _ _ _ _ _ _ _ _ _ _ _ _)
   | (with_reducible exact ih1 _ _ _ _ _ _ _ _ _ _ _ _ _ _ _ _ _ _ _ _ _ _ _ _)
   | (with_reducible exact ih2 _ _ _ _ _ _ _ _ _)
   | (with_reducible exact impl_Unwatch.mono _ _ _ _ _ _ _ _ _)
   | (with_reducible exact laws_eqCell.mono _ _ _ _ _ _ _ _ _ _ _ _ _ _ _)
   | (with_reducible exact laws_heldCell.mono _ _ _ _ _ _ _ _ _)
   | (with_reducible exact laws_markCell.mono _ _ _ _ _ _ _ _ _)
   | (with_reducible exact laws_toCell.mono _ _ _ _ _ _ _ _)
   | (with_reducible exact spec_Unwatch.mono _ _ _ _ _ _ _ _ _)
   | (with_reducible exact LeO.refl _)
   | (with_reducible exact LeO.none _)
   | (with_reducible refine LeO.ite ?_ ?_)
   | (with_reducible refine LeO.bind ?_ (fun _ => ?_))
  ·intro y0 y1 y2 y3 y4 y5 y6 y7 y8 y9 y10 y11 y12 y13 y14 y15 y16 y17 y18 y19 y20 y21 y22 y23
   unfold laws_FnExactUnwatch.j1
   repeat' first
   | (with_reducible exact ih0 _ _ _ _ _ _ _ _ _ _ _ _ _ _ _ _ _ _ _ _ _ _ _ _ _ _ _ _ _ _ _ _)
   | (with_reducible exact ih1 _ _ _ _ _ _ _ _ _ _ _ _ _ _ _ _ _ _ _ _ _ _ _ _)
   | (with_reducible exact ih2 _ _ _ _ _ _ _ _ _)
   | (with_reducible exact impl_Unwatch.mono _ _ _ _ _ _ _ _ _)
   | (with_reducible exact laws_eqCell.mono _ _ _ _ _ _ _ _ _ _ _ _ _ _ _)
   | (with_reducible exact laws_heldCell.mono _ _ _ _ _ _ _ _ _)
   | (with_reducible exact laws_markCell.mono _ _ _ _ _ _ _ _ _)
   | (with_reducible exact laws_toCell.mono _ _ _ _ _ _ _ _)
   | (with_reducible exact spec_Unwatch.mono _ _ _ _ _ _ _ _ _)
   | (with_reducible exact LeO.refl _)
   | (with_reducible exact LeO.none _)
   | (with_reducible refine LeO.ite ?_ ?_)
   | (with_reducible refine LeO.bind ?_ (fun _ => ?_))
  ·intro y0 y1 y2 y3 y4 y5 y6 y7 y8
   unfold laws_FnExactUnwatch.j2
   repeat' first
   | (with_reducible exact ih0 _ _ _ _ _ _ _ _ _ _ _ _ _ _ _ _ _ _ _ _ _ _ _ _ _ _ _ _ _ _ _ _)
   | (with_reducible exact ih1 _ _ _ _ _ _ _ _ _ _ _ _ _ _ _ _ _ _ _ _ _ _ _ _)
   | (with_reducible exact ih2 _ _ _ _ _ _ _ _ _)
   | (with_reducible exact impl_Unwatch.mono _ _ _ _ _ _ _ _ _)
   | (with_reducible exact laws_eqCell.mono _ _ _ _ _ _ _ _ _ _ _ _ _ _ _)
   | (with_reducible exact laws_heldCell.mono _ _ _ _ _ _ _ _ _)
   | (with_reducible exact laws_markCell.mono _ _ _ _ _ _ _ _ _)
   | (with_reducible exact laws_toCell.mono _ _ _ _ _ _ _ _)
   | (with_reducible exact spec_Unwatch.mono _ _ _ _ _ _ _ _ _)
   | (with_reducible exact LeO.refl _)
   | (with_reducible exact LeO.none _)
   | (with_reducible refine LeO.ite ?_ ?_)
   | (with_reducible refine LeO.bind ?_ (fun _ => ?_))
theorem laws_FnExactUnwatch.mono : ∀ a0 a1 a2 a3 a4 a5 a6 a7 k, LeO (laws_FnExactUnwatch.f k a0 a1 a2 a3 a4 a5 a6 a7) (laws_FnExactUnwatch.f (k + 1) a0 a1 a2 a3 a4 a5 a6 a7) := by
 intro a0 a1 a2 a3 a4 a5 a6 a7 k
 obtain ⟨ih0, ih1, ih2⟩ := laws_FnExactUnwatch.mono_l k
 unfold laws_FnExactUnwatch.f
 repeat' first
   | (with_reducible exact ih0 _ _ _ _ _ _ _ _ _ _ _ _ _ _ _ _ _ _ _ _ _ _ _ _ _ _ _ _ _ _ _ _)
   | (with_reducible exact ih1 _ _ _ _ _ _ _ _ _ _ _ _ _ _ _ _ _ _ _ _ _ _ _ _)
   | (with_reducible exact ih2 _ _ _ _ _ _ _ _ _)
   | (with_reducible exact impl_Unwatch.mono _ _ _ _ _ _ _ _ _)
   | (with_reducible exact laws_eqCell.mono _ _ _ _ _ _ _ _ _ _ _ _ _ _ _)
   | (with_reducible exact laws_heldCell.mono _ _ _ _ _ _ _ _ _)
   | (with_reducible exact laws_markCell.mono _ _ _ _ _ _ _ _ _)
   | (with_reducible exact laws_toCell.mono _ _ _ _ _ _ _ _)
   | (with_reducible exact spec_Unwatch.mono _ _ _ _ _ _ _ _ _)
   | (with_reducible exact LeO.refl _)
   | (with_reducible exact LeO.none _)
   | (with_reducible refine LeO.ite ?_ ?_)
   | (with_reducible refine LeO.bind ?_ (fun _ => ?_))
set_option maxHeartbeats 8000000 in
set_option maxRecDepth 100000 in
theorem laws_FnExactUnwatch.calls (k : Nat) (a0_0 : Int) (a0_1 : Int) (a0_2 : ByteArray) (a0_3 : Int) (a0_4 : Bool) (A0_5 : Option Addr) (c0_5 : Nat) (l0_5 : List Int) (A0_6 : Option Addr) (c0_6 : Nat) (l0_6 : List Int) (a1 : Int) (r : Bool) (w : World) (hr0_5 : Kd.C (Kd.int .i64) w A0_5 l0_5.length l0_5) (hc0_5 : l0_5.length ≤ c0_5) (hr0_6 : Kd.C (Kd.int .i64) w A0_6 l0_6.length l0_6) (hc0_6 : l0_6.length ≤ c0_6) (HQ_ : Aside0 (r = true)) (h : laws_FnExactUnwatch.f k a0_0 a0_1 a0_2 a0_3 a0_4 l0_5 l0_6 a1 = some r) :
  Calls Try.prog 13 #[.agg #[.int .i64 a0_0, .int .i64 a0_1, .string a0_2, .int .i64 a0_3, .bool a0_4, .slice A0_5 l0_5.length c0_5, .slice A0_6 l0_6.length c0_6], .int .i64 a1] w fun e w' => e = .returned (.bool r) ∧ Below w.heap.size w w' := by
 have hu56 := Try.underlying56
 have hu29 := Try.underlying29
 have HR0_5 := am hr0_5
 have HC0_5 := am hc0_5
 clear hr0_5 hc0_5
 have HR0_6 := am hr0_6
 have HC0_6 := am hc0_6
 clear hr0_6 hc0_6
 have HB := am (Below.refl w.heap.size w)
 have H : ((laws_szCell.f a0_0 a0_1 a0_2 a0_3 a0_4 l0_5 l0_6 1048576).bind fun t1260 => (if t1260 < 0 then (some true) else ((laws_toCell.f k a0_0 a0_1 a0_2 a0_3 a0_4 l0_5 l0_6).bind fun bt1261 => ((spec_Unwatch.f k bt1261.1 bt1261.2.1 bt1261.2.2.1 bt1261.2.2.2.1 bt1261.2.2.2.2.1 bt1261.2.2.2.2.2.1 bt1261.2.2.2.2.2.2 a1).bind fun bt1272 => ((laws_toCell.f k a0_0 a0_1 a0_2 a0_3 a0_4 l0_5 l0_6).bind fun bt1285 => ((impl_Unwatch.f k bt1285.1 bt1285.2.1 bt1285.2.2.1 bt1285.2.2.2.1 bt1285.2.2.2.2.1 bt1285.2.2.2.2.2.1 bt1285.2.2.2.2.2.2 a1).bind fun bt1297 => ((laws_eqCell.f k bt1297.1 bt1297.2.1 bt1297.2.2.1 bt1297.2.2.2.1 bt1297.2.2.2.2.1 bt1297.2.2.2.2.2.1 bt1297.2.2.2.2.2.2.1 bt1272.1 bt1272.2.1 bt1272.2.2.1 bt1272.2.2.2.1 bt1272.2.2.2.2.1 bt1272.2.2.2.2.2.1 bt1272.2.2.2.2.2.2.1).bind fun t1310 => (if t1310 = true then (laws_FnExactUnwatch.j0 k a1 bt1272.2.2.2.2.2.2.2 bt1297.2.2.2.2.2.2.2 (bt1297.2.2.2.2.2.2.2 != bt1272.2.2.2.2.2.2.2) a0_0 a0_1 a0_2 a0_3 a0_4 l0_5 l0_6 bt1272.1 bt1272.2.1 bt1272.2.2.1 bt1272.2.2.2.1 bt1272.2.2.2.2.1 bt1272.2.2.2.2.2.1 bt1272.2.2.2.2.2.2.1 bt1285.1 bt1285.2.1 bt1285.2.2.1 bt1285.2.2.2.1 bt1285.2.2.2.2.1 bt1285.2.2.2.2.2.1 bt1285.2.2.2.2.2.2 bt1297.1 bt1297.2.1 bt1297.2.2.1 bt1297.2.2.2.1 bt1297.2.2.2.2.1 bt1297.2.2.2.2.2.1 bt1297.2.2.2.2.2.2.1) else (laws_FnExactUnwatch.j0 k a1 bt1272.2.2.2.2.2.2.2 bt1297.2.2.2.2.2.2.2 true a0_0 a0_1 a0_2 a0_3 a0_4 l0_5 l0_6 bt1272.1 bt1272.2.1 bt1272.2.2.1 bt1272.2.2.2.1 bt1272.2.2.2.2.1 bt1272.2.2.2.2.2.1 bt1272.2.2.2.2.2.2.1 bt1285.1 bt1285.2.1 bt1285.2.2.1 bt1285.2.2.2.1 bt1285.2.2.2.2.1 bt1285.2.2.2.2.2.1 bt1285.2.2.2.2.2.2 bt1297.1 bt1297.2.1 bt1297.2.2.1 bt1297.2.2.2.1 bt1297.2.2.2.2.1 bt1297.2.2.2.2.2.1 bt1297.2.2.2.2.2.2.1))))))))) = some r := h
 clear h
 replace H := Option.bind_eq_some_iff.mp H
 obtain ⟨t1260, A30, H⟩ := H
 replace H : (if t1260 < 0 then (some true) else ((laws_toCell.f k a0_0 a0_1 a0_2 a0_3 a0_4 l0_5 l0_6).bind fun bt1261 => ((spec_Unwatch.f k bt1261.1 bt1261.2.1 bt1261.2.2.1 bt1261.2.2.2.1 bt1261.2.2.2.2.1 bt1261.2.2.2.2.2.1 bt1261.2.2.2.2.2.2 a1).bind fun bt1272 => ((laws_toCell.f k a0_0 a0_1 a0_2 a0_3 a0_4 l0_5 l0_6).bind fun bt1285 => ((impl_Unwatch.f k bt1285.1 bt1285.2.1 bt1285.2.2.1 bt1285.2.2.2.1 bt1285.2.2.2.2.1 bt1285.2.2.2.2.2.1 bt1285.2.2.2.2.2.2 a1).bind fun bt1297 => ((laws_eqCell.f k bt1297.1 bt1297.2.1 bt1297.2.2.1 bt1297.2.2.2.1 bt1297.2.2.2.2.1 bt1297.2.2.2.2.2.1 bt1297.2.2.2.2.2.2.1 bt1272.1 bt1272.2.1 bt1272.2.2.1 bt1272.2.2.2.1 bt1272.2.2.2.2.1 bt1272.2.2.2.2.2.1 bt1272.2.2.2.2.2.2.1).bind fun t1310 => (if t1310 = true then (laws_FnExactUnwatch.j0 k a1 bt1272.2.2.2.2.2.2.2 bt1297.2.2.2.2.2.2.2 (bt1297.2.2.2.2.2.2.2 != bt1272.2.2.2.2.2.2.2) a0_0 a0_1 a0_2 a0_3 a0_4 l0_5 l0_6 bt1272.1 bt1272.2.1 bt1272.2.2.1 bt1272.2.2.2.1 bt1272.2.2.2.2.1 bt1272.2.2.2.2.2.1 bt1272.2.2.2.2.2.2.1 bt1285.1 bt1285.2.1 bt1285.2.2.1 bt1285.2.2.2.1 bt1285.2.2.2.2.1 bt1285.2.2.2.2.2.1 bt1285.2.2.2.2.2.2 bt1297.1 bt1297.2.1 bt1297.2.2.1 bt1297.2.2.2.1 bt1297.2.2.2.2.1 bt1297.2.2.2.2.2.1 bt1297.2.2.2.2.2.2.1) else (laws_FnExactUnwatch.j0 k a1 bt1272.2.2.2.2.2.2.2 bt1297.2.2.2.2.2.2.2 true a0_0 a0_1 a0_2 a0_3 a0_4 l0_5 l0_6 bt1272.1 bt1272.2.1 bt1272.2.2.1 bt1272.2.2.2.1 bt1272.2.2.2.2.1 bt1272.2.2.2.2.2.1 bt1272.2.2.2.2.2.2.1 bt1285.1 bt1285.2.1 bt1285.2.2.1 bt1285.2.2.2.1 bt1285.2.2.2.2.1 bt1285.2.2.2.2.2.1 bt1285.2.2.2.2.2.2 bt1297.1 bt1297.2.1 bt1297.2.2.1 bt1297.2.2.2.1 bt1297.2.2.2.2.1 bt1297.2.2.2.2.2.1 bt1297.2.2.2.2.2.2.1)))))))) = some r := H
 have A3 := am A30
 clear A30
 by_cases c4 : t1260 < 0
 ·rw [if_pos c4] at H
  have c4b0 : decide (t1260 < 0) = true := decide_eq_true c4
  clear c4
  obtain rfl := Option.some.inj H
  go_enter Try.func13, Try.ntmps13
  go_wp2_with (first | ((with_reducible refine gate_dst (N := 2) rfl ?_); refine box_event ?hg (N := 2) ?hd (cs := #[.int .i64 a0_0, .int .i64 a0_1, .string a0_2, .int .i64 a0_3, .bool a0_4, .slice A0_5 l0_5.length c0_5, .slice A0_6 l0_6.length c0_6]) (t := 56) ?hr ?_; (case hd => rfl); (case hg => rfl); (case hr => first | (go_simp; done) | (go_simp; rfl)); intro gb1259 hg w5 hbox hb; have BK1259 := am (hbox); have GW1259 := am ((by rw [hg]; exact (below_size (pkB HB.out)) : w.heap.size ≤ gb1259)); have GE1259 := am ((by rw [hg]; exact (below_size (pkB HB.out)) : w.heap.size ≤ gb1259)); replace HB := am (below_step (pkB HB.out) hb); clear hb hbox hg; obtain ⟨hcz6_0, hcz6_1, hcz6_2, hcz6_3, hcz6_4, hcz6_5, hcz6_6, hfz6_0, hfz6_1, hfz6_2, hfz6_3, hfz6_4, hfz6_5, hfz6_6⟩ := bk7 BK1259.out) | ((with_reducible refine gate_callee (f := 31) rfl ?_); refine goesL_ (some 18) rfl rfl Try.func31 (by kernel_rfl) rfl #[.agg #[.int .i64 a0_0, .int .i64 a0_1, .string a0_2, .int .i64 a0_3, .bool a0_4, .slice A0_5 l0_5.length c0_5, .slice A0_6 l0_6.length c0_6], .int .i64 1048576] rfl mpx ?_; (with_reducible refine (laws_szCell.calls a0_0 a0_1 a0_2 a0_3 a0_4 _ _ l0_5 _ _ l0_6 1048576 t1260 _ ?side1 ?side2 ?side3 ?side4 A3.out).mono ?_); (case side1 => exact pkC (Kd.C_below HR0_5.out HB.out)); (case side2 => exact HC0_5.out); (case side3 => exact pkC (Kd.C_below HR0_6.out HB.out)); (case side4 => exact HC0_6.out); rintro e w7 ⟨rfl, hb⟩; refine ⟨_, rfl, ?_⟩; replace BK1259 := am (blk_below (pkK BK1259.out) hb); replace HB := am (below_step (pkW HB.out) hb); (try clear hb)))
  go_ret
  exact ⟨rfe, pkW HB.out⟩
 ·rw [if_neg c4] at H
  have c4b0 : decide (t1260 < 0) = false := decide_eq_false c4
  clear c4
  replace H := Option.bind_eq_some_iff.mp H
  obtain ⟨⟨t1261, t1262, t1263, t1264, t1265, t1266, t1269⟩, A80, H⟩ := H
  replace H : ((spec_Unwatch.f k t1261 t1262 t1263 t1264 t1265 t1266 t1269 a1).bind fun bt1272 => ((laws_toCell.f k a0_0 a0_1 a0_2 a0_3 a0_4 l0_5 l0_6).bind fun bt1285 => ((impl_Unwatch.f k bt1285.1 bt1285.2.1 bt1285.2.2.1 bt1285.2.2.2.1 bt1285.2.2.2.2.1 bt1285.2.2.2.2.2.1 bt1285.2.2.2.2.2.2 a1).bind fun bt1297 => ((laws_eqCell.f k bt1297.1 bt1297.2.1 bt1297.2.2.1 bt1297.2.2.2.1 bt1297.2.2.2.2.1 bt1297.2.2.2.2.2.1 bt1297.2.2.2.2.2.2.1 bt1272.1 bt1272.2.1 bt1272.2.2.1 bt1272.2.2.2.1 bt1272.2.2.2.2.1 bt1272.2.2.2.2.2.1 bt1272.2.2.2.2.2.2.1).bind fun t1310 => (if t1310 = true then (laws_FnExactUnwatch.j0 k a1 bt1272.2.2.2.2.2.2.2 bt1297.2.2.2.2.2.2.2 (bt1297.2.2.2.2.2.2.2 != bt1272.2.2.2.2.2.2.2) a0_0 a0_1 a0_2 a0_3 a0_4 l0_5 l0_6 bt1272.1 bt1272.2.1 bt1272.2.2.1 bt1272.2.2.2.1 bt1272.2.2.2.2.1 bt1272.2.2.2.2.2.1 bt1272.2.2.2.2.2.2.1 bt1285.1 bt1285.2.1 bt1285.2.2.1 bt1285.2.2.2.1 bt1285.2.2.2.2.1 bt1285.2.2.2.2.2.1 bt1285.2.2.2.2.2.2 bt1297.1 bt1297.2.1 bt1297.2.2.1 bt1297.2.2.2.1 bt1297.2.2.2.2.1 bt1297.2.2.2.2.2.1 bt1297.2.2.2.2.2.2.1) else (laws_FnExactUnwatch.j0 k a1 bt1272.2.2.2.2.2.2.2 bt1297.2.2.2.2.2.2.2 true a0_0 a0_1 a0_2 a0_3 a0_4 l0_5 l0_6 bt1272.1 bt1272.2.1 bt1272.2.2.1 bt1272.2.2.2.1 bt1272.2.2.2.2.1 bt1272.2.2.2.2.2.1 bt1272.2.2.2.2.2.2.1 bt1285.1 bt1285.2.1 bt1285.2.2.1 bt1285.2.2.2.1 bt1285.2.2.2.2.1 bt1285.2.2.2.2.2.1 bt1285.2.2.2.2.2.2 bt1297.1 bt1297.2.1 bt1297.2.2.1 bt1297.2.2.2.1 bt1297.2.2.2.2.1 bt1297.2.2.2.2.2.1 bt1297.2.2.2.2.2.2.1)))))) = some r := H
  have A8 := am A80
  clear A80
  replace H := Option.bind_eq_some_iff.mp H
  obtain ⟨⟨t1272, t1273, t1274, t1275, t1276, t1277, t1280, t1283⟩, A90, H⟩ := H
  replace H : ((laws_toCell.f k a0_0 a0_1 a0_2 a0_3 a0_4 l0_5 l0_6).bind fun bt1285 => ((impl_Unwatch.f k bt1285.1 bt1285.2.1 bt1285.2.2.1 bt1285.2.2.2.1 bt1285.2.2.2.2.1 bt1285.2.2.2.2.2.1 bt1285.2.2.2.2.2.2 a1).bind fun bt1297 => ((laws_eqCell.f k bt1297.1 bt1297.2.1 bt1297.2.2.1 bt1297.2.2.2.1 bt1297.2.2.2.2.1 bt1297.2.2.2.2.2.1 bt1297.2.2.2.2.2.2.1 t1272 t1273 t1274 t1275 t1276 t1277 t1280).bind fun t1310 => (if t1310 = true then (laws_FnExactUnwatch.j0 k a1 t1283 bt1297.2.2.2.2.2.2.2 (bt1297.2.2.2.2.2.2.2 != t1283) a0_0 a0_1 a0_2 a0_3 a0_4 l0_5 l0_6 t1272 t1273 t1274 t1275 t1276 t1277 t1280 bt1285.1 bt1285.2.1 bt1285.2.2.1 bt1285.2.2.2.1 bt1285.2.2.2.2.1 bt1285.2.2.2.2.2.1 bt1285.2.2.2.2.2.2 bt1297.1 bt1297.2.1 bt1297.2.2.1 bt1297.2.2.2.1 bt1297.2.2.2.2.1 bt1297.2.2.2.2.2.1 bt1297.2.2.2.2.2.2.1) else (laws_FnExactUnwatch.j0 k a1 t1283 bt1297.2.2.2.2.2.2.2 true a0_0 a0_1 a0_2 a0_3 a0_4 l0_5 l0_6 t1272 t1273 t1274 t1275 t1276 t1277 t1280 bt1285.1 bt1285.2.1 bt1285.2.2.1 bt1285.2.2.2.1 bt1285.2.2.2.2.1 bt1285.2.2.2.2.2.1 bt1285.2.2.2.2.2.2 bt1297.1 bt1297.2.1 bt1297.2.2.1 bt1297.2.2.2.1 bt1297.2.2.2.2.1 bt1297.2.2.2.2.2.1 bt1297.2.2.2.2.2.2.1))))) = some r := H
  have A9 := am A90
  clear A90
  replace H := Option.bind_eq_some_iff.mp H
  obtain ⟨⟨t1285, t1286, t1287, t1288, t1289, t1290, t1293⟩, A100, H⟩ := H
  replace H : ((impl_Unwatch.f k t1285 t1286 t1287 t1288 t1289 t1290 t1293 a1).bind fun bt1297 => ((laws_eqCell.f k bt1297.1 bt1297.2.1 bt1297.2.2.1 bt1297.2.2.2.1 bt1297.2.2.2.2.1 bt1297.2.2.2.2.2.1 bt1297.2.2.2.2.2.2.1 t1272 t1273 t1274 t1275 t1276 t1277 t1280).bind fun t1310 => (if t1310 = true then (laws_FnExactUnwatch.j0 k a1 t1283 bt1297.2.2.2.2.2.2.2 (bt1297.2.2.2.2.2.2.2 != t1283) a0_0 a0_1 a0_2 a0_3 a0_4 l0_5 l0_6 t1272 t1273 t1274 t1275 t1276 t1277 t1280 t1285 t1286 t1287 t1288 t1289 t1290 t1293 bt1297.1 bt1297.2.1 bt1297.2.2.1 bt1297.2.2.2.1 bt1297.2.2.2.2.1 bt1297.2.2.2.2.2.1 bt1297.2.2.2.2.2.2.1) else (laws_FnExactUnwatch.j0 k a1 t1283 bt1297.2.2.2.2.2.2.2 true a0_0 a0_1 a0_2 a0_3 a0_4 l0_5 l0_6 t1272 t1273 t1274 t1275 t1276 t1277 t1280 t1285 t1286 t1287 t1288 t1289 t1290 t1293 bt1297.1 bt1297.2.1 bt1297.2.2.1 bt1297.2.2.2.1 bt1297.2.2.2.2.1 bt1297.2.2.2.2.2.1 bt1297.2.2.2.2.2.2.1)))) = some r := H
  have A10 := am A100
  clear A100
  replace H := Option.bind_eq_some_iff.mp H
  obtain ⟨⟨t1297, t1298, t1299, t1300, t1301, t1302, t1305, t1308⟩, A110, H⟩ := H
  replace H : ((laws_eqCell.f k t1297 t1298 t1299 t1300 t1301 t1302 t1305 t1272 t1273 t1274 t1275 t1276 t1277 t1280).bind fun t1310 => (if t1310 = true then (laws_FnExactUnwatch.j0 k a1 t1283 t1308 (t1308 != t1283) a0_0 a0_1 a0_2 a0_3 a0_4 l0_5 l0_6 t1272 t1273 t1274 t1275 t1276 t1277 t1280 t1285 t1286 t1287 t1288 t1289 t1290 t1293 t1297 t1298 t1299 t1300 t1301 t1302 t1305) else (laws_FnExactUnwatch.j0 k a1 t1283 t1308 true a0_0 a0_1 a0_2 a0_3 a0_4 l0_5 l0_6 t1272 t1273 t1274 t1275 t1276 t1277 t1280 t1285 t1286 t1287 t1288 t1289 t1290 t1293 t1297 t1298 t1299 t1300 t1301 t1302 t1305))) = some r := H
  have A11 := am A110
  clear A110
  have HC12 := am H
  clear H
  go_enter Try.func13, Try.ntmps13
  go_upto_region 8 with (first | ((with_reducible refine gate_dst (N := 2) rfl ?_); refine box_event ?hg (N := 2) ?hd (cs := #[.int .i64 a0_0, .int .i64 a0_1, .string a0_2, .int .i64 a0_3, .bool a0_4, .slice A0_5 l0_5.length c0_5, .slice A0_6 l0_6.length c0_6]) (t := 56) ?hr ?_; (case hd => rfl); (case hg => rfl); (case hr => first | (go_simp; done) | (go_simp; rfl)); intro gb1259 hg w13 hbox hb; have BK1259 := am (hbox); have GW1259 := am ((by rw [hg]; exact (below_size (pkB HB.out)) : w.heap.size ≤ gb1259)); have GE1259 := am ((by rw [hg]; exact (below_size (pkB HB.out)) : w.heap.size ≤ gb1259)); replace HB := am (below_step (pkB HB.out) hb); clear hb hbox hg; obtain ⟨hcz14_0, hcz14_1, hcz14_2, hcz14_3, hcz14_4, hcz14_5, hcz14_6, hfz14_0, hfz14_1, hfz14_2, hfz14_3, hfz14_4, hfz14_5, hfz14_6⟩ := bk7 BK1259.out) | ((with_reducible refine gate_callee (f := 31) rfl ?_); refine goesL_ (some 18) rfl rfl Try.func31 (by kernel_rfl) rfl #[.agg #[.int .i64 a0_0, .int .i64 a0_1, .string a0_2, .int .i64 a0_3, .bool a0_4, .slice A0_5 l0_5.length c0_5, .slice A0_6 l0_6.length c0_6], .int .i64 1048576] rfl mpx ?_; (with_reducible refine (laws_szCell.calls a0_0 a0_1 a0_2 a0_3 a0_4 _ _ l0_5 _ _ l0_6 1048576 t1260 _ ?side1 ?side2 ?side3 ?side4 A3.out).mono ?_); (case side1 => exact pkC (Kd.C_below HR0_5.out HB.out)); (case side2 => exact HC0_5.out); (case side3 => exact pkC (Kd.C_below HR0_6.out HB.out)); (case side4 => exact HC0_6.out); rintro e w15 ⟨rfl, hb⟩; refine ⟨_, rfl, ?_⟩; replace BK1259 := am (blk_below (pkK BK1259.out) hb); replace HB := am (below_step (pkW HB.out) hb); (try clear hb); obtain ⟨hcz16_0, hcz16_1, hcz16_2, hcz16_3, hcz16_4, hcz16_5, hcz16_6, hfz16_0, hfz16_1, hfz16_2, hfz16_3, hfz16_4, hfz16_5, hfz16_6⟩ := bk7 BK1259.out) | ((with_reducible refine gate_callee (f := 32) rfl ?_); refine goesL_ (some 23) rfl rfl Try.func32 (by kernel_rfl) rfl #[.agg #[.int .i64 a0_0, .int .i64 a0_1, .string a0_2, .int .i64 a0_3, .bool a0_4, .slice A0_5 l0_5.length c0_5, .slice A0_6 l0_6.length c0_6]] rfl mpx ?_; (with_reducible refine (laws_toCell.calls k a0_0 a0_1 a0_2 a0_3 a0_4 _ _ l0_5 _ _ l0_6 t1261 t1262 t1263 t1264 t1265 t1266 t1269 _ ?side1 ?side2 ?side3 ?side4 A8.out).mono ?_); (case side1 => exact pkC (Kd.C_below HR0_5.out HB.out)); (case side2 => exact HC0_5.out); (case side3 => exact pkC (Kd.C_below HR0_6.out HB.out)); (case side4 => exact HC0_6.out); rintro e w17 ⟨v1267, v1270, rfl, ho0, ho1, hb⟩; refine ⟨_, rfl, ?_⟩; have HO1268 := am (Kd.R_lower ho0 (below_size (pkW HB.out))); have HO1271 := am (Kd.R_lower ho1 (below_size (pkW HB.out))); replace BK1259 := am (blk_below (pkK BK1259.out) hb); replace HB := am (below_step (pkW HB.out) hb); (try clear hb ho0 ho1); obtain ⟨Ao18, co18, eo18⟩ := Kd.R_slice HO1268.out; subst eo18; obtain ⟨Ao19, co19, eo19⟩ := Kd.R_slice HO1271.out; subst eo19) | ((with_reducible refine gate_callee (f := 50) rfl ?_); refine goesL_ (some 25) rfl rfl Try.func50 (by kernel_rfl) rfl #[.agg #[.int .i64 t1261, .int .i64 t1262, .string t1263, .int .i64 t1264, .bool t1265, .slice Ao18 t1266.length co18, .slice Ao19 t1269.length co19], .int .i64 a1] rfl mpx ?_; (with_reducible refine (spec_Unwatch.calls k t1261 t1262 t1263 t1264 t1265 _ _ t1266 _ _ t1269 a1 t1272 t1273 t1274 t1275 t1276 t1277 t1280 t1283 _ ?side1 ?side2 ?side3 ?side4 A9.out).mono ?_); (case side1 => exact pkC (Kd.R_reads' HO1268.out).2.2); (case side2 => exact (Kd.R_reads' HO1268.out).2.1); (case side3 => exact pkC (Kd.R_reads' HO1271.out).2.2); (case side4 => exact (Kd.R_reads' HO1271.out).2.1); rintro e w20 ⟨v1278, v1281, rfl, ho0, ho1, hb⟩; refine ⟨_, rfl, ?_⟩; have HO1279 := am (Kd.R_lower (Kd.R_new' (Kd.R_new' ho0 (Kd.R_lt (pkR HO1268.out))) (Kd.R_lt (pkR HO1271.out))) (below_size (pkW HB.out))); have HO1282 := am (Kd.R_lower (Kd.R_new' (Kd.R_new' ho1 (Kd.R_lt (pkR HO1268.out))) (Kd.R_lt (pkR HO1271.out))) (below_size (pkW HB.out))); replace HO1268 := am (Kd.R_mono (Kd.R_told (Kd.R_told (Kd.R_old (pkR HO1268.out) hb) (Kd.R_base ho0)) (Kd.R_base ho1)) (fun _ h_ => h_.1)); replace HO1271 := am (Kd.R_mono (Kd.R_told (Kd.R_told (Kd.R_old (pkR HO1271.out) hb) (Kd.R_base ho0)) (Kd.R_base ho1)) (fun _ h_ => h_.1)); replace BK1259 := am (blk_below (pkK BK1259.out) hb); replace HB := am (below_step (pkW HB.out) hb); (try clear hb ho0 ho1)) | ((with_reducible refine gate_dst (N := 6) rfl ?_); refine box_event ?hg (N := 6) ?hd (cs := #[.int .i64 0, .int .i64 0, .string (⟨#[]⟩ : ByteArray), .int .i64 0, .bool false, .slice none 0 0, .slice none 0 0]) (t := 29) ?hr ?_; (case hd => rfl); (case hg => rfl); (case hr => first | (go_simp; done) | (go_simp; rfl)); intro gb1284 hg w21 hbox hb; replace HO1268 := am (Kd.R_below (pkR HO1268.out) hb); replace HO1271 := am (Kd.R_below (pkR HO1271.out) hb); replace HO1279 := am (Kd.R_below (pkR HO1279.out) hb); replace HO1282 := am (Kd.R_below (pkR HO1282.out) hb); have BK1284 := am (hbox); have GW1284 := am ((by rw [hg]; exact (below_size (pkW HB.out)) : w.heap.size ≤ gb1284)); have GE1284 := am ((by rw [hg]; exact (below_size (pkW HB.out)) : w.heap.size ≤ gb1284)); replace HB := am (below_step (pkW HB.out) hb); have NB1259_1284 := am ((by rw [hg]; exact Nat.ne_of_lt (blk_lt (g := gb1259) (o := .cells #[.int .i64 a0_0, .int .i64 a0_1, .string a0_2, .int .i64 a0_3, .bool a0_4, .slice A0_5 l0_5.length c0_5, .slice A0_6 l0_6.length c0_6] 56 (0, 0)) (pkK BK1259.out)) : gb1259 ≠ gb1284)); have NB1284_1259 := am ((by rw [hg]; exact Nat.ne_of_gt (blk_lt (g := gb1259) (o := .cells #[.int .i64 a0_0, .int .i64 a0_1, .string a0_2, .int .i64 a0_3, .bool a0_4, .slice A0_5 l0_5.length c0_5, .slice A0_6 l0_6.length c0_6] 56 (0, 0)) (pkK BK1259.out)) : gb1284 ≠ gb1259)); replace BK1259 := am (blk_below (pkK BK1259.out) hb); clear hb hbox hg; have hnb22 := NB1284_1259.out; have hnc22 := NB1259_1284.out; obtain ⟨hcz23_0, hcz23_1, hcz23_2, hcz23_3, hcz23_4, hcz23_5, hcz23_6, hfz23_0, hfz23_1, hfz23_2, hfz23_3, hfz23_4, hfz23_5, hfz23_6⟩ := bk7 BK1284.out; obtain ⟨Ao24, co24, eo24⟩ := Kd.R_slice HO1279.out; subst eo24; obtain ⟨Ao25, co25, eo25⟩ := Kd.R_slice HO1282.out; subst eo25; obtain ⟨hcz26_0, hcz26_1, hcz26_2, hcz26_3, hcz26_4, hcz26_5, hcz26_6, hfz26_0, hfz26_1, hfz26_2, hfz26_3, hfz26_4, hfz26_5, hfz26_6⟩ := bk7 BK1259.out) | ((with_reducible refine gate_callee (f := 32) rfl ?_); refine goesL_ (some 29) rfl rfl Try.func32 (by kernel_rfl) rfl #[.agg #[.int .i64 a0_0, .int .i64 a0_1, .string a0_2, .int .i64 a0_3, .bool a0_4, .slice A0_5 l0_5.length c0_5, .slice A0_6 l0_6.length c0_6]] rfl mpx ?_; (with_reducible refine (laws_toCell.calls k a0_0 a0_1 a0_2 a0_3 a0_4 _ _ l0_5 _ _ l0_6 t1285 t1286 t1287 t1288 t1289 t1290 t1293 _ ?side1 ?side2 ?side3 ?side4 A10.out).mono ?_); (case side1 => exact Kd.C_below HR0_5.out (pkW HB.out)); (case side2 => exact HC0_5.out); (case side3 => exact Kd.C_below HR0_6.out (pkW HB.out)); (case side4 => exact HC0_6.out); rintro e w27 ⟨v1291, v1294, rfl, ho0, ho1, hb⟩; refine ⟨_, rfl, ?_⟩; have HO1292 := am (Kd.R_lower (Kd.R_new' (Kd.R_new' (Kd.R_new' (Kd.R_new' ho0 (Kd.R_lt (by (with_reducible repeat (first | apply Kd.R_alloc | apply Kd.R_drewN | apply Kd.R_drew)); exact (Kd.R_mono (Kd.R_far (p := ⟨gb1284, 6, none⟩) (Kd.R_far (p := ⟨gb1284, 5, none⟩) (Kd.R_far (p := ⟨gb1284, 4, none⟩) (Kd.R_far (p := ⟨gb1284, 3, none⟩) (Kd.R_far (p := ⟨gb1284, 2, none⟩) (Kd.R_far (p := ⟨gb1284, 1, none⟩) (Kd.R_far (p := ⟨gb1284, 0, none⟩) (Kd.R_types HO1268.out BK1284.out (by decide)) (fun _ hk => hk.2) (.int .i64 t1272)) (fun _ hk => hk.2) (.int .i64 t1273)) (fun _ hk => hk.2) (.string t1274)) (fun _ hk => hk.2) (.int .i64 t1275)) (fun _ hk => hk.2) (.bool t1276)) (fun _ hk => hk.2) (.slice Ao24 t1277.length co24)) (fun _ hk => hk.2) (.slice Ao25 t1280.length co25)) (fun _ h_ => h_.1))))) (Kd.R_lt (by (with_reducible repeat (first | apply Kd.R_alloc | apply Kd.R_drewN | apply Kd.R_drew)); exact (Kd.R_mono (Kd.R_far (p := ⟨gb1284, 6, none⟩) (Kd.R_far (p := ⟨gb1284, 5, none⟩) (Kd.R_far (p := ⟨gb1284, 4, none⟩) (Kd.R_far (p := ⟨gb1284, 3, none⟩) (Kd.R_far (p := ⟨gb1284, 2, none⟩) (Kd.R_far (p := ⟨gb1284, 1, none⟩) (Kd.R_far (p := ⟨gb1284, 0, none⟩) (Kd.R_types HO1271.out BK1284.out (by decide)) (fun _ hk => hk.2) (.int .i64 t1272)) (fun _ hk => hk.2) (.int .i64 t1273)) (fun _ hk => hk.2) (.string t1274)) (fun _ hk => hk.2) (.int .i64 t1275)) (fun _ hk => hk.2) (.bool t1276)) (fun _ hk => hk.2) (.slice Ao24 t1277.length co24)) (fun _ hk => hk.2) (.slice Ao25 t1280.length co25)) (fun _ h_ => h_.1))))) (Kd.R_lt (by (with_reducible repeat (first | apply Kd.R_alloc | apply Kd.R_drewN | apply Kd.R_drew)); exact (Kd.R_mono (Kd.R_far (p := ⟨gb1284, 6, none⟩) (Kd.R_far (p := ⟨gb1284, 5, none⟩) (Kd.R_far (p := ⟨gb1284, 4, none⟩) (Kd.R_far (p := ⟨gb1284, 3, none⟩) (Kd.R_far (p := ⟨gb1284, 2, none⟩) (Kd.R_far (p := ⟨gb1284, 1, none⟩) (Kd.R_far (p := ⟨gb1284, 0, none⟩) (Kd.R_types HO1279.out BK1284.out (by decide)) (fun _ hk => hk.2) (.int .i64 t1272)) (fun _ hk => hk.2) (.int .i64 t1273)) (fun _ hk => hk.2) (.string t1274)) (fun _ hk => hk.2) (.int .i64 t1275)) (fun _ hk => hk.2) (.bool t1276)) (fun _ hk => hk.2) (.slice Ao24 t1277.length co24)) (fun _ hk => hk.2) (.slice Ao25 t1280.length co25)) (fun _ h_ => h_.1))))) (Kd.R_lt (by (with_reducible repeat (first | apply Kd.R_alloc | apply Kd.R_drewN | apply Kd.R_drew)); exact (Kd.R_mono (Kd.R_far (p := ⟨gb1284, 6, none⟩) (Kd.R_far (p := ⟨gb1284, 5, none⟩) (Kd.R_far (p := ⟨gb1284, 4, none⟩) (Kd.R_far (p := ⟨gb1284, 3, none⟩) (Kd.R_far (p := ⟨gb1284, 2, none⟩) (Kd.R_far (p := ⟨gb1284, 1, none⟩) (Kd.R_far (p := ⟨gb1284, 0, none⟩) (Kd.R_types HO1282.out BK1284.out (by decide)) (fun _ hk => hk.2) (.int .i64 t1272)) (fun _ hk => hk.2) (.int .i64 t1273)) (fun _ hk => hk.2) (.string t1274)) (fun _ hk => hk.2) (.int .i64 t1275)) (fun _ hk => hk.2) (.bool t1276)) (fun _ hk => hk.2) (.slice Ao24 t1277.length co24)) (fun _ hk => hk.2) (.slice Ao25 t1280.length co25)) (fun _ h_ => h_.1))))) (below_size (pkW HB.out))); have HO1295 := am (Kd.R_lower (Kd.R_new' (Kd.R_new' (Kd.R_new' (Kd.R_new' ho1 (Kd.R_lt (by (with_reducible repeat (first | apply Kd.R_alloc | apply Kd.R_drewN | apply Kd.R_drew)); exact (Kd.R_mono (Kd.R_far (p := ⟨gb1284, 6, none⟩) (Kd.R_far (p := ⟨gb1284, 5, none⟩) (Kd.R_far (p := ⟨gb1284, 4, none⟩) (Kd.R_far (p := ⟨gb1284, 3, none⟩) (Kd.R_far (p := ⟨gb1284, 2, none⟩) (Kd.R_far (p := ⟨gb1284, 1, none⟩) (Kd.R_far (p := ⟨gb1284, 0, none⟩) (Kd.R_types HO1268.out BK1284.out (by decide)) (fun _ hk => hk.2) (.int .i64 t1272)) (fun _ hk => hk.2) (.int .i64 t1273)) (fun _ hk => hk.2) (.string t1274)) (fun _ hk => hk.2) (.int .i64 t1275)) (fun _ hk => hk.2) (.bool t1276)) (fun _ hk => hk.2) (.slice Ao24 t1277.length co24)) (fun _ hk => hk.2) (.slice Ao25 t1280.length co25)) (fun _ h_ => h_.1))))) (Kd.R_lt (by (with_reducible repeat (first | apply Kd.R_alloc | apply Kd.R_drewN | apply Kd.R_drew)); exact (Kd.R_mono (Kd.R_far (p := ⟨gb1284, 6, none⟩) (Kd.R_far (p := ⟨gb1284, 5, none⟩) (Kd.R_far (p := ⟨gb1284, 4, none⟩) (Kd.R_far (p := ⟨gb1284, 3, none⟩) (Kd.R_far (p := ⟨gb1284, 2, none⟩) (Kd.R_far (p := ⟨gb1284, 1, none⟩) (Kd.R_far (p := ⟨gb1284, 0, none⟩) (Kd.R_types HO1271.out BK1284.out (by decide)) (fun _ hk => hk.2) (.int .i64 t1272)) (fun _ hk => hk.2) (.int .i64 t1273)) (fun _ hk => hk.2) (.string t1274)) (fun _ hk => hk.2) (.int .i64 t1275)) (fun _ hk => hk.2) (.bool t1276)) (fun _ hk => hk.2) (.slice Ao24 t1277.length co24)) (fun _ hk => hk.2) (.slice Ao25 t1280.length co25)) (fun _ h_ => h_.1))))) (Kd.R_lt (by (with_reducible repeat (first | apply Kd.R_alloc | apply Kd.R_drewN | apply Kd.R_drew)); exact (Kd.R_mono (Kd.R_far (p := ⟨gb1284, 6, none⟩) (Kd.R_far (p := ⟨gb1284, 5, none⟩) (Kd.R_far (p := ⟨gb1284, 4, none⟩) (Kd.R_far (p := ⟨gb1284, 3, none⟩) (Kd.R_far (p := ⟨gb1284, 2, none⟩) (Kd.R_far (p := ⟨gb1284, 1, none⟩) (Kd.R_far (p := ⟨gb1284, 0, none⟩) (Kd.R_types HO1279.out BK1284.out (by decide)) (fun _ hk => hk.2) (.int .i64 t1272)) (fun _ hk => hk.2) (.int .i64 t1273)) (fun _ hk => hk.2) (.string t1274)) (fun _ hk => hk.2) (.int .i64 t1275)) (fun _ hk => hk.2) (.bool t1276)) (fun _ hk => hk.2) (.slice Ao24 t1277.length co24)) (fun _ hk => hk.2) (.slice Ao25 t1280.length co25)) (fun _ h_ => h_.1))))) (Kd.R_lt (by (with_reducible repeat (first | apply Kd.R_alloc | apply Kd.R_drewN | apply Kd.R_drew)); exact (Kd.R_mono (Kd.R_far (p := ⟨gb1284, 6, none⟩) (Kd.R_far (p := ⟨gb1284, 5, none⟩) (Kd.R_far (p := ⟨gb1284, 4, none⟩) (Kd.R_far (p := ⟨gb1284, 3, none⟩) (Kd.R_far (p := ⟨gb1284, 2, none⟩) (Kd.R_far (p := ⟨gb1284, 1, none⟩) (Kd.R_far (p := ⟨gb1284, 0, none⟩) (Kd.R_types HO1282.out BK1284.out (by decide)) (fun _ hk => hk.2) (.int .i64 t1272)) (fun _ hk => hk.2) (.int .i64 t1273)) (fun _ hk => hk.2) (.string t1274)) (fun _ hk => hk.2) (.int .i64 t1275)) (fun _ hk => hk.2) (.bool t1276)) (fun _ hk => hk.2) (.slice Ao24 t1277.length co24)) (fun _ hk => hk.2) (.slice Ao25 t1280.length co25)) (fun _ h_ => h_.1))))) (below_size (pkW HB.out))); replace HO1268 := am (Kd.R_mono (Kd.R_told (Kd.R_told (Kd.R_old (by (with_reducible repeat (first | apply Kd.R_alloc | apply Kd.R_drewN | apply Kd.R_drew)); exact (Kd.R_mono (Kd.R_far (p := ⟨gb1284, 6, none⟩) (Kd.R_far (p := ⟨gb1284, 5, none⟩) (Kd.R_far (p := ⟨gb1284, 4, none⟩) (Kd.R_far (p := ⟨gb1284, 3, none⟩) (Kd.R_far (p := ⟨gb1284, 2, none⟩) (Kd.R_far (p := ⟨gb1284, 1, none⟩) (Kd.R_far (p := ⟨gb1284, 0, none⟩) (Kd.R_types HO1268.out BK1284.out (by decide)) (fun _ hk => hk.2) (.int .i64 t1272)) (fun _ hk => hk.2) (.int .i64 t1273)) (fun _ hk => hk.2) (.string t1274)) (fun _ hk => hk.2) (.int .i64 t1275)) (fun _ hk => hk.2) (.bool t1276)) (fun _ hk => hk.2) (.slice Ao24 t1277.length co24)) (fun _ hk => hk.2) (.slice Ao25 t1280.length co25)) (fun _ h_ => h_.1))) hb) (Kd.R_base ho0)) (Kd.R_base ho1)) (fun _ h_ => h_.1)); replace HO1271 := am (Kd.R_mono (Kd.R_told (Kd.R_told (Kd.R_old (by (with_reducible repeat (first | apply Kd.R_alloc | apply Kd.R_drewN | apply Kd.R_drew)); exact (Kd.R_mono (Kd.R_far (p := ⟨gb1284, 6, none⟩) (Kd.R_far (p := ⟨gb1284, 5, none⟩) (Kd.R_far (p := ⟨gb1284, 4, none⟩) (Kd.R_far (p := ⟨gb1284, 3, none⟩) (Kd.R_far (p := ⟨gb1284, 2, none⟩) (Kd.R_far (p := ⟨gb1284, 1, none⟩) (Kd.R_far (p := ⟨gb1284, 0, none⟩) (Kd.R_types HO1271.out BK1284.out (by decide)) (fun _ hk => hk.2) (.int .i64 t1272)) (fun _ hk => hk.2) (.int .i64 t1273)) (fun _ hk => hk.2) (.string t1274)) (fun _ hk => hk.2) (.int .i64 t1275)) (fun _ hk => hk.2) (.bool t1276)) (fun _ hk => hk.2) (.slice Ao24 t1277.length co24)) (fun _ hk => hk.2) (.slice Ao25 t1280.length co25)) (fun _ h_ => h_.1))) hb) (Kd.R_base ho0)) (Kd.R_base ho1)) (fun _ h_ => h_.1)); replace HO1279 := am (Kd.R_mono (Kd.R_told (Kd.R_told (Kd.R_old (by (with_reducible repeat (first | apply Kd.R_alloc | apply Kd.R_drewN | apply Kd.R_drew)); exact (Kd.R_mono (Kd.R_far (p := ⟨gb1284, 6, none⟩) (Kd.R_far (p := ⟨gb1284, 5, none⟩) (Kd.R_far (p := ⟨gb1284, 4, none⟩) (Kd.R_far (p := ⟨gb1284, 3, none⟩) (Kd.R_far (p := ⟨gb1284, 2, none⟩) (Kd.R_far (p := ⟨gb1284, 1, none⟩) (Kd.R_far (p := ⟨gb1284, 0, none⟩) (Kd.R_types HO1279.out BK1284.out (by decide)) (fun _ hk => hk.2) (.int .i64 t1272)) (fun _ hk => hk.2) (.int .i64 t1273)) (fun _ hk => hk.2) (.string t1274)) (fun _ hk => hk.2) (.int .i64 t1275)) (fun _ hk => hk.2) (.bool t1276)) (fun _ hk => hk.2) (.slice Ao24 t1277.length co24)) (fun _ hk => hk.2) (.slice Ao25 t1280.length co25)) (fun _ h_ => h_.1))) hb) (Kd.R_base ho0)) (Kd.R_base ho1)) (fun _ h_ => h_.1)); replace HO1282 := am (Kd.R_mono (Kd.R_told (Kd.R_told (Kd.R_old (by (with_reducible repeat (first | apply Kd.R_alloc | apply Kd.R_drewN | apply Kd.R_drew)); exact (Kd.R_mono (Kd.R_far (p := ⟨gb1284, 6, none⟩) (Kd.R_far (p := ⟨gb1284, 5, none⟩) (Kd.R_far (p := ⟨gb1284, 4, none⟩) (Kd.R_far (p := ⟨gb1284, 3, none⟩) (Kd.R_far (p := ⟨gb1284, 2, none⟩) (Kd.R_far (p := ⟨gb1284, 1, none⟩) (Kd.R_far (p := ⟨gb1284, 0, none⟩) (Kd.R_types HO1282.out BK1284.out (by decide)) (fun _ hk => hk.2) (.int .i64 t1272)) (fun _ hk => hk.2) (.int .i64 t1273)) (fun _ hk => hk.2) (.string t1274)) (fun _ hk => hk.2) (.int .i64 t1275)) (fun _ hk => hk.2) (.bool t1276)) (fun _ hk => hk.2) (.slice Ao24 t1277.length co24)) (fun _ hk => hk.2) (.slice Ao25 t1280.length co25)) (fun _ h_ => h_.1))) hb) (Kd.R_base ho0)) (Kd.R_base ho1)) (fun _ h_ => h_.1)); replace BK1259 := am (blk_below (g := gb1259) (o := .cells #[.int .i64 a0_0, .int .i64 a0_1, .string a0_2, .int .i64 a0_3, .bool a0_4, .slice A0_5 l0_5.length c0_5, .slice A0_6 l0_6.length c0_6] 56 (0, 0)) (by (with_reducible repeat (first | refine blk_drewN ?_ _ | refine blk_drew ?_ | refine blk_alloc ?_ _)); refine blk_far ?_ NB1259_1284.out _; (with_reducible repeat (first | refine blk_drewN ?_ _ | refine blk_drew ?_ | refine blk_alloc ?_ _)); refine blk_far ?_ NB1259_1284.out _; (with_reducible repeat (first | refine blk_drewN ?_ _ | refine blk_drew ?_ | refine blk_alloc ?_ _)); refine blk_far ?_ NB1259_1284.out _; (with_reducible repeat (first | refine blk_drewN ?_ _ | refine blk_drew ?_ | refine blk_alloc ?_ _)); refine blk_far ?_ NB1259_1284.out _; (with_reducible repeat (first | refine blk_drewN ?_ _ | refine blk_drew ?_ | refine blk_alloc ?_ _)); refine blk_far ?_ NB1259_1284.out _; (with_reducible repeat (first | refine blk_drewN ?_ _ | refine blk_drew ?_ | refine blk_alloc ?_ _)); refine blk_far ?_ NB1259_1284.out _; (with_reducible repeat (first | refine blk_drewN ?_ _ | refine blk_drew ?_ | refine blk_alloc ?_ _)); refine blk_far ?_ NB1259_1284.out _; exact pkK BK1259.out) hb); replace BK1284 := am (blk_below (g := gb1284) (o := .cells #[.int .i64 t1272, .int .i64 t1273, .string t1274, .int .i64 t1275, .bool t1276, .slice Ao24 t1277.length co24, .slice Ao25 t1280.length co25] 29 (0, 0)) (by (with_reducible repeat (first | refine blk_drewN ?_ _ | refine blk_drew ?_ | refine blk_alloc ?_ _)); refine blk_put (cs := #[.int .i64 t1272, .int .i64 t1273, .string t1274, .int .i64 t1275, .bool t1276, .slice Ao24 t1277.length co24, .slice none 0 0]) ?_ 6 _ rfl; (with_reducible repeat (first | refine blk_drewN ?_ _ | refine blk_drew ?_ | refine blk_alloc ?_ _)); refine blk_put (cs := #[.int .i64 t1272, .int .i64 t1273, .string t1274, .int .i64 t1275, .bool t1276, .slice none 0 0, .slice none 0 0]) ?_ 5 _ rfl; (with_reducible repeat (first | refine blk_drewN ?_ _ | refine blk_drew ?_ | refine blk_alloc ?_ _)); refine blk_put (cs := #[.int .i64 t1272, .int .i64 t1273, .string t1274, .int .i64 t1275, .bool false, .slice none 0 0, .slice none 0 0]) ?_ 4 _ rfl; (with_reducible repeat (first | refine blk_drewN ?_ _ | refine blk_drew ?_ | refine blk_alloc ?_ _)); refine blk_put (cs := #[.int .i64 t1272, .int .i64 t1273, .string t1274, .int .i64 0, .bool false, .slice none 0 0, .slice none 0 0]) ?_ 3 _ rfl; (with_reducible repeat (first | refine blk_drewN ?_ _ | refine blk_drew ?_ | refine blk_alloc ?_ _)); refine blk_put (cs := #[.int .i64 t1272, .int .i64 t1273, .string (⟨#[]⟩ : ByteArray), .int .i64 0, .bool false, .slice none 0 0, .slice none 0 0]) ?_ 2 _ rfl; (with_reducible repeat (first | refine blk_drewN ?_ _ | refine blk_drew ?_ | refine blk_alloc ?_ _)); refine blk_put (cs := #[.int .i64 t1272, .int .i64 0, .string (⟨#[]⟩ : ByteArray), .int .i64 0, .bool false, .slice none 0 0, .slice none 0 0]) ?_ 1 _ rfl; (with_reducible repeat (first | refine blk_drewN ?_ _ | refine blk_drew ?_ | refine blk_alloc ?_ _)); refine blk_put (cs := #[.int .i64 0, .int .i64 0, .string (⟨#[]⟩ : ByteArray), .int .i64 0, .bool false, .slice none 0 0, .slice none 0 0]) ?_ 0 _ rfl; exact pkK BK1284.out) hb); replace HB := am (below_step (pkW HB.out) hb); (try clear hb ho0 ho1)) | ((with_reducible refine gate_dst (N := 8) rfl ?_); refine box_event ?hg (N := 8) ?hd (cs := #[.int .i64 0, .int .i64 0, .string (⟨#[]⟩ : ByteArray), .int .i64 0, .bool false, .slice none 0 0, .slice none 0 0]) (t := 29) ?hr ?_; (case hd => rfl); (case hg => rfl); (case hr => first | (go_simp; done) | (go_simp; rfl)); intro gb1296 hg w28 hbox hb; replace HO1268 := am (Kd.R_below (pkR HO1268.out) hb); replace HO1271 := am (Kd.R_below (pkR HO1271.out) hb); replace HO1279 := am (Kd.R_below (pkR HO1279.out) hb); replace HO1282 := am (Kd.R_below (pkR HO1282.out) hb); replace HO1292 := am (Kd.R_below (pkR HO1292.out) hb); replace HO1295 := am (Kd.R_below (pkR HO1295.out) hb); have BK1296 := am (hbox); have GW1296 := am ((by rw [hg]; exact (below_size (pkW HB.out)) : w.heap.size ≤ gb1296)); have GE1296 := am ((by rw [hg]; exact (below_size (pkW HB.out)) : w.heap.size ≤ gb1296)); replace HB := am (below_step (pkW HB.out) hb); have NB1259_1296 := am ((by rw [hg]; exact Nat.ne_of_lt (blk_lt (g := gb1259) (o := .cells #[.int .i64 a0_0, .int .i64 a0_1, .string a0_2, .int .i64 a0_3, .bool a0_4, .slice A0_5 l0_5.length c0_5, .slice A0_6 l0_6.length c0_6] 56 (0, 0)) (pkK BK1259.out)) : gb1259 ≠ gb1296)); have NB1296_1259 := am ((by rw [hg]; exact Nat.ne_of_gt (blk_lt (g := gb1259) (o := .cells #[.int .i64 a0_0, .int .i64 a0_1, .string a0_2, .int .i64 a0_3, .bool a0_4, .slice A0_5 l0_5.length c0_5, .slice A0_6 l0_6.length c0_6] 56 (0, 0)) (pkK BK1259.out)) : gb1296 ≠ gb1259)); replace BK1259 := am (blk_below (pkK BK1259.out) hb); have NB1284_1296 := am ((by rw [hg]; exact Nat.ne_of_lt (blk_lt (g := gb1284) (o := .cells #[.int .i64 t1272, .int .i64 t1273, .string t1274, .int .i64 t1275, .bool t1276, .slice Ao24 t1277.length co24, .slice Ao25 t1280.length co25] 29 (0, 0)) (pkK BK1284.out)) : gb1284 ≠ gb1296)); have NB1296_1284 := am ((by rw [hg]; exact Nat.ne_of_gt (blk_lt (g := gb1284) (o := .cells #[.int .i64 t1272, .int .i64 t1273, .string t1274, .int .i64 t1275, .bool t1276, .slice Ao24 t1277.length co24, .slice Ao25 t1280.length co25] 29 (0, 0)) (pkK BK1284.out)) : gb1296 ≠ gb1284)); replace BK1284 := am (blk_below (pkK BK1284.out) hb); clear hb hbox hg; have hnb29 := NB1296_1259.out; have hnc29 := NB1259_1296.out; have hnb30 := NB1296_1284.out; have hnc30 := NB1284_1296.out; obtain ⟨hcz31_0, hcz31_1, hcz31_2, hcz31_3, hcz31_4, hcz31_5, hcz31_6, hfz31_0, hfz31_1, hfz31_2, hfz31_3, hfz31_4, hfz31_5, hfz31_6⟩ := bk7 BK1296.out; obtain ⟨Ao32, co32, eo32⟩ := Kd.R_slice HO1292.out; subst eo32; obtain ⟨Ao33, co33, eo33⟩ := Kd.R_slice HO1295.out; subst eo33) | ((with_reducible refine gate_callee (f := 51) rfl ?_); refine goesL_ (some 33) rfl rfl Try.func51 (by kernel_rfl) rfl #[.agg #[.int .i64 t1285, .int .i64 t1286, .string t1287, .int .i64 t1288, .bool t1289, .slice Ao32 t1290.length co32, .slice Ao33 t1293.length co33], .int .i64 a1] rfl mpx ?_; (with_reducible refine (impl_Unwatch.calls k t1285 t1286 t1287 t1288 t1289 _ _ t1290 _ _ t1293 a1 t1297 t1298 t1299 t1300 t1301 t1302 t1305 t1308 _ ?side1 ?side2 ?side3 ?side4 A11.out).mono ?_); (case side1 => refine (Kd.R_reads' (e := 3) (base := w.heap.size) (ok := fun k_ => ((((some k_ ≠ (.slice Ao33 t1293.length co33 : Value).ownBlock ∧ some k_ ≠ (.slice Ao18 t1266.length co18 : Value).ownBlock) ∧ some k_ ≠ (.slice Ao19 t1269.length co19 : Value).ownBlock) ∧ some k_ ≠ (.slice Ao24 t1277.length co24 : Value).ownBlock) ∧ some k_ ≠ (.slice Ao25 t1280.length co25 : Value).ownBlock)) (n := t1290.length) (c := co32) ?_).2.2; exact (by (with_reducible repeat (first | apply Kd.R_alloc | apply Kd.R_drewN | apply Kd.R_drew)); exact (Kd.R_mono (Kd.R_far (p := ⟨gb1296, 6, none⟩) (Kd.R_far (p := ⟨gb1296, 5, none⟩) (Kd.R_far (p := ⟨gb1296, 4, none⟩) (Kd.R_far (p := ⟨gb1296, 3, none⟩) (Kd.R_far (p := ⟨gb1296, 2, none⟩) (Kd.R_far (p := ⟨gb1296, 1, none⟩) (Kd.R_far (p := ⟨gb1296, 0, none⟩) (Kd.R_types HO1292.out BK1296.out (by decide)) (fun _ hk => hk.2) (.int .i64 t1285)) (fun _ hk => hk.2) (.int .i64 t1286)) (fun _ hk => hk.2) (.string t1287)) (fun _ hk => hk.2) (.int .i64 t1288)) (fun _ hk => hk.2) (.bool t1289)) (fun _ hk => hk.2) (.slice Ao32 t1290.length co32)) (fun _ hk => hk.2) (.slice Ao33 t1293.length co33)) (fun _ h_ => h_.1)))); (case side2 => exact (Kd.R_reads' HO1292.out).2.1); (case side3 => refine (Kd.R_reads' (e := 3) (base := w.heap.size) (ok := fun k_ => ((((some k_ ≠ (.slice Ao32 t1290.length co32 : Value).ownBlock ∧ some k_ ≠ (.slice Ao18 t1266.length co18 : Value).ownBlock) ∧ some k_ ≠ (.slice Ao19 t1269.length co19 : Value).ownBlock) ∧ some k_ ≠ (.slice Ao24 t1277.length co24 : Value).ownBlock) ∧ some k_ ≠ (.slice Ao25 t1280.length co25 : Value).ownBlock)) (n := t1293.length) (c := co33) ?_).2.2; exact (by (with_reducible repeat (first | apply Kd.R_alloc | apply Kd.R_drewN | apply Kd.R_drew)); exact (Kd.R_mono (Kd.R_far (p := ⟨gb1296, 6, none⟩) (Kd.R_far (p := ⟨gb1296, 5, none⟩) (Kd.R_far (p := ⟨gb1296, 4, none⟩) (Kd.R_far (p := ⟨gb1296, 3, none⟩) (Kd.R_far (p := ⟨gb1296, 2, none⟩) (Kd.R_far (p := ⟨gb1296, 1, none⟩) (Kd.R_far (p := ⟨gb1296, 0, none⟩) (Kd.R_types HO1295.out BK1296.out (by decide)) (fun _ hk => hk.2) (.int .i64 t1285)) (fun _ hk => hk.2) (.int .i64 t1286)) (fun _ hk => hk.2) (.string t1287)) (fun _ hk => hk.2) (.int .i64 t1288)) (fun _ hk => hk.2) (.bool t1289)) (fun _ hk => hk.2) (.slice Ao32 t1290.length co32)) (fun _ hk => hk.2) (.slice Ao33 t1293.length co33)) (fun _ h_ => h_.1)))); (case side4 => exact (Kd.R_reads' HO1295.out).2.1); rintro e w34 ⟨v1303, v1306, rfl, ho0, ho1, hb⟩; refine ⟨_, rfl, ?_⟩; have HO1304 := am (Kd.R_lower (Kd.R_new' (Kd.R_new' (Kd.R_new' (Kd.R_new' (Kd.R_new' (Kd.R_new' ho0 (Kd.R_lt (by (with_reducible repeat (first | apply Kd.R_alloc | apply Kd.R_drewN | apply Kd.R_drew)); exact (Kd.R_mono (Kd.R_far (p := ⟨gb1296, 6, none⟩) (Kd.R_far (p := ⟨gb1296, 5, none⟩) (Kd.R_far (p := ⟨gb1296, 4, none⟩) (Kd.R_far (p := ⟨gb1296, 3, none⟩) (Kd.R_far (p := ⟨gb1296, 2, none⟩) (Kd.R_far (p := ⟨gb1296, 1, none⟩) (Kd.R_far (p := ⟨gb1296, 0, none⟩) (Kd.R_types HO1268.out BK1296.out (by decide)) (fun _ hk => hk.2) (.int .i64 t1285)) (fun _ hk => hk.2) (.int .i64 t1286)) (fun _ hk => hk.2) (.string t1287)) (fun _ hk => hk.2) (.int .i64 t1288)) (fun _ hk => hk.2) (.bool t1289)) (fun _ hk => hk.2) (.slice Ao32 t1290.length co32)) (fun _ hk => hk.2) (.slice Ao33 t1293.length co33)) (fun _ h_ => h_.1))))) (Kd.R_lt (by (with_reducible repeat (first | apply Kd.R_alloc | apply Kd.R_drewN | apply Kd.R_drew)); exact (Kd.R_mono (Kd.R_far (p := ⟨gb1296, 6, none⟩) (Kd.R_far (p := ⟨gb1296, 5, none⟩) (Kd.R_far (p := ⟨gb1296, 4, none⟩) (Kd.R_far (p := ⟨gb1296, 3, none⟩) (Kd.R_far (p := ⟨gb1296, 2, none⟩) (Kd.R_far (p := ⟨gb1296, 1, none⟩) (Kd.R_far (p := ⟨gb1296, 0, none⟩) (Kd.R_types HO1271.out BK1296.out (by decide)) (fun _ hk => hk.2) (.int .i64 t1285)) (fun _ hk => hk.2) (.int .i64 t1286)) (fun _ hk => hk.2) (.string t1287)) (fun _ hk => hk.2) (.int .i64 t1288)) (fun _ hk => hk.2) (.bool t1289)) (fun _ hk => hk.2) (.slice Ao32 t1290.length co32)) (fun _ hk => hk.2) (.slice Ao33 t1293.length co33)) (fun _ h_ => h_.1))))) (Kd.R_lt (by (with_reducible repeat (first | apply Kd.R_alloc | apply Kd.R_drewN | apply Kd.R_drew)); exact (Kd.R_mono (Kd.R_far (p := ⟨gb1296, 6, none⟩) (Kd.R_far (p := ⟨gb1296, 5, none⟩) (Kd.R_far (p := ⟨gb1296, 4, none⟩) (Kd.R_far (p := ⟨gb1296, 3, none⟩) (Kd.R_far (p := ⟨gb1296, 2, none⟩) (Kd.R_far (p := ⟨gb1296, 1, none⟩) (Kd.R_far (p := ⟨gb1296, 0, none⟩) (Kd.R_types HO1279.out BK1296.out (by decide)) (fun _ hk => hk.2) (.int .i64 t1285)) (fun _ hk => hk.2) (.int .i64 t1286)) (fun _ hk => hk.2) (.string t1287)) (fun _ hk => hk.2) (.int .i64 t1288)) (fun _ hk => hk.2) (.bool t1289)) (fun _ hk => hk.2) (.slice Ao32 t1290.length co32)) (fun _ hk => hk.2) (.slice Ao33 t1293.length co33)) (fun _ h_ => h_.1))))) (Kd.R_lt (by (with_reducible repeat (first | apply Kd.R_alloc | apply Kd.R_drewN | apply Kd.R_drew)); exact (Kd.R_mono (Kd.R_far (p := ⟨gb1296, 6, none⟩) (Kd.R_far (p := ⟨gb1296, 5, none⟩) (Kd.R_far (p := ⟨gb1296, 4, none⟩) (Kd.R_far (p := ⟨gb1296, 3, none⟩) (Kd.R_far (p := ⟨gb1296, 2, none⟩) (Kd.R_far (p := ⟨gb1296, 1, none⟩) (Kd.R_far (p := ⟨gb1296, 0, none⟩) (Kd.R_types HO1282.out BK1296.out (by decide)) (fun _ hk => hk.2) (.int .i64 t1285)) (fun _ hk => hk.2) (.int .i64 t1286)) (fun _ hk => hk.2) (.string t1287)) (fun _ hk => hk.2) (.int .i64 t1288)) (fun _ hk => hk.2) (.bool t1289)) (fun _ hk => hk.2) (.slice Ao32 t1290.length co32)) (fun _ hk => hk.2) (.slice Ao33 t1293.length co33)) (fun _ h_ => h_.1))))) (Kd.R_lt (by (with_reducible repeat (first | apply Kd.R_alloc | apply Kd.R_drewN | apply Kd.R_drew)); exact (Kd.R_mono (Kd.R_far (p := ⟨gb1296, 6, none⟩) (Kd.R_far (p := ⟨gb1296, 5, none⟩) (Kd.R_far (p := ⟨gb1296, 4, none⟩) (Kd.R_far (p := ⟨gb1296, 3, none⟩) (Kd.R_far (p := ⟨gb1296, 2, none⟩) (Kd.R_far (p := ⟨gb1296, 1, none⟩) (Kd.R_far (p := ⟨gb1296, 0, none⟩) (Kd.R_types HO1292.out BK1296.out (by decide)) (fun _ hk => hk.2) (.int .i64 t1285)) (fun _ hk => hk.2) (.int .i64 t1286)) (fun _ hk => hk.2) (.string t1287)) (fun _ hk => hk.2) (.int .i64 t1288)) (fun _ hk => hk.2) (.bool t1289)) (fun _ hk => hk.2) (.slice Ao32 t1290.length co32)) (fun _ hk => hk.2) (.slice Ao33 t1293.length co33)) (fun _ h_ => h_.1))))) (Kd.R_lt (by (with_reducible repeat (first | apply Kd.R_alloc | apply Kd.R_drewN | apply Kd.R_drew)); exact (Kd.R_mono (Kd.R_far (p := ⟨gb1296, 6, none⟩) (Kd.R_far (p := ⟨gb1296, 5, none⟩) (Kd.R_far (p := ⟨gb1296, 4, none⟩) (Kd.R_far (p := ⟨gb1296, 3, none⟩) (Kd.R_far (p := ⟨gb1296, 2, none⟩) (Kd.R_far (p := ⟨gb1296, 1, none⟩) (Kd.R_far (p := ⟨gb1296, 0, none⟩) (Kd.R_types HO1295.out BK1296.out (by decide)) (fun _ hk => hk.2) (.int .i64 t1285)) (fun _ hk => hk.2) (.int .i64 t1286)) (fun _ hk => hk.2) (.string t1287)) (fun _ hk => hk.2) (.int .i64 t1288)) (fun _ hk => hk.2) (.bool t1289)) (fun _ hk => hk.2) (.slice Ao32 t1290.length co32)) (fun _ hk => hk.2) (.slice Ao33 t1293.length co33)) (fun _ h_ => h_.1))))) (below_size (pkW HB.out))); have HO1307 := am (Kd.R_lower (Kd.R_new' (Kd.R_new' (Kd.R_new' (Kd.R_new' (Kd.R_new' (Kd.R_new' ho1 (Kd.R_lt (by (with_reducible repeat (first | apply Kd.R_alloc | apply Kd.R_drewN | apply Kd.R_drew)); exact (Kd.R_mono (Kd.R_far (p := ⟨gb1296, 6, none⟩) (Kd.R_far (p := ⟨gb1296, 5, none⟩) (Kd.R_far (p := ⟨gb1296, 4, none⟩) (Kd.R_far (p := ⟨gb1296, 3, none⟩) (Kd.R_far (p := ⟨gb1296, 2, none⟩) (Kd.R_far (p := ⟨gb1296, 1, none⟩) (Kd.R_far (p := ⟨gb1296, 0, none⟩) (Kd.R_types HO1268.out BK1296.out (by decide)) (fun _ hk => hk.2) (.int .i64 t1285)) (fun _ hk => hk.2) (.int .i64 t1286)) (fun _ hk => hk.2) (.string t1287)) (fun _ hk => hk.2) (.int .i64 t1288)) (fun _ hk => hk.2) (.bool t1289)) (fun _ hk => hk.2) (.slice Ao32 t1290.length co32)) (fun _ hk => hk.2) (.slice Ao33 t1293.length co33)) (fun _ h_ => h_.1))))) (Kd.R_lt (by (with_reducible repeat (first | apply Kd.R_alloc | apply Kd.R_drewN | apply Kd.R_drew)); exact (Kd.R_mono (Kd.R_far (p := ⟨gb1296, 6, none⟩) (Kd.R_far (p := ⟨gb1296, 5, none⟩) (Kd.R_far (p := ⟨gb1296, 4, none⟩) (Kd.R_far (p := ⟨gb1296, 3, none⟩) (Kd.R_far (p := ⟨gb1296, 2, none⟩) (Kd.R_far (p := ⟨gb1296, 1, none⟩) (Kd.R_far (p := ⟨gb1296, 0, none⟩) (Kd.R_types HO1271.out BK1296.out (by decide)) (fun _ hk => hk.2) (.int .i64 t1285)) (fun _ hk => hk.2) (.int .i64 t1286)) (fun _ hk => hk.2) (.string t1287)) (fun _ hk => hk.2) (.int .i64 t1288)) (fun _ hk => hk.2) (.bool t1289)) (fun _ hk => hk.2) (.slice Ao32 t1290.length co32)) (fun _ hk => hk.2) (.slice Ao33 t1293.length co33)) (fun _ h_ => h_.1))))) (Kd.R_lt (by (with_reducible repeat (first | apply Kd.R_alloc | apply Kd.R_drewN | apply Kd.R_drew)); exact (Kd.R_mono (Kd.R_far (p := ⟨gb1296, 6, none⟩) (Kd.R_far (p := ⟨gb1296, 5, none⟩) (Kd.R_far (p := ⟨gb1296, 4, none⟩) (Kd.R_far (p := ⟨gb1296, 3, none⟩) (Kd.R_far (p := ⟨gb1296, 2, none⟩) (Kd.R_far (p := ⟨gb1296, 1, none⟩) (Kd.R_far (p := ⟨gb1296, 0, none⟩) (Kd.R_types HO1279.out BK1296.out (by decide)) (fun _ hk => hk.2) (.int .i64 t1285)) (fun _ hk => hk.2) (.int .i64 t1286)) (fun _ hk => hk.2) (.string t1287)) (fun _ hk => hk.2) (.int .i64 t1288)) (fun _ hk => hk.2) (.bool t1289)) (fun _ hk => hk.2) (.slice Ao32 t1290.length co32)) (fun _ hk => hk.2) (.slice Ao33 t1293.length co33)) (fun _ h_ => h_.1))))) (Kd.R_lt (by (with_reducible repeat (first | apply Kd.R_alloc | apply Kd.R_drewN | apply Kd.R_drew)); exact (Kd.R_mono (Kd.R_far (p := ⟨gb1296, 6, none⟩) (Kd.R_far (p := ⟨gb1296, 5, none⟩) (Kd.R_far (p := ⟨gb1296, 4, none⟩) (Kd.R_far (p := ⟨gb1296, 3, none⟩) (Kd.R_far (p := ⟨gb1296, 2, none⟩) (Kd.R_far (p := ⟨gb1296, 1, none⟩) (Kd.R_far (p := ⟨gb1296, 0, none⟩) (Kd.R_types HO1282.out BK1296.out (by decide)) (fun _ hk => hk.2) (.int .i64 t1285)) (fun _ hk => hk.2) (.int .i64 t1286)) (fun _ hk => hk.2) (.string t1287)) (fun _ hk => hk.2) (.int .i64 t1288)) (fun _ hk => hk.2) (.bool t1289)) (fun _ hk => hk.2) (.slice Ao32 t1290.length co32)) (fun _ hk => hk.2) (.slice Ao33 t1293.length co33)) (fun _ h_ => h_.1))))) (Kd.R_lt (by (with_reducible repeat (first | apply Kd.R_alloc | apply Kd.R_drewN | apply Kd.R_drew)); exact (Kd.R_mono (Kd.R_far (p := ⟨gb1296, 6, none⟩) (Kd.R_far (p := ⟨gb1296, 5, none⟩) (Kd.R_far (p := ⟨gb1296, 4, none⟩) (Kd.R_far (p := ⟨gb1296, 3, none⟩) (Kd.R_far (p := ⟨gb1296, 2, none⟩) (Kd.R_far (p := ⟨gb1296, 1, none⟩) (Kd.R_far (p := ⟨gb1296, 0, none⟩) (Kd.R_types HO1292.out BK1296.out (by decide)) (fun _ hk => hk.2) (.int .i64 t1285)) (fun _ hk => hk.2) (.int .i64 t1286)) (fun _ hk => hk.2) (.string t1287)) (fun _ hk => hk.2) (.int .i64 t1288)) (fun _ hk => hk.2) (.bool t1289)) (fun _ hk => hk.2) (.slice Ao32 t1290.length co32)) (fun _ hk => hk.2) (.slice Ao33 t1293.length co33)) (fun _ h_ => h_.1))))) (Kd.R_lt (by (with_reducible repeat (first | apply Kd.R_alloc | apply Kd.R_drewN | apply Kd.R_drew)); exact (Kd.R_mono (Kd.R_far (p := ⟨gb1296, 6, none⟩) (Kd.R_far (p := ⟨gb1296, 5, none⟩) (Kd.R_far (p := ⟨gb1296, 4, none⟩) (Kd.R_far (p := ⟨gb1296, 3, none⟩) (Kd.R_far (p := ⟨gb1296, 2, none⟩) (Kd.R_far (p := ⟨gb1296, 1, none⟩) (Kd.R_far (p := ⟨gb1296, 0, none⟩) (Kd.R_types HO1295.out BK1296.out (by decide)) (fun _ hk => hk.2) (.int .i64 t1285)) (fun _ hk => hk.2) (.int .i64 t1286)) (fun _ hk => hk.2) (.string t1287)) (fun _ hk => hk.2) (.int .i64 t1288)) (fun _ hk => hk.2) (.bool t1289)) (fun _ hk => hk.2) (.slice Ao32 t1290.length co32)) (fun _ hk => hk.2) (.slice Ao33 t1293.length co33)) (fun _ h_ => h_.1))))) (below_size (pkW HB.out))); replace HO1268 := am (Kd.R_mono (Kd.R_told (Kd.R_told (Kd.R_old (by (with_reducible repeat (first | apply Kd.R_alloc | apply Kd.R_drewN | apply Kd.R_drew)); exact (Kd.R_mono (Kd.R_far (p := ⟨gb1296, 6, none⟩) (Kd.R_far (p := ⟨gb1296, 5, none⟩) (Kd.R_far (p := ⟨gb1296, 4, none⟩) (Kd.R_far (p := ⟨gb1296, 3, none⟩) (Kd.R_far (p := ⟨gb1296, 2, none⟩) (Kd.R_far (p := ⟨gb1296, 1, none⟩) (Kd.R_far (p := ⟨gb1296, 0, none⟩) (Kd.R_types HO1268.out BK1296.out (by decide)) (fun _ hk => hk.2) (.int .i64 t1285)) (fun _ hk => hk.2) (.int .i64 t1286)) (fun _ hk => hk.2) (.string t1287)) (fun _ hk => hk.2) (.int .i64 t1288)) (fun _ hk => hk.2) (.bool t1289)) (fun _ hk => hk.2) (.slice Ao32 t1290.length co32)) (fun _ hk => hk.2) (.slice Ao33 t1293.length co33)) (fun _ h_ => h_.1))) hb) (Kd.R_base ho0)) (Kd.R_base ho1)) (fun _ h_ => h_.1)); replace HO1271 := am (Kd.R_mono (Kd.R_told (Kd.R_told (Kd.R_old (by (with_reducible repeat (first | apply Kd.R_alloc | apply Kd.R_drewN | apply Kd.R_drew)); exact (Kd.R_mono (Kd.R_far (p := ⟨gb1296, 6, none⟩) (Kd.R_far (p := ⟨gb1296, 5, none⟩) (Kd.R_far (p := ⟨gb1296, 4, none⟩) (Kd.R_far (p := ⟨gb1296, 3, none⟩) (Kd.R_far (p := ⟨gb1296, 2, none⟩) (Kd.R_far (p := ⟨gb1296, 1, none⟩) (Kd.R_far (p := ⟨gb1296, 0, none⟩) (Kd.R_types HO1271.out BK1296.out (by decide)) (fun _ hk => hk.2) (.int .i64 t1285)) (fun _ hk => hk.2) (.int .i64 t1286)) (fun _ hk => hk.2) (.string t1287)) (fun _ hk => hk.2) (.int .i64 t1288)) (fun _ hk => hk.2) (.bool t1289)) (fun _ hk => hk.2) (.slice Ao32 t1290.length co32)) (fun _ hk => hk.2) (.slice Ao33 t1293.length co33)) (fun _ h_ => h_.1))) hb) (Kd.R_base ho0)) (Kd.R_base ho1)) (fun _ h_ => h_.1)); replace HO1279 := am (Kd.R_mono (Kd.R_told (Kd.R_told (Kd.R_old (by (with_reducible repeat (first | apply Kd.R_alloc | apply Kd.R_drewN | apply Kd.R_drew)); exact (Kd.R_mono (Kd.R_far (p := ⟨gb1296, 6, none⟩) (Kd.R_far (p := ⟨gb1296, 5, none⟩) (Kd.R_far (p := ⟨gb1296, 4, none⟩) (Kd.R_far (p := ⟨gb1296, 3, none⟩) (Kd.R_far (p := ⟨gb1296, 2, none⟩) (Kd.R_far (p := ⟨gb1296, 1, none⟩) (Kd.R_far (p := ⟨gb1296, 0, none⟩) (Kd.R_types HO1279.out BK1296.out (by decide)) (fun _ hk => hk.2) (.int .i64 t1285)) (fun _ hk => hk.2) (.int .i64 t1286)) (fun _ hk => hk.2) (.string t1287)) (fun _ hk => hk.2) (.int .i64 t1288)) (fun _ hk => hk.2) (.bool t1289)) (fun _ hk => hk.2) (.slice Ao32 t1290.length co32)) (fun _ hk => hk.2) (.slice Ao33 t1293.length co33)) (fun _ h_ => h_.1))) hb) (Kd.R_base ho0)) (Kd.R_base ho1)) (fun _ h_ => h_.1)); replace HO1282 := am (Kd.R_mono (Kd.R_told (Kd.R_told (Kd.R_old (by (with_reducible repeat (first | apply Kd.R_alloc | apply Kd.R_drewN | apply Kd.R_drew)); exact (Kd.R_mono (Kd.R_far (p := ⟨gb1296, 6, none⟩) (Kd.R_far (p := ⟨gb1296, 5, none⟩) (Kd.R_far (p := ⟨gb1296, 4, none⟩) (Kd.R_far (p := ⟨gb1296, 3, none⟩) (Kd.R_far (p := ⟨gb1296, 2, none⟩) (Kd.R_far (p := ⟨gb1296, 1, none⟩) (Kd.R_far (p := ⟨gb1296, 0, none⟩) (Kd.R_types HO1282.out BK1296.out (by decide)) (fun _ hk => hk.2) (.int .i64 t1285)) (fun _ hk => hk.2) (.int .i64 t1286)) (fun _ hk => hk.2) (.string t1287)) (fun _ hk => hk.2) (.int .i64 t1288)) (fun _ hk => hk.2) (.bool t1289)) (fun _ hk => hk.2) (.slice Ao32 t1290.length co32)) (fun _ hk => hk.2) (.slice Ao33 t1293.length co33)) (fun _ h_ => h_.1))) hb) (Kd.R_base ho0)) (Kd.R_base ho1)) (fun _ h_ => h_.1)); replace HO1292 := am (Kd.R_mono (Kd.R_told (Kd.R_told (Kd.R_old (by (with_reducible repeat (first | apply Kd.R_alloc | apply Kd.R_drewN | apply Kd.R_drew)); exact (Kd.R_mono (Kd.R_far (p := ⟨gb1296, 6, none⟩) (Kd.R_far (p := ⟨gb1296, 5, none⟩) (Kd.R_far (p := ⟨gb1296, 4, none⟩) (Kd.R_far (p := ⟨gb1296, 3, none⟩) (Kd.R_far (p := ⟨gb1296, 2, none⟩) (Kd.R_far (p := ⟨gb1296, 1, none⟩) (Kd.R_far (p := ⟨gb1296, 0, none⟩) (Kd.R_types HO1292.out BK1296.out (by decide)) (fun _ hk => hk.2) (.int .i64 t1285)) (fun _ hk => hk.2) (.int .i64 t1286)) (fun _ hk => hk.2) (.string t1287)) (fun _ hk => hk.2) (.int .i64 t1288)) (fun _ hk => hk.2) (.bool t1289)) (fun _ hk => hk.2) (.slice Ao32 t1290.length co32)) (fun _ hk => hk.2) (.slice Ao33 t1293.length co33)) (fun _ h_ => h_.1))) hb) (Kd.R_base ho0)) (Kd.R_base ho1)) (fun _ h_ => h_.1)); replace HO1295 := am (Kd.R_mono (Kd.R_told (Kd.R_told (Kd.R_old (by (with_reducible repeat (first | apply Kd.R_alloc | apply Kd.R_drewN | apply Kd.R_drew)); exact (Kd.R_mono (Kd.R_far (p := ⟨gb1296, 6, none⟩) (Kd.R_far (p := ⟨gb1296, 5, none⟩) (Kd.R_far (p := ⟨gb1296, 4, none⟩) (Kd.R_far (p := ⟨gb1296, 3, none⟩) (Kd.R_far (p := ⟨gb1296, 2, none⟩) (Kd.R_far (p := ⟨gb1296, 1, none⟩) (Kd.R_far (p := ⟨gb1296, 0, none⟩) (Kd.R_types HO1295.out BK1296.out (by decide)) (fun _ hk => hk.2) (.int .i64 t1285)) (fun _ hk => hk.2) (.int .i64 t1286)) (fun _ hk => hk.2) (.string t1287)) (fun _ hk => hk.2) (.int .i64 t1288)) (fun _ hk => hk.2) (.bool t1289)) (fun _ hk => hk.2) (.slice Ao32 t1290.length co32)) (fun _ hk => hk.2) (.slice Ao33 t1293.length co33)) (fun _ h_ => h_.1))) hb) (Kd.R_base ho0)) (Kd.R_base ho1)) (fun _ h_ => h_.1)); replace BK1259 := am (blk_below (g := gb1259) (o := .cells #[.int .i64 a0_0, .int .i64 a0_1, .string a0_2, .int .i64 a0_3, .bool a0_4, .slice A0_5 l0_5.length c0_5, .slice A0_6 l0_6.length c0_6] 56 (0, 0)) (by (with_reducible repeat (first | refine blk_drewN ?_ _ | refine blk_drew ?_ | refine blk_alloc ?_ _)); refine blk_far ?_ NB1259_1296.out _; (with_reducible repeat (first | refine blk_drewN ?_ _ | refine blk_drew ?_ | refine blk_alloc ?_ _)); refine blk_far ?_ NB1259_1296.out _; (with_reducible repeat (first | refine blk_drewN ?_ _ | refine blk_drew ?_ | refine blk_alloc ?_ _)); refine blk_far ?_ NB1259_1296.out _; (with_reducible repeat (first | refine blk_drewN ?_ _ | refine blk_drew ?_ | refine blk_alloc ?_ _)); refine blk_far ?_ NB1259_1296.out _; (with_reducible repeat (first | refine blk_drewN ?_ _ | refine blk_drew ?_ | refine blk_alloc ?_ _)); refine blk_far ?_ NB1259_1296.out _; (with_reducible repeat (first | refine blk_drewN ?_ _ | refine blk_drew ?_ | refine blk_alloc ?_ _)); refine blk_far ?_ NB1259_1296.out _; (with_reducible repeat (first | refine blk_drewN ?_ _ | refine blk_drew ?_ | refine blk_alloc ?_ _)); refine blk_far ?_ NB1259_1296.out _; exact pkK BK1259.out) hb); replace BK1284 := am (blk_below (g := gb1284) (o := .cells #[.int .i64 t1272, .int .i64 t1273, .string t1274, .int .i64 t1275, .bool t1276, .slice Ao24 t1277.length co24, .slice Ao25 t1280.length co25] 29 (0, 0)) (by (with_reducible repeat (first | refine blk_drewN ?_ _ | refine blk_drew ?_ | refine blk_alloc ?_ _)); refine blk_far ?_ NB1284_1296.out _; (with_reducible repeat (first | refine blk_drewN ?_ _ | refine blk_drew ?_ | refine blk_alloc ?_ _)); refine blk_far ?_ NB1284_1296.out _; (with_reducible repeat (first | refine blk_drewN ?_ _ | refine blk_drew ?_ | refine blk_alloc ?_ _)); refine blk_far ?_ NB1284_1296.out _; (with_reducible repeat (first | refine blk_drewN ?_ _ | refine blk_drew ?_ | refine blk_alloc ?_ _)); refine blk_far ?_ NB1284_1296.out _; (with_reducible repeat (first | refine blk_drewN ?_ _ | refine blk_drew ?_ | refine blk_alloc ?_ _)); refine blk_far ?_ NB1284_1296.out _; (with_reducible repeat (first | refine blk_drewN ?_ _ | refine blk_drew ?_ | refine blk_alloc ?_ _)); refine blk_far ?_ NB1284_1296.out _; (with_reducible repeat (first | refine blk_drewN ?_ _ | refine blk_drew ?_ | refine blk_alloc ?_ _)); refine blk_far ?_ NB1284_1296.out _; exact pkK BK1284.out) hb); replace BK1296 := am (blk_below (g := gb1296) (o := .cells #[.int .i64 t1285, .int .i64 t1286, .string t1287, .int .i64 t1288, .bool t1289, .slice Ao32 t1290.length co32, .slice Ao33 t1293.length co33] 29 (0, 0)) (by (with_reducible repeat (first | refine blk_drewN ?_ _ | refine blk_drew ?_ | refine blk_alloc ?_ _)); refine blk_put (cs := #[.int .i64 t1285, .int .i64 t1286, .string t1287, .int .i64 t1288, .bool t1289, .slice Ao32 t1290.length co32, .slice none 0 0]) ?_ 6 _ rfl; (with_reducible repeat (first | refine blk_drewN ?_ _ | refine blk_drew ?_ | refine blk_alloc ?_ _)); refine blk_put (cs := #[.int .i64 t1285, .int .i64 t1286, .string t1287, .int .i64 t1288, .bool t1289, .slice none 0 0, .slice none 0 0]) ?_ 5 _ rfl; (with_reducible repeat (first | refine blk_drewN ?_ _ | refine blk_drew ?_ | refine blk_alloc ?_ _)); refine blk_put (cs := #[.int .i64 t1285, .int .i64 t1286, .string t1287, .int .i64 t1288, .bool false, .slice none 0 0, .slice none 0 0]) ?_ 4 _ rfl; (with_reducible repeat (first | refine blk_drewN ?_ _ | refine blk_drew ?_ | refine blk_alloc ?_ _)); refine blk_put (cs := #[.int .i64 t1285, .int .i64 t1286, .string t1287, .int .i64 0, .bool false, .slice none 0 0, .slice none 0 0]) ?_ 3 _ rfl; (with_reducible repeat (first | refine blk_drewN ?_ _ | refine blk_drew ?_ | refine blk_alloc ?_ _)); refine blk_put (cs := #[.int .i64 t1285, .int .i64 t1286, .string (⟨#[]⟩ : ByteArray), .int .i64 0, .bool false, .slice none 0 0, .slice none 0 0]) ?_ 2 _ rfl; (with_reducible repeat (first | refine blk_drewN ?_ _ | refine blk_drew ?_ | refine blk_alloc ?_ _)); refine blk_put (cs := #[.int .i64 t1285, .int .i64 0, .string (⟨#[]⟩ : ByteArray), .int .i64 0, .bool false, .slice none 0 0, .slice none 0 0]) ?_ 1 _ rfl; (with_reducible repeat (first | refine blk_drewN ?_ _ | refine blk_drew ?_ | refine blk_alloc ?_ _)); refine blk_put (cs := #[.int .i64 0, .int .i64 0, .string (⟨#[]⟩ : ByteArray), .int .i64 0, .bool false, .slice none 0 0, .slice none 0 0]) ?_ 0 _ rfl; exact pkK BK1296.out) hb); replace HB := am (below_step (pkW HB.out) hb); (try clear hb ho0 ho1)) | ((with_reducible refine gate_dst (N := 9) rfl ?_); refine box_event ?hg (N := 9) ?hd (cs := #[.int .i64 0, .int .i64 0, .string (⟨#[]⟩ : ByteArray), .int .i64 0, .bool false, .slice none 0 0, .slice none 0 0]) (t := 29) ?hr ?_; (case hd => rfl); (case hg => rfl); (case hr => first | (go_simp; done) | (go_simp; rfl)); intro gb1309 hg w35 hbox hb; replace HO1268 := am (Kd.R_below (pkR HO1268.out) hb); replace HO1271 := am (Kd.R_below (pkR HO1271.out) hb); replace HO1279 := am (Kd.R_below (pkR HO1279.out) hb); replace HO1282 := am (Kd.R_below (pkR HO1282.out) hb); replace HO1292 := am (Kd.R_below (pkR HO1292.out) hb); replace HO1295 := am (Kd.R_below (pkR HO1295.out) hb); replace HO1304 := am (Kd.R_below (pkR HO1304.out) hb); replace HO1307 := am (Kd.R_below (pkR HO1307.out) hb); have BK1309 := am (hbox); have GW1309 := am ((by rw [hg]; exact (below_size (pkW HB.out)) : w.heap.size ≤ gb1309)); have GE1309 := am ((by rw [hg]; exact (below_size (pkW HB.out)) : w.heap.size ≤ gb1309)); replace HB := am (below_step (pkW HB.out) hb); have NB1259_1309 := am ((by rw [hg]; exact Nat.ne_of_lt (blk_lt (g := gb1259) (o := .cells #[.int .i64 a0_0, .int .i64 a0_1, .string a0_2, .int .i64 a0_3, .bool a0_4, .slice A0_5 l0_5.length c0_5, .slice A0_6 l0_6.length c0_6] 56 (0, 0)) (pkK BK1259.out)) : gb1259 ≠ gb1309)); have NB1309_1259 := am ((by rw [hg]; exact Nat.ne_of_gt (blk_lt (g := gb1259) (o := .cells #[.int .i64 a0_0, .int .i64 a0_1, .string a0_2, .int .i64 a0_3, .bool a0_4, .slice A0_5 l0_5.length c0_5, .slice A0_6 l0_6.length c0_6] 56 (0, 0)) (pkK BK1259.out)) : gb1309 ≠ gb1259)); replace BK1259 := am (blk_below (pkK BK1259.out) hb); have NB1284_1309 := am ((by rw [hg]; exact Nat.ne_of_lt (blk_lt (g := gb1284) (o := .cells #[.int .i64 t1272, .int .i64 t1273, .string t1274, .int .i64 t1275, .bool t1276, .slice Ao24 t1277.length co24, .slice Ao25 t1280.length co25] 29 (0, 0)) (pkK BK1284.out)) : gb1284 ≠ gb1309)); have NB1309_1284 := am ((by rw [hg]; exact Nat.ne_of_gt (blk_lt (g := gb1284) (o := .cells #[.int .i64 t1272, .int .i64 t1273, .string t1274, .int .i64 t1275, .bool t1276, .slice Ao24 t1277.length co24, .slice Ao25 t1280.length co25] 29 (0, 0)) (pkK BK1284.out)) : gb1309 ≠ gb1284)); replace BK1284 := am (blk_below (pkK BK1284.out) hb); have NB1296_1309 := am ((by rw [hg]; exact Nat.ne_of_lt (blk_lt (g := gb1296) (o := .cells #[.int .i64 t1285, .int .i64 t1286, .string t1287, .int .i64 t1288, .bool t1289, .slice Ao32 t1290.length co32, .slice Ao33 t1293.length co33] 29 (0, 0)) (pkK BK1296.out)) : gb1296 ≠ gb1309)); have NB1309_1296 := am ((by rw [hg]; exact Nat.ne_of_gt (blk_lt (g := gb1296) (o := .cells #[.int .i64 t1285, .int .i64 t1286, .string t1287, .int .i64 t1288, .bool t1289, .slice Ao32 t1290.length co32, .slice Ao33 t1293.length co33] 29 (0, 0)) (pkK BK1296.out)) : gb1309 ≠ gb1296)); replace BK1296 := am (blk_below (pkK BK1296.out) hb); clear hb hbox hg; have hnb36 := NB1309_1259.out; have hnc36 := NB1259_1309.out; have hnb37 := NB1309_1284.out; have hnc37 := NB1284_1309.out; have hnb38 := NB1309_1296.out; have hnc38 := NB1296_1309.out; obtain ⟨hcz39_0, hcz39_1, hcz39_2, hcz39_3, hcz39_4, hcz39_5, hcz39_6, hfz39_0, hfz39_1, hfz39_2, hfz39_3, hfz39_4, hfz39_5, hfz39_6⟩ := bk7 BK1309.out; obtain ⟨Ao40, co40, eo40⟩ := Kd.R_slice HO1304.out; subst eo40; obtain ⟨Ao41, co41, eo41⟩ := Kd.R_slice HO1307.out; subst eo41))
  (try simp only [Act.put, List.setIfInBounds_toArray, List.set_cons_zero, List.set_cons_succ])
  go_cut [44] (fun v44 wc => ∃ (kq : Nat) (x44_11 : Bool), v44 = .bool x44_11 ∧ Aside0 (laws_FnExactUnwatch.j0 kq a1 t1283 t1308 x44_11 a0_0 a0_1 a0_2 a0_3 a0_4 l0_5 l0_6 t1272 t1273 t1274 t1275 t1276 t1277 t1280 t1285 t1286 t1287 t1288 t1289 t1290 t1293 t1297 t1298 t1299 t1300 t1301 t1302 t1305 = some r) ∧ Aside0 (kq ≤ k) ∧ Aside0 (Kd.R (Kd.int .i64) 3 wc w.heap.size (fun k_ => some k_ ≠ ((.slice Ao25 t1280.length co25) : Value).ownBlock ∧ some k_ ≠ ((.slice Ao32 t1290.length co32) : Value).ownBlock ∧ some k_ ≠ ((.slice Ao33 t1293.length co33) : Value).ownBlock ∧ some k_ ≠ ((.slice Ao40 t1302.length co40) : Value).ownBlock ∧ some k_ ≠ ((.slice Ao41 t1305.length co41) : Value).ownBlock) (.slice Ao24 t1277.length co24) t1277) ∧ Aside0 (Kd.R (Kd.int .i64) 3 wc w.heap.size (fun k_ => some k_ ≠ ((.slice Ao24 t1277.length co24) : Value).ownBlock ∧ some k_ ≠ ((.slice Ao32 t1290.length co32) : Value).ownBlock ∧ some k_ ≠ ((.slice Ao33 t1293.length co33) : Value).ownBlock ∧ some k_ ≠ ((.slice Ao40 t1302.length co40) : Value).ownBlock ∧ some k_ ≠ ((.slice Ao41 t1305.length co41) : Value).ownBlock) (.slice Ao25 t1280.length co25) t1280) ∧ Aside0 (Kd.R (Kd.int .i64) 3 wc w.heap.size (fun k_ => some k_ ≠ ((.slice Ao24 t1277.length co24) : Value).ownBlock ∧ some k_ ≠ ((.slice Ao25 t1280.length co25) : Value).ownBlock ∧ some k_ ≠ ((.slice Ao33 t1293.length co33) : Value).ownBlock ∧ some k_ ≠ ((.slice Ao40 t1302.length co40) : Value).ownBlock ∧ some k_ ≠ ((.slice Ao41 t1305.length co41) : Value).ownBlock) (.slice Ao32 t1290.length co32) t1290) ∧ Aside0 (Kd.R (Kd.int .i64) 3 wc w.heap.size (fun k_ => some k_ ≠ ((.slice Ao24 t1277.length co24) : Value).ownBlock ∧ some k_ ≠ ((.slice Ao25 t1280.length co25) : Value).ownBlock ∧ some k_ ≠ ((.slice Ao32 t1290.length co32) : Value).ownBlock ∧ some k_ ≠ ((.slice Ao40 t1302.length co40) : Value).ownBlock ∧ some k_ ≠ ((.slice Ao41 t1305.length co41) : Value).ownBlock) (.slice Ao33 t1293.length co33) t1293) ∧ Aside0 (Kd.R (Kd.int .i64) 3 wc w.heap.size (fun k_ => some k_ ≠ ((.slice Ao24 t1277.length co24) : Value).ownBlock ∧ some k_ ≠ ((.slice Ao25 t1280.length co25) : Value).ownBlock ∧ some k_ ≠ ((.slice Ao32 t1290.length co32) : Value).ownBlock ∧ some k_ ≠ ((.slice Ao33 t1293.length co33) : Value).ownBlock ∧ some k_ ≠ ((.slice Ao41 t1305.length co41) : Value).ownBlock) (.slice Ao40 t1302.length co40) t1302) ∧ Aside0 (Kd.R (Kd.int .i64) 3 wc w.heap.size (fun k_ => some k_ ≠ ((.slice Ao24 t1277.length co24) : Value).ownBlock ∧ some k_ ≠ ((.slice Ao25 t1280.length co25) : Value).ownBlock ∧ some k_ ≠ ((.slice Ao32 t1290.length co32) : Value).ownBlock ∧ some k_ ≠ ((.slice Ao33 t1293.length co33) : Value).ownBlock ∧ some k_ ≠ ((.slice Ao40 t1302.length co40) : Value).ownBlock) (.slice Ao41 t1305.length co41) t1305) ∧ Aside0 (wc.heap[gb1259]? = some (.cells #[.int .i64 a0_0, .int .i64 a0_1, .string a0_2, .int .i64 a0_3, .bool a0_4, (.slice A0_5 l0_5.length c0_5), (.slice A0_6 l0_6.length c0_6)] 56 (0, 0))) ∧ Aside0 (wc.heap[gb1284]? = some (.cells #[.int .i64 t1272, .int .i64 t1273, .string t1274, .int .i64 t1275, .bool t1276, (.slice Ao24 t1277.length co24), (.slice Ao25 t1280.length co25)] 29 (0, 0))) ∧ Aside0 (wc.heap[gb1296]? = some (.cells #[.int .i64 t1285, .int .i64 t1286, .string t1287, .int .i64 t1288, .bool t1289, (.slice Ao32 t1290.length co32), (.slice Ao33 t1293.length co33)] 29 (0, 0))) ∧ Aside0 (wc.heap[gb1309]? = some (.cells #[.int .i64 t1297, .int .i64 t1298, .string t1299, .int .i64 t1300, .bool t1301, (.slice Ao40 t1302.length co40), (.slice Ao41 t1305.length co41)] 29 (0, 0))) ∧ Aside0 (Below w.heap.size w wc))
  case first =>
   have H := HC12.out
   clear HC12
   replace H := Option.bind_eq_some_iff.mp H
   obtain ⟨t1310, A420, H⟩ := H
   replace H : (if t1310 = true then (laws_FnExactUnwatch.j0 k a1 t1283 t1308 (t1308 != t1283) a0_0 a0_1 a0_2 a0_3 a0_4 l0_5 l0_6 t1272 t1273 t1274 t1275 t1276 t1277 t1280 t1285 t1286 t1287 t1288 t1289 t1290 t1293 t1297 t1298 t1299 t1300 t1301 t1302 t1305) else (laws_FnExactUnwatch.j0 k a1 t1283 t1308 true a0_0 a0_1 a0_2 a0_3 a0_4 l0_5 l0_6 t1272 t1273 t1274 t1275 t1276 t1277 t1280 t1285 t1286 t1287 t1288 t1289 t1290 t1293 t1297 t1298 t1299 t1300 t1301 t1302 t1305)) = some r := H
   have A42 := am A420
   clear A420
   by_cases c43 : t1310 = true
   ·subst c43
    replace H : (laws_FnExactUnwatch.j0 k a1 t1283 t1308 (t1308 != t1283) a0_0 a0_1 a0_2 a0_3 a0_4 l0_5 l0_6 t1272 t1273 t1274 t1275 t1276 t1277 t1280 t1285 t1286 t1287 t1288 t1289 t1290 t1293 t1297 t1298 t1299 t1300 t1301 t1302 t1305) = some r := by rw [if_pos rfl] at H; exact H
    have H' := am H
    clear H
    have hnb44 := NB1309_1259.out
    have hnc44 := NB1259_1309.out
    have hnb45 := NB1309_1284.out
    have hnc45 := NB1284_1309.out
    have hnb46 := NB1309_1296.out
    have hnc46 := NB1296_1309.out
    obtain ⟨hcz47_0, hcz47_1, hcz47_2, hcz47_3, hcz47_4, hcz47_5, hcz47_6, hfz47_0, hfz47_1, hfz47_2, hfz47_3, hfz47_4, hfz47_5, hfz47_6⟩ := bk7 BK1309.out
    have hnb48 := NB1284_1259.out
    have hnc48 := NB1259_1284.out
    have hnb49 := NB1284_1296.out
    have hnc49 := NB1296_1284.out
    obtain ⟨hcz50_0, hcz50_1, hcz50_2, hcz50_3, hcz50_4, hcz50_5, hcz50_6, hfz50_0, hfz50_1, hfz50_2, hfz50_3, hfz50_4, hfz50_5, hfz50_6⟩ := bk7 BK1284.out
    go_wp2_with (first | ((with_reducible refine gate_callee (f := 34) rfl ?_); refine goesL_ (some 38) rfl rfl Try.func34 (by kernel_rfl) rfl #[.agg #[.int .i64 t1297, .int .i64 t1298, .string t1299, .int .i64 t1300, .bool t1301, .slice Ao40 t1302.length co40, .slice Ao41 t1305.length co41], .agg #[.int .i64 t1272, .int .i64 t1273, .string t1274, .int .i64 t1275, .bool t1276, .slice Ao24 t1277.length co24, .slice Ao25 t1280.length co25]] rfl mpx ?_; (with_reducible refine (laws_eqCell.calls k t1297 t1298 t1299 t1300 t1301 _ _ t1302 _ _ t1305 t1272 t1273 t1274 t1275 t1276 _ _ t1277 _ _ t1280 true _ ?side1 ?side2 ?side3 ?side4 ?side5 ?side6 ?side7 ?side8 A42.out).mono ?_); (case side1 => refine (Kd.R_reads' (e := 3) (base := w.heap.size) (ok := fun k_ => ((((((some k_ ≠ (.slice Ao41 t1305.length co41 : Value).ownBlock ∧ some k_ ≠ (.slice Ao18 t1266.length co18 : Value).ownBlock) ∧ some k_ ≠ (.slice Ao19 t1269.length co19 : Value).ownBlock) ∧ some k_ ≠ (.slice Ao24 t1277.length co24 : Value).ownBlock) ∧ some k_ ≠ (.slice Ao25 t1280.length co25 : Value).ownBlock) ∧ some k_ ≠ (.slice Ao32 t1290.length co32 : Value).ownBlock) ∧ some k_ ≠ (.slice Ao33 t1293.length co33 : Value).ownBlock)) (n := t1302.length) (c := co40) ?_).2.2; exact (by (with_reducible repeat (first | apply Kd.R_alloc | apply Kd.R_drewN | apply Kd.R_drew)); exact (Kd.R_mono (Kd.R_far (p := ⟨gb1309, 6, none⟩) (Kd.R_far (p := ⟨gb1309, 5, none⟩) (Kd.R_far (p := ⟨gb1309, 4, none⟩) (Kd.R_far (p := ⟨gb1309, 3, none⟩) (Kd.R_far (p := ⟨gb1309, 2, none⟩) (Kd.R_far (p := ⟨gb1309, 1, none⟩) (Kd.R_far (p := ⟨gb1309, 0, none⟩) (Kd.R_types HO1304.out BK1309.out (by decide)) (fun _ hk => hk.2) (.int .i64 t1297)) (fun _ hk => hk.2) (.int .i64 t1298)) (fun _ hk => hk.2) (.string t1299)) (fun _ hk => hk.2) (.int .i64 t1300)) (fun _ hk => hk.2) (.bool t1301)) (fun _ hk => hk.2) (.slice Ao40 t1302.length co40)) (fun _ hk => hk.2) (.slice Ao41 t1305.length co41)) (fun _ h_ => h_.1)))); (case side2 => exact (Kd.R_reads' HO1304.out).2.1); (case side3 => refine (Kd.R_reads' (e := 3) (base := w.heap.size) (ok := fun k_ => ((((((some k_ ≠ (.slice Ao40 t1302.length co40 : Value).ownBlock ∧ some k_ ≠ (.slice Ao18 t1266.length co18 : Value).ownBlock) ∧ some k_ ≠ (.slice Ao19 t1269.length co19 : Value).ownBlock) ∧ some k_ ≠ (.slice Ao24 t1277.length co24 : Value).ownBlock) ∧ some k_ ≠ (.slice Ao25 t1280.length co25 : Value).ownBlock) ∧ some k_ ≠ (.slice Ao32 t1290.length co32 : Value).ownBlock) ∧ some k_ ≠ (.slice Ao33 t1293.length co33 : Value).ownBlock)) (n := t1305.length) (c := co41) ?_).2.2; exact (by (with_reducible repeat (first | apply Kd.R_alloc | apply Kd.R_drewN | apply Kd.R_drew)); exact (Kd.R_mono (Kd.R_far (p := ⟨gb1309, 6, none⟩) (Kd.R_far (p := ⟨gb1309, 5, none⟩) (Kd.R_far (p := ⟨gb1309, 4, none⟩) (Kd.R_far (p := ⟨gb1309, 3, none⟩) (Kd.R_far (p := ⟨gb1309, 2, none⟩) (Kd.R_far (p := ⟨gb1309, 1, none⟩) (Kd.R_far (p := ⟨gb1309, 0, none⟩) (Kd.R_types HO1307.out BK1309.out (by decide)) (fun _ hk => hk.2) (.int .i64 t1297)) (fun _ hk => hk.2) (.int .i64 t1298)) (fun _ hk => hk.2) (.string t1299)) (fun _ hk => hk.2) (.int .i64 t1300)) (fun _ hk => hk.2) (.bool t1301)) (fun _ hk => hk.2) (.slice Ao40 t1302.length co40)) (fun _ hk => hk.2) (.slice Ao41 t1305.length co41)) (fun _ h_ => h_.1)))); (case side4 => exact (Kd.R_reads' HO1307.out).2.1); (case side5 => refine (Kd.R_reads' (e := 3) (base := w.heap.size) (ok := fun k_ => ((((((some k_ ≠ (.slice Ao25 t1280.length co25 : Value).ownBlock ∧ some k_ ≠ (.slice Ao18 t1266.length co18 : Value).ownBlock) ∧ some k_ ≠ (.slice Ao19 t1269.length co19 : Value).ownBlock) ∧ some k_ ≠ (.slice Ao32 t1290.length co32 : Value).ownBlock) ∧ some k_ ≠ (.slice Ao33 t1293.length co33 : Value).ownBlock) ∧ some k_ ≠ (.slice Ao40 t1302.length co40 : Value).ownBlock) ∧ some k_ ≠ (.slice Ao41 t1305.length co41 : Value).ownBlock)) (n := t1277.length) (c := co24) ?_).2.2; exact (by (with_reducible repeat (first | apply Kd.R_alloc | apply Kd.R_drewN | apply Kd.R_drew)); exact (Kd.R_mono (Kd.R_far (p := ⟨gb1309, 6, none⟩) (Kd.R_far (p := ⟨gb1309, 5, none⟩) (Kd.R_far (p := ⟨gb1309, 4, none⟩) (Kd.R_far (p := ⟨gb1309, 3, none⟩) (Kd.R_far (p := ⟨gb1309, 2, none⟩) (Kd.R_far (p := ⟨gb1309, 1, none⟩) (Kd.R_far (p := ⟨gb1309, 0, none⟩) (Kd.R_types HO1279.out BK1309.out (by decide)) (fun _ hk => hk.2) (.int .i64 t1297)) (fun _ hk => hk.2) (.int .i64 t1298)) (fun _ hk => hk.2) (.string t1299)) (fun _ hk => hk.2) (.int .i64 t1300)) (fun _ hk => hk.2) (.bool t1301)) (fun _ hk => hk.2) (.slice Ao40 t1302.length co40)) (fun _ hk => hk.2) (.slice Ao41 t1305.length co41)) (fun _ h_ => h_.1)))); (case side6 => exact (Kd.R_reads' HO1279.out).2.1); (case side7 => refine (Kd.R_reads' (e := 3) (base := w.heap.size) (ok := fun k_ => ((((((some k_ ≠ (.slice Ao24 t1277.length co24 : Value).ownBlock ∧ some k_ ≠ (.slice Ao18 t1266.length co18 : Value).ownBlock) ∧ some k_ ≠ (.slice Ao19 t1269.length co19 : Value).ownBlock) ∧ some k_ ≠ (.slice Ao32 t1290.length co32 : Value).ownBlock) ∧ some k_ ≠ (.slice Ao33 t1293.length co33 : Value).ownBlock) ∧ some k_ ≠ (.slice Ao40 t1302.length co40 : Value).ownBlock) ∧ some k_ ≠ (.slice Ao41 t1305.length co41 : Value).ownBlock)) (n := t1280.length) (c := co25) ?_).2.2; exact (by (with_reducible repeat (first | apply Kd.R_alloc | apply Kd.R_drewN | apply Kd.R_drew)); exact (Kd.R_mono (Kd.R_far (p := ⟨gb1309, 6, none⟩) (Kd.R_far (p := ⟨gb1309, 5, none⟩) (Kd.R_far (p := ⟨gb1309, 4, none⟩) (Kd.R_far (p := ⟨gb1309, 3, none⟩) (Kd.R_far (p := ⟨gb1309, 2, none⟩) (Kd.R_far (p := ⟨gb1309, 1, none⟩) (Kd.R_far (p := ⟨gb1309, 0, none⟩) (Kd.R_types HO1282.out BK1309.out (by decide)) (fun _ hk => hk.2) (.int .i64 t1297)) (fun _ hk => hk.2) (.int .i64 t1298)) (fun _ hk => hk.2) (.string t1299)) (fun _ hk => hk.2) (.int .i64 t1300)) (fun _ hk => hk.2) (.bool t1301)) (fun _ hk => hk.2) (.slice Ao40 t1302.length co40)) (fun _ hk => hk.2) (.slice Ao41 t1305.length co41)) (fun _ h_ => h_.1)))); (case side8 => exact (Kd.R_reads' HO1282.out).2.1); rintro e w51 ⟨rfl, hb⟩; refine ⟨_, rfl, ?_⟩; replace HO1268 := am (Kd.R_below (by (with_reducible repeat (first | apply Kd.R_alloc | apply Kd.R_drewN | apply Kd.R_drew)); exact (Kd.R_mono (Kd.R_far (p := ⟨gb1309, 6, none⟩) (Kd.R_far (p := ⟨gb1309, 5, none⟩) (Kd.R_far (p := ⟨gb1309, 4, none⟩) (Kd.R_far (p := ⟨gb1309, 3, none⟩) (Kd.R_far (p := ⟨gb1309, 2, none⟩) (Kd.R_far (p := ⟨gb1309, 1, none⟩) (Kd.R_far (p := ⟨gb1309, 0, none⟩) (Kd.R_types HO1268.out BK1309.out (by decide)) (fun _ hk => hk.2) (.int .i64 t1297)) (fun _ hk => hk.2) (.int .i64 t1298)) (fun _ hk => hk.2) (.string t1299)) (fun _ hk => hk.2) (.int .i64 t1300)) (fun _ hk => hk.2) (.bool t1301)) (fun _ hk => hk.2) (.slice Ao40 t1302.length co40)) (fun _ hk => hk.2) (.slice Ao41 t1305.length co41)) (fun _ h_ => h_.1))) hb); replace HO1271 := am (Kd.R_below (by (with_reducible repeat (first | apply Kd.R_alloc | apply Kd.R_drewN | apply Kd.R_drew)); exact (Kd.R_mono (Kd.R_far (p := ⟨gb1309, 6, none⟩) (Kd.R_far (p := ⟨gb1309, 5, none⟩) (Kd.R_far (p := ⟨gb1309, 4, none⟩) (Kd.R_far (p := ⟨gb1309, 3, none⟩) (Kd.R_far (p := ⟨gb1309, 2, none⟩) (Kd.R_far (p := ⟨gb1309, 1, none⟩) (Kd.R_far (p := ⟨gb1309, 0, none⟩) (Kd.R_types HO1271.out BK1309.out (by decide)) (fun _ hk => hk.2) (.int .i64 t1297)) (fun _ hk => hk.2) (.int .i64 t1298)) (fun _ hk => hk.2) (.string t1299)) (fun _ hk => hk.2) (.int .i64 t1300)) (fun _ hk => hk.2) (.bool t1301)) (fun _ hk => hk.2) (.slice Ao40 t1302.length co40)) (fun _ hk => hk.2) (.slice Ao41 t1305.length co41)) (fun _ h_ => h_.1))) hb); replace HO1279 := am (Kd.R_below (by (with_reducible repeat (first | apply Kd.R_alloc | apply Kd.R_drewN | apply Kd.R_drew)); exact (Kd.R_mono (Kd.R_far (p := ⟨gb1309, 6, none⟩) (Kd.R_far (p := ⟨gb1309, 5, none⟩) (Kd.R_far (p := ⟨gb1309, 4, none⟩) (Kd.R_far (p := ⟨gb1309, 3, none⟩) (Kd.R_far (p := ⟨gb1309, 2, none⟩) (Kd.R_far (p := ⟨gb1309, 1, none⟩) (Kd.R_far (p := ⟨gb1309, 0, none⟩) (Kd.R_types HO1279.out BK1309.out (by decide)) (fun _ hk => hk.2) (.int .i64 t1297)) (fun _ hk => hk.2) (.int .i64 t1298)) (fun _ hk => hk.2) (.string t1299)) (fun _ hk => hk.2) (.int .i64 t1300)) (fun _ hk => hk.2) (.bool t1301)) (fun _ hk => hk.2) (.slice Ao40 t1302.length co40)) (fun _ hk => hk.2) (.slice Ao41 t1305.length co41)) (fun _ h_ => h_.1))) hb); replace HO1282 := am (Kd.R_below (by (with_reducible repeat (first | apply Kd.R_alloc | apply Kd.R_drewN | apply Kd.R_drew)); exact (Kd.R_mono (Kd.R_far (p := ⟨gb1309, 6, none⟩) (Kd.R_far (p := ⟨gb1309, 5, none⟩) (Kd.R_far (p := ⟨gb1309, 4, none⟩) (Kd.R_far (p := ⟨gb1309, 3, none⟩) (Kd.R_far (p := ⟨gb1309, 2, none⟩) (Kd.R_far (p := ⟨gb1309, 1, none⟩) (Kd.R_far (p := ⟨gb1309, 0, none⟩) (Kd.R_types HO1282.out BK1309.out (by decide)) (fun _ hk => hk.2) (.int .i64 t1297)) (fun _ hk => hk.2) (.int .i64 t1298)) (fun _ hk => hk.2) (.string t1299)) (fun _ hk => hk.2) (.int .i64 t1300)) (fun _ hk => hk.2) (.bool t1301)) (fun _ hk => hk.2) (.slice Ao40 t1302.length co40)) (fun _ hk => hk.2) (.slice Ao41 t1305.length co41)) (fun _ h_ => h_.1))) hb); replace HO1292 := am (Kd.R_below (by (with_reducible repeat (first | apply Kd.R_alloc | apply Kd.R_drewN | apply Kd.R_drew)); exact (Kd.R_mono (Kd.R_far (p := ⟨gb1309, 6, none⟩) (Kd.R_far (p := ⟨gb1309, 5, none⟩) (Kd.R_far (p := ⟨gb1309, 4, none⟩) (Kd.R_far (p := ⟨gb1309, 3, none⟩) (Kd.R_far (p := ⟨gb1309, 2, none⟩) (Kd.R_far (p := ⟨gb1309, 1, none⟩) (Kd.R_far (p := ⟨gb1309, 0, none⟩) (Kd.R_types HO1292.out BK1309.out (by decide)) (fun _ hk => hk.2) (.int .i64 t1297)) (fun _ hk => hk.2) (.int .i64 t1298)) (fun _ hk => hk.2) (.string t1299)) (fun _ hk => hk.2) (.int .i64 t1300)) (fun _ hk => hk.2) (.bool t1301)) (fun _ hk => hk.2) (.slice Ao40 t1302.length co40)) (fun _ hk => hk.2) (.slice Ao41 t1305.length co41)) (fun _ h_ => h_.1))) hb); replace HO1295 := am (Kd.R_below (by (with_reducible repeat (first | apply Kd.R_alloc | apply Kd.R_drewN | apply Kd.R_drew)); exact (Kd.R_mono (Kd.R_far (p := ⟨gb1309, 6, none⟩) (Kd.R_far (p := ⟨gb1309, 5, none⟩) (Kd.R_far (p := ⟨gb1309, 4, none⟩) (Kd.R_far (p := ⟨gb1309, 3, none⟩) (Kd.R_far (p := ⟨gb1309, 2, none⟩) (Kd.R_far (p := ⟨gb1309, 1, none⟩) (Kd.R_far (p := ⟨gb1309, 0, none⟩) (Kd.R_types HO1295.out BK1309.out (by decide)) (fun _ hk => hk.2) (.int .i64 t1297)) (fun _ hk => hk.2) (.int .i64 t1298)) (fun _ hk => hk.2) (.string t1299)) (fun _ hk => hk.2) (.int .i64 t1300)) (fun _ hk => hk.2) (.bool t1301)) (fun _ hk => hk.2) (.slice Ao40 t1302.length co40)) (fun _ hk => hk.2) (.slice Ao41 t1305.length co41)) (fun _ h_ => h_.1))) hb); replace HO1304 := am (Kd.R_below (by (with_reducible repeat (first | apply Kd.R_alloc | apply Kd.R_drewN | apply Kd.R_drew)); exact (Kd.R_mono (Kd.R_far (p := ⟨gb1309, 6, none⟩) (Kd.R_far (p := ⟨gb1309, 5, none⟩) (Kd.R_far (p := ⟨gb1309, 4, none⟩) (Kd.R_far (p := ⟨gb1309, 3, none⟩) (Kd.R_far (p := ⟨gb1309, 2, none⟩) (Kd.R_far (p := ⟨gb1309, 1, none⟩) (Kd.R_far (p := ⟨gb1309, 0, none⟩) (Kd.R_types HO1304.out BK1309.out (by decide)) (fun _ hk => hk.2) (.int .i64 t1297)) (fun _ hk => hk.2) (.int .i64 t1298)) (fun _ hk => hk.2) (.string t1299)) (fun _ hk => hk.2) (.int .i64 t1300)) (fun _ hk => hk.2) (.bool t1301)) (fun _ hk => hk.2) (.slice Ao40 t1302.length co40)) (fun _ hk => hk.2) (.slice Ao41 t1305.length co41)) (fun _ h_ => h_.1))) hb); replace HO1307 := am (Kd.R_below (by (with_reducible repeat (first | apply Kd.R_alloc | apply Kd.R_drewN | apply Kd.R_drew)); exact (Kd.R_mono (Kd.R_far (p := ⟨gb1309, 6, none⟩) (Kd.R_far (p := ⟨gb1309, 5, none⟩) (Kd.R_far (p := ⟨gb1309, 4, none⟩) (Kd.R_far (p := ⟨gb1309, 3, none⟩) (Kd.R_far (p := ⟨gb1309, 2, none⟩) (Kd.R_far (p := ⟨gb1309, 1, none⟩) (Kd.R_far (p := ⟨gb1309, 0, none⟩) (Kd.R_types HO1307.out BK1309.out (by decide)) (fun _ hk => hk.2) (.int .i64 t1297)) (fun _ hk => hk.2) (.int .i64 t1298)) (fun _ hk => hk.2) (.string t1299)) (fun _ hk => hk.2) (.int .i64 t1300)) (fun _ hk => hk.2) (.bool t1301)) (fun _ hk => hk.2) (.slice Ao40 t1302.length co40)) (fun _ hk => hk.2) (.slice Ao41 t1305.length co41)) (fun _ h_ => h_.1))) hb); replace BK1259 := am (blk_below (g := gb1259) (o := .cells #[.int .i64 a0_0, .int .i64 a0_1, .string a0_2, .int .i64 a0_3, .bool a0_4, .slice A0_5 l0_5.length c0_5, .slice A0_6 l0_6.length c0_6] 56 (0, 0)) (by (with_reducible repeat (first | refine blk_drewN ?_ _ | refine blk_drew ?_ | refine blk_alloc ?_ _)); refine blk_far ?_ NB1259_1309.out _; (with_reducible repeat (first | refine blk_drewN ?_ _ | refine blk_drew ?_ | refine blk_alloc ?_ _)); refine blk_far ?_ NB1259_1309.out _; (with_reducible repeat (first | refine blk_drewN ?_ _ | refine blk_drew ?_ | refine blk_alloc ?_ _)); refine blk_far ?_ NB1259_1309.out _; (with_reducible repeat (first | refine blk_drewN ?_ _ | refine blk_drew ?_ | refine blk_alloc ?_ _)); refine blk_far ?_ NB1259_1309.out _; (with_reducible repeat (first | refine blk_drewN ?_ _ | refine blk_drew ?_ | refine blk_alloc ?_ _)); refine blk_far ?_ NB1259_1309.out _; (with_reducible repeat (first | refine blk_drewN ?_ _ | refine blk_drew ?_ | refine blk_alloc ?_ _)); refine blk_far ?_ NB1259_1309.out _; (with_reducible repeat (first | refine blk_drewN ?_ _ | refine blk_drew ?_ | refine blk_alloc ?_ _)); refine blk_far ?_ NB1259_1309.out _; exact pkK BK1259.out) hb); replace BK1284 := am (blk_below (g := gb1284) (o := .cells #[.int .i64 t1272, .int .i64 t1273, .string t1274, .int .i64 t1275, .bool t1276, .slice Ao24 t1277.length co24, .slice Ao25 t1280.length co25] 29 (0, 0)) (by (with_reducible repeat (first | refine blk_drewN ?_ _ | refine blk_drew ?_ | refine blk_alloc ?_ _)); refine blk_far ?_ NB1284_1309.out _; (with_reducible repeat (first | refine blk_drewN ?_ _ | refine blk_drew ?_ | refine blk_alloc ?_ _)); refine blk_far ?_ NB1284_1309.out _; (with_reducible repeat (first | refine blk_drewN ?_ _ | refine blk_drew ?_ | refine blk_alloc ?_ _)); refine blk_far ?_ NB1284_1309.out _; (with_reducible repeat (first | refine blk_drewN ?_ _ | refine blk_drew ?_ | refine blk_alloc ?_ _)); refine blk_far ?_ NB1284_1309.out _; (with_reducible repeat (first | refine blk_drewN ?_ _ | refine blk_drew ?_ | refine blk_alloc ?_ _)); refine blk_far ?_ NB1284_1309.out _; (with_reducible repeat (first | refine blk_drewN ?_ _ | refine blk_drew ?_ | refine blk_alloc ?_ _)); refine blk_far ?_ NB1284_1309.out _; (with_reducible repeat (first | refine blk_drewN ?_ _ | refine blk_drew ?_ | refine blk_alloc ?_ _)); refine blk_far ?_ NB1284_1309.out _; exact pkK BK1284.out) hb); replace BK1296 := am (blk_below (g := gb1296) (o := .cells #[.int .i64 t1285, .int .i64 t1286, .string t1287, .int .i64 t1288, .bool t1289, .slice Ao32 t1290.length co32, .slice Ao33 t1293.length co33] 29 (0, 0)) (by (with_reducible repeat (first | refine blk_drewN ?_ _ | refine blk_drew ?_ | refine blk_alloc ?_ _)); refine blk_far ?_ NB1296_1309.out _; (with_reducible repeat (first | refine blk_drewN ?_ _ | refine blk_drew ?_ | refine blk_alloc ?_ _)); refine blk_far ?_ NB1296_1309.out _; (with_reducible repeat (first | refine blk_drewN ?_ _ | refine blk_drew ?_ | refine blk_alloc ?_ _)); refine blk_far ?_ NB1296_1309.out _; (with_reducible repeat (first | refine blk_drewN ?_ _ | refine blk_drew ?_ | refine blk_alloc ?_ _)); refine blk_far ?_ NB1296_1309.out _; (with_reducible repeat (first | refine blk_drewN ?_ _ | refine blk_drew ?_ | refine blk_alloc ?_ _)); refine blk_far ?_ NB1296_1309.out _; (with_reducible repeat (first | refine blk_drewN ?_ _ | refine blk_drew ?_ | refine blk_alloc ?_ _)); refine blk_far ?_ NB1296_1309.out _; (with_reducible repeat (first | refine blk_drewN ?_ _ | refine blk_drew ?_ | refine blk_alloc ?_ _)); refine blk_far ?_ NB1296_1309.out _; exact pkK BK1296.out) hb); replace BK1309 := am (blk_below (g := gb1309) (o := .cells #[.int .i64 t1297, .int .i64 t1298, .string t1299, .int .i64 t1300, .bool t1301, .slice Ao40 t1302.length co40, .slice Ao41 t1305.length co41] 29 (0, 0)) (by (with_reducible repeat (first | refine blk_drewN ?_ _ | refine blk_drew ?_ | refine blk_alloc ?_ _)); refine blk_put (cs := #[.int .i64 t1297, .int .i64 t1298, .string t1299, .int .i64 t1300, .bool t1301, .slice Ao40 t1302.length co40, .slice none 0 0]) ?_ 6 _ rfl; (with_reducible repeat (first | refine blk_drewN ?_ _ | refine blk_drew ?_ | refine blk_alloc ?_ _)); refine blk_put (cs := #[.int .i64 t1297, .int .i64 t1298, .string t1299, .int .i64 t1300, .bool t1301, .slice none 0 0, .slice none 0 0]) ?_ 5 _ rfl; (with_reducible repeat (first | refine blk_drewN ?_ _ | refine blk_drew ?_ | refine blk_alloc ?_ _)); refine blk_put (cs := #[.int .i64 t1297, .int .i64 t1298, .string t1299, .int .i64 t1300, .bool false, .slice none 0 0, .slice none 0 0]) ?_ 4 _ rfl; (with_reducible repeat (first | refine blk_drewN ?_ _ | refine blk_drew ?_ | refine blk_alloc ?_ _)); refine blk_put (cs := #[.int .i64 t1297, .int .i64 t1298, .string t1299, .int .i64 0, .bool false, .slice none 0 0, .slice none 0 0]) ?_ 3 _ rfl; (with_reducible repeat (first | refine blk_drewN ?_ _ | refine blk_drew ?_ | refine blk_alloc ?_ _)); refine blk_put (cs := #[.int .i64 t1297, .int .i64 t1298, .string (⟨#[]⟩ : ByteArray), .int .i64 0, .bool false, .slice none 0 0, .slice none 0 0]) ?_ 2 _ rfl; (with_reducible repeat (first | refine blk_drewN ?_ _ | refine blk_drew ?_ | refine blk_alloc ?_ _)); refine blk_put (cs := #[.int .i64 t1297, .int .i64 0, .string (⟨#[]⟩ : ByteArray), .int .i64 0, .bool false, .slice none 0 0, .slice none 0 0]) ?_ 1 _ rfl; (with_reducible repeat (first | refine blk_drewN ?_ _ | refine blk_drew ?_ | refine blk_alloc ?_ _)); refine blk_put (cs := #[.int .i64 0, .int .i64 0, .string (⟨#[]⟩ : ByteArray), .int .i64 0, .bool false, .slice none 0 0, .slice none 0 0]) ?_ 0 _ rfl; exact pkK BK1309.out) hb); replace HB := am (below_step (pkW HB.out) hb); (try clear hb)))
    go_meet
    case rel => exact ⟨_, ((t1308 != t1283)), rfx, H', ⟨by first | omega | exact Nat.le_refl _⟩, ⟨by (with_reducible repeat (first | apply Kd.R_alloc | apply Kd.R_drewN | apply Kd.R_drew)); exact Kd.R_mono HO1279.out (fun _ hk => ⟨hk.1.1.1.1.1.1, ⟨hk.1.1.1.2, ⟨hk.1.1.2, ⟨hk.1.2, hk.2⟩⟩⟩⟩)⟩, ⟨by (with_reducible repeat (first | apply Kd.R_alloc | apply Kd.R_drewN | apply Kd.R_drew)); exact Kd.R_mono HO1282.out (fun _ hk => ⟨hk.1.1.1.1.1.1, ⟨hk.1.1.1.2, ⟨hk.1.1.2, ⟨hk.1.2, hk.2⟩⟩⟩⟩)⟩, ⟨by (with_reducible repeat (first | apply Kd.R_alloc | apply Kd.R_drewN | apply Kd.R_drew)); exact Kd.R_mono HO1292.out (fun _ hk => ⟨hk.1.1.1.2, ⟨hk.1.1.2, ⟨hk.1.1.1.1.1.1, ⟨hk.1.2, hk.2⟩⟩⟩⟩)⟩, ⟨by (with_reducible repeat (first | apply Kd.R_alloc | apply Kd.R_drewN | apply Kd.R_drew)); exact Kd.R_mono HO1295.out (fun _ hk => ⟨hk.1.1.1.2, ⟨hk.1.1.2, ⟨hk.1.1.1.1.1.1, ⟨hk.1.2, hk.2⟩⟩⟩⟩)⟩, ⟨by (with_reducible repeat (first | apply Kd.R_alloc | apply Kd.R_drewN | apply Kd.R_drew)); exact Kd.R_mono HO1304.out (fun _ hk => ⟨hk.1.1.1.2, ⟨hk.1.1.2, ⟨hk.1.2, ⟨hk.2, hk.1.1.1.1.1.1⟩⟩⟩⟩)⟩, ⟨by (with_reducible repeat (first | apply Kd.R_alloc | apply Kd.R_drewN | apply Kd.R_drew)); exact Kd.R_mono HO1307.out (fun _ hk => ⟨hk.1.1.1.2, ⟨hk.1.1.2, ⟨hk.1.2, ⟨hk.2, hk.1.1.1.1.1.1⟩⟩⟩⟩)⟩, ⟨pkK BK1259.out⟩, ⟨pkK BK1284.out⟩, ⟨pkK BK1296.out⟩, ⟨pkK BK1309.out⟩, ⟨pkW HB.out⟩⟩
   ·replace c43 := Bool.eq_false_iff.mpr c43
    subst c43
    replace H : (laws_FnExactUnwatch.j0 k a1 t1283 t1308 true a0_0 a0_1 a0_2 a0_3 a0_4 l0_5 l0_6 t1272 t1273 t1274 t1275 t1276 t1277 t1280 t1285 t1286 t1287 t1288 t1289 t1290 t1293 t1297 t1298 t1299 t1300 t1301 t1302 t1305) = some r := by rw [if_neg (show ¬ (false = true) by decide)] at H; exact H
    cases k with
    | zero => exact absurd H (by simp [laws_FnExactUnwatch.j0])
    | succ k_ => (simp only [laws_FnExactUnwatch.j0, if_pos] at H; exact absurd (Option.some.inj H) (by rw [HQ_.out]; simp))
  case rest =>
   clear HC12
   try clear c1
   try clear c2
   try clear p2
   try clear c3
   try clear c4
   try clear c4b0
   try clear c5
   try clear c13
   try clear c22
   try clear c29
   try clear c30
   try clear c31
   try clear c32
   try clear c34
   try clear c36
   try clear c37
   try clear c38
   try clear c43
   try clear c44
   try clear c45
   try clear c46
   try clear c48
   try clear c49
   try clear c50
   try clear c51
   try clear hcz14_0
   try clear hcz14_1
   try clear hcz14_2
   try clear hcz14_3
   try clear hcz14_4
   try clear hcz14_5
   try clear hcz14_6
   try clear hcz16_0
   try clear hcz16_1
   try clear hcz16_2
   try clear hcz16_3
   try clear hcz16_4
   try clear hcz16_5
   try clear hcz16_6
   try clear hcz23_0
   try clear hcz23_1
   try clear hcz23_2
   try clear hcz23_3
   try clear hcz23_4
   try clear hcz23_5
   try clear hcz23_6
   try clear hcz26_0
   try clear hcz26_1
   try clear hcz26_2
   try clear hcz26_3
   try clear hcz26_4
   try clear hcz26_5
   try clear hcz26_6
   try clear hcz31_0
   try clear hcz31_1
   try clear hcz31_2
   try clear hcz31_3
   try clear hcz31_4
   try clear hcz31_5
   try clear hcz31_6
   try clear hcz39_0
   try clear hcz39_1
   try clear hcz39_2
   try clear hcz39_3
   try clear hcz39_4
   try clear hcz39_5
   try clear hcz39_6
   try clear hcz47_0
   try clear hcz47_1
   try clear hcz47_2
   try clear hcz47_3
   try clear hcz47_4
   try clear hcz47_5
   try clear hcz47_6
   try clear hcz50_0
   try clear hcz50_1
   try clear hcz50_2
   try clear hcz50_3
   try clear hcz50_4
   try clear hcz50_5
   try clear hcz50_6
   try clear hcz6_0
   try clear hcz6_1
   try clear hcz6_2
   try clear hcz6_3
   try clear hcz6_4
   try clear hcz6_5
   try clear hcz6_6
   try clear hfz14_0
   try clear hfz14_1
   try clear hfz14_2
   try clear hfz14_3
   try clear hfz14_4
   try clear hfz14_5
   try clear hfz14_6
   try clear hfz16_0
   try clear hfz16_1
   try clear hfz16_2
   try clear hfz16_3
   try clear hfz16_4
   try clear hfz16_5
   try clear hfz16_6
   try clear hfz23_0
   try clear hfz23_1
   try clear hfz23_2
   try clear hfz23_3
   try clear hfz23_4
   try clear hfz23_5
   try clear hfz23_6
   try clear hfz26_0
   try clear hfz26_1
   try clear hfz26_2
   try clear hfz26_3
   try clear hfz26_4
   try clear hfz26_5
   try clear hfz26_6
   try clear hfz31_0
   try clear hfz31_1
   try clear hfz31_2
   try clear hfz31_3
   try clear hfz31_4
   try clear hfz31_5
   try clear hfz31_6
   try clear hfz39_0
   try clear hfz39_1
   try clear hfz39_2
   try clear hfz39_3
   try clear hfz39_4
   try clear hfz39_5
   try clear hfz39_6
   try clear hfz47_0
   try clear hfz47_1
   try clear hfz47_2
   try clear hfz47_3
   try clear hfz47_4
   try clear hfz47_5
   try clear hfz47_6
   try clear hfz50_0
   try clear hfz50_1
   try clear hfz50_2
   try clear hfz50_3
   try clear hfz50_4
   try clear hfz50_5
   try clear hfz50_6
   try clear hfz6_0
   try clear hfz6_1
   try clear hfz6_2
   try clear hfz6_3
   try clear hfz6_4
   try clear hfz6_5
   try clear hfz6_6
   obtain ⟨kq, x44_11, rfl, HA, HJ11, HO_1285005, HO_1285006, HO_1297005, HO_1297006, HO_1310005, HO_1310006, BK1259, BK1284, BK1296, BK1309, HB⟩ := hcut
   cases kq with
   | zero => exact absurd HA.out (by simp [laws_FnExactUnwatch.j0])
   | succ kj11 =>
    have H := HA.out
    clear HA
    simp only [laws_FnExactUnwatch.j0] at H
    by_cases c52 : x44_11 = true
    ·subst c52
     replace H : (some false) = some r := by rw [if_pos rfl] at H; exact H
     exact absurd (Option.some.inj H) (by rw [HQ_.out]; simp)
    ·replace c52 := Bool.eq_false_iff.mpr c52
     subst c52
     replace H : ((laws_toCell.f kj11 a0_0 a0_1 a0_2 a0_3 a0_4 l0_5 l0_6).bind fun bt1311 => ((laws_eqCell.f kj11 t1285 t1286 t1287 t1288 t1289 t1290 t1293 bt1311.1 bt1311.2.1 bt1311.2.2.1 bt1311.2.2.2.1 bt1311.2.2.2.2.1 bt1311.2.2.2.2.2.1 bt1311.2.2.2.2.2.2).bind fun t1322 => (if t1322 = true then ((laws_markCell.f kj11 t1285 t1286 t1287 t1288 t1289 t1290 t1293 1).bind fun bt1323 => (if bt1323.1 < 0 then (laws_FnExactUnwatch.j1 kj11 a1 t1283 true a0_0 a0_1 a0_2 a0_3 a0_4 l0_5 l0_6 t1272 t1273 t1274 t1275 t1276 t1277 t1280 t1297 t1298 t1299 t1300 t1301 t1302 t1305) else ((laws_eqCell.f kj11 t1297 t1298 t1299 t1300 t1301 t1302 t1305 t1272 t1273 t1274 t1275 t1276 t1277 t1280).bind fun t1326 => (if t1326 = true then (laws_FnExactUnwatch.j1 kj11 a1 t1283 (t1308 != t1283) a0_0 a0_1 a0_2 a0_3 a0_4 l0_5 l0_6 t1272 t1273 t1274 t1275 t1276 t1277 t1280 t1297 t1298 t1299 t1300 t1301 t1302 t1305) else (laws_FnExactUnwatch.j1 kj11 a1 t1283 true a0_0 a0_1 a0_2 a0_3 a0_4 l0_5 l0_6 t1272 t1273 t1274 t1275 t1276 t1277 t1280 t1297 t1298 t1299 t1300 t1301 t1302 t1305))))) else (some false)))) = some r := by rw [if_neg (show ¬ (false = true) by decide)] at H; exact H
     replace H := Option.bind_eq_some_iff.mp H
     obtain ⟨⟨t1311, t1312, t1313, t1314, t1315, t1316, t1319⟩, A530, H⟩ := H
     replace H : ((laws_eqCell.f kj11 t1285 t1286 t1287 t1288 t1289 t1290 t1293 t1311 t1312 t1313 t1314 t1315 t1316 t1319).bind fun t1322 => (if t1322 = true then ((laws_markCell.f kj11 t1285 t1286 t1287 t1288 t1289 t1290 t1293 1).bind fun bt1323 => (if bt1323.1 < 0 then (laws_FnExactUnwatch.j1 kj11 a1 t1283 true a0_0 a0_1 a0_2 a0_3 a0_4 l0_5 l0_6 t1272 t1273 t1274 t1275 t1276 t1277 t1280 t1297 t1298 t1299 t1300 t1301 t1302 t1305) else ((laws_eqCell.f kj11 t1297 t1298 t1299 t1300 t1301 t1302 t1305 t1272 t1273 t1274 t1275 t1276 t1277 t1280).bind fun t1326 => (if t1326 = true then (laws_FnExactUnwatch.j1 kj11 a1 t1283 (t1308 != t1283) a0_0 a0_1 a0_2 a0_3 a0_4 l0_5 l0_6 t1272 t1273 t1274 t1275 t1276 t1277 t1280 t1297 t1298 t1299 t1300 t1301 t1302 t1305) else (laws_FnExactUnwatch.j1 kj11 a1 t1283 true a0_0 a0_1 a0_2 a0_3 a0_4 l0_5 l0_6 t1272 t1273 t1274 t1275 t1276 t1277 t1280 t1297 t1298 t1299 t1300 t1301 t1302 t1305))))) else (some false))) = some r := H
     have A53 := am A530
     clear A530
     replace H := Option.bind_eq_some_iff.mp H
     obtain ⟨t1322, A540, H⟩ := H
     replace H : (if t1322 = true then ((laws_markCell.f kj11 t1285 t1286 t1287 t1288 t1289 t1290 t1293 1).bind fun bt1323 => (if bt1323.1 < 0 then (laws_FnExactUnwatch.j1 kj11 a1 t1283 true a0_0 a0_1 a0_2 a0_3 a0_4 l0_5 l0_6 t1272 t1273 t1274 t1275 t1276 t1277 t1280 t1297 t1298 t1299 t1300 t1301 t1302 t1305) else ((laws_eqCell.f kj11 t1297 t1298 t1299 t1300 t1301 t1302 t1305 t1272 t1273 t1274 t1275 t1276 t1277 t1280).bind fun t1326 => (if t1326 = true then (laws_FnExactUnwatch.j1 kj11 a1 t1283 (t1308 != t1283) a0_0 a0_1 a0_2 a0_3 a0_4 l0_5 l0_6 t1272 t1273 t1274 t1275 t1276 t1277 t1280 t1297 t1298 t1299 t1300 t1301 t1302 t1305) else (laws_FnExactUnwatch.j1 kj11 a1 t1283 true a0_0 a0_1 a0_2 a0_3 a0_4 l0_5 l0_6 t1272 t1273 t1274 t1275 t1276 t1277 t1280 t1297 t1298 t1299 t1300 t1301 t1302 t1305))))) else (some false)) = some r := H
     have A54 := am A540
     clear A540
     by_cases c55 : t1322 = true
     ·subst c55
      replace H : ((laws_markCell.f kj11 t1285 t1286 t1287 t1288 t1289 t1290 t1293 1).bind fun bt1323 => (if bt1323.1 < 0 then (laws_FnExactUnwatch.j1 kj11 a1 t1283 true a0_0 a0_1 a0_2 a0_3 a0_4 l0_5 l0_6 t1272 t1273 t1274 t1275 t1276 t1277 t1280 t1297 t1298 t1299 t1300 t1301 t1302 t1305) else ((laws_eqCell.f kj11 t1297 t1298 t1299 t1300 t1301 t1302 t1305 t1272 t1273 t1274 t1275 t1276 t1277 t1280).bind fun t1326 => (if t1326 = true then (laws_FnExactUnwatch.j1 kj11 a1 t1283 (t1308 != t1283) a0_0 a0_1 a0_2 a0_3 a0_4 l0_5 l0_6 t1272 t1273 t1274 t1275 t1276 t1277 t1280 t1297 t1298 t1299 t1300 t1301 t1302 t1305) else (laws_FnExactUnwatch.j1 kj11 a1 t1283 true a0_0 a0_1 a0_2 a0_3 a0_4 l0_5 l0_6 t1272 t1273 t1274 t1275 t1276 t1277 t1280 t1297 t1298 t1299 t1300 t1301 t1302 t1305))))) = some r := by rw [if_pos rfl] at H; exact H
      replace H := Option.bind_eq_some_iff.mp H
      obtain ⟨⟨t1323, t1324, t1325⟩, A560, H⟩ := H
      replace H : (if t1323 < 0 then (laws_FnExactUnwatch.j1 kj11 a1 t1283 true a0_0 a0_1 a0_2 a0_3 a0_4 l0_5 l0_6 t1272 t1273 t1274 t1275 t1276 t1277 t1280 t1297 t1298 t1299 t1300 t1301 t1302 t1305) else ((laws_eqCell.f kj11 t1297 t1298 t1299 t1300 t1301 t1302 t1305 t1272 t1273 t1274 t1275 t1276 t1277 t1280).bind fun t1326 => (if t1326 = true then (laws_FnExactUnwatch.j1 kj11 a1 t1283 (t1308 != t1283) a0_0 a0_1 a0_2 a0_3 a0_4 l0_5 l0_6 t1272 t1273 t1274 t1275 t1276 t1277 t1280 t1297 t1298 t1299 t1300 t1301 t1302 t1305) else (laws_FnExactUnwatch.j1 kj11 a1 t1283 true a0_0 a0_1 a0_2 a0_3 a0_4 l0_5 l0_6 t1272 t1273 t1274 t1275 t1276 t1277 t1280 t1297 t1298 t1299 t1300 t1301 t1302 t1305)))) = some r := H
      have A56 := am A560
      clear A560
      have HC57 := am H
      clear H
      try go_wp2
      replace HO_1285005 := am (Kd.R_drew HO_1285005.out)
      replace HO_1285006 := am (Kd.R_drew HO_1285006.out)
      replace HO_1297005 := am (Kd.R_drew HO_1297005.out)
      replace HO_1297006 := am (Kd.R_drew HO_1297006.out)
      replace HO_1310005 := am (Kd.R_drew HO_1310005.out)
      replace HO_1310006 := am (Kd.R_drew HO_1310006.out)
      replace BK1259 := am (blk_drew BK1259.out)
      replace BK1284 := am (blk_drew BK1284.out)
      replace BK1296 := am (blk_drew BK1296.out)
      replace BK1309 := am (blk_drew BK1309.out)
      replace HB := am (below_drew1 HB.out)
      refine start_ (n := 5) (S := fun w' => w'.cell? ⟨gb1296, 0, none⟩ = some (.int .i64 t1285) ∧ w'.cell? ⟨gb1296, 1, none⟩ = some (.int .i64 t1286) ∧ w'.cell? ⟨gb1296, 2, none⟩ = some (.string t1287) ∧ w'.cell? ⟨gb1296, 3, none⟩ = some (.int .i64 t1288) ∧ w'.cell? ⟨gb1296, 4, none⟩ = some (.bool t1289) ∧ w'.cell? ⟨gb1296, 5, none⟩ = some (.slice Ao32 t1290.length co32) ∧ w'.cell? ⟨gb1296, 6, none⟩ = some (.slice Ao33 t1293.length co33) ∧ w'.cell? ⟨gb1259, 0, none⟩ = some (.int .i64 a0_0) ∧ w'.cell? ⟨gb1259, 1, none⟩ = some (.int .i64 a0_1) ∧ w'.cell? ⟨gb1259, 2, none⟩ = some (.string a0_2) ∧ w'.cell? ⟨gb1259, 3, none⟩ = some (.int .i64 a0_3) ∧ w'.cell? ⟨gb1259, 4, none⟩ = some (.bool a0_4) ∧ w'.cell? ⟨gb1259, 5, none⟩ = some (.slice A0_5 l0_5.length c0_5) ∧ w'.cell? ⟨gb1259, 6, none⟩ = some (.slice A0_6 l0_6.length c0_6)) (ds := []) #[false, false, false, false, false] (by kernel_rfl) rfl rfl ⟨(blk_cell BK1296.out 0).trans rfl, (blk_cell BK1296.out 1).trans rfl, (blk_cell BK1296.out 2).trans rfl, (blk_cell BK1296.out 3).trans rfl, (blk_cell BK1296.out 4).trans rfl, (blk_cell BK1296.out 5).trans rfl, (blk_cell BK1296.out 6).trans rfl, (blk_cell BK1259.out 0).trans rfl, (blk_cell BK1259.out 1).trans rfl, (blk_cell BK1259.out 2).trans rfl, (blk_cell BK1259.out 3).trans rfl, (blk_cell BK1259.out 4).trans rfl, (blk_cell BK1259.out 5).trans rfl, (blk_cell BK1259.out 6).trans rfl⟩ (fun hHeld => ?_)
      generalize wc.drew = w58 at HO_1285005 HO_1285006 HO_1297005 HO_1297006 HO_1310005 HO_1310006 BK1259 BK1284 BK1296 BK1309 HB hHeld ⊢
      refine take_ (i := 0) (N := some 45) (v := ?_) (a' := ?_) #[true, false, false, false, false] rfl rfl (by kernel_rfl) (fun _ _ _ h => h) (Or.inl ⟨by rfl, ?_⟩) hHeld ?_ ?_
      rotate_left
      ·rintro w' ⟨s0, s1, s2, s3, s4, s5, s6, s7, s8, s9, s10, s11, s12, s13⟩
       go_simp
       with_reducible rfl
      rotate_left
      ·simp only [Act.put, List.setIfInBounds_toArray, List.set_cons_zero, List.set_cons_succ, i64_w, i32_w]
       rfl
      refine take_ (i := 1) (N := some 46) (v := ?_) (a' := ?_) #[true, true, false, false, false] rfl rfl (by kernel_rfl) (fun _ _ _ h => h) (Or.inl ⟨by rfl, ?_⟩) hHeld ?_ ?_
      rotate_left
      ·rintro w' ⟨s0, s1, s2, s3, s4, s5, s6, s7, s8, s9, s10, s11, s12, s13⟩
       go_simp
       with_reducible rfl
      rotate_left
      ·simp only [Act.put, List.setIfInBounds_toArray, List.set_cons_zero, List.set_cons_succ, i64_w, i32_w]
       rfl
      refine one_ (i := 2) (N := some 47) #[true, true, true, false, false] rfl rfl (by kernel_rfl) (by decide) (fun K hK => ?_)
      refine goes_ Try.func32 (by kernel_rfl) rfl #[.agg #[.int .i64 a0_0, .int .i64 a0_1, .string a0_2, .int .i64 a0_3, .bool a0_4, .slice A0_5 l0_5.length c0_5, .slice A0_6 l0_6.length c0_6]] (by rfl) rfl rfl mpx ?_
      with_reducible refine (laws_toCell.calls kj11 a0_0 a0_1 a0_2 a0_3 a0_4 _ _ l0_5 _ _ l0_6 t1311 t1312 t1313 t1314 t1315 t1316 t1319 _ ?side1 ?side2 ?side3 ?side4 A53.out).mono ?_
      (case side1 => exact pkC (Kd.C_below HR0_5.out HB.out))
      (case side2 => exact HC0_5.out)
      (case side3 => exact pkC (Kd.C_below HR0_6.out HB.out))
      (case side4 => exact HC0_6.out)
      rintro e w59 ⟨v1317, v1320, rfl, ho0, ho1, hb⟩
      refine ⟨_, rfl, ?_⟩
      have HO1318 := am (Kd.R_lower (Kd.R_new' (Kd.R_new' (Kd.R_new' (Kd.R_new' (Kd.R_new' (Kd.R_new' ho0 (Kd.R_lt (pkR HO_1285005.out))) (Kd.R_lt (pkR HO_1285006.out))) (Kd.R_lt (pkR HO_1297005.out))) (Kd.R_lt (pkR HO_1297006.out))) (Kd.R_lt (pkR HO_1310005.out))) (Kd.R_lt (pkR HO_1310006.out))) (below_size (pkW HB.out)))
      have HO1321 := am (Kd.R_lower (Kd.R_new' (Kd.R_new' (Kd.R_new' (Kd.R_new' (Kd.R_new' (Kd.R_new' ho1 (Kd.R_lt (pkR HO_1285005.out))) (Kd.R_lt (pkR HO_1285006.out))) (Kd.R_lt (pkR HO_1297005.out))) (Kd.R_lt (pkR HO_1297006.out))) (Kd.R_lt (pkR HO_1310005.out))) (Kd.R_lt (pkR HO_1310006.out))) (below_size (pkW HB.out)))
      replace HO_1285005 := am (Kd.R_mono (Kd.R_told (Kd.R_told (Kd.R_old (pkR HO_1285005.out) hb) (Kd.R_base ho0)) (Kd.R_base ho1)) (fun _ h_ => h_.1))
      replace HO_1285006 := am (Kd.R_mono (Kd.R_told (Kd.R_told (Kd.R_old (pkR HO_1285006.out) hb) (Kd.R_base ho0)) (Kd.R_base ho1)) (fun _ h_ => h_.1))
      replace HO_1297005 := am (Kd.R_mono (Kd.R_told (Kd.R_told (Kd.R_old (pkR HO_1297005.out) hb) (Kd.R_base ho0)) (Kd.R_base ho1)) (fun _ h_ => h_.1))
      replace HO_1297006 := am (Kd.R_mono (Kd.R_told (Kd.R_told (Kd.R_old (pkR HO_1297006.out) hb) (Kd.R_base ho0)) (Kd.R_base ho1)) (fun _ h_ => h_.1))
      replace HO_1310005 := am (Kd.R_mono (Kd.R_told (Kd.R_told (Kd.R_old (pkR HO_1310005.out) hb) (Kd.R_base ho0)) (Kd.R_base ho1)) (fun _ h_ => h_.1))
      replace HO_1310006 := am (Kd.R_mono (Kd.R_told (Kd.R_told (Kd.R_old (pkR HO_1310006.out) hb) (Kd.R_base ho0)) (Kd.R_base ho1)) (fun _ h_ => h_.1))
      replace BK1259 := am (blk_below (pkK BK1259.out) hb)
      replace BK1284 := am (blk_below (pkK BK1284.out) hb)
      replace BK1296 := am (blk_below (pkK BK1296.out) hb)
      replace BK1309 := am (blk_below (pkK BK1309.out) hb)
      replace HB := am (below_step (pkW HB.out) hb)
      (try clear hb); (try clear ho0 ho1)
      obtain ⟨Ao60, co60, eo60⟩ := Kd.R_slice HO1318.out
      (first | subst eo60 | (injection eo60 with f1_ f2_ f3_; have f4_ := f1_.symm; have f5_ := f3_.symm; clear f1_ f2_ f3_; subst f4_; subst f5_))
      obtain ⟨Ao61, co61, eo61⟩ := Kd.R_slice HO1321.out
      (first | subst eo61 | (injection eo61 with f1_ f2_ f3_; have f4_ := f1_.symm; have f5_ := f3_.symm; clear f1_ f2_ f3_; subst f4_; subst f5_))
      refine hK.out _ _ ⟨(blk_cell BK1296.out 0).trans rfl, (blk_cell BK1296.out 1).trans rfl, (blk_cell BK1296.out 2).trans rfl, (blk_cell BK1296.out 3).trans rfl, (blk_cell BK1296.out 4).trans rfl, (blk_cell BK1296.out 5).trans rfl, (blk_cell BK1296.out 6).trans rfl, (blk_cell BK1259.out 0).trans rfl, (blk_cell BK1259.out 1).trans rfl, (blk_cell BK1259.out 2).trans rfl, (blk_cell BK1259.out 3).trans rfl, (blk_cell BK1259.out 4).trans rfl, (blk_cell BK1259.out 5).trans rfl, (blk_cell BK1259.out 6).trans rfl⟩ (fun hHeld => ?_)
      clear hK K
      refine norm_ (a' := ?_) ?_ ?_
      rotate_left
      ·show Act.put _ (some 47) _ = _
       simp only [Act.put, List.setIfInBounds_toArray, List.set_cons_zero, List.set_cons_succ, i64_w, i32_w]
       rfl
      refine one_ (i := 3) (N := some 48) #[true, true, true, true, false] rfl rfl (by kernel_rfl) (by decide) (fun K hK => ?_)
      refine goes_ Try.func34 (by kernel_rfl) rfl #[.agg #[.int .i64 t1285, .int .i64 t1286, .string t1287, .int .i64 t1288, .bool t1289, .slice Ao32 t1290.length co32, .slice Ao33 t1293.length co33], .agg #[.int .i64 t1311, .int .i64 t1312, .string t1313, .int .i64 t1314, .bool t1315, .slice Ao60 t1316.length co60, .slice Ao61 t1319.length co61]] (by rfl) rfl rfl mpx ?_
      with_reducible refine (laws_eqCell.calls kj11 t1285 t1286 t1287 t1288 t1289 _ _ t1290 _ _ t1293 t1311 t1312 t1313 t1314 t1315 _ _ t1316 _ _ t1319 true _ ?side1 ?side2 ?side3 ?side4 ?side5 ?side6 ?side7 ?side8 A54.out).mono ?_
      (case side1 => exact pkC (Kd.R_reads' HO_1297005.out).2.2)
      (case side2 => exact (Kd.R_reads' HO_1297005.out).2.1)
      (case side3 => exact pkC (Kd.R_reads' HO_1297006.out).2.2)
      (case side4 => exact (Kd.R_reads' HO_1297006.out).2.1)
      (case side5 => exact pkC (Kd.R_reads' HO1318.out).2.2)
      (case side6 => exact (Kd.R_reads' HO1318.out).2.1)
      (case side7 => exact pkC (Kd.R_reads' HO1321.out).2.2)
      (case side8 => exact (Kd.R_reads' HO1321.out).2.1)
      rintro e w62 ⟨rfl, hb⟩
      refine ⟨_, rfl, ?_⟩
      replace HO_1285005 := am (Kd.R_below (pkR HO_1285005.out) hb)
      replace HO_1285006 := am (Kd.R_below (pkR HO_1285006.out) hb)
      replace HO_1297005 := am (Kd.R_below (pkR HO_1297005.out) hb)
      replace HO_1297006 := am (Kd.R_below (pkR HO_1297006.out) hb)
      replace HO_1310005 := am (Kd.R_below (pkR HO_1310005.out) hb)
      replace HO_1310006 := am (Kd.R_below (pkR HO_1310006.out) hb)
      replace HO1318 := am (Kd.R_below (pkR HO1318.out) hb)
      replace HO1321 := am (Kd.R_below (pkR HO1321.out) hb)
      replace BK1259 := am (blk_below (pkK BK1259.out) hb)
      replace BK1284 := am (blk_below (pkK BK1284.out) hb)
      replace BK1296 := am (blk_below (pkK BK1296.out) hb)
      replace BK1309 := am (blk_below (pkK BK1309.out) hb)
      replace HB := am (below_step (pkW HB.out) hb)
      (try clear hb)
      refine hK.out _ _ ⟨(blk_cell BK1296.out 0).trans rfl, (blk_cell BK1296.out 1).trans rfl, (blk_cell BK1296.out 2).trans rfl, (blk_cell BK1296.out 3).trans rfl, (blk_cell BK1296.out 4).trans rfl, (blk_cell BK1296.out 5).trans rfl, (blk_cell BK1296.out 6).trans rfl, (blk_cell BK1259.out 0).trans rfl, (blk_cell BK1259.out 1).trans rfl, (blk_cell BK1259.out 2).trans rfl, (blk_cell BK1259.out 3).trans rfl, (blk_cell BK1259.out 4).trans rfl, (blk_cell BK1259.out 5).trans rfl, (blk_cell BK1259.out 6).trans rfl⟩ (fun hHeld => ?_)
      clear hK K
      refine norm_ (a' := ?_) ?_ ?_
      rotate_left
      ·show Act.put _ (some 48) _ = _
       simp only [Act.put, List.setIfInBounds_toArray, List.set_cons_zero, List.set_cons_succ, i64_w, i32_w]
       rfl
      refine pure_ (i := 4) (N := some 49) (v := ?_) (a' := ?_) #[true, true, true, true, true] rfl rfl (by kernel_rfl) (fun _ _ _ h => h) (Or.inl ⟨by rfl, ?_⟩) ?_ ?_
      rotate_left
      ·intro w'
       go_simp
       with_reducible rfl
      rotate_left
      ·simp only [Act.put, List.setIfInBounds_toArray, List.set_cons_zero, List.set_cons_succ, i64_w, i32_w]
       rfl
      refine done_ (by kernel_rfl) ?_
      have hnb63 := NB1296_1259.out
      have hnc63 := NB1259_1296.out
      have hnb64 := NB1296_1284.out
      have hnc64 := NB1284_1296.out
      have hnb65 := NB1296_1309.out
      have hnc65 := NB1309_1296.out
      obtain ⟨hcz66_0, hcz66_1, hcz66_2, hcz66_3, hcz66_4, hcz66_5, hcz66_6, hfz66_0, hfz66_1, hfz66_2, hfz66_3, hfz66_4, hfz66_5, hfz66_6⟩ := bk7 BK1296.out
      go_upto_region 14 with (first | ((with_reducible refine gate_callee (f := 48) rfl ?_); refine goesL_ (some 52) rfl rfl Try.func48 (by kernel_rfl) rfl #[.agg #[.int .i64 t1285, .int .i64 t1286, .string t1287, .int .i64 t1288, .bool t1289, .slice Ao32 t1290.length co32, .slice Ao33 t1293.length co33], .int .i64 1] rfl mpx ?_; (with_reducible refine (laws_markCell.calls kj11 t1285 t1286 t1287 t1288 t1289 (fun k_ => some k_ = (.slice Ao32 t1290.length co32 : Value).ownBlock) (.slice Ao32 t1290.length co32) t1290 (fun k_ => some k_ = (.slice Ao33 t1293.length co33 : Value).ownBlock) (.slice Ao33 t1293.length co33) t1293 1 t1323 t1324 t1325 w _ ?side1 ?side2 ?side3 ?side4 ?side5 A56.out).mono ?_); (case side1 => repeat (first | (with_reducible first | exact HB.out | apply below_alloc | apply pw_below_drewN | apply below_drew1 | refine below_set ?_ GE1259.out | refine below_set ?_ GE1284.out | refine below_set ?_ GE1296.out | refine below_set ?_ GE1309.out) | exact HB.out)); (case side2 => exact Kd.R_tight rfl HO_1297005.out); (case side3 => exact fun k_ e_ => (HO_1297005.out.1 k_ e_.symm).1.1.2.2.1); (case side4 => exact Kd.R_tight rfl HO_1297006.out); (case side5 => exact fun k_ e_ => (HO_1297006.out.1 k_ e_.symm).1.1.2.2.1); rintro e w67 ⟨rfl, hy0, hy1, hb, hkp⟩; refine ⟨_, rfl, ?_⟩; replace HO_1285005 := am (Kd.R_mono (ok' := fun k_ => some k_ ≠ (.slice Ao25 t1280.length co25 : Value).ownBlock ∧ some k_ ≠ (.slice Ao32 t1290.length co32 : Value).ownBlock ∧ some k_ ≠ (.slice Ao33 t1293.length co33 : Value).ownBlock ∧ some k_ ≠ (.slice Ao40 t1302.length co40 : Value).ownBlock ∧ some k_ ≠ (.slice Ao41 t1305.length co41 : Value).ownBlock ∧ some k_ ≠ (.slice Ao60 t1316.length co60 : Value).ownBlock ∧ some k_ ≠ (.slice Ao61 t1319.length co61 : Value).ownBlock) (Kd.R_keptB (HO_1285005.out) hkp (fun k_ hk_ hs_ => Or.elim hs_ (fun e_ => (hk_.1.1.2.1) e_) (fun e_ => (hk_.1.1.2.2.1) e_))) (fun k_ hk_ => ⟨hk_.1.1.1.1, hk_.1.1.1.2.1, hk_.1.1.1.2.2.1, hk_.1.1.1.2.2.2.1, hk_.1.1.1.2.2.2.2, hk_.1.1.2, hk_.1.2⟩)); replace HO_1285006 := am (Kd.R_mono (ok' := fun k_ => some k_ ≠ (.slice Ao24 t1277.length co24 : Value).ownBlock ∧ some k_ ≠ (.slice Ao32 t1290.length co32 : Value).ownBlock ∧ some k_ ≠ (.slice Ao33 t1293.length co33 : Value).ownBlock ∧ some k_ ≠ (.slice Ao40 t1302.length co40 : Value).ownBlock ∧ some k_ ≠ (.slice Ao41 t1305.length co41 : Value).ownBlock ∧ some k_ ≠ (.slice Ao60 t1316.length co60 : Value).ownBlock ∧ some k_ ≠ (.slice Ao61 t1319.length co61 : Value).ownBlock) (Kd.R_keptB (HO_1285006.out) hkp (fun k_ hk_ hs_ => Or.elim hs_ (fun e_ => (hk_.1.1.2.1) e_) (fun e_ => (hk_.1.1.2.2.1) e_))) (fun k_ hk_ => ⟨hk_.1.1.1.1, hk_.1.1.1.2.1, hk_.1.1.1.2.2.1, hk_.1.1.1.2.2.2.1, hk_.1.1.1.2.2.2.2, hk_.1.1.2, hk_.1.2⟩)); replace HO_1310005 := am (Kd.R_mono (ok' := fun k_ => some k_ ≠ (.slice Ao24 t1277.length co24 : Value).ownBlock ∧ some k_ ≠ (.slice Ao25 t1280.length co25 : Value).ownBlock ∧ some k_ ≠ (.slice Ao32 t1290.length co32 : Value).ownBlock ∧ some k_ ≠ (.slice Ao33 t1293.length co33 : Value).ownBlock ∧ some k_ ≠ (.slice Ao41 t1305.length co41 : Value).ownBlock ∧ some k_ ≠ (.slice Ao60 t1316.length co60 : Value).ownBlock ∧ some k_ ≠ (.slice Ao61 t1319.length co61 : Value).ownBlock) (Kd.R_keptB (HO_1310005.out) hkp (fun k_ hk_ hs_ => Or.elim hs_ (fun e_ => (hk_.1.1.2.2.1) e_) (fun e_ => (hk_.1.1.2.2.2.1) e_))) (fun k_ hk_ => ⟨hk_.1.1.1.1, hk_.1.1.1.2.1, hk_.1.1.1.2.2.1, hk_.1.1.1.2.2.2.1, hk_.1.1.1.2.2.2.2, hk_.1.1.2, hk_.1.2⟩)); replace HO_1310006 := am (Kd.R_mono (ok' := fun k_ => some k_ ≠ (.slice Ao24 t1277.length co24 : Value).ownBlock ∧ some k_ ≠ (.slice Ao25 t1280.length co25 : Value).ownBlock ∧ some k_ ≠ (.slice Ao32 t1290.length co32 : Value).ownBlock ∧ some k_ ≠ (.slice Ao33 t1293.length co33 : Value).ownBlock ∧ some k_ ≠ (.slice Ao40 t1302.length co40 : Value).ownBlock ∧ some k_ ≠ (.slice Ao60 t1316.length co60 : Value).ownBlock ∧ some k_ ≠ (.slice Ao61 t1319.length co61 : Value).ownBlock) (Kd.R_keptB (HO_1310006.out) hkp (fun k_ hk_ hs_ => Or.elim hs_ (fun e_ => (hk_.1.1.2.2.1) e_) (fun e_ => (hk_.1.1.2.2.2.1) e_))) (fun k_ hk_ => ⟨hk_.1.1.1.1, hk_.1.1.1.2.1, hk_.1.1.1.2.2.1, hk_.1.1.1.2.2.2.1, hk_.1.1.1.2.2.2.2, hk_.1.1.2, hk_.1.2⟩)); replace BK1259 := am (blk_kept (pkK BK1259.out) hkp (fun hs_ => Or.elim hs_ (fun e_ => (fun e_ => (Kd.R_ne HO_1297005.out BK1259.out (by decide)) e_) e_) (fun e_ => (fun e_ => (Kd.R_ne HO_1297006.out BK1259.out (by decide)) e_) e_))); replace BK1284 := am (blk_kept (pkK BK1284.out) hkp (fun hs_ => Or.elim hs_ (fun e_ => (fun e_ => (Kd.R_ne HO_1297005.out BK1284.out (by decide)) e_) e_) (fun e_ => (fun e_ => (Kd.R_ne HO_1297006.out BK1284.out (by decide)) e_) e_))); replace BK1296 := am (blk_kept (pkK BK1296.out) hkp (fun hs_ => Or.elim hs_ (fun e_ => (fun e_ => (Kd.R_ne HO_1297005.out BK1296.out (by decide)) e_) e_) (fun e_ => (fun e_ => (Kd.R_ne HO_1297006.out BK1296.out (by decide)) e_) e_))); replace BK1309 := am (blk_kept (pkK BK1309.out) hkp (fun hs_ => Or.elim hs_ (fun e_ => (fun e_ => (Kd.R_ne HO_1297005.out BK1309.out (by decide)) e_) e_) (fun e_ => (fun e_ => (Kd.R_ne HO_1297006.out BK1309.out (by decide)) e_) e_))); replace HO_1297005 := am (Kd.R_reok rfl hy0 (fun k_ e_ => HO_1297005.out.1 k_ e_)); replace HO_1297006 := am (Kd.R_reok rfl hy1 (fun k_ e_ => HO_1297006.out.1 k_ e_)); replace HO1318 := am (Kd.R_mono (ok' := fun k_ => some k_ ≠ (.slice Ao24 t1277.length co24 : Value).ownBlock ∧ some k_ ≠ (.slice Ao25 t1280.length co25 : Value).ownBlock ∧ some k_ ≠ (.slice Ao32 t1290.length co32 : Value).ownBlock ∧ some k_ ≠ (.slice Ao33 t1293.length co33 : Value).ownBlock ∧ some k_ ≠ (.slice Ao40 t1302.length co40 : Value).ownBlock ∧ some k_ ≠ (.slice Ao41 t1305.length co41 : Value).ownBlock ∧ some k_ ≠ (.slice Ao61 t1319.length co61 : Value).ownBlock) (Kd.R_keptB (HO1318.out) hkp (fun k_ hk_ hs_ => Or.elim hs_ (fun e_ => (hk_.1.1.1.2) e_) (fun e_ => (hk_.1.1.2) e_))) (fun k_ hk_ => ⟨hk_.1.1.1.1.1.1.2, hk_.1.1.1.1.1.2, hk_.1.1.1.1.2, hk_.1.1.1.2, hk_.1.1.2, hk_.1.2, hk_.1.1.1.1.1.1.1⟩)); replace HO1321 := am (Kd.R_mono (ok' := fun k_ => some k_ ≠ (.slice Ao24 t1277.length co24 : Value).ownBlock ∧ some k_ ≠ (.slice Ao25 t1280.length co25 : Value).ownBlock ∧ some k_ ≠ (.slice Ao32 t1290.length co32 : Value).ownBlock ∧ some k_ ≠ (.slice Ao33 t1293.length co33 : Value).ownBlock ∧ some k_ ≠ (.slice Ao40 t1302.length co40 : Value).ownBlock ∧ some k_ ≠ (.slice Ao41 t1305.length co41 : Value).ownBlock ∧ some k_ ≠ (.slice Ao60 t1316.length co60 : Value).ownBlock) (Kd.R_keptB (HO1321.out) hkp (fun k_ hk_ hs_ => Or.elim hs_ (fun e_ => (hk_.1.1.1.2) e_) (fun e_ => (hk_.1.1.2) e_))) (fun k_ hk_ => ⟨hk_.1.1.1.1.1.1.2, hk_.1.1.1.1.1.2, hk_.1.1.1.1.2, hk_.1.1.1.2, hk_.1.1.2, hk_.1.2, hk_.1.1.1.1.1.1.1⟩)); replace HB := am (hb); (try clear hb); (try clear hkp); (try clear hy0); (try clear hy1)))
      (try simp only [Act.put, List.setIfInBounds_toArray, List.set_cons_zero, List.set_cons_succ])
      go_cut [65] (fun v65 wc => ∃ (kq : Nat) (x65_56 : Bool), v65 = .bool x65_56 ∧ Aside0 (laws_FnExactUnwatch.j1 kq a1 t1283 x65_56 a0_0 a0_1 a0_2 a0_3 a0_4 l0_5 l0_6 t1272 t1273 t1274 t1275 t1276 t1277 t1280 t1297 t1298 t1299 t1300 t1301 t1302 t1305 = some r) ∧ Aside0 (kq ≤ kj11) ∧ Aside0 (Kd.R (Kd.int .i64) 3 wc w.heap.size (fun k_ => some k_ ≠ ((.slice Ao25 t1280.length co25) : Value).ownBlock ∧ some k_ ≠ ((.slice Ao32 t1290.length co32) : Value).ownBlock ∧ some k_ ≠ ((.slice Ao33 t1293.length co33) : Value).ownBlock ∧ some k_ ≠ ((.slice Ao40 t1302.length co40) : Value).ownBlock ∧ some k_ ≠ ((.slice Ao41 t1305.length co41) : Value).ownBlock) (.slice Ao24 t1277.length co24) t1277) ∧ Aside0 (Kd.R (Kd.int .i64) 3 wc w.heap.size (fun k_ => some k_ ≠ ((.slice Ao24 t1277.length co24) : Value).ownBlock ∧ some k_ ≠ ((.slice Ao32 t1290.length co32) : Value).ownBlock ∧ some k_ ≠ ((.slice Ao33 t1293.length co33) : Value).ownBlock ∧ some k_ ≠ ((.slice Ao40 t1302.length co40) : Value).ownBlock ∧ some k_ ≠ ((.slice Ao41 t1305.length co41) : Value).ownBlock) (.slice Ao25 t1280.length co25) t1280) ∧ Aside0 (Kd.R (Kd.int .i64) 3 wc w.heap.size (fun k_ => some k_ ≠ ((.slice Ao24 t1277.length co24) : Value).ownBlock ∧ some k_ ≠ ((.slice Ao25 t1280.length co25) : Value).ownBlock ∧ some k_ ≠ ((.slice Ao33 t1293.length co33) : Value).ownBlock ∧ some k_ ≠ ((.slice Ao40 t1302.length co40) : Value).ownBlock ∧ some k_ ≠ ((.slice Ao41 t1305.length co41) : Value).ownBlock) (.slice Ao32 t1290.length co32) t1324) ∧ Aside0 (Kd.R (Kd.int .i64) 3 wc w.heap.size (fun k_ => some k_ ≠ ((.slice Ao24 t1277.length co24) : Value).ownBlock ∧ some k_ ≠ ((.slice Ao25 t1280.length co25) : Value).ownBlock ∧ some k_ ≠ ((.slice Ao32 t1290.length co32) : Value).ownBlock ∧ some k_ ≠ ((.slice Ao40 t1302.length co40) : Value).ownBlock ∧ some k_ ≠ ((.slice Ao41 t1305.length co41) : Value).ownBlock) (.slice Ao33 t1293.length co33) t1325) ∧ Aside0 (Kd.R (Kd.int .i64) 3 wc w.heap.size (fun k_ => some k_ ≠ ((.slice Ao24 t1277.length co24) : Value).ownBlock ∧ some k_ ≠ ((.slice Ao25 t1280.length co25) : Value).ownBlock ∧ some k_ ≠ ((.slice Ao32 t1290.length co32) : Value).ownBlock ∧ some k_ ≠ ((.slice Ao33 t1293.length co33) : Value).ownBlock ∧ some k_ ≠ ((.slice Ao41 t1305.length co41) : Value).ownBlock) (.slice Ao40 t1302.length co40) t1302) ∧ Aside0 (Kd.R (Kd.int .i64) 3 wc w.heap.size (fun k_ => some k_ ≠ ((.slice Ao24 t1277.length co24) : Value).ownBlock ∧ some k_ ≠ ((.slice Ao25 t1280.length co25) : Value).ownBlock ∧ some k_ ≠ ((.slice Ao32 t1290.length co32) : Value).ownBlock ∧ some k_ ≠ ((.slice Ao33 t1293.length co33) : Value).ownBlock ∧ some k_ ≠ ((.slice Ao40 t1302.length co40) : Value).ownBlock) (.slice Ao41 t1305.length co41) t1305) ∧ Aside0 (wc.heap[gb1259]? = some (.cells #[.int .i64 a0_0, .int .i64 a0_1, .string a0_2, .int .i64 a0_3, .bool a0_4, (.slice A0_5 l0_5.length c0_5), (.slice A0_6 l0_6.length c0_6)] 56 (0, 0))) ∧ Aside0 (wc.heap[gb1284]? = some (.cells #[.int .i64 t1272, .int .i64 t1273, .string t1274, .int .i64 t1275, .bool t1276, (.slice Ao24 t1277.length co24), (.slice Ao25 t1280.length co25)] 29 (0, 0))) ∧ Aside0 (wc.heap[gb1296]? = some (.cells #[.int .i64 t1285, .int .i64 t1286, .string t1287, .int .i64 t1288, .bool t1289, (.slice Ao32 t1290.length co32), (.slice Ao33 t1293.length co33)] 29 (0, 0))) ∧ Aside0 (wc.heap[gb1309]? = some (.cells #[.int .i64 t1297, .int .i64 t1298, .string t1299, .int .i64 t1300, .bool t1301, (.slice Ao40 t1302.length co40), (.slice Ao41 t1305.length co41)] 29 (0, 0))) ∧ Aside0 (Below w.heap.size w wc))
      case first =>
       have H := HC57.out
       clear HC57
       by_cases c68 : t1323 < 0
       ·rw [if_pos c68] at H
        have c68b0 : decide (t1323 < 0) = true := decide_eq_true c68
        clear c68
        (first | rw [c68b0] | (simp only [i64_w, i32_w]; rw [c68b0]) | skip)
        cases kj11 with
        | zero => exact absurd H (by simp [laws_FnExactUnwatch.j1])
        | succ k_ => (simp only [laws_FnExactUnwatch.j1, if_pos] at H; exact absurd (Option.some.inj H) (by rw [HQ_.out]; simp))
       ·rw [if_neg c68] at H
        have c68b0 : decide (t1323 < 0) = false := decide_eq_false c68
        clear c68
        (first | rw [c68b0] | (simp only [i64_w, i32_w]; rw [c68b0]) | skip)
        replace H := Option.bind_eq_some_iff.mp H
        obtain ⟨t1326, A690, H⟩ := H
        replace H : (if t1326 = true then (laws_FnExactUnwatch.j1 kj11 a1 t1283 (t1308 != t1283) a0_0 a0_1 a0_2 a0_3 a0_4 l0_5 l0_6 t1272 t1273 t1274 t1275 t1276 t1277 t1280 t1297 t1298 t1299 t1300 t1301 t1302 t1305) else (laws_FnExactUnwatch.j1 kj11 a1 t1283 true a0_0 a0_1 a0_2 a0_3 a0_4 l0_5 l0_6 t1272 t1273 t1274 t1275 t1276 t1277 t1280 t1297 t1298 t1299 t1300 t1301 t1302 t1305)) = some r := H
        have A69 := am A690
        clear A690
        by_cases c70 : t1326 = true
        ·subst c70
         replace H : (laws_FnExactUnwatch.j1 kj11 a1 t1283 (t1308 != t1283) a0_0 a0_1 a0_2 a0_3 a0_4 l0_5 l0_6 t1272 t1273 t1274 t1275 t1276 t1277 t1280 t1297 t1298 t1299 t1300 t1301 t1302 t1305) = some r := by rw [if_pos rfl] at H; exact H
         have H' := am H
         clear H
         have hnb71 := NB1309_1259.out
         have hnc71 := NB1259_1309.out
         have hnb72 := NB1309_1284.out
         have hnc72 := NB1284_1309.out
         have hnb73 := NB1309_1296.out
         have hnc73 := NB1296_1309.out
         obtain ⟨hcz74_0, hcz74_1, hcz74_2, hcz74_3, hcz74_4, hcz74_5, hcz74_6, hfz74_0, hfz74_1, hfz74_2, hfz74_3, hfz74_4, hfz74_5, hfz74_6⟩ := bk7 BK1309.out
         have hnb75 := NB1284_1259.out
         have hnc75 := NB1259_1284.out
         have hnb76 := NB1284_1296.out
         have hnc76 := NB1296_1284.out
         obtain ⟨hcz77_0, hcz77_1, hcz77_2, hcz77_3, hcz77_4, hcz77_5, hcz77_6, hfz77_0, hfz77_1, hfz77_2, hfz77_3, hfz77_4, hfz77_5, hfz77_6⟩ := bk7 BK1284.out
         go_wp2_with (first | (go_at_call 34; (with_reducible refine (laws_eqCell.calls kj11 t1297 t1298 t1299 t1300 t1301 _ _ t1302 _ _ t1305 t1272 t1273 t1274 t1275 t1276 _ _ t1277 _ _ t1280 true _ ?side1 ?side2 ?side3 ?side4 ?side5 ?side6 ?side7 ?side8 A69.out).mono ?_); (case side1 => exact pkC (Kd.R_reads' HO_1310005.out).2.2); (case side2 => exact (Kd.R_reads' HO_1310005.out).2.1); (case side3 => exact pkC (Kd.R_reads' HO_1310006.out).2.2); (case side4 => exact (Kd.R_reads' HO_1310006.out).2.1); (case side5 => exact pkC (Kd.R_reads' HO_1285005.out).2.2); (case side6 => exact (Kd.R_reads' HO_1285005.out).2.1); (case side7 => exact pkC (Kd.R_reads' HO_1285006.out).2.2); (case side8 => exact (Kd.R_reads' HO_1285006.out).2.1); rintro e w78 ⟨rfl, hb⟩; replace HO_1285005 := am (Kd.R_below (pkR HO_1285005.out) hb); replace HO_1285006 := am (Kd.R_below (pkR HO_1285006.out) hb); replace HO_1297005 := am (Kd.R_below (pkR HO_1297005.out) hb); replace HO_1297006 := am (Kd.R_below (pkR HO_1297006.out) hb); replace HO_1310005 := am (Kd.R_below (pkR HO_1310005.out) hb); replace HO_1310006 := am (Kd.R_below (pkR HO_1310006.out) hb); replace HO1318 := am (Kd.R_below (pkR HO1318.out) hb); replace HO1321 := am (Kd.R_below (pkR HO1321.out) hb); replace BK1259 := am (blk_below (pkK BK1259.out) hb); replace BK1284 := am (blk_below (pkK BK1284.out) hb); replace BK1296 := am (blk_below (pkK BK1296.out) hb); replace BK1309 := am (blk_below (pkK BK1309.out) hb); replace HB := am (below_step (pkW HB.out) hb); (try clear hb)))
         go_meet
         case rel => exact ⟨_, ((t1308 != t1283)), rfx, H', ⟨by have := HJ11.out; first | omega | exact Nat.le_refl _⟩, ⟨by (with_reducible repeat (first | apply Kd.R_alloc | apply Kd.R_drewN | apply Kd.R_drew)); exact Kd.R_mono HO_1285005.out (fun _ hk => ⟨hk.1, ⟨hk.2.1, ⟨hk.2.2.1, ⟨hk.2.2.2.1, hk.2.2.2.2.1⟩⟩⟩⟩)⟩, ⟨by (with_reducible repeat (first | apply Kd.R_alloc | apply Kd.R_drewN | apply Kd.R_drew)); exact Kd.R_mono HO_1285006.out (fun _ hk => ⟨hk.1, ⟨hk.2.1, ⟨hk.2.2.1, ⟨hk.2.2.2.1, hk.2.2.2.2.1⟩⟩⟩⟩)⟩, ⟨by (with_reducible repeat (first | apply Kd.R_alloc | apply Kd.R_drewN | apply Kd.R_drew)); exact Kd.R_mono HO_1297005.out (fun _ hk => ⟨hk.1.1.1, ⟨hk.1.1.2.1, ⟨hk.1.1.2.2.1, ⟨hk.1.1.2.2.2.1, hk.1.1.2.2.2.2⟩⟩⟩⟩)⟩, ⟨by (with_reducible repeat (first | apply Kd.R_alloc | apply Kd.R_drewN | apply Kd.R_drew)); exact Kd.R_mono HO_1297006.out (fun _ hk => ⟨hk.1.1.1, ⟨hk.1.1.2.1, ⟨hk.1.1.2.2.1, ⟨hk.1.1.2.2.2.1, hk.1.1.2.2.2.2⟩⟩⟩⟩)⟩, ⟨by (with_reducible repeat (first | apply Kd.R_alloc | apply Kd.R_drewN | apply Kd.R_drew)); exact Kd.R_mono HO_1310005.out (fun _ hk => ⟨hk.1, ⟨hk.2.1, ⟨hk.2.2.1, ⟨hk.2.2.2.1, hk.2.2.2.2.1⟩⟩⟩⟩)⟩, ⟨by (with_reducible repeat (first | apply Kd.R_alloc | apply Kd.R_drewN | apply Kd.R_drew)); exact Kd.R_mono HO_1310006.out (fun _ hk => ⟨hk.1, ⟨hk.2.1, ⟨hk.2.2.1, ⟨hk.2.2.2.1, hk.2.2.2.2.1⟩⟩⟩⟩)⟩, ⟨pkK BK1259.out⟩, ⟨pkK BK1284.out⟩, ⟨pkK BK1296.out⟩, ⟨pkK BK1309.out⟩, ⟨pkW HB.out⟩⟩
        ·replace c70 := Bool.eq_false_iff.mpr c70
         subst c70
         replace H : (laws_FnExactUnwatch.j1 kj11 a1 t1283 true a0_0 a0_1 a0_2 a0_3 a0_4 l0_5 l0_6 t1272 t1273 t1274 t1275 t1276 t1277 t1280 t1297 t1298 t1299 t1300 t1301 t1302 t1305) = some r := by rw [if_neg (show ¬ (false = true) by decide)] at H; exact H
         cases kj11 with
         | zero => exact absurd H (by simp [laws_FnExactUnwatch.j1])
         | succ k_ => (simp only [laws_FnExactUnwatch.j1, if_pos] at H; exact absurd (Option.some.inj H) (by rw [HQ_.out]; simp))
      case rest =>
       clear HC57
       try clear c1
       try clear c2
       try clear p2
       try clear c3
       try clear c4
       try clear c4b0
       try clear c5
       try clear c6
       try clear c7
       try clear c13
       try clear c22
       try clear c29
       try clear c30
       try clear c31
       try clear c32
       try clear c34
       try clear c36
       try clear c37
       try clear c38
       try clear c43
       try clear c44
       try clear c45
       try clear c46
       try clear c48
       try clear c49
       try clear c50
       try clear c51
       try clear c52
       try clear c55
       try clear c63
       try clear c64
       try clear c65
       try clear c68
       try clear c68b0
       try clear c70
       try clear c71
       try clear c72
       try clear c73
       try clear c75
       try clear c76
       try clear hcz14_0
       try clear hcz14_1
       try clear hcz14_2
       try clear hcz14_3
       try clear hcz14_4
       try clear hcz14_5
       try clear hcz14_6
       try clear hcz16_0
       try clear hcz16_1
       try clear hcz16_2
       try clear hcz16_3
       try clear hcz16_4
       try clear hcz16_5
       try clear hcz16_6
       try clear hcz23_0
       try clear hcz23_1
       try clear hcz23_2
       try clear hcz23_3
       try clear hcz23_4
       try clear hcz23_5
       try clear hcz23_6
       try clear hcz26_0
       try clear hcz26_1
       try clear hcz26_2
       try clear hcz26_3
       try clear hcz26_4
       try clear hcz26_5
       try clear hcz26_6
       try clear hcz31_0
       try clear hcz31_1
       try clear hcz31_2
       try clear hcz31_3
       try clear hcz31_4
       try clear hcz31_5
       try clear hcz31_6
       try clear hcz39_0
       try clear hcz39_1
       try clear hcz39_2
       try clear hcz39_3
       try clear hcz39_4
       try clear hcz39_5
       try clear hcz39_6
       try clear hcz47_0
       try clear hcz47_1
       try clear hcz47_2
       try clear hcz47_3
       try clear hcz47_4
       try clear hcz47_5
       try clear hcz47_6
       try clear hcz50_0
       try clear hcz50_1
       try clear hcz50_2
       try clear hcz50_3
       try clear hcz50_4
       try clear hcz50_5
       try clear hcz50_6
       try clear hcz66_0
       try clear hcz66_1
       try clear hcz66_2
       try clear hcz66_3
       try clear hcz66_4
       try clear hcz66_5
       try clear hcz66_6
       try clear hcz6_0
       try clear hcz6_1
       try clear hcz6_2
       try clear hcz6_3
       try clear hcz6_4
       try clear hcz6_5
       try clear hcz6_6
       try clear hcz74_0
       try clear hcz74_1
       try clear hcz74_2
       try clear hcz74_3
       try clear hcz74_4
       try clear hcz74_5
       try clear hcz74_6
       try clear hcz77_0
       try clear hcz77_1
       try clear hcz77_2
       try clear hcz77_3
       try clear hcz77_4
       try clear hcz77_5
       try clear hcz77_6
       try clear hfz14_0
       try clear hfz14_1
       try clear hfz14_2
       try clear hfz14_3
       try clear hfz14_4
       try clear hfz14_5
       try clear hfz14_6
       try clear hfz16_0
       try clear hfz16_1
       try clear hfz16_2
       try clear hfz16_3
       try clear hfz16_4
       try clear hfz16_5
       try clear hfz16_6
       try clear hfz23_0
       try clear hfz23_1
       try clear hfz23_2
       try clear hfz23_3
       try clear hfz23_4
       try clear hfz23_5
       try clear hfz23_6
       try clear hfz26_0
       try clear hfz26_1
       try clear hfz26_2
       try clear hfz26_3
       try clear hfz26_4
       try clear hfz26_5
       try clear hfz26_6
       try clear hfz31_0
       try clear hfz31_1
       try clear hfz31_2
       try clear hfz31_3
       try clear hfz31_4
       try clear hfz31_5
       try clear hfz31_6
       try clear hfz39_0
       try clear hfz39_1
       try clear hfz39_2
       try clear hfz39_3
       try clear hfz39_4
       try clear hfz39_5
       try clear hfz39_6
       try clear hfz47_0
       try clear hfz47_1
       try clear hfz47_2
       try clear hfz47_3
       try clear hfz47_4
       try clear hfz47_5
       try clear hfz47_6
       try clear hfz50_0
       try clear hfz50_1
       try clear hfz50_2
       try clear hfz50_3
       try clear hfz50_4
       try clear hfz50_5
       try clear hfz50_6
       try clear hfz66_0
       try clear hfz66_1
       try clear hfz66_2
       try clear hfz66_3
       try clear hfz66_4
       try clear hfz66_5
       try clear hfz66_6
       try clear hfz6_0
       try clear hfz6_1
       try clear hfz6_2
       try clear hfz6_3
       try clear hfz6_4
       try clear hfz6_5
       try clear hfz6_6
       try clear hfz74_0
       try clear hfz74_1
       try clear hfz74_2
       try clear hfz74_3
       try clear hfz74_4
       try clear hfz74_5
       try clear hfz74_6
       try clear hfz77_0
       try clear hfz77_1
       try clear hfz77_2
       try clear hfz77_3
       try clear hfz77_4
       try clear hfz77_5
       try clear hfz77_6
       try clear p2
       obtain ⟨kq, x65_56, rfl, HA, HJ56, HO_1285005, HO_1285006, HO_1297005, HO_1297006, HO_1310005, HO_1310006, BK1259, BK1284, BK1296, BK1309, HB⟩ := hcut
       have hl1297005_56 := (Kd.R_reads' HO_1297005.out).1
       rw [hl1297005_56] at HO_1297005
       (try simp only [hl1297005_56])
       (try simp only [hl1297005_56] at BK1259)
       (try simp only [hl1297005_56] at BK1284)
       (try simp only [hl1297005_56] at BK1296)
       (try simp only [hl1297005_56] at BK1309)
       (try simp only [hl1297005_56] at HO_1285005)
       (try simp only [hl1297005_56] at HO_1285006)
       (try simp only [hl1297005_56] at HO_1297006)
       (try simp only [hl1297005_56] at HO_1310005)
       (try simp only [hl1297005_56] at HO_1310006)
       have hl1297006_56 := (Kd.R_reads' HO_1297006.out).1
       rw [hl1297006_56] at HO_1297006
       (try simp only [hl1297006_56])
       (try simp only [hl1297006_56] at BK1259)
       (try simp only [hl1297006_56] at BK1284)
       (try simp only [hl1297006_56] at BK1296)
       (try simp only [hl1297006_56] at BK1309)
       (try simp only [hl1297006_56] at HO_1285005)
       (try simp only [hl1297006_56] at HO_1285006)
       (try simp only [hl1297006_56] at HO_1297005)
       (try simp only [hl1297006_56] at HO_1310005)
       (try simp only [hl1297006_56] at HO_1310006)
       cases kq with
       | zero => exact absurd HA.out (by simp [laws_FnExactUnwatch.j1])
       | succ kj56 =>
        have H := HA.out
        clear HA
        simp only [laws_FnExactUnwatch.j1] at H
        by_cases c79 : x65_56 = true
        ·subst c79
         replace H : (some false) = some r := by rw [if_pos rfl] at H; exact H
         exact absurd (Option.some.inj H) (by rw [HQ_.out]; simp)
        ·replace c79 := Bool.eq_false_iff.mpr c79
         subst c79
         replace H : ((laws_markCell.f kj56 t1297 t1298 t1299 t1300 t1301 t1302 t1305 1).bind fun bt1327 => ((laws_heldCell.f kj56 t1297 t1298 t1299 t1300 t1301 bt1327.2.1 bt1327.2.2 1).bind fun t1330 => (if t1330 < 0 then (some false) else (if t1330 = bt1327.1 then ((laws_toCell.f kj56 a0_0 a0_1 a0_2 a0_3 a0_4 l0_5 l0_6).bind fun bt1331 => ((impl_Unwatch.f kj56 bt1331.1 bt1331.2.1 bt1331.2.2.1 bt1331.2.2.2.1 bt1331.2.2.2.2.1 bt1331.2.2.2.2.2.1 bt1331.2.2.2.2.2.2 a1).bind fun bt1342 => ((laws_eqCell.f kj56 bt1342.1 bt1342.2.1 bt1342.2.2.1 bt1342.2.2.2.1 bt1342.2.2.2.2.1 bt1342.2.2.2.2.2.1 bt1342.2.2.2.2.2.2.1 t1272 t1273 t1274 t1275 t1276 t1277 t1280).bind fun t1355 => (if t1355 = true then (laws_FnExactUnwatch.j2 kj56 bt1327.1 (bt1342.2.2.2.2.2.2.2 != t1283) t1297 t1298 t1299 t1300 t1301 bt1327.2.1 bt1327.2.2) else (laws_FnExactUnwatch.j2 kj56 bt1327.1 true t1297 t1298 t1299 t1300 t1301 bt1327.2.1 bt1327.2.2))))) else (some false))))) = some r := by rw [if_neg (show ¬ (false = true) by decide)] at H; exact H
         replace H := Option.bind_eq_some_iff.mp H
         obtain ⟨⟨t1327, t1328, t1329⟩, A800, H⟩ := H
         replace H : ((laws_heldCell.f kj56 t1297 t1298 t1299 t1300 t1301 t1328 t1329 1).bind fun t1330 => (if t1330 < 0 then (some false) else (if t1330 = t1327 then ((laws_toCell.f kj56 a0_0 a0_1 a0_2 a0_3 a0_4 l0_5 l0_6).bind fun bt1331 => ((impl_Unwatch.f kj56 bt1331.1 bt1331.2.1 bt1331.2.2.1 bt1331.2.2.2.1 bt1331.2.2.2.2.1 bt1331.2.2.2.2.2.1 bt1331.2.2.2.2.2.2 a1).bind fun bt1342 => ((laws_eqCell.f kj56 bt1342.1 bt1342.2.1 bt1342.2.2.1 bt1342.2.2.2.1 bt1342.2.2.2.2.1 bt1342.2.2.2.2.2.1 bt1342.2.2.2.2.2.2.1 t1272 t1273 t1274 t1275 t1276 t1277 t1280).bind fun t1355 => (if t1355 = true then (laws_FnExactUnwatch.j2 kj56 t1327 (bt1342.2.2.2.2.2.2.2 != t1283) t1297 t1298 t1299 t1300 t1301 t1328 t1329) else (laws_FnExactUnwatch.j2 kj56 t1327 true t1297 t1298 t1299 t1300 t1301 t1328 t1329))))) else (some false)))) = some r := H
         have A80 := am A800
         clear A800
         replace H := Option.bind_eq_some_iff.mp H
         obtain ⟨t1330, A810, H⟩ := H
         replace H : (if t1330 < 0 then (some false) else (if t1330 = t1327 then ((laws_toCell.f kj56 a0_0 a0_1 a0_2 a0_3 a0_4 l0_5 l0_6).bind fun bt1331 => ((impl_Unwatch.f kj56 bt1331.1 bt1331.2.1 bt1331.2.2.1 bt1331.2.2.2.1 bt1331.2.2.2.2.1 bt1331.2.2.2.2.2.1 bt1331.2.2.2.2.2.2 a1).bind fun bt1342 => ((laws_eqCell.f kj56 bt1342.1 bt1342.2.1 bt1342.2.2.1 bt1342.2.2.2.1 bt1342.2.2.2.2.1 bt1342.2.2.2.2.2.1 bt1342.2.2.2.2.2.2.1 t1272 t1273 t1274 t1275 t1276 t1277 t1280).bind fun t1355 => (if t1355 = true then (laws_FnExactUnwatch.j2 kj56 t1327 (bt1342.2.2.2.2.2.2.2 != t1283) t1297 t1298 t1299 t1300 t1301 t1328 t1329) else (laws_FnExactUnwatch.j2 kj56 t1327 true t1297 t1298 t1299 t1300 t1301 t1328 t1329))))) else (some false))) = some r := H
         have A81 := am A810
         clear A810
         by_cases c82 : t1330 < 0
         ·rw [if_pos c82] at H
          have c82b0 : decide (t1330 < 0) = true := decide_eq_true c82
          clear c82
          exact absurd (Option.some.inj H) (by rw [HQ_.out]; simp)
         ·rw [if_neg c82] at H
          have c82b0 : decide (t1330 < 0) = false := decide_eq_false c82
          clear c82
          by_cases c83 : t1330 = t1327
          ·rw [if_pos c83] at H
           have c83b0 : (t1330 == t1327) = true := beq_iff_eq.mpr c83
           have c83b1 : (t1330 != t1327) = false := bne_eq_false_iff_eq.mpr c83
           clear c83
           replace H := Option.bind_eq_some_iff.mp H
           obtain ⟨⟨t1331, t1332, t1333, t1334, t1335, t1336, t1339⟩, A840, H⟩ := H
           replace H : ((impl_Unwatch.f kj56 t1331 t1332 t1333 t1334 t1335 t1336 t1339 a1).bind fun bt1342 => ((laws_eqCell.f kj56 bt1342.1 bt1342.2.1 bt1342.2.2.1 bt1342.2.2.2.1 bt1342.2.2.2.2.1 bt1342.2.2.2.2.2.1 bt1342.2.2.2.2.2.2.1 t1272 t1273 t1274 t1275 t1276 t1277 t1280).bind fun t1355 => (if t1355 = true then (laws_FnExactUnwatch.j2 kj56 t1327 (bt1342.2.2.2.2.2.2.2 != t1283) t1297 t1298 t1299 t1300 t1301 t1328 t1329) else (laws_FnExactUnwatch.j2 kj56 t1327 true t1297 t1298 t1299 t1300 t1301 t1328 t1329)))) = some r := H
           have A84 := am A840
           clear A840
           replace H := Option.bind_eq_some_iff.mp H
           obtain ⟨⟨t1342, t1343, t1344, t1345, t1346, t1347, t1350, t1353⟩, A850, H⟩ := H
           replace H : ((laws_eqCell.f kj56 t1342 t1343 t1344 t1345 t1346 t1347 t1350 t1272 t1273 t1274 t1275 t1276 t1277 t1280).bind fun t1355 => (if t1355 = true then (laws_FnExactUnwatch.j2 kj56 t1327 (t1353 != t1283) t1297 t1298 t1299 t1300 t1301 t1328 t1329) else (laws_FnExactUnwatch.j2 kj56 t1327 true t1297 t1298 t1299 t1300 t1301 t1328 t1329))) = some r := H
           have A85 := am A850
           clear A850
           have HC86 := am H
           clear H
           have hnb87 := NB1309_1259.out
           have hnc87 := NB1259_1309.out
           have hnb88 := NB1309_1284.out
           have hnc88 := NB1284_1309.out
           have hnb89 := NB1309_1296.out
           have hnc89 := NB1296_1309.out
           obtain ⟨hcz90_0, hcz90_1, hcz90_2, hcz90_3, hcz90_4, hcz90_5, hcz90_6, hfz90_0, hfz90_1, hfz90_2, hfz90_3, hfz90_4, hfz90_5, hfz90_6⟩ := bk7 BK1309.out
           go_upto_region 25 with (first | ((with_reducible refine gate_callee (f := 48) rfl ?_); refine goesL_ (some 68) rfl rfl Try.func48 (by kernel_rfl) rfl #[.agg #[.int .i64 t1297, .int .i64 t1298, .string t1299, .int .i64 t1300, .bool t1301, .slice Ao40 t1302.length co40, .slice Ao41 t1305.length co41], .int .i64 1] rfl mpx ?_; (with_reducible refine (laws_markCell.calls kj56 t1297 t1298 t1299 t1300 t1301 (fun k_ => some k_ = (.slice Ao40 t1302.length co40 : Value).ownBlock) (.slice Ao40 t1302.length co40) t1302 (fun k_ => some k_ = (.slice Ao41 t1305.length co41 : Value).ownBlock) (.slice Ao41 t1305.length co41) t1305 1 t1327 t1328 t1329 w _ ?side1 ?side2 ?side3 ?side4 ?side5 A80.out).mono ?_); (case side1 => repeat (first | (with_reducible first | exact HB.out | apply below_alloc | apply pw_below_drewN | apply below_drew1 | refine below_set ?_ GE1259.out | refine below_set ?_ GE1284.out | refine below_set ?_ GE1296.out | refine below_set ?_ GE1309.out) | exact HB.out)); (case side2 => exact Kd.R_tight rfl HO_1310005.out); (case side3 => exact fun k_ e_ => (HO_1310005.out.1 k_ e_.symm).2.2.2.2); (case side4 => exact Kd.R_tight rfl HO_1310006.out); (case side5 => exact fun k_ e_ => (HO_1310006.out.1 k_ e_.symm).2.2.2.2); rintro e w91 ⟨rfl, hy0, hy1, hb, hkp⟩; refine ⟨_, rfl, ?_⟩; replace HO_1285005 := am (Kd.R_mono (ok' := fun k_ => some k_ ≠ (.slice Ao25 t1280.length co25 : Value).ownBlock ∧ some k_ ≠ (.slice Ao32 t1324.length co32 : Value).ownBlock ∧ some k_ ≠ (.slice Ao33 t1325.length co33 : Value).ownBlock ∧ some k_ ≠ (.slice Ao40 t1302.length co40 : Value).ownBlock ∧ some k_ ≠ (.slice Ao41 t1305.length co41 : Value).ownBlock) (Kd.R_keptB (HO_1285005.out) hkp (fun k_ hk_ hs_ => Or.elim hs_ (fun e_ => (hk_.2.2.2.1) e_) (fun e_ => (hk_.2.2.2.2) e_))) (fun k_ hk_ => ⟨hk_.1.1, hk_.1.2.1, hk_.1.2.2.1, hk_.1.2.2.2.1, hk_.1.2.2.2.2⟩)); replace HO_1285006 := am (Kd.R_mono (ok' := fun k_ => some k_ ≠ (.slice Ao24 t1277.length co24 : Value).ownBlock ∧ some k_ ≠ (.slice Ao32 t1324.length co32 : Value).ownBlock ∧ some k_ ≠ (.slice Ao33 t1325.length co33 : Value).ownBlock ∧ some k_ ≠ (.slice Ao40 t1302.length co40 : Value).ownBlock ∧ some k_ ≠ (.slice Ao41 t1305.length co41 : Value).ownBlock) (Kd.R_keptB (HO_1285006.out) hkp (fun k_ hk_ hs_ => Or.elim hs_ (fun e_ => (hk_.2.2.2.1) e_) (fun e_ => (hk_.2.2.2.2) e_))) (fun k_ hk_ => ⟨hk_.1.1, hk_.1.2.1, hk_.1.2.2.1, hk_.1.2.2.2.1, hk_.1.2.2.2.2⟩)); replace HO_1297005 := am (Kd.R_mono (ok' := fun k_ => some k_ ≠ (.slice Ao24 t1277.length co24 : Value).ownBlock ∧ some k_ ≠ (.slice Ao25 t1280.length co25 : Value).ownBlock ∧ some k_ ≠ (.slice Ao33 t1325.length co33 : Value).ownBlock ∧ some k_ ≠ (.slice Ao40 t1302.length co40 : Value).ownBlock ∧ some k_ ≠ (.slice Ao41 t1305.length co41 : Value).ownBlock) (Kd.R_keptB (HO_1297005.out) hkp (fun k_ hk_ hs_ => Or.elim hs_ (fun e_ => (hk_.2.2.2.1) e_) (fun e_ => (hk_.2.2.2.2) e_))) (fun k_ hk_ => ⟨hk_.1.1, hk_.1.2.1, hk_.1.2.2.1, hk_.1.2.2.2.1, hk_.1.2.2.2.2⟩)); replace HO_1297006 := am (Kd.R_mono (ok' := fun k_ => some k_ ≠ (.slice Ao24 t1277.length co24 : Value).ownBlock ∧ some k_ ≠ (.slice Ao25 t1280.length co25 : Value).ownBlock ∧ some k_ ≠ (.slice Ao32 t1324.length co32 : Value).ownBlock ∧ some k_ ≠ (.slice Ao40 t1302.length co40 : Value).ownBlock ∧ some k_ ≠ (.slice Ao41 t1305.length co41 : Value).ownBlock) (Kd.R_keptB (HO_1297006.out) hkp (fun k_ hk_ hs_ => Or.elim hs_ (fun e_ => (hk_.2.2.2.1) e_) (fun e_ => (hk_.2.2.2.2) e_))) (fun k_ hk_ => ⟨hk_.1.1, hk_.1.2.1, hk_.1.2.2.1, hk_.1.2.2.2.1, hk_.1.2.2.2.2⟩)); replace BK1259 := am (blk_kept (pkK BK1259.out) hkp (fun hs_ => Or.elim hs_ (fun e_ => (fun e_ => (Kd.R_ne HO_1310005.out BK1259.out (by decide)) e_) e_) (fun e_ => (fun e_ => (Kd.R_ne HO_1310006.out BK1259.out (by decide)) e_) e_))); replace BK1284 := am (blk_kept (pkK BK1284.out) hkp (fun hs_ => Or.elim hs_ (fun e_ => (fun e_ => (Kd.R_ne HO_1310005.out BK1284.out (by decide)) e_) e_) (fun e_ => (fun e_ => (Kd.R_ne HO_1310006.out BK1284.out (by decide)) e_) e_))); replace BK1296 := am (blk_kept (pkK BK1296.out) hkp (fun hs_ => Or.elim hs_ (fun e_ => (fun e_ => (Kd.R_ne HO_1310005.out BK1296.out (by decide)) e_) e_) (fun e_ => (fun e_ => (Kd.R_ne HO_1310006.out BK1296.out (by decide)) e_) e_))); replace BK1309 := am (blk_kept (pkK BK1309.out) hkp (fun hs_ => Or.elim hs_ (fun e_ => (fun e_ => (Kd.R_ne HO_1310005.out BK1309.out (by decide)) e_) e_) (fun e_ => (fun e_ => (Kd.R_ne HO_1310006.out BK1309.out (by decide)) e_) e_))); replace HO_1310005 := am (Kd.R_reok rfl hy0 (fun k_ e_ => HO_1310005.out.1 k_ e_)); replace HO_1310006 := am (Kd.R_reok rfl hy1 (fun k_ e_ => HO_1310006.out.1 k_ e_)); replace HB := am (hb); (try clear hb); (try clear hkp); (try clear hy0); (try clear hy1); obtain ⟨hcz92_0, hcz92_1, hcz92_2, hcz92_3, hcz92_4, hcz92_5, hcz92_6, hfz92_0, hfz92_1, hfz92_2, hfz92_3, hfz92_4, hfz92_5, hfz92_6⟩ := bk7 BK1309.out) | ((with_reducible refine gate_callee (f := 49) rfl ?_); refine goesL_ (some 71) rfl rfl Try.func49 (by kernel_rfl) rfl #[.agg #[.int .i64 t1297, .int .i64 t1298, .string t1299, .int .i64 t1300, .bool t1301, .slice Ao40 t1328.length co40, .slice Ao41 t1329.length co41], .int .i64 1] rfl (by (try simp only [List.map_toArray, List.map_cons, List.map_nil]); first | done | (rw [show t1328.length = t1302.length from (Kd.R_reads' HO_1310005.out).1.symm, show t1329.length = t1305.length from (Kd.R_reads' HO_1310006.out).1.symm] <;> rfl) | rfl | (simp only [List.length_drop, List.length_take]; rfl) | (go_simp; done) | (simp [*]; done)) ?_; (with_reducible refine (laws_heldCell.calls kj56 t1297 t1298 t1299 t1300 t1301 _ _ t1328 _ _ t1329 1 t1330 _ ?side1 ?side2 ?side3 ?side4 A81.out).mono ?_); (case side1 => exact pkC (Kd.R_reads' HO_1310005.out).2.2); (case side2 => rw [show t1328.length = t1302.length from (Kd.R_reads' HO_1310005.out).1.symm]; exact (Kd.R_reads' HO_1310005.out).2.1); (case side3 => exact pkC (Kd.R_reads' HO_1310006.out).2.2); (case side4 => rw [show t1329.length = t1305.length from (Kd.R_reads' HO_1310006.out).1.symm]; exact (Kd.R_reads' HO_1310006.out).2.1); rintro e w93 ⟨rfl, hb⟩; refine ⟨_, rfl, ?_⟩; replace HO_1285005 := am (Kd.R_below (pkR HO_1285005.out) hb); replace HO_1285006 := am (Kd.R_below (pkR HO_1285006.out) hb); replace HO_1297005 := am (Kd.R_below (pkR HO_1297005.out) hb); replace HO_1297006 := am (Kd.R_below (pkR HO_1297006.out) hb); replace HO_1310005 := am (Kd.R_below (pkR HO_1310005.out) hb); replace HO_1310006 := am (Kd.R_below (pkR HO_1310006.out) hb); replace BK1259 := am (blk_below (pkK BK1259.out) hb); replace BK1284 := am (blk_below (pkK BK1284.out) hb); replace BK1296 := am (blk_below (pkK BK1296.out) hb); replace BK1309 := am (blk_below (pkK BK1309.out) hb); replace HB := am (below_step (pkW HB.out) hb); (try clear hb); have hnb94 := NB1259_1284.out; have hnc94 := NB1284_1259.out; have hnb95 := NB1259_1296.out; have hnc95 := NB1296_1259.out; obtain ⟨hcz96_0, hcz96_1, hcz96_2, hcz96_3, hcz96_4, hcz96_5, hcz96_6, hfz96_0, hfz96_1, hfz96_2, hfz96_3, hfz96_4, hfz96_5, hfz96_6⟩ := bk7 BK1259.out) | ((with_reducible refine gate_callee (f := 32) rfl ?_); refine goesL_ (some 79) rfl rfl Try.func32 (by kernel_rfl) rfl #[.agg #[.int .i64 a0_0, .int .i64 a0_1, .string a0_2, .int .i64 a0_3, .bool a0_4, .slice A0_5 l0_5.length c0_5, .slice A0_6 l0_6.length c0_6]] rfl mpx ?_; (with_reducible refine (laws_toCell.calls kj56 a0_0 a0_1 a0_2 a0_3 a0_4 _ _ l0_5 _ _ l0_6 t1331 t1332 t1333 t1334 t1335 t1336 t1339 _ ?side1 ?side2 ?side3 ?side4 A84.out).mono ?_); (case side1 => exact pkC (Kd.C_below HR0_5.out HB.out)); (case side2 => exact HC0_5.out); (case side3 => exact pkC (Kd.C_below HR0_6.out HB.out)); (case side4 => exact HC0_6.out); rintro e w97 ⟨v1337, v1340, rfl, ho0, ho1, hb⟩; refine ⟨_, rfl, ?_⟩; have HO1338 := am (Kd.R_lower (Kd.R_new' (Kd.R_new' (Kd.R_new' (Kd.R_new' (Kd.R_new' (Kd.R_new' ho0 (Kd.R_lt (pkR HO_1285005.out))) (Kd.R_lt (pkR HO_1285006.out))) (Kd.R_lt (pkR HO_1297005.out))) (Kd.R_lt (pkR HO_1297006.out))) (Kd.R_lt (pkR HO_1310005.out))) (Kd.R_lt (pkR HO_1310006.out))) (below_size (pkW HB.out))); have HO1341 := am (Kd.R_lower (Kd.R_new' (Kd.R_new' (Kd.R_new' (Kd.R_new' (Kd.R_new' (Kd.R_new' ho1 (Kd.R_lt (pkR HO_1285005.out))) (Kd.R_lt (pkR HO_1285006.out))) (Kd.R_lt (pkR HO_1297005.out))) (Kd.R_lt (pkR HO_1297006.out))) (Kd.R_lt (pkR HO_1310005.out))) (Kd.R_lt (pkR HO_1310006.out))) (below_size (pkW HB.out))); replace HO_1285005 := am (Kd.R_mono (Kd.R_told (Kd.R_told (Kd.R_old (pkR HO_1285005.out) hb) (Kd.R_base ho0)) (Kd.R_base ho1)) (fun _ h_ => h_.1)); replace HO_1285006 := am (Kd.R_mono (Kd.R_told (Kd.R_told (Kd.R_old (pkR HO_1285006.out) hb) (Kd.R_base ho0)) (Kd.R_base ho1)) (fun _ h_ => h_.1)); replace HO_1297005 := am (Kd.R_mono (Kd.R_told (Kd.R_told (Kd.R_old (pkR HO_1297005.out) hb) (Kd.R_base ho0)) (Kd.R_base ho1)) (fun _ h_ => h_.1)); replace HO_1297006 := am (Kd.R_mono (Kd.R_told (Kd.R_told (Kd.R_old (pkR HO_1297006.out) hb) (Kd.R_base ho0)) (Kd.R_base ho1)) (fun _ h_ => h_.1)); replace HO_1310005 := am (Kd.R_mono (Kd.R_told (Kd.R_told (Kd.R_old (pkR HO_1310005.out) hb) (Kd.R_base ho0)) (Kd.R_base ho1)) (fun _ h_ => h_.1)); replace HO_1310006 := am (Kd.R_mono (Kd.R_told (Kd.R_told (Kd.R_old (pkR HO_1310006.out) hb) (Kd.R_base ho0)) (Kd.R_base ho1)) (fun _ h_ => h_.1)); replace BK1259 := am (blk_below (pkK BK1259.out) hb); replace BK1284 := am (blk_below (pkK BK1284.out) hb); replace BK1296 := am (blk_below (pkK BK1296.out) hb); replace BK1309 := am (blk_below (pkK BK1309.out) hb); replace HB := am (below_step (pkW HB.out) hb); (try clear hb ho0 ho1); obtain ⟨Ao98, co98, eo98⟩ := Kd.R_slice HO1338.out; subst eo98; obtain ⟨Ao99, co99, eo99⟩ := Kd.R_slice HO1341.out; subst eo99) | ((with_reducible refine gate_callee (f := 51) rfl ?_); refine goesL_ (some 81) rfl rfl Try.func51 (by kernel_rfl) rfl #[.agg #[.int .i64 t1331, .int .i64 t1332, .string t1333, .int .i64 t1334, .bool t1335, .slice Ao98 t1336.length co98, .slice Ao99 t1339.length co99], .int .i64 a1] rfl mpx ?_; (with_reducible refine (impl_Unwatch.calls kj56 t1331 t1332 t1333 t1334 t1335 _ _ t1336 _ _ t1339 a1 t1342 t1343 t1344 t1345 t1346 t1347 t1350 t1353 _ ?side1 ?side2 ?side3 ?side4 A85.out).mono ?_); (case side1 => exact pkC (Kd.R_reads' HO1338.out).2.2); (case side2 => exact (Kd.R_reads' HO1338.out).2.1); (case side3 => exact pkC (Kd.R_reads' HO1341.out).2.2); (case side4 => exact (Kd.R_reads' HO1341.out).2.1); rintro e w100 ⟨v1348, v1351, rfl, ho0, ho1, hb⟩; refine ⟨_, rfl, ?_⟩; have HO1349 := am (Kd.R_lower (Kd.R_new' (Kd.R_new' (Kd.R_new' (Kd.R_new' (Kd.R_new' (Kd.R_new' (Kd.R_new' (Kd.R_new' ho0 (Kd.R_lt (pkR HO_1285005.out))) (Kd.R_lt (pkR HO_1285006.out))) (Kd.R_lt (pkR HO_1297005.out))) (Kd.R_lt (pkR HO_1297006.out))) (Kd.R_lt (pkR HO_1310005.out))) (Kd.R_lt (pkR HO_1310006.out))) (Kd.R_lt (pkR HO1338.out))) (Kd.R_lt (pkR HO1341.out))) (below_size (pkW HB.out))); have HO1352 := am (Kd.R_lower (Kd.R_new' (Kd.R_new' (Kd.R_new' (Kd.R_new' (Kd.R_new' (Kd.R_new' (Kd.R_new' (Kd.R_new' ho1 (Kd.R_lt (pkR HO_1285005.out))) (Kd.R_lt (pkR HO_1285006.out))) (Kd.R_lt (pkR HO_1297005.out))) (Kd.R_lt (pkR HO_1297006.out))) (Kd.R_lt (pkR HO_1310005.out))) (Kd.R_lt (pkR HO_1310006.out))) (Kd.R_lt (pkR HO1338.out))) (Kd.R_lt (pkR HO1341.out))) (below_size (pkW HB.out))); replace HO_1285005 := am (Kd.R_mono (Kd.R_told (Kd.R_told (Kd.R_old (pkR HO_1285005.out) hb) (Kd.R_base ho0)) (Kd.R_base ho1)) (fun _ h_ => h_.1)); replace HO_1285006 := am (Kd.R_mono (Kd.R_told (Kd.R_told (Kd.R_old (pkR HO_1285006.out) hb) (Kd.R_base ho0)) (Kd.R_base ho1)) (fun _ h_ => h_.1)); replace HO_1297005 := am (Kd.R_mono (Kd.R_told (Kd.R_told (Kd.R_old (pkR HO_1297005.out) hb) (Kd.R_base ho0)) (Kd.R_base ho1)) (fun _ h_ => h_.1)); replace HO_1297006 := am (Kd.R_mono (Kd.R_told (Kd.R_told (Kd.R_old (pkR HO_1297006.out) hb) (Kd.R_base ho0)) (Kd.R_base ho1)) (fun _ h_ => h_.1)); replace HO_1310005 := am (Kd.R_mono (Kd.R_told (Kd.R_told (Kd.R_old (pkR HO_1310005.out) hb) (Kd.R_base ho0)) (Kd.R_base ho1)) (fun _ h_ => h_.1)); replace HO_1310006 := am (Kd.R_mono (Kd.R_told (Kd.R_told (Kd.R_old (pkR HO_1310006.out) hb) (Kd.R_base ho0)) (Kd.R_base ho1)) (fun _ h_ => h_.1)); replace HO1338 := am (Kd.R_mono (Kd.R_told (Kd.R_told (Kd.R_old (pkR HO1338.out) hb) (Kd.R_base ho0)) (Kd.R_base ho1)) (fun _ h_ => h_.1)); replace HO1341 := am (Kd.R_mono (Kd.R_told (Kd.R_told (Kd.R_old (pkR HO1341.out) hb) (Kd.R_base ho0)) (Kd.R_base ho1)) (fun _ h_ => h_.1)); replace BK1259 := am (blk_below (pkK BK1259.out) hb); replace BK1284 := am (blk_below (pkK BK1284.out) hb); replace BK1296 := am (blk_below (pkK BK1296.out) hb); replace BK1309 := am (blk_below (pkK BK1309.out) hb); replace HB := am (below_step (pkW HB.out) hb); (try clear hb ho0 ho1)) | ((with_reducible refine gate_dst (N := 14) rfl ?_); refine box_event ?hg (N := 14) ?hd (cs := #[.int .i64 0, .int .i64 0, .string (⟨#[]⟩ : ByteArray), .int .i64 0, .bool false, .slice none 0 0, .slice none 0 0]) (t := 29) ?hr ?_; (case hd => rfl); (case hg => rfl); (case hr => first | (go_simp; done) | (go_simp; rfl)); intro gb1354 hg w101 hbox hb; replace HO_1285005 := am (Kd.R_below (pkR HO_1285005.out) hb); replace HO_1285006 := am (Kd.R_below (pkR HO_1285006.out) hb); replace HO_1297005 := am (Kd.R_below (pkR HO_1297005.out) hb); replace HO_1297006 := am (Kd.R_below (pkR HO_1297006.out) hb); replace HO_1310005 := am (Kd.R_below (pkR HO_1310005.out) hb); replace HO_1310006 := am (Kd.R_below (pkR HO_1310006.out) hb); replace HO1338 := am (Kd.R_below (pkR HO1338.out) hb); replace HO1341 := am (Kd.R_below (pkR HO1341.out) hb); replace HO1349 := am (Kd.R_below (pkR HO1349.out) hb); replace HO1352 := am (Kd.R_below (pkR HO1352.out) hb); have BK1354 := am (hbox); have GW1354 := am ((by rw [hg]; exact (below_size (pkW HB.out)) : w.heap.size ≤ gb1354)); have GE1354 := am ((by rw [hg]; exact (below_size (pkW HB.out)) : w.heap.size ≤ gb1354)); replace HB := am (below_step (pkW HB.out) hb); have NB1259_1354 := am ((by rw [hg]; exact Nat.ne_of_lt (blk_lt (g := gb1259) (o := .cells #[.int .i64 a0_0, .int .i64 a0_1, .string a0_2, .int .i64 a0_3, .bool a0_4, .slice A0_5 l0_5.length c0_5, .slice A0_6 l0_6.length c0_6] 56 (0, 0)) (pkK BK1259.out)) : gb1259 ≠ gb1354)); have NB1354_1259 := am ((by rw [hg]; exact Nat.ne_of_gt (blk_lt (g := gb1259) (o := .cells #[.int .i64 a0_0, .int .i64 a0_1, .string a0_2, .int .i64 a0_3, .bool a0_4, .slice A0_5 l0_5.length c0_5, .slice A0_6 l0_6.length c0_6] 56 (0, 0)) (pkK BK1259.out)) : gb1354 ≠ gb1259)); replace BK1259 := am (blk_below (pkK BK1259.out) hb); have NB1284_1354 := am ((by rw [hg]; exact Nat.ne_of_lt (blk_lt (g := gb1284) (o := .cells #[.int .i64 t1272, .int .i64 t1273, .string t1274, .int .i64 t1275, .bool t1276, .slice Ao24 t1277.length co24, .slice Ao25 t1280.length co25] 29 (0, 0)) (pkK BK1284.out)) : gb1284 ≠ gb1354)); have NB1354_1284 := am ((by rw [hg]; exact Nat.ne_of_gt (blk_lt (g := gb1284) (o := .cells #[.int .i64 t1272, .int .i64 t1273, .string t1274, .int .i64 t1275, .bool t1276, .slice Ao24 t1277.length co24, .slice Ao25 t1280.length co25] 29 (0, 0)) (pkK BK1284.out)) : gb1354 ≠ gb1284)); replace BK1284 := am (blk_below (pkK BK1284.out) hb); have NB1296_1354 := am ((by rw [hg]; exact Nat.ne_of_lt (blk_lt (g := gb1296) (o := .cells #[.int .i64 t1285, .int .i64 t1286, .string t1287, .int .i64 t1288, .bool t1289, .slice Ao32 t1324.length co32, .slice Ao33 t1325.length co33] 29 (0, 0)) (pkK BK1296.out)) : gb1296 ≠ gb1354)); have NB1354_1296 := am ((by rw [hg]; exact Nat.ne_of_gt (blk_lt (g := gb1296) (o := .cells #[.int .i64 t1285, .int .i64 t1286, .string t1287, .int .i64 t1288, .bool t1289, .slice Ao32 t1324.length co32, .slice Ao33 t1325.length co33] 29 (0, 0)) (pkK BK1296.out)) : gb1354 ≠ gb1296)); replace BK1296 := am (blk_below (pkK BK1296.out) hb); have NB1309_1354 := am ((by rw [hg]; exact Nat.ne_of_lt (blk_lt (g := gb1309) (o := .cells #[.int .i64 t1297, .int .i64 t1298, .string t1299, .int .i64 t1300, .bool t1301, .slice Ao40 t1302.length co40, .slice Ao41 t1305.length co41] 29 (0, 0)) (pkK BK1309.out)) : gb1309 ≠ gb1354)); have NB1354_1309 := am ((by rw [hg]; exact Nat.ne_of_gt (blk_lt (g := gb1309) (o := .cells #[.int .i64 t1297, .int .i64 t1298, .string t1299, .int .i64 t1300, .bool t1301, .slice Ao40 t1302.length co40, .slice Ao41 t1305.length co41] 29 (0, 0)) (pkK BK1309.out)) : gb1354 ≠ gb1309)); replace BK1309 := am (blk_below (pkK BK1309.out) hb); clear hb hbox hg; have hnb102 := NB1354_1259.out; have hnc102 := NB1259_1354.out; have hnb103 := NB1354_1284.out; have hnc103 := NB1284_1354.out; have hnb104 := NB1354_1296.out; have hnc104 := NB1296_1354.out; have hnb105 := NB1354_1309.out; have hnc105 := NB1309_1354.out; obtain ⟨hcz106_0, hcz106_1, hcz106_2, hcz106_3, hcz106_4, hcz106_5, hcz106_6, hfz106_0, hfz106_1, hfz106_2, hfz106_3, hfz106_4, hfz106_5, hfz106_6⟩ := bk7 BK1354.out; obtain ⟨Ao107, co107, eo107⟩ := Kd.R_slice HO1349.out; subst eo107; obtain ⟨Ao108, co108, eo108⟩ := Kd.R_slice HO1352.out; subst eo108))
           (try simp only [Act.put, List.setIfInBounds_toArray, List.set_cons_zero, List.set_cons_succ])
           go_cut [92] (fun v92 wc => ∃ (kq : Nat) (x92_85 : Bool), v92 = .bool x92_85 ∧ Aside0 (laws_FnExactUnwatch.j2 kq t1327 x92_85 t1297 t1298 t1299 t1300 t1301 t1328 t1329 = some r) ∧ Aside0 (kq ≤ kj56) ∧ Aside0 (Kd.R (Kd.int .i64) 3 wc w.heap.size (fun k_ => some k_ ≠ ((.slice Ao25 t1280.length co25) : Value).ownBlock ∧ some k_ ≠ ((.slice Ao32 t1324.length co32) : Value).ownBlock ∧ some k_ ≠ ((.slice Ao33 t1325.length co33) : Value).ownBlock ∧ some k_ ≠ ((.slice Ao40 t1302.length co40) : Value).ownBlock ∧ some k_ ≠ ((.slice Ao41 t1305.length co41) : Value).ownBlock ∧ some k_ ≠ ((.slice Ao107 t1347.length co107) : Value).ownBlock ∧ some k_ ≠ ((.slice Ao108 t1350.length co108) : Value).ownBlock) (.slice Ao24 t1277.length co24) t1277) ∧ Aside0 (Kd.R (Kd.int .i64) 3 wc w.heap.size (fun k_ => some k_ ≠ ((.slice Ao24 t1277.length co24) : Value).ownBlock ∧ some k_ ≠ ((.slice Ao32 t1324.length co32) : Value).ownBlock ∧ some k_ ≠ ((.slice Ao33 t1325.length co33) : Value).ownBlock ∧ some k_ ≠ ((.slice Ao40 t1302.length co40) : Value).ownBlock ∧ some k_ ≠ ((.slice Ao41 t1305.length co41) : Value).ownBlock ∧ some k_ ≠ ((.slice Ao107 t1347.length co107) : Value).ownBlock ∧ some k_ ≠ ((.slice Ao108 t1350.length co108) : Value).ownBlock) (.slice Ao25 t1280.length co25) t1280) ∧ Aside0 (Kd.R (Kd.int .i64) 3 wc w.heap.size (fun k_ => some k_ ≠ ((.slice Ao24 t1277.length co24) : Value).ownBlock ∧ some k_ ≠ ((.slice Ao25 t1280.length co25) : Value).ownBlock ∧ some k_ ≠ ((.slice Ao33 t1325.length co33) : Value).ownBlock ∧ some k_ ≠ ((.slice Ao40 t1302.length co40) : Value).ownBlock ∧ some k_ ≠ ((.slice Ao41 t1305.length co41) : Value).ownBlock ∧ some k_ ≠ ((.slice Ao107 t1347.length co107) : Value).ownBlock ∧ some k_ ≠ ((.slice Ao108 t1350.length co108) : Value).ownBlock) (.slice Ao32 t1324.length co32) t1324) ∧ Aside0 (Kd.R (Kd.int .i64) 3 wc w.heap.size (fun k_ => some k_ ≠ ((.slice Ao24 t1277.length co24) : Value).ownBlock ∧ some k_ ≠ ((.slice Ao25 t1280.length co25) : Value).ownBlock ∧ some k_ ≠ ((.slice Ao32 t1324.length co32) : Value).ownBlock ∧ some k_ ≠ ((.slice Ao40 t1302.length co40) : Value).ownBlock ∧ some k_ ≠ ((.slice Ao41 t1305.length co41) : Value).ownBlock ∧ some k_ ≠ ((.slice Ao107 t1347.length co107) : Value).ownBlock ∧ some k_ ≠ ((.slice Ao108 t1350.length co108) : Value).ownBlock) (.slice Ao33 t1325.length co33) t1325) ∧ Aside0 (Kd.R (Kd.int .i64) 3 wc w.heap.size (fun k_ => some k_ ≠ ((.slice Ao24 t1277.length co24) : Value).ownBlock ∧ some k_ ≠ ((.slice Ao25 t1280.length co25) : Value).ownBlock ∧ some k_ ≠ ((.slice Ao32 t1324.length co32) : Value).ownBlock ∧ some k_ ≠ ((.slice Ao33 t1325.length co33) : Value).ownBlock ∧ some k_ ≠ ((.slice Ao41 t1305.length co41) : Value).ownBlock ∧ some k_ ≠ ((.slice Ao107 t1347.length co107) : Value).ownBlock ∧ some k_ ≠ ((.slice Ao108 t1350.length co108) : Value).ownBlock) (.slice Ao40 t1302.length co40) t1328) ∧ Aside0 (Kd.R (Kd.int .i64) 3 wc w.heap.size (fun k_ => some k_ ≠ ((.slice Ao24 t1277.length co24) : Value).ownBlock ∧ some k_ ≠ ((.slice Ao25 t1280.length co25) : Value).ownBlock ∧ some k_ ≠ ((.slice Ao32 t1324.length co32) : Value).ownBlock ∧ some k_ ≠ ((.slice Ao33 t1325.length co33) : Value).ownBlock ∧ some k_ ≠ ((.slice Ao40 t1302.length co40) : Value).ownBlock ∧ some k_ ≠ ((.slice Ao107 t1347.length co107) : Value).ownBlock ∧ some k_ ≠ ((.slice Ao108 t1350.length co108) : Value).ownBlock) (.slice Ao41 t1305.length co41) t1329) ∧ Aside0 (Kd.R (Kd.int .i64) 3 wc w.heap.size (fun k_ => some k_ ≠ ((.slice Ao24 t1277.length co24) : Value).ownBlock ∧ some k_ ≠ ((.slice Ao25 t1280.length co25) : Value).ownBlock ∧ some k_ ≠ ((.slice Ao32 t1324.length co32) : Value).ownBlock ∧ some k_ ≠ ((.slice Ao33 t1325.length co33) : Value).ownBlock ∧ some k_ ≠ ((.slice Ao40 t1302.length co40) : Value).ownBlock ∧ some k_ ≠ ((.slice Ao41 t1305.length co41) : Value).ownBlock ∧ some k_ ≠ ((.slice Ao108 t1350.length co108) : Value).ownBlock) (.slice Ao107 t1347.length co107) t1347) ∧ Aside0 (Kd.R (Kd.int .i64) 3 wc w.heap.size (fun k_ => some k_ ≠ ((.slice Ao24 t1277.length co24) : Value).ownBlock ∧ some k_ ≠ ((.slice Ao25 t1280.length co25) : Value).ownBlock ∧ some k_ ≠ ((.slice Ao32 t1324.length co32) : Value).ownBlock ∧ some k_ ≠ ((.slice Ao33 t1325.length co33) : Value).ownBlock ∧ some k_ ≠ ((.slice Ao40 t1302.length co40) : Value).ownBlock ∧ some k_ ≠ ((.slice Ao41 t1305.length co41) : Value).ownBlock ∧ some k_ ≠ ((.slice Ao107 t1347.length co107) : Value).ownBlock) (.slice Ao108 t1350.length co108) t1350) ∧ Aside0 (wc.heap[gb1259]? = some (.cells #[.int .i64 a0_0, .int .i64 a0_1, .string a0_2, .int .i64 a0_3, .bool a0_4, (.slice A0_5 l0_5.length c0_5), (.slice A0_6 l0_6.length c0_6)] 56 (0, 0))) ∧ Aside0 (wc.heap[gb1284]? = some (.cells #[.int .i64 t1272, .int .i64 t1273, .string t1274, .int .i64 t1275, .bool t1276, (.slice Ao24 t1277.length co24), (.slice Ao25 t1280.length co25)] 29 (0, 0))) ∧ Aside0 (wc.heap[gb1296]? = some (.cells #[.int .i64 t1285, .int .i64 t1286, .string t1287, .int .i64 t1288, .bool t1289, (.slice Ao32 t1324.length co32), (.slice Ao33 t1325.length co33)] 29 (0, 0))) ∧ Aside0 (wc.heap[gb1309]? = some (.cells #[.int .i64 t1297, .int .i64 t1298, .string t1299, .int .i64 t1300, .bool t1301, (.slice Ao40 t1302.length co40), (.slice Ao41 t1305.length co41)] 29 (0, 0))) ∧ Aside0 (wc.heap[gb1354]? = some (.cells #[.int .i64 t1342, .int .i64 t1343, .string t1344, .int .i64 t1345, .bool t1346, (.slice Ao107 t1347.length co107), (.slice Ao108 t1350.length co108)] 29 (0, 0))) ∧ Aside0 (Below w.heap.size w wc))
           case first =>
            have H := HC86.out
            clear HC86
            replace H := Option.bind_eq_some_iff.mp H
            obtain ⟨t1355, A1090, H⟩ := H
            replace H : (if t1355 = true then (laws_FnExactUnwatch.j2 kj56 t1327 (t1353 != t1283) t1297 t1298 t1299 t1300 t1301 t1328 t1329) else (laws_FnExactUnwatch.j2 kj56 t1327 true t1297 t1298 t1299 t1300 t1301 t1328 t1329)) = some r := H
            have A109 := am A1090
            clear A1090
            by_cases c110 : t1355 = true
            ·subst c110
             replace H : (laws_FnExactUnwatch.j2 kj56 t1327 (t1353 != t1283) t1297 t1298 t1299 t1300 t1301 t1328 t1329) = some r := by rw [if_pos rfl] at H; exact H
             have H' := am H
             clear H
             have hnb111 := NB1354_1259.out
             have hnc111 := NB1259_1354.out
             have hnb112 := NB1354_1284.out
             have hnc112 := NB1284_1354.out
             have hnb113 := NB1354_1296.out
             have hnc113 := NB1296_1354.out
             have hnb114 := NB1354_1309.out
             have hnc114 := NB1309_1354.out
             obtain ⟨hcz115_0, hcz115_1, hcz115_2, hcz115_3, hcz115_4, hcz115_5, hcz115_6, hfz115_0, hfz115_1, hfz115_2, hfz115_3, hfz115_4, hfz115_5, hfz115_6⟩ := bk7 BK1354.out
             have hnb116 := NB1284_1259.out
             have hnc116 := NB1259_1284.out
             have hnb117 := NB1284_1296.out
             have hnc117 := NB1296_1284.out
             have hnb118 := NB1284_1309.out
             have hnc118 := NB1309_1284.out
             obtain ⟨hcz119_0, hcz119_1, hcz119_2, hcz119_3, hcz119_4, hcz119_5, hcz119_6, hfz119_0, hfz119_1, hfz119_2, hfz119_3, hfz119_4, hfz119_5, hfz119_6⟩ := bk7 BK1284.out
             go_wp2_with (first | ((with_reducible refine gate_callee (f := 34) rfl ?_); refine goesL_ (some 86) rfl rfl Try.func34 (by kernel_rfl) rfl #[.agg #[.int .i64 t1342, .int .i64 t1343, .string t1344, .int .i64 t1345, .bool t1346, .slice Ao107 t1347.length co107, .slice Ao108 t1350.length co108], .agg #[.int .i64 t1272, .int .i64 t1273, .string t1274, .int .i64 t1275, .bool t1276, .slice Ao24 t1277.length co24, .slice Ao25 t1280.length co25]] rfl mpx ?_; (with_reducible refine (laws_eqCell.calls kj56 t1342 t1343 t1344 t1345 t1346 _ _ t1347 _ _ t1350 t1272 t1273 t1274 t1275 t1276 _ _ t1277 _ _ t1280 true _ ?side1 ?side2 ?side3 ?side4 ?side5 ?side6 ?side7 ?side8 A109.out).mono ?_); (case side1 => refine (Kd.R_reads' (e := 3) (base := w.heap.size) (ok := fun k_ => ((((((((some k_ ≠ (.slice Ao108 t1350.length co108 : Value).ownBlock ∧ some k_ ≠ (.slice Ao24 t1277.length co24 : Value).ownBlock) ∧ some k_ ≠ (.slice Ao25 t1280.length co25 : Value).ownBlock) ∧ some k_ ≠ (.slice Ao32 t1324.length co32 : Value).ownBlock) ∧ some k_ ≠ (.slice Ao33 t1325.length co33 : Value).ownBlock) ∧ some k_ ≠ (.slice Ao40 t1302.length co40 : Value).ownBlock) ∧ some k_ ≠ (.slice Ao41 t1305.length co41 : Value).ownBlock) ∧ some k_ ≠ (.slice Ao98 t1336.length co98 : Value).ownBlock) ∧ some k_ ≠ (.slice Ao99 t1339.length co99 : Value).ownBlock)) (n := t1347.length) (c := co107) ?_).2.2; exact (by (with_reducible repeat (first | apply Kd.R_alloc | apply Kd.R_drewN | apply Kd.R_drew)); exact (Kd.R_mono (Kd.R_far (p := ⟨gb1354, 6, none⟩) (Kd.R_far (p := ⟨gb1354, 5, none⟩) (Kd.R_far (p := ⟨gb1354, 4, none⟩) (Kd.R_far (p := ⟨gb1354, 3, none⟩) (Kd.R_far (p := ⟨gb1354, 2, none⟩) (Kd.R_far (p := ⟨gb1354, 1, none⟩) (Kd.R_far (p := ⟨gb1354, 0, none⟩) (Kd.R_types HO1349.out BK1354.out (by decide)) (fun _ hk => hk.2) (.int .i64 t1342)) (fun _ hk => hk.2) (.int .i64 t1343)) (fun _ hk => hk.2) (.string t1344)) (fun _ hk => hk.2) (.int .i64 t1345)) (fun _ hk => hk.2) (.bool t1346)) (fun _ hk => hk.2) (.slice Ao107 t1347.length co107)) (fun _ hk => hk.2) (.slice Ao108 t1350.length co108)) (fun _ h_ => h_.1)))); (case side2 => exact (Kd.R_reads' HO1349.out).2.1); (case side3 => refine (Kd.R_reads' (e := 3) (base := w.heap.size) (ok := fun k_ => ((((((((some k_ ≠ (.slice Ao107 t1347.length co107 : Value).ownBlock ∧ some k_ ≠ (.slice Ao24 t1277.length co24 : Value).ownBlock) ∧ some k_ ≠ (.slice Ao25 t1280.length co25 : Value).ownBlock) ∧ some k_ ≠ (.slice Ao32 t1324.length co32 : Value).ownBlock) ∧ some k_ ≠ (.slice Ao33 t1325.length co33 : Value).ownBlock) ∧ some k_ ≠ (.slice Ao40 t1302.length co40 : Value).ownBlock) ∧ some k_ ≠ (.slice Ao41 t1305.length co41 : Value).ownBlock) ∧ some k_ ≠ (.slice Ao98 t1336.length co98 : Value).ownBlock) ∧ some k_ ≠ (.slice Ao99 t1339.length co99 : Value).ownBlock)) (n := t1350.length) (c := co108) ?_).2.2; exact (by (with_reducible repeat (first | apply Kd.R_alloc | apply Kd.R_drewN | apply Kd.R_drew)); exact (Kd.R_mono (Kd.R_far (p := ⟨gb1354, 6, none⟩) (Kd.R_far (p := ⟨gb1354, 5, none⟩) (Kd.R_far (p := ⟨gb1354, 4, none⟩) (Kd.R_far (p := ⟨gb1354, 3, none⟩) (Kd.R_far (p := ⟨gb1354, 2, none⟩) (Kd.R_far (p := ⟨gb1354, 1, none⟩) (Kd.R_far (p := ⟨gb1354, 0, none⟩) (Kd.R_types HO1352.out BK1354.out (by decide)) (fun _ hk => hk.2) (.int .i64 t1342)) (fun _ hk => hk.2) (.int .i64 t1343)) (fun _ hk => hk.2) (.string t1344)) (fun _ hk => hk.2) (.int .i64 t1345)) (fun _ hk => hk.2) (.bool t1346)) (fun _ hk => hk.2) (.slice Ao107 t1347.length co107)) (fun _ hk => hk.2) (.slice Ao108 t1350.length co108)) (fun _ h_ => h_.1)))); (case side4 => exact (Kd.R_reads' HO1352.out).2.1); (case side5 => refine (Kd.R_reads' (e := 3) (base := w.heap.size) (ok := fun k_ => (((((some k_ ≠ (.slice Ao25 t1280.length co25 : Value).ownBlock ∧ (some k_ ≠ (.slice Ao32 t1324.length co32 : Value).ownBlock ∧ (some k_ ≠ (.slice Ao33 t1325.length co33 : Value).ownBlock ∧ (some k_ ≠ (.slice Ao40 t1302.length co40 : Value).ownBlock ∧ some k_ ≠ (.slice Ao41 t1305.length co41 : Value).ownBlock)))) ∧ some k_ ≠ (.slice Ao98 t1336.length co98 : Value).ownBlock) ∧ some k_ ≠ (.slice Ao99 t1339.length co99 : Value).ownBlock) ∧ some k_ ≠ (.slice Ao107 t1347.length co107 : Value).ownBlock) ∧ some k_ ≠ (.slice Ao108 t1350.length co108 : Value).ownBlock)) (n := t1277.length) (c := co24) ?_).2.2; exact (by (with_reducible repeat (first | apply Kd.R_alloc | apply Kd.R_drewN | apply Kd.R_drew)); exact (Kd.R_mono (Kd.R_far (p := ⟨gb1354, 6, none⟩) (Kd.R_far (p := ⟨gb1354, 5, none⟩) (Kd.R_far (p := ⟨gb1354, 4, none⟩) (Kd.R_far (p := ⟨gb1354, 3, none⟩) (Kd.R_far (p := ⟨gb1354, 2, none⟩) (Kd.R_far (p := ⟨gb1354, 1, none⟩) (Kd.R_far (p := ⟨gb1354, 0, none⟩) (Kd.R_types HO_1285005.out BK1354.out (by decide)) (fun _ hk => hk.2) (.int .i64 t1342)) (fun _ hk => hk.2) (.int .i64 t1343)) (fun _ hk => hk.2) (.string t1344)) (fun _ hk => hk.2) (.int .i64 t1345)) (fun _ hk => hk.2) (.bool t1346)) (fun _ hk => hk.2) (.slice Ao107 t1347.length co107)) (fun _ hk => hk.2) (.slice Ao108 t1350.length co108)) (fun _ h_ => h_.1)))); (case side6 => exact (Kd.R_reads' HO_1285005.out).2.1); (case side7 => refine (Kd.R_reads' (e := 3) (base := w.heap.size) (ok := fun k_ => (((((some k_ ≠ (.slice Ao24 t1277.length co24 : Value).ownBlock ∧ (some k_ ≠ (.slice Ao32 t1324.length co32 : Value).ownBlock ∧ (some k_ ≠ (.slice Ao33 t1325.length co33 : Value).ownBlock ∧ (some k_ ≠ (.slice Ao40 t1302.length co40 : Value).ownBlock ∧ some k_ ≠ (.slice Ao41 t1305.length co41 : Value).ownBlock)))) ∧ some k_ ≠ (.slice Ao98 t1336.length co98 : Value).ownBlock) ∧ some k_ ≠ (.slice Ao99 t1339.length co99 : Value).ownBlock) ∧ some k_ ≠ (.slice Ao107 t1347.length co107 : Value).ownBlock) ∧ some k_ ≠ (.slice Ao108 t1350.length co108 : Value).ownBlock)) (n := t1280.length) (c := co25) ?_).2.2; exact (by (with_reducible repeat (first | apply Kd.R_alloc | apply Kd.R_drewN | apply Kd.R_drew)); exact (Kd.R_mono (Kd.R_far (p := ⟨gb1354, 6, none⟩) (Kd.R_far (p := ⟨gb1354, 5, none⟩) (Kd.R_far (p := ⟨gb1354, 4, none⟩) (Kd.R_far (p := ⟨gb1354, 3, none⟩) (Kd.R_far (p := ⟨gb1354, 2, none⟩) (Kd.R_far (p := ⟨gb1354, 1, none⟩) (Kd.R_far (p := ⟨gb1354, 0, none⟩) (Kd.R_types HO_1285006.out BK1354.out (by decide)) (fun _ hk => hk.2) (.int .i64 t1342)) (fun _ hk => hk.2) (.int .i64 t1343)) (fun _ hk => hk.2) (.string t1344)) (fun _ hk => hk.2) (.int .i64 t1345)) (fun _ hk => hk.2) (.bool t1346)) (fun _ hk => hk.2) (.slice Ao107 t1347.length co107)) (fun _ hk => hk.2) (.slice Ao108 t1350.length co108)) (fun _ h_ => h_.1)))); (case side8 => exact (Kd.R_reads' HO_1285006.out).2.1); rintro e w120 ⟨rfl, hb⟩; refine ⟨_, rfl, ?_⟩; replace HO_1285005 := am (Kd.R_below (by (with_reducible repeat (first | apply Kd.R_alloc | apply Kd.R_drewN | apply Kd.R_drew)); exact (Kd.R_mono (Kd.R_far (p := ⟨gb1354, 6, none⟩) (Kd.R_far (p := ⟨gb1354, 5, none⟩) (Kd.R_far (p := ⟨gb1354, 4, none⟩) (Kd.R_far (p := ⟨gb1354, 3, none⟩) (Kd.R_far (p := ⟨gb1354, 2, none⟩) (Kd.R_far (p := ⟨gb1354, 1, none⟩) (Kd.R_far (p := ⟨gb1354, 0, none⟩) (Kd.R_types HO_1285005.out BK1354.out (by decide)) (fun _ hk => hk.2) (.int .i64 t1342)) (fun _ hk => hk.2) (.int .i64 t1343)) (fun _ hk => hk.2) (.string t1344)) (fun _ hk => hk.2) (.int .i64 t1345)) (fun _ hk => hk.2) (.bool t1346)) (fun _ hk => hk.2) (.slice Ao107 t1347.length co107)) (fun _ hk => hk.2) (.slice Ao108 t1350.length co108)) (fun _ h_ => h_.1))) hb); replace HO_1285006 := am (Kd.R_below (by (with_reducible repeat (first | apply Kd.R_alloc | apply Kd.R_drewN | apply Kd.R_drew)); exact (Kd.R_mono (Kd.R_far (p := ⟨gb1354, 6, none⟩) (Kd.R_far (p := ⟨gb1354, 5, none⟩) (Kd.R_far (p := ⟨gb1354, 4, none⟩) (Kd.R_far (p := ⟨gb1354, 3, none⟩) (Kd.R_far (p := ⟨gb1354, 2, none⟩) (Kd.R_far (p := ⟨gb1354, 1, none⟩) (Kd.R_far (p := ⟨gb1354, 0, none⟩) (Kd.R_types HO_1285006.out BK1354.out (by decide)) (fun _ hk => hk.2) (.int .i64 t1342)) (fun _ hk => hk.2) (.int .i64 t1343)) (fun _ hk => hk.2) (.string t1344)) (fun _ hk => hk.2) (.int .i64 t1345)) (fun _ hk => hk.2) (.bool t1346)) (fun _ hk => hk.2) (.slice Ao107 t1347.length co107)) (fun _ hk => hk.2) (.slice Ao108 t1350.length co108)) (fun _ h_ => h_.1))) hb); replace HO_1297005 := am (Kd.R_below (by (with_reducible repeat (first | apply Kd.R_alloc | apply Kd.R_drewN | apply Kd.R_drew)); exact (Kd.R_mono (Kd.R_far (p := ⟨gb1354, 6, none⟩) (Kd.R_far (p := ⟨gb1354, 5, none⟩) (Kd.R_far (p := ⟨gb1354, 4, none⟩) (Kd.R_far (p := ⟨gb1354, 3, none⟩) (Kd.R_far (p := ⟨gb1354, 2, none⟩) (Kd.R_far (p := ⟨gb1354, 1, none⟩) (Kd.R_far (p := ⟨gb1354, 0, none⟩) (Kd.R_types HO_1297005.out BK1354.out (by decide)) (fun _ hk => hk.2) (.int .i64 t1342)) (fun _ hk => hk.2) (.int .i64 t1343)) (fun _ hk => hk.2) (.string t1344)) (fun _ hk => hk.2) (.int .i64 t1345)) (fun _ hk => hk.2) (.bool t1346)) (fun _ hk => hk.2) (.slice Ao107 t1347.length co107)) (fun _ hk => hk.2) (.slice Ao108 t1350.length co108)) (fun _ h_ => h_.1))) hb); replace HO_1297006 := am (Kd.R_below (by (with_reducible repeat (first | apply Kd.R_alloc | apply Kd.R_drewN | apply Kd.R_drew)); exact (Kd.R_mono (Kd.R_far (p := ⟨gb1354, 6, none⟩) (Kd.R_far (p := ⟨gb1354, 5, none⟩) (Kd.R_far (p := ⟨gb1354, 4, none⟩) (Kd.R_far (p := ⟨gb1354, 3, none⟩) (Kd.R_far (p := ⟨gb1354, 2, none⟩) (Kd.R_far (p := ⟨gb1354, 1, none⟩) (Kd.R_far (p := ⟨gb1354, 0, none⟩) (Kd.R_types HO_1297006.out BK1354.out (by decide)) (fun _ hk => hk.2) (.int .i64 t1342)) (fun _ hk => hk.2) (.int .i64 t1343)) (fun _ hk => hk.2) (.string t1344)) (fun _ hk => hk.2) (.int .i64 t1345)) (fun _ hk => hk.2) (.bool t1346)) (fun _ hk => hk.2) (.slice Ao107 t1347.length co107)) (fun _ hk => hk.2) (.slice Ao108 t1350.length co108)) (fun _ h_ => h_.1))) hb); replace HO_1310005 := am (Kd.R_below (by (with_reducible repeat (first | apply Kd.R_alloc | apply Kd.R_drewN | apply Kd.R_drew)); exact (Kd.R_mono (Kd.R_far (p := ⟨gb1354, 6, none⟩) (Kd.R_far (p := ⟨gb1354, 5, none⟩) (Kd.R_far (p := ⟨gb1354, 4, none⟩) (Kd.R_far (p := ⟨gb1354, 3, none⟩) (Kd.R_far (p := ⟨gb1354, 2, none⟩) (Kd.R_far (p := ⟨gb1354, 1, none⟩) (Kd.R_far (p := ⟨gb1354, 0, none⟩) (Kd.R_types HO_1310005.out BK1354.out (by decide)) (fun _ hk => hk.2) (.int .i64 t1342)) (fun _ hk => hk.2) (.int .i64 t1343)) (fun _ hk => hk.2) (.string t1344)) (fun _ hk => hk.2) (.int .i64 t1345)) (fun _ hk => hk.2) (.bool t1346)) (fun _ hk => hk.2) (.slice Ao107 t1347.length co107)) (fun _ hk => hk.2) (.slice Ao108 t1350.length co108)) (fun _ h_ => h_.1))) hb); replace HO_1310006 := am (Kd.R_below (by (with_reducible repeat (first | apply Kd.R_alloc | apply Kd.R_drewN | apply Kd.R_drew)); exact (Kd.R_mono (Kd.R_far (p := ⟨gb1354, 6, none⟩) (Kd.R_far (p := ⟨gb1354, 5, none⟩) (Kd.R_far (p := ⟨gb1354, 4, none⟩) (Kd.R_far (p := ⟨gb1354, 3, none⟩) (Kd.R_far (p := ⟨gb1354, 2, none⟩) (Kd.R_far (p := ⟨gb1354, 1, none⟩) (Kd.R_far (p := ⟨gb1354, 0, none⟩) (Kd.R_types HO_1310006.out BK1354.out (by decide)) (fun _ hk => hk.2) (.int .i64 t1342)) (fun _ hk => hk.2) (.int .i64 t1343)) (fun _ hk => hk.2) (.string t1344)) (fun _ hk => hk.2) (.int .i64 t1345)) (fun _ hk => hk.2) (.bool t1346)) (fun _ hk => hk.2) (.slice Ao107 t1347.length co107)) (fun _ hk => hk.2) (.slice Ao108 t1350.length co108)) (fun _ h_ => h_.1))) hb); replace HO1338 := am (Kd.R_below (by (with_reducible repeat (first | apply Kd.R_alloc | apply Kd.R_drewN | apply Kd.R_drew)); exact (Kd.R_mono (Kd.R_far (p := ⟨gb1354, 6, none⟩) (Kd.R_far (p := ⟨gb1354, 5, none⟩) (Kd.R_far (p := ⟨gb1354, 4, none⟩) (Kd.R_far (p := ⟨gb1354, 3, none⟩) (Kd.R_far (p := ⟨gb1354, 2, none⟩) (Kd.R_far (p := ⟨gb1354, 1, none⟩) (Kd.R_far (p := ⟨gb1354, 0, none⟩) (Kd.R_types HO1338.out BK1354.out (by decide)) (fun _ hk => hk.2) (.int .i64 t1342)) (fun _ hk => hk.2) (.int .i64 t1343)) (fun _ hk => hk.2) (.string t1344)) (fun _ hk => hk.2) (.int .i64 t1345)) (fun _ hk => hk.2) (.bool t1346)) (fun _ hk => hk.2) (.slice Ao107 t1347.length co107)) (fun _ hk => hk.2) (.slice Ao108 t1350.length co108)) (fun _ h_ => h_.1))) hb); replace HO1341 := am (Kd.R_below (by (with_reducible repeat (first | apply Kd.R_alloc | apply Kd.R_drewN | apply Kd.R_drew)); exact (Kd.R_mono (Kd.R_far (p := ⟨gb1354, 6, none⟩) (Kd.R_far (p := ⟨gb1354, 5, none⟩) (Kd.R_far (p := ⟨gb1354, 4, none⟩) (Kd.R_far (p := ⟨gb1354, 3, none⟩) (Kd.R_far (p := ⟨gb1354, 2, none⟩) (Kd.R_far (p := ⟨gb1354, 1, none⟩) (Kd.R_far (p := ⟨gb1354, 0, none⟩) (Kd.R_types HO1341.out BK1354.out (by decide)) (fun _ hk => hk.2) (.int .i64 t1342)) (fun _ hk => hk.2) (.int .i64 t1343)) (fun _ hk => hk.2) (.string t1344)) (fun _ hk => hk.2) (.int .i64 t1345)) (fun _ hk => hk.2) (.bool t1346)) (fun _ hk => hk.2) (.slice Ao107 t1347.length co107)) (fun _ hk => hk.2) (.slice Ao108 t1350.length co108)) (fun _ h_ => h_.1))) hb); replace HO1349 := am (Kd.R_below (by (with_reducible repeat (first | apply Kd.R_alloc | apply Kd.R_drewN | apply Kd.R_drew)); exact (Kd.R_mono (Kd.R_far (p := ⟨gb1354, 6, none⟩) (Kd.R_far (p := ⟨gb1354, 5, none⟩) (Kd.R_far (p := ⟨gb1354, 4, none⟩) (Kd.R_far (p := ⟨gb1354, 3, none⟩) (Kd.R_far (p := ⟨gb1354, 2, none⟩) (Kd.R_far (p := ⟨gb1354, 1, none⟩) (Kd.R_far (p := ⟨gb1354, 0, none⟩) (Kd.R_types HO1349.out BK1354.out (by decide)) (fun _ hk => hk.2) (.int .i64 t1342)) (fun _ hk => hk.2) (.int .i64 t1343)) (fun _ hk => hk.2) (.string t1344)) (fun _ hk => hk.2) (.int .i64 t1345)) (fun _ hk => hk.2) (.bool t1346)) (fun _ hk => hk.2) (.slice Ao107 t1347.length co107)) (fun _ hk => hk.2) (.slice Ao108 t1350.length co108)) (fun _ h_ => h_.1))) hb); replace HO1352 := am (Kd.R_below (by (with_reducible repeat (first | apply Kd.R_alloc | apply Kd.R_drewN | apply Kd.R_drew)); exact (Kd.R_mono (Kd.R_far (p := ⟨gb1354, 6, none⟩) (Kd.R_far (p := ⟨gb1354, 5, none⟩) (Kd.R_far (p := ⟨gb1354, 4, none⟩) (Kd.R_far (p := ⟨gb1354, 3, none⟩) (Kd.R_far (p := ⟨gb1354, 2, none⟩) (Kd.R_far (p := ⟨gb1354, 1, none⟩) (Kd.R_far (p := ⟨gb1354, 0, none⟩) (Kd.R_types HO1352.out BK1354.out (by decide)) (fun _ hk => hk.2) (.int .i64 t1342)) (fun _ hk => hk.2) (.int .i64 t1343)) (fun _ hk => hk.2) (.string t1344)) (fun _ hk => hk.2) (.int .i64 t1345)) (fun _ hk => hk.2) (.bool t1346)) (fun _ hk => hk.2) (.slice Ao107 t1347.length co107)) (fun _ hk => hk.2) (.slice Ao108 t1350.length co108)) (fun _ h_ => h_.1))) hb); replace BK1259 := am (blk_below (g := gb1259) (o := .cells #[.int .i64 a0_0, .int .i64 a0_1, .string a0_2, .int .i64 a0_3, .bool a0_4, .slice A0_5 l0_5.length c0_5, .slice A0_6 l0_6.length c0_6] 56 (0, 0)) (by (with_reducible repeat (first | refine blk_drewN ?_ _ | refine blk_drew ?_ | refine blk_alloc ?_ _)); refine blk_far ?_ NB1259_1354.out _; (with_reducible repeat (first | refine blk_drewN ?_ _ | refine blk_drew ?_ | refine blk_alloc ?_ _)); refine blk_far ?_ NB1259_1354.out _; (with_reducible repeat (first | refine blk_drewN ?_ _ | refine blk_drew ?_ | refine blk_alloc ?_ _)); refine blk_far ?_ NB1259_1354.out _; (with_reducible repeat (first | refine blk_drewN ?_ _ | refine blk_drew ?_ | refine blk_alloc ?_ _)); refine blk_far ?_ NB1259_1354.out _; (with_reducible repeat (first | refine blk_drewN ?_ _ | refine blk_drew ?_ | refine blk_alloc ?_ _)); refine blk_far ?_ NB1259_1354.out _; (with_reducible repeat (first | refine blk_drewN ?_ _ | refine blk_drew ?_ | refine blk_alloc ?_ _)); refine blk_far ?_ NB1259_1354.out _; (with_reducible repeat (first | refine blk_drewN ?_ _ | refine blk_drew ?_ | refine blk_alloc ?_ _)); refine blk_far ?_ NB1259_1354.out _; exact pkK BK1259.out) hb); replace BK1284 := am (blk_below (g := gb1284) (o := .cells #[.int .i64 t1272, .int .i64 t1273, .string t1274, .int .i64 t1275, .bool t1276, .slice Ao24 t1277.length co24, .slice Ao25 t1280.length co25] 29 (0, 0)) (by (with_reducible repeat (first | refine blk_drewN ?_ _ | refine blk_drew ?_ | refine blk_alloc ?_ _)); refine blk_far ?_ NB1284_1354.out _; (with_reducible repeat (first | refine blk_drewN ?_ _ | refine blk_drew ?_ | refine blk_alloc ?_ _)); refine blk_far ?_ NB1284_1354.out _; (with_reducible repeat (first | refine blk_drewN ?_ _ | refine blk_drew ?_ | refine blk_alloc ?_ _)); refine blk_far ?_ NB1284_1354.out _; (with_reducible repeat (first | refine blk_drewN ?_ _ | refine blk_drew ?_ | refine blk_alloc ?_ _)); refine blk_far ?_ NB1284_1354.out _; (with_reducible repeat (first | refine blk_drewN ?_ _ | refine blk_drew ?_ | refine blk_alloc ?_ _)); refine blk_far ?_ NB1284_1354.out _; (with_reducible repeat (first | refine blk_drewN ?_ _ | refine blk_drew ?_ | refine blk_alloc ?_ _)); refine blk_far ?_ NB1284_1354.out _; (with_reducible repeat (first | refine blk_drewN ?_ _ | refine blk_drew ?_ | refine blk_alloc ?_ _)); refine blk_far ?_ NB1284_1354.out _; exact pkK BK1284.out) hb); replace BK1296 := am (blk_below (g := gb1296) (o := .cells #[.int .i64 t1285, .int .i64 t1286, .string t1287, .int .i64 t1288, .bool t1289, .slice Ao32 t1324.length co32, .slice Ao33 t1325.length co33] 29 (0, 0)) (by (with_reducible repeat (first | refine blk_drewN ?_ _ | refine blk_drew ?_ | refine blk_alloc ?_ _)); refine blk_far ?_ NB1296_1354.out _; (with_reducible repeat (first | refine blk_drewN ?_ _ | refine blk_drew ?_ | refine blk_alloc ?_ _)); refine blk_far ?_ NB1296_1354.out _; (with_reducible repeat (first | refine blk_drewN ?_ _ | refine blk_drew ?_ | refine blk_alloc ?_ _)); refine blk_far ?_ NB1296_1354.out _; (with_reducible repeat (first | refine blk_drewN ?_ _ | refine blk_drew ?_ | refine blk_alloc ?_ _)); refine blk_far ?_ NB1296_1354.out _; (with_reducible repeat (first | refine blk_drewN ?_ _ | refine blk_drew ?_ | refine blk_alloc ?_ _)); refine blk_far ?_ NB1296_1354.out _; (with_reducible repeat (first | refine blk_drewN ?_ _ | refine blk_drew ?_ | refine blk_alloc ?_ _)); refine blk_far ?_ NB1296_1354.out _; (with_reducible repeat (first | refine blk_drewN ?_ _ | refine blk_drew ?_ | refine blk_alloc ?_ _)); refine blk_far ?_ NB1296_1354.out _; exact pkK BK1296.out) hb); replace BK1309 := am (blk_below (g := gb1309) (o := .cells #[.int .i64 t1297, .int .i64 t1298, .string t1299, .int .i64 t1300, .bool t1301, .slice Ao40 t1302.length co40, .slice Ao41 t1305.length co41] 29 (0, 0)) (by (with_reducible repeat (first | refine blk_drewN ?_ _ | refine blk_drew ?_ | refine blk_alloc ?_ _)); refine blk_far ?_ NB1309_1354.out _; (with_reducible repeat (first | refine blk_drewN ?_ _ | refine blk_drew ?_ | refine blk_alloc ?_ _)); refine blk_far ?_ NB1309_1354.out _; (with_reducible repeat (first | refine blk_drewN ?_ _ | refine blk_drew ?_ | refine blk_alloc ?_ _)); refine blk_far ?_ NB1309_1354.out _; (with_reducible repeat (first | refine blk_drewN ?_ _ | refine blk_drew ?_ | refine blk_alloc ?_ _)); refine blk_far ?_ NB1309_1354.out _; (with_reducible repeat (first | refine blk_drewN ?_ _ | refine blk_drew ?_ | refine blk_alloc ?_ _)); refine blk_far ?_ NB1309_1354.out _; (with_reducible repeat (first | refine blk_drewN ?_ _ | refine blk_drew ?_ | refine blk_alloc ?_ _)); refine blk_far ?_ NB1309_1354.out _; (with_reducible repeat (first | refine blk_drewN ?_ _ | refine blk_drew ?_ | refine blk_alloc ?_ _)); refine blk_far ?_ NB1309_1354.out _; exact pkK BK1309.out) hb); replace BK1354 := am (blk_below (g := gb1354) (o := .cells #[.int .i64 t1342, .int .i64 t1343, .string t1344, .int .i64 t1345, .bool t1346, .slice Ao107 t1347.length co107, .slice Ao108 t1350.length co108] 29 (0, 0)) (by (with_reducible repeat (first | refine blk_drewN ?_ _ | refine blk_drew ?_ | refine blk_alloc ?_ _)); refine blk_put (cs := #[.int .i64 t1342, .int .i64 t1343, .string t1344, .int .i64 t1345, .bool t1346, .slice Ao107 t1347.length co107, .slice none 0 0]) ?_ 6 _ rfl; (with_reducible repeat (first | refine blk_drewN ?_ _ | refine blk_drew ?_ | refine blk_alloc ?_ _)); refine blk_put (cs := #[.int .i64 t1342, .int .i64 t1343, .string t1344, .int .i64 t1345, .bool t1346, .slice none 0 0, .slice none 0 0]) ?_ 5 _ rfl; (with_reducible repeat (first | refine blk_drewN ?_ _ | refine blk_drew ?_ | refine blk_alloc ?_ _)); refine blk_put (cs := #[.int .i64 t1342, .int .i64 t1343, .string t1344, .int .i64 t1345, .bool false, .slice none 0 0, .slice none 0 0]) ?_ 4 _ rfl; (with_reducible repeat (first | refine blk_drewN ?_ _ | refine blk_drew ?_ | refine blk_alloc ?_ _)); refine blk_put (cs := #[.int .i64 t1342, .int .i64 t1343, .string t1344, .int .i64 0, .bool false, .slice none 0 0, .slice none 0 0]) ?_ 3 _ rfl; (with_reducible repeat (first | refine blk_drewN ?_ _ | refine blk_drew ?_ | refine blk_alloc ?_ _)); refine blk_put (cs := #[.int .i64 t1342, .int .i64 t1343, .string (⟨#[]⟩ : ByteArray), .int .i64 0, .bool false, .slice none 0 0, .slice none 0 0]) ?_ 2 _ rfl; (with_reducible repeat (first | refine blk_drewN ?_ _ | refine blk_drew ?_ | refine blk_alloc ?_ _)); refine blk_put (cs := #[.int .i64 t1342, .int .i64 0, .string (⟨#[]⟩ : ByteArray), .int .i64 0, .bool false, .slice none 0 0, .slice none 0 0]) ?_ 1 _ rfl; (with_reducible repeat (first | refine blk_drewN ?_ _ | refine blk_drew ?_ | refine blk_alloc ?_ _)); refine blk_put (cs := #[.int .i64 0, .int .i64 0, .string (⟨#[]⟩ : ByteArray), .int .i64 0, .bool false, .slice none 0 0, .slice none 0 0]) ?_ 0 _ rfl; exact pkK BK1354.out) hb); replace HB := am (below_step (pkW HB.out) hb); (try clear hb)))
             go_meet
             case rel => exact ⟨_, ((t1353 != t1283)), rfx, H', ⟨by have := HJ11.out; have := HJ56.out; first | omega | exact Nat.le_refl _⟩, ⟨by (try simp only [hl1297005_56]); (try simp only [hl1297006_56]); (with_reducible repeat (first | apply Kd.R_alloc | apply Kd.R_drewN | apply Kd.R_drew)); exact Kd.R_mono HO_1285005.out (fun _ hk => ⟨hk.1.1.1.1.1, ⟨hk.1.1.1.1.2.1, ⟨hk.1.1.1.1.2.2.1, ⟨hk.1.1.1.1.2.2.2.1, ⟨hk.1.1.1.1.2.2.2.2, ⟨hk.1.2, hk.2⟩⟩⟩⟩⟩⟩)⟩, ⟨by (try simp only [hl1297005_56]); (try simp only [hl1297006_56]); (with_reducible repeat (first | apply Kd.R_alloc | apply Kd.R_drewN | apply Kd.R_drew)); exact Kd.R_mono HO_1285006.out (fun _ hk => ⟨hk.1.1.1.1.1, ⟨hk.1.1.1.1.2.1, ⟨hk.1.1.1.1.2.2.1, ⟨hk.1.1.1.1.2.2.2.1, ⟨hk.1.1.1.1.2.2.2.2, ⟨hk.1.2, hk.2⟩⟩⟩⟩⟩⟩)⟩, ⟨by (try simp only [hl1297005_56]); (try simp only [hl1297006_56]); (with_reducible repeat (first | apply Kd.R_alloc | apply Kd.R_drewN | apply Kd.R_drew)); exact Kd.R_mono HO_1297005.out (fun _ hk => ⟨hk.1.1.1.1.1, ⟨hk.1.1.1.1.2.1, ⟨hk.1.1.1.1.2.2.1, ⟨hk.1.1.1.1.2.2.2.1, ⟨hk.1.1.1.1.2.2.2.2, ⟨hk.1.2, hk.2⟩⟩⟩⟩⟩⟩)⟩, ⟨by (try simp only [hl1297005_56]); (try simp only [hl1297006_56]); (with_reducible repeat (first | apply Kd.R_alloc | apply Kd.R_drewN | apply Kd.R_drew)); exact Kd.R_mono HO_1297006.out (fun _ hk => ⟨hk.1.1.1.1.1, ⟨hk.1.1.1.1.2.1, ⟨hk.1.1.1.1.2.2.1, ⟨hk.1.1.1.1.2.2.2.1, ⟨hk.1.1.1.1.2.2.2.2, ⟨hk.1.2, hk.2⟩⟩⟩⟩⟩⟩)⟩, ⟨by (try simp only [hl1297005_56]); (try simp only [hl1297006_56]); (with_reducible repeat (first | apply Kd.R_alloc | apply Kd.R_drewN | apply Kd.R_drew)); exact Kd.R_mono HO_1310005.out (fun _ hk => ⟨hk.1.1.1.1.1, ⟨hk.1.1.1.1.2.1, ⟨hk.1.1.1.1.2.2.1, ⟨hk.1.1.1.1.2.2.2.1, ⟨hk.1.1.1.1.2.2.2.2, ⟨hk.1.2, hk.2⟩⟩⟩⟩⟩⟩)⟩, ⟨by (try simp only [hl1297005_56]); (try simp only [hl1297006_56]); (with_reducible repeat (first | apply Kd.R_alloc | apply Kd.R_drewN | apply Kd.R_drew)); exact Kd.R_mono HO_1310006.out (fun _ hk => ⟨hk.1.1.1.1.1, ⟨hk.1.1.1.1.2.1, ⟨hk.1.1.1.1.2.2.1, ⟨hk.1.1.1.1.2.2.2.1, ⟨hk.1.1.1.1.2.2.2.2, ⟨hk.1.2, hk.2⟩⟩⟩⟩⟩⟩)⟩, ⟨by (try simp only [hl1297005_56]); (try simp only [hl1297006_56]); (with_reducible repeat (first | apply Kd.R_alloc | apply Kd.R_drewN | apply Kd.R_drew)); exact Kd.R_mono HO1349.out (fun _ hk => ⟨hk.1.1.1.1.1.1.1.2, ⟨hk.1.1.1.1.1.1.2, ⟨hk.1.1.1.1.1.2, ⟨hk.1.1.1.1.2, ⟨hk.1.1.1.2, ⟨hk.1.1.2, hk.1.1.1.1.1.1.1.1⟩⟩⟩⟩⟩⟩)⟩, ⟨by (try simp only [hl1297005_56]); (try simp only [hl1297006_56]); (with_reducible repeat (first | apply Kd.R_alloc | apply Kd.R_drewN | apply Kd.R_drew)); exact Kd.R_mono HO1352.out (fun _ hk => ⟨hk.1.1.1.1.1.1.1.2, ⟨hk.1.1.1.1.1.1.2, ⟨hk.1.1.1.1.1.2, ⟨hk.1.1.1.1.2, ⟨hk.1.1.1.2, ⟨hk.1.1.2, hk.1.1.1.1.1.1.1.1⟩⟩⟩⟩⟩⟩)⟩, ⟨by (try simp only [hl1297005_56]); (try simp only [hl1297006_56]); exact pkK BK1259.out⟩, ⟨by (try simp only [hl1297005_56]); (try simp only [hl1297006_56]); exact pkK BK1284.out⟩, ⟨by (try simp only [hl1297005_56]); (try simp only [hl1297006_56]); exact pkK BK1296.out⟩, ⟨by (try simp only [hl1297005_56]); (try simp only [hl1297006_56]); exact pkK BK1309.out⟩, ⟨by (try simp only [hl1297005_56]); (try simp only [hl1297006_56]); exact pkK BK1354.out⟩, ⟨pkW HB.out⟩⟩
            ·replace c110 := Bool.eq_false_iff.mpr c110
             subst c110
             replace H : (laws_FnExactUnwatch.j2 kj56 t1327 true t1297 t1298 t1299 t1300 t1301 t1328 t1329) = some r := by rw [if_neg (show ¬ (false = true) by decide)] at H; exact H
             cases kj56 with
             | zero => exact absurd H (by simp [laws_FnExactUnwatch.j2])
             | succ k_ => (simp only [laws_FnExactUnwatch.j2, if_pos] at H; exact absurd (Option.some.inj H) (by rw [HQ_.out]; simp))
           case rest =>
            clear HC86
            try clear c1
            try clear c2
            try clear p2
            try clear c3
            try clear c4
            try clear c4b0
            try clear c5
            try clear c6
            try clear c7
            try clear c8
            try clear c9
            try clear c10
            try clear c11
            try clear c13
            try clear c22
            try clear c29
            try clear c30
            try clear c31
            try clear c32
            try clear c34
            try clear c36
            try clear c37
            try clear c38
            try clear c43
            try clear c44
            try clear c45
            try clear c46
            try clear c48
            try clear c49
            try clear c50
            try clear c51
            try clear c52
            try clear c55
            try clear c63
            try clear c64
            try clear c65
            try clear c68
            try clear c68b0
            try clear c70
            try clear c71
            try clear c72
            try clear c73
            try clear c75
            try clear c76
            try clear c79
            try clear c82
            try clear c82b0
            try clear c83
            try clear c83b0
            try clear c83b1
            try clear c87
            try clear c88
            try clear c89
            try clear c94
            try clear c95
            try clear c102
            try clear c103
            try clear c104
            try clear c105
            try clear c110
            try clear c111
            try clear c112
            try clear c113
            try clear c114
            try clear c116
            try clear c117
            try clear c118
            try clear hcz106_0
            try clear hcz106_1
            try clear hcz106_2
            try clear hcz106_3
            try clear hcz106_4
            try clear hcz106_5
            try clear hcz106_6
            try clear hcz115_0
            try clear hcz115_1
            try clear hcz115_2
            try clear hcz115_3
            try clear hcz115_4
            try clear hcz115_5
            try clear hcz115_6
            try clear hcz119_0
            try clear hcz119_1
            try clear hcz119_2
            try clear hcz119_3
            try clear hcz119_4
            try clear hcz119_5
            try clear hcz119_6
            try clear hcz14_0
            try clear hcz14_1
            try clear hcz14_2
            try clear hcz14_3
            try clear hcz14_4
            try clear hcz14_5
            try clear hcz14_6
            try clear hcz16_0
            try clear hcz16_1
            try clear hcz16_2
            try clear hcz16_3
            try clear hcz16_4
            try clear hcz16_5
            try clear hcz16_6
            try clear hcz23_0
            try clear hcz23_1
            try clear hcz23_2
            try clear hcz23_3
            try clear hcz23_4
            try clear hcz23_5
            try clear hcz23_6
            try clear hcz26_0
            try clear hcz26_1
            try clear hcz26_2
            try clear hcz26_3
            try clear hcz26_4
            try clear hcz26_5
            try clear hcz26_6
            try clear hcz31_0
            try clear hcz31_1
            try clear hcz31_2
            try clear hcz31_3
            try clear hcz31_4
            try clear hcz31_5
            try clear hcz31_6
            try clear hcz39_0
            try clear hcz39_1
            try clear hcz39_2
            try clear hcz39_3
            try clear hcz39_4
            try clear hcz39_5
            try clear hcz39_6
            try clear hcz47_0
            try clear hcz47_1
            try clear hcz47_2
            try clear hcz47_3
            try clear hcz47_4
            try clear hcz47_5
            try clear hcz47_6
            try clear hcz50_0
            try clear hcz50_1
            try clear hcz50_2
            try clear hcz50_3
            try clear hcz50_4
            try clear hcz50_5
            try clear hcz50_6
            try clear hcz66_0
            try clear hcz66_1
            try clear hcz66_2
            try clear hcz66_3
            try clear hcz66_4
            try clear hcz66_5
            try clear hcz66_6
            try clear hcz6_0
            try clear hcz6_1
            try clear hcz6_2
            try clear hcz6_3
            try clear hcz6_4
            try clear hcz6_5
            try clear hcz6_6
            try clear hcz74_0
            try clear hcz74_1
            try clear hcz74_2
            try clear hcz74_3
            try clear hcz74_4
            try clear hcz74_5
            try clear hcz74_6
            try clear hcz77_0
            try clear hcz77_1
            try clear hcz77_2
            try clear hcz77_3
            try clear hcz77_4
            try clear hcz77_5
            try clear hcz77_6
            try clear hcz90_0
            try clear hcz90_1
            try clear hcz90_2
            try clear hcz90_3
            try clear hcz90_4
            try clear hcz90_5
            try clear hcz90_6
            try clear hcz92_0
            try clear hcz92_1
            try clear hcz92_2
            try clear hcz92_3
            try clear hcz92_4
            try clear hcz92_5
            try clear hcz92_6
            try clear hcz96_0
            try clear hcz96_1
            try clear hcz96_2
            try clear hcz96_3
            try clear hcz96_4
            try clear hcz96_5
            try clear hcz96_6
            try clear hfz106_0
            try clear hfz106_1
            try clear hfz106_2
            try clear hfz106_3
            try clear hfz106_4
            try clear hfz106_5
            try clear hfz106_6
            try clear hfz115_0
            try clear hfz115_1
            try clear hfz115_2
            try clear hfz115_3
            try clear hfz115_4
            try clear hfz115_5
            try clear hfz115_6
            try clear hfz119_0
            try clear hfz119_1
            try clear hfz119_2
            try clear hfz119_3
            try clear hfz119_4
            try clear hfz119_5
            try clear hfz119_6
            try clear hfz14_0
            try clear hfz14_1
            try clear hfz14_2
            try clear hfz14_3
            try clear hfz14_4
            try clear hfz14_5
            try clear hfz14_6
            try clear hfz16_0
            try clear hfz16_1
            try clear hfz16_2
            try clear hfz16_3
            try clear hfz16_4
            try clear hfz16_5
            try clear hfz16_6
            try clear hfz23_0
            try clear hfz23_1
            try clear hfz23_2
            try clear hfz23_3
            try clear hfz23_4
            try clear hfz23_5
            try clear hfz23_6
            try clear hfz26_0
            try clear hfz26_1
            try clear hfz26_2
            try clear hfz26_3
            try clear hfz26_4
            try clear hfz26_5
            try clear hfz26_6
            try clear hfz31_0
            try clear hfz31_1
            try clear hfz31_2
            try clear hfz31_3
            try clear hfz31_4
            try clear hfz31_5
            try clear hfz31_6
            try clear hfz39_0
            try clear hfz39_1
            try clear hfz39_2
            try clear hfz39_3
            try clear hfz39_4
            try clear hfz39_5
            try clear hfz39_6
            try clear hfz47_0
            try clear hfz47_1
            try clear hfz47_2
            try clear hfz47_3
            try clear hfz47_4
            try clear hfz47_5
            try clear hfz47_6
            try clear hfz50_0
            try clear hfz50_1
            try clear hfz50_2
            try clear hfz50_3
            try clear hfz50_4
            try clear hfz50_5
            try clear hfz50_6
            try clear hfz66_0
            try clear hfz66_1
            try clear hfz66_2
            try clear hfz66_3
            try clear hfz66_4
            try clear hfz66_5
            try clear hfz66_6
            try clear hfz6_0
            try clear hfz6_1
            try clear hfz6_2
            try clear hfz6_3
            try clear hfz6_4
            try clear hfz6_5
            try clear hfz6_6
            try clear hfz74_0
            try clear hfz74_1
            try clear hfz74_2
            try clear hfz74_3
            try clear hfz74_4
            try clear hfz74_5
            try clear hfz74_6
            try clear hfz77_0
            try clear hfz77_1
            try clear hfz77_2
            try clear hfz77_3
            try clear hfz77_4
            try clear hfz77_5
            try clear hfz77_6
            try clear hfz90_0
            try clear hfz90_1
            try clear hfz90_2
            try clear hfz90_3
            try clear hfz90_4
            try clear hfz90_5
            try clear hfz90_6
            try clear hfz92_0
            try clear hfz92_1
            try clear hfz92_2
            try clear hfz92_3
            try clear hfz92_4
            try clear hfz92_5
            try clear hfz92_6
            try clear hfz96_0
            try clear hfz96_1
            try clear hfz96_2
            try clear hfz96_3
            try clear hfz96_4
            try clear hfz96_5
            try clear hfz96_6
            try clear p2
            obtain ⟨kq, x92_85, rfl, HA, HJ85, HO_1285005, HO_1285006, HO_1297005, HO_1297006, HO_1310005, HO_1310006, HO_1355005, HO_1355006, BK1259, BK1284, BK1296, BK1309, BK1354, HB⟩ := hcut
            have hl1310005_85 := (Kd.R_reads' HO_1310005.out).1
            rw [hl1310005_85] at HO_1310005
            (try simp only [hl1310005_85])
            (try simp only [hl1310005_85] at BK1259)
            (try simp only [hl1310005_85] at BK1284)
            (try simp only [hl1310005_85] at BK1296)
            (try simp only [hl1310005_85] at BK1309)
            (try simp only [hl1310005_85] at BK1354)
            (try simp only [hl1310005_85] at HO_1285005)
            (try simp only [hl1310005_85] at HO_1285006)
            (try simp only [hl1310005_85] at HO_1297005)
            (try simp only [hl1310005_85] at HO_1297006)
            (try simp only [hl1310005_85] at HO_1310006)
            (try simp only [hl1310005_85] at HO_1355005)
            (try simp only [hl1310005_85] at HO_1355006)
            have hl1310006_85 := (Kd.R_reads' HO_1310006.out).1
            rw [hl1310006_85] at HO_1310006
            (try simp only [hl1310006_85])
            (try simp only [hl1310006_85] at BK1259)
            (try simp only [hl1310006_85] at BK1284)
            (try simp only [hl1310006_85] at BK1296)
            (try simp only [hl1310006_85] at BK1309)
            (try simp only [hl1310006_85] at BK1354)
            (try simp only [hl1310006_85] at HO_1285005)
            (try simp only [hl1310006_85] at HO_1285006)
            (try simp only [hl1310006_85] at HO_1297005)
            (try simp only [hl1310006_85] at HO_1297006)
            (try simp only [hl1310006_85] at HO_1310005)
            (try simp only [hl1310006_85] at HO_1355005)
            (try simp only [hl1310006_85] at HO_1355006)
            cases kq with
            | zero => exact absurd HA.out (by simp [laws_FnExactUnwatch.j2])
            | succ kj85 =>
             have H := HA.out
             clear HA
             simp only [laws_FnExactUnwatch.j2] at H
             by_cases c121 : x92_85 = true
             ·subst c121
              replace H : (some false) = some r := by rw [if_pos rfl] at H; exact H
              exact absurd (Option.some.inj H) (by rw [HQ_.out]; simp)
             ·replace c121 := Bool.eq_false_iff.mpr c121
              subst c121
              replace H : ((laws_heldCell.f kj85 t1297 t1298 t1299 t1300 t1301 t1328 t1329 1).bind fun t1356 => (if t1356 < 0 then (some false) else (if t1356 = t1327 then (some true) else (some false)))) = some r := by rw [if_neg (show ¬ (false = true) by decide)] at H; exact H
              replace H := Option.bind_eq_some_iff.mp H
              obtain ⟨t1356, A1220, H⟩ := H
              replace H : (if t1356 < 0 then (some false) else (if t1356 = t1327 then (some true) else (some false))) = some r := H
              have A122 := am A1220
              clear A1220
              by_cases c123 : t1356 < 0
              ·rw [if_pos c123] at H
               have c123b0 : decide (t1356 < 0) = true := decide_eq_true c123
               clear c123
               exact absurd (Option.some.inj H) (by rw [HQ_.out]; simp)
              ·rw [if_neg c123] at H
               have c123b0 : decide (t1356 < 0) = false := decide_eq_false c123
               clear c123
               by_cases c124 : t1356 = t1327
               ·rw [if_pos c124] at H
                have c124b0 : (t1356 == t1327) = true := beq_iff_eq.mpr c124
                have c124b1 : (t1356 != t1327) = false := bne_eq_false_iff_eq.mpr c124
                clear c124
                obtain rfl := Option.some.inj H
                have hnb125 := NB1309_1259.out
                have hnc125 := NB1259_1309.out
                have hnb126 := NB1309_1284.out
                have hnc126 := NB1284_1309.out
                have hnb127 := NB1309_1296.out
                have hnc127 := NB1296_1309.out
                have hnb128 := NB1309_1354.out
                have hnc128 := NB1354_1309.out
                obtain ⟨hcz129_0, hcz129_1, hcz129_2, hcz129_3, hcz129_4, hcz129_5, hcz129_6, hfz129_0, hfz129_1, hfz129_2, hfz129_3, hfz129_4, hfz129_5, hfz129_6⟩ := bk7 BK1309.out
                go_wp2_with (first | ((with_reducible refine gate_callee (f := 49) rfl ?_); refine goesL_ (some 95) rfl rfl Try.func49 (by kernel_rfl) rfl #[.agg #[.int .i64 t1297, .int .i64 t1298, .string t1299, .int .i64 t1300, .bool t1301, .slice Ao40 t1328.length co40, .slice Ao41 t1329.length co41], .int .i64 1] rfl mpx ?_; (with_reducible refine (laws_heldCell.calls kj85 t1297 t1298 t1299 t1300 t1301 _ _ t1328 _ _ t1329 1 t1356 _ ?side1 ?side2 ?side3 ?side4 A122.out).mono ?_); (case side1 => exact pkC (Kd.R_reads' HO_1310005.out).2.2); (case side2 => exact (Kd.R_reads' HO_1310005.out).2.1); (case side3 => exact pkC (Kd.R_reads' HO_1310006.out).2.2); (case side4 => exact (Kd.R_reads' HO_1310006.out).2.1); rintro e w130 ⟨rfl, hb⟩; refine ⟨_, rfl, ?_⟩; replace HO_1285005 := am (Kd.R_below (pkR HO_1285005.out) hb); replace HO_1285006 := am (Kd.R_below (pkR HO_1285006.out) hb); replace HO_1297005 := am (Kd.R_below (pkR HO_1297005.out) hb); replace HO_1297006 := am (Kd.R_below (pkR HO_1297006.out) hb); replace HO_1310005 := am (Kd.R_below (pkR HO_1310005.out) hb); replace HO_1310006 := am (Kd.R_below (pkR HO_1310006.out) hb); replace HO_1355005 := am (Kd.R_below (pkR HO_1355005.out) hb); replace HO_1355006 := am (Kd.R_below (pkR HO_1355006.out) hb); replace BK1259 := am (blk_below (pkK BK1259.out) hb); replace BK1284 := am (blk_below (pkK BK1284.out) hb); replace BK1296 := am (blk_below (pkK BK1296.out) hb); replace BK1309 := am (blk_below (pkK BK1309.out) hb); replace BK1354 := am (blk_below (pkK BK1354.out) hb); replace HB := am (below_step (pkW HB.out) hb); (try clear hb)))
                go_ret
                exact ⟨rfe, pkW HB.out⟩
               ·rw [if_neg c124] at H
                have c124b0 : (t1356 == t1327) = false := beq_eq_false_iff_ne.mpr c124
                have c124b1 : (t1356 != t1327) = true := bne_iff_ne.mpr c124
                exact absurd (Option.some.inj H) (by rw [HQ_.out]; simp)
          ·rw [if_neg c83] at H
           have c83b0 : (t1330 == t1327) = false := beq_eq_false_iff_ne.mpr c83
           have c83b1 : (t1330 != t1327) = true := bne_iff_ne.mpr c83
           exact absurd (Option.some.inj H) (by rw [HQ_.out]; simp)
     ·replace c55 := Bool.eq_false_iff.mpr c55
      subst c55
      replace H : (some false) = some r := by rw [if_neg (show ¬ (false = true) by decide)] at H; exact H
      exact absurd (Option.some.inj H) (by rw [HQ_.out]; simp)
end Go.Proofs.Ytffcphplnilokaa.Z
