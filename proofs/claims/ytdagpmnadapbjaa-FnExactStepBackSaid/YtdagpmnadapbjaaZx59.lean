/- The Go functions laws_FnExactStepBack as Lean functions, each with a proof that its code comes to just these answers; conditions: those of each theorem. -/
import Derived.Test.YtdagpmnadapbjaaZx0
import Derived.Test.YtdagpmnadapbjaaZx1
import Derived.Test.YtdagpmnadapbjaaZx6
import Derived.Test.YtdagpmnadapbjaaZx12
import Derived.Test.YtdagpmnadapbjaaZx13
import Derived.Test.YtdagpmnadapbjaaZx24
import Derived.Test.YtdagpmnadapbjaaZx25
import Derived.Test.YtdagpmnadapbjaaZx42
import Derived.Test.YtdagpmnadapbjaaZx43
namespace Go.Proofs.Ytdagpmnadapbjaa.Z
open Go.RowKit Go.Proofs.YtdagpmnadapbjaaW.PrintWords Go.Proofs.YtdagpmnadapbjaaW.PrintLast Go.Proofs.YtdagpmnadapbjaaW.PrintMore
attribute [local go_sem] max2_int min2_int max_two min_two max_three min_three max_four min_four   -- for this text's walks alone
set_option linter.unusedVariables false
set_option linter.unusedSimpArgs false
mutual
def laws_FnExactStepBack.j0 : Nat → Int → List Int → Int → List Int → Int → Bool → Bool → Bool → List Int → List Int → Int → Int → Int → Bool → Bool → List Int → List Int → Int → Int → Int → Bool → Bool → List Int → List Int → Int → Int → Int → Bool → Bool → List Int → List Int → Int → Int → Int → Option (Bool)
 | 0, _, _, _, _, _, _, _, _, _, _, _, _, _, _, _, _, _, _, _, _, _, _, _, _, _, _, _, _, _, _, _, _, _, _ => none
 | k + 1, x1, x7, x8, x11, x12, x55, x1229000, x1229001, x1229002, x1229003, x1229004, x1229005, x1229006, x1257000, x1257001, x1257002, x1257003, x1257004, x1257005, x1257006, x1269000, x1269001, x1269002, x1269003, x1269004, x1269005, x1269006, x1285000, x1285001, x1285002, x1285003, x1285004, x1285005, x1285006 => if x55 = true then (some false) else ((laws_toEvent.f k x1229000 x1229001 x1229002 x1229003 x1229004 x1229005 x1229006).bind fun bt1287 => ((laws_eqEvent.f k x1269000 x1269001 x1269002 x1269003 x1269004 x1269005 x1269006 bt1287.1 bt1287.2.1 bt1287.2.2.1 bt1287.2.2.2.1 bt1287.2.2.2.2.1 bt1287.2.2.2.2.2.1 bt1287.2.2.2.2.2.2).bind fun t1298 => (if t1298 = true then ((laws_markEvent.f k x1269000 x1269001 x1269002 x1269003 x1269004 x1269005 x1269006 1).bind fun bt1299 => (if bt1299.1 < 0 then (laws_FnExactStepBack.j1 k x1 x7 x8 x11 true x1229000 x1229001 x1229002 x1229003 x1229004 x1229005 x1229006 x1257000 x1257001 x1257002 x1257003 x1257004 x1257005 x1257006 x1285000 x1285001 x1285002 x1285003 x1285004 x1285005 x1285006) else ((laws_eqEvent.f k x1285000 x1285001 x1285002 x1285003 x1285004 x1285005 x1285006 x1257000 x1257001 x1257002 x1257003 x1257004 x1257005 x1257006).bind fun t1302 => (if t1302 = true then ((laws_eqIntS.f k x11 x7).bind fun t1303 => (if t1303 = true then (laws_FnExactStepBack.j1 k x1 x7 x8 x11 (x12 != x8) x1229000 x1229001 x1229002 x1229003 x1229004 x1229005 x1229006 x1257000 x1257001 x1257002 x1257003 x1257004 x1257005 x1257006 x1285000 x1285001 x1285002 x1285003 x1285004 x1285005 x1285006) else (laws_FnExactStepBack.j1 k x1 x7 x8 x11 true x1229000 x1229001 x1229002 x1229003 x1229004 x1229005 x1229006 x1257000 x1257001 x1257002 x1257003 x1257004 x1257005 x1257006 x1285000 x1285001 x1285002 x1285003 x1285004 x1285005 x1285006))) else (laws_FnExactStepBack.j1 k x1 x7 x8 x11 true x1229000 x1229001 x1229002 x1229003 x1229004 x1229005 x1229006 x1257000 x1257001 x1257002 x1257003 x1257004 x1257005 x1257006 x1285000 x1285001 x1285002 x1285003 x1285004 x1285005 x1285006))))) else (some false))))
def laws_FnExactStepBack.j1 : Nat → Int → List Int → Int → List Int → Bool → Bool → Bool → List Int → List Int → Int → Int → Int → Bool → Bool → List Int → List Int → Int → Int → Int → Bool → Bool → List Int → List Int → Int → Int → Int → Option (Bool)
 | 0, _, _, _, _, _, _, _, _, _, _, _, _, _, _, _, _, _, _, _, _, _, _, _, _, _, _ => none
 | k + 1, x1, x7, x8, x11, x82, x1229000, x1229001, x1229002, x1229003, x1229004, x1229005, x1229006, x1257000, x1257001, x1257002, x1257003, x1257004, x1257005, x1257006, x1285000, x1285001, x1285002, x1285003, x1285004, x1285005, x1285006 => if x82 = true then (some false) else ((laws_markEvent.f k x1285000 x1285001 x1285002 x1285003 x1285004 x1285005 x1285006 1).bind fun bt1304 => ((laws_markIntS.f k x11 bt1304.1).bind fun bt1307 => ((laws_heldEvent.f k x1285000 x1285001 bt1304.2.1 bt1304.2.2 x1285004 x1285005 x1285006 1).bind fun t1309 => (if t1309 < 0 then (some false) else ((laws_heldIntS.f k bt1307.2 t1309).bind fun t1310 => (if t1310 < 0 then (some false) else (if t1310 = bt1307.1 then ((laws_toEvent.f k x1229000 x1229001 x1229002 x1229003 x1229004 x1229005 x1229006).bind fun bt1311 => ((impl_StepBack.f k bt1311.1 bt1311.2.1 bt1311.2.2.1 bt1311.2.2.2.1 bt1311.2.2.2.2.1 bt1311.2.2.2.2.2.1 bt1311.2.2.2.2.2.2 x1).bind fun bt1322 => ((laws_eqEvent.f k bt1322.1 bt1322.2.1 bt1322.2.2.1 bt1322.2.2.2.1 bt1322.2.2.2.2.1 bt1322.2.2.2.2.2.1 bt1322.2.2.2.2.2.2.1 x1257000 x1257001 x1257002 x1257003 x1257004 x1257005 x1257006).bind fun t1338 => (if t1338 = true then ((laws_eqIntS.f k bt1322.2.2.2.2.2.2.2.1 x7).bind fun t1339 => (if t1339 = true then (laws_FnExactStepBack.j2 k bt1307.2 bt1307.1 (bt1322.2.2.2.2.2.2.2.2 != x8) x1285000 x1285001 bt1304.2.1 bt1304.2.2 x1285004 x1285005 x1285006) else (laws_FnExactStepBack.j2 k bt1307.2 bt1307.1 true x1285000 x1285001 bt1304.2.1 bt1304.2.2 x1285004 x1285005 x1285006))) else (laws_FnExactStepBack.j2 k bt1307.2 bt1307.1 true x1285000 x1285001 bt1304.2.1 bt1304.2.2 x1285004 x1285005 x1285006))))) else (some false))))))))
def laws_FnExactStepBack.j2 : Nat → List Int → Int → Bool → Bool → Bool → List Int → List Int → Int → Int → Int → Option (Bool)
 | 0, _, _, _, _, _, _, _, _, _, _ => none
 | k + 1, x11, x14, x124, x1285000, x1285001, x1285002, x1285003, x1285004, x1285005, x1285006 => if x124 = true then (some false) else ((laws_heldEvent.f k x1285000 x1285001 x1285002 x1285003 x1285004 x1285005 x1285006 1).bind fun t1340 => (if t1340 < 0 then (some false) else ((laws_heldIntS.f k x11 t1340).bind fun t1341 => (if t1341 < 0 then (some false) else (if t1341 = x14 then (some true) else (some false))))))
end
def laws_FnExactStepBack.f (k : Nat) (a0_0 : Bool) (a0_1 : Bool) (l0_2 : List Int) (l0_3 : List Int) (a0_4 : Int) (a0_5 : Int) (a0_6 : Int) (a1 : Int) : Option (Bool) := (laws_szEvent.f a0_0 a0_1 l0_2 l0_3 a0_4 a0_5 a0_6 1048576).bind fun t1229 => (if t1229 < 0 then (some true) else ((laws_toEvent.f k a0_0 a0_1 l0_2 l0_3 a0_4 a0_5 a0_6).bind fun bt1230 => ((spec_StepBack.f k bt1230.1 bt1230.2.1 bt1230.2.2.1 bt1230.2.2.2.1 bt1230.2.2.2.2.1 bt1230.2.2.2.2.2.1 bt1230.2.2.2.2.2.2 a1).bind fun bt1241 => ((laws_toEvent.f k a0_0 a0_1 l0_2 l0_3 a0_4 a0_5 a0_6).bind fun bt1257 => ((impl_StepBack.f k bt1257.1 bt1257.2.1 bt1257.2.2.1 bt1257.2.2.2.1 bt1257.2.2.2.2.1 bt1257.2.2.2.2.2.1 bt1257.2.2.2.2.2.2 a1).bind fun bt1269 => ((laws_eqEvent.f k bt1269.1 bt1269.2.1 bt1269.2.2.1 bt1269.2.2.2.1 bt1269.2.2.2.2.1 bt1269.2.2.2.2.2.1 bt1269.2.2.2.2.2.2.1 bt1241.1 bt1241.2.1 bt1241.2.2.1 bt1241.2.2.2.1 bt1241.2.2.2.2.1 bt1241.2.2.2.2.2.1 bt1241.2.2.2.2.2.2.1).bind fun t1285 => (if t1285 = true then ((laws_eqIntS.f k bt1269.2.2.2.2.2.2.2.1 bt1241.2.2.2.2.2.2.2.1).bind fun t1286 => (if t1286 = true then (laws_FnExactStepBack.j0 k a1 bt1241.2.2.2.2.2.2.2.1 bt1241.2.2.2.2.2.2.2.2 bt1269.2.2.2.2.2.2.2.1 bt1269.2.2.2.2.2.2.2.2 (bt1269.2.2.2.2.2.2.2.2 != bt1241.2.2.2.2.2.2.2.2) a0_0 a0_1 l0_2 l0_3 a0_4 a0_5 a0_6 bt1241.1 bt1241.2.1 bt1241.2.2.1 bt1241.2.2.2.1 bt1241.2.2.2.2.1 bt1241.2.2.2.2.2.1 bt1241.2.2.2.2.2.2.1 bt1257.1 bt1257.2.1 bt1257.2.2.1 bt1257.2.2.2.1 bt1257.2.2.2.2.1 bt1257.2.2.2.2.2.1 bt1257.2.2.2.2.2.2 bt1269.1 bt1269.2.1 bt1269.2.2.1 bt1269.2.2.2.1 bt1269.2.2.2.2.1 bt1269.2.2.2.2.2.1 bt1269.2.2.2.2.2.2.1) else (laws_FnExactStepBack.j0 k a1 bt1241.2.2.2.2.2.2.2.1 bt1241.2.2.2.2.2.2.2.2 bt1269.2.2.2.2.2.2.2.1 bt1269.2.2.2.2.2.2.2.2 true a0_0 a0_1 l0_2 l0_3 a0_4 a0_5 a0_6 bt1241.1 bt1241.2.1 bt1241.2.2.1 bt1241.2.2.2.1 bt1241.2.2.2.2.1 bt1241.2.2.2.2.2.1 bt1241.2.2.2.2.2.2.1 bt1257.1 bt1257.2.1 bt1257.2.2.1 bt1257.2.2.2.1 bt1257.2.2.2.2.1 bt1257.2.2.2.2.2.1 bt1257.2.2.2.2.2.2 bt1269.1 bt1269.2.1 bt1269.2.2.1 bt1269.2.2.2.1 bt1269.2.2.2.2.1 bt1269.2.2.2.2.2.1 bt1269.2.2.2.2.2.2.1))) else (laws_FnExactStepBack.j0 k a1 bt1241.2.2.2.2.2.2.2.1 bt1241.2.2.2.2.2.2.2.2 bt1269.2.2.2.2.2.2.2.1 bt1269.2.2.2.2.2.2.2.2 true a0_0 a0_1 l0_2 l0_3 a0_4 a0_5 a0_6 bt1241.1 bt1241.2.1 bt1241.2.2.1 bt1241.2.2.2.1 bt1241.2.2.2.2.1 bt1241.2.2.2.2.2.1 bt1241.2.2.2.2.2.2.1 bt1257.1 bt1257.2.1 bt1257.2.2.1 bt1257.2.2.2.1 bt1257.2.2.2.2.1 bt1257.2.2.2.2.2.1 bt1257.2.2.2.2.2.2 bt1269.1 bt1269.2.1 bt1269.2.2.1 bt1269.2.2.2.1 bt1269.2.2.2.2.1 bt1269.2.2.2.2.2.1 bt1269.2.2.2.2.2.2.1))))))))
theorem laws_FnExactStepBack.mono_l : ∀ k, (∀ y0 y1 y2 y3 y4 y5 y6 y7 y8 y9 y10 y11 y12 y13 y14 y15 y16 y17 y18 y19 y20 y21 y22 y23 y24 y25 y26 y27 y28 y29 y30 y31 y32 y33, LeO (laws_FnExactStepBack.j0 k y0 y1 y2 y3 y4 y5 y6 y7 y8 y9 y10 y11 y12 y13 y14 y15 y16 y17 y18 y19 y20 y21 y22 y23 y24 y25 y26 y27 y28 y29 y30 y31 y32 y33) (laws_FnExactStepBack.j0 (k + 1) y0 y1 y2 y3 y4 y5 y6 y7 y8 y9 y10 y11 y12 y13 y14 y15 y16 y17 y18 y19 y20 y21 y22 y23 y24 y25 y26 y27 y28 y29 y30 y31 y32 y33)) ∧ (∀ y0 y1 y2 y3 y4 y5 y6 y7 y8 y9 y10 y11 y12 y13 y14 y15 y16 y17 y18 y19 y20 y21 y22 y23 y24 y25, LeO (laws_FnExactStepBack.j1 k y0 y1 y2 y3 y4 y5 y6 y7 y8 y9 y10 y11 y12 y13 y14 y15 y16 y17 y18 y19 y20 y21 y22 y23 y24 y25) (laws_FnExactStepBack.j1 (k + 1) y0 y1 y2 y3 y4 y5 y6 y7 y8 y9 y10 y11 y12 y13 y14 y15 y16 y17 y18 y19 y20 y21 y22 y23 y24 y25)) ∧ (∀ y0 y1 y2 y3 y4 y5 y6 y7 y8 y9, LeO (laws_FnExactStepBack.j2 k y0 y1 y2 y3 y4 y5 y6 y7 y8 y9) (laws_FnExactStepBack.j2 (k + 1) y0 y1 y2 y3 y4 y5 y6 y7 y8 y9))
 | 0 => ⟨fun _ _ _ _ _ _ _ _ _ _ _ _ _ _ _ _ _ _ _ _ _ _ _ _ _ _ _ _ _ _ _ _ _ _ r h => by simp [laws_FnExactStepBack.j0] at h, fun _ _ _ _ _ _ _ _ _ _ _ _ _ _ _ _ _ _ _ _ _ _ _ _ _ _ r h => by simp [laws_FnExactStepBack.j1] at h, fun _ _ _ _ _ _ _ _ _ _ r h => by simp [laws_FnExactStepBack.j2] at h⟩
 | k + 1 => by
  obtain ⟨ih0, ih1, ih2⟩ := laws_FnExactStepBack.mono_l k
  refine ⟨?_, ?_, ?_⟩
  ·intro y0 y1 y2 y3 y4 y5 y6 y7 y8 y9 y10 y11 y12 y13 y14 y15 y16 y17 y18 y19 y20 y21 y22 y23 y24 y25 y26 y27 y28 y29 y30 y31 y32 y33
   unfold laws_FnExactStepBack.j0
   repeat' first
   | (with_reducible exact ih0 _ _ _ _ _ _ _ _ _ _ _ _ _ _ _ _ _ _ _ _ _ _ _ _ _ _ _ _ _ _ _ _ _ _)
   | (with_reducible exact ih1 _ _ _ _ _ _ _ _ _ _ _ _ _ _ _ _ _ _ _ _ _ _ _ _ _ _)
   | (with_reducible exact ih2 _ _ _ _ _ _ _ _ _ _)
   | (with_reducible exact impl_StepBack.mono _ _ _ _ _ _ _ _ _)
   | (with_reducible exact laws_eqEvent.mono _ _ _ _ _ _ _ _ _ _ _ _ _ _ _)
   | (with_reducible exact laws_eqIntS.mono _ _ _)
   | (with_reducible exact laws_heldEvent.mono _ _ _ _ _ _ _ _ _)
   | (with_reducible exact laws_heldIntS.mono _ _ _)
   | (with_reducible exact laws_markEvent.mono _ _ _ _ _ _ _ _ _)
   | (with_reducible exact laws_markIntS.mono _ _ _)
   | (with_reducible exact laws_toEvent.mono _ _ _ _ _ _ _ _)
   | (with_reducible exact spec_StepBack.mono _ _ _ _ _ _ _ _ _)
   | (with_reducible exact LeO.refl _)
   | (with_reducible exact LeO.none _)
   | (with_reducible refine LeO.ite ?_ ?_)
   | (with_reducible refine LeO.bind ?_ (fun _ => ?_))
  ·intro y0 y1 y2 y3 y4 y5 y6 y7 y8 y9 y10 y11 y12 y13 y14 y15 y16 y17 y18 y19 y20 y21 y22 y23 y24 y25
   unfold laws_FnExactStepBack.j1
   repeat' first
   | (with_reducible exact ih0 _ _ _ _ _ _ _ _ _ _ _ _ _ _ _ _ _ _ _ _ _ _ _ _ _ _ _ _ _ _ _ _ _ _)
   | (with_reducible exact ih1 _ _ _ _ _ _ _ _ _ _ _ _ _ _ _ _ _ _ _ _ _ _ _ _ _ _)
   | (with_reducible exact ih2 _ _ _ _ _ _ _ _ _ _)
   | (with_reducible exact impl_StepBack.mono _ _ _ _ _ _ _ _ _)
   | (with_reducible exact laws_eqEvent.mono _ _ _ _ _ _ _ _ _ _ _ _ _ _ _)
   | (with_reducible exact laws_eqIntS.mono _ _ _)
   | (with_reducible exact laws_heldEvent.mono _ _ _ _ _ _ _ _ _)
   | (with_reducible exact laws_heldIntS.mono _ _ _)
   | (with_reducible exact laws_markEvent.mono _ _ _ _ _ _ _ _ _)
   | (with_reducible exact laws_markIntS.mono _ _ _)
   | (with_reducible exact laws_toEvent.mono _ _ _ _ _ _ _ _)
   | (with_reducible exact spec_StepBack.mono _ _ _ _ _ _ _ _ _)
   | (with_reducible exact LeO.refl _)
   | (with_reducible exact LeO.none _)
   | (with_reducible refine LeO.ite ?_ ?_)
   | (with_reducible refine LeO.bind ?_ (fun _ => ?_))
  ·intro y0 y1 y2 y3 y4 y5 y6 y7 y8 y9
   unfold laws_FnExactStepBack.j2
   repeat' first
   | (with_reducible exact ih0 _ _ _ _ _ _ _ _ _ _ _ _ _ _ _ _ _ _ _ _ _ _ _ _ _ _ _ _ _ _ _ _ _ _)
   | (with_reducible exact ih1 _ _ _ _ _ _ _ _ _ _ _ _ _ _ _ _ _ _ _ _ _ _ _ _ _ _)
   | (with_reducible exact ih2 _ _ _ _ _ _ _ _ _ _)
   | (with_reducible exact impl_StepBack.mono _ _ _ _ _ _ _ _ _)
   | (with_reducible exact laws_eqEvent.mono _ _ _ _ _ _ _ _ _ _ _ _ _ _ _)
   | (with_reducible exact laws_eqIntS.mono _ _ _)
   | (with_reducible exact laws_heldEvent.mono _ _ _ _ _ _ _ _ _)
   | (with_reducible exact laws_heldIntS.mono _ _ _)
   | (with_reducible exact laws_markEvent.mono _ _ _ _ _ _ _ _ _)
   | (with_reducible exact laws_markIntS.mono _ _ _)
   | (with_reducible exact laws_toEvent.mono _ _ _ _ _ _ _ _)
   | (with_reducible exact spec_StepBack.mono _ _ _ _ _ _ _ _ _)
   | (with_reducible exact LeO.refl _)
   | (with_reducible exact LeO.none _)
   | (with_reducible refine LeO.ite ?_ ?_)
   | (with_reducible refine LeO.bind ?_ (fun _ => ?_))
theorem laws_FnExactStepBack.mono : ∀ a0 a1 a2 a3 a4 a5 a6 a7 k, LeO (laws_FnExactStepBack.f k a0 a1 a2 a3 a4 a5 a6 a7) (laws_FnExactStepBack.f (k + 1) a0 a1 a2 a3 a4 a5 a6 a7) := by
 intro a0 a1 a2 a3 a4 a5 a6 a7 k
 obtain ⟨ih0, ih1, ih2⟩ := laws_FnExactStepBack.mono_l k
 unfold laws_FnExactStepBack.f
 repeat' first
   | (with_reducible exact ih0 _ _ _ _ _ _ _ _ _ _ _ _ _ _ _ _ _ _ _ _ _ _ _ _ _ _ _ _ _ _ _ _ _ _)
   | (with_reducible exact ih1 _ _ _ _ _ _ _ _ _ _ _ _ _ _ _ _ _ _ _ _ _ _ _ _ _ _)
   | (with_reducible exact ih2 _ _ _ _ _ _ _ _ _ _)
   | (with_reducible exact impl_StepBack.mono _ _ _ _ _ _ _ _ _)
   | (with_reducible exact laws_eqEvent.mono _ _ _ _ _ _ _ _ _ _ _ _ _ _ _)
   | (with_reducible exact laws_eqIntS.mono _ _ _)
   | (with_reducible exact laws_heldEvent.mono _ _ _ _ _ _ _ _ _)
   | (with_reducible exact laws_heldIntS.mono _ _ _)
   | (with_reducible exact laws_markEvent.mono _ _ _ _ _ _ _ _ _)
   | (with_reducible exact laws_markIntS.mono _ _ _)
   | (with_reducible exact laws_toEvent.mono _ _ _ _ _ _ _ _)
   | (with_reducible exact spec_StepBack.mono _ _ _ _ _ _ _ _ _)
   | (with_reducible exact LeO.refl _)
   | (with_reducible exact LeO.none _)
   | (with_reducible refine LeO.ite ?_ ?_)
   | (with_reducible refine LeO.bind ?_ (fun _ => ?_))
set_option maxHeartbeats 8000000 in
set_option maxRecDepth 100000 in
theorem laws_FnExactStepBack.calls (k : Nat) (a0_0 : Bool) (a0_1 : Bool) (A0_2 : Option Addr) (c0_2 : Nat) (l0_2 : List Int) (A0_3 : Option Addr) (c0_3 : Nat) (l0_3 : List Int) (a0_4 : Int) (a0_5 : Int) (a0_6 : Int) (a1 : Int) (r : Bool) (w : World) (hr0_2 : Kd.C (Kd.int .i64) w A0_2 l0_2.length l0_2) (hc0_2 : l0_2.length ≤ c0_2) (hr0_3 : Kd.C (Kd.int .i64) w A0_3 l0_3.length l0_3) (hc0_3 : l0_3.length ≤ c0_3) (HQ_ : Aside0 (r = true)) (h : laws_FnExactStepBack.f k a0_0 a0_1 l0_2 l0_3 a0_4 a0_5 a0_6 a1 = some r) :
  Calls Try.prog 10 #[.agg #[.bool a0_0, .bool a0_1, .slice A0_2 l0_2.length c0_2, .slice A0_3 l0_3.length c0_3, .int .i64 a0_4, .int .i64 a0_5, .int .i64 a0_6], .int .i64 a1] w fun e w' => e = .returned (.bool r) ∧ Below w.heap.size w w' := by
 have hu24 := Try.underlying24
 have hu27 := Try.underlying27
 have HR0_2 := am hr0_2
 have HC0_2 := am hc0_2
 clear hr0_2 hc0_2
 have HR0_3 := am hr0_3
 have HC0_3 := am hc0_3
 clear hr0_3 hc0_3
 have HB := am (Below.refl w.heap.size w)
 have H : ((laws_szEvent.f a0_0 a0_1 l0_2 l0_3 a0_4 a0_5 a0_6 1048576).bind fun t1229 => (if t1229 < 0 then (some true) else ((laws_toEvent.f k a0_0 a0_1 l0_2 l0_3 a0_4 a0_5 a0_6).bind fun bt1230 => ((spec_StepBack.f k bt1230.1 bt1230.2.1 bt1230.2.2.1 bt1230.2.2.2.1 bt1230.2.2.2.2.1 bt1230.2.2.2.2.2.1 bt1230.2.2.2.2.2.2 a1).bind fun bt1241 => ((laws_toEvent.f k a0_0 a0_1 l0_2 l0_3 a0_4 a0_5 a0_6).bind fun bt1257 => ((impl_StepBack.f k bt1257.1 bt1257.2.1 bt1257.2.2.1 bt1257.2.2.2.1 bt1257.2.2.2.2.1 bt1257.2.2.2.2.2.1 bt1257.2.2.2.2.2.2 a1).bind fun bt1269 => ((laws_eqEvent.f k bt1269.1 bt1269.2.1 bt1269.2.2.1 bt1269.2.2.2.1 bt1269.2.2.2.2.1 bt1269.2.2.2.2.2.1 bt1269.2.2.2.2.2.2.1 bt1241.1 bt1241.2.1 bt1241.2.2.1 bt1241.2.2.2.1 bt1241.2.2.2.2.1 bt1241.2.2.2.2.2.1 bt1241.2.2.2.2.2.2.1).bind fun t1285 => (if t1285 = true then ((laws_eqIntS.f k bt1269.2.2.2.2.2.2.2.1 bt1241.2.2.2.2.2.2.2.1).bind fun t1286 => (if t1286 = true then (laws_FnExactStepBack.j0 k a1 bt1241.2.2.2.2.2.2.2.1 bt1241.2.2.2.2.2.2.2.2 bt1269.2.2.2.2.2.2.2.1 bt1269.2.2.2.2.2.2.2.2 (bt1269.2.2.2.2.2.2.2.2 != bt1241.2.2.2.2.2.2.2.2) a0_0 a0_1 l0_2 l0_3 a0_4 a0_5 a0_6 bt1241.1 bt1241.2.1 bt1241.2.2.1 bt1241.2.2.2.1 bt1241.2.2.2.2.1 bt1241.2.2.2.2.2.1 bt1241.2.2.2.2.2.2.1 bt1257.1 bt1257.2.1 bt1257.2.2.1 bt1257.2.2.2.1 bt1257.2.2.2.2.1 bt1257.2.2.2.2.2.1 bt1257.2.2.2.2.2.2 bt1269.1 bt1269.2.1 bt1269.2.2.1 bt1269.2.2.2.1 bt1269.2.2.2.2.1 bt1269.2.2.2.2.2.1 bt1269.2.2.2.2.2.2.1) else (laws_FnExactStepBack.j0 k a1 bt1241.2.2.2.2.2.2.2.1 bt1241.2.2.2.2.2.2.2.2 bt1269.2.2.2.2.2.2.2.1 bt1269.2.2.2.2.2.2.2.2 true a0_0 a0_1 l0_2 l0_3 a0_4 a0_5 a0_6 bt1241.1 bt1241.2.1 bt1241.2.2.1 bt1241.2.2.2.1 bt1241.2.2.2.2.1 bt1241.2.2.2.2.2.1 bt1241.2.2.2.2.2.2.1 bt1257.1 bt1257.2.1 bt1257.2.2.1 bt1257.2.2.2.1 bt1257.2.2.2.2.1 bt1257.2.2.2.2.2.1 bt1257.2.2.2.2.2.2 bt1269.1 bt1269.2.1 bt1269.2.2.1 bt1269.2.2.2.1 bt1269.2.2.2.2.1 bt1269.2.2.2.2.2.1 bt1269.2.2.2.2.2.2.1))) else (laws_FnExactStepBack.j0 k a1 bt1241.2.2.2.2.2.2.2.1 bt1241.2.2.2.2.2.2.2.2 bt1269.2.2.2.2.2.2.2.1 bt1269.2.2.2.2.2.2.2.2 true a0_0 a0_1 l0_2 l0_3 a0_4 a0_5 a0_6 bt1241.1 bt1241.2.1 bt1241.2.2.1 bt1241.2.2.2.1 bt1241.2.2.2.2.1 bt1241.2.2.2.2.2.1 bt1241.2.2.2.2.2.2.1 bt1257.1 bt1257.2.1 bt1257.2.2.1 bt1257.2.2.2.1 bt1257.2.2.2.2.1 bt1257.2.2.2.2.2.1 bt1257.2.2.2.2.2.2 bt1269.1 bt1269.2.1 bt1269.2.2.1 bt1269.2.2.2.1 bt1269.2.2.2.2.1 bt1269.2.2.2.2.2.1 bt1269.2.2.2.2.2.2.1))))))))) = some r := h
 clear h
 replace H := Option.bind_eq_some_iff.mp H
 obtain ⟨t1229, A30, H⟩ := H
 replace H : (if t1229 < 0 then (some true) else ((laws_toEvent.f k a0_0 a0_1 l0_2 l0_3 a0_4 a0_5 a0_6).bind fun bt1230 => ((spec_StepBack.f k bt1230.1 bt1230.2.1 bt1230.2.2.1 bt1230.2.2.2.1 bt1230.2.2.2.2.1 bt1230.2.2.2.2.2.1 bt1230.2.2.2.2.2.2 a1).bind fun bt1241 => ((laws_toEvent.f k a0_0 a0_1 l0_2 l0_3 a0_4 a0_5 a0_6).bind fun bt1257 => ((impl_StepBack.f k bt1257.1 bt1257.2.1 bt1257.2.2.1 bt1257.2.2.2.1 bt1257.2.2.2.2.1 bt1257.2.2.2.2.2.1 bt1257.2.2.2.2.2.2 a1).bind fun bt1269 => ((laws_eqEvent.f k bt1269.1 bt1269.2.1 bt1269.2.2.1 bt1269.2.2.2.1 bt1269.2.2.2.2.1 bt1269.2.2.2.2.2.1 bt1269.2.2.2.2.2.2.1 bt1241.1 bt1241.2.1 bt1241.2.2.1 bt1241.2.2.2.1 bt1241.2.2.2.2.1 bt1241.2.2.2.2.2.1 bt1241.2.2.2.2.2.2.1).bind fun t1285 => (if t1285 = true then ((laws_eqIntS.f k bt1269.2.2.2.2.2.2.2.1 bt1241.2.2.2.2.2.2.2.1).bind fun t1286 => (if t1286 = true then (laws_FnExactStepBack.j0 k a1 bt1241.2.2.2.2.2.2.2.1 bt1241.2.2.2.2.2.2.2.2 bt1269.2.2.2.2.2.2.2.1 bt1269.2.2.2.2.2.2.2.2 (bt1269.2.2.2.2.2.2.2.2 != bt1241.2.2.2.2.2.2.2.2) a0_0 a0_1 l0_2 l0_3 a0_4 a0_5 a0_6 bt1241.1 bt1241.2.1 bt1241.2.2.1 bt1241.2.2.2.1 bt1241.2.2.2.2.1 bt1241.2.2.2.2.2.1 bt1241.2.2.2.2.2.2.1 bt1257.1 bt1257.2.1 bt1257.2.2.1 bt1257.2.2.2.1 bt1257.2.2.2.2.1 bt1257.2.2.2.2.2.1 bt1257.2.2.2.2.2.2 bt1269.1 bt1269.2.1 bt1269.2.2.1 bt1269.2.2.2.1 bt1269.2.2.2.2.1 bt1269.2.2.2.2.2.1 bt1269.2.2.2.2.2.2.1) else (laws_FnExactStepBack.j0 k a1 bt1241.2.2.2.2.2.2.2.1 bt1241.2.2.2.2.2.2.2.2 bt1269.2.2.2.2.2.2.2.1 bt1269.2.2.2.2.2.2.2.2 true a0_0 a0_1 l0_2 l0_3 a0_4 a0_5 a0_6 bt1241.1 bt1241.2.1 bt1241.2.2.1 bt1241.2.2.2.1 bt1241.2.2.2.2.1 bt1241.2.2.2.2.2.1 bt1241.2.2.2.2.2.2.1 bt1257.1 bt1257.2.1 bt1257.2.2.1 bt1257.2.2.2.1 bt1257.2.2.2.2.1 bt1257.2.2.2.2.2.1 bt1257.2.2.2.2.2.2 bt1269.1 bt1269.2.1 bt1269.2.2.1 bt1269.2.2.2.1 bt1269.2.2.2.2.1 bt1269.2.2.2.2.2.1 bt1269.2.2.2.2.2.2.1))) else (laws_FnExactStepBack.j0 k a1 bt1241.2.2.2.2.2.2.2.1 bt1241.2.2.2.2.2.2.2.2 bt1269.2.2.2.2.2.2.2.1 bt1269.2.2.2.2.2.2.2.2 true a0_0 a0_1 l0_2 l0_3 a0_4 a0_5 a0_6 bt1241.1 bt1241.2.1 bt1241.2.2.1 bt1241.2.2.2.1 bt1241.2.2.2.2.1 bt1241.2.2.2.2.2.1 bt1241.2.2.2.2.2.2.1 bt1257.1 bt1257.2.1 bt1257.2.2.1 bt1257.2.2.2.1 bt1257.2.2.2.2.1 bt1257.2.2.2.2.2.1 bt1257.2.2.2.2.2.2 bt1269.1 bt1269.2.1 bt1269.2.2.1 bt1269.2.2.2.1 bt1269.2.2.2.2.1 bt1269.2.2.2.2.2.1 bt1269.2.2.2.2.2.2.1)))))))) = some r := H
 have A3 := am A30
 clear A30
 by_cases c4 : t1229 < 0
 ·rw [if_pos c4] at H
  have c4b0 : decide (t1229 < 0) = true := decide_eq_true c4
  clear c4
  obtain rfl := Option.some.inj H
  go_enter Try.func10, Try.ntmps10
  go_wp2_with (first | ((with_reducible refine gate_dst (N := 2) rfl ?_); refine box_event ?hg (N := 2) ?hd (cs := #[.bool a0_0, .bool a0_1, .slice A0_2 l0_2.length c0_2, .slice A0_3 l0_3.length c0_3, .int .i64 a0_4, .int .i64 a0_5, .int .i64 a0_6]) (t := 24) ?hr ?_; (case hd => rfl); (case hg => rfl); (case hr => first | (go_simp; done) | (go_simp; rfl)); intro gb1228 hg w5 hbox hb; have BK1228 := am (hbox); have GW1228 := am ((by rw [hg]; exact (below_size (pkB HB.out)) : w.heap.size ≤ gb1228)); have GE1228 := am ((by rw [hg]; exact (below_size (pkB HB.out)) : w.heap.size ≤ gb1228)); replace HB := am (below_step (pkB HB.out) hb); clear hb hbox hg; obtain ⟨hcz6_0, hcz6_1, hcz6_2, hcz6_3, hcz6_4, hcz6_5, hcz6_6, hfz6_0, hfz6_1, hfz6_2, hfz6_3, hfz6_4, hfz6_5, hfz6_6⟩ := bk7 BK1228.out) | ((with_reducible refine gate_callee (f := 14) rfl ?_); refine goesL_ (some 21) rfl rfl Try.func14 (by kernel_rfl) rfl #[.agg #[.bool a0_0, .bool a0_1, .slice A0_2 l0_2.length c0_2, .slice A0_3 l0_3.length c0_3, .int .i64 a0_4, .int .i64 a0_5, .int .i64 a0_6], .int .i64 1048576] rfl mpx ?_; (with_reducible refine (laws_szEvent.calls a0_0 a0_1 _ _ l0_2 _ _ l0_3 a0_4 a0_5 a0_6 1048576 t1229 _ ?side1 ?side2 ?side3 ?side4 A3.out).mono ?_); (case side1 => exact pkC (Kd.C_below HR0_2.out HB.out)); (case side2 => exact HC0_2.out); (case side3 => exact pkC (Kd.C_below HR0_3.out HB.out)); (case side4 => exact HC0_3.out); rintro e w7 ⟨rfl, hb⟩; refine ⟨_, rfl, ?_⟩; replace BK1228 := am (blk_below (pkK BK1228.out) hb); replace HB := am (below_step (pkW HB.out) hb); (try clear hb)))
  go_ret
  exact ⟨rfe, pkW HB.out⟩
 ·rw [if_neg c4] at H
  have c4b0 : decide (t1229 < 0) = false := decide_eq_false c4
  clear c4
  replace H := Option.bind_eq_some_iff.mp H
  obtain ⟨⟨t1230, t1231, t1232, t1235, t1238, t1239, t1240⟩, A80, H⟩ := H
  replace H : ((spec_StepBack.f k t1230 t1231 t1232 t1235 t1238 t1239 t1240 a1).bind fun bt1241 => ((laws_toEvent.f k a0_0 a0_1 l0_2 l0_3 a0_4 a0_5 a0_6).bind fun bt1257 => ((impl_StepBack.f k bt1257.1 bt1257.2.1 bt1257.2.2.1 bt1257.2.2.2.1 bt1257.2.2.2.2.1 bt1257.2.2.2.2.2.1 bt1257.2.2.2.2.2.2 a1).bind fun bt1269 => ((laws_eqEvent.f k bt1269.1 bt1269.2.1 bt1269.2.2.1 bt1269.2.2.2.1 bt1269.2.2.2.2.1 bt1269.2.2.2.2.2.1 bt1269.2.2.2.2.2.2.1 bt1241.1 bt1241.2.1 bt1241.2.2.1 bt1241.2.2.2.1 bt1241.2.2.2.2.1 bt1241.2.2.2.2.2.1 bt1241.2.2.2.2.2.2.1).bind fun t1285 => (if t1285 = true then ((laws_eqIntS.f k bt1269.2.2.2.2.2.2.2.1 bt1241.2.2.2.2.2.2.2.1).bind fun t1286 => (if t1286 = true then (laws_FnExactStepBack.j0 k a1 bt1241.2.2.2.2.2.2.2.1 bt1241.2.2.2.2.2.2.2.2 bt1269.2.2.2.2.2.2.2.1 bt1269.2.2.2.2.2.2.2.2 (bt1269.2.2.2.2.2.2.2.2 != bt1241.2.2.2.2.2.2.2.2) a0_0 a0_1 l0_2 l0_3 a0_4 a0_5 a0_6 bt1241.1 bt1241.2.1 bt1241.2.2.1 bt1241.2.2.2.1 bt1241.2.2.2.2.1 bt1241.2.2.2.2.2.1 bt1241.2.2.2.2.2.2.1 bt1257.1 bt1257.2.1 bt1257.2.2.1 bt1257.2.2.2.1 bt1257.2.2.2.2.1 bt1257.2.2.2.2.2.1 bt1257.2.2.2.2.2.2 bt1269.1 bt1269.2.1 bt1269.2.2.1 bt1269.2.2.2.1 bt1269.2.2.2.2.1 bt1269.2.2.2.2.2.1 bt1269.2.2.2.2.2.2.1) else (laws_FnExactStepBack.j0 k a1 bt1241.2.2.2.2.2.2.2.1 bt1241.2.2.2.2.2.2.2.2 bt1269.2.2.2.2.2.2.2.1 bt1269.2.2.2.2.2.2.2.2 true a0_0 a0_1 l0_2 l0_3 a0_4 a0_5 a0_6 bt1241.1 bt1241.2.1 bt1241.2.2.1 bt1241.2.2.2.1 bt1241.2.2.2.2.1 bt1241.2.2.2.2.2.1 bt1241.2.2.2.2.2.2.1 bt1257.1 bt1257.2.1 bt1257.2.2.1 bt1257.2.2.2.1 bt1257.2.2.2.2.1 bt1257.2.2.2.2.2.1 bt1257.2.2.2.2.2.2 bt1269.1 bt1269.2.1 bt1269.2.2.1 bt1269.2.2.2.1 bt1269.2.2.2.2.1 bt1269.2.2.2.2.2.1 bt1269.2.2.2.2.2.2.1))) else (laws_FnExactStepBack.j0 k a1 bt1241.2.2.2.2.2.2.2.1 bt1241.2.2.2.2.2.2.2.2 bt1269.2.2.2.2.2.2.2.1 bt1269.2.2.2.2.2.2.2.2 true a0_0 a0_1 l0_2 l0_3 a0_4 a0_5 a0_6 bt1241.1 bt1241.2.1 bt1241.2.2.1 bt1241.2.2.2.1 bt1241.2.2.2.2.1 bt1241.2.2.2.2.2.1 bt1241.2.2.2.2.2.2.1 bt1257.1 bt1257.2.1 bt1257.2.2.1 bt1257.2.2.2.1 bt1257.2.2.2.2.1 bt1257.2.2.2.2.2.1 bt1257.2.2.2.2.2.2 bt1269.1 bt1269.2.1 bt1269.2.2.1 bt1269.2.2.2.1 bt1269.2.2.2.2.1 bt1269.2.2.2.2.2.1 bt1269.2.2.2.2.2.2.1)))))) = some r := H
  have A8 := am A80
  clear A80
  replace H := Option.bind_eq_some_iff.mp H
  obtain ⟨⟨t1241, t1242, t1243, t1246, t1249, t1250, t1251, t1252, t1255⟩, A90, H⟩ := H
  replace H : ((laws_toEvent.f k a0_0 a0_1 l0_2 l0_3 a0_4 a0_5 a0_6).bind fun bt1257 => ((impl_StepBack.f k bt1257.1 bt1257.2.1 bt1257.2.2.1 bt1257.2.2.2.1 bt1257.2.2.2.2.1 bt1257.2.2.2.2.2.1 bt1257.2.2.2.2.2.2 a1).bind fun bt1269 => ((laws_eqEvent.f k bt1269.1 bt1269.2.1 bt1269.2.2.1 bt1269.2.2.2.1 bt1269.2.2.2.2.1 bt1269.2.2.2.2.2.1 bt1269.2.2.2.2.2.2.1 t1241 t1242 t1243 t1246 t1249 t1250 t1251).bind fun t1285 => (if t1285 = true then ((laws_eqIntS.f k bt1269.2.2.2.2.2.2.2.1 t1252).bind fun t1286 => (if t1286 = true then (laws_FnExactStepBack.j0 k a1 t1252 t1255 bt1269.2.2.2.2.2.2.2.1 bt1269.2.2.2.2.2.2.2.2 (bt1269.2.2.2.2.2.2.2.2 != t1255) a0_0 a0_1 l0_2 l0_3 a0_4 a0_5 a0_6 t1241 t1242 t1243 t1246 t1249 t1250 t1251 bt1257.1 bt1257.2.1 bt1257.2.2.1 bt1257.2.2.2.1 bt1257.2.2.2.2.1 bt1257.2.2.2.2.2.1 bt1257.2.2.2.2.2.2 bt1269.1 bt1269.2.1 bt1269.2.2.1 bt1269.2.2.2.1 bt1269.2.2.2.2.1 bt1269.2.2.2.2.2.1 bt1269.2.2.2.2.2.2.1) else (laws_FnExactStepBack.j0 k a1 t1252 t1255 bt1269.2.2.2.2.2.2.2.1 bt1269.2.2.2.2.2.2.2.2 true a0_0 a0_1 l0_2 l0_3 a0_4 a0_5 a0_6 t1241 t1242 t1243 t1246 t1249 t1250 t1251 bt1257.1 bt1257.2.1 bt1257.2.2.1 bt1257.2.2.2.1 bt1257.2.2.2.2.1 bt1257.2.2.2.2.2.1 bt1257.2.2.2.2.2.2 bt1269.1 bt1269.2.1 bt1269.2.2.1 bt1269.2.2.2.1 bt1269.2.2.2.2.1 bt1269.2.2.2.2.2.1 bt1269.2.2.2.2.2.2.1))) else (laws_FnExactStepBack.j0 k a1 t1252 t1255 bt1269.2.2.2.2.2.2.2.1 bt1269.2.2.2.2.2.2.2.2 true a0_0 a0_1 l0_2 l0_3 a0_4 a0_5 a0_6 t1241 t1242 t1243 t1246 t1249 t1250 t1251 bt1257.1 bt1257.2.1 bt1257.2.2.1 bt1257.2.2.2.1 bt1257.2.2.2.2.1 bt1257.2.2.2.2.2.1 bt1257.2.2.2.2.2.2 bt1269.1 bt1269.2.1 bt1269.2.2.1 bt1269.2.2.2.1 bt1269.2.2.2.2.1 bt1269.2.2.2.2.2.1 bt1269.2.2.2.2.2.2.1))))) = some r := H
  have A9 := am A90
  clear A90
  replace H := Option.bind_eq_some_iff.mp H
  obtain ⟨⟨t1257, t1258, t1259, t1262, t1265, t1266, t1267⟩, A100, H⟩ := H
  replace H : ((impl_StepBack.f k t1257 t1258 t1259 t1262 t1265 t1266 t1267 a1).bind fun bt1269 => ((laws_eqEvent.f k bt1269.1 bt1269.2.1 bt1269.2.2.1 bt1269.2.2.2.1 bt1269.2.2.2.2.1 bt1269.2.2.2.2.2.1 bt1269.2.2.2.2.2.2.1 t1241 t1242 t1243 t1246 t1249 t1250 t1251).bind fun t1285 => (if t1285 = true then ((laws_eqIntS.f k bt1269.2.2.2.2.2.2.2.1 t1252).bind fun t1286 => (if t1286 = true then (laws_FnExactStepBack.j0 k a1 t1252 t1255 bt1269.2.2.2.2.2.2.2.1 bt1269.2.2.2.2.2.2.2.2 (bt1269.2.2.2.2.2.2.2.2 != t1255) a0_0 a0_1 l0_2 l0_3 a0_4 a0_5 a0_6 t1241 t1242 t1243 t1246 t1249 t1250 t1251 t1257 t1258 t1259 t1262 t1265 t1266 t1267 bt1269.1 bt1269.2.1 bt1269.2.2.1 bt1269.2.2.2.1 bt1269.2.2.2.2.1 bt1269.2.2.2.2.2.1 bt1269.2.2.2.2.2.2.1) else (laws_FnExactStepBack.j0 k a1 t1252 t1255 bt1269.2.2.2.2.2.2.2.1 bt1269.2.2.2.2.2.2.2.2 true a0_0 a0_1 l0_2 l0_3 a0_4 a0_5 a0_6 t1241 t1242 t1243 t1246 t1249 t1250 t1251 t1257 t1258 t1259 t1262 t1265 t1266 t1267 bt1269.1 bt1269.2.1 bt1269.2.2.1 bt1269.2.2.2.1 bt1269.2.2.2.2.1 bt1269.2.2.2.2.2.1 bt1269.2.2.2.2.2.2.1))) else (laws_FnExactStepBack.j0 k a1 t1252 t1255 bt1269.2.2.2.2.2.2.2.1 bt1269.2.2.2.2.2.2.2.2 true a0_0 a0_1 l0_2 l0_3 a0_4 a0_5 a0_6 t1241 t1242 t1243 t1246 t1249 t1250 t1251 t1257 t1258 t1259 t1262 t1265 t1266 t1267 bt1269.1 bt1269.2.1 bt1269.2.2.1 bt1269.2.2.2.1 bt1269.2.2.2.2.1 bt1269.2.2.2.2.2.1 bt1269.2.2.2.2.2.2.1)))) = some r := H
  have A10 := am A100
  clear A100
  replace H := Option.bind_eq_some_iff.mp H
  obtain ⟨⟨t1269, t1270, t1271, t1274, t1277, t1278, t1279, t1280, t1283⟩, A110, H⟩ := H
  replace H : ((laws_eqEvent.f k t1269 t1270 t1271 t1274 t1277 t1278 t1279 t1241 t1242 t1243 t1246 t1249 t1250 t1251).bind fun t1285 => (if t1285 = true then ((laws_eqIntS.f k t1280 t1252).bind fun t1286 => (if t1286 = true then (laws_FnExactStepBack.j0 k a1 t1252 t1255 t1280 t1283 (t1283 != t1255) a0_0 a0_1 l0_2 l0_3 a0_4 a0_5 a0_6 t1241 t1242 t1243 t1246 t1249 t1250 t1251 t1257 t1258 t1259 t1262 t1265 t1266 t1267 t1269 t1270 t1271 t1274 t1277 t1278 t1279) else (laws_FnExactStepBack.j0 k a1 t1252 t1255 t1280 t1283 true a0_0 a0_1 l0_2 l0_3 a0_4 a0_5 a0_6 t1241 t1242 t1243 t1246 t1249 t1250 t1251 t1257 t1258 t1259 t1262 t1265 t1266 t1267 t1269 t1270 t1271 t1274 t1277 t1278 t1279))) else (laws_FnExactStepBack.j0 k a1 t1252 t1255 t1280 t1283 true a0_0 a0_1 l0_2 l0_3 a0_4 a0_5 a0_6 t1241 t1242 t1243 t1246 t1249 t1250 t1251 t1257 t1258 t1259 t1262 t1265 t1266 t1267 t1269 t1270 t1271 t1274 t1277 t1278 t1279))) = some r := H
  have A11 := am A110
  clear A110
  have HC12 := am H
  clear H
  go_enter Try.func10, Try.ntmps10
  go_upto_region 8 with (first | ((with_reducible refine gate_dst (N := 2) rfl ?_); refine box_event ?hg (N := 2) ?hd (cs := #[.bool a0_0, .bool a0_1, .slice A0_2 l0_2.length c0_2, .slice A0_3 l0_3.length c0_3, .int .i64 a0_4, .int .i64 a0_5, .int .i64 a0_6]) (t := 24) ?hr ?_; (case hd => rfl); (case hg => rfl); (case hr => first | (go_simp; done) | (go_simp; rfl)); intro gb1228 hg w13 hbox hb; have BK1228 := am (hbox); have GW1228 := am ((by rw [hg]; exact (below_size (pkB HB.out)) : w.heap.size ≤ gb1228)); have GE1228 := am ((by rw [hg]; exact (below_size (pkB HB.out)) : w.heap.size ≤ gb1228)); replace HB := am (below_step (pkB HB.out) hb); clear hb hbox hg; obtain ⟨hcz14_0, hcz14_1, hcz14_2, hcz14_3, hcz14_4, hcz14_5, hcz14_6, hfz14_0, hfz14_1, hfz14_2, hfz14_3, hfz14_4, hfz14_5, hfz14_6⟩ := bk7 BK1228.out) | ((with_reducible refine gate_callee (f := 14) rfl ?_); refine goesL_ (some 21) rfl rfl Try.func14 (by kernel_rfl) rfl #[.agg #[.bool a0_0, .bool a0_1, .slice A0_2 l0_2.length c0_2, .slice A0_3 l0_3.length c0_3, .int .i64 a0_4, .int .i64 a0_5, .int .i64 a0_6], .int .i64 1048576] rfl mpx ?_; (with_reducible refine (laws_szEvent.calls a0_0 a0_1 _ _ l0_2 _ _ l0_3 a0_4 a0_5 a0_6 1048576 t1229 _ ?side1 ?side2 ?side3 ?side4 A3.out).mono ?_); (case side1 => exact pkC (Kd.C_below HR0_2.out HB.out)); (case side2 => exact HC0_2.out); (case side3 => exact pkC (Kd.C_below HR0_3.out HB.out)); (case side4 => exact HC0_3.out); rintro e w15 ⟨rfl, hb⟩; refine ⟨_, rfl, ?_⟩; replace BK1228 := am (blk_below (pkK BK1228.out) hb); replace HB := am (below_step (pkW HB.out) hb); (try clear hb); obtain ⟨hcz16_0, hcz16_1, hcz16_2, hcz16_3, hcz16_4, hcz16_5, hcz16_6, hfz16_0, hfz16_1, hfz16_2, hfz16_3, hfz16_4, hfz16_5, hfz16_6⟩ := bk7 BK1228.out) | ((with_reducible refine gate_callee (f := 16) rfl ?_); refine goesL_ (some 26) rfl rfl Try.func16 (by kernel_rfl) rfl #[.agg #[.bool a0_0, .bool a0_1, .slice A0_2 l0_2.length c0_2, .slice A0_3 l0_3.length c0_3, .int .i64 a0_4, .int .i64 a0_5, .int .i64 a0_6]] rfl mpx ?_; (with_reducible refine (laws_toEvent.calls k a0_0 a0_1 _ _ l0_2 _ _ l0_3 a0_4 a0_5 a0_6 t1230 t1231 t1232 t1235 t1238 t1239 t1240 _ ?side1 ?side2 ?side3 ?side4 A8.out).mono ?_); (case side1 => exact pkC (Kd.C_below HR0_2.out HB.out)); (case side2 => exact HC0_2.out); (case side3 => exact pkC (Kd.C_below HR0_3.out HB.out)); (case side4 => exact HC0_3.out); rintro e w17 ⟨v1233, v1236, rfl, ho0, ho1, hb⟩; refine ⟨_, rfl, ?_⟩; have HO1234 := am (Kd.R_lower ho0 (below_size (pkW HB.out))); have HO1237 := am (Kd.R_lower ho1 (below_size (pkW HB.out))); replace BK1228 := am (blk_below (pkK BK1228.out) hb); replace HB := am (below_step (pkW HB.out) hb); (try clear hb ho0 ho1); obtain ⟨Ao18, co18, eo18⟩ := Kd.R_slice HO1234.out; subst eo18; obtain ⟨Ao19, co19, eo19⟩ := Kd.R_slice HO1237.out; subst eo19) | ((with_reducible refine gate_callee (f := 41) rfl ?_); refine goesL_ (some 28) rfl rfl Try.func41 (by kernel_rfl) rfl #[.agg #[.bool t1230, .bool t1231, .slice Ao18 t1232.length co18, .slice Ao19 t1235.length co19, .int .i64 t1238, .int .i64 t1239, .int .i64 t1240], .int .i64 a1] rfl mpx ?_; (with_reducible refine (spec_StepBack.calls k t1230 t1231 _ _ t1232 _ _ t1235 t1238 t1239 t1240 a1 t1241 t1242 t1243 t1246 t1249 t1250 t1251 t1252 t1255 _ ?side1 ?side2 ?side3 ?side4 A9.out).mono ?_); (case side1 => exact pkC (Kd.R_reads' HO1234.out).2.2); (case side2 => exact (Kd.R_reads' HO1234.out).2.1); (case side3 => exact pkC (Kd.R_reads' HO1237.out).2.2); (case side4 => exact (Kd.R_reads' HO1237.out).2.1); rintro e w20 ⟨v1244, v1247, v1253, rfl, ho0, ho1, ho2, hb⟩; refine ⟨_, rfl, ?_⟩; have HO1245 := am (Kd.R_lower (Kd.R_new' (Kd.R_new' ho0 (Kd.R_lt (pkR HO1234.out))) (Kd.R_lt (pkR HO1237.out))) (below_size (pkW HB.out))); have HO1248 := am (Kd.R_lower (Kd.R_new' (Kd.R_new' ho1 (Kd.R_lt (pkR HO1234.out))) (Kd.R_lt (pkR HO1237.out))) (below_size (pkW HB.out))); have HO1254 := am (Kd.R_lower (Kd.R_new' (Kd.R_new' ho2 (Kd.R_lt (pkR HO1234.out))) (Kd.R_lt (pkR HO1237.out))) (below_size (pkW HB.out))); replace HO1234 := am (Kd.R_mono (Kd.R_told (Kd.R_told (Kd.R_told (Kd.R_old (pkR HO1234.out) hb) (Kd.R_base ho0)) (Kd.R_base ho1)) (Kd.R_base ho2)) (fun _ h_ => h_.1)); replace HO1237 := am (Kd.R_mono (Kd.R_told (Kd.R_told (Kd.R_told (Kd.R_old (pkR HO1237.out) hb) (Kd.R_base ho0)) (Kd.R_base ho1)) (Kd.R_base ho2)) (fun _ h_ => h_.1)); replace BK1228 := am (blk_below (pkK BK1228.out) hb); replace HB := am (below_step (pkW HB.out) hb); (try clear hb ho0 ho1 ho2)) | ((with_reducible refine gate_dst (N := 6) rfl ?_); refine box_event ?hg (N := 6) ?hd (cs := #[.bool false, .bool false, .slice none 0 0, .slice none 0 0, .int .i64 0, .int .i64 0, .int .i64 0]) (t := 27) ?hr ?_; (case hd => rfl); (case hg => rfl); (case hr => first | (go_simp; done) | (go_simp; rfl)); intro gb1256 hg w21 hbox hb; replace HO1234 := am (Kd.R_below (pkR HO1234.out) hb); replace HO1237 := am (Kd.R_below (pkR HO1237.out) hb); replace HO1245 := am (Kd.R_below (pkR HO1245.out) hb); replace HO1248 := am (Kd.R_below (pkR HO1248.out) hb); replace HO1254 := am (Kd.R_below (pkR HO1254.out) hb); have BK1256 := am (hbox); have GW1256 := am ((by rw [hg]; exact (below_size (pkW HB.out)) : w.heap.size ≤ gb1256)); have GE1256 := am ((by rw [hg]; exact (below_size (pkW HB.out)) : w.heap.size ≤ gb1256)); replace HB := am (below_step (pkW HB.out) hb); have NB1228_1256 := am ((by rw [hg]; exact Nat.ne_of_lt (blk_lt (g := gb1228) (o := .cells #[.bool a0_0, .bool a0_1, .slice A0_2 l0_2.length c0_2, .slice A0_3 l0_3.length c0_3, .int .i64 a0_4, .int .i64 a0_5, .int .i64 a0_6] 24 (0, 0)) (pkK BK1228.out)) : gb1228 ≠ gb1256)); have NB1256_1228 := am ((by rw [hg]; exact Nat.ne_of_gt (blk_lt (g := gb1228) (o := .cells #[.bool a0_0, .bool a0_1, .slice A0_2 l0_2.length c0_2, .slice A0_3 l0_3.length c0_3, .int .i64 a0_4, .int .i64 a0_5, .int .i64 a0_6] 24 (0, 0)) (pkK BK1228.out)) : gb1256 ≠ gb1228)); replace BK1228 := am (blk_below (pkK BK1228.out) hb); clear hb hbox hg; have hnb22 := NB1256_1228.out; have hnc22 := NB1228_1256.out; obtain ⟨hcz23_0, hcz23_1, hcz23_2, hcz23_3, hcz23_4, hcz23_5, hcz23_6, hfz23_0, hfz23_1, hfz23_2, hfz23_3, hfz23_4, hfz23_5, hfz23_6⟩ := bk7 BK1256.out; obtain ⟨Ao24, co24, eo24⟩ := Kd.R_slice HO1245.out; subst eo24; obtain ⟨Ao25, co25, eo25⟩ := Kd.R_slice HO1248.out; subst eo25; obtain ⟨hcz26_0, hcz26_1, hcz26_2, hcz26_3, hcz26_4, hcz26_5, hcz26_6, hfz26_0, hfz26_1, hfz26_2, hfz26_3, hfz26_4, hfz26_5, hfz26_6⟩ := bk7 BK1228.out) | ((with_reducible refine gate_callee (f := 16) rfl ?_); refine goesL_ (some 33) rfl rfl Try.func16 (by kernel_rfl) rfl #[.agg #[.bool a0_0, .bool a0_1, .slice A0_2 l0_2.length c0_2, .slice A0_3 l0_3.length c0_3, .int .i64 a0_4, .int .i64 a0_5, .int .i64 a0_6]] rfl mpx ?_; (with_reducible refine (laws_toEvent.calls k a0_0 a0_1 _ _ l0_2 _ _ l0_3 a0_4 a0_5 a0_6 t1257 t1258 t1259 t1262 t1265 t1266 t1267 _ ?side1 ?side2 ?side3 ?side4 A10.out).mono ?_); (case side1 => exact Kd.C_below HR0_2.out (pkW HB.out)); (case side2 => exact HC0_2.out); (case side3 => exact Kd.C_below HR0_3.out (pkW HB.out)); (case side4 => exact HC0_3.out); rintro e w27 ⟨v1260, v1263, rfl, ho0, ho1, hb⟩; refine ⟨_, rfl, ?_⟩; have HO1261 := am (Kd.R_lower (Kd.R_new' (Kd.R_new' (Kd.R_new' (Kd.R_new' (Kd.R_new' ho0 (Kd.R_lt (by (with_reducible repeat (first | apply Kd.R_alloc | apply Kd.R_drewN | apply Kd.R_drew)); exact (Kd.R_mono (Kd.R_far (p := ⟨gb1256, 6, none⟩) (Kd.R_far (p := ⟨gb1256, 5, none⟩) (Kd.R_far (p := ⟨gb1256, 4, none⟩) (Kd.R_far (p := ⟨gb1256, 3, none⟩) (Kd.R_far (p := ⟨gb1256, 2, none⟩) (Kd.R_far (p := ⟨gb1256, 1, none⟩) (Kd.R_far (p := ⟨gb1256, 0, none⟩) (Kd.R_types HO1234.out BK1256.out (by decide)) (fun _ hk => hk.2) (.bool t1241)) (fun _ hk => hk.2) (.bool t1242)) (fun _ hk => hk.2) (.slice Ao24 t1243.length co24)) (fun _ hk => hk.2) (.slice Ao25 t1246.length co25)) (fun _ hk => hk.2) (.int .i64 t1249)) (fun _ hk => hk.2) (.int .i64 t1250)) (fun _ hk => hk.2) (.int .i64 t1251)) (fun _ h_ => h_.1))))) (Kd.R_lt (by (with_reducible repeat (first | apply Kd.R_alloc | apply Kd.R_drewN | apply Kd.R_drew)); exact (Kd.R_mono (Kd.R_far (p := ⟨gb1256, 6, none⟩) (Kd.R_far (p := ⟨gb1256, 5, none⟩) (Kd.R_far (p := ⟨gb1256, 4, none⟩) (Kd.R_far (p := ⟨gb1256, 3, none⟩) (Kd.R_far (p := ⟨gb1256, 2, none⟩) (Kd.R_far (p := ⟨gb1256, 1, none⟩) (Kd.R_far (p := ⟨gb1256, 0, none⟩) (Kd.R_types HO1237.out BK1256.out (by decide)) (fun _ hk => hk.2) (.bool t1241)) (fun _ hk => hk.2) (.bool t1242)) (fun _ hk => hk.2) (.slice Ao24 t1243.length co24)) (fun _ hk => hk.2) (.slice Ao25 t1246.length co25)) (fun _ hk => hk.2) (.int .i64 t1249)) (fun _ hk => hk.2) (.int .i64 t1250)) (fun _ hk => hk.2) (.int .i64 t1251)) (fun _ h_ => h_.1))))) (Kd.R_lt (by (with_reducible repeat (first | apply Kd.R_alloc | apply Kd.R_drewN | apply Kd.R_drew)); exact (Kd.R_mono (Kd.R_far (p := ⟨gb1256, 6, none⟩) (Kd.R_far (p := ⟨gb1256, 5, none⟩) (Kd.R_far (p := ⟨gb1256, 4, none⟩) (Kd.R_far (p := ⟨gb1256, 3, none⟩) (Kd.R_far (p := ⟨gb1256, 2, none⟩) (Kd.R_far (p := ⟨gb1256, 1, none⟩) (Kd.R_far (p := ⟨gb1256, 0, none⟩) (Kd.R_types HO1245.out BK1256.out (by decide)) (fun _ hk => hk.2) (.bool t1241)) (fun _ hk => hk.2) (.bool t1242)) (fun _ hk => hk.2) (.slice Ao24 t1243.length co24)) (fun _ hk => hk.2) (.slice Ao25 t1246.length co25)) (fun _ hk => hk.2) (.int .i64 t1249)) (fun _ hk => hk.2) (.int .i64 t1250)) (fun _ hk => hk.2) (.int .i64 t1251)) (fun _ h_ => h_.1))))) (Kd.R_lt (by (with_reducible repeat (first | apply Kd.R_alloc | apply Kd.R_drewN | apply Kd.R_drew)); exact (Kd.R_mono (Kd.R_far (p := ⟨gb1256, 6, none⟩) (Kd.R_far (p := ⟨gb1256, 5, none⟩) (Kd.R_far (p := ⟨gb1256, 4, none⟩) (Kd.R_far (p := ⟨gb1256, 3, none⟩) (Kd.R_far (p := ⟨gb1256, 2, none⟩) (Kd.R_far (p := ⟨gb1256, 1, none⟩) (Kd.R_far (p := ⟨gb1256, 0, none⟩) (Kd.R_types HO1248.out BK1256.out (by decide)) (fun _ hk => hk.2) (.bool t1241)) (fun _ hk => hk.2) (.bool t1242)) (fun _ hk => hk.2) (.slice Ao24 t1243.length co24)) (fun _ hk => hk.2) (.slice Ao25 t1246.length co25)) (fun _ hk => hk.2) (.int .i64 t1249)) (fun _ hk => hk.2) (.int .i64 t1250)) (fun _ hk => hk.2) (.int .i64 t1251)) (fun _ h_ => h_.1))))) (Kd.R_lt (by (with_reducible repeat (first | apply Kd.R_alloc | apply Kd.R_drewN | apply Kd.R_drew)); exact (Kd.R_mono (Kd.R_far (p := ⟨gb1256, 6, none⟩) (Kd.R_far (p := ⟨gb1256, 5, none⟩) (Kd.R_far (p := ⟨gb1256, 4, none⟩) (Kd.R_far (p := ⟨gb1256, 3, none⟩) (Kd.R_far (p := ⟨gb1256, 2, none⟩) (Kd.R_far (p := ⟨gb1256, 1, none⟩) (Kd.R_far (p := ⟨gb1256, 0, none⟩) (Kd.R_types HO1254.out BK1256.out (by decide)) (fun _ hk => hk.2) (.bool t1241)) (fun _ hk => hk.2) (.bool t1242)) (fun _ hk => hk.2) (.slice Ao24 t1243.length co24)) (fun _ hk => hk.2) (.slice Ao25 t1246.length co25)) (fun _ hk => hk.2) (.int .i64 t1249)) (fun _ hk => hk.2) (.int .i64 t1250)) (fun _ hk => hk.2) (.int .i64 t1251)) (fun _ h_ => h_.1))))) (below_size (pkW HB.out))); have HO1264 := am (Kd.R_lower (Kd.R_new' (Kd.R_new' (Kd.R_new' (Kd.R_new' (Kd.R_new' ho1 (Kd.R_lt (by (with_reducible repeat (first | apply Kd.R_alloc | apply Kd.R_drewN | apply Kd.R_drew)); exact (Kd.R_mono (Kd.R_far (p := ⟨gb1256, 6, none⟩) (Kd.R_far (p := ⟨gb1256, 5, none⟩) (Kd.R_far (p := ⟨gb1256, 4, none⟩) (Kd.R_far (p := ⟨gb1256, 3, none⟩) (Kd.R_far (p := ⟨gb1256, 2, none⟩) (Kd.R_far (p := ⟨gb1256, 1, none⟩) (Kd.R_far (p := ⟨gb1256, 0, none⟩) (Kd.R_types HO1234.out BK1256.out (by decide)) (fun _ hk => hk.2) (.bool t1241)) (fun _ hk => hk.2) (.bool t1242)) (fun _ hk => hk.2) (.slice Ao24 t1243.length co24)) (fun _ hk => hk.2) (.slice Ao25 t1246.length co25)) (fun _ hk => hk.2) (.int .i64 t1249)) (fun _ hk => hk.2) (.int .i64 t1250)) (fun _ hk => hk.2) (.int .i64 t1251)) (fun _ h_ => h_.1))))) (Kd.R_lt (by (with_reducible repeat (first | apply Kd.R_alloc | apply Kd.R_drewN | apply Kd.R_drew)); exact (Kd.R_mono (Kd.R_far (p := ⟨gb1256, 6, none⟩) (Kd.R_far (p := ⟨gb1256, 5, none⟩) (Kd.R_far (p := ⟨gb1256, 4, none⟩) (Kd.R_far (p := ⟨gb1256, 3, none⟩) (Kd.R_far (p := ⟨gb1256, 2, none⟩) (Kd.R_far (p := ⟨gb1256, 1, none⟩) (Kd.R_far (p := ⟨gb1256, 0, none⟩) (Kd.R_types HO1237.out BK1256.out (by decide)) (fun _ hk => hk.2) (.bool t1241)) (fun _ hk => hk.2) (.bool t1242)) (fun _ hk => hk.2) (.slice Ao24 t1243.length co24)) (fun _ hk => hk.2) (.slice Ao25 t1246.length co25)) (fun _ hk => hk.2) (.int .i64 t1249)) (fun _ hk => hk.2) (.int .i64 t1250)) (fun _ hk => hk.2) (.int .i64 t1251)) (fun _ h_ => h_.1))))) (Kd.R_lt (by (with_reducible repeat (first | apply Kd.R_alloc | apply Kd.R_drewN | apply Kd.R_drew)); exact (Kd.R_mono (Kd.R_far (p := ⟨gb1256, 6, none⟩) (Kd.R_far (p := ⟨gb1256, 5, none⟩) (Kd.R_far (p := ⟨gb1256, 4, none⟩) (Kd.R_far (p := ⟨gb1256, 3, none⟩) (Kd.R_far (p := ⟨gb1256, 2, none⟩) (Kd.R_far (p := ⟨gb1256, 1, none⟩) (Kd.R_far (p := ⟨gb1256, 0, none⟩) (Kd.R_types HO1245.out BK1256.out (by decide)) (fun _ hk => hk.2) (.bool t1241)) (fun _ hk => hk.2) (.bool t1242)) (fun _ hk => hk.2) (.slice Ao24 t1243.length co24)) (fun _ hk => hk.2) (.slice Ao25 t1246.length co25)) (fun _ hk => hk.2) (.int .i64 t1249)) (fun _ hk => hk.2) (.int .i64 t1250)) (fun _ hk => hk.2) (.int .i64 t1251)) (fun _ h_ => h_.1))))) (Kd.R_lt (by (with_reducible repeat (first | apply Kd.R_alloc | apply Kd.R_drewN | apply Kd.R_drew)); exact (Kd.R_mono (Kd.R_far (p := ⟨gb1256, 6, none⟩) (Kd.R_far (p := ⟨gb1256, 5, none⟩) (Kd.R_far (p := ⟨gb1256, 4, none⟩) (Kd.R_far (p := ⟨gb1256, 3, none⟩) (Kd.R_far (p := ⟨gb1256, 2, none⟩) (Kd.R_far (p := ⟨gb1256, 1, none⟩) (Kd.R_far (p := ⟨gb1256, 0, none⟩) (Kd.R_types HO1248.out BK1256.out (by decide)) (fun _ hk => hk.2) (.bool t1241)) (fun _ hk => hk.2) (.bool t1242)) (fun _ hk => hk.2) (.slice Ao24 t1243.length co24)) (fun _ hk => hk.2) (.slice Ao25 t1246.length co25)) (fun _ hk => hk.2) (.int .i64 t1249)) (fun _ hk => hk.2) (.int .i64 t1250)) (fun _ hk => hk.2) (.int .i64 t1251)) (fun _ h_ => h_.1))))) (Kd.R_lt (by (with_reducible repeat (first | apply Kd.R_alloc | apply Kd.R_drewN | apply Kd.R_drew)); exact (Kd.R_mono (Kd.R_far (p := ⟨gb1256, 6, none⟩) (Kd.R_far (p := ⟨gb1256, 5, none⟩) (Kd.R_far (p := ⟨gb1256, 4, none⟩) (Kd.R_far (p := ⟨gb1256, 3, none⟩) (Kd.R_far (p := ⟨gb1256, 2, none⟩) (Kd.R_far (p := ⟨gb1256, 1, none⟩) (Kd.R_far (p := ⟨gb1256, 0, none⟩) (Kd.R_types HO1254.out BK1256.out (by decide)) (fun _ hk => hk.2) (.bool t1241)) (fun _ hk => hk.2) (.bool t1242)) (fun _ hk => hk.2) (.slice Ao24 t1243.length co24)) (fun _ hk => hk.2) (.slice Ao25 t1246.length co25)) (fun _ hk => hk.2) (.int .i64 t1249)) (fun _ hk => hk.2) (.int .i64 t1250)) (fun _ hk => hk.2) (.int .i64 t1251)) (fun _ h_ => h_.1))))) (below_size (pkW HB.out))); replace HO1234 := am (Kd.R_mono (Kd.R_told (Kd.R_told (Kd.R_old (by (with_reducible repeat (first | apply Kd.R_alloc | apply Kd.R_drewN | apply Kd.R_drew)); exact (Kd.R_mono (Kd.R_far (p := ⟨gb1256, 6, none⟩) (Kd.R_far (p := ⟨gb1256, 5, none⟩) (Kd.R_far (p := ⟨gb1256, 4, none⟩) (Kd.R_far (p := ⟨gb1256, 3, none⟩) (Kd.R_far (p := ⟨gb1256, 2, none⟩) (Kd.R_far (p := ⟨gb1256, 1, none⟩) (Kd.R_far (p := ⟨gb1256, 0, none⟩) (Kd.R_types HO1234.out BK1256.out (by decide)) (fun _ hk => hk.2) (.bool t1241)) (fun _ hk => hk.2) (.bool t1242)) (fun _ hk => hk.2) (.slice Ao24 t1243.length co24)) (fun _ hk => hk.2) (.slice Ao25 t1246.length co25)) (fun _ hk => hk.2) (.int .i64 t1249)) (fun _ hk => hk.2) (.int .i64 t1250)) (fun _ hk => hk.2) (.int .i64 t1251)) (fun _ h_ => h_.1))) hb) (Kd.R_base ho0)) (Kd.R_base ho1)) (fun _ h_ => h_.1)); replace HO1237 := am (Kd.R_mono (Kd.R_told (Kd.R_told (Kd.R_old (by (with_reducible repeat (first | apply Kd.R_alloc | apply Kd.R_drewN | apply Kd.R_drew)); exact (Kd.R_mono (Kd.R_far (p := ⟨gb1256, 6, none⟩) (Kd.R_far (p := ⟨gb1256, 5, none⟩) (Kd.R_far (p := ⟨gb1256, 4, none⟩) (Kd.R_far (p := ⟨gb1256, 3, none⟩) (Kd.R_far (p := ⟨gb1256, 2, none⟩) (Kd.R_far (p := ⟨gb1256, 1, none⟩) (Kd.R_far (p := ⟨gb1256, 0, none⟩) (Kd.R_types HO1237.out BK1256.out (by decide)) (fun _ hk => hk.2) (.bool t1241)) (fun _ hk => hk.2) (.bool t1242)) (fun _ hk => hk.2) (.slice Ao24 t1243.length co24)) (fun _ hk => hk.2) (.slice Ao25 t1246.length co25)) (fun _ hk => hk.2) (.int .i64 t1249)) (fun _ hk => hk.2) (.int .i64 t1250)) (fun _ hk => hk.2) (.int .i64 t1251)) (fun _ h_ => h_.1))) hb) (Kd.R_base ho0)) (Kd.R_base ho1)) (fun _ h_ => h_.1)); replace HO1245 := am (Kd.R_mono (Kd.R_told (Kd.R_told (Kd.R_old (by (with_reducible repeat (first | apply Kd.R_alloc | apply Kd.R_drewN | apply Kd.R_drew)); exact (Kd.R_mono (Kd.R_far (p := ⟨gb1256, 6, none⟩) (Kd.R_far (p := ⟨gb1256, 5, none⟩) (Kd.R_far (p := ⟨gb1256, 4, none⟩) (Kd.R_far (p := ⟨gb1256, 3, none⟩) (Kd.R_far (p := ⟨gb1256, 2, none⟩) (Kd.R_far (p := ⟨gb1256, 1, none⟩) (Kd.R_far (p := ⟨gb1256, 0, none⟩) (Kd.R_types HO1245.out BK1256.out (by decide)) (fun _ hk => hk.2) (.bool t1241)) (fun _ hk => hk.2) (.bool t1242)) (fun _ hk => hk.2) (.slice Ao24 t1243.length co24)) (fun _ hk => hk.2) (.slice Ao25 t1246.length co25)) (fun _ hk => hk.2) (.int .i64 t1249)) (fun _ hk => hk.2) (.int .i64 t1250)) (fun _ hk => hk.2) (.int .i64 t1251)) (fun _ h_ => h_.1))) hb) (Kd.R_base ho0)) (Kd.R_base ho1)) (fun _ h_ => h_.1)); replace HO1248 := am (Kd.R_mono (Kd.R_told (Kd.R_told (Kd.R_old (by (with_reducible repeat (first | apply Kd.R_alloc | apply Kd.R_drewN | apply Kd.R_drew)); exact (Kd.R_mono (Kd.R_far (p := ⟨gb1256, 6, none⟩) (Kd.R_far (p := ⟨gb1256, 5, none⟩) (Kd.R_far (p := ⟨gb1256, 4, none⟩) (Kd.R_far (p := ⟨gb1256, 3, none⟩) (Kd.R_far (p := ⟨gb1256, 2, none⟩) (Kd.R_far (p := ⟨gb1256, 1, none⟩) (Kd.R_far (p := ⟨gb1256, 0, none⟩) (Kd.R_types HO1248.out BK1256.out (by decide)) (fun _ hk => hk.2) (.bool t1241)) (fun _ hk => hk.2) (.bool t1242)) (fun _ hk => hk.2) (.slice Ao24 t1243.length co24)) (fun _ hk => hk.2) (.slice Ao25 t1246.length co25)) (fun _ hk => hk.2) (.int .i64 t1249)) (fun _ hk => hk.2) (.int .i64 t1250)) (fun _ hk => hk.2) (.int .i64 t1251)) (fun _ h_ => h_.1))) hb) (Kd.R_base ho0)) (Kd.R_base ho1)) (fun _ h_ => h_.1)); replace HO1254 := am (Kd.R_mono (Kd.R_told (Kd.R_told (Kd.R_old (by (with_reducible repeat (first | apply Kd.R_alloc | apply Kd.R_drewN | apply Kd.R_drew)); exact (Kd.R_mono (Kd.R_far (p := ⟨gb1256, 6, none⟩) (Kd.R_far (p := ⟨gb1256, 5, none⟩) (Kd.R_far (p := ⟨gb1256, 4, none⟩) (Kd.R_far (p := ⟨gb1256, 3, none⟩) (Kd.R_far (p := ⟨gb1256, 2, none⟩) (Kd.R_far (p := ⟨gb1256, 1, none⟩) (Kd.R_far (p := ⟨gb1256, 0, none⟩) (Kd.R_types HO1254.out BK1256.out (by decide)) (fun _ hk => hk.2) (.bool t1241)) (fun _ hk => hk.2) (.bool t1242)) (fun _ hk => hk.2) (.slice Ao24 t1243.length co24)) (fun _ hk => hk.2) (.slice Ao25 t1246.length co25)) (fun _ hk => hk.2) (.int .i64 t1249)) (fun _ hk => hk.2) (.int .i64 t1250)) (fun _ hk => hk.2) (.int .i64 t1251)) (fun _ h_ => h_.1))) hb) (Kd.R_base ho0)) (Kd.R_base ho1)) (fun _ h_ => h_.1)); replace BK1228 := am (blk_below (g := gb1228) (o := .cells #[.bool a0_0, .bool a0_1, .slice A0_2 l0_2.length c0_2, .slice A0_3 l0_3.length c0_3, .int .i64 a0_4, .int .i64 a0_5, .int .i64 a0_6] 24 (0, 0)) (by (with_reducible repeat (first | refine blk_drewN ?_ _ | refine blk_drew ?_ | refine blk_alloc ?_ _)); refine blk_far ?_ NB1228_1256.out _; (with_reducible repeat (first | refine blk_drewN ?_ _ | refine blk_drew ?_ | refine blk_alloc ?_ _)); refine blk_far ?_ NB1228_1256.out _; (with_reducible repeat (first | refine blk_drewN ?_ _ | refine blk_drew ?_ | refine blk_alloc ?_ _)); refine blk_far ?_ NB1228_1256.out _; (with_reducible repeat (first | refine blk_drewN ?_ _ | refine blk_drew ?_ | refine blk_alloc ?_ _)); refine blk_far ?_ NB1228_1256.out _; (with_reducible repeat (first | refine blk_drewN ?_ _ | refine blk_drew ?_ | refine blk_alloc ?_ _)); refine blk_far ?_ NB1228_1256.out _; (with_reducible repeat (first | refine blk_drewN ?_ _ | refine blk_drew ?_ | refine blk_alloc ?_ _)); refine blk_far ?_ NB1228_1256.out _; (with_reducible repeat (first | refine blk_drewN ?_ _ | refine blk_drew ?_ | refine blk_alloc ?_ _)); refine blk_far ?_ NB1228_1256.out _; exact pkK BK1228.out) hb); replace BK1256 := am (blk_below (g := gb1256) (o := .cells #[.bool t1241, .bool t1242, .slice Ao24 t1243.length co24, .slice Ao25 t1246.length co25, .int .i64 t1249, .int .i64 t1250, .int .i64 t1251] 27 (0, 0)) (by (with_reducible repeat (first | refine blk_drewN ?_ _ | refine blk_drew ?_ | refine blk_alloc ?_ _)); refine blk_put (cs := #[.bool t1241, .bool t1242, .slice Ao24 t1243.length co24, .slice Ao25 t1246.length co25, .int .i64 t1249, .int .i64 t1250, .int .i64 0]) ?_ 6 _ rfl; (with_reducible repeat (first | refine blk_drewN ?_ _ | refine blk_drew ?_ | refine blk_alloc ?_ _)); refine blk_put (cs := #[.bool t1241, .bool t1242, .slice Ao24 t1243.length co24, .slice Ao25 t1246.length co25, .int .i64 t1249, .int .i64 0, .int .i64 0]) ?_ 5 _ rfl; (with_reducible repeat (first | refine blk_drewN ?_ _ | refine blk_drew ?_ | refine blk_alloc ?_ _)); refine blk_put (cs := #[.bool t1241, .bool t1242, .slice Ao24 t1243.length co24, .slice Ao25 t1246.length co25, .int .i64 0, .int .i64 0, .int .i64 0]) ?_ 4 _ rfl; (with_reducible repeat (first | refine blk_drewN ?_ _ | refine blk_drew ?_ | refine blk_alloc ?_ _)); refine blk_put (cs := #[.bool t1241, .bool t1242, .slice Ao24 t1243.length co24, .slice none 0 0, .int .i64 0, .int .i64 0, .int .i64 0]) ?_ 3 _ rfl; (with_reducible repeat (first | refine blk_drewN ?_ _ | refine blk_drew ?_ | refine blk_alloc ?_ _)); refine blk_put (cs := #[.bool t1241, .bool t1242, .slice none 0 0, .slice none 0 0, .int .i64 0, .int .i64 0, .int .i64 0]) ?_ 2 _ rfl; (with_reducible repeat (first | refine blk_drewN ?_ _ | refine blk_drew ?_ | refine blk_alloc ?_ _)); refine blk_put (cs := #[.bool t1241, .bool false, .slice none 0 0, .slice none 0 0, .int .i64 0, .int .i64 0, .int .i64 0]) ?_ 1 _ rfl; (with_reducible repeat (first | refine blk_drewN ?_ _ | refine blk_drew ?_ | refine blk_alloc ?_ _)); refine blk_put (cs := #[.bool false, .bool false, .slice none 0 0, .slice none 0 0, .int .i64 0, .int .i64 0, .int .i64 0]) ?_ 0 _ rfl; exact pkK BK1256.out) hb); replace HB := am (below_step (pkW HB.out) hb); (try clear hb ho0 ho1)) | ((with_reducible refine gate_dst (N := 9) rfl ?_); refine box_event ?hg (N := 9) ?hd (cs := #[.bool false, .bool false, .slice none 0 0, .slice none 0 0, .int .i64 0, .int .i64 0, .int .i64 0]) (t := 27) ?hr ?_; (case hd => rfl); (case hg => rfl); (case hr => first | (go_simp; done) | (go_simp; rfl)); intro gb1268 hg w28 hbox hb; replace HO1234 := am (Kd.R_below (pkR HO1234.out) hb); replace HO1237 := am (Kd.R_below (pkR HO1237.out) hb); replace HO1245 := am (Kd.R_below (pkR HO1245.out) hb); replace HO1248 := am (Kd.R_below (pkR HO1248.out) hb); replace HO1254 := am (Kd.R_below (pkR HO1254.out) hb); replace HO1261 := am (Kd.R_below (pkR HO1261.out) hb); replace HO1264 := am (Kd.R_below (pkR HO1264.out) hb); have BK1268 := am (hbox); have GW1268 := am ((by rw [hg]; exact (below_size (pkW HB.out)) : w.heap.size ≤ gb1268)); have GE1268 := am ((by rw [hg]; exact (below_size (pkW HB.out)) : w.heap.size ≤ gb1268)); replace HB := am (below_step (pkW HB.out) hb); have NB1228_1268 := am ((by rw [hg]; exact Nat.ne_of_lt (blk_lt (g := gb1228) (o := .cells #[.bool a0_0, .bool a0_1, .slice A0_2 l0_2.length c0_2, .slice A0_3 l0_3.length c0_3, .int .i64 a0_4, .int .i64 a0_5, .int .i64 a0_6] 24 (0, 0)) (pkK BK1228.out)) : gb1228 ≠ gb1268)); have NB1268_1228 := am ((by rw [hg]; exact Nat.ne_of_gt (blk_lt (g := gb1228) (o := .cells #[.bool a0_0, .bool a0_1, .slice A0_2 l0_2.length c0_2, .slice A0_3 l0_3.length c0_3, .int .i64 a0_4, .int .i64 a0_5, .int .i64 a0_6] 24 (0, 0)) (pkK BK1228.out)) : gb1268 ≠ gb1228)); replace BK1228 := am (blk_below (pkK BK1228.out) hb); have NB1256_1268 := am ((by rw [hg]; exact Nat.ne_of_lt (blk_lt (g := gb1256) (o := .cells #[.bool t1241, .bool t1242, .slice Ao24 t1243.length co24, .slice Ao25 t1246.length co25, .int .i64 t1249, .int .i64 t1250, .int .i64 t1251] 27 (0, 0)) (pkK BK1256.out)) : gb1256 ≠ gb1268)); have NB1268_1256 := am ((by rw [hg]; exact Nat.ne_of_gt (blk_lt (g := gb1256) (o := .cells #[.bool t1241, .bool t1242, .slice Ao24 t1243.length co24, .slice Ao25 t1246.length co25, .int .i64 t1249, .int .i64 t1250, .int .i64 t1251] 27 (0, 0)) (pkK BK1256.out)) : gb1268 ≠ gb1256)); replace BK1256 := am (blk_below (pkK BK1256.out) hb); clear hb hbox hg; have hnb29 := NB1268_1228.out; have hnc29 := NB1228_1268.out; have hnb30 := NB1268_1256.out; have hnc30 := NB1256_1268.out; obtain ⟨hcz31_0, hcz31_1, hcz31_2, hcz31_3, hcz31_4, hcz31_5, hcz31_6, hfz31_0, hfz31_1, hfz31_2, hfz31_3, hfz31_4, hfz31_5, hfz31_6⟩ := bk7 BK1268.out; obtain ⟨Ao32, co32, eo32⟩ := Kd.R_slice HO1261.out; subst eo32; obtain ⟨Ao33, co33, eo33⟩ := Kd.R_slice HO1264.out; subst eo33) | ((with_reducible refine gate_callee (f := 42) rfl ?_); refine goesL_ (some 37) rfl rfl Try.func42 (by kernel_rfl) rfl #[.agg #[.bool t1257, .bool t1258, .slice Ao32 t1259.length co32, .slice Ao33 t1262.length co33, .int .i64 t1265, .int .i64 t1266, .int .i64 t1267], .int .i64 a1] rfl mpx ?_; (with_reducible refine (impl_StepBack.calls k t1257 t1258 _ _ t1259 _ _ t1262 t1265 t1266 t1267 a1 t1269 t1270 t1271 t1274 t1277 t1278 t1279 t1280 t1283 _ ?side1 ?side2 ?side3 ?side4 A11.out).mono ?_); (case side1 => refine (Kd.R_reads' (e := 3) (base := w.heap.size) (ok := fun k_ => (((((some k_ ≠ (.slice Ao33 t1262.length co33 : Value).ownBlock ∧ some k_ ≠ (.slice Ao18 t1232.length co18 : Value).ownBlock) ∧ some k_ ≠ (.slice Ao19 t1235.length co19 : Value).ownBlock) ∧ some k_ ≠ (.slice Ao24 t1243.length co24 : Value).ownBlock) ∧ some k_ ≠ (.slice Ao25 t1246.length co25 : Value).ownBlock) ∧ some k_ ≠ (v1253 : Value).ownBlock)) (n := t1259.length) (c := co32) ?_).2.2; exact (by (with_reducible repeat (first | apply Kd.R_alloc | apply Kd.R_drewN | apply Kd.R_drew)); exact (Kd.R_mono (Kd.R_far (p := ⟨gb1268, 6, none⟩) (Kd.R_far (p := ⟨gb1268, 5, none⟩) (Kd.R_far (p := ⟨gb1268, 4, none⟩) (Kd.R_far (p := ⟨gb1268, 3, none⟩) (Kd.R_far (p := ⟨gb1268, 2, none⟩) (Kd.R_far (p := ⟨gb1268, 1, none⟩) (Kd.R_far (p := ⟨gb1268, 0, none⟩) (Kd.R_types HO1261.out BK1268.out (by decide)) (fun _ hk => hk.2) (.bool t1257)) (fun _ hk => hk.2) (.bool t1258)) (fun _ hk => hk.2) (.slice Ao32 t1259.length co32)) (fun _ hk => hk.2) (.slice Ao33 t1262.length co33)) (fun _ hk => hk.2) (.int .i64 t1265)) (fun _ hk => hk.2) (.int .i64 t1266)) (fun _ hk => hk.2) (.int .i64 t1267)) (fun _ h_ => h_.1)))); (case side2 => exact (Kd.R_reads' HO1261.out).2.1); (case side3 => refine (Kd.R_reads' (e := 3) (base := w.heap.size) (ok := fun k_ => (((((some k_ ≠ (.slice Ao32 t1259.length co32 : Value).ownBlock ∧ some k_ ≠ (.slice Ao18 t1232.length co18 : Value).ownBlock) ∧ some k_ ≠ (.slice Ao19 t1235.length co19 : Value).ownBlock) ∧ some k_ ≠ (.slice Ao24 t1243.length co24 : Value).ownBlock) ∧ some k_ ≠ (.slice Ao25 t1246.length co25 : Value).ownBlock) ∧ some k_ ≠ (v1253 : Value).ownBlock)) (n := t1262.length) (c := co33) ?_).2.2; exact (by (with_reducible repeat (first | apply Kd.R_alloc | apply Kd.R_drewN | apply Kd.R_drew)); exact (Kd.R_mono (Kd.R_far (p := ⟨gb1268, 6, none⟩) (Kd.R_far (p := ⟨gb1268, 5, none⟩) (Kd.R_far (p := ⟨gb1268, 4, none⟩) (Kd.R_far (p := ⟨gb1268, 3, none⟩) (Kd.R_far (p := ⟨gb1268, 2, none⟩) (Kd.R_far (p := ⟨gb1268, 1, none⟩) (Kd.R_far (p := ⟨gb1268, 0, none⟩) (Kd.R_types HO1264.out BK1268.out (by decide)) (fun _ hk => hk.2) (.bool t1257)) (fun _ hk => hk.2) (.bool t1258)) (fun _ hk => hk.2) (.slice Ao32 t1259.length co32)) (fun _ hk => hk.2) (.slice Ao33 t1262.length co33)) (fun _ hk => hk.2) (.int .i64 t1265)) (fun _ hk => hk.2) (.int .i64 t1266)) (fun _ hk => hk.2) (.int .i64 t1267)) (fun _ h_ => h_.1)))); (case side4 => exact (Kd.R_reads' HO1264.out).2.1); rintro e w34 ⟨v1272, v1275, v1281, rfl, ho0, ho1, ho2, hb⟩; refine ⟨_, rfl, ?_⟩; have HO1273 := am (Kd.Q_lower (Kd.Q_new' (Kd.Q_new' (Kd.Q_new' (Kd.Q_new' (Kd.Q_new' (Kd.Q_new' (Kd.Q_new' ho0 (Kd.R_lt (by (with_reducible repeat (first | apply Kd.R_alloc | apply Kd.R_drewN | apply Kd.R_drew)); exact (Kd.R_mono (Kd.R_far (p := ⟨gb1268, 6, none⟩) (Kd.R_far (p := ⟨gb1268, 5, none⟩) (Kd.R_far (p := ⟨gb1268, 4, none⟩) (Kd.R_far (p := ⟨gb1268, 3, none⟩) (Kd.R_far (p := ⟨gb1268, 2, none⟩) (Kd.R_far (p := ⟨gb1268, 1, none⟩) (Kd.R_far (p := ⟨gb1268, 0, none⟩) (Kd.R_types HO1234.out BK1268.out (by decide)) (fun _ hk => hk.2) (.bool t1257)) (fun _ hk => hk.2) (.bool t1258)) (fun _ hk => hk.2) (.slice Ao32 t1259.length co32)) (fun _ hk => hk.2) (.slice Ao33 t1262.length co33)) (fun _ hk => hk.2) (.int .i64 t1265)) (fun _ hk => hk.2) (.int .i64 t1266)) (fun _ hk => hk.2) (.int .i64 t1267)) (fun _ h_ => h_.1))))) (Kd.R_lt (by (with_reducible repeat (first | apply Kd.R_alloc | apply Kd.R_drewN | apply Kd.R_drew)); exact (Kd.R_mono (Kd.R_far (p := ⟨gb1268, 6, none⟩) (Kd.R_far (p := ⟨gb1268, 5, none⟩) (Kd.R_far (p := ⟨gb1268, 4, none⟩) (Kd.R_far (p := ⟨gb1268, 3, none⟩) (Kd.R_far (p := ⟨gb1268, 2, none⟩) (Kd.R_far (p := ⟨gb1268, 1, none⟩) (Kd.R_far (p := ⟨gb1268, 0, none⟩) (Kd.R_types HO1237.out BK1268.out (by decide)) (fun _ hk => hk.2) (.bool t1257)) (fun _ hk => hk.2) (.bool t1258)) (fun _ hk => hk.2) (.slice Ao32 t1259.length co32)) (fun _ hk => hk.2) (.slice Ao33 t1262.length co33)) (fun _ hk => hk.2) (.int .i64 t1265)) (fun _ hk => hk.2) (.int .i64 t1266)) (fun _ hk => hk.2) (.int .i64 t1267)) (fun _ h_ => h_.1))))) (Kd.R_lt (by (with_reducible repeat (first | apply Kd.R_alloc | apply Kd.R_drewN | apply Kd.R_drew)); exact (Kd.R_mono (Kd.R_far (p := ⟨gb1268, 6, none⟩) (Kd.R_far (p := ⟨gb1268, 5, none⟩) (Kd.R_far (p := ⟨gb1268, 4, none⟩) (Kd.R_far (p := ⟨gb1268, 3, none⟩) (Kd.R_far (p := ⟨gb1268, 2, none⟩) (Kd.R_far (p := ⟨gb1268, 1, none⟩) (Kd.R_far (p := ⟨gb1268, 0, none⟩) (Kd.R_types HO1245.out BK1268.out (by decide)) (fun _ hk => hk.2) (.bool t1257)) (fun _ hk => hk.2) (.bool t1258)) (fun _ hk => hk.2) (.slice Ao32 t1259.length co32)) (fun _ hk => hk.2) (.slice Ao33 t1262.length co33)) (fun _ hk => hk.2) (.int .i64 t1265)) (fun _ hk => hk.2) (.int .i64 t1266)) (fun _ hk => hk.2) (.int .i64 t1267)) (fun _ h_ => h_.1))))) (Kd.R_lt (by (with_reducible repeat (first | apply Kd.R_alloc | apply Kd.R_drewN | apply Kd.R_drew)); exact (Kd.R_mono (Kd.R_far (p := ⟨gb1268, 6, none⟩) (Kd.R_far (p := ⟨gb1268, 5, none⟩) (Kd.R_far (p := ⟨gb1268, 4, none⟩) (Kd.R_far (p := ⟨gb1268, 3, none⟩) (Kd.R_far (p := ⟨gb1268, 2, none⟩) (Kd.R_far (p := ⟨gb1268, 1, none⟩) (Kd.R_far (p := ⟨gb1268, 0, none⟩) (Kd.R_types HO1248.out BK1268.out (by decide)) (fun _ hk => hk.2) (.bool t1257)) (fun _ hk => hk.2) (.bool t1258)) (fun _ hk => hk.2) (.slice Ao32 t1259.length co32)) (fun _ hk => hk.2) (.slice Ao33 t1262.length co33)) (fun _ hk => hk.2) (.int .i64 t1265)) (fun _ hk => hk.2) (.int .i64 t1266)) (fun _ hk => hk.2) (.int .i64 t1267)) (fun _ h_ => h_.1))))) (Kd.R_lt (by (with_reducible repeat (first | apply Kd.R_alloc | apply Kd.R_drewN | apply Kd.R_drew)); exact (Kd.R_mono (Kd.R_far (p := ⟨gb1268, 6, none⟩) (Kd.R_far (p := ⟨gb1268, 5, none⟩) (Kd.R_far (p := ⟨gb1268, 4, none⟩) (Kd.R_far (p := ⟨gb1268, 3, none⟩) (Kd.R_far (p := ⟨gb1268, 2, none⟩) (Kd.R_far (p := ⟨gb1268, 1, none⟩) (Kd.R_far (p := ⟨gb1268, 0, none⟩) (Kd.R_types HO1254.out BK1268.out (by decide)) (fun _ hk => hk.2) (.bool t1257)) (fun _ hk => hk.2) (.bool t1258)) (fun _ hk => hk.2) (.slice Ao32 t1259.length co32)) (fun _ hk => hk.2) (.slice Ao33 t1262.length co33)) (fun _ hk => hk.2) (.int .i64 t1265)) (fun _ hk => hk.2) (.int .i64 t1266)) (fun _ hk => hk.2) (.int .i64 t1267)) (fun _ h_ => h_.1))))) (Kd.R_lt (by (with_reducible repeat (first | apply Kd.R_alloc | apply Kd.R_drewN | apply Kd.R_drew)); exact (Kd.R_mono (Kd.R_far (p := ⟨gb1268, 6, none⟩) (Kd.R_far (p := ⟨gb1268, 5, none⟩) (Kd.R_far (p := ⟨gb1268, 4, none⟩) (Kd.R_far (p := ⟨gb1268, 3, none⟩) (Kd.R_far (p := ⟨gb1268, 2, none⟩) (Kd.R_far (p := ⟨gb1268, 1, none⟩) (Kd.R_far (p := ⟨gb1268, 0, none⟩) (Kd.R_types HO1261.out BK1268.out (by decide)) (fun _ hk => hk.2) (.bool t1257)) (fun _ hk => hk.2) (.bool t1258)) (fun _ hk => hk.2) (.slice Ao32 t1259.length co32)) (fun _ hk => hk.2) (.slice Ao33 t1262.length co33)) (fun _ hk => hk.2) (.int .i64 t1265)) (fun _ hk => hk.2) (.int .i64 t1266)) (fun _ hk => hk.2) (.int .i64 t1267)) (fun _ h_ => h_.1))))) (Kd.R_lt (by (with_reducible repeat (first | apply Kd.R_alloc | apply Kd.R_drewN | apply Kd.R_drew)); exact (Kd.R_mono (Kd.R_far (p := ⟨gb1268, 6, none⟩) (Kd.R_far (p := ⟨gb1268, 5, none⟩) (Kd.R_far (p := ⟨gb1268, 4, none⟩) (Kd.R_far (p := ⟨gb1268, 3, none⟩) (Kd.R_far (p := ⟨gb1268, 2, none⟩) (Kd.R_far (p := ⟨gb1268, 1, none⟩) (Kd.R_far (p := ⟨gb1268, 0, none⟩) (Kd.R_types HO1264.out BK1268.out (by decide)) (fun _ hk => hk.2) (.bool t1257)) (fun _ hk => hk.2) (.bool t1258)) (fun _ hk => hk.2) (.slice Ao32 t1259.length co32)) (fun _ hk => hk.2) (.slice Ao33 t1262.length co33)) (fun _ hk => hk.2) (.int .i64 t1265)) (fun _ hk => hk.2) (.int .i64 t1266)) (fun _ hk => hk.2) (.int .i64 t1267)) (fun _ h_ => h_.1))))) (below_size (pkW HB.out))); have HO1276 := am (Kd.R_lower (Kd.R_new' (Kd.R_new' (Kd.R_new' (Kd.R_new' (Kd.R_new' (Kd.R_new' (Kd.R_new' ho1 (Kd.R_lt (by (with_reducible repeat (first | apply Kd.R_alloc | apply Kd.R_drewN | apply Kd.R_drew)); exact (Kd.R_mono (Kd.R_far (p := ⟨gb1268, 6, none⟩) (Kd.R_far (p := ⟨gb1268, 5, none⟩) (Kd.R_far (p := ⟨gb1268, 4, none⟩) (Kd.R_far (p := ⟨gb1268, 3, none⟩) (Kd.R_far (p := ⟨gb1268, 2, none⟩) (Kd.R_far (p := ⟨gb1268, 1, none⟩) (Kd.R_far (p := ⟨gb1268, 0, none⟩) (Kd.R_types HO1234.out BK1268.out (by decide)) (fun _ hk => hk.2) (.bool t1257)) (fun _ hk => hk.2) (.bool t1258)) (fun _ hk => hk.2) (.slice Ao32 t1259.length co32)) (fun _ hk => hk.2) (.slice Ao33 t1262.length co33)) (fun _ hk => hk.2) (.int .i64 t1265)) (fun _ hk => hk.2) (.int .i64 t1266)) (fun _ hk => hk.2) (.int .i64 t1267)) (fun _ h_ => h_.1))))) (Kd.R_lt (by (with_reducible repeat (first | apply Kd.R_alloc | apply Kd.R_drewN | apply Kd.R_drew)); exact (Kd.R_mono (Kd.R_far (p := ⟨gb1268, 6, none⟩) (Kd.R_far (p := ⟨gb1268, 5, none⟩) (Kd.R_far (p := ⟨gb1268, 4, none⟩) (Kd.R_far (p := ⟨gb1268, 3, none⟩) (Kd.R_far (p := ⟨gb1268, 2, none⟩) (Kd.R_far (p := ⟨gb1268, 1, none⟩) (Kd.R_far (p := ⟨gb1268, 0, none⟩) (Kd.R_types HO1237.out BK1268.out (by decide)) (fun _ hk => hk.2) (.bool t1257)) (fun _ hk => hk.2) (.bool t1258)) (fun _ hk => hk.2) (.slice Ao32 t1259.length co32)) (fun _ hk => hk.2) (.slice Ao33 t1262.length co33)) (fun _ hk => hk.2) (.int .i64 t1265)) (fun _ hk => hk.2) (.int .i64 t1266)) (fun _ hk => hk.2) (.int .i64 t1267)) (fun _ h_ => h_.1))))) (Kd.R_lt (by (with_reducible repeat (first | apply Kd.R_alloc | apply Kd.R_drewN | apply Kd.R_drew)); exact (Kd.R_mono (Kd.R_far (p := ⟨gb1268, 6, none⟩) (Kd.R_far (p := ⟨gb1268, 5, none⟩) (Kd.R_far (p := ⟨gb1268, 4, none⟩) (Kd.R_far (p := ⟨gb1268, 3, none⟩) (Kd.R_far (p := ⟨gb1268, 2, none⟩) (Kd.R_far (p := ⟨gb1268, 1, none⟩) (Kd.R_far (p := ⟨gb1268, 0, none⟩) (Kd.R_types HO1245.out BK1268.out (by decide)) (fun _ hk => hk.2) (.bool t1257)) (fun _ hk => hk.2) (.bool t1258)) (fun _ hk => hk.2) (.slice Ao32 t1259.length co32)) (fun _ hk => hk.2) (.slice Ao33 t1262.length co33)) (fun _ hk => hk.2) (.int .i64 t1265)) (fun _ hk => hk.2) (.int .i64 t1266)) (fun _ hk => hk.2) (.int .i64 t1267)) (fun _ h_ => h_.1))))) (Kd.R_lt (by (with_reducible repeat (first | apply Kd.R_alloc | apply Kd.R_drewN | apply Kd.R_drew)); exact (Kd.R_mono (Kd.R_far (p := ⟨gb1268, 6, none⟩) (Kd.R_far (p := ⟨gb1268, 5, none⟩) (Kd.R_far (p := ⟨gb1268, 4, none⟩) (Kd.R_far (p := ⟨gb1268, 3, none⟩) (Kd.R_far (p := ⟨gb1268, 2, none⟩) (Kd.R_far (p := ⟨gb1268, 1, none⟩) (Kd.R_far (p := ⟨gb1268, 0, none⟩) (Kd.R_types HO1248.out BK1268.out (by decide)) (fun _ hk => hk.2) (.bool t1257)) (fun _ hk => hk.2) (.bool t1258)) (fun _ hk => hk.2) (.slice Ao32 t1259.length co32)) (fun _ hk => hk.2) (.slice Ao33 t1262.length co33)) (fun _ hk => hk.2) (.int .i64 t1265)) (fun _ hk => hk.2) (.int .i64 t1266)) (fun _ hk => hk.2) (.int .i64 t1267)) (fun _ h_ => h_.1))))) (Kd.R_lt (by (with_reducible repeat (first | apply Kd.R_alloc | apply Kd.R_drewN | apply Kd.R_drew)); exact (Kd.R_mono (Kd.R_far (p := ⟨gb1268, 6, none⟩) (Kd.R_far (p := ⟨gb1268, 5, none⟩) (Kd.R_far (p := ⟨gb1268, 4, none⟩) (Kd.R_far (p := ⟨gb1268, 3, none⟩) (Kd.R_far (p := ⟨gb1268, 2, none⟩) (Kd.R_far (p := ⟨gb1268, 1, none⟩) (Kd.R_far (p := ⟨gb1268, 0, none⟩) (Kd.R_types HO1254.out BK1268.out (by decide)) (fun _ hk => hk.2) (.bool t1257)) (fun _ hk => hk.2) (.bool t1258)) (fun _ hk => hk.2) (.slice Ao32 t1259.length co32)) (fun _ hk => hk.2) (.slice Ao33 t1262.length co33)) (fun _ hk => hk.2) (.int .i64 t1265)) (fun _ hk => hk.2) (.int .i64 t1266)) (fun _ hk => hk.2) (.int .i64 t1267)) (fun _ h_ => h_.1))))) (Kd.R_lt (by (with_reducible repeat (first | apply Kd.R_alloc | apply Kd.R_drewN | apply Kd.R_drew)); exact (Kd.R_mono (Kd.R_far (p := ⟨gb1268, 6, none⟩) (Kd.R_far (p := ⟨gb1268, 5, none⟩) (Kd.R_far (p := ⟨gb1268, 4, none⟩) (Kd.R_far (p := ⟨gb1268, 3, none⟩) (Kd.R_far (p := ⟨gb1268, 2, none⟩) (Kd.R_far (p := ⟨gb1268, 1, none⟩) (Kd.R_far (p := ⟨gb1268, 0, none⟩) (Kd.R_types HO1261.out BK1268.out (by decide)) (fun _ hk => hk.2) (.bool t1257)) (fun _ hk => hk.2) (.bool t1258)) (fun _ hk => hk.2) (.slice Ao32 t1259.length co32)) (fun _ hk => hk.2) (.slice Ao33 t1262.length co33)) (fun _ hk => hk.2) (.int .i64 t1265)) (fun _ hk => hk.2) (.int .i64 t1266)) (fun _ hk => hk.2) (.int .i64 t1267)) (fun _ h_ => h_.1))))) (Kd.R_lt (by (with_reducible repeat (first | apply Kd.R_alloc | apply Kd.R_drewN | apply Kd.R_drew)); exact (Kd.R_mono (Kd.R_far (p := ⟨gb1268, 6, none⟩) (Kd.R_far (p := ⟨gb1268, 5, none⟩) (Kd.R_far (p := ⟨gb1268, 4, none⟩) (Kd.R_far (p := ⟨gb1268, 3, none⟩) (Kd.R_far (p := ⟨gb1268, 2, none⟩) (Kd.R_far (p := ⟨gb1268, 1, none⟩) (Kd.R_far (p := ⟨gb1268, 0, none⟩) (Kd.R_types HO1264.out BK1268.out (by decide)) (fun _ hk => hk.2) (.bool t1257)) (fun _ hk => hk.2) (.bool t1258)) (fun _ hk => hk.2) (.slice Ao32 t1259.length co32)) (fun _ hk => hk.2) (.slice Ao33 t1262.length co33)) (fun _ hk => hk.2) (.int .i64 t1265)) (fun _ hk => hk.2) (.int .i64 t1266)) (fun _ hk => hk.2) (.int .i64 t1267)) (fun _ h_ => h_.1))))) (below_size (pkW HB.out))); have HO1282 := am (Kd.R_lower (Kd.R_new' (Kd.R_new' (Kd.R_new' (Kd.R_new' (Kd.R_new' (Kd.R_new' (Kd.R_new' ho2 (Kd.R_lt (by (with_reducible repeat (first | apply Kd.R_alloc | apply Kd.R_drewN | apply Kd.R_drew)); exact (Kd.R_mono (Kd.R_far (p := ⟨gb1268, 6, none⟩) (Kd.R_far (p := ⟨gb1268, 5, none⟩) (Kd.R_far (p := ⟨gb1268, 4, none⟩) (Kd.R_far (p := ⟨gb1268, 3, none⟩) (Kd.R_far (p := ⟨gb1268, 2, none⟩) (Kd.R_far (p := ⟨gb1268, 1, none⟩) (Kd.R_far (p := ⟨gb1268, 0, none⟩) (Kd.R_types HO1234.out BK1268.out (by decide)) (fun _ hk => hk.2) (.bool t1257)) (fun _ hk => hk.2) (.bool t1258)) (fun _ hk => hk.2) (.slice Ao32 t1259.length co32)) (fun _ hk => hk.2) (.slice Ao33 t1262.length co33)) (fun _ hk => hk.2) (.int .i64 t1265)) (fun _ hk => hk.2) (.int .i64 t1266)) (fun _ hk => hk.2) (.int .i64 t1267)) (fun _ h_ => h_.1))))) (Kd.R_lt (by (with_reducible repeat (first | apply Kd.R_alloc | apply Kd.R_drewN | apply Kd.R_drew)); exact (Kd.R_mono (Kd.R_far (p := ⟨gb1268, 6, none⟩) (Kd.R_far (p := ⟨gb1268, 5, none⟩) (Kd.R_far (p := ⟨gb1268, 4, none⟩) (Kd.R_far (p := ⟨gb1268, 3, none⟩) (Kd.R_far (p := ⟨gb1268, 2, none⟩) (Kd.R_far (p := ⟨gb1268, 1, none⟩) (Kd.R_far (p := ⟨gb1268, 0, none⟩) (Kd.R_types HO1237.out BK1268.out (by decide)) (fun _ hk => hk.2) (.bool t1257)) (fun _ hk => hk.2) (.bool t1258)) (fun _ hk => hk.2) (.slice Ao32 t1259.length co32)) (fun _ hk => hk.2) (.slice Ao33 t1262.length co33)) (fun _ hk => hk.2) (.int .i64 t1265)) (fun _ hk => hk.2) (.int .i64 t1266)) (fun _ hk => hk.2) (.int .i64 t1267)) (fun _ h_ => h_.1))))) (Kd.R_lt (by (with_reducible repeat (first | apply Kd.R_alloc | apply Kd.R_drewN | apply Kd.R_drew)); exact (Kd.R_mono (Kd.R_far (p := ⟨gb1268, 6, none⟩) (Kd.R_far (p := ⟨gb1268, 5, none⟩) (Kd.R_far (p := ⟨gb1268, 4, none⟩) (Kd.R_far (p := ⟨gb1268, 3, none⟩) (Kd.R_far (p := ⟨gb1268, 2, none⟩) (Kd.R_far (p := ⟨gb1268, 1, none⟩) (Kd.R_far (p := ⟨gb1268, 0, none⟩) (Kd.R_types HO1245.out BK1268.out (by decide)) (fun _ hk => hk.2) (.bool t1257)) (fun _ hk => hk.2) (.bool t1258)) (fun _ hk => hk.2) (.slice Ao32 t1259.length co32)) (fun _ hk => hk.2) (.slice Ao33 t1262.length co33)) (fun _ hk => hk.2) (.int .i64 t1265)) (fun _ hk => hk.2) (.int .i64 t1266)) (fun _ hk => hk.2) (.int .i64 t1267)) (fun _ h_ => h_.1))))) (Kd.R_lt (by (with_reducible repeat (first | apply Kd.R_alloc | apply Kd.R_drewN | apply Kd.R_drew)); exact (Kd.R_mono (Kd.R_far (p := ⟨gb1268, 6, none⟩) (Kd.R_far (p := ⟨gb1268, 5, none⟩) (Kd.R_far (p := ⟨gb1268, 4, none⟩) (Kd.R_far (p := ⟨gb1268, 3, none⟩) (Kd.R_far (p := ⟨gb1268, 2, none⟩) (Kd.R_far (p := ⟨gb1268, 1, none⟩) (Kd.R_far (p := ⟨gb1268, 0, none⟩) (Kd.R_types HO1248.out BK1268.out (by decide)) (fun _ hk => hk.2) (.bool t1257)) (fun _ hk => hk.2) (.bool t1258)) (fun _ hk => hk.2) (.slice Ao32 t1259.length co32)) (fun _ hk => hk.2) (.slice Ao33 t1262.length co33)) (fun _ hk => hk.2) (.int .i64 t1265)) (fun _ hk => hk.2) (.int .i64 t1266)) (fun _ hk => hk.2) (.int .i64 t1267)) (fun _ h_ => h_.1))))) (Kd.R_lt (by (with_reducible repeat (first | apply Kd.R_alloc | apply Kd.R_drewN | apply Kd.R_drew)); exact (Kd.R_mono (Kd.R_far (p := ⟨gb1268, 6, none⟩) (Kd.R_far (p := ⟨gb1268, 5, none⟩) (Kd.R_far (p := ⟨gb1268, 4, none⟩) (Kd.R_far (p := ⟨gb1268, 3, none⟩) (Kd.R_far (p := ⟨gb1268, 2, none⟩) (Kd.R_far (p := ⟨gb1268, 1, none⟩) (Kd.R_far (p := ⟨gb1268, 0, none⟩) (Kd.R_types HO1254.out BK1268.out (by decide)) (fun _ hk => hk.2) (.bool t1257)) (fun _ hk => hk.2) (.bool t1258)) (fun _ hk => hk.2) (.slice Ao32 t1259.length co32)) (fun _ hk => hk.2) (.slice Ao33 t1262.length co33)) (fun _ hk => hk.2) (.int .i64 t1265)) (fun _ hk => hk.2) (.int .i64 t1266)) (fun _ hk => hk.2) (.int .i64 t1267)) (fun _ h_ => h_.1))))) (Kd.R_lt (by (with_reducible repeat (first | apply Kd.R_alloc | apply Kd.R_drewN | apply Kd.R_drew)); exact (Kd.R_mono (Kd.R_far (p := ⟨gb1268, 6, none⟩) (Kd.R_far (p := ⟨gb1268, 5, none⟩) (Kd.R_far (p := ⟨gb1268, 4, none⟩) (Kd.R_far (p := ⟨gb1268, 3, none⟩) (Kd.R_far (p := ⟨gb1268, 2, none⟩) (Kd.R_far (p := ⟨gb1268, 1, none⟩) (Kd.R_far (p := ⟨gb1268, 0, none⟩) (Kd.R_types HO1261.out BK1268.out (by decide)) (fun _ hk => hk.2) (.bool t1257)) (fun _ hk => hk.2) (.bool t1258)) (fun _ hk => hk.2) (.slice Ao32 t1259.length co32)) (fun _ hk => hk.2) (.slice Ao33 t1262.length co33)) (fun _ hk => hk.2) (.int .i64 t1265)) (fun _ hk => hk.2) (.int .i64 t1266)) (fun _ hk => hk.2) (.int .i64 t1267)) (fun _ h_ => h_.1))))) (Kd.R_lt (by (with_reducible repeat (first | apply Kd.R_alloc | apply Kd.R_drewN | apply Kd.R_drew)); exact (Kd.R_mono (Kd.R_far (p := ⟨gb1268, 6, none⟩) (Kd.R_far (p := ⟨gb1268, 5, none⟩) (Kd.R_far (p := ⟨gb1268, 4, none⟩) (Kd.R_far (p := ⟨gb1268, 3, none⟩) (Kd.R_far (p := ⟨gb1268, 2, none⟩) (Kd.R_far (p := ⟨gb1268, 1, none⟩) (Kd.R_far (p := ⟨gb1268, 0, none⟩) (Kd.R_types HO1264.out BK1268.out (by decide)) (fun _ hk => hk.2) (.bool t1257)) (fun _ hk => hk.2) (.bool t1258)) (fun _ hk => hk.2) (.slice Ao32 t1259.length co32)) (fun _ hk => hk.2) (.slice Ao33 t1262.length co33)) (fun _ hk => hk.2) (.int .i64 t1265)) (fun _ hk => hk.2) (.int .i64 t1266)) (fun _ hk => hk.2) (.int .i64 t1267)) (fun _ h_ => h_.1))))) (below_size (pkW HB.out))); replace HO1234 := am (Kd.R_mono (Kd.R_told (Kd.R_told (Kd.R_told (Kd.R_old (by (with_reducible repeat (first | apply Kd.R_alloc | apply Kd.R_drewN | apply Kd.R_drew)); exact (Kd.R_mono (Kd.R_far (p := ⟨gb1268, 6, none⟩) (Kd.R_far (p := ⟨gb1268, 5, none⟩) (Kd.R_far (p := ⟨gb1268, 4, none⟩) (Kd.R_far (p := ⟨gb1268, 3, none⟩) (Kd.R_far (p := ⟨gb1268, 2, none⟩) (Kd.R_far (p := ⟨gb1268, 1, none⟩) (Kd.R_far (p := ⟨gb1268, 0, none⟩) (Kd.R_types HO1234.out BK1268.out (by decide)) (fun _ hk => hk.2) (.bool t1257)) (fun _ hk => hk.2) (.bool t1258)) (fun _ hk => hk.2) (.slice Ao32 t1259.length co32)) (fun _ hk => hk.2) (.slice Ao33 t1262.length co33)) (fun _ hk => hk.2) (.int .i64 t1265)) (fun _ hk => hk.2) (.int .i64 t1266)) (fun _ hk => hk.2) (.int .i64 t1267)) (fun _ h_ => h_.1))) hb) (Kd.Q_base ho0)) (Kd.R_base ho1)) (Kd.R_base ho2)) (fun _ h_ => h_.1)); replace HO1237 := am (Kd.R_mono (Kd.R_told (Kd.R_told (Kd.R_told (Kd.R_old (by (with_reducible repeat (first | apply Kd.R_alloc | apply Kd.R_drewN | apply Kd.R_drew)); exact (Kd.R_mono (Kd.R_far (p := ⟨gb1268, 6, none⟩) (Kd.R_far (p := ⟨gb1268, 5, none⟩) (Kd.R_far (p := ⟨gb1268, 4, none⟩) (Kd.R_far (p := ⟨gb1268, 3, none⟩) (Kd.R_far (p := ⟨gb1268, 2, none⟩) (Kd.R_far (p := ⟨gb1268, 1, none⟩) (Kd.R_far (p := ⟨gb1268, 0, none⟩) (Kd.R_types HO1237.out BK1268.out (by decide)) (fun _ hk => hk.2) (.bool t1257)) (fun _ hk => hk.2) (.bool t1258)) (fun _ hk => hk.2) (.slice Ao32 t1259.length co32)) (fun _ hk => hk.2) (.slice Ao33 t1262.length co33)) (fun _ hk => hk.2) (.int .i64 t1265)) (fun _ hk => hk.2) (.int .i64 t1266)) (fun _ hk => hk.2) (.int .i64 t1267)) (fun _ h_ => h_.1))) hb) (Kd.Q_base ho0)) (Kd.R_base ho1)) (Kd.R_base ho2)) (fun _ h_ => h_.1)); replace HO1245 := am (Kd.R_mono (Kd.R_told (Kd.R_told (Kd.R_told (Kd.R_old (by (with_reducible repeat (first | apply Kd.R_alloc | apply Kd.R_drewN | apply Kd.R_drew)); exact (Kd.R_mono (Kd.R_far (p := ⟨gb1268, 6, none⟩) (Kd.R_far (p := ⟨gb1268, 5, none⟩) (Kd.R_far (p := ⟨gb1268, 4, none⟩) (Kd.R_far (p := ⟨gb1268, 3, none⟩) (Kd.R_far (p := ⟨gb1268, 2, none⟩) (Kd.R_far (p := ⟨gb1268, 1, none⟩) (Kd.R_far (p := ⟨gb1268, 0, none⟩) (Kd.R_types HO1245.out BK1268.out (by decide)) (fun _ hk => hk.2) (.bool t1257)) (fun _ hk => hk.2) (.bool t1258)) (fun _ hk => hk.2) (.slice Ao32 t1259.length co32)) (fun _ hk => hk.2) (.slice Ao33 t1262.length co33)) (fun _ hk => hk.2) (.int .i64 t1265)) (fun _ hk => hk.2) (.int .i64 t1266)) (fun _ hk => hk.2) (.int .i64 t1267)) (fun _ h_ => h_.1))) hb) (Kd.Q_base ho0)) (Kd.R_base ho1)) (Kd.R_base ho2)) (fun _ h_ => h_.1)); replace HO1248 := am (Kd.R_mono (Kd.R_told (Kd.R_told (Kd.R_told (Kd.R_old (by (with_reducible repeat (first | apply Kd.R_alloc | apply Kd.R_drewN | apply Kd.R_drew)); exact (Kd.R_mono (Kd.R_far (p := ⟨gb1268, 6, none⟩) (Kd.R_far (p := ⟨gb1268, 5, none⟩) (Kd.R_far (p := ⟨gb1268, 4, none⟩) (Kd.R_far (p := ⟨gb1268, 3, none⟩) (Kd.R_far (p := ⟨gb1268, 2, none⟩) (Kd.R_far (p := ⟨gb1268, 1, none⟩) (Kd.R_far (p := ⟨gb1268, 0, none⟩) (Kd.R_types HO1248.out BK1268.out (by decide)) (fun _ hk => hk.2) (.bool t1257)) (fun _ hk => hk.2) (.bool t1258)) (fun _ hk => hk.2) (.slice Ao32 t1259.length co32)) (fun _ hk => hk.2) (.slice Ao33 t1262.length co33)) (fun _ hk => hk.2) (.int .i64 t1265)) (fun _ hk => hk.2) (.int .i64 t1266)) (fun _ hk => hk.2) (.int .i64 t1267)) (fun _ h_ => h_.1))) hb) (Kd.Q_base ho0)) (Kd.R_base ho1)) (Kd.R_base ho2)) (fun _ h_ => h_.1)); replace HO1254 := am (Kd.R_mono (Kd.R_told (Kd.R_told (Kd.R_told (Kd.R_old (by (with_reducible repeat (first | apply Kd.R_alloc | apply Kd.R_drewN | apply Kd.R_drew)); exact (Kd.R_mono (Kd.R_far (p := ⟨gb1268, 6, none⟩) (Kd.R_far (p := ⟨gb1268, 5, none⟩) (Kd.R_far (p := ⟨gb1268, 4, none⟩) (Kd.R_far (p := ⟨gb1268, 3, none⟩) (Kd.R_far (p := ⟨gb1268, 2, none⟩) (Kd.R_far (p := ⟨gb1268, 1, none⟩) (Kd.R_far (p := ⟨gb1268, 0, none⟩) (Kd.R_types HO1254.out BK1268.out (by decide)) (fun _ hk => hk.2) (.bool t1257)) (fun _ hk => hk.2) (.bool t1258)) (fun _ hk => hk.2) (.slice Ao32 t1259.length co32)) (fun _ hk => hk.2) (.slice Ao33 t1262.length co33)) (fun _ hk => hk.2) (.int .i64 t1265)) (fun _ hk => hk.2) (.int .i64 t1266)) (fun _ hk => hk.2) (.int .i64 t1267)) (fun _ h_ => h_.1))) hb) (Kd.Q_base ho0)) (Kd.R_base ho1)) (Kd.R_base ho2)) (fun _ h_ => h_.1)); replace HO1261 := am (Kd.R_mono (Kd.R_told (Kd.R_told (Kd.R_told (Kd.R_old (by (with_reducible repeat (first | apply Kd.R_alloc | apply Kd.R_drewN | apply Kd.R_drew)); exact (Kd.R_mono (Kd.R_far (p := ⟨gb1268, 6, none⟩) (Kd.R_far (p := ⟨gb1268, 5, none⟩) (Kd.R_far (p := ⟨gb1268, 4, none⟩) (Kd.R_far (p := ⟨gb1268, 3, none⟩) (Kd.R_far (p := ⟨gb1268, 2, none⟩) (Kd.R_far (p := ⟨gb1268, 1, none⟩) (Kd.R_far (p := ⟨gb1268, 0, none⟩) (Kd.R_types HO1261.out BK1268.out (by decide)) (fun _ hk => hk.2) (.bool t1257)) (fun _ hk => hk.2) (.bool t1258)) (fun _ hk => hk.2) (.slice Ao32 t1259.length co32)) (fun _ hk => hk.2) (.slice Ao33 t1262.length co33)) (fun _ hk => hk.2) (.int .i64 t1265)) (fun _ hk => hk.2) (.int .i64 t1266)) (fun _ hk => hk.2) (.int .i64 t1267)) (fun _ h_ => h_.1))) hb) (Kd.Q_base ho0)) (Kd.R_base ho1)) (Kd.R_base ho2)) (fun _ h_ => h_.1)); replace HO1264 := am (Kd.R_mono (Kd.R_told (Kd.R_told (Kd.R_told (Kd.R_old (by (with_reducible repeat (first | apply Kd.R_alloc | apply Kd.R_drewN | apply Kd.R_drew)); exact (Kd.R_mono (Kd.R_far (p := ⟨gb1268, 6, none⟩) (Kd.R_far (p := ⟨gb1268, 5, none⟩) (Kd.R_far (p := ⟨gb1268, 4, none⟩) (Kd.R_far (p := ⟨gb1268, 3, none⟩) (Kd.R_far (p := ⟨gb1268, 2, none⟩) (Kd.R_far (p := ⟨gb1268, 1, none⟩) (Kd.R_far (p := ⟨gb1268, 0, none⟩) (Kd.R_types HO1264.out BK1268.out (by decide)) (fun _ hk => hk.2) (.bool t1257)) (fun _ hk => hk.2) (.bool t1258)) (fun _ hk => hk.2) (.slice Ao32 t1259.length co32)) (fun _ hk => hk.2) (.slice Ao33 t1262.length co33)) (fun _ hk => hk.2) (.int .i64 t1265)) (fun _ hk => hk.2) (.int .i64 t1266)) (fun _ hk => hk.2) (.int .i64 t1267)) (fun _ h_ => h_.1))) hb) (Kd.Q_base ho0)) (Kd.R_base ho1)) (Kd.R_base ho2)) (fun _ h_ => h_.1)); replace BK1228 := am (blk_below (g := gb1228) (o := .cells #[.bool a0_0, .bool a0_1, .slice A0_2 l0_2.length c0_2, .slice A0_3 l0_3.length c0_3, .int .i64 a0_4, .int .i64 a0_5, .int .i64 a0_6] 24 (0, 0)) (by (with_reducible repeat (first | refine blk_drewN ?_ _ | refine blk_drew ?_ | refine blk_alloc ?_ _)); refine blk_far ?_ NB1228_1268.out _; (with_reducible repeat (first | refine blk_drewN ?_ _ | refine blk_drew ?_ | refine blk_alloc ?_ _)); refine blk_far ?_ NB1228_1268.out _; (with_reducible repeat (first | refine blk_drewN ?_ _ | refine blk_drew ?_ | refine blk_alloc ?_ _)); refine blk_far ?_ NB1228_1268.out _; (with_reducible repeat (first | refine blk_drewN ?_ _ | refine blk_drew ?_ | refine blk_alloc ?_ _)); refine blk_far ?_ NB1228_1268.out _; (with_reducible repeat (first | refine blk_drewN ?_ _ | refine blk_drew ?_ | refine blk_alloc ?_ _)); refine blk_far ?_ NB1228_1268.out _; (with_reducible repeat (first | refine blk_drewN ?_ _ | refine blk_drew ?_ | refine blk_alloc ?_ _)); refine blk_far ?_ NB1228_1268.out _; (with_reducible repeat (first | refine blk_drewN ?_ _ | refine blk_drew ?_ | refine blk_alloc ?_ _)); refine blk_far ?_ NB1228_1268.out _; exact pkK BK1228.out) hb); replace BK1256 := am (blk_below (g := gb1256) (o := .cells #[.bool t1241, .bool t1242, .slice Ao24 t1243.length co24, .slice Ao25 t1246.length co25, .int .i64 t1249, .int .i64 t1250, .int .i64 t1251] 27 (0, 0)) (by (with_reducible repeat (first | refine blk_drewN ?_ _ | refine blk_drew ?_ | refine blk_alloc ?_ _)); refine blk_far ?_ NB1256_1268.out _; (with_reducible repeat (first | refine blk_drewN ?_ _ | refine blk_drew ?_ | refine blk_alloc ?_ _)); refine blk_far ?_ NB1256_1268.out _; (with_reducible repeat (first | refine blk_drewN ?_ _ | refine blk_drew ?_ | refine blk_alloc ?_ _)); refine blk_far ?_ NB1256_1268.out _; (with_reducible repeat (first | refine blk_drewN ?_ _ | refine blk_drew ?_ | refine blk_alloc ?_ _)); refine blk_far ?_ NB1256_1268.out _; (with_reducible repeat (first | refine blk_drewN ?_ _ | refine blk_drew ?_ | refine blk_alloc ?_ _)); refine blk_far ?_ NB1256_1268.out _; (with_reducible repeat (first | refine blk_drewN ?_ _ | refine blk_drew ?_ | refine blk_alloc ?_ _)); refine blk_far ?_ NB1256_1268.out _; (with_reducible repeat (first | refine blk_drewN ?_ _ | refine blk_drew ?_ | refine blk_alloc ?_ _)); refine blk_far ?_ NB1256_1268.out _; exact pkK BK1256.out) hb); replace BK1268 := am (blk_below (g := gb1268) (o := .cells #[.bool t1257, .bool t1258, .slice Ao32 t1259.length co32, .slice Ao33 t1262.length co33, .int .i64 t1265, .int .i64 t1266, .int .i64 t1267] 27 (0, 0)) (by (with_reducible repeat (first | refine blk_drewN ?_ _ | refine blk_drew ?_ | refine blk_alloc ?_ _)); refine blk_put (cs := #[.bool t1257, .bool t1258, .slice Ao32 t1259.length co32, .slice Ao33 t1262.length co33, .int .i64 t1265, .int .i64 t1266, .int .i64 0]) ?_ 6 _ rfl; (with_reducible repeat (first | refine blk_drewN ?_ _ | refine blk_drew ?_ | refine blk_alloc ?_ _)); refine blk_put (cs := #[.bool t1257, .bool t1258, .slice Ao32 t1259.length co32, .slice Ao33 t1262.length co33, .int .i64 t1265, .int .i64 0, .int .i64 0]) ?_ 5 _ rfl; (with_reducible repeat (first | refine blk_drewN ?_ _ | refine blk_drew ?_ | refine blk_alloc ?_ _)); refine blk_put (cs := #[.bool t1257, .bool t1258, .slice Ao32 t1259.length co32, .slice Ao33 t1262.length co33, .int .i64 0, .int .i64 0, .int .i64 0]) ?_ 4 _ rfl; (with_reducible repeat (first | refine blk_drewN ?_ _ | refine blk_drew ?_ | refine blk_alloc ?_ _)); refine blk_put (cs := #[.bool t1257, .bool t1258, .slice Ao32 t1259.length co32, .slice none 0 0, .int .i64 0, .int .i64 0, .int .i64 0]) ?_ 3 _ rfl; (with_reducible repeat (first | refine blk_drewN ?_ _ | refine blk_drew ?_ | refine blk_alloc ?_ _)); refine blk_put (cs := #[.bool t1257, .bool t1258, .slice none 0 0, .slice none 0 0, .int .i64 0, .int .i64 0, .int .i64 0]) ?_ 2 _ rfl; (with_reducible repeat (first | refine blk_drewN ?_ _ | refine blk_drew ?_ | refine blk_alloc ?_ _)); refine blk_put (cs := #[.bool t1257, .bool false, .slice none 0 0, .slice none 0 0, .int .i64 0, .int .i64 0, .int .i64 0]) ?_ 1 _ rfl; (with_reducible repeat (first | refine blk_drewN ?_ _ | refine blk_drew ?_ | refine blk_alloc ?_ _)); refine blk_put (cs := #[.bool false, .bool false, .slice none 0 0, .slice none 0 0, .int .i64 0, .int .i64 0, .int .i64 0]) ?_ 0 _ rfl; exact pkK BK1268.out) hb); replace HB := am (below_step (pkW HB.out) hb); (try clear hb ho0 ho1 ho2)) | ((with_reducible refine gate_dst (N := 10) rfl ?_); refine box_event ?hg (N := 10) ?hd (cs := #[.bool false, .bool false, .slice none 0 0, .slice none 0 0, .int .i64 0, .int .i64 0, .int .i64 0]) (t := 27) ?hr ?_; (case hd => rfl); (case hg => rfl); (case hr => first | (go_simp; done) | (go_simp; rfl)); intro gb1284 hg w35 hbox hb; replace HO1234 := am (Kd.R_below (pkR HO1234.out) hb); replace HO1237 := am (Kd.R_below (pkR HO1237.out) hb); replace HO1245 := am (Kd.R_below (pkR HO1245.out) hb); replace HO1248 := am (Kd.R_below (pkR HO1248.out) hb); replace HO1254 := am (Kd.R_below (pkR HO1254.out) hb); replace HO1261 := am (Kd.R_below (pkR HO1261.out) hb); replace HO1264 := am (Kd.R_below (pkR HO1264.out) hb); replace HO1273 := am (Kd.Q_below (pkQ HO1273.out) hb); replace HO1276 := am (Kd.R_below (pkR HO1276.out) hb); replace HO1282 := am (Kd.R_below (pkR HO1282.out) hb); have BK1284 := am (hbox); have GW1284 := am ((by rw [hg]; exact (below_size (pkW HB.out)) : w.heap.size ≤ gb1284)); have GE1284 := am ((by rw [hg]; exact (below_size (pkW HB.out)) : w.heap.size ≤ gb1284)); replace HB := am (below_step (pkW HB.out) hb); have NB1228_1284 := am ((by rw [hg]; exact Nat.ne_of_lt (blk_lt (g := gb1228) (o := .cells #[.bool a0_0, .bool a0_1, .slice A0_2 l0_2.length c0_2, .slice A0_3 l0_3.length c0_3, .int .i64 a0_4, .int .i64 a0_5, .int .i64 a0_6] 24 (0, 0)) (pkK BK1228.out)) : gb1228 ≠ gb1284)); have NB1284_1228 := am ((by rw [hg]; exact Nat.ne_of_gt (blk_lt (g := gb1228) (o := .cells #[.bool a0_0, .bool a0_1, .slice A0_2 l0_2.length c0_2, .slice A0_3 l0_3.length c0_3, .int .i64 a0_4, .int .i64 a0_5, .int .i64 a0_6] 24 (0, 0)) (pkK BK1228.out)) : gb1284 ≠ gb1228)); replace BK1228 := am (blk_below (pkK BK1228.out) hb); have NB1256_1284 := am ((by rw [hg]; exact Nat.ne_of_lt (blk_lt (g := gb1256) (o := .cells #[.bool t1241, .bool t1242, .slice Ao24 t1243.length co24, .slice Ao25 t1246.length co25, .int .i64 t1249, .int .i64 t1250, .int .i64 t1251] 27 (0, 0)) (pkK BK1256.out)) : gb1256 ≠ gb1284)); have NB1284_1256 := am ((by rw [hg]; exact Nat.ne_of_gt (blk_lt (g := gb1256) (o := .cells #[.bool t1241, .bool t1242, .slice Ao24 t1243.length co24, .slice Ao25 t1246.length co25, .int .i64 t1249, .int .i64 t1250, .int .i64 t1251] 27 (0, 0)) (pkK BK1256.out)) : gb1284 ≠ gb1256)); replace BK1256 := am (blk_below (pkK BK1256.out) hb); have NB1268_1284 := am ((by rw [hg]; exact Nat.ne_of_lt (blk_lt (g := gb1268) (o := .cells #[.bool t1257, .bool t1258, .slice Ao32 t1259.length co32, .slice Ao33 t1262.length co33, .int .i64 t1265, .int .i64 t1266, .int .i64 t1267] 27 (0, 0)) (pkK BK1268.out)) : gb1268 ≠ gb1284)); have NB1284_1268 := am ((by rw [hg]; exact Nat.ne_of_gt (blk_lt (g := gb1268) (o := .cells #[.bool t1257, .bool t1258, .slice Ao32 t1259.length co32, .slice Ao33 t1262.length co33, .int .i64 t1265, .int .i64 t1266, .int .i64 t1267] 27 (0, 0)) (pkK BK1268.out)) : gb1284 ≠ gb1268)); replace BK1268 := am (blk_below (pkK BK1268.out) hb); clear hb hbox hg; have hnb36 := NB1284_1228.out; have hnc36 := NB1228_1284.out; have hnb37 := NB1284_1256.out; have hnc37 := NB1256_1284.out; have hnb38 := NB1284_1268.out; have hnc38 := NB1268_1284.out; obtain ⟨hcz39_0, hcz39_1, hcz39_2, hcz39_3, hcz39_4, hcz39_5, hcz39_6, hfz39_0, hfz39_1, hfz39_2, hfz39_3, hfz39_4, hfz39_5, hfz39_6⟩ := bk7 BK1284.out; obtain ⟨Ao40, co40, eo40, _⟩ := Kd.Q_slice HO1273.out; subst eo40; obtain ⟨Ao41, co41, eo41⟩ := Kd.R_slice HO1276.out; subst eo41))
  (try simp only [Act.put, List.setIfInBounds_toArray, List.set_cons_zero, List.set_cons_succ])
  go_cut [55] (fun v55 wc => ∃ (kq : Nat) (x55_11 : Bool), v55 = .bool x55_11 ∧ Aside0 (laws_FnExactStepBack.j0 kq a1 t1252 t1255 t1280 t1283 x55_11 a0_0 a0_1 l0_2 l0_3 a0_4 a0_5 a0_6 t1241 t1242 t1243 t1246 t1249 t1250 t1251 t1257 t1258 t1259 t1262 t1265 t1266 t1267 t1269 t1270 t1271 t1274 t1277 t1278 t1279 = some r) ∧ Aside0 (kq ≤ k) ∧ Aside0 (Kd.R (Kd.int .i64) 3 wc w.heap.size (fun k_ => some k_ ≠ (v1281 : Value).ownBlock ∧ some k_ ≠ ((.slice Ao24 t1243.length co24) : Value).ownBlock ∧ some k_ ≠ ((.slice Ao25 t1246.length co25) : Value).ownBlock ∧ some k_ ≠ ((.slice Ao32 t1259.length co32) : Value).ownBlock ∧ some k_ ≠ ((.slice Ao33 t1262.length co33) : Value).ownBlock ∧ some k_ ≠ ((.slice Ao40 t1271.length co40) : Value).ownBlock ∧ some k_ ≠ ((.slice Ao41 t1274.length co41) : Value).ownBlock) v1253 t1252) ∧ Aside0 (Kd.Q (Kd.int .i64) 3 wc w.heap.size (fun k_ => some k_ ≠ (v1253 : Value).ownBlock ∧ some k_ ≠ ((.slice Ao24 t1243.length co24) : Value).ownBlock ∧ some k_ ≠ ((.slice Ao25 t1246.length co25) : Value).ownBlock ∧ some k_ ≠ ((.slice Ao32 t1259.length co32) : Value).ownBlock ∧ some k_ ≠ ((.slice Ao33 t1262.length co33) : Value).ownBlock ∧ some k_ ≠ ((.slice Ao40 t1271.length co40) : Value).ownBlock ∧ some k_ ≠ ((.slice Ao41 t1274.length co41) : Value).ownBlock) v1281 t1280) ∧ Aside0 (Kd.Q (Kd.int .i64) 3 wc w.heap.size (fun k_ => some k_ ≠ (v1253 : Value).ownBlock ∧ some k_ ≠ (v1281 : Value).ownBlock ∧ some k_ ≠ ((.slice Ao25 t1246.length co25) : Value).ownBlock ∧ some k_ ≠ ((.slice Ao32 t1259.length co32) : Value).ownBlock ∧ some k_ ≠ ((.slice Ao33 t1262.length co33) : Value).ownBlock ∧ some k_ ≠ ((.slice Ao40 t1271.length co40) : Value).ownBlock ∧ some k_ ≠ ((.slice Ao41 t1274.length co41) : Value).ownBlock) (.slice Ao24 t1243.length co24) t1243) ∧ Aside0 (Kd.R (Kd.int .i64) 3 wc w.heap.size (fun k_ => some k_ ≠ (v1253 : Value).ownBlock ∧ some k_ ≠ (v1281 : Value).ownBlock ∧ some k_ ≠ ((.slice Ao24 t1243.length co24) : Value).ownBlock ∧ some k_ ≠ ((.slice Ao32 t1259.length co32) : Value).ownBlock ∧ some k_ ≠ ((.slice Ao33 t1262.length co33) : Value).ownBlock ∧ some k_ ≠ ((.slice Ao40 t1271.length co40) : Value).ownBlock ∧ some k_ ≠ ((.slice Ao41 t1274.length co41) : Value).ownBlock) (.slice Ao25 t1246.length co25) t1246) ∧ Aside0 (Kd.Q (Kd.int .i64) 3 wc w.heap.size (fun k_ => some k_ ≠ (v1253 : Value).ownBlock ∧ some k_ ≠ (v1281 : Value).ownBlock ∧ some k_ ≠ ((.slice Ao24 t1243.length co24) : Value).ownBlock ∧ some k_ ≠ ((.slice Ao25 t1246.length co25) : Value).ownBlock ∧ some k_ ≠ ((.slice Ao33 t1262.length co33) : Value).ownBlock ∧ some k_ ≠ ((.slice Ao40 t1271.length co40) : Value).ownBlock ∧ some k_ ≠ ((.slice Ao41 t1274.length co41) : Value).ownBlock) (.slice Ao32 t1259.length co32) t1259) ∧ Aside0 (Kd.Q (Kd.int .i64) 3 wc w.heap.size (fun k_ => some k_ ≠ (v1253 : Value).ownBlock ∧ some k_ ≠ (v1281 : Value).ownBlock ∧ some k_ ≠ ((.slice Ao24 t1243.length co24) : Value).ownBlock ∧ some k_ ≠ ((.slice Ao25 t1246.length co25) : Value).ownBlock ∧ some k_ ≠ ((.slice Ao32 t1259.length co32) : Value).ownBlock ∧ some k_ ≠ ((.slice Ao40 t1271.length co40) : Value).ownBlock ∧ some k_ ≠ ((.slice Ao41 t1274.length co41) : Value).ownBlock) (.slice Ao33 t1262.length co33) t1262) ∧ Aside0 (Kd.Q (Kd.int .i64) 3 wc w.heap.size (fun k_ => some k_ ≠ (v1253 : Value).ownBlock ∧ some k_ ≠ (v1281 : Value).ownBlock ∧ some k_ ≠ ((.slice Ao24 t1243.length co24) : Value).ownBlock ∧ some k_ ≠ ((.slice Ao25 t1246.length co25) : Value).ownBlock ∧ some k_ ≠ ((.slice Ao32 t1259.length co32) : Value).ownBlock ∧ some k_ ≠ ((.slice Ao33 t1262.length co33) : Value).ownBlock ∧ some k_ ≠ ((.slice Ao41 t1274.length co41) : Value).ownBlock) (.slice Ao40 t1271.length co40) t1271) ∧ Aside0 (Kd.Q (Kd.int .i64) 3 wc w.heap.size (fun k_ => some k_ ≠ (v1253 : Value).ownBlock ∧ some k_ ≠ (v1281 : Value).ownBlock ∧ some k_ ≠ ((.slice Ao24 t1243.length co24) : Value).ownBlock ∧ some k_ ≠ ((.slice Ao25 t1246.length co25) : Value).ownBlock ∧ some k_ ≠ ((.slice Ao32 t1259.length co32) : Value).ownBlock ∧ some k_ ≠ ((.slice Ao33 t1262.length co33) : Value).ownBlock ∧ some k_ ≠ ((.slice Ao40 t1271.length co40) : Value).ownBlock) (.slice Ao41 t1274.length co41) t1274) ∧ Aside0 (wc.heap[gb1228]? = some (.cells #[.bool a0_0, .bool a0_1, (.slice A0_2 l0_2.length c0_2), (.slice A0_3 l0_3.length c0_3), .int .i64 a0_4, .int .i64 a0_5, .int .i64 a0_6] 24 (0, 0))) ∧ Aside0 (wc.heap[gb1256]? = some (.cells #[.bool t1241, .bool t1242, (.slice Ao24 t1243.length co24), (.slice Ao25 t1246.length co25), .int .i64 t1249, .int .i64 t1250, .int .i64 t1251] 27 (0, 0))) ∧ Aside0 (wc.heap[gb1268]? = some (.cells #[.bool t1257, .bool t1258, (.slice Ao32 t1259.length co32), (.slice Ao33 t1262.length co33), .int .i64 t1265, .int .i64 t1266, .int .i64 t1267] 27 (0, 0))) ∧ Aside0 (wc.heap[gb1284]? = some (.cells #[.bool t1269, .bool t1270, (.slice Ao40 t1271.length co40), (.slice Ao41 t1274.length co41), .int .i64 t1277, .int .i64 t1278, .int .i64 t1279] 27 (0, 0))) ∧ Aside0 (Below w.heap.size w wc))
  case first =>
   have H := HC12.out
   clear HC12
   replace H := Option.bind_eq_some_iff.mp H
   obtain ⟨t1285, A420, H⟩ := H
   replace H : (if t1285 = true then ((laws_eqIntS.f k t1280 t1252).bind fun t1286 => (if t1286 = true then (laws_FnExactStepBack.j0 k a1 t1252 t1255 t1280 t1283 (t1283 != t1255) a0_0 a0_1 l0_2 l0_3 a0_4 a0_5 a0_6 t1241 t1242 t1243 t1246 t1249 t1250 t1251 t1257 t1258 t1259 t1262 t1265 t1266 t1267 t1269 t1270 t1271 t1274 t1277 t1278 t1279) else (laws_FnExactStepBack.j0 k a1 t1252 t1255 t1280 t1283 true a0_0 a0_1 l0_2 l0_3 a0_4 a0_5 a0_6 t1241 t1242 t1243 t1246 t1249 t1250 t1251 t1257 t1258 t1259 t1262 t1265 t1266 t1267 t1269 t1270 t1271 t1274 t1277 t1278 t1279))) else (laws_FnExactStepBack.j0 k a1 t1252 t1255 t1280 t1283 true a0_0 a0_1 l0_2 l0_3 a0_4 a0_5 a0_6 t1241 t1242 t1243 t1246 t1249 t1250 t1251 t1257 t1258 t1259 t1262 t1265 t1266 t1267 t1269 t1270 t1271 t1274 t1277 t1278 t1279)) = some r := H
   have A42 := am A420
   clear A420
   by_cases c43 : t1285 = true
   ·subst c43
    replace H : ((laws_eqIntS.f k t1280 t1252).bind fun t1286 => (if t1286 = true then (laws_FnExactStepBack.j0 k a1 t1252 t1255 t1280 t1283 (t1283 != t1255) a0_0 a0_1 l0_2 l0_3 a0_4 a0_5 a0_6 t1241 t1242 t1243 t1246 t1249 t1250 t1251 t1257 t1258 t1259 t1262 t1265 t1266 t1267 t1269 t1270 t1271 t1274 t1277 t1278 t1279) else (laws_FnExactStepBack.j0 k a1 t1252 t1255 t1280 t1283 true a0_0 a0_1 l0_2 l0_3 a0_4 a0_5 a0_6 t1241 t1242 t1243 t1246 t1249 t1250 t1251 t1257 t1258 t1259 t1262 t1265 t1266 t1267 t1269 t1270 t1271 t1274 t1277 t1278 t1279))) = some r := by rw [if_pos rfl] at H; exact H
    replace H := Option.bind_eq_some_iff.mp H
    obtain ⟨t1286, A440, H⟩ := H
    replace H : (if t1286 = true then (laws_FnExactStepBack.j0 k a1 t1252 t1255 t1280 t1283 (t1283 != t1255) a0_0 a0_1 l0_2 l0_3 a0_4 a0_5 a0_6 t1241 t1242 t1243 t1246 t1249 t1250 t1251 t1257 t1258 t1259 t1262 t1265 t1266 t1267 t1269 t1270 t1271 t1274 t1277 t1278 t1279) else (laws_FnExactStepBack.j0 k a1 t1252 t1255 t1280 t1283 true a0_0 a0_1 l0_2 l0_3 a0_4 a0_5 a0_6 t1241 t1242 t1243 t1246 t1249 t1250 t1251 t1257 t1258 t1259 t1262 t1265 t1266 t1267 t1269 t1270 t1271 t1274 t1277 t1278 t1279)) = some r := H
    have A44 := am A440
    clear A440
    by_cases c45 : t1286 = true
    ·subst c45
     replace H : (laws_FnExactStepBack.j0 k a1 t1252 t1255 t1280 t1283 (t1283 != t1255) a0_0 a0_1 l0_2 l0_3 a0_4 a0_5 a0_6 t1241 t1242 t1243 t1246 t1249 t1250 t1251 t1257 t1258 t1259 t1262 t1265 t1266 t1267 t1269 t1270 t1271 t1274 t1277 t1278 t1279) = some r := by rw [if_pos rfl] at H; exact H
     have H' := am H
     clear H
     have hnb46 := NB1284_1228.out
     have hnc46 := NB1228_1284.out
     have hnb47 := NB1284_1256.out
     have hnc47 := NB1256_1284.out
     have hnb48 := NB1284_1268.out
     have hnc48 := NB1268_1284.out
     obtain ⟨hcz49_0, hcz49_1, hcz49_2, hcz49_3, hcz49_4, hcz49_5, hcz49_6, hfz49_0, hfz49_1, hfz49_2, hfz49_3, hfz49_4, hfz49_5, hfz49_6⟩ := bk7 BK1284.out
     have hnb50 := NB1256_1228.out
     have hnc50 := NB1228_1256.out
     have hnb51 := NB1256_1268.out
     have hnc51 := NB1268_1256.out
     obtain ⟨hcz52_0, hcz52_1, hcz52_2, hcz52_3, hcz52_4, hcz52_5, hcz52_6, hfz52_0, hfz52_1, hfz52_2, hfz52_3, hfz52_4, hfz52_5, hfz52_6⟩ := bk7 BK1256.out
     go_wp2_with (first | ((with_reducible refine gate_callee (f := 18) rfl ?_); refine goesL_ (some 43) rfl rfl Try.func18 (by kernel_rfl) rfl #[.agg #[.bool t1269, .bool t1270, .slice Ao40 t1271.length co40, .slice Ao41 t1274.length co41, .int .i64 t1277, .int .i64 t1278, .int .i64 t1279], .agg #[.bool t1241, .bool t1242, .slice Ao24 t1243.length co24, .slice Ao25 t1246.length co25, .int .i64 t1249, .int .i64 t1250, .int .i64 t1251]] rfl mpx ?_; (with_reducible refine (laws_eqEvent.calls k t1269 t1270 _ _ t1271 _ _ t1274 t1277 t1278 t1279 t1241 t1242 _ _ t1243 _ _ t1246 t1249 t1250 t1251 true _ ?side1 ?side2 ?side3 ?side4 ?side5 ?side6 ?side7 ?side8 A42.out).mono ?_); (case side1 => refine (Kd.Q_reads' (e := 3) (base := w.heap.size) (ok := fun k_ => ((((((((some k_ ≠ (.slice Ao41 t1274.length co41 : Value).ownBlock ∧ some k_ ≠ (v1281 : Value).ownBlock) ∧ some k_ ≠ (.slice Ao18 t1232.length co18 : Value).ownBlock) ∧ some k_ ≠ (.slice Ao19 t1235.length co19 : Value).ownBlock) ∧ some k_ ≠ (.slice Ao24 t1243.length co24 : Value).ownBlock) ∧ some k_ ≠ (.slice Ao25 t1246.length co25 : Value).ownBlock) ∧ some k_ ≠ (v1253 : Value).ownBlock) ∧ some k_ ≠ (.slice Ao32 t1259.length co32 : Value).ownBlock) ∧ some k_ ≠ (.slice Ao33 t1262.length co33 : Value).ownBlock)) (n := t1271.length) (c := co40) ?_).2.2; exact (by (with_reducible repeat (first | apply Kd.Q_alloc | apply Kd.Q_drewN | apply Kd.Q_drew)); exact (Kd.Q_mono (Kd.Q_far (p := ⟨gb1284, 6, none⟩) (Kd.Q_far (p := ⟨gb1284, 5, none⟩) (Kd.Q_far (p := ⟨gb1284, 4, none⟩) (Kd.Q_far (p := ⟨gb1284, 3, none⟩) (Kd.Q_far (p := ⟨gb1284, 2, none⟩) (Kd.Q_far (p := ⟨gb1284, 1, none⟩) (Kd.Q_far (p := ⟨gb1284, 0, none⟩) (Kd.Q_types HO1273.out BK1284.out (by decide)) (fun _ hk => hk.2) (.bool t1269)) (fun _ hk => hk.2) (.bool t1270)) (fun _ hk => hk.2) (.slice Ao40 t1271.length co40)) (fun _ hk => hk.2) (.slice Ao41 t1274.length co41)) (fun _ hk => hk.2) (.int .i64 t1277)) (fun _ hk => hk.2) (.int .i64 t1278)) (fun _ hk => hk.2) (.int .i64 t1279)) (fun _ h_ => h_.1)))); (case side2 => exact (Kd.Q_reads' HO1273.out).2.1); (case side3 => refine (Kd.R_reads' (e := 3) (base := w.heap.size) (ok := fun k_ => ((((((((some k_ ≠ (.slice Ao40 t1271.length co40 : Value).ownBlock ∧ some k_ ≠ (v1281 : Value).ownBlock) ∧ some k_ ≠ (.slice Ao18 t1232.length co18 : Value).ownBlock) ∧ some k_ ≠ (.slice Ao19 t1235.length co19 : Value).ownBlock) ∧ some k_ ≠ (.slice Ao24 t1243.length co24 : Value).ownBlock) ∧ some k_ ≠ (.slice Ao25 t1246.length co25 : Value).ownBlock) ∧ some k_ ≠ (v1253 : Value).ownBlock) ∧ some k_ ≠ (.slice Ao32 t1259.length co32 : Value).ownBlock) ∧ some k_ ≠ (.slice Ao33 t1262.length co33 : Value).ownBlock)) (n := t1274.length) (c := co41) ?_).2.2; exact (by (with_reducible repeat (first | apply Kd.R_alloc | apply Kd.R_drewN | apply Kd.R_drew)); exact (Kd.R_mono (Kd.R_far (p := ⟨gb1284, 6, none⟩) (Kd.R_far (p := ⟨gb1284, 5, none⟩) (Kd.R_far (p := ⟨gb1284, 4, none⟩) (Kd.R_far (p := ⟨gb1284, 3, none⟩) (Kd.R_far (p := ⟨gb1284, 2, none⟩) (Kd.R_far (p := ⟨gb1284, 1, none⟩) (Kd.R_far (p := ⟨gb1284, 0, none⟩) (Kd.R_types HO1276.out BK1284.out (by decide)) (fun _ hk => hk.2) (.bool t1269)) (fun _ hk => hk.2) (.bool t1270)) (fun _ hk => hk.2) (.slice Ao40 t1271.length co40)) (fun _ hk => hk.2) (.slice Ao41 t1274.length co41)) (fun _ hk => hk.2) (.int .i64 t1277)) (fun _ hk => hk.2) (.int .i64 t1278)) (fun _ hk => hk.2) (.int .i64 t1279)) (fun _ h_ => h_.1)))); (case side4 => exact (Kd.R_reads' HO1276.out).2.1); (case side5 => refine (Kd.R_reads' (e := 3) (base := w.heap.size) (ok := fun k_ => ((((((((some k_ ≠ (.slice Ao25 t1246.length co25 : Value).ownBlock ∧ some k_ ≠ (v1253 : Value).ownBlock) ∧ some k_ ≠ (.slice Ao18 t1232.length co18 : Value).ownBlock) ∧ some k_ ≠ (.slice Ao19 t1235.length co19 : Value).ownBlock) ∧ some k_ ≠ (.slice Ao32 t1259.length co32 : Value).ownBlock) ∧ some k_ ≠ (.slice Ao33 t1262.length co33 : Value).ownBlock) ∧ some k_ ≠ (.slice Ao40 t1271.length co40 : Value).ownBlock) ∧ some k_ ≠ (.slice Ao41 t1274.length co41 : Value).ownBlock) ∧ some k_ ≠ (v1281 : Value).ownBlock)) (n := t1243.length) (c := co24) ?_).2.2; exact (by (with_reducible repeat (first | apply Kd.R_alloc | apply Kd.R_drewN | apply Kd.R_drew)); exact (Kd.R_mono (Kd.R_far (p := ⟨gb1284, 6, none⟩) (Kd.R_far (p := ⟨gb1284, 5, none⟩) (Kd.R_far (p := ⟨gb1284, 4, none⟩) (Kd.R_far (p := ⟨gb1284, 3, none⟩) (Kd.R_far (p := ⟨gb1284, 2, none⟩) (Kd.R_far (p := ⟨gb1284, 1, none⟩) (Kd.R_far (p := ⟨gb1284, 0, none⟩) (Kd.R_types HO1245.out BK1284.out (by decide)) (fun _ hk => hk.2) (.bool t1269)) (fun _ hk => hk.2) (.bool t1270)) (fun _ hk => hk.2) (.slice Ao40 t1271.length co40)) (fun _ hk => hk.2) (.slice Ao41 t1274.length co41)) (fun _ hk => hk.2) (.int .i64 t1277)) (fun _ hk => hk.2) (.int .i64 t1278)) (fun _ hk => hk.2) (.int .i64 t1279)) (fun _ h_ => h_.1)))); (case side6 => exact (Kd.R_reads' HO1245.out).2.1); (case side7 => refine (Kd.R_reads' (e := 3) (base := w.heap.size) (ok := fun k_ => ((((((((some k_ ≠ (.slice Ao24 t1243.length co24 : Value).ownBlock ∧ some k_ ≠ (v1253 : Value).ownBlock) ∧ some k_ ≠ (.slice Ao18 t1232.length co18 : Value).ownBlock) ∧ some k_ ≠ (.slice Ao19 t1235.length co19 : Value).ownBlock) ∧ some k_ ≠ (.slice Ao32 t1259.length co32 : Value).ownBlock) ∧ some k_ ≠ (.slice Ao33 t1262.length co33 : Value).ownBlock) ∧ some k_ ≠ (.slice Ao40 t1271.length co40 : Value).ownBlock) ∧ some k_ ≠ (.slice Ao41 t1274.length co41 : Value).ownBlock) ∧ some k_ ≠ (v1281 : Value).ownBlock)) (n := t1246.length) (c := co25) ?_).2.2; exact (by (with_reducible repeat (first | apply Kd.R_alloc | apply Kd.R_drewN | apply Kd.R_drew)); exact (Kd.R_mono (Kd.R_far (p := ⟨gb1284, 6, none⟩) (Kd.R_far (p := ⟨gb1284, 5, none⟩) (Kd.R_far (p := ⟨gb1284, 4, none⟩) (Kd.R_far (p := ⟨gb1284, 3, none⟩) (Kd.R_far (p := ⟨gb1284, 2, none⟩) (Kd.R_far (p := ⟨gb1284, 1, none⟩) (Kd.R_far (p := ⟨gb1284, 0, none⟩) (Kd.R_types HO1248.out BK1284.out (by decide)) (fun _ hk => hk.2) (.bool t1269)) (fun _ hk => hk.2) (.bool t1270)) (fun _ hk => hk.2) (.slice Ao40 t1271.length co40)) (fun _ hk => hk.2) (.slice Ao41 t1274.length co41)) (fun _ hk => hk.2) (.int .i64 t1277)) (fun _ hk => hk.2) (.int .i64 t1278)) (fun _ hk => hk.2) (.int .i64 t1279)) (fun _ h_ => h_.1)))); (case side8 => exact (Kd.R_reads' HO1248.out).2.1); rintro e w53 ⟨rfl, hb⟩; refine ⟨_, rfl, ?_⟩; replace HO1234 := am (Kd.R_below (by (with_reducible repeat (first | apply Kd.R_alloc | apply Kd.R_drewN | apply Kd.R_drew)); exact (Kd.R_mono (Kd.R_far (p := ⟨gb1284, 6, none⟩) (Kd.R_far (p := ⟨gb1284, 5, none⟩) (Kd.R_far (p := ⟨gb1284, 4, none⟩) (Kd.R_far (p := ⟨gb1284, 3, none⟩) (Kd.R_far (p := ⟨gb1284, 2, none⟩) (Kd.R_far (p := ⟨gb1284, 1, none⟩) (Kd.R_far (p := ⟨gb1284, 0, none⟩) (Kd.R_types HO1234.out BK1284.out (by decide)) (fun _ hk => hk.2) (.bool t1269)) (fun _ hk => hk.2) (.bool t1270)) (fun _ hk => hk.2) (.slice Ao40 t1271.length co40)) (fun _ hk => hk.2) (.slice Ao41 t1274.length co41)) (fun _ hk => hk.2) (.int .i64 t1277)) (fun _ hk => hk.2) (.int .i64 t1278)) (fun _ hk => hk.2) (.int .i64 t1279)) (fun _ h_ => h_.1))) hb); replace HO1237 := am (Kd.R_below (by (with_reducible repeat (first | apply Kd.R_alloc | apply Kd.R_drewN | apply Kd.R_drew)); exact (Kd.R_mono (Kd.R_far (p := ⟨gb1284, 6, none⟩) (Kd.R_far (p := ⟨gb1284, 5, none⟩) (Kd.R_far (p := ⟨gb1284, 4, none⟩) (Kd.R_far (p := ⟨gb1284, 3, none⟩) (Kd.R_far (p := ⟨gb1284, 2, none⟩) (Kd.R_far (p := ⟨gb1284, 1, none⟩) (Kd.R_far (p := ⟨gb1284, 0, none⟩) (Kd.R_types HO1237.out BK1284.out (by decide)) (fun _ hk => hk.2) (.bool t1269)) (fun _ hk => hk.2) (.bool t1270)) (fun _ hk => hk.2) (.slice Ao40 t1271.length co40)) (fun _ hk => hk.2) (.slice Ao41 t1274.length co41)) (fun _ hk => hk.2) (.int .i64 t1277)) (fun _ hk => hk.2) (.int .i64 t1278)) (fun _ hk => hk.2) (.int .i64 t1279)) (fun _ h_ => h_.1))) hb); replace HO1245 := am (Kd.R_below (by (with_reducible repeat (first | apply Kd.R_alloc | apply Kd.R_drewN | apply Kd.R_drew)); exact (Kd.R_mono (Kd.R_far (p := ⟨gb1284, 6, none⟩) (Kd.R_far (p := ⟨gb1284, 5, none⟩) (Kd.R_far (p := ⟨gb1284, 4, none⟩) (Kd.R_far (p := ⟨gb1284, 3, none⟩) (Kd.R_far (p := ⟨gb1284, 2, none⟩) (Kd.R_far (p := ⟨gb1284, 1, none⟩) (Kd.R_far (p := ⟨gb1284, 0, none⟩) (Kd.R_types HO1245.out BK1284.out (by decide)) (fun _ hk => hk.2) (.bool t1269)) (fun _ hk => hk.2) (.bool t1270)) (fun _ hk => hk.2) (.slice Ao40 t1271.length co40)) (fun _ hk => hk.2) (.slice Ao41 t1274.length co41)) (fun _ hk => hk.2) (.int .i64 t1277)) (fun _ hk => hk.2) (.int .i64 t1278)) (fun _ hk => hk.2) (.int .i64 t1279)) (fun _ h_ => h_.1))) hb); replace HO1248 := am (Kd.R_below (by (with_reducible repeat (first | apply Kd.R_alloc | apply Kd.R_drewN | apply Kd.R_drew)); exact (Kd.R_mono (Kd.R_far (p := ⟨gb1284, 6, none⟩) (Kd.R_far (p := ⟨gb1284, 5, none⟩) (Kd.R_far (p := ⟨gb1284, 4, none⟩) (Kd.R_far (p := ⟨gb1284, 3, none⟩) (Kd.R_far (p := ⟨gb1284, 2, none⟩) (Kd.R_far (p := ⟨gb1284, 1, none⟩) (Kd.R_far (p := ⟨gb1284, 0, none⟩) (Kd.R_types HO1248.out BK1284.out (by decide)) (fun _ hk => hk.2) (.bool t1269)) (fun _ hk => hk.2) (.bool t1270)) (fun _ hk => hk.2) (.slice Ao40 t1271.length co40)) (fun _ hk => hk.2) (.slice Ao41 t1274.length co41)) (fun _ hk => hk.2) (.int .i64 t1277)) (fun _ hk => hk.2) (.int .i64 t1278)) (fun _ hk => hk.2) (.int .i64 t1279)) (fun _ h_ => h_.1))) hb); replace HO1254 := am (Kd.R_below (by (with_reducible repeat (first | apply Kd.R_alloc | apply Kd.R_drewN | apply Kd.R_drew)); exact (Kd.R_mono (Kd.R_far (p := ⟨gb1284, 6, none⟩) (Kd.R_far (p := ⟨gb1284, 5, none⟩) (Kd.R_far (p := ⟨gb1284, 4, none⟩) (Kd.R_far (p := ⟨gb1284, 3, none⟩) (Kd.R_far (p := ⟨gb1284, 2, none⟩) (Kd.R_far (p := ⟨gb1284, 1, none⟩) (Kd.R_far (p := ⟨gb1284, 0, none⟩) (Kd.R_types HO1254.out BK1284.out (by decide)) (fun _ hk => hk.2) (.bool t1269)) (fun _ hk => hk.2) (.bool t1270)) (fun _ hk => hk.2) (.slice Ao40 t1271.length co40)) (fun _ hk => hk.2) (.slice Ao41 t1274.length co41)) (fun _ hk => hk.2) (.int .i64 t1277)) (fun _ hk => hk.2) (.int .i64 t1278)) (fun _ hk => hk.2) (.int .i64 t1279)) (fun _ h_ => h_.1))) hb); replace HO1261 := am (Kd.R_below (by (with_reducible repeat (first | apply Kd.R_alloc | apply Kd.R_drewN | apply Kd.R_drew)); exact (Kd.R_mono (Kd.R_far (p := ⟨gb1284, 6, none⟩) (Kd.R_far (p := ⟨gb1284, 5, none⟩) (Kd.R_far (p := ⟨gb1284, 4, none⟩) (Kd.R_far (p := ⟨gb1284, 3, none⟩) (Kd.R_far (p := ⟨gb1284, 2, none⟩) (Kd.R_far (p := ⟨gb1284, 1, none⟩) (Kd.R_far (p := ⟨gb1284, 0, none⟩) (Kd.R_types HO1261.out BK1284.out (by decide)) (fun _ hk => hk.2) (.bool t1269)) (fun _ hk => hk.2) (.bool t1270)) (fun _ hk => hk.2) (.slice Ao40 t1271.length co40)) (fun _ hk => hk.2) (.slice Ao41 t1274.length co41)) (fun _ hk => hk.2) (.int .i64 t1277)) (fun _ hk => hk.2) (.int .i64 t1278)) (fun _ hk => hk.2) (.int .i64 t1279)) (fun _ h_ => h_.1))) hb); replace HO1264 := am (Kd.R_below (by (with_reducible repeat (first | apply Kd.R_alloc | apply Kd.R_drewN | apply Kd.R_drew)); exact (Kd.R_mono (Kd.R_far (p := ⟨gb1284, 6, none⟩) (Kd.R_far (p := ⟨gb1284, 5, none⟩) (Kd.R_far (p := ⟨gb1284, 4, none⟩) (Kd.R_far (p := ⟨gb1284, 3, none⟩) (Kd.R_far (p := ⟨gb1284, 2, none⟩) (Kd.R_far (p := ⟨gb1284, 1, none⟩) (Kd.R_far (p := ⟨gb1284, 0, none⟩) (Kd.R_types HO1264.out BK1284.out (by decide)) (fun _ hk => hk.2) (.bool t1269)) (fun _ hk => hk.2) (.bool t1270)) (fun _ hk => hk.2) (.slice Ao40 t1271.length co40)) (fun _ hk => hk.2) (.slice Ao41 t1274.length co41)) (fun _ hk => hk.2) (.int .i64 t1277)) (fun _ hk => hk.2) (.int .i64 t1278)) (fun _ hk => hk.2) (.int .i64 t1279)) (fun _ h_ => h_.1))) hb); replace HO1273 := am (Kd.Q_below (by (with_reducible repeat (first | apply Kd.Q_alloc | apply Kd.Q_drewN | apply Kd.Q_drew)); exact (Kd.Q_mono (Kd.Q_far (p := ⟨gb1284, 6, none⟩) (Kd.Q_far (p := ⟨gb1284, 5, none⟩) (Kd.Q_far (p := ⟨gb1284, 4, none⟩) (Kd.Q_far (p := ⟨gb1284, 3, none⟩) (Kd.Q_far (p := ⟨gb1284, 2, none⟩) (Kd.Q_far (p := ⟨gb1284, 1, none⟩) (Kd.Q_far (p := ⟨gb1284, 0, none⟩) (Kd.Q_types HO1273.out BK1284.out (by decide)) (fun _ hk => hk.2) (.bool t1269)) (fun _ hk => hk.2) (.bool t1270)) (fun _ hk => hk.2) (.slice Ao40 t1271.length co40)) (fun _ hk => hk.2) (.slice Ao41 t1274.length co41)) (fun _ hk => hk.2) (.int .i64 t1277)) (fun _ hk => hk.2) (.int .i64 t1278)) (fun _ hk => hk.2) (.int .i64 t1279)) (fun _ h_ => h_.1))) hb); replace HO1276 := am (Kd.R_below (by (with_reducible repeat (first | apply Kd.R_alloc | apply Kd.R_drewN | apply Kd.R_drew)); exact (Kd.R_mono (Kd.R_far (p := ⟨gb1284, 6, none⟩) (Kd.R_far (p := ⟨gb1284, 5, none⟩) (Kd.R_far (p := ⟨gb1284, 4, none⟩) (Kd.R_far (p := ⟨gb1284, 3, none⟩) (Kd.R_far (p := ⟨gb1284, 2, none⟩) (Kd.R_far (p := ⟨gb1284, 1, none⟩) (Kd.R_far (p := ⟨gb1284, 0, none⟩) (Kd.R_types HO1276.out BK1284.out (by decide)) (fun _ hk => hk.2) (.bool t1269)) (fun _ hk => hk.2) (.bool t1270)) (fun _ hk => hk.2) (.slice Ao40 t1271.length co40)) (fun _ hk => hk.2) (.slice Ao41 t1274.length co41)) (fun _ hk => hk.2) (.int .i64 t1277)) (fun _ hk => hk.2) (.int .i64 t1278)) (fun _ hk => hk.2) (.int .i64 t1279)) (fun _ h_ => h_.1))) hb); replace HO1282 := am (Kd.R_below (by (with_reducible repeat (first | apply Kd.R_alloc | apply Kd.R_drewN | apply Kd.R_drew)); exact (Kd.R_mono (Kd.R_far (p := ⟨gb1284, 6, none⟩) (Kd.R_far (p := ⟨gb1284, 5, none⟩) (Kd.R_far (p := ⟨gb1284, 4, none⟩) (Kd.R_far (p := ⟨gb1284, 3, none⟩) (Kd.R_far (p := ⟨gb1284, 2, none⟩) (Kd.R_far (p := ⟨gb1284, 1, none⟩) (Kd.R_far (p := ⟨gb1284, 0, none⟩) (Kd.R_types HO1282.out BK1284.out (by decide)) (fun _ hk => hk.2) (.bool t1269)) (fun _ hk => hk.2) (.bool t1270)) (fun _ hk => hk.2) (.slice Ao40 t1271.length co40)) (fun _ hk => hk.2) (.slice Ao41 t1274.length co41)) (fun _ hk => hk.2) (.int .i64 t1277)) (fun _ hk => hk.2) (.int .i64 t1278)) (fun _ hk => hk.2) (.int .i64 t1279)) (fun _ h_ => h_.1))) hb); replace BK1228 := am (blk_below (g := gb1228) (o := .cells #[.bool a0_0, .bool a0_1, .slice A0_2 l0_2.length c0_2, .slice A0_3 l0_3.length c0_3, .int .i64 a0_4, .int .i64 a0_5, .int .i64 a0_6] 24 (0, 0)) (by (with_reducible repeat (first | refine blk_drewN ?_ _ | refine blk_drew ?_ | refine blk_alloc ?_ _)); refine blk_far ?_ NB1228_1284.out _; (with_reducible repeat (first | refine blk_drewN ?_ _ | refine blk_drew ?_ | refine blk_alloc ?_ _)); refine blk_far ?_ NB1228_1284.out _; (with_reducible repeat (first | refine blk_drewN ?_ _ | refine blk_drew ?_ | refine blk_alloc ?_ _)); refine blk_far ?_ NB1228_1284.out _; (with_reducible repeat (first | refine blk_drewN ?_ _ | refine blk_drew ?_ | refine blk_alloc ?_ _)); refine blk_far ?_ NB1228_1284.out _; (with_reducible repeat (first | refine blk_drewN ?_ _ | refine blk_drew ?_ | refine blk_alloc ?_ _)); refine blk_far ?_ NB1228_1284.out _; (with_reducible repeat (first | refine blk_drewN ?_ _ | refine blk_drew ?_ | refine blk_alloc ?_ _)); refine blk_far ?_ NB1228_1284.out _; (with_reducible repeat (first | refine blk_drewN ?_ _ | refine blk_drew ?_ | refine blk_alloc ?_ _)); refine blk_far ?_ NB1228_1284.out _; exact pkK BK1228.out) hb); replace BK1256 := am (blk_below (g := gb1256) (o := .cells #[.bool t1241, .bool t1242, .slice Ao24 t1243.length co24, .slice Ao25 t1246.length co25, .int .i64 t1249, .int .i64 t1250, .int .i64 t1251] 27 (0, 0)) (by (with_reducible repeat (first | refine blk_drewN ?_ _ | refine blk_drew ?_ | refine blk_alloc ?_ _)); refine blk_far ?_ NB1256_1284.out _; (with_reducible repeat (first | refine blk_drewN ?_ _ | refine blk_drew ?_ | refine blk_alloc ?_ _)); refine blk_far ?_ NB1256_1284.out _; (with_reducible repeat (first | refine blk_drewN ?_ _ | refine blk_drew ?_ | refine blk_alloc ?_ _)); refine blk_far ?_ NB1256_1284.out _; (with_reducible repeat (first | refine blk_drewN ?_ _ | refine blk_drew ?_ | refine blk_alloc ?_ _)); refine blk_far ?_ NB1256_1284.out _; (with_reducible repeat (first | refine blk_drewN ?_ _ | refine blk_drew ?_ | refine blk_alloc ?_ _)); refine blk_far ?_ NB1256_1284.out _; (with_reducible repeat (first | refine blk_drewN ?_ _ | refine blk_drew ?_ | refine blk_alloc ?_ _)); refine blk_far ?_ NB1256_1284.out _; (with_reducible repeat (first | refine blk_drewN ?_ _ | refine blk_drew ?_ | refine blk_alloc ?_ _)); refine blk_far ?_ NB1256_1284.out _; exact pkK BK1256.out) hb); replace BK1268 := am (blk_below (g := gb1268) (o := .cells #[.bool t1257, .bool t1258, .slice Ao32 t1259.length co32, .slice Ao33 t1262.length co33, .int .i64 t1265, .int .i64 t1266, .int .i64 t1267] 27 (0, 0)) (by (with_reducible repeat (first | refine blk_drewN ?_ _ | refine blk_drew ?_ | refine blk_alloc ?_ _)); refine blk_far ?_ NB1268_1284.out _; (with_reducible repeat (first | refine blk_drewN ?_ _ | refine blk_drew ?_ | refine blk_alloc ?_ _)); refine blk_far ?_ NB1268_1284.out _; (with_reducible repeat (first | refine blk_drewN ?_ _ | refine blk_drew ?_ | refine blk_alloc ?_ _)); refine blk_far ?_ NB1268_1284.out _; (with_reducible repeat (first | refine blk_drewN ?_ _ | refine blk_drew ?_ | refine blk_alloc ?_ _)); refine blk_far ?_ NB1268_1284.out _; (with_reducible repeat (first | refine blk_drewN ?_ _ | refine blk_drew ?_ | refine blk_alloc ?_ _)); refine blk_far ?_ NB1268_1284.out _; (with_reducible repeat (first | refine blk_drewN ?_ _ | refine blk_drew ?_ | refine blk_alloc ?_ _)); refine blk_far ?_ NB1268_1284.out _; (with_reducible repeat (first | refine blk_drewN ?_ _ | refine blk_drew ?_ | refine blk_alloc ?_ _)); refine blk_far ?_ NB1268_1284.out _; exact pkK BK1268.out) hb); replace BK1284 := am (blk_below (g := gb1284) (o := .cells #[.bool t1269, .bool t1270, .slice Ao40 t1271.length co40, .slice Ao41 t1274.length co41, .int .i64 t1277, .int .i64 t1278, .int .i64 t1279] 27 (0, 0)) (by (with_reducible repeat (first | refine blk_drewN ?_ _ | refine blk_drew ?_ | refine blk_alloc ?_ _)); refine blk_put (cs := #[.bool t1269, .bool t1270, .slice Ao40 t1271.length co40, .slice Ao41 t1274.length co41, .int .i64 t1277, .int .i64 t1278, .int .i64 0]) ?_ 6 _ rfl; (with_reducible repeat (first | refine blk_drewN ?_ _ | refine blk_drew ?_ | refine blk_alloc ?_ _)); refine blk_put (cs := #[.bool t1269, .bool t1270, .slice Ao40 t1271.length co40, .slice Ao41 t1274.length co41, .int .i64 t1277, .int .i64 0, .int .i64 0]) ?_ 5 _ rfl; (with_reducible repeat (first | refine blk_drewN ?_ _ | refine blk_drew ?_ | refine blk_alloc ?_ _)); refine blk_put (cs := #[.bool t1269, .bool t1270, .slice Ao40 t1271.length co40, .slice Ao41 t1274.length co41, .int .i64 0, .int .i64 0, .int .i64 0]) ?_ 4 _ rfl; (with_reducible repeat (first | refine blk_drewN ?_ _ | refine blk_drew ?_ | refine blk_alloc ?_ _)); refine blk_put (cs := #[.bool t1269, .bool t1270, .slice Ao40 t1271.length co40, .slice none 0 0, .int .i64 0, .int .i64 0, .int .i64 0]) ?_ 3 _ rfl; (with_reducible repeat (first | refine blk_drewN ?_ _ | refine blk_drew ?_ | refine blk_alloc ?_ _)); refine blk_put (cs := #[.bool t1269, .bool t1270, .slice none 0 0, .slice none 0 0, .int .i64 0, .int .i64 0, .int .i64 0]) ?_ 2 _ rfl; (with_reducible repeat (first | refine blk_drewN ?_ _ | refine blk_drew ?_ | refine blk_alloc ?_ _)); refine blk_put (cs := #[.bool t1269, .bool false, .slice none 0 0, .slice none 0 0, .int .i64 0, .int .i64 0, .int .i64 0]) ?_ 1 _ rfl; (with_reducible repeat (first | refine blk_drewN ?_ _ | refine blk_drew ?_ | refine blk_alloc ?_ _)); refine blk_put (cs := #[.bool false, .bool false, .slice none 0 0, .slice none 0 0, .int .i64 0, .int .i64 0, .int .i64 0]) ?_ 0 _ rfl; exact pkK BK1284.out) hb); replace HB := am (below_step (pkW HB.out) hb); (try clear hb); obtain ⟨Ao54, co54, eo54⟩ := Kd.R_slice HO1282.out; subst eo54; obtain ⟨Ao55, co55, eo55⟩ := Kd.R_slice HO1254.out; subst eo55) | (go_at_call 34; (with_reducible refine (laws_eqIntS.calls k _ _ t1280 _ _ t1252 true _ ?side1 ?side2 ?side3 ?side4 A44.out).mono ?_); (case side1 => exact pkC (Kd.R_reads' HO1282.out).2.2); (case side2 => exact (Kd.R_reads' HO1282.out).2.1); (case side3 => exact pkC (Kd.R_reads' HO1254.out).2.2); (case side4 => exact (Kd.R_reads' HO1254.out).2.1); rintro e w' ⟨rfl, ⟨nd, rfl⟩⟩))
     go_meet
     case rel => exact ⟨_, ((t1283 != t1255)), rfx, H', ⟨by first | omega | exact Nat.le_refl _⟩, ⟨by (with_reducible repeat (first | apply Kd.R_alloc | apply Kd.R_drewN | apply Kd.R_drew)); exact Kd.R_mono HO1254.out (fun _ hk => ⟨hk.2, ⟨hk.1.1.1.1.1.1.1.1, ⟨hk.1.1.1.1.1.1.1.2, ⟨hk.1.1.1.1.2, ⟨hk.1.1.1.2, ⟨hk.1.1.2, hk.1.2⟩⟩⟩⟩⟩⟩)⟩, ⟨Kd.Q_of_R (by (with_reducible repeat (first | apply Kd.R_alloc | apply Kd.R_drewN | apply Kd.R_drew)); exact Kd.R_mono HO1282.out (fun _ hk => ⟨hk.1.1.2, ⟨hk.1.1.1.1.2, ⟨hk.1.1.1.2, ⟨hk.1.2, ⟨hk.2, ⟨hk.1.1.1.1.1.1.1.1, hk.1.1.1.1.1.1.1.2⟩⟩⟩⟩⟩⟩))⟩, ⟨Kd.Q_of_R (by (with_reducible repeat (first | apply Kd.R_alloc | apply Kd.R_drewN | apply Kd.R_drew)); exact Kd.R_mono HO1245.out (fun _ hk => ⟨hk.1.1.1.1.1.1.1.2, ⟨hk.2, ⟨hk.1.1.1.1.1.1.1.1, ⟨hk.1.1.1.1.2, ⟨hk.1.1.1.2, ⟨hk.1.1.2, hk.1.2⟩⟩⟩⟩⟩⟩))⟩, ⟨by (with_reducible repeat (first | apply Kd.R_alloc | apply Kd.R_drewN | apply Kd.R_drew)); exact Kd.R_mono HO1248.out (fun _ hk => ⟨hk.1.1.1.1.1.1.1.2, ⟨hk.2, ⟨hk.1.1.1.1.1.1.1.1, ⟨hk.1.1.1.1.2, ⟨hk.1.1.1.2, ⟨hk.1.1.2, hk.1.2⟩⟩⟩⟩⟩⟩)⟩, ⟨Kd.Q_of_R (by (with_reducible repeat (first | apply Kd.R_alloc | apply Kd.R_drewN | apply Kd.R_drew)); exact Kd.R_mono HO1261.out (fun _ hk => ⟨hk.1.1.1.2, ⟨hk.2, ⟨hk.1.1.1.1.1.2, ⟨hk.1.1.1.1.2, ⟨hk.1.1.1.1.1.1.1.1, ⟨hk.1.1.2, hk.1.2⟩⟩⟩⟩⟩⟩))⟩, ⟨Kd.Q_of_R (by (with_reducible repeat (first | apply Kd.R_alloc | apply Kd.R_drewN | apply Kd.R_drew)); exact Kd.R_mono HO1264.out (fun _ hk => ⟨hk.1.1.1.2, ⟨hk.2, ⟨hk.1.1.1.1.1.2, ⟨hk.1.1.1.1.2, ⟨hk.1.1.1.1.1.1.1.1, ⟨hk.1.1.2, hk.1.2⟩⟩⟩⟩⟩⟩))⟩, ⟨by (with_reducible repeat (first | apply Kd.Q_alloc | apply Kd.Q_drewN | apply Kd.Q_drew)); exact Kd.Q_mono HO1273.out (fun _ hk => ⟨hk.1.1.2, ⟨hk.1.1.1.1.1.1.1.2, ⟨hk.1.1.1.1.2, ⟨hk.1.1.1.2, ⟨hk.1.2, ⟨hk.2, hk.1.1.1.1.1.1.1.1⟩⟩⟩⟩⟩⟩)⟩, ⟨Kd.Q_of_R (by (with_reducible repeat (first | apply Kd.R_alloc | apply Kd.R_drewN | apply Kd.R_drew)); exact Kd.R_mono HO1276.out (fun _ hk => ⟨hk.1.1.2, ⟨hk.1.1.1.1.1.1.1.2, ⟨hk.1.1.1.1.2, ⟨hk.1.1.1.2, ⟨hk.1.2, ⟨hk.2, hk.1.1.1.1.1.1.1.1⟩⟩⟩⟩⟩⟩))⟩, ⟨pkK BK1228.out⟩, ⟨pkK BK1256.out⟩, ⟨pkK BK1268.out⟩, ⟨pkK BK1284.out⟩, ⟨pkW HB.out⟩⟩
    ·replace c45 := Bool.eq_false_iff.mpr c45
     subst c45
     replace H : (laws_FnExactStepBack.j0 k a1 t1252 t1255 t1280 t1283 true a0_0 a0_1 l0_2 l0_3 a0_4 a0_5 a0_6 t1241 t1242 t1243 t1246 t1249 t1250 t1251 t1257 t1258 t1259 t1262 t1265 t1266 t1267 t1269 t1270 t1271 t1274 t1277 t1278 t1279) = some r := by rw [if_neg (show ¬ (false = true) by decide)] at H; exact H
     cases k with
     | zero => exact absurd H (by simp [laws_FnExactStepBack.j0])
     | succ k_ => (simp only [laws_FnExactStepBack.j0, if_pos] at H; exact absurd (Option.some.inj H) (by rw [HQ_.out]; simp))
   ·replace c43 := Bool.eq_false_iff.mpr c43
    subst c43
    replace H : (laws_FnExactStepBack.j0 k a1 t1252 t1255 t1280 t1283 true a0_0 a0_1 l0_2 l0_3 a0_4 a0_5 a0_6 t1241 t1242 t1243 t1246 t1249 t1250 t1251 t1257 t1258 t1259 t1262 t1265 t1266 t1267 t1269 t1270 t1271 t1274 t1277 t1278 t1279) = some r := by rw [if_neg (show ¬ (false = true) by decide)] at H; exact H
    cases k with
    | zero => exact absurd H (by simp [laws_FnExactStepBack.j0])
    | succ k_ => (simp only [laws_FnExactStepBack.j0, if_pos] at H; exact absurd (Option.some.inj H) (by rw [HQ_.out]; simp))
  case rest =>
   clear HC12
   try clear c1
   try clear c2
   try clear p2
   try clear c3
   try clear c4
   try clear c4b0
   try clear c5
   try clear c10
   try clear c14
   try clear c16
   try clear c18
   try clear c22
   try clear c29
   try clear c30
   try clear c36
   try clear c37
   try clear c38
   try clear c41
   try clear c42
   try clear c43
   try clear c45
   try clear c46
   try clear c47
   try clear c48
   try clear c50
   try clear c51
   try clear hcz14_0
   try clear hcz14_1
   try clear hcz14_2
   try clear hcz14_3
   try clear hcz14_4
   try clear hcz14_5
   try clear hcz14_6
   try clear hcz16_0
   try clear hcz16_1
   try clear hcz16_2
   try clear hcz16_3
   try clear hcz16_4
   try clear hcz16_5
   try clear hcz16_6
   try clear hcz23_0
   try clear hcz23_1
   try clear hcz23_2
   try clear hcz23_3
   try clear hcz23_4
   try clear hcz23_5
   try clear hcz23_6
   try clear hcz26_0
   try clear hcz26_1
   try clear hcz26_2
   try clear hcz26_3
   try clear hcz26_4
   try clear hcz26_5
   try clear hcz26_6
   try clear hcz31_0
   try clear hcz31_1
   try clear hcz31_2
   try clear hcz31_3
   try clear hcz31_4
   try clear hcz31_5
   try clear hcz31_6
   try clear hcz39_0
   try clear hcz39_1
   try clear hcz39_2
   try clear hcz39_3
   try clear hcz39_4
   try clear hcz39_5
   try clear hcz39_6
   try clear hcz49_0
   try clear hcz49_1
   try clear hcz49_2
   try clear hcz49_3
   try clear hcz49_4
   try clear hcz49_5
   try clear hcz49_6
   try clear hcz52_0
   try clear hcz52_1
   try clear hcz52_2
   try clear hcz52_3
   try clear hcz52_4
   try clear hcz52_5
   try clear hcz52_6
   try clear hcz6_0
   try clear hcz6_1
   try clear hcz6_2
   try clear hcz6_3
   try clear hcz6_4
   try clear hcz6_5
   try clear hcz6_6
   try clear hfz14_0
   try clear hfz14_1
   try clear hfz14_2
   try clear hfz14_3
   try clear hfz14_4
   try clear hfz14_5
   try clear hfz14_6
   try clear hfz16_0
   try clear hfz16_1
   try clear hfz16_2
   try clear hfz16_3
   try clear hfz16_4
   try clear hfz16_5
   try clear hfz16_6
   try clear hfz23_0
   try clear hfz23_1
   try clear hfz23_2
   try clear hfz23_3
   try clear hfz23_4
   try clear hfz23_5
   try clear hfz23_6
   try clear hfz26_0
   try clear hfz26_1
   try clear hfz26_2
   try clear hfz26_3
   try clear hfz26_4
   try clear hfz26_5
   try clear hfz26_6
   try clear hfz31_0
   try clear hfz31_1
   try clear hfz31_2
   try clear hfz31_3
   try clear hfz31_4
   try clear hfz31_5
   try clear hfz31_6
   try clear hfz39_0
   try clear hfz39_1
   try clear hfz39_2
   try clear hfz39_3
   try clear hfz39_4
   try clear hfz39_5
   try clear hfz39_6
   try clear hfz49_0
   try clear hfz49_1
   try clear hfz49_2
   try clear hfz49_3
   try clear hfz49_4
   try clear hfz49_5
   try clear hfz49_6
   try clear hfz52_0
   try clear hfz52_1
   try clear hfz52_2
   try clear hfz52_3
   try clear hfz52_4
   try clear hfz52_5
   try clear hfz52_6
   try clear hfz6_0
   try clear hfz6_1
   try clear hfz6_2
   try clear hfz6_3
   try clear hfz6_4
   try clear hfz6_5
   try clear hfz6_6
   obtain ⟨kq, x55_11, rfl, HA, HJ11, HO_7, HO_11, HO_1257002, HO_1257003, HO_1269002, HO_1269003, HO_1285002, HO_1285003, BK1228, BK1256, BK1268, BK1284, HB⟩ := hcut
   cases kq with
   | zero => exact absurd HA.out (by simp [laws_FnExactStepBack.j0])
   | succ kj11 =>
    have H := HA.out
    clear HA
    simp only [laws_FnExactStepBack.j0] at H
    by_cases c56 : x55_11 = true
    ·subst c56
     replace H : (some false) = some r := by rw [if_pos rfl] at H; exact H
     exact absurd (Option.some.inj H) (by rw [HQ_.out]; simp)
    ·replace c56 := Bool.eq_false_iff.mpr c56
     subst c56
     replace H : ((laws_toEvent.f kj11 a0_0 a0_1 l0_2 l0_3 a0_4 a0_5 a0_6).bind fun bt1287 => ((laws_eqEvent.f kj11 t1257 t1258 t1259 t1262 t1265 t1266 t1267 bt1287.1 bt1287.2.1 bt1287.2.2.1 bt1287.2.2.2.1 bt1287.2.2.2.2.1 bt1287.2.2.2.2.2.1 bt1287.2.2.2.2.2.2).bind fun t1298 => (if t1298 = true then ((laws_markEvent.f kj11 t1257 t1258 t1259 t1262 t1265 t1266 t1267 1).bind fun bt1299 => (if bt1299.1 < 0 then (laws_FnExactStepBack.j1 kj11 a1 t1252 t1255 t1280 true a0_0 a0_1 l0_2 l0_3 a0_4 a0_5 a0_6 t1241 t1242 t1243 t1246 t1249 t1250 t1251 t1269 t1270 t1271 t1274 t1277 t1278 t1279) else ((laws_eqEvent.f kj11 t1269 t1270 t1271 t1274 t1277 t1278 t1279 t1241 t1242 t1243 t1246 t1249 t1250 t1251).bind fun t1302 => (if t1302 = true then ((laws_eqIntS.f kj11 t1280 t1252).bind fun t1303 => (if t1303 = true then (laws_FnExactStepBack.j1 kj11 a1 t1252 t1255 t1280 (t1283 != t1255) a0_0 a0_1 l0_2 l0_3 a0_4 a0_5 a0_6 t1241 t1242 t1243 t1246 t1249 t1250 t1251 t1269 t1270 t1271 t1274 t1277 t1278 t1279) else (laws_FnExactStepBack.j1 kj11 a1 t1252 t1255 t1280 true a0_0 a0_1 l0_2 l0_3 a0_4 a0_5 a0_6 t1241 t1242 t1243 t1246 t1249 t1250 t1251 t1269 t1270 t1271 t1274 t1277 t1278 t1279))) else (laws_FnExactStepBack.j1 kj11 a1 t1252 t1255 t1280 true a0_0 a0_1 l0_2 l0_3 a0_4 a0_5 a0_6 t1241 t1242 t1243 t1246 t1249 t1250 t1251 t1269 t1270 t1271 t1274 t1277 t1278 t1279))))) else (some false)))) = some r := by rw [if_neg (show ¬ (false = true) by decide)] at H; exact H
     replace H := Option.bind_eq_some_iff.mp H
     obtain ⟨⟨t1287, t1288, t1289, t1292, t1295, t1296, t1297⟩, A570, H⟩ := H
     replace H : ((laws_eqEvent.f kj11 t1257 t1258 t1259 t1262 t1265 t1266 t1267 t1287 t1288 t1289 t1292 t1295 t1296 t1297).bind fun t1298 => (if t1298 = true then ((laws_markEvent.f kj11 t1257 t1258 t1259 t1262 t1265 t1266 t1267 1).bind fun bt1299 => (if bt1299.1 < 0 then (laws_FnExactStepBack.j1 kj11 a1 t1252 t1255 t1280 true a0_0 a0_1 l0_2 l0_3 a0_4 a0_5 a0_6 t1241 t1242 t1243 t1246 t1249 t1250 t1251 t1269 t1270 t1271 t1274 t1277 t1278 t1279) else ((laws_eqEvent.f kj11 t1269 t1270 t1271 t1274 t1277 t1278 t1279 t1241 t1242 t1243 t1246 t1249 t1250 t1251).bind fun t1302 => (if t1302 = true then ((laws_eqIntS.f kj11 t1280 t1252).bind fun t1303 => (if t1303 = true then (laws_FnExactStepBack.j1 kj11 a1 t1252 t1255 t1280 (t1283 != t1255) a0_0 a0_1 l0_2 l0_3 a0_4 a0_5 a0_6 t1241 t1242 t1243 t1246 t1249 t1250 t1251 t1269 t1270 t1271 t1274 t1277 t1278 t1279) else (laws_FnExactStepBack.j1 kj11 a1 t1252 t1255 t1280 true a0_0 a0_1 l0_2 l0_3 a0_4 a0_5 a0_6 t1241 t1242 t1243 t1246 t1249 t1250 t1251 t1269 t1270 t1271 t1274 t1277 t1278 t1279))) else (laws_FnExactStepBack.j1 kj11 a1 t1252 t1255 t1280 true a0_0 a0_1 l0_2 l0_3 a0_4 a0_5 a0_6 t1241 t1242 t1243 t1246 t1249 t1250 t1251 t1269 t1270 t1271 t1274 t1277 t1278 t1279))))) else (some false))) = some r := H
     have A57 := am A570
     clear A570
     replace H := Option.bind_eq_some_iff.mp H
     obtain ⟨t1298, A580, H⟩ := H
     replace H : (if t1298 = true then ((laws_markEvent.f kj11 t1257 t1258 t1259 t1262 t1265 t1266 t1267 1).bind fun bt1299 => (if bt1299.1 < 0 then (laws_FnExactStepBack.j1 kj11 a1 t1252 t1255 t1280 true a0_0 a0_1 l0_2 l0_3 a0_4 a0_5 a0_6 t1241 t1242 t1243 t1246 t1249 t1250 t1251 t1269 t1270 t1271 t1274 t1277 t1278 t1279) else ((laws_eqEvent.f kj11 t1269 t1270 t1271 t1274 t1277 t1278 t1279 t1241 t1242 t1243 t1246 t1249 t1250 t1251).bind fun t1302 => (if t1302 = true then ((laws_eqIntS.f kj11 t1280 t1252).bind fun t1303 => (if t1303 = true then (laws_FnExactStepBack.j1 kj11 a1 t1252 t1255 t1280 (t1283 != t1255) a0_0 a0_1 l0_2 l0_3 a0_4 a0_5 a0_6 t1241 t1242 t1243 t1246 t1249 t1250 t1251 t1269 t1270 t1271 t1274 t1277 t1278 t1279) else (laws_FnExactStepBack.j1 kj11 a1 t1252 t1255 t1280 true a0_0 a0_1 l0_2 l0_3 a0_4 a0_5 a0_6 t1241 t1242 t1243 t1246 t1249 t1250 t1251 t1269 t1270 t1271 t1274 t1277 t1278 t1279))) else (laws_FnExactStepBack.j1 kj11 a1 t1252 t1255 t1280 true a0_0 a0_1 l0_2 l0_3 a0_4 a0_5 a0_6 t1241 t1242 t1243 t1246 t1249 t1250 t1251 t1269 t1270 t1271 t1274 t1277 t1278 t1279))))) else (some false)) = some r := H
     have A58 := am A580
     clear A580
     by_cases c59 : t1298 = true
     ·subst c59
      replace H : ((laws_markEvent.f kj11 t1257 t1258 t1259 t1262 t1265 t1266 t1267 1).bind fun bt1299 => (if bt1299.1 < 0 then (laws_FnExactStepBack.j1 kj11 a1 t1252 t1255 t1280 true a0_0 a0_1 l0_2 l0_3 a0_4 a0_5 a0_6 t1241 t1242 t1243 t1246 t1249 t1250 t1251 t1269 t1270 t1271 t1274 t1277 t1278 t1279) else ((laws_eqEvent.f kj11 t1269 t1270 t1271 t1274 t1277 t1278 t1279 t1241 t1242 t1243 t1246 t1249 t1250 t1251).bind fun t1302 => (if t1302 = true then ((laws_eqIntS.f kj11 t1280 t1252).bind fun t1303 => (if t1303 = true then (laws_FnExactStepBack.j1 kj11 a1 t1252 t1255 t1280 (t1283 != t1255) a0_0 a0_1 l0_2 l0_3 a0_4 a0_5 a0_6 t1241 t1242 t1243 t1246 t1249 t1250 t1251 t1269 t1270 t1271 t1274 t1277 t1278 t1279) else (laws_FnExactStepBack.j1 kj11 a1 t1252 t1255 t1280 true a0_0 a0_1 l0_2 l0_3 a0_4 a0_5 a0_6 t1241 t1242 t1243 t1246 t1249 t1250 t1251 t1269 t1270 t1271 t1274 t1277 t1278 t1279))) else (laws_FnExactStepBack.j1 kj11 a1 t1252 t1255 t1280 true a0_0 a0_1 l0_2 l0_3 a0_4 a0_5 a0_6 t1241 t1242 t1243 t1246 t1249 t1250 t1251 t1269 t1270 t1271 t1274 t1277 t1278 t1279))))) = some r := by rw [if_pos rfl] at H; exact H
      replace H := Option.bind_eq_some_iff.mp H
      obtain ⟨⟨t1299, t1300, t1301⟩, A600, H⟩ := H
      replace H : (if t1299 < 0 then (laws_FnExactStepBack.j1 kj11 a1 t1252 t1255 t1280 true a0_0 a0_1 l0_2 l0_3 a0_4 a0_5 a0_6 t1241 t1242 t1243 t1246 t1249 t1250 t1251 t1269 t1270 t1271 t1274 t1277 t1278 t1279) else ((laws_eqEvent.f kj11 t1269 t1270 t1271 t1274 t1277 t1278 t1279 t1241 t1242 t1243 t1246 t1249 t1250 t1251).bind fun t1302 => (if t1302 = true then ((laws_eqIntS.f kj11 t1280 t1252).bind fun t1303 => (if t1303 = true then (laws_FnExactStepBack.j1 kj11 a1 t1252 t1255 t1280 (t1283 != t1255) a0_0 a0_1 l0_2 l0_3 a0_4 a0_5 a0_6 t1241 t1242 t1243 t1246 t1249 t1250 t1251 t1269 t1270 t1271 t1274 t1277 t1278 t1279) else (laws_FnExactStepBack.j1 kj11 a1 t1252 t1255 t1280 true a0_0 a0_1 l0_2 l0_3 a0_4 a0_5 a0_6 t1241 t1242 t1243 t1246 t1249 t1250 t1251 t1269 t1270 t1271 t1274 t1277 t1278 t1279))) else (laws_FnExactStepBack.j1 kj11 a1 t1252 t1255 t1280 true a0_0 a0_1 l0_2 l0_3 a0_4 a0_5 a0_6 t1241 t1242 t1243 t1246 t1249 t1250 t1251 t1269 t1270 t1271 t1274 t1277 t1278 t1279)))) = some r := H
      have A60 := am A600
      clear A600
      have HC61 := am H
      clear H
      try go_wp2
      replace HO_7 := am (Kd.R_drew HO_7.out)
      replace HO_11 := am (Kd.Q_drew HO_11.out)
      replace HO_1257002 := am (Kd.Q_drew HO_1257002.out)
      replace HO_1257003 := am (Kd.R_drew HO_1257003.out)
      replace HO_1269002 := am (Kd.Q_drew HO_1269002.out)
      replace HO_1269003 := am (Kd.Q_drew HO_1269003.out)
      replace HO_1285002 := am (Kd.Q_drew HO_1285002.out)
      replace HO_1285003 := am (Kd.Q_drew HO_1285003.out)
      replace BK1228 := am (blk_drew BK1228.out)
      replace BK1256 := am (blk_drew BK1256.out)
      replace BK1268 := am (blk_drew BK1268.out)
      replace BK1284 := am (blk_drew BK1284.out)
      replace HB := am (below_drew1 HB.out)
      refine start_ (n := 5) (S := fun w' => w'.cell? ⟨gb1268, 0, none⟩ = some (.bool t1257) ∧ w'.cell? ⟨gb1268, 1, none⟩ = some (.bool t1258) ∧ w'.cell? ⟨gb1268, 2, none⟩ = some (.slice Ao32 t1259.length co32) ∧ w'.cell? ⟨gb1268, 3, none⟩ = some (.slice Ao33 t1262.length co33) ∧ w'.cell? ⟨gb1268, 4, none⟩ = some (.int .i64 t1265) ∧ w'.cell? ⟨gb1268, 5, none⟩ = some (.int .i64 t1266) ∧ w'.cell? ⟨gb1268, 6, none⟩ = some (.int .i64 t1267) ∧ w'.cell? ⟨gb1228, 0, none⟩ = some (.bool a0_0) ∧ w'.cell? ⟨gb1228, 1, none⟩ = some (.bool a0_1) ∧ w'.cell? ⟨gb1228, 2, none⟩ = some (.slice A0_2 l0_2.length c0_2) ∧ w'.cell? ⟨gb1228, 3, none⟩ = some (.slice A0_3 l0_3.length c0_3) ∧ w'.cell? ⟨gb1228, 4, none⟩ = some (.int .i64 a0_4) ∧ w'.cell? ⟨gb1228, 5, none⟩ = some (.int .i64 a0_5) ∧ w'.cell? ⟨gb1228, 6, none⟩ = some (.int .i64 a0_6)) (ds := []) #[false, false, false, false, false] (by kernel_rfl) rfl rfl ⟨(blk_cell BK1268.out 0).trans rfl, (blk_cell BK1268.out 1).trans rfl, (blk_cell BK1268.out 2).trans rfl, (blk_cell BK1268.out 3).trans rfl, (blk_cell BK1268.out 4).trans rfl, (blk_cell BK1268.out 5).trans rfl, (blk_cell BK1268.out 6).trans rfl, (blk_cell BK1228.out 0).trans rfl, (blk_cell BK1228.out 1).trans rfl, (blk_cell BK1228.out 2).trans rfl, (blk_cell BK1228.out 3).trans rfl, (blk_cell BK1228.out 4).trans rfl, (blk_cell BK1228.out 5).trans rfl, (blk_cell BK1228.out 6).trans rfl⟩ (fun hHeld => ?_)
      generalize wc.drew = w62 at HO_7 HO_11 HO_1257002 HO_1257003 HO_1269002 HO_1269003 HO_1285002 HO_1285003 BK1228 BK1256 BK1268 BK1284 HB hHeld ⊢
      refine take_ (i := 0) (N := some 56) (v := ?_) (a' := ?_) #[true, false, false, false, false] rfl rfl (by kernel_rfl) (fun _ _ _ h => h) (Or.inl ⟨by rfl, ?_⟩) hHeld ?_ ?_
      rotate_left
      ·rintro w' ⟨s0, s1, s2, s3, s4, s5, s6, s7, s8, s9, s10, s11, s12, s13⟩
       go_simp
       with_reducible rfl
      rotate_left
      ·simp only [Act.put, List.setIfInBounds_toArray, List.set_cons_zero, List.set_cons_succ, i64_w, i32_w]
       rfl
      refine take_ (i := 1) (N := some 57) (v := ?_) (a' := ?_) #[true, true, false, false, false] rfl rfl (by kernel_rfl) (fun _ _ _ h => h) (Or.inl ⟨by rfl, ?_⟩) hHeld ?_ ?_
      rotate_left
      ·rintro w' ⟨s0, s1, s2, s3, s4, s5, s6, s7, s8, s9, s10, s11, s12, s13⟩
       go_simp
       with_reducible rfl
      rotate_left
      ·simp only [Act.put, List.setIfInBounds_toArray, List.set_cons_zero, List.set_cons_succ, i64_w, i32_w]
       rfl
      refine one_ (i := 2) (N := some 58) #[true, true, true, false, false] rfl rfl (by kernel_rfl) (by decide) (fun K hK => ?_)
      refine goes_ Try.func16 (by kernel_rfl) rfl #[.agg #[.bool a0_0, .bool a0_1, .slice A0_2 l0_2.length c0_2, .slice A0_3 l0_3.length c0_3, .int .i64 a0_4, .int .i64 a0_5, .int .i64 a0_6]] (by rfl) rfl rfl mpx ?_
      with_reducible refine (laws_toEvent.calls kj11 a0_0 a0_1 _ _ l0_2 _ _ l0_3 a0_4 a0_5 a0_6 t1287 t1288 t1289 t1292 t1295 t1296 t1297 _ ?side1 ?side2 ?side3 ?side4 A57.out).mono ?_
      (case side1 => exact pkC (Kd.C_below HR0_2.out HB.out))
      (case side2 => exact HC0_2.out)
      (case side3 => exact pkC (Kd.C_below HR0_3.out HB.out))
      (case side4 => exact HC0_3.out)
      rintro e w63 ⟨v1290, v1293, rfl, ho0, ho1, hb⟩
      refine ⟨_, rfl, ?_⟩
      have HO1291 := am (Kd.R_lower (Kd.R_new' (Kd.R_new' (Kd.R_new' (Kd.R_new' (Kd.R_new' (Kd.R_new' (Kd.R_new' (Kd.R_new' ho0 (Kd.R_lt (pkR HO_7.out))) (Kd.Q_lt (pkQ HO_11.out))) (Kd.Q_lt (pkQ HO_1257002.out))) (Kd.R_lt (pkR HO_1257003.out))) (Kd.Q_lt (pkQ HO_1269002.out))) (Kd.Q_lt (pkQ HO_1269003.out))) (Kd.Q_lt (pkQ HO_1285002.out))) (Kd.Q_lt (pkQ HO_1285003.out))) (below_size (pkW HB.out)))
      have HO1294 := am (Kd.R_lower (Kd.R_new' (Kd.R_new' (Kd.R_new' (Kd.R_new' (Kd.R_new' (Kd.R_new' (Kd.R_new' (Kd.R_new' ho1 (Kd.R_lt (pkR HO_7.out))) (Kd.Q_lt (pkQ HO_11.out))) (Kd.Q_lt (pkQ HO_1257002.out))) (Kd.R_lt (pkR HO_1257003.out))) (Kd.Q_lt (pkQ HO_1269002.out))) (Kd.Q_lt (pkQ HO_1269003.out))) (Kd.Q_lt (pkQ HO_1285002.out))) (Kd.Q_lt (pkQ HO_1285003.out))) (below_size (pkW HB.out)))
      replace HO_7 := am (Kd.R_mono (Kd.R_told (Kd.R_told (Kd.R_old (pkR HO_7.out) hb) (Kd.R_base ho0)) (Kd.R_base ho1)) (fun _ h_ => h_.1))
      replace HO_11 := am (Kd.Q_mono (Kd.Q_told (Kd.Q_told (Kd.Q_old (pkQ HO_11.out) hb) (Kd.R_base ho0)) (Kd.R_base ho1)) (fun _ h_ => h_.1))
      replace HO_1257002 := am (Kd.Q_mono (Kd.Q_told (Kd.Q_told (Kd.Q_old (pkQ HO_1257002.out) hb) (Kd.R_base ho0)) (Kd.R_base ho1)) (fun _ h_ => h_.1))
      replace HO_1257003 := am (Kd.R_mono (Kd.R_told (Kd.R_told (Kd.R_old (pkR HO_1257003.out) hb) (Kd.R_base ho0)) (Kd.R_base ho1)) (fun _ h_ => h_.1))
      replace HO_1269002 := am (Kd.Q_mono (Kd.Q_told (Kd.Q_told (Kd.Q_old (pkQ HO_1269002.out) hb) (Kd.R_base ho0)) (Kd.R_base ho1)) (fun _ h_ => h_.1))
      replace HO_1269003 := am (Kd.Q_mono (Kd.Q_told (Kd.Q_told (Kd.Q_old (pkQ HO_1269003.out) hb) (Kd.R_base ho0)) (Kd.R_base ho1)) (fun _ h_ => h_.1))
      replace HO_1285002 := am (Kd.Q_mono (Kd.Q_told (Kd.Q_told (Kd.Q_old (pkQ HO_1285002.out) hb) (Kd.R_base ho0)) (Kd.R_base ho1)) (fun _ h_ => h_.1))
      replace HO_1285003 := am (Kd.Q_mono (Kd.Q_told (Kd.Q_told (Kd.Q_old (pkQ HO_1285003.out) hb) (Kd.R_base ho0)) (Kd.R_base ho1)) (fun _ h_ => h_.1))
      replace BK1228 := am (blk_below (pkK BK1228.out) hb)
      replace BK1256 := am (blk_below (pkK BK1256.out) hb)
      replace BK1268 := am (blk_below (pkK BK1268.out) hb)
      replace BK1284 := am (blk_below (pkK BK1284.out) hb)
      replace HB := am (below_step (pkW HB.out) hb)
      (try clear hb); (try clear ho0 ho1)
      obtain ⟨Ao64, co64, eo64⟩ := Kd.R_slice HO1291.out
      (first | subst eo64 | (injection eo64 with f1_ f2_ f3_; have f4_ := f1_.symm; have f5_ := f3_.symm; clear f1_ f2_ f3_; subst f4_; subst f5_))
      obtain ⟨Ao65, co65, eo65⟩ := Kd.R_slice HO1294.out
      (first | subst eo65 | (injection eo65 with f1_ f2_ f3_; have f4_ := f1_.symm; have f5_ := f3_.symm; clear f1_ f2_ f3_; subst f4_; subst f5_))
      refine hK.out _ _ ⟨(blk_cell BK1268.out 0).trans rfl, (blk_cell BK1268.out 1).trans rfl, (blk_cell BK1268.out 2).trans rfl, (blk_cell BK1268.out 3).trans rfl, (blk_cell BK1268.out 4).trans rfl, (blk_cell BK1268.out 5).trans rfl, (blk_cell BK1268.out 6).trans rfl, (blk_cell BK1228.out 0).trans rfl, (blk_cell BK1228.out 1).trans rfl, (blk_cell BK1228.out 2).trans rfl, (blk_cell BK1228.out 3).trans rfl, (blk_cell BK1228.out 4).trans rfl, (blk_cell BK1228.out 5).trans rfl, (blk_cell BK1228.out 6).trans rfl⟩ (fun hHeld => ?_)
      clear hK K
      refine norm_ (a' := ?_) ?_ ?_
      rotate_left
      ·show Act.put _ (some 58) _ = _
       simp only [Act.put, List.setIfInBounds_toArray, List.set_cons_zero, List.set_cons_succ, i64_w, i32_w]
       rfl
      refine one_ (i := 3) (N := some 59) #[true, true, true, true, false] rfl rfl (by kernel_rfl) (by decide) (fun K hK => ?_)
      refine goes_ Try.func18 (by kernel_rfl) rfl #[.agg #[.bool t1257, .bool t1258, .slice Ao32 t1259.length co32, .slice Ao33 t1262.length co33, .int .i64 t1265, .int .i64 t1266, .int .i64 t1267], .agg #[.bool t1287, .bool t1288, .slice Ao64 t1289.length co64, .slice Ao65 t1292.length co65, .int .i64 t1295, .int .i64 t1296, .int .i64 t1297]] (by rfl) rfl rfl mpx ?_
      with_reducible refine (laws_eqEvent.calls kj11 t1257 t1258 _ _ t1259 _ _ t1262 t1265 t1266 t1267 t1287 t1288 _ _ t1289 _ _ t1292 t1295 t1296 t1297 true _ ?side1 ?side2 ?side3 ?side4 ?side5 ?side6 ?side7 ?side8 A58.out).mono ?_
      (case side1 => repeat (first | exact (Kd.Q_reads' HO_1269002.out).2.2 | (with_reducible refine Kd.C_alloc ?_ _) | (with_reducible refine Kd.C_drewN ?_ _) | (with_reducible refine Kd.C_drew ?_)))
      (case side2 => exact (Kd.Q_reads' HO_1269002.out).2.1)
      (case side3 => repeat (first | exact (Kd.Q_reads' HO_1269003.out).2.2 | (with_reducible refine Kd.C_alloc ?_ _) | (with_reducible refine Kd.C_drewN ?_ _) | (with_reducible refine Kd.C_drew ?_)))
      (case side4 => exact (Kd.Q_reads' HO_1269003.out).2.1)
      (case side5 => exact pkC (Kd.R_reads' HO1291.out).2.2)
      (case side6 => exact (Kd.R_reads' HO1291.out).2.1)
      (case side7 => exact pkC (Kd.R_reads' HO1294.out).2.2)
      (case side8 => exact (Kd.R_reads' HO1294.out).2.1)
      rintro e w66 ⟨rfl, hb⟩
      refine ⟨_, rfl, ?_⟩
      replace HO_7 := am (Kd.R_below (pkR HO_7.out) hb)
      replace HO_11 := am (Kd.Q_below (pkQ HO_11.out) hb)
      replace HO_1257002 := am (Kd.Q_below (pkQ HO_1257002.out) hb)
      replace HO_1257003 := am (Kd.R_below (pkR HO_1257003.out) hb)
      replace HO_1269002 := am (Kd.Q_below (pkQ HO_1269002.out) hb)
      replace HO_1269003 := am (Kd.Q_below (pkQ HO_1269003.out) hb)
      replace HO_1285002 := am (Kd.Q_below (pkQ HO_1285002.out) hb)
      replace HO_1285003 := am (Kd.Q_below (pkQ HO_1285003.out) hb)
      replace HO1291 := am (Kd.R_below (pkR HO1291.out) hb)
      replace HO1294 := am (Kd.R_below (pkR HO1294.out) hb)
      replace BK1228 := am (blk_below (pkK BK1228.out) hb)
      replace BK1256 := am (blk_below (pkK BK1256.out) hb)
      replace BK1268 := am (blk_below (pkK BK1268.out) hb)
      replace BK1284 := am (blk_below (pkK BK1284.out) hb)
      replace HB := am (below_step (pkW HB.out) hb)
      (try clear hb)
      refine hK.out _ _ ⟨(blk_cell BK1268.out 0).trans rfl, (blk_cell BK1268.out 1).trans rfl, (blk_cell BK1268.out 2).trans rfl, (blk_cell BK1268.out 3).trans rfl, (blk_cell BK1268.out 4).trans rfl, (blk_cell BK1268.out 5).trans rfl, (blk_cell BK1268.out 6).trans rfl, (blk_cell BK1228.out 0).trans rfl, (blk_cell BK1228.out 1).trans rfl, (blk_cell BK1228.out 2).trans rfl, (blk_cell BK1228.out 3).trans rfl, (blk_cell BK1228.out 4).trans rfl, (blk_cell BK1228.out 5).trans rfl, (blk_cell BK1228.out 6).trans rfl⟩ (fun hHeld => ?_)
      clear hK K
      refine norm_ (a' := ?_) ?_ ?_
      rotate_left
      ·show Act.put _ (some 59) _ = _
       simp only [Act.put, List.setIfInBounds_toArray, List.set_cons_zero, List.set_cons_succ, i64_w, i32_w]
       rfl
      refine pure_ (i := 4) (N := some 60) (v := ?_) (a' := ?_) #[true, true, true, true, true] rfl rfl (by kernel_rfl) (fun _ _ _ h => h) (Or.inl ⟨by rfl, ?_⟩) ?_ ?_
      rotate_left
      ·intro w'
       go_simp
       with_reducible rfl
      rotate_left
      ·simp only [Act.put, List.setIfInBounds_toArray, List.set_cons_zero, List.set_cons_succ, i64_w, i32_w]
       rfl
      refine done_ (by kernel_rfl) ?_
      have hnb67 := NB1268_1228.out
      have hnc67 := NB1228_1268.out
      have hnb68 := NB1268_1256.out
      have hnc68 := NB1256_1268.out
      have hnb69 := NB1268_1284.out
      have hnc69 := NB1284_1268.out
      obtain ⟨hcz70_0, hcz70_1, hcz70_2, hcz70_3, hcz70_4, hcz70_5, hcz70_6, hfz70_0, hfz70_1, hfz70_2, hfz70_3, hfz70_4, hfz70_5, hfz70_6⟩ := bk7 BK1268.out
      go_upto_region 14 with (first | ((with_reducible refine gate_callee (f := 26) rfl ?_); refine goesL_ (some 63) rfl rfl Try.func26 (by kernel_rfl) rfl #[.agg #[.bool t1257, .bool t1258, .slice Ao32 t1259.length co32, .slice Ao33 t1262.length co33, .int .i64 t1265, .int .i64 t1266, .int .i64 t1267], .int .i64 1] rfl mpx ?_; (with_reducible refine (laws_markEvent.calls kj11 t1257 t1258 (fun k_ => some k_ = (.slice Ao32 t1259.length co32 : Value).ownBlock) (.slice Ao32 t1259.length co32) t1259 (fun k_ => some k_ = (.slice Ao33 t1262.length co33 : Value).ownBlock) (.slice Ao33 t1262.length co33) t1262 t1265 t1266 t1267 1 t1299 t1300 t1301 w _ ?side1 ?side2 ?side3 ?side4 ?side5 A60.out).mono ?_); (case side1 => repeat (first | (with_reducible first | exact HB.out | apply below_alloc | apply pw_below_drewN | apply below_drew1 | refine below_set ?_ GE1228.out | refine below_set ?_ GE1256.out | refine below_set ?_ GE1268.out | refine below_set ?_ GE1284.out) | exact HB.out)); (case side2 => exact Kd.Q_tight rfl HO_1269002.out); (case side3 => exact fun k_ e_ => (HO_1269002.out.1 k_ e_.symm).1.1.2.2.2.2.1); (case side4 => exact Kd.Q_tight rfl HO_1269003.out); (case side5 => exact fun k_ e_ => (HO_1269003.out.1 k_ e_.symm).1.1.2.2.2.2.1); rintro e w71 ⟨rfl, hy0, hy1, hb, hkp⟩; refine ⟨_, rfl, ?_⟩; replace HO_7 := am (Kd.R_mono (ok' := fun k_ => some k_ ≠ (v1281 : Value).ownBlock ∧ some k_ ≠ (.slice Ao24 t1243.length co24 : Value).ownBlock ∧ some k_ ≠ (.slice Ao25 t1246.length co25 : Value).ownBlock ∧ some k_ ≠ (.slice Ao32 t1259.length co32 : Value).ownBlock ∧ some k_ ≠ (.slice Ao33 t1262.length co33 : Value).ownBlock ∧ some k_ ≠ (.slice Ao40 t1271.length co40 : Value).ownBlock ∧ some k_ ≠ (.slice Ao41 t1274.length co41 : Value).ownBlock ∧ some k_ ≠ (.slice Ao64 t1289.length co64 : Value).ownBlock ∧ some k_ ≠ (.slice Ao65 t1292.length co65 : Value).ownBlock) (Kd.R_keptB (HO_7.out) hkp (fun k_ hk_ hs_ => Or.elim hs_ (fun e_ => (hk_.1.1.2.2.2.1) e_) (fun e_ => (hk_.1.1.2.2.2.2.1) e_))) (fun k_ hk_ => ⟨hk_.1.1.1.1, hk_.1.1.1.2.1, hk_.1.1.1.2.2.1, hk_.1.1.1.2.2.2.1, hk_.1.1.1.2.2.2.2.1, hk_.1.1.1.2.2.2.2.2.1, hk_.1.1.1.2.2.2.2.2.2, hk_.1.1.2, hk_.1.2⟩)); replace HO_11 := am (Kd.Q_mono (ok' := fun k_ => some k_ ≠ (v1253 : Value).ownBlock ∧ some k_ ≠ (.slice Ao24 t1243.length co24 : Value).ownBlock ∧ some k_ ≠ (.slice Ao25 t1246.length co25 : Value).ownBlock ∧ some k_ ≠ (.slice Ao32 t1259.length co32 : Value).ownBlock ∧ some k_ ≠ (.slice Ao33 t1262.length co33 : Value).ownBlock ∧ some k_ ≠ (.slice Ao40 t1271.length co40 : Value).ownBlock ∧ some k_ ≠ (.slice Ao41 t1274.length co41 : Value).ownBlock ∧ some k_ ≠ (.slice Ao64 t1289.length co64 : Value).ownBlock ∧ some k_ ≠ (.slice Ao65 t1292.length co65 : Value).ownBlock) (Kd.Q_keptB (HO_11.out) hkp (fun k_ hk_ hs_ => Or.elim hs_ (fun e_ => (hk_.1.1.2.2.2.1) e_) (fun e_ => (hk_.1.1.2.2.2.2.1) e_))) (fun k_ hk_ => ⟨hk_.1.1.1.1, hk_.1.1.1.2.1, hk_.1.1.1.2.2.1, hk_.1.1.1.2.2.2.1, hk_.1.1.1.2.2.2.2.1, hk_.1.1.1.2.2.2.2.2.1, hk_.1.1.1.2.2.2.2.2.2, hk_.1.1.2, hk_.1.2⟩)); replace HO_1257002 := am (Kd.Q_mono (ok' := fun k_ => some k_ ≠ (v1253 : Value).ownBlock ∧ some k_ ≠ (v1281 : Value).ownBlock ∧ some k_ ≠ (.slice Ao25 t1246.length co25 : Value).ownBlock ∧ some k_ ≠ (.slice Ao32 t1259.length co32 : Value).ownBlock ∧ some k_ ≠ (.slice Ao33 t1262.length co33 : Value).ownBlock ∧ some k_ ≠ (.slice Ao40 t1271.length co40 : Value).ownBlock ∧ some k_ ≠ (.slice Ao41 t1274.length co41 : Value).ownBlock ∧ some k_ ≠ (.slice Ao64 t1289.length co64 : Value).ownBlock ∧ some k_ ≠ (.slice Ao65 t1292.length co65 : Value).ownBlock) (Kd.Q_keptB (HO_1257002.out) hkp (fun k_ hk_ hs_ => Or.elim hs_ (fun e_ => (hk_.1.1.2.2.2.1) e_) (fun e_ => (hk_.1.1.2.2.2.2.1) e_))) (fun k_ hk_ => ⟨hk_.1.1.1.1, hk_.1.1.1.2.1, hk_.1.1.1.2.2.1, hk_.1.1.1.2.2.2.1, hk_.1.1.1.2.2.2.2.1, hk_.1.1.1.2.2.2.2.2.1, hk_.1.1.1.2.2.2.2.2.2, hk_.1.1.2, hk_.1.2⟩)); replace HO_1257003 := am (Kd.R_mono (ok' := fun k_ => some k_ ≠ (v1253 : Value).ownBlock ∧ some k_ ≠ (v1281 : Value).ownBlock ∧ some k_ ≠ (.slice Ao24 t1243.length co24 : Value).ownBlock ∧ some k_ ≠ (.slice Ao32 t1259.length co32 : Value).ownBlock ∧ some k_ ≠ (.slice Ao33 t1262.length co33 : Value).ownBlock ∧ some k_ ≠ (.slice Ao40 t1271.length co40 : Value).ownBlock ∧ some k_ ≠ (.slice Ao41 t1274.length co41 : Value).ownBlock ∧ some k_ ≠ (.slice Ao64 t1289.length co64 : Value).ownBlock ∧ some k_ ≠ (.slice Ao65 t1292.length co65 : Value).ownBlock) (Kd.R_keptB (HO_1257003.out) hkp (fun k_ hk_ hs_ => Or.elim hs_ (fun e_ => (hk_.1.1.2.2.2.1) e_) (fun e_ => (hk_.1.1.2.2.2.2.1) e_))) (fun k_ hk_ => ⟨hk_.1.1.1.1, hk_.1.1.1.2.1, hk_.1.1.1.2.2.1, hk_.1.1.1.2.2.2.1, hk_.1.1.1.2.2.2.2.1, hk_.1.1.1.2.2.2.2.2.1, hk_.1.1.1.2.2.2.2.2.2, hk_.1.1.2, hk_.1.2⟩)); replace HO_1285002 := am (Kd.Q_mono (ok' := fun k_ => some k_ ≠ (v1253 : Value).ownBlock ∧ some k_ ≠ (v1281 : Value).ownBlock ∧ some k_ ≠ (.slice Ao24 t1243.length co24 : Value).ownBlock ∧ some k_ ≠ (.slice Ao25 t1246.length co25 : Value).ownBlock ∧ some k_ ≠ (.slice Ao32 t1259.length co32 : Value).ownBlock ∧ some k_ ≠ (.slice Ao33 t1262.length co33 : Value).ownBlock ∧ some k_ ≠ (.slice Ao41 t1274.length co41 : Value).ownBlock ∧ some k_ ≠ (.slice Ao64 t1289.length co64 : Value).ownBlock ∧ some k_ ≠ (.slice Ao65 t1292.length co65 : Value).ownBlock) (Kd.Q_keptB (HO_1285002.out) hkp (fun k_ hk_ hs_ => Or.elim hs_ (fun e_ => (hk_.1.1.2.2.2.2.1) e_) (fun e_ => (hk_.1.1.2.2.2.2.2.1) e_))) (fun k_ hk_ => ⟨hk_.1.1.1.1, hk_.1.1.1.2.1, hk_.1.1.1.2.2.1, hk_.1.1.1.2.2.2.1, hk_.1.1.1.2.2.2.2.1, hk_.1.1.1.2.2.2.2.2.1, hk_.1.1.1.2.2.2.2.2.2, hk_.1.1.2, hk_.1.2⟩)); replace HO_1285003 := am (Kd.Q_mono (ok' := fun k_ => some k_ ≠ (v1253 : Value).ownBlock ∧ some k_ ≠ (v1281 : Value).ownBlock ∧ some k_ ≠ (.slice Ao24 t1243.length co24 : Value).ownBlock ∧ some k_ ≠ (.slice Ao25 t1246.length co25 : Value).ownBlock ∧ some k_ ≠ (.slice Ao32 t1259.length co32 : Value).ownBlock ∧ some k_ ≠ (.slice Ao33 t1262.length co33 : Value).ownBlock ∧ some k_ ≠ (.slice Ao40 t1271.length co40 : Value).ownBlock ∧ some k_ ≠ (.slice Ao64 t1289.length co64 : Value).ownBlock ∧ some k_ ≠ (.slice Ao65 t1292.length co65 : Value).ownBlock) (Kd.Q_keptB (HO_1285003.out) hkp (fun k_ hk_ hs_ => Or.elim hs_ (fun e_ => (hk_.1.1.2.2.2.2.1) e_) (fun e_ => (hk_.1.1.2.2.2.2.2.1) e_))) (fun k_ hk_ => ⟨hk_.1.1.1.1, hk_.1.1.1.2.1, hk_.1.1.1.2.2.1, hk_.1.1.1.2.2.2.1, hk_.1.1.1.2.2.2.2.1, hk_.1.1.1.2.2.2.2.2.1, hk_.1.1.1.2.2.2.2.2.2, hk_.1.1.2, hk_.1.2⟩)); replace BK1228 := am (blk_kept (pkK BK1228.out) hkp (fun hs_ => Or.elim hs_ (fun e_ => (fun e_ => (Kd.Q_ne HO_1269002.out BK1228.out (by decide)) e_) e_) (fun e_ => (fun e_ => (Kd.Q_ne HO_1269003.out BK1228.out (by decide)) e_) e_))); replace BK1256 := am (blk_kept (pkK BK1256.out) hkp (fun hs_ => Or.elim hs_ (fun e_ => (fun e_ => (Kd.Q_ne HO_1269002.out BK1256.out (by decide)) e_) e_) (fun e_ => (fun e_ => (Kd.Q_ne HO_1269003.out BK1256.out (by decide)) e_) e_))); replace BK1268 := am (blk_kept (pkK BK1268.out) hkp (fun hs_ => Or.elim hs_ (fun e_ => (fun e_ => (Kd.Q_ne HO_1269002.out BK1268.out (by decide)) e_) e_) (fun e_ => (fun e_ => (Kd.Q_ne HO_1269003.out BK1268.out (by decide)) e_) e_))); replace BK1284 := am (blk_kept (pkK BK1284.out) hkp (fun hs_ => Or.elim hs_ (fun e_ => (fun e_ => (Kd.Q_ne HO_1269002.out BK1284.out (by decide)) e_) e_) (fun e_ => (fun e_ => (Kd.Q_ne HO_1269003.out BK1284.out (by decide)) e_) e_))); replace HO_1269002 := am (Kd.Q_reok rfl hy0 (fun k_ e_ => HO_1269002.out.1 k_ e_)); replace HO_1269003 := am (Kd.Q_reok rfl hy1 (fun k_ e_ => HO_1269003.out.1 k_ e_)); replace HO1291 := am (Kd.R_mono (ok' := fun k_ => some k_ ≠ (v1253 : Value).ownBlock ∧ some k_ ≠ (v1281 : Value).ownBlock ∧ some k_ ≠ (.slice Ao24 t1243.length co24 : Value).ownBlock ∧ some k_ ≠ (.slice Ao25 t1246.length co25 : Value).ownBlock ∧ some k_ ≠ (.slice Ao32 t1259.length co32 : Value).ownBlock ∧ some k_ ≠ (.slice Ao33 t1262.length co33 : Value).ownBlock ∧ some k_ ≠ (.slice Ao40 t1271.length co40 : Value).ownBlock ∧ some k_ ≠ (.slice Ao41 t1274.length co41 : Value).ownBlock ∧ some k_ ≠ (.slice Ao65 t1292.length co65 : Value).ownBlock) (Kd.R_keptB (HO1291.out) hkp (fun k_ hk_ hs_ => Or.elim hs_ (fun e_ => (hk_.1.1.1.2) e_) (fun e_ => (hk_.1.1.2) e_))) (fun k_ hk_ => ⟨hk_.1.1.1.1.1.1.1.1.2, hk_.1.1.1.1.1.1.1.2, hk_.1.1.1.1.1.1.2, hk_.1.1.1.1.1.2, hk_.1.1.1.1.2, hk_.1.1.1.2, hk_.1.1.2, hk_.1.2, hk_.1.1.1.1.1.1.1.1.1⟩)); replace HO1294 := am (Kd.R_mono (ok' := fun k_ => some k_ ≠ (v1253 : Value).ownBlock ∧ some k_ ≠ (v1281 : Value).ownBlock ∧ some k_ ≠ (.slice Ao24 t1243.length co24 : Value).ownBlock ∧ some k_ ≠ (.slice Ao25 t1246.length co25 : Value).ownBlock ∧ some k_ ≠ (.slice Ao32 t1259.length co32 : Value).ownBlock ∧ some k_ ≠ (.slice Ao33 t1262.length co33 : Value).ownBlock ∧ some k_ ≠ (.slice Ao40 t1271.length co40 : Value).ownBlock ∧ some k_ ≠ (.slice Ao41 t1274.length co41 : Value).ownBlock ∧ some k_ ≠ (.slice Ao64 t1289.length co64 : Value).ownBlock) (Kd.R_keptB (HO1294.out) hkp (fun k_ hk_ hs_ => Or.elim hs_ (fun e_ => (hk_.1.1.1.2) e_) (fun e_ => (hk_.1.1.2) e_))) (fun k_ hk_ => ⟨hk_.1.1.1.1.1.1.1.1.2, hk_.1.1.1.1.1.1.1.2, hk_.1.1.1.1.1.1.2, hk_.1.1.1.1.1.2, hk_.1.1.1.1.2, hk_.1.1.1.2, hk_.1.1.2, hk_.1.2, hk_.1.1.1.1.1.1.1.1.1⟩)); replace HB := am (hb); (try clear hb); (try clear hkp); (try clear hy0); (try clear hy1)))
      (try simp only [Act.put, List.setIfInBounds_toArray, List.set_cons_zero, List.set_cons_succ])
      go_cut [82] (fun v82 wc => ∃ (kq : Nat) (x82_60 : Bool), v82 = .bool x82_60 ∧ Aside0 (laws_FnExactStepBack.j1 kq a1 t1252 t1255 t1280 x82_60 a0_0 a0_1 l0_2 l0_3 a0_4 a0_5 a0_6 t1241 t1242 t1243 t1246 t1249 t1250 t1251 t1269 t1270 t1271 t1274 t1277 t1278 t1279 = some r) ∧ Aside0 (kq ≤ kj11) ∧ Aside0 (Kd.R (Kd.int .i64) 3 wc w.heap.size (fun k_ => some k_ ≠ (v1281 : Value).ownBlock ∧ some k_ ≠ ((.slice Ao24 t1243.length co24) : Value).ownBlock ∧ some k_ ≠ ((.slice Ao25 t1246.length co25) : Value).ownBlock ∧ some k_ ≠ ((.slice Ao32 t1259.length co32) : Value).ownBlock ∧ some k_ ≠ ((.slice Ao33 t1262.length co33) : Value).ownBlock ∧ some k_ ≠ ((.slice Ao40 t1271.length co40) : Value).ownBlock ∧ some k_ ≠ ((.slice Ao41 t1274.length co41) : Value).ownBlock) v1253 t1252) ∧ Aside0 (Kd.Q (Kd.int .i64) 3 wc w.heap.size (fun k_ => some k_ ≠ (v1253 : Value).ownBlock ∧ some k_ ≠ ((.slice Ao24 t1243.length co24) : Value).ownBlock ∧ some k_ ≠ ((.slice Ao25 t1246.length co25) : Value).ownBlock ∧ some k_ ≠ ((.slice Ao32 t1259.length co32) : Value).ownBlock ∧ some k_ ≠ ((.slice Ao33 t1262.length co33) : Value).ownBlock ∧ some k_ ≠ ((.slice Ao40 t1271.length co40) : Value).ownBlock ∧ some k_ ≠ ((.slice Ao41 t1274.length co41) : Value).ownBlock) v1281 t1280) ∧ Aside0 (Kd.Q (Kd.int .i64) 3 wc w.heap.size (fun k_ => some k_ ≠ (v1253 : Value).ownBlock ∧ some k_ ≠ (v1281 : Value).ownBlock ∧ some k_ ≠ ((.slice Ao25 t1246.length co25) : Value).ownBlock ∧ some k_ ≠ ((.slice Ao32 t1259.length co32) : Value).ownBlock ∧ some k_ ≠ ((.slice Ao33 t1262.length co33) : Value).ownBlock ∧ some k_ ≠ ((.slice Ao40 t1271.length co40) : Value).ownBlock ∧ some k_ ≠ ((.slice Ao41 t1274.length co41) : Value).ownBlock) (.slice Ao24 t1243.length co24) t1243) ∧ Aside0 (Kd.R (Kd.int .i64) 3 wc w.heap.size (fun k_ => some k_ ≠ (v1253 : Value).ownBlock ∧ some k_ ≠ (v1281 : Value).ownBlock ∧ some k_ ≠ ((.slice Ao24 t1243.length co24) : Value).ownBlock ∧ some k_ ≠ ((.slice Ao32 t1259.length co32) : Value).ownBlock ∧ some k_ ≠ ((.slice Ao33 t1262.length co33) : Value).ownBlock ∧ some k_ ≠ ((.slice Ao40 t1271.length co40) : Value).ownBlock ∧ some k_ ≠ ((.slice Ao41 t1274.length co41) : Value).ownBlock) (.slice Ao25 t1246.length co25) t1246) ∧ Aside0 (Kd.Q (Kd.int .i64) 3 wc w.heap.size (fun k_ => some k_ ≠ (v1253 : Value).ownBlock ∧ some k_ ≠ (v1281 : Value).ownBlock ∧ some k_ ≠ ((.slice Ao24 t1243.length co24) : Value).ownBlock ∧ some k_ ≠ ((.slice Ao25 t1246.length co25) : Value).ownBlock ∧ some k_ ≠ ((.slice Ao33 t1262.length co33) : Value).ownBlock ∧ some k_ ≠ ((.slice Ao40 t1271.length co40) : Value).ownBlock ∧ some k_ ≠ ((.slice Ao41 t1274.length co41) : Value).ownBlock) (.slice Ao32 t1259.length co32) t1300) ∧ Aside0 (Kd.Q (Kd.int .i64) 3 wc w.heap.size (fun k_ => some k_ ≠ (v1253 : Value).ownBlock ∧ some k_ ≠ (v1281 : Value).ownBlock ∧ some k_ ≠ ((.slice Ao24 t1243.length co24) : Value).ownBlock ∧ some k_ ≠ ((.slice Ao25 t1246.length co25) : Value).ownBlock ∧ some k_ ≠ ((.slice Ao32 t1259.length co32) : Value).ownBlock ∧ some k_ ≠ ((.slice Ao40 t1271.length co40) : Value).ownBlock ∧ some k_ ≠ ((.slice Ao41 t1274.length co41) : Value).ownBlock) (.slice Ao33 t1262.length co33) t1301) ∧ Aside0 (Kd.Q (Kd.int .i64) 3 wc w.heap.size (fun k_ => some k_ ≠ (v1253 : Value).ownBlock ∧ some k_ ≠ (v1281 : Value).ownBlock ∧ some k_ ≠ ((.slice Ao24 t1243.length co24) : Value).ownBlock ∧ some k_ ≠ ((.slice Ao25 t1246.length co25) : Value).ownBlock ∧ some k_ ≠ ((.slice Ao32 t1259.length co32) : Value).ownBlock ∧ some k_ ≠ ((.slice Ao33 t1262.length co33) : Value).ownBlock ∧ some k_ ≠ ((.slice Ao41 t1274.length co41) : Value).ownBlock) (.slice Ao40 t1271.length co40) t1271) ∧ Aside0 (Kd.Q (Kd.int .i64) 3 wc w.heap.size (fun k_ => some k_ ≠ (v1253 : Value).ownBlock ∧ some k_ ≠ (v1281 : Value).ownBlock ∧ some k_ ≠ ((.slice Ao24 t1243.length co24) : Value).ownBlock ∧ some k_ ≠ ((.slice Ao25 t1246.length co25) : Value).ownBlock ∧ some k_ ≠ ((.slice Ao32 t1259.length co32) : Value).ownBlock ∧ some k_ ≠ ((.slice Ao33 t1262.length co33) : Value).ownBlock ∧ some k_ ≠ ((.slice Ao40 t1271.length co40) : Value).ownBlock) (.slice Ao41 t1274.length co41) t1274) ∧ Aside0 (wc.heap[gb1228]? = some (.cells #[.bool a0_0, .bool a0_1, (.slice A0_2 l0_2.length c0_2), (.slice A0_3 l0_3.length c0_3), .int .i64 a0_4, .int .i64 a0_5, .int .i64 a0_6] 24 (0, 0))) ∧ Aside0 (wc.heap[gb1256]? = some (.cells #[.bool t1241, .bool t1242, (.slice Ao24 t1243.length co24), (.slice Ao25 t1246.length co25), .int .i64 t1249, .int .i64 t1250, .int .i64 t1251] 27 (0, 0))) ∧ Aside0 (wc.heap[gb1268]? = some (.cells #[.bool t1257, .bool t1258, (.slice Ao32 t1259.length co32), (.slice Ao33 t1262.length co33), .int .i64 t1265, .int .i64 t1266, .int .i64 t1267] 27 (0, 0))) ∧ Aside0 (wc.heap[gb1284]? = some (.cells #[.bool t1269, .bool t1270, (.slice Ao40 t1271.length co40), (.slice Ao41 t1274.length co41), .int .i64 t1277, .int .i64 t1278, .int .i64 t1279] 27 (0, 0))) ∧ Aside0 (Below w.heap.size w wc))
      case first =>
       have H := HC61.out
       clear HC61
       by_cases c72 : t1299 < 0
       ·rw [if_pos c72] at H
        have c72b0 : decide (t1299 < 0) = true := decide_eq_true c72
        clear c72
        (first | rw [c72b0] | (simp only [i64_w, i32_w]; rw [c72b0]) | skip)
        cases kj11 with
        | zero => exact absurd H (by simp [laws_FnExactStepBack.j1])
        | succ k_ => (simp only [laws_FnExactStepBack.j1, if_pos] at H; exact absurd (Option.some.inj H) (by rw [HQ_.out]; simp))
       ·rw [if_neg c72] at H
        have c72b0 : decide (t1299 < 0) = false := decide_eq_false c72
        clear c72
        (first | rw [c72b0] | (simp only [i64_w, i32_w]; rw [c72b0]) | skip)
        replace H := Option.bind_eq_some_iff.mp H
        obtain ⟨t1302, A730, H⟩ := H
        replace H : (if t1302 = true then ((laws_eqIntS.f kj11 t1280 t1252).bind fun t1303 => (if t1303 = true then (laws_FnExactStepBack.j1 kj11 a1 t1252 t1255 t1280 (t1283 != t1255) a0_0 a0_1 l0_2 l0_3 a0_4 a0_5 a0_6 t1241 t1242 t1243 t1246 t1249 t1250 t1251 t1269 t1270 t1271 t1274 t1277 t1278 t1279) else (laws_FnExactStepBack.j1 kj11 a1 t1252 t1255 t1280 true a0_0 a0_1 l0_2 l0_3 a0_4 a0_5 a0_6 t1241 t1242 t1243 t1246 t1249 t1250 t1251 t1269 t1270 t1271 t1274 t1277 t1278 t1279))) else (laws_FnExactStepBack.j1 kj11 a1 t1252 t1255 t1280 true a0_0 a0_1 l0_2 l0_3 a0_4 a0_5 a0_6 t1241 t1242 t1243 t1246 t1249 t1250 t1251 t1269 t1270 t1271 t1274 t1277 t1278 t1279)) = some r := H
        have A73 := am A730
        clear A730
        by_cases c74 : t1302 = true
        ·subst c74
         replace H : ((laws_eqIntS.f kj11 t1280 t1252).bind fun t1303 => (if t1303 = true then (laws_FnExactStepBack.j1 kj11 a1 t1252 t1255 t1280 (t1283 != t1255) a0_0 a0_1 l0_2 l0_3 a0_4 a0_5 a0_6 t1241 t1242 t1243 t1246 t1249 t1250 t1251 t1269 t1270 t1271 t1274 t1277 t1278 t1279) else (laws_FnExactStepBack.j1 kj11 a1 t1252 t1255 t1280 true a0_0 a0_1 l0_2 l0_3 a0_4 a0_5 a0_6 t1241 t1242 t1243 t1246 t1249 t1250 t1251 t1269 t1270 t1271 t1274 t1277 t1278 t1279))) = some r := by rw [if_pos rfl] at H; exact H
         replace H := Option.bind_eq_some_iff.mp H
         obtain ⟨t1303, A750, H⟩ := H
         replace H : (if t1303 = true then (laws_FnExactStepBack.j1 kj11 a1 t1252 t1255 t1280 (t1283 != t1255) a0_0 a0_1 l0_2 l0_3 a0_4 a0_5 a0_6 t1241 t1242 t1243 t1246 t1249 t1250 t1251 t1269 t1270 t1271 t1274 t1277 t1278 t1279) else (laws_FnExactStepBack.j1 kj11 a1 t1252 t1255 t1280 true a0_0 a0_1 l0_2 l0_3 a0_4 a0_5 a0_6 t1241 t1242 t1243 t1246 t1249 t1250 t1251 t1269 t1270 t1271 t1274 t1277 t1278 t1279)) = some r := H
         have A75 := am A750
         clear A750
         by_cases c76 : t1303 = true
         ·subst c76
          replace H : (laws_FnExactStepBack.j1 kj11 a1 t1252 t1255 t1280 (t1283 != t1255) a0_0 a0_1 l0_2 l0_3 a0_4 a0_5 a0_6 t1241 t1242 t1243 t1246 t1249 t1250 t1251 t1269 t1270 t1271 t1274 t1277 t1278 t1279) = some r := by rw [if_pos rfl] at H; exact H
          have H' := am H
          clear H
          have hnb77 := NB1284_1228.out
          have hnc77 := NB1228_1284.out
          have hnb78 := NB1284_1256.out
          have hnc78 := NB1256_1284.out
          have hnb79 := NB1284_1268.out
          have hnc79 := NB1268_1284.out
          obtain ⟨hcz80_0, hcz80_1, hcz80_2, hcz80_3, hcz80_4, hcz80_5, hcz80_6, hfz80_0, hfz80_1, hfz80_2, hfz80_3, hfz80_4, hfz80_5, hfz80_6⟩ := bk7 BK1284.out
          have hnb81 := NB1256_1228.out
          have hnc81 := NB1228_1256.out
          have hnb82 := NB1256_1268.out
          have hnc82 := NB1268_1256.out
          obtain ⟨hcz83_0, hcz83_1, hcz83_2, hcz83_3, hcz83_4, hcz83_5, hcz83_6, hfz83_0, hfz83_1, hfz83_2, hfz83_3, hfz83_4, hfz83_5, hfz83_6⟩ := bk7 BK1256.out
          go_wp2_with (first | (go_at_call 18; (with_reducible refine (laws_eqEvent.calls kj11 t1269 t1270 _ _ t1271 _ _ t1274 t1277 t1278 t1279 t1241 t1242 _ _ t1243 _ _ t1246 t1249 t1250 t1251 true _ ?side1 ?side2 ?side3 ?side4 ?side5 ?side6 ?side7 ?side8 A73.out).mono ?_); (case side1 => repeat (first | exact (Kd.Q_reads' HO_1285002.out).2.2 | (with_reducible refine Kd.C_alloc ?_ _) | (with_reducible refine Kd.C_drewN ?_ _) | (with_reducible refine Kd.C_drew ?_))); (case side2 => exact (Kd.Q_reads' HO_1285002.out).2.1); (case side3 => repeat (first | exact (Kd.Q_reads' HO_1285003.out).2.2 | (with_reducible refine Kd.C_alloc ?_ _) | (with_reducible refine Kd.C_drewN ?_ _) | (with_reducible refine Kd.C_drew ?_))); (case side4 => exact (Kd.Q_reads' HO_1285003.out).2.1); (case side5 => repeat (first | exact (Kd.Q_reads' HO_1257002.out).2.2 | (with_reducible refine Kd.C_alloc ?_ _) | (with_reducible refine Kd.C_drewN ?_ _) | (with_reducible refine Kd.C_drew ?_))); (case side6 => exact (Kd.Q_reads' HO_1257002.out).2.1); (case side7 => exact pkC (Kd.R_reads' HO_1257003.out).2.2); (case side8 => exact (Kd.R_reads' HO_1257003.out).2.1); rintro e w84 ⟨rfl, hb⟩; replace HO_7 := am (Kd.R_below (pkR HO_7.out) hb); replace HO_11 := am (Kd.Q_below (pkQ HO_11.out) hb); replace HO_1257002 := am (Kd.Q_below (pkQ HO_1257002.out) hb); replace HO_1257003 := am (Kd.R_below (pkR HO_1257003.out) hb); replace HO_1269002 := am (Kd.Q_below (pkQ HO_1269002.out) hb); replace HO_1269003 := am (Kd.Q_below (pkQ HO_1269003.out) hb); replace HO_1285002 := am (Kd.Q_below (pkQ HO_1285002.out) hb); replace HO_1285003 := am (Kd.Q_below (pkQ HO_1285003.out) hb); replace HO1291 := am (Kd.R_below (pkR HO1291.out) hb); replace HO1294 := am (Kd.R_below (pkR HO1294.out) hb); replace BK1228 := am (blk_below (pkK BK1228.out) hb); replace BK1256 := am (blk_below (pkK BK1256.out) hb); replace BK1268 := am (blk_below (pkK BK1268.out) hb); replace BK1284 := am (blk_below (pkK BK1284.out) hb); replace HB := am (below_step (pkW HB.out) hb); (try clear hb); obtain ⟨Ao85, co85, eo85, _⟩ := Kd.Q_slice HO_11.out; subst eo85; obtain ⟨Ao86, co86, eo86⟩ := Kd.R_slice HO_7.out; subst eo86) | (go_at_call 34; (with_reducible refine (laws_eqIntS.calls kj11 _ _ t1280 _ _ t1252 true _ ?side1 ?side2 ?side3 ?side4 A75.out).mono ?_); (case side1 => repeat (first | exact (Kd.Q_reads' HO_11.out).2.2 | (with_reducible refine Kd.C_alloc ?_ _) | (with_reducible refine Kd.C_drewN ?_ _) | (with_reducible refine Kd.C_drew ?_))); (case side2 => exact (Kd.Q_reads' HO_11.out).2.1); (case side3 => exact pkC (Kd.R_reads' HO_7.out).2.2); (case side4 => exact (Kd.R_reads' HO_7.out).2.1); rintro e w' ⟨rfl, ⟨nd, rfl⟩⟩))
          go_meet
          case rel => exact ⟨_, ((t1283 != t1255)), rfx, H', ⟨by have := HJ11.out; first | omega | exact Nat.le_refl _⟩, ⟨by (with_reducible repeat (first | apply Kd.R_alloc | apply Kd.R_drewN | apply Kd.R_drew)); exact Kd.R_mono HO_7.out (fun _ hk => ⟨hk.1, ⟨hk.2.1, ⟨hk.2.2.1, ⟨hk.2.2.2.1, ⟨hk.2.2.2.2.1, ⟨hk.2.2.2.2.2.1, hk.2.2.2.2.2.2.1⟩⟩⟩⟩⟩⟩)⟩, ⟨by (with_reducible repeat (first | apply Kd.Q_alloc | apply Kd.Q_drewN | apply Kd.Q_drew)); exact Kd.Q_mono HO_11.out (fun _ hk => ⟨hk.1, ⟨hk.2.1, ⟨hk.2.2.1, ⟨hk.2.2.2.1, ⟨hk.2.2.2.2.1, ⟨hk.2.2.2.2.2.1, hk.2.2.2.2.2.2.1⟩⟩⟩⟩⟩⟩)⟩, ⟨by (with_reducible repeat (first | apply Kd.Q_alloc | apply Kd.Q_drewN | apply Kd.Q_drew)); exact Kd.Q_mono HO_1257002.out (fun _ hk => ⟨hk.1, ⟨hk.2.1, ⟨hk.2.2.1, ⟨hk.2.2.2.1, ⟨hk.2.2.2.2.1, ⟨hk.2.2.2.2.2.1, hk.2.2.2.2.2.2.1⟩⟩⟩⟩⟩⟩)⟩, ⟨by (with_reducible repeat (first | apply Kd.R_alloc | apply Kd.R_drewN | apply Kd.R_drew)); exact Kd.R_mono HO_1257003.out (fun _ hk => ⟨hk.1, ⟨hk.2.1, ⟨hk.2.2.1, ⟨hk.2.2.2.1, ⟨hk.2.2.2.2.1, ⟨hk.2.2.2.2.2.1, hk.2.2.2.2.2.2.1⟩⟩⟩⟩⟩⟩)⟩, ⟨by (with_reducible repeat (first | apply Kd.Q_alloc | apply Kd.Q_drewN | apply Kd.Q_drew)); exact Kd.Q_mono HO_1269002.out (fun _ hk => ⟨hk.1.1.1, ⟨hk.1.1.2.1, ⟨hk.1.1.2.2.1, ⟨hk.1.1.2.2.2.1, ⟨hk.1.1.2.2.2.2.1, ⟨hk.1.1.2.2.2.2.2.1, hk.1.1.2.2.2.2.2.2⟩⟩⟩⟩⟩⟩)⟩, ⟨by (with_reducible repeat (first | apply Kd.Q_alloc | apply Kd.Q_drewN | apply Kd.Q_drew)); exact Kd.Q_mono HO_1269003.out (fun _ hk => ⟨hk.1.1.1, ⟨hk.1.1.2.1, ⟨hk.1.1.2.2.1, ⟨hk.1.1.2.2.2.1, ⟨hk.1.1.2.2.2.2.1, ⟨hk.1.1.2.2.2.2.2.1, hk.1.1.2.2.2.2.2.2⟩⟩⟩⟩⟩⟩)⟩, ⟨by (with_reducible repeat (first | apply Kd.Q_alloc | apply Kd.Q_drewN | apply Kd.Q_drew)); exact Kd.Q_mono HO_1285002.out (fun _ hk => ⟨hk.1, ⟨hk.2.1, ⟨hk.2.2.1, ⟨hk.2.2.2.1, ⟨hk.2.2.2.2.1, ⟨hk.2.2.2.2.2.1, hk.2.2.2.2.2.2.1⟩⟩⟩⟩⟩⟩)⟩, ⟨by (with_reducible repeat (first | apply Kd.Q_alloc | apply Kd.Q_drewN | apply Kd.Q_drew)); exact Kd.Q_mono HO_1285003.out (fun _ hk => ⟨hk.1, ⟨hk.2.1, ⟨hk.2.2.1, ⟨hk.2.2.2.1, ⟨hk.2.2.2.2.1, ⟨hk.2.2.2.2.2.1, hk.2.2.2.2.2.2.1⟩⟩⟩⟩⟩⟩)⟩, ⟨pkK BK1228.out⟩, ⟨pkK BK1256.out⟩, ⟨pkK BK1268.out⟩, ⟨pkK BK1284.out⟩, ⟨pkW HB.out⟩⟩
         ·replace c76 := Bool.eq_false_iff.mpr c76
          subst c76
          replace H : (laws_FnExactStepBack.j1 kj11 a1 t1252 t1255 t1280 true a0_0 a0_1 l0_2 l0_3 a0_4 a0_5 a0_6 t1241 t1242 t1243 t1246 t1249 t1250 t1251 t1269 t1270 t1271 t1274 t1277 t1278 t1279) = some r := by rw [if_neg (show ¬ (false = true) by decide)] at H; exact H
          cases kj11 with
          | zero => exact absurd H (by simp [laws_FnExactStepBack.j1])
          | succ k_ => (simp only [laws_FnExactStepBack.j1, if_pos] at H; exact absurd (Option.some.inj H) (by rw [HQ_.out]; simp))
        ·replace c74 := Bool.eq_false_iff.mpr c74
         subst c74
         replace H : (laws_FnExactStepBack.j1 kj11 a1 t1252 t1255 t1280 true a0_0 a0_1 l0_2 l0_3 a0_4 a0_5 a0_6 t1241 t1242 t1243 t1246 t1249 t1250 t1251 t1269 t1270 t1271 t1274 t1277 t1278 t1279) = some r := by rw [if_neg (show ¬ (false = true) by decide)] at H; exact H
         cases kj11 with
         | zero => exact absurd H (by simp [laws_FnExactStepBack.j1])
         | succ k_ => (simp only [laws_FnExactStepBack.j1, if_pos] at H; exact absurd (Option.some.inj H) (by rw [HQ_.out]; simp))
      case rest =>
       clear HC61
       try clear c1
       try clear c2
       try clear p2
       try clear c3
       try clear c4
       try clear c4b0
       try clear c5
       try clear c6
       try clear c7
       try clear c8
       try clear c10
       try clear c14
       try clear c16
       try clear c18
       try clear c22
       try clear c26
       try clear c29
       try clear c30
       try clear c36
       try clear c37
       try clear c38
       try clear c41
       try clear c42
       try clear c43
       try clear c45
       try clear c46
       try clear c47
       try clear c48
       try clear c50
       try clear c51
       try clear c56
       try clear c59
       try clear c67
       try clear c68
       try clear c69
       try clear c72
       try clear c72b0
       try clear c74
       try clear c76
       try clear c77
       try clear c78
       try clear c79
       try clear c81
       try clear c82
       try clear hcz14_0
       try clear hcz14_1
       try clear hcz14_2
       try clear hcz14_3
       try clear hcz14_4
       try clear hcz14_5
       try clear hcz14_6
       try clear hcz16_0
       try clear hcz16_1
       try clear hcz16_2
       try clear hcz16_3
       try clear hcz16_4
       try clear hcz16_5
       try clear hcz16_6
       try clear hcz23_0
       try clear hcz23_1
       try clear hcz23_2
       try clear hcz23_3
       try clear hcz23_4
       try clear hcz23_5
       try clear hcz23_6
       try clear hcz26_0
       try clear hcz26_1
       try clear hcz26_2
       try clear hcz26_3
       try clear hcz26_4
       try clear hcz26_5
       try clear hcz26_6
       try clear hcz31_0
       try clear hcz31_1
       try clear hcz31_2
       try clear hcz31_3
       try clear hcz31_4
       try clear hcz31_5
       try clear hcz31_6
       try clear hcz39_0
       try clear hcz39_1
       try clear hcz39_2
       try clear hcz39_3
       try clear hcz39_4
       try clear hcz39_5
       try clear hcz39_6
       try clear hcz49_0
       try clear hcz49_1
       try clear hcz49_2
       try clear hcz49_3
       try clear hcz49_4
       try clear hcz49_5
       try clear hcz49_6
       try clear hcz52_0
       try clear hcz52_1
       try clear hcz52_2
       try clear hcz52_3
       try clear hcz52_4
       try clear hcz52_5
       try clear hcz52_6
       try clear hcz6_0
       try clear hcz6_1
       try clear hcz6_2
       try clear hcz6_3
       try clear hcz6_4
       try clear hcz6_5
       try clear hcz6_6
       try clear hcz70_0
       try clear hcz70_1
       try clear hcz70_2
       try clear hcz70_3
       try clear hcz70_4
       try clear hcz70_5
       try clear hcz70_6
       try clear hcz80_0
       try clear hcz80_1
       try clear hcz80_2
       try clear hcz80_3
       try clear hcz80_4
       try clear hcz80_5
       try clear hcz80_6
       try clear hcz83_0
       try clear hcz83_1
       try clear hcz83_2
       try clear hcz83_3
       try clear hcz83_4
       try clear hcz83_5
       try clear hcz83_6
       try clear hfz14_0
       try clear hfz14_1
       try clear hfz14_2
       try clear hfz14_3
       try clear hfz14_4
       try clear hfz14_5
       try clear hfz14_6
       try clear hfz16_0
       try clear hfz16_1
       try clear hfz16_2
       try clear hfz16_3
       try clear hfz16_4
       try clear hfz16_5
       try clear hfz16_6
       try clear hfz23_0
       try clear hfz23_1
       try clear hfz23_2
       try clear hfz23_3
       try clear hfz23_4
       try clear hfz23_5
       try clear hfz23_6
       try clear hfz26_0
       try clear hfz26_1
       try clear hfz26_2
       try clear hfz26_3
       try clear hfz26_4
       try clear hfz26_5
       try clear hfz26_6
       try clear hfz31_0
       try clear hfz31_1
       try clear hfz31_2
       try clear hfz31_3
       try clear hfz31_4
       try clear hfz31_5
       try clear hfz31_6
       try clear hfz39_0
       try clear hfz39_1
       try clear hfz39_2
       try clear hfz39_3
       try clear hfz39_4
       try clear hfz39_5
       try clear hfz39_6
       try clear hfz49_0
       try clear hfz49_1
       try clear hfz49_2
       try clear hfz49_3
       try clear hfz49_4
       try clear hfz49_5
       try clear hfz49_6
       try clear hfz52_0
       try clear hfz52_1
       try clear hfz52_2
       try clear hfz52_3
       try clear hfz52_4
       try clear hfz52_5
       try clear hfz52_6
       try clear hfz6_0
       try clear hfz6_1
       try clear hfz6_2
       try clear hfz6_3
       try clear hfz6_4
       try clear hfz6_5
       try clear hfz6_6
       try clear hfz70_0
       try clear hfz70_1
       try clear hfz70_2
       try clear hfz70_3
       try clear hfz70_4
       try clear hfz70_5
       try clear hfz70_6
       try clear hfz80_0
       try clear hfz80_1
       try clear hfz80_2
       try clear hfz80_3
       try clear hfz80_4
       try clear hfz80_5
       try clear hfz80_6
       try clear hfz83_0
       try clear hfz83_1
       try clear hfz83_2
       try clear hfz83_3
       try clear hfz83_4
       try clear hfz83_5
       try clear hfz83_6
       try clear p2
       obtain ⟨kq, x82_60, rfl, HA, HJ60, HO_7, HO_11, HO_1257002, HO_1257003, HO_1269002, HO_1269003, HO_1285002, HO_1285003, BK1228, BK1256, BK1268, BK1284, HB⟩ := hcut
       have hl1269002_60 := (Kd.Q_reads' HO_1269002.out).1
       rw [hl1269002_60] at HO_1269002
       (try simp only [hl1269002_60])
       (try simp only [hl1269002_60] at BK1228)
       (try simp only [hl1269002_60] at BK1256)
       (try simp only [hl1269002_60] at BK1268)
       (try simp only [hl1269002_60] at BK1284)
       (try simp only [hl1269002_60] at HO_7)
       (try simp only [hl1269002_60] at HO_11)
       (try simp only [hl1269002_60] at HO_1257002)
       (try simp only [hl1269002_60] at HO_1257003)
       (try simp only [hl1269002_60] at HO_1269003)
       (try simp only [hl1269002_60] at HO_1285002)
       (try simp only [hl1269002_60] at HO_1285003)
       have hl1269003_60 := (Kd.Q_reads' HO_1269003.out).1
       rw [hl1269003_60] at HO_1269003
       (try simp only [hl1269003_60])
       (try simp only [hl1269003_60] at BK1228)
       (try simp only [hl1269003_60] at BK1256)
       (try simp only [hl1269003_60] at BK1268)
       (try simp only [hl1269003_60] at BK1284)
       (try simp only [hl1269003_60] at HO_7)
       (try simp only [hl1269003_60] at HO_11)
       (try simp only [hl1269003_60] at HO_1257002)
       (try simp only [hl1269003_60] at HO_1257003)
       (try simp only [hl1269003_60] at HO_1269002)
       (try simp only [hl1269003_60] at HO_1285002)
       (try simp only [hl1269003_60] at HO_1285003)
       cases kq with
       | zero => exact absurd HA.out (by simp [laws_FnExactStepBack.j1])
       | succ kj60 =>
        have H := HA.out
        clear HA
        simp only [laws_FnExactStepBack.j1] at H
        by_cases c87 : x82_60 = true
        ·subst c87
         replace H : (some false) = some r := by rw [if_pos rfl] at H; exact H
         exact absurd (Option.some.inj H) (by rw [HQ_.out]; simp)
        ·replace c87 := Bool.eq_false_iff.mpr c87
         subst c87
         replace H : ((laws_markEvent.f kj60 t1269 t1270 t1271 t1274 t1277 t1278 t1279 1).bind fun bt1304 => ((laws_markIntS.f kj60 t1280 bt1304.1).bind fun bt1307 => ((laws_heldEvent.f kj60 t1269 t1270 bt1304.2.1 bt1304.2.2 t1277 t1278 t1279 1).bind fun t1309 => (if t1309 < 0 then (some false) else ((laws_heldIntS.f kj60 bt1307.2 t1309).bind fun t1310 => (if t1310 < 0 then (some false) else (if t1310 = bt1307.1 then ((laws_toEvent.f kj60 a0_0 a0_1 l0_2 l0_3 a0_4 a0_5 a0_6).bind fun bt1311 => ((impl_StepBack.f kj60 bt1311.1 bt1311.2.1 bt1311.2.2.1 bt1311.2.2.2.1 bt1311.2.2.2.2.1 bt1311.2.2.2.2.2.1 bt1311.2.2.2.2.2.2 a1).bind fun bt1322 => ((laws_eqEvent.f kj60 bt1322.1 bt1322.2.1 bt1322.2.2.1 bt1322.2.2.2.1 bt1322.2.2.2.2.1 bt1322.2.2.2.2.2.1 bt1322.2.2.2.2.2.2.1 t1241 t1242 t1243 t1246 t1249 t1250 t1251).bind fun t1338 => (if t1338 = true then ((laws_eqIntS.f kj60 bt1322.2.2.2.2.2.2.2.1 t1252).bind fun t1339 => (if t1339 = true then (laws_FnExactStepBack.j2 kj60 bt1307.2 bt1307.1 (bt1322.2.2.2.2.2.2.2.2 != t1255) t1269 t1270 bt1304.2.1 bt1304.2.2 t1277 t1278 t1279) else (laws_FnExactStepBack.j2 kj60 bt1307.2 bt1307.1 true t1269 t1270 bt1304.2.1 bt1304.2.2 t1277 t1278 t1279))) else (laws_FnExactStepBack.j2 kj60 bt1307.2 bt1307.1 true t1269 t1270 bt1304.2.1 bt1304.2.2 t1277 t1278 t1279))))) else (some false)))))))) = some r := by rw [if_neg (show ¬ (false = true) by decide)] at H; exact H
         replace H := Option.bind_eq_some_iff.mp H
         obtain ⟨⟨t1304, t1305, t1306⟩, A880, H⟩ := H
         replace H : ((laws_markIntS.f kj60 t1280 t1304).bind fun bt1307 => ((laws_heldEvent.f kj60 t1269 t1270 t1305 t1306 t1277 t1278 t1279 1).bind fun t1309 => (if t1309 < 0 then (some false) else ((laws_heldIntS.f kj60 bt1307.2 t1309).bind fun t1310 => (if t1310 < 0 then (some false) else (if t1310 = bt1307.1 then ((laws_toEvent.f kj60 a0_0 a0_1 l0_2 l0_3 a0_4 a0_5 a0_6).bind fun bt1311 => ((impl_StepBack.f kj60 bt1311.1 bt1311.2.1 bt1311.2.2.1 bt1311.2.2.2.1 bt1311.2.2.2.2.1 bt1311.2.2.2.2.2.1 bt1311.2.2.2.2.2.2 a1).bind fun bt1322 => ((laws_eqEvent.f kj60 bt1322.1 bt1322.2.1 bt1322.2.2.1 bt1322.2.2.2.1 bt1322.2.2.2.2.1 bt1322.2.2.2.2.2.1 bt1322.2.2.2.2.2.2.1 t1241 t1242 t1243 t1246 t1249 t1250 t1251).bind fun t1338 => (if t1338 = true then ((laws_eqIntS.f kj60 bt1322.2.2.2.2.2.2.2.1 t1252).bind fun t1339 => (if t1339 = true then (laws_FnExactStepBack.j2 kj60 bt1307.2 bt1307.1 (bt1322.2.2.2.2.2.2.2.2 != t1255) t1269 t1270 t1305 t1306 t1277 t1278 t1279) else (laws_FnExactStepBack.j2 kj60 bt1307.2 bt1307.1 true t1269 t1270 t1305 t1306 t1277 t1278 t1279))) else (laws_FnExactStepBack.j2 kj60 bt1307.2 bt1307.1 true t1269 t1270 t1305 t1306 t1277 t1278 t1279))))) else (some false))))))) = some r := H
         have A88 := am A880
         clear A880
         replace H := Option.bind_eq_some_iff.mp H
         obtain ⟨⟨t1307, t1308⟩, A890, H⟩ := H
         replace H : ((laws_heldEvent.f kj60 t1269 t1270 t1305 t1306 t1277 t1278 t1279 1).bind fun t1309 => (if t1309 < 0 then (some false) else ((laws_heldIntS.f kj60 t1308 t1309).bind fun t1310 => (if t1310 < 0 then (some false) else (if t1310 = t1307 then ((laws_toEvent.f kj60 a0_0 a0_1 l0_2 l0_3 a0_4 a0_5 a0_6).bind fun bt1311 => ((impl_StepBack.f kj60 bt1311.1 bt1311.2.1 bt1311.2.2.1 bt1311.2.2.2.1 bt1311.2.2.2.2.1 bt1311.2.2.2.2.2.1 bt1311.2.2.2.2.2.2 a1).bind fun bt1322 => ((laws_eqEvent.f kj60 bt1322.1 bt1322.2.1 bt1322.2.2.1 bt1322.2.2.2.1 bt1322.2.2.2.2.1 bt1322.2.2.2.2.2.1 bt1322.2.2.2.2.2.2.1 t1241 t1242 t1243 t1246 t1249 t1250 t1251).bind fun t1338 => (if t1338 = true then ((laws_eqIntS.f kj60 bt1322.2.2.2.2.2.2.2.1 t1252).bind fun t1339 => (if t1339 = true then (laws_FnExactStepBack.j2 kj60 t1308 t1307 (bt1322.2.2.2.2.2.2.2.2 != t1255) t1269 t1270 t1305 t1306 t1277 t1278 t1279) else (laws_FnExactStepBack.j2 kj60 t1308 t1307 true t1269 t1270 t1305 t1306 t1277 t1278 t1279))) else (laws_FnExactStepBack.j2 kj60 t1308 t1307 true t1269 t1270 t1305 t1306 t1277 t1278 t1279))))) else (some false)))))) = some r := H
         have A89 := am A890
         clear A890
         replace H := Option.bind_eq_some_iff.mp H
         obtain ⟨t1309, A900, H⟩ := H
         replace H : (if t1309 < 0 then (some false) else ((laws_heldIntS.f kj60 t1308 t1309).bind fun t1310 => (if t1310 < 0 then (some false) else (if t1310 = t1307 then ((laws_toEvent.f kj60 a0_0 a0_1 l0_2 l0_3 a0_4 a0_5 a0_6).bind fun bt1311 => ((impl_StepBack.f kj60 bt1311.1 bt1311.2.1 bt1311.2.2.1 bt1311.2.2.2.1 bt1311.2.2.2.2.1 bt1311.2.2.2.2.2.1 bt1311.2.2.2.2.2.2 a1).bind fun bt1322 => ((laws_eqEvent.f kj60 bt1322.1 bt1322.2.1 bt1322.2.2.1 bt1322.2.2.2.1 bt1322.2.2.2.2.1 bt1322.2.2.2.2.2.1 bt1322.2.2.2.2.2.2.1 t1241 t1242 t1243 t1246 t1249 t1250 t1251).bind fun t1338 => (if t1338 = true then ((laws_eqIntS.f kj60 bt1322.2.2.2.2.2.2.2.1 t1252).bind fun t1339 => (if t1339 = true then (laws_FnExactStepBack.j2 kj60 t1308 t1307 (bt1322.2.2.2.2.2.2.2.2 != t1255) t1269 t1270 t1305 t1306 t1277 t1278 t1279) else (laws_FnExactStepBack.j2 kj60 t1308 t1307 true t1269 t1270 t1305 t1306 t1277 t1278 t1279))) else (laws_FnExactStepBack.j2 kj60 t1308 t1307 true t1269 t1270 t1305 t1306 t1277 t1278 t1279))))) else (some false))))) = some r := H
         have A90 := am A900
         clear A900
         by_cases c91 : t1309 < 0
         ·rw [if_pos c91] at H
          have c91b0 : decide (t1309 < 0) = true := decide_eq_true c91
          clear c91
          exact absurd (Option.some.inj H) (by rw [HQ_.out]; simp)
         ·rw [if_neg c91] at H
          have c91b0 : decide (t1309 < 0) = false := decide_eq_false c91
          clear c91
          replace H := Option.bind_eq_some_iff.mp H
          obtain ⟨t1310, A920, H⟩ := H
          replace H : (if t1310 < 0 then (some false) else (if t1310 = t1307 then ((laws_toEvent.f kj60 a0_0 a0_1 l0_2 l0_3 a0_4 a0_5 a0_6).bind fun bt1311 => ((impl_StepBack.f kj60 bt1311.1 bt1311.2.1 bt1311.2.2.1 bt1311.2.2.2.1 bt1311.2.2.2.2.1 bt1311.2.2.2.2.2.1 bt1311.2.2.2.2.2.2 a1).bind fun bt1322 => ((laws_eqEvent.f kj60 bt1322.1 bt1322.2.1 bt1322.2.2.1 bt1322.2.2.2.1 bt1322.2.2.2.2.1 bt1322.2.2.2.2.2.1 bt1322.2.2.2.2.2.2.1 t1241 t1242 t1243 t1246 t1249 t1250 t1251).bind fun t1338 => (if t1338 = true then ((laws_eqIntS.f kj60 bt1322.2.2.2.2.2.2.2.1 t1252).bind fun t1339 => (if t1339 = true then (laws_FnExactStepBack.j2 kj60 t1308 t1307 (bt1322.2.2.2.2.2.2.2.2 != t1255) t1269 t1270 t1305 t1306 t1277 t1278 t1279) else (laws_FnExactStepBack.j2 kj60 t1308 t1307 true t1269 t1270 t1305 t1306 t1277 t1278 t1279))) else (laws_FnExactStepBack.j2 kj60 t1308 t1307 true t1269 t1270 t1305 t1306 t1277 t1278 t1279))))) else (some false))) = some r := H
          have A92 := am A920
          clear A920
          by_cases c93 : t1310 < 0
          ·rw [if_pos c93] at H
           have c93b0 : decide (t1310 < 0) = true := decide_eq_true c93
           clear c93
           exact absurd (Option.some.inj H) (by rw [HQ_.out]; simp)
          ·rw [if_neg c93] at H
           have c93b0 : decide (t1310 < 0) = false := decide_eq_false c93
           clear c93
           by_cases c94 : t1310 = t1307
           ·rw [if_pos c94] at H
            have c94b0 : (t1310 == t1307) = true := beq_iff_eq.mpr c94
            have c94b1 : (t1310 != t1307) = false := bne_eq_false_iff_eq.mpr c94
            clear c94
            replace H := Option.bind_eq_some_iff.mp H
            obtain ⟨⟨t1311, t1312, t1313, t1316, t1319, t1320, t1321⟩, A950, H⟩ := H
            replace H : ((impl_StepBack.f kj60 t1311 t1312 t1313 t1316 t1319 t1320 t1321 a1).bind fun bt1322 => ((laws_eqEvent.f kj60 bt1322.1 bt1322.2.1 bt1322.2.2.1 bt1322.2.2.2.1 bt1322.2.2.2.2.1 bt1322.2.2.2.2.2.1 bt1322.2.2.2.2.2.2.1 t1241 t1242 t1243 t1246 t1249 t1250 t1251).bind fun t1338 => (if t1338 = true then ((laws_eqIntS.f kj60 bt1322.2.2.2.2.2.2.2.1 t1252).bind fun t1339 => (if t1339 = true then (laws_FnExactStepBack.j2 kj60 t1308 t1307 (bt1322.2.2.2.2.2.2.2.2 != t1255) t1269 t1270 t1305 t1306 t1277 t1278 t1279) else (laws_FnExactStepBack.j2 kj60 t1308 t1307 true t1269 t1270 t1305 t1306 t1277 t1278 t1279))) else (laws_FnExactStepBack.j2 kj60 t1308 t1307 true t1269 t1270 t1305 t1306 t1277 t1278 t1279)))) = some r := H
            have A95 := am A950
            clear A950
            replace H := Option.bind_eq_some_iff.mp H
            obtain ⟨⟨t1322, t1323, t1324, t1327, t1330, t1331, t1332, t1333, t1336⟩, A960, H⟩ := H
            replace H : ((laws_eqEvent.f kj60 t1322 t1323 t1324 t1327 t1330 t1331 t1332 t1241 t1242 t1243 t1246 t1249 t1250 t1251).bind fun t1338 => (if t1338 = true then ((laws_eqIntS.f kj60 t1333 t1252).bind fun t1339 => (if t1339 = true then (laws_FnExactStepBack.j2 kj60 t1308 t1307 (t1336 != t1255) t1269 t1270 t1305 t1306 t1277 t1278 t1279) else (laws_FnExactStepBack.j2 kj60 t1308 t1307 true t1269 t1270 t1305 t1306 t1277 t1278 t1279))) else (laws_FnExactStepBack.j2 kj60 t1308 t1307 true t1269 t1270 t1305 t1306 t1277 t1278 t1279))) = some r := H
            have A96 := am A960
            clear A960
            have HC97 := am H
            clear H
            have hnb98 := NB1284_1228.out
            have hnc98 := NB1228_1284.out
            have hnb99 := NB1284_1256.out
            have hnc99 := NB1256_1284.out
            have hnb100 := NB1284_1268.out
            have hnc100 := NB1268_1284.out
            obtain ⟨hcz101_0, hcz101_1, hcz101_2, hcz101_3, hcz101_4, hcz101_5, hcz101_6, hfz101_0, hfz101_1, hfz101_2, hfz101_3, hfz101_4, hfz101_5, hfz101_6⟩ := bk7 BK1284.out
            go_upto_region 29 with (first | ((with_reducible refine gate_callee (f := 26) rfl ?_); refine goesL_ (some 85) rfl rfl Try.func26 (by kernel_rfl) rfl #[.agg #[.bool t1269, .bool t1270, .slice Ao40 t1271.length co40, .slice Ao41 t1274.length co41, .int .i64 t1277, .int .i64 t1278, .int .i64 t1279], .int .i64 1] rfl mpx ?_; (with_reducible refine (laws_markEvent.calls kj60 t1269 t1270 (fun k_ => some k_ = (.slice Ao40 t1271.length co40 : Value).ownBlock) (.slice Ao40 t1271.length co40) t1271 (fun k_ => some k_ = (.slice Ao41 t1274.length co41 : Value).ownBlock) (.slice Ao41 t1274.length co41) t1274 t1277 t1278 t1279 1 t1304 t1305 t1306 w _ ?side1 ?side2 ?side3 ?side4 ?side5 A88.out).mono ?_); (case side1 => repeat (first | (with_reducible first | exact HB.out | apply below_alloc | apply pw_below_drewN | apply below_drew1 | refine below_set ?_ GE1228.out | refine below_set ?_ GE1256.out | refine below_set ?_ GE1268.out | refine below_set ?_ GE1284.out) | exact HB.out)); (case side2 => exact Kd.Q_tight rfl HO_1285002.out); (case side3 => exact fun k_ e_ => (HO_1285002.out.1 k_ e_.symm).2.2.2.2.2.2); (case side4 => exact Kd.Q_tight rfl HO_1285003.out); (case side5 => exact fun k_ e_ => (HO_1285003.out.1 k_ e_.symm).2.2.2.2.2.2); rintro e w102 ⟨rfl, hy0, hy1, hb, hkp⟩; refine ⟨_, rfl, ?_⟩; replace HO_7 := am (Kd.R_mono (ok' := fun k_ => some k_ ≠ (v1281 : Value).ownBlock ∧ some k_ ≠ (.slice Ao24 t1243.length co24 : Value).ownBlock ∧ some k_ ≠ (.slice Ao25 t1246.length co25 : Value).ownBlock ∧ some k_ ≠ (.slice Ao32 t1300.length co32 : Value).ownBlock ∧ some k_ ≠ (.slice Ao33 t1301.length co33 : Value).ownBlock ∧ some k_ ≠ (.slice Ao40 t1271.length co40 : Value).ownBlock ∧ some k_ ≠ (.slice Ao41 t1274.length co41 : Value).ownBlock) (Kd.R_keptB (HO_7.out) hkp (fun k_ hk_ hs_ => Or.elim hs_ (fun e_ => (hk_.2.2.2.2.2.1) e_) (fun e_ => (hk_.2.2.2.2.2.2) e_))) (fun k_ hk_ => ⟨hk_.1.1, hk_.1.2.1, hk_.1.2.2.1, hk_.1.2.2.2.1, hk_.1.2.2.2.2.1, hk_.1.2.2.2.2.2.1, hk_.1.2.2.2.2.2.2⟩)); replace HO_11 := am (Kd.Q_mono (ok' := fun k_ => some k_ ≠ (v1253 : Value).ownBlock ∧ some k_ ≠ (.slice Ao24 t1243.length co24 : Value).ownBlock ∧ some k_ ≠ (.slice Ao25 t1246.length co25 : Value).ownBlock ∧ some k_ ≠ (.slice Ao32 t1300.length co32 : Value).ownBlock ∧ some k_ ≠ (.slice Ao33 t1301.length co33 : Value).ownBlock ∧ some k_ ≠ (.slice Ao40 t1271.length co40 : Value).ownBlock ∧ some k_ ≠ (.slice Ao41 t1274.length co41 : Value).ownBlock) (Kd.Q_keptB (HO_11.out) hkp (fun k_ hk_ hs_ => Or.elim hs_ (fun e_ => (hk_.2.2.2.2.2.1) e_) (fun e_ => (hk_.2.2.2.2.2.2) e_))) (fun k_ hk_ => ⟨hk_.1.1, hk_.1.2.1, hk_.1.2.2.1, hk_.1.2.2.2.1, hk_.1.2.2.2.2.1, hk_.1.2.2.2.2.2.1, hk_.1.2.2.2.2.2.2⟩)); replace HO_1257002 := am (Kd.Q_mono (ok' := fun k_ => some k_ ≠ (v1253 : Value).ownBlock ∧ some k_ ≠ (v1281 : Value).ownBlock ∧ some k_ ≠ (.slice Ao25 t1246.length co25 : Value).ownBlock ∧ some k_ ≠ (.slice Ao32 t1300.length co32 : Value).ownBlock ∧ some k_ ≠ (.slice Ao33 t1301.length co33 : Value).ownBlock ∧ some k_ ≠ (.slice Ao40 t1271.length co40 : Value).ownBlock ∧ some k_ ≠ (.slice Ao41 t1274.length co41 : Value).ownBlock) (Kd.Q_keptB (HO_1257002.out) hkp (fun k_ hk_ hs_ => Or.elim hs_ (fun e_ => (hk_.2.2.2.2.2.1) e_) (fun e_ => (hk_.2.2.2.2.2.2) e_))) (fun k_ hk_ => ⟨hk_.1.1, hk_.1.2.1, hk_.1.2.2.1, hk_.1.2.2.2.1, hk_.1.2.2.2.2.1, hk_.1.2.2.2.2.2.1, hk_.1.2.2.2.2.2.2⟩)); replace HO_1257003 := am (Kd.R_mono (ok' := fun k_ => some k_ ≠ (v1253 : Value).ownBlock ∧ some k_ ≠ (v1281 : Value).ownBlock ∧ some k_ ≠ (.slice Ao24 t1243.length co24 : Value).ownBlock ∧ some k_ ≠ (.slice Ao32 t1300.length co32 : Value).ownBlock ∧ some k_ ≠ (.slice Ao33 t1301.length co33 : Value).ownBlock ∧ some k_ ≠ (.slice Ao40 t1271.length co40 : Value).ownBlock ∧ some k_ ≠ (.slice Ao41 t1274.length co41 : Value).ownBlock) (Kd.R_keptB (HO_1257003.out) hkp (fun k_ hk_ hs_ => Or.elim hs_ (fun e_ => (hk_.2.2.2.2.2.1) e_) (fun e_ => (hk_.2.2.2.2.2.2) e_))) (fun k_ hk_ => ⟨hk_.1.1, hk_.1.2.1, hk_.1.2.2.1, hk_.1.2.2.2.1, hk_.1.2.2.2.2.1, hk_.1.2.2.2.2.2.1, hk_.1.2.2.2.2.2.2⟩)); replace HO_1269002 := am (Kd.Q_mono (ok' := fun k_ => some k_ ≠ (v1253 : Value).ownBlock ∧ some k_ ≠ (v1281 : Value).ownBlock ∧ some k_ ≠ (.slice Ao24 t1243.length co24 : Value).ownBlock ∧ some k_ ≠ (.slice Ao25 t1246.length co25 : Value).ownBlock ∧ some k_ ≠ (.slice Ao33 t1301.length co33 : Value).ownBlock ∧ some k_ ≠ (.slice Ao40 t1271.length co40 : Value).ownBlock ∧ some k_ ≠ (.slice Ao41 t1274.length co41 : Value).ownBlock) (Kd.Q_keptB (HO_1269002.out) hkp (fun k_ hk_ hs_ => Or.elim hs_ (fun e_ => (hk_.2.2.2.2.2.1) e_) (fun e_ => (hk_.2.2.2.2.2.2) e_))) (fun k_ hk_ => ⟨hk_.1.1, hk_.1.2.1, hk_.1.2.2.1, hk_.1.2.2.2.1, hk_.1.2.2.2.2.1, hk_.1.2.2.2.2.2.1, hk_.1.2.2.2.2.2.2⟩)); replace HO_1269003 := am (Kd.Q_mono (ok' := fun k_ => some k_ ≠ (v1253 : Value).ownBlock ∧ some k_ ≠ (v1281 : Value).ownBlock ∧ some k_ ≠ (.slice Ao24 t1243.length co24 : Value).ownBlock ∧ some k_ ≠ (.slice Ao25 t1246.length co25 : Value).ownBlock ∧ some k_ ≠ (.slice Ao32 t1300.length co32 : Value).ownBlock ∧ some k_ ≠ (.slice Ao40 t1271.length co40 : Value).ownBlock ∧ some k_ ≠ (.slice Ao41 t1274.length co41 : Value).ownBlock) (Kd.Q_keptB (HO_1269003.out) hkp (fun k_ hk_ hs_ => Or.elim hs_ (fun e_ => (hk_.2.2.2.2.2.1) e_) (fun e_ => (hk_.2.2.2.2.2.2) e_))) (fun k_ hk_ => ⟨hk_.1.1, hk_.1.2.1, hk_.1.2.2.1, hk_.1.2.2.2.1, hk_.1.2.2.2.2.1, hk_.1.2.2.2.2.2.1, hk_.1.2.2.2.2.2.2⟩)); replace BK1228 := am (blk_kept (pkK BK1228.out) hkp (fun hs_ => Or.elim hs_ (fun e_ => (fun e_ => (Kd.Q_ne HO_1285002.out BK1228.out (by decide)) e_) e_) (fun e_ => (fun e_ => (Kd.Q_ne HO_1285003.out BK1228.out (by decide)) e_) e_))); replace BK1256 := am (blk_kept (pkK BK1256.out) hkp (fun hs_ => Or.elim hs_ (fun e_ => (fun e_ => (Kd.Q_ne HO_1285002.out BK1256.out (by decide)) e_) e_) (fun e_ => (fun e_ => (Kd.Q_ne HO_1285003.out BK1256.out (by decide)) e_) e_))); replace BK1268 := am (blk_kept (pkK BK1268.out) hkp (fun hs_ => Or.elim hs_ (fun e_ => (fun e_ => (Kd.Q_ne HO_1285002.out BK1268.out (by decide)) e_) e_) (fun e_ => (fun e_ => (Kd.Q_ne HO_1285003.out BK1268.out (by decide)) e_) e_))); replace BK1284 := am (blk_kept (pkK BK1284.out) hkp (fun hs_ => Or.elim hs_ (fun e_ => (fun e_ => (Kd.Q_ne HO_1285002.out BK1284.out (by decide)) e_) e_) (fun e_ => (fun e_ => (Kd.Q_ne HO_1285003.out BK1284.out (by decide)) e_) e_))); replace HO_1285002 := am (Kd.Q_reok rfl hy0 (fun k_ e_ => HO_1285002.out.1 k_ e_)); replace HO_1285003 := am (Kd.Q_reok rfl hy1 (fun k_ e_ => HO_1285003.out.1 k_ e_)); replace HB := am (hb); (try clear hb); (try clear hkp); (try clear hy0); (try clear hy1); obtain ⟨Ao103, co103, eo103, _⟩ := Kd.Q_slice HO_11.out; subst eo103) | ((with_reducible refine gate_callee (f := 36) rfl ?_); refine goesL_ (some 88) rfl rfl Try.func36 (by kernel_rfl) rfl #[.slice Ao103 t1280.length co103, .int .i64 t1304] rfl mpx ?_; (with_reducible refine (laws_markIntS.calls kj60 (fun k_ => some k_ = (.slice Ao103 t1280.length co103 : Value).ownBlock) (.slice Ao103 t1280.length co103) t1280 t1304 t1307 t1308 w _ ?side1 ?side2 A89.out).mono ?_); (case side1 => repeat (first | (with_reducible first | exact HB.out | apply below_alloc | apply pw_below_drewN | apply below_drew1 | refine below_set ?_ GE1228.out | refine below_set ?_ GE1256.out | refine below_set ?_ GE1268.out | refine below_set ?_ GE1284.out) | exact HB.out)); (case side2 => exact Kd.Q_tight rfl HO_11.out); rintro e w104 ⟨rfl, hy0, hb, hkp⟩; refine ⟨_, rfl, ?_⟩; replace HO_7 := am (Kd.R_mono (ok' := fun k_ => some k_ ≠ (.slice Ao103 t1280.length co103 : Value).ownBlock ∧ some k_ ≠ (.slice Ao24 t1243.length co24 : Value).ownBlock ∧ some k_ ≠ (.slice Ao25 t1246.length co25 : Value).ownBlock ∧ some k_ ≠ (.slice Ao32 t1300.length co32 : Value).ownBlock ∧ some k_ ≠ (.slice Ao33 t1301.length co33 : Value).ownBlock ∧ some k_ ≠ (.slice Ao40 t1271.length co40 : Value).ownBlock ∧ some k_ ≠ (.slice Ao41 t1274.length co41 : Value).ownBlock) (Kd.R_keptB (HO_7.out) hkp (fun k_ hk_ hs_ => (hk_.1) hs_)) (fun k_ hk_ => ⟨hk_.1.1, hk_.1.2.1, hk_.1.2.2.1, hk_.1.2.2.2.1, hk_.1.2.2.2.2.1, hk_.1.2.2.2.2.2.1, hk_.1.2.2.2.2.2.2⟩)); replace HO_1257002 := am (Kd.Q_mono (ok' := fun k_ => some k_ ≠ (v1253 : Value).ownBlock ∧ some k_ ≠ (.slice Ao103 t1280.length co103 : Value).ownBlock ∧ some k_ ≠ (.slice Ao25 t1246.length co25 : Value).ownBlock ∧ some k_ ≠ (.slice Ao32 t1300.length co32 : Value).ownBlock ∧ some k_ ≠ (.slice Ao33 t1301.length co33 : Value).ownBlock ∧ some k_ ≠ (.slice Ao40 t1271.length co40 : Value).ownBlock ∧ some k_ ≠ (.slice Ao41 t1274.length co41 : Value).ownBlock) (Kd.Q_keptB (HO_1257002.out) hkp (fun k_ hk_ hs_ => (hk_.2.1) hs_)) (fun k_ hk_ => ⟨hk_.1.1, hk_.1.2.1, hk_.1.2.2.1, hk_.1.2.2.2.1, hk_.1.2.2.2.2.1, hk_.1.2.2.2.2.2.1, hk_.1.2.2.2.2.2.2⟩)); replace HO_1257003 := am (Kd.R_mono (ok' := fun k_ => some k_ ≠ (v1253 : Value).ownBlock ∧ some k_ ≠ (.slice Ao103 t1280.length co103 : Value).ownBlock ∧ some k_ ≠ (.slice Ao24 t1243.length co24 : Value).ownBlock ∧ some k_ ≠ (.slice Ao32 t1300.length co32 : Value).ownBlock ∧ some k_ ≠ (.slice Ao33 t1301.length co33 : Value).ownBlock ∧ some k_ ≠ (.slice Ao40 t1271.length co40 : Value).ownBlock ∧ some k_ ≠ (.slice Ao41 t1274.length co41 : Value).ownBlock) (Kd.R_keptB (HO_1257003.out) hkp (fun k_ hk_ hs_ => (hk_.2.1) hs_)) (fun k_ hk_ => ⟨hk_.1.1, hk_.1.2.1, hk_.1.2.2.1, hk_.1.2.2.2.1, hk_.1.2.2.2.2.1, hk_.1.2.2.2.2.2.1, hk_.1.2.2.2.2.2.2⟩)); replace HO_1269002 := am (Kd.Q_mono (ok' := fun k_ => some k_ ≠ (v1253 : Value).ownBlock ∧ some k_ ≠ (.slice Ao103 t1280.length co103 : Value).ownBlock ∧ some k_ ≠ (.slice Ao24 t1243.length co24 : Value).ownBlock ∧ some k_ ≠ (.slice Ao25 t1246.length co25 : Value).ownBlock ∧ some k_ ≠ (.slice Ao33 t1301.length co33 : Value).ownBlock ∧ some k_ ≠ (.slice Ao40 t1271.length co40 : Value).ownBlock ∧ some k_ ≠ (.slice Ao41 t1274.length co41 : Value).ownBlock) (Kd.Q_keptB (HO_1269002.out) hkp (fun k_ hk_ hs_ => (hk_.2.1) hs_)) (fun k_ hk_ => ⟨hk_.1.1, hk_.1.2.1, hk_.1.2.2.1, hk_.1.2.2.2.1, hk_.1.2.2.2.2.1, hk_.1.2.2.2.2.2.1, hk_.1.2.2.2.2.2.2⟩)); replace HO_1269003 := am (Kd.Q_mono (ok' := fun k_ => some k_ ≠ (v1253 : Value).ownBlock ∧ some k_ ≠ (.slice Ao103 t1280.length co103 : Value).ownBlock ∧ some k_ ≠ (.slice Ao24 t1243.length co24 : Value).ownBlock ∧ some k_ ≠ (.slice Ao25 t1246.length co25 : Value).ownBlock ∧ some k_ ≠ (.slice Ao32 t1300.length co32 : Value).ownBlock ∧ some k_ ≠ (.slice Ao40 t1271.length co40 : Value).ownBlock ∧ some k_ ≠ (.slice Ao41 t1274.length co41 : Value).ownBlock) (Kd.Q_keptB (HO_1269003.out) hkp (fun k_ hk_ hs_ => (hk_.2.1) hs_)) (fun k_ hk_ => ⟨hk_.1.1, hk_.1.2.1, hk_.1.2.2.1, hk_.1.2.2.2.1, hk_.1.2.2.2.2.1, hk_.1.2.2.2.2.2.1, hk_.1.2.2.2.2.2.2⟩)); replace HO_1285002 := am (Kd.Q_mono (ok' := fun k_ => some k_ ≠ (v1253 : Value).ownBlock ∧ some k_ ≠ (.slice Ao103 t1280.length co103 : Value).ownBlock ∧ some k_ ≠ (.slice Ao24 t1243.length co24 : Value).ownBlock ∧ some k_ ≠ (.slice Ao25 t1246.length co25 : Value).ownBlock ∧ some k_ ≠ (.slice Ao32 t1300.length co32 : Value).ownBlock ∧ some k_ ≠ (.slice Ao33 t1301.length co33 : Value).ownBlock ∧ some k_ ≠ (.slice Ao41 t1274.length co41 : Value).ownBlock) (Kd.Q_keptB (HO_1285002.out) hkp (fun k_ hk_ hs_ => (hk_.2.1) hs_)) (fun k_ hk_ => ⟨hk_.1.1, hk_.1.2.1, hk_.1.2.2.1, hk_.1.2.2.2.1, hk_.1.2.2.2.2.1, hk_.1.2.2.2.2.2.1, hk_.1.2.2.2.2.2.2⟩)); replace HO_1285003 := am (Kd.Q_mono (ok' := fun k_ => some k_ ≠ (v1253 : Value).ownBlock ∧ some k_ ≠ (.slice Ao103 t1280.length co103 : Value).ownBlock ∧ some k_ ≠ (.slice Ao24 t1243.length co24 : Value).ownBlock ∧ some k_ ≠ (.slice Ao25 t1246.length co25 : Value).ownBlock ∧ some k_ ≠ (.slice Ao32 t1300.length co32 : Value).ownBlock ∧ some k_ ≠ (.slice Ao33 t1301.length co33 : Value).ownBlock ∧ some k_ ≠ (.slice Ao40 t1271.length co40 : Value).ownBlock) (Kd.Q_keptB (HO_1285003.out) hkp (fun k_ hk_ hs_ => (hk_.2.1) hs_)) (fun k_ hk_ => ⟨hk_.1.1, hk_.1.2.1, hk_.1.2.2.1, hk_.1.2.2.2.1, hk_.1.2.2.2.2.1, hk_.1.2.2.2.2.2.1, hk_.1.2.2.2.2.2.2⟩)); replace BK1228 := am (blk_kept (pkK BK1228.out) hkp (fun hs_ => (fun e_ => (Kd.Q_ne HO_11.out BK1228.out (by decide)) e_) hs_)); replace BK1256 := am (blk_kept (pkK BK1256.out) hkp (fun hs_ => (fun e_ => (Kd.Q_ne HO_11.out BK1256.out (by decide)) e_) hs_)); replace BK1268 := am (blk_kept (pkK BK1268.out) hkp (fun hs_ => (fun e_ => (Kd.Q_ne HO_11.out BK1268.out (by decide)) e_) hs_)); replace BK1284 := am (blk_kept (pkK BK1284.out) hkp (fun hs_ => (fun e_ => (Kd.Q_ne HO_11.out BK1284.out (by decide)) e_) hs_)); replace HO_11 := am (Kd.Q_reok rfl hy0 (fun k_ e_ => HO_11.out.1 k_ e_)); replace HB := am (hb); (try clear hb); (try clear hkp); (try clear hy0); obtain ⟨hcz105_0, hcz105_1, hcz105_2, hcz105_3, hcz105_4, hcz105_5, hcz105_6, hfz105_0, hfz105_1, hfz105_2, hfz105_3, hfz105_4, hfz105_5, hfz105_6⟩ := bk7 BK1284.out) | ((with_reducible refine gate_callee (f := 27) rfl ?_); refine goesL_ (some 91) rfl rfl Try.func27 (by kernel_rfl) rfl #[.agg #[.bool t1269, .bool t1270, .slice Ao40 t1305.length co40, .slice Ao41 t1306.length co41, .int .i64 t1277, .int .i64 t1278, .int .i64 t1279], .int .i64 1] rfl (by (try simp only [List.map_toArray, List.map_cons, List.map_nil]); first | done | (rw [show t1305.length = t1271.length from (Kd.Q_reads' HO_1285002.out).1.symm, show t1306.length = t1274.length from (Kd.Q_reads' HO_1285003.out).1.symm] <;> rfl) | rfl | (simp only [List.length_drop, List.length_take]; rfl) | (go_simp; done) | (simp [*]; done)) ?_; (with_reducible refine (laws_heldEvent.calls kj60 t1269 t1270 _ _ t1305 _ _ t1306 t1277 t1278 t1279 1 t1309 _ ?side1 ?side2 ?side3 ?side4 A90.out).mono ?_); (case side1 => repeat (first | exact (Kd.Q_reads' HO_1285002.out).2.2 | (with_reducible refine Kd.C_alloc ?_ _) | (with_reducible refine Kd.C_drewN ?_ _) | (with_reducible refine Kd.C_drew ?_))); (case side2 => rw [show t1305.length = t1271.length from (Kd.Q_reads' HO_1285002.out).1.symm]; exact (Kd.Q_reads' HO_1285002.out).2.1); (case side3 => repeat (first | exact (Kd.Q_reads' HO_1285003.out).2.2 | (with_reducible refine Kd.C_alloc ?_ _) | (with_reducible refine Kd.C_drewN ?_ _) | (with_reducible refine Kd.C_drew ?_))); (case side4 => rw [show t1306.length = t1274.length from (Kd.Q_reads' HO_1285003.out).1.symm]; exact (Kd.Q_reads' HO_1285003.out).2.1); rintro e w106 ⟨rfl, hb⟩; refine ⟨_, rfl, ?_⟩; replace HO_7 := am (Kd.R_below (pkR HO_7.out) hb); replace HO_11 := am (Kd.Q_below (pkQ HO_11.out) hb); replace HO_1257002 := am (Kd.Q_below (pkQ HO_1257002.out) hb); replace HO_1257003 := am (Kd.R_below (pkR HO_1257003.out) hb); replace HO_1269002 := am (Kd.Q_below (pkQ HO_1269002.out) hb); replace HO_1269003 := am (Kd.Q_below (pkQ HO_1269003.out) hb); replace HO_1285002 := am (Kd.Q_below (pkQ HO_1285002.out) hb); replace HO_1285003 := am (Kd.Q_below (pkQ HO_1285003.out) hb); replace BK1228 := am (blk_below (pkK BK1228.out) hb); replace BK1256 := am (blk_below (pkK BK1256.out) hb); replace BK1268 := am (blk_below (pkK BK1268.out) hb); replace BK1284 := am (blk_below (pkK BK1284.out) hb); replace HB := am (below_step (pkW HB.out) hb); (try clear hb)) | ((with_reducible refine gate_callee (f := 38) rfl ?_); refine goesL_ (some 96) rfl rfl Try.func38 (by kernel_rfl) rfl #[.slice Ao103 t1308.length co103, .int .i64 t1309] rfl (by (try simp only [List.map_toArray, List.map_cons, List.map_nil]); first | done | (rw [show t1308.length = t1280.length from (Kd.Q_reads' HO_11.out).1.symm] <;> rfl) | rfl | (simp only [List.length_drop, List.length_take]; rfl) | (go_simp; done) | (simp [*]; done)) ?_; (with_reducible refine (laws_heldIntS.calls kj60 _ _ t1308 t1309 t1310 _ ?side1 ?side2 A92.out).mono ?_); (case side1 => repeat (first | exact (Kd.Q_reads' HO_11.out).2.2 | (with_reducible refine Kd.C_alloc ?_ _) | (with_reducible refine Kd.C_drewN ?_ _) | (with_reducible refine Kd.C_drew ?_))); (case side2 => rw [show t1308.length = t1280.length from (Kd.Q_reads' HO_11.out).1.symm]; exact (Kd.Q_reads' HO_11.out).2.1); rintro e w' ⟨rfl, ⟨nd, rfl⟩⟩; refine ⟨_, rfl, ?_⟩; (try (rw [drewN_self w106]; generalize hq_ : World.drewN w106 _ = w106; replace HO_11 : Aside0 (Kd.Q (Kd.int .i64) 3 w106 w.heap.size (fun k_ => (some k_ ≠ (v1253 : Value).ownBlock ∧ (some k_ ≠ (.slice Ao24 t1243.length co24 : Value).ownBlock ∧ (some k_ ≠ (.slice Ao25 t1246.length co25 : Value).ownBlock ∧ (some k_ ≠ (.slice Ao32 t1300.length co32 : Value).ownBlock ∧ (some k_ ≠ (.slice Ao33 t1301.length co33 : Value).ownBlock ∧ (some k_ ≠ (.slice Ao40 t1271.length co40 : Value).ownBlock ∧ some k_ ≠ (.slice Ao41 t1274.length co41 : Value).ownBlock))))))) (.slice Ao103 t1280.length co103) t1308) := ⟨by rw [← hq_]; exact (pkQ HO_11.out)⟩; replace HO_1257002 : Aside0 (Kd.Q (Kd.int .i64) 3 w106 w.heap.size (fun k_ => (some k_ ≠ (v1253 : Value).ownBlock ∧ (some k_ ≠ (.slice Ao103 t1280.length co103 : Value).ownBlock ∧ (some k_ ≠ (.slice Ao25 t1246.length co25 : Value).ownBlock ∧ (some k_ ≠ (.slice Ao32 t1300.length co32 : Value).ownBlock ∧ (some k_ ≠ (.slice Ao33 t1301.length co33 : Value).ownBlock ∧ (some k_ ≠ (.slice Ao40 t1271.length co40 : Value).ownBlock ∧ some k_ ≠ (.slice Ao41 t1274.length co41 : Value).ownBlock))))))) (.slice Ao24 t1243.length co24) t1243) := ⟨by rw [← hq_]; exact (pkQ HO_1257002.out)⟩; replace HO_1257003 : Aside0 (Kd.R (Kd.int .i64) 3 w106 w.heap.size (fun k_ => (some k_ ≠ (v1253 : Value).ownBlock ∧ (some k_ ≠ (.slice Ao103 t1280.length co103 : Value).ownBlock ∧ (some k_ ≠ (.slice Ao24 t1243.length co24 : Value).ownBlock ∧ (some k_ ≠ (.slice Ao32 t1300.length co32 : Value).ownBlock ∧ (some k_ ≠ (.slice Ao33 t1301.length co33 : Value).ownBlock ∧ (some k_ ≠ (.slice Ao40 t1271.length co40 : Value).ownBlock ∧ some k_ ≠ (.slice Ao41 t1274.length co41 : Value).ownBlock))))))) (.slice Ao25 t1246.length co25) t1246) := ⟨by rw [← hq_]; exact (pkR HO_1257003.out)⟩; replace HO_1269002 : Aside0 (Kd.Q (Kd.int .i64) 3 w106 w.heap.size (fun k_ => (some k_ ≠ (v1253 : Value).ownBlock ∧ (some k_ ≠ (.slice Ao103 t1280.length co103 : Value).ownBlock ∧ (some k_ ≠ (.slice Ao24 t1243.length co24 : Value).ownBlock ∧ (some k_ ≠ (.slice Ao25 t1246.length co25 : Value).ownBlock ∧ (some k_ ≠ (.slice Ao33 t1301.length co33 : Value).ownBlock ∧ (some k_ ≠ (.slice Ao40 t1271.length co40 : Value).ownBlock ∧ some k_ ≠ (.slice Ao41 t1274.length co41 : Value).ownBlock))))))) (.slice Ao32 t1300.length co32) t1300) := ⟨by rw [← hq_]; exact (pkQ HO_1269002.out)⟩; replace HO_1269003 : Aside0 (Kd.Q (Kd.int .i64) 3 w106 w.heap.size (fun k_ => (some k_ ≠ (v1253 : Value).ownBlock ∧ (some k_ ≠ (.slice Ao103 t1280.length co103 : Value).ownBlock ∧ (some k_ ≠ (.slice Ao24 t1243.length co24 : Value).ownBlock ∧ (some k_ ≠ (.slice Ao25 t1246.length co25 : Value).ownBlock ∧ (some k_ ≠ (.slice Ao32 t1300.length co32 : Value).ownBlock ∧ (some k_ ≠ (.slice Ao40 t1271.length co40 : Value).ownBlock ∧ some k_ ≠ (.slice Ao41 t1274.length co41 : Value).ownBlock))))))) (.slice Ao33 t1301.length co33) t1301) := ⟨by rw [← hq_]; exact (pkQ HO_1269003.out)⟩; replace HO_1285002 : Aside0 (Kd.Q (Kd.int .i64) 3 w106 w.heap.size (fun k_ => (some k_ ≠ (v1253 : Value).ownBlock ∧ (some k_ ≠ (.slice Ao103 t1280.length co103 : Value).ownBlock ∧ (some k_ ≠ (.slice Ao24 t1243.length co24 : Value).ownBlock ∧ (some k_ ≠ (.slice Ao25 t1246.length co25 : Value).ownBlock ∧ (some k_ ≠ (.slice Ao32 t1300.length co32 : Value).ownBlock ∧ (some k_ ≠ (.slice Ao33 t1301.length co33 : Value).ownBlock ∧ some k_ ≠ (.slice Ao41 t1274.length co41 : Value).ownBlock))))))) (.slice Ao40 t1271.length co40) t1305) := ⟨by rw [← hq_]; exact (pkQ HO_1285002.out)⟩; replace HO_1285003 : Aside0 (Kd.Q (Kd.int .i64) 3 w106 w.heap.size (fun k_ => (some k_ ≠ (v1253 : Value).ownBlock ∧ (some k_ ≠ (.slice Ao103 t1280.length co103 : Value).ownBlock ∧ (some k_ ≠ (.slice Ao24 t1243.length co24 : Value).ownBlock ∧ (some k_ ≠ (.slice Ao25 t1246.length co25 : Value).ownBlock ∧ (some k_ ≠ (.slice Ao32 t1300.length co32 : Value).ownBlock ∧ (some k_ ≠ (.slice Ao33 t1301.length co33 : Value).ownBlock ∧ some k_ ≠ (.slice Ao40 t1271.length co40 : Value).ownBlock))))))) (.slice Ao41 t1274.length co41) t1306) := ⟨by rw [← hq_]; exact (pkQ HO_1285003.out)⟩; replace HO_7 : Aside0 (Kd.R (Kd.int .i64) 3 w106 w.heap.size (fun k_ => (some k_ ≠ (.slice Ao103 t1280.length co103 : Value).ownBlock ∧ (some k_ ≠ (.slice Ao24 t1243.length co24 : Value).ownBlock ∧ (some k_ ≠ (.slice Ao25 t1246.length co25 : Value).ownBlock ∧ (some k_ ≠ (.slice Ao32 t1300.length co32 : Value).ownBlock ∧ (some k_ ≠ (.slice Ao33 t1301.length co33 : Value).ownBlock ∧ (some k_ ≠ (.slice Ao40 t1271.length co40 : Value).ownBlock ∧ some k_ ≠ (.slice Ao41 t1274.length co41 : Value).ownBlock))))))) v1253 t1252) := ⟨by rw [← hq_]; exact (pkR HO_7.out)⟩; replace BK1228 : Aside0 (w106.heap[gb1228]? = some (.cells #[.bool a0_0, .bool a0_1, .slice A0_2 l0_2.length c0_2, .slice A0_3 l0_3.length c0_3, .int .i64 a0_4, .int .i64 a0_5, .int .i64 a0_6] 24 (0, 0))) := ⟨by rw [← hq_]; exact (pkK BK1228.out)⟩; replace BK1256 : Aside0 (w106.heap[gb1256]? = some (.cells #[.bool t1241, .bool t1242, .slice Ao24 t1243.length co24, .slice Ao25 t1246.length co25, .int .i64 t1249, .int .i64 t1250, .int .i64 t1251] 27 (0, 0))) := ⟨by rw [← hq_]; exact (pkK BK1256.out)⟩; replace BK1268 : Aside0 (w106.heap[gb1268]? = some (.cells #[.bool t1257, .bool t1258, .slice Ao32 t1300.length co32, .slice Ao33 t1301.length co33, .int .i64 t1265, .int .i64 t1266, .int .i64 t1267] 27 (0, 0))) := ⟨by rw [← hq_]; exact (pkK BK1268.out)⟩; replace BK1284 : Aside0 (w106.heap[gb1284]? = some (.cells #[.bool t1269, .bool t1270, .slice Ao40 t1271.length co40, .slice Ao41 t1274.length co41, .int .i64 t1277, .int .i64 t1278, .int .i64 t1279] 27 (0, 0))) := ⟨by rw [← hq_]; exact (pkK BK1284.out)⟩; replace HB : Aside0 (Below w.heap.size w w106) := ⟨by rw [← hq_]; exact (pkW HB.out)⟩; clear hq_)); have hnb107 := NB1228_1256.out; have hnc107 := NB1256_1228.out; have hnb108 := NB1228_1268.out; have hnc108 := NB1268_1228.out; obtain ⟨hcz109_0, hcz109_1, hcz109_2, hcz109_3, hcz109_4, hcz109_5, hcz109_6, hfz109_0, hfz109_1, hfz109_2, hfz109_3, hfz109_4, hfz109_5, hfz109_6⟩ := bk7 BK1228.out) | ((with_reducible refine gate_callee (f := 16) rfl ?_); refine goesL_ (some 104) rfl rfl Try.func16 (by kernel_rfl) rfl #[.agg #[.bool a0_0, .bool a0_1, .slice A0_2 l0_2.length c0_2, .slice A0_3 l0_3.length c0_3, .int .i64 a0_4, .int .i64 a0_5, .int .i64 a0_6]] rfl mpx ?_; (with_reducible refine (laws_toEvent.calls kj60 a0_0 a0_1 _ _ l0_2 _ _ l0_3 a0_4 a0_5 a0_6 t1311 t1312 t1313 t1316 t1319 t1320 t1321 _ ?side1 ?side2 ?side3 ?side4 A95.out).mono ?_); (case side1 => exact pkC (Kd.C_below HR0_2.out HB.out)); (case side2 => exact HC0_2.out); (case side3 => exact pkC (Kd.C_below HR0_3.out HB.out)); (case side4 => exact HC0_3.out); rintro e w110 ⟨v1314, v1317, rfl, ho0, ho1, hb⟩; refine ⟨_, rfl, ?_⟩; have HO1315 := am (Kd.R_lower (Kd.R_new' (Kd.R_new' (Kd.R_new' (Kd.R_new' (Kd.R_new' (Kd.R_new' (Kd.R_new' (Kd.R_new' ho0 (Kd.R_lt (pkR HO_7.out))) (Kd.Q_lt (pkQ HO_11.out))) (Kd.Q_lt (pkQ HO_1257002.out))) (Kd.R_lt (pkR HO_1257003.out))) (Kd.Q_lt (pkQ HO_1269002.out))) (Kd.Q_lt (pkQ HO_1269003.out))) (Kd.Q_lt (pkQ HO_1285002.out))) (Kd.Q_lt (pkQ HO_1285003.out))) (below_size (pkW HB.out))); have HO1318 := am (Kd.R_lower (Kd.R_new' (Kd.R_new' (Kd.R_new' (Kd.R_new' (Kd.R_new' (Kd.R_new' (Kd.R_new' (Kd.R_new' ho1 (Kd.R_lt (pkR HO_7.out))) (Kd.Q_lt (pkQ HO_11.out))) (Kd.Q_lt (pkQ HO_1257002.out))) (Kd.R_lt (pkR HO_1257003.out))) (Kd.Q_lt (pkQ HO_1269002.out))) (Kd.Q_lt (pkQ HO_1269003.out))) (Kd.Q_lt (pkQ HO_1285002.out))) (Kd.Q_lt (pkQ HO_1285003.out))) (below_size (pkW HB.out))); replace HO_7 := am (Kd.R_mono (Kd.R_told (Kd.R_told (Kd.R_old (pkR HO_7.out) hb) (Kd.R_base ho0)) (Kd.R_base ho1)) (fun _ h_ => h_.1)); replace HO_11 := am (Kd.Q_mono (Kd.Q_told (Kd.Q_told (Kd.Q_old (pkQ HO_11.out) hb) (Kd.R_base ho0)) (Kd.R_base ho1)) (fun _ h_ => h_.1)); replace HO_1257002 := am (Kd.Q_mono (Kd.Q_told (Kd.Q_told (Kd.Q_old (pkQ HO_1257002.out) hb) (Kd.R_base ho0)) (Kd.R_base ho1)) (fun _ h_ => h_.1)); replace HO_1257003 := am (Kd.R_mono (Kd.R_told (Kd.R_told (Kd.R_old (pkR HO_1257003.out) hb) (Kd.R_base ho0)) (Kd.R_base ho1)) (fun _ h_ => h_.1)); replace HO_1269002 := am (Kd.Q_mono (Kd.Q_told (Kd.Q_told (Kd.Q_old (pkQ HO_1269002.out) hb) (Kd.R_base ho0)) (Kd.R_base ho1)) (fun _ h_ => h_.1)); replace HO_1269003 := am (Kd.Q_mono (Kd.Q_told (Kd.Q_told (Kd.Q_old (pkQ HO_1269003.out) hb) (Kd.R_base ho0)) (Kd.R_base ho1)) (fun _ h_ => h_.1)); replace HO_1285002 := am (Kd.Q_mono (Kd.Q_told (Kd.Q_told (Kd.Q_old (pkQ HO_1285002.out) hb) (Kd.R_base ho0)) (Kd.R_base ho1)) (fun _ h_ => h_.1)); replace HO_1285003 := am (Kd.Q_mono (Kd.Q_told (Kd.Q_told (Kd.Q_old (pkQ HO_1285003.out) hb) (Kd.R_base ho0)) (Kd.R_base ho1)) (fun _ h_ => h_.1)); replace BK1228 := am (blk_below (pkK BK1228.out) hb); replace BK1256 := am (blk_below (pkK BK1256.out) hb); replace BK1268 := am (blk_below (pkK BK1268.out) hb); replace BK1284 := am (blk_below (pkK BK1284.out) hb); replace HB := am (below_step (pkW HB.out) hb); (try clear hb ho0 ho1); obtain ⟨Ao111, co111, eo111⟩ := Kd.R_slice HO1315.out; subst eo111; obtain ⟨Ao112, co112, eo112⟩ := Kd.R_slice HO1318.out; subst eo112) | ((with_reducible refine gate_callee (f := 42) rfl ?_); refine goesL_ (some 106) rfl rfl Try.func42 (by kernel_rfl) rfl #[.agg #[.bool t1311, .bool t1312, .slice Ao111 t1313.length co111, .slice Ao112 t1316.length co112, .int .i64 t1319, .int .i64 t1320, .int .i64 t1321], .int .i64 a1] rfl mpx ?_; (with_reducible refine (impl_StepBack.calls kj60 t1311 t1312 _ _ t1313 _ _ t1316 t1319 t1320 t1321 a1 t1322 t1323 t1324 t1327 t1330 t1331 t1332 t1333 t1336 _ ?side1 ?side2 ?side3 ?side4 A96.out).mono ?_); (case side1 => exact pkC (Kd.R_reads' HO1315.out).2.2); (case side2 => exact (Kd.R_reads' HO1315.out).2.1); (case side3 => exact pkC (Kd.R_reads' HO1318.out).2.2); (case side4 => exact (Kd.R_reads' HO1318.out).2.1); rintro e w113 ⟨v1325, v1328, v1334, rfl, ho0, ho1, ho2, hb⟩; refine ⟨_, rfl, ?_⟩; have HO1326 := am (Kd.Q_lower (Kd.Q_new' (Kd.Q_new' (Kd.Q_new' (Kd.Q_new' (Kd.Q_new' (Kd.Q_new' (Kd.Q_new' (Kd.Q_new' (Kd.Q_new' (Kd.Q_new' ho0 (Kd.R_lt (pkR HO_7.out))) (Kd.Q_lt (pkQ HO_11.out))) (Kd.Q_lt (pkQ HO_1257002.out))) (Kd.R_lt (pkR HO_1257003.out))) (Kd.Q_lt (pkQ HO_1269002.out))) (Kd.Q_lt (pkQ HO_1269003.out))) (Kd.Q_lt (pkQ HO_1285002.out))) (Kd.Q_lt (pkQ HO_1285003.out))) (Kd.R_lt (pkR HO1315.out))) (Kd.R_lt (pkR HO1318.out))) (below_size (pkW HB.out))); have HO1329 := am (Kd.R_lower (Kd.R_new' (Kd.R_new' (Kd.R_new' (Kd.R_new' (Kd.R_new' (Kd.R_new' (Kd.R_new' (Kd.R_new' (Kd.R_new' (Kd.R_new' ho1 (Kd.R_lt (pkR HO_7.out))) (Kd.Q_lt (pkQ HO_11.out))) (Kd.Q_lt (pkQ HO_1257002.out))) (Kd.R_lt (pkR HO_1257003.out))) (Kd.Q_lt (pkQ HO_1269002.out))) (Kd.Q_lt (pkQ HO_1269003.out))) (Kd.Q_lt (pkQ HO_1285002.out))) (Kd.Q_lt (pkQ HO_1285003.out))) (Kd.R_lt (pkR HO1315.out))) (Kd.R_lt (pkR HO1318.out))) (below_size (pkW HB.out))); have HO1335 := am (Kd.R_lower (Kd.R_new' (Kd.R_new' (Kd.R_new' (Kd.R_new' (Kd.R_new' (Kd.R_new' (Kd.R_new' (Kd.R_new' (Kd.R_new' (Kd.R_new' ho2 (Kd.R_lt (pkR HO_7.out))) (Kd.Q_lt (pkQ HO_11.out))) (Kd.Q_lt (pkQ HO_1257002.out))) (Kd.R_lt (pkR HO_1257003.out))) (Kd.Q_lt (pkQ HO_1269002.out))) (Kd.Q_lt (pkQ HO_1269003.out))) (Kd.Q_lt (pkQ HO_1285002.out))) (Kd.Q_lt (pkQ HO_1285003.out))) (Kd.R_lt (pkR HO1315.out))) (Kd.R_lt (pkR HO1318.out))) (below_size (pkW HB.out))); replace HO_7 := am (Kd.R_mono (Kd.R_told (Kd.R_told (Kd.R_told (Kd.R_old (pkR HO_7.out) hb) (Kd.Q_base ho0)) (Kd.R_base ho1)) (Kd.R_base ho2)) (fun _ h_ => h_.1)); replace HO_11 := am (Kd.Q_mono (Kd.Q_told (Kd.Q_told (Kd.Q_told (Kd.Q_old (pkQ HO_11.out) hb) (Kd.Q_base ho0)) (Kd.R_base ho1)) (Kd.R_base ho2)) (fun _ h_ => h_.1)); replace HO_1257002 := am (Kd.Q_mono (Kd.Q_told (Kd.Q_told (Kd.Q_told (Kd.Q_old (pkQ HO_1257002.out) hb) (Kd.Q_base ho0)) (Kd.R_base ho1)) (Kd.R_base ho2)) (fun _ h_ => h_.1)); replace HO_1257003 := am (Kd.R_mono (Kd.R_told (Kd.R_told (Kd.R_told (Kd.R_old (pkR HO_1257003.out) hb) (Kd.Q_base ho0)) (Kd.R_base ho1)) (Kd.R_base ho2)) (fun _ h_ => h_.1)); replace HO_1269002 := am (Kd.Q_mono (Kd.Q_told (Kd.Q_told (Kd.Q_told (Kd.Q_old (pkQ HO_1269002.out) hb) (Kd.Q_base ho0)) (Kd.R_base ho1)) (Kd.R_base ho2)) (fun _ h_ => h_.1)); replace HO_1269003 := am (Kd.Q_mono (Kd.Q_told (Kd.Q_told (Kd.Q_told (Kd.Q_old (pkQ HO_1269003.out) hb) (Kd.Q_base ho0)) (Kd.R_base ho1)) (Kd.R_base ho2)) (fun _ h_ => h_.1)); replace HO_1285002 := am (Kd.Q_mono (Kd.Q_told (Kd.Q_told (Kd.Q_told (Kd.Q_old (pkQ HO_1285002.out) hb) (Kd.Q_base ho0)) (Kd.R_base ho1)) (Kd.R_base ho2)) (fun _ h_ => h_.1)); replace HO_1285003 := am (Kd.Q_mono (Kd.Q_told (Kd.Q_told (Kd.Q_told (Kd.Q_old (pkQ HO_1285003.out) hb) (Kd.Q_base ho0)) (Kd.R_base ho1)) (Kd.R_base ho2)) (fun _ h_ => h_.1)); replace HO1315 := am (Kd.R_mono (Kd.R_told (Kd.R_told (Kd.R_told (Kd.R_old (pkR HO1315.out) hb) (Kd.Q_base ho0)) (Kd.R_base ho1)) (Kd.R_base ho2)) (fun _ h_ => h_.1)); replace HO1318 := am (Kd.R_mono (Kd.R_told (Kd.R_told (Kd.R_told (Kd.R_old (pkR HO1318.out) hb) (Kd.Q_base ho0)) (Kd.R_base ho1)) (Kd.R_base ho2)) (fun _ h_ => h_.1)); replace BK1228 := am (blk_below (pkK BK1228.out) hb); replace BK1256 := am (blk_below (pkK BK1256.out) hb); replace BK1268 := am (blk_below (pkK BK1268.out) hb); replace BK1284 := am (blk_below (pkK BK1284.out) hb); replace HB := am (below_step (pkW HB.out) hb); (try clear hb ho0 ho1 ho2)) | ((with_reducible refine gate_dst (N := 16) rfl ?_); refine box_event ?hg (N := 16) ?hd (cs := #[.bool false, .bool false, .slice none 0 0, .slice none 0 0, .int .i64 0, .int .i64 0, .int .i64 0]) (t := 27) ?hr ?_; (case hd => rfl); (case hg => rfl); (case hr => first | (go_simp; done) | (go_simp; rfl)); intro gb1337 hg w114 hbox hb; replace HO_7 := am (Kd.R_below (pkR HO_7.out) hb); replace HO_11 := am (Kd.Q_below (pkQ HO_11.out) hb); replace HO_1257002 := am (Kd.Q_below (pkQ HO_1257002.out) hb); replace HO_1257003 := am (Kd.R_below (pkR HO_1257003.out) hb); replace HO_1269002 := am (Kd.Q_below (pkQ HO_1269002.out) hb); replace HO_1269003 := am (Kd.Q_below (pkQ HO_1269003.out) hb); replace HO_1285002 := am (Kd.Q_below (pkQ HO_1285002.out) hb); replace HO_1285003 := am (Kd.Q_below (pkQ HO_1285003.out) hb); replace HO1315 := am (Kd.R_below (pkR HO1315.out) hb); replace HO1318 := am (Kd.R_below (pkR HO1318.out) hb); replace HO1326 := am (Kd.Q_below (pkQ HO1326.out) hb); replace HO1329 := am (Kd.R_below (pkR HO1329.out) hb); replace HO1335 := am (Kd.R_below (pkR HO1335.out) hb); have BK1337 := am (hbox); have GW1337 := am ((by rw [hg]; exact (below_size (pkW HB.out)) : w.heap.size ≤ gb1337)); have GE1337 := am ((by rw [hg]; exact (below_size (pkW HB.out)) : w.heap.size ≤ gb1337)); replace HB := am (below_step (pkW HB.out) hb); have NB1228_1337 := am ((by rw [hg]; exact Nat.ne_of_lt (blk_lt (g := gb1228) (o := .cells #[.bool a0_0, .bool a0_1, .slice A0_2 l0_2.length c0_2, .slice A0_3 l0_3.length c0_3, .int .i64 a0_4, .int .i64 a0_5, .int .i64 a0_6] 24 (0, 0)) (pkK BK1228.out)) : gb1228 ≠ gb1337)); have NB1337_1228 := am ((by rw [hg]; exact Nat.ne_of_gt (blk_lt (g := gb1228) (o := .cells #[.bool a0_0, .bool a0_1, .slice A0_2 l0_2.length c0_2, .slice A0_3 l0_3.length c0_3, .int .i64 a0_4, .int .i64 a0_5, .int .i64 a0_6] 24 (0, 0)) (pkK BK1228.out)) : gb1337 ≠ gb1228)); replace BK1228 := am (blk_below (pkK BK1228.out) hb); have NB1256_1337 := am ((by rw [hg]; exact Nat.ne_of_lt (blk_lt (g := gb1256) (o := .cells #[.bool t1241, .bool t1242, .slice Ao24 t1243.length co24, .slice Ao25 t1246.length co25, .int .i64 t1249, .int .i64 t1250, .int .i64 t1251] 27 (0, 0)) (pkK BK1256.out)) : gb1256 ≠ gb1337)); have NB1337_1256 := am ((by rw [hg]; exact Nat.ne_of_gt (blk_lt (g := gb1256) (o := .cells #[.bool t1241, .bool t1242, .slice Ao24 t1243.length co24, .slice Ao25 t1246.length co25, .int .i64 t1249, .int .i64 t1250, .int .i64 t1251] 27 (0, 0)) (pkK BK1256.out)) : gb1337 ≠ gb1256)); replace BK1256 := am (blk_below (pkK BK1256.out) hb); have NB1268_1337 := am ((by rw [hg]; exact Nat.ne_of_lt (blk_lt (g := gb1268) (o := .cells #[.bool t1257, .bool t1258, .slice Ao32 t1300.length co32, .slice Ao33 t1301.length co33, .int .i64 t1265, .int .i64 t1266, .int .i64 t1267] 27 (0, 0)) (pkK BK1268.out)) : gb1268 ≠ gb1337)); have NB1337_1268 := am ((by rw [hg]; exact Nat.ne_of_gt (blk_lt (g := gb1268) (o := .cells #[.bool t1257, .bool t1258, .slice Ao32 t1300.length co32, .slice Ao33 t1301.length co33, .int .i64 t1265, .int .i64 t1266, .int .i64 t1267] 27 (0, 0)) (pkK BK1268.out)) : gb1337 ≠ gb1268)); replace BK1268 := am (blk_below (pkK BK1268.out) hb); have NB1284_1337 := am ((by rw [hg]; exact Nat.ne_of_lt (blk_lt (g := gb1284) (o := .cells #[.bool t1269, .bool t1270, .slice Ao40 t1271.length co40, .slice Ao41 t1274.length co41, .int .i64 t1277, .int .i64 t1278, .int .i64 t1279] 27 (0, 0)) (pkK BK1284.out)) : gb1284 ≠ gb1337)); have NB1337_1284 := am ((by rw [hg]; exact Nat.ne_of_gt (blk_lt (g := gb1284) (o := .cells #[.bool t1269, .bool t1270, .slice Ao40 t1271.length co40, .slice Ao41 t1274.length co41, .int .i64 t1277, .int .i64 t1278, .int .i64 t1279] 27 (0, 0)) (pkK BK1284.out)) : gb1337 ≠ gb1284)); replace BK1284 := am (blk_below (pkK BK1284.out) hb); clear hb hbox hg; have hnb115 := NB1337_1228.out; have hnc115 := NB1228_1337.out; have hnb116 := NB1337_1256.out; have hnc116 := NB1256_1337.out; have hnb117 := NB1337_1268.out; have hnc117 := NB1268_1337.out; have hnb118 := NB1337_1284.out; have hnc118 := NB1284_1337.out; obtain ⟨hcz119_0, hcz119_1, hcz119_2, hcz119_3, hcz119_4, hcz119_5, hcz119_6, hfz119_0, hfz119_1, hfz119_2, hfz119_3, hfz119_4, hfz119_5, hfz119_6⟩ := bk7 BK1337.out; obtain ⟨Ao120, co120, eo120, _⟩ := Kd.Q_slice HO1326.out; subst eo120; obtain ⟨Ao121, co121, eo121⟩ := Kd.R_slice HO1329.out; subst eo121))
            (try simp only [Act.put, List.setIfInBounds_toArray, List.set_cons_zero, List.set_cons_succ])
            go_cut [124] (fun v124 wc => ∃ (kq : Nat) (x124_96 : Bool), v124 = .bool x124_96 ∧ Aside0 (laws_FnExactStepBack.j2 kq t1308 t1307 x124_96 t1269 t1270 t1305 t1306 t1277 t1278 t1279 = some r) ∧ Aside0 (kq ≤ kj60) ∧ Aside0 (Kd.Q (Kd.int .i64) 3 wc w.heap.size (fun k_ => some k_ ≠ ((.slice Ao24 t1243.length co24) : Value).ownBlock ∧ some k_ ≠ ((.slice Ao25 t1246.length co25) : Value).ownBlock ∧ some k_ ≠ ((.slice Ao32 t1300.length co32) : Value).ownBlock ∧ some k_ ≠ ((.slice Ao33 t1301.length co33) : Value).ownBlock ∧ some k_ ≠ ((.slice Ao40 t1271.length co40) : Value).ownBlock ∧ some k_ ≠ ((.slice Ao41 t1274.length co41) : Value).ownBlock ∧ some k_ ≠ ((.slice Ao120 t1324.length co120) : Value).ownBlock ∧ some k_ ≠ ((.slice Ao121 t1327.length co121) : Value).ownBlock) (.slice Ao103 t1280.length co103) t1308) ∧ Aside0 (Kd.Q (Kd.int .i64) 3 wc w.heap.size (fun k_ => some k_ ≠ ((.slice Ao103 t1280.length co103) : Value).ownBlock ∧ some k_ ≠ ((.slice Ao25 t1246.length co25) : Value).ownBlock ∧ some k_ ≠ ((.slice Ao32 t1300.length co32) : Value).ownBlock ∧ some k_ ≠ ((.slice Ao33 t1301.length co33) : Value).ownBlock ∧ some k_ ≠ ((.slice Ao40 t1271.length co40) : Value).ownBlock ∧ some k_ ≠ ((.slice Ao41 t1274.length co41) : Value).ownBlock ∧ some k_ ≠ ((.slice Ao120 t1324.length co120) : Value).ownBlock ∧ some k_ ≠ ((.slice Ao121 t1327.length co121) : Value).ownBlock) (.slice Ao24 t1243.length co24) t1243) ∧ Aside0 (Kd.R (Kd.int .i64) 3 wc w.heap.size (fun k_ => some k_ ≠ ((.slice Ao103 t1280.length co103) : Value).ownBlock ∧ some k_ ≠ ((.slice Ao24 t1243.length co24) : Value).ownBlock ∧ some k_ ≠ ((.slice Ao32 t1300.length co32) : Value).ownBlock ∧ some k_ ≠ ((.slice Ao33 t1301.length co33) : Value).ownBlock ∧ some k_ ≠ ((.slice Ao40 t1271.length co40) : Value).ownBlock ∧ some k_ ≠ ((.slice Ao41 t1274.length co41) : Value).ownBlock ∧ some k_ ≠ ((.slice Ao120 t1324.length co120) : Value).ownBlock ∧ some k_ ≠ ((.slice Ao121 t1327.length co121) : Value).ownBlock) (.slice Ao25 t1246.length co25) t1246) ∧ Aside0 (Kd.Q (Kd.int .i64) 3 wc w.heap.size (fun k_ => some k_ ≠ ((.slice Ao103 t1280.length co103) : Value).ownBlock ∧ some k_ ≠ ((.slice Ao24 t1243.length co24) : Value).ownBlock ∧ some k_ ≠ ((.slice Ao25 t1246.length co25) : Value).ownBlock ∧ some k_ ≠ ((.slice Ao33 t1301.length co33) : Value).ownBlock ∧ some k_ ≠ ((.slice Ao40 t1271.length co40) : Value).ownBlock ∧ some k_ ≠ ((.slice Ao41 t1274.length co41) : Value).ownBlock ∧ some k_ ≠ ((.slice Ao120 t1324.length co120) : Value).ownBlock ∧ some k_ ≠ ((.slice Ao121 t1327.length co121) : Value).ownBlock) (.slice Ao32 t1300.length co32) t1300) ∧ Aside0 (Kd.Q (Kd.int .i64) 3 wc w.heap.size (fun k_ => some k_ ≠ ((.slice Ao103 t1280.length co103) : Value).ownBlock ∧ some k_ ≠ ((.slice Ao24 t1243.length co24) : Value).ownBlock ∧ some k_ ≠ ((.slice Ao25 t1246.length co25) : Value).ownBlock ∧ some k_ ≠ ((.slice Ao32 t1300.length co32) : Value).ownBlock ∧ some k_ ≠ ((.slice Ao40 t1271.length co40) : Value).ownBlock ∧ some k_ ≠ ((.slice Ao41 t1274.length co41) : Value).ownBlock ∧ some k_ ≠ ((.slice Ao120 t1324.length co120) : Value).ownBlock ∧ some k_ ≠ ((.slice Ao121 t1327.length co121) : Value).ownBlock) (.slice Ao33 t1301.length co33) t1301) ∧ Aside0 (Kd.Q (Kd.int .i64) 3 wc w.heap.size (fun k_ => some k_ ≠ ((.slice Ao103 t1280.length co103) : Value).ownBlock ∧ some k_ ≠ ((.slice Ao24 t1243.length co24) : Value).ownBlock ∧ some k_ ≠ ((.slice Ao25 t1246.length co25) : Value).ownBlock ∧ some k_ ≠ ((.slice Ao32 t1300.length co32) : Value).ownBlock ∧ some k_ ≠ ((.slice Ao33 t1301.length co33) : Value).ownBlock ∧ some k_ ≠ ((.slice Ao41 t1274.length co41) : Value).ownBlock ∧ some k_ ≠ ((.slice Ao120 t1324.length co120) : Value).ownBlock ∧ some k_ ≠ ((.slice Ao121 t1327.length co121) : Value).ownBlock) (.slice Ao40 t1271.length co40) t1305) ∧ Aside0 (Kd.Q (Kd.int .i64) 3 wc w.heap.size (fun k_ => some k_ ≠ ((.slice Ao103 t1280.length co103) : Value).ownBlock ∧ some k_ ≠ ((.slice Ao24 t1243.length co24) : Value).ownBlock ∧ some k_ ≠ ((.slice Ao25 t1246.length co25) : Value).ownBlock ∧ some k_ ≠ ((.slice Ao32 t1300.length co32) : Value).ownBlock ∧ some k_ ≠ ((.slice Ao33 t1301.length co33) : Value).ownBlock ∧ some k_ ≠ ((.slice Ao40 t1271.length co40) : Value).ownBlock ∧ some k_ ≠ ((.slice Ao120 t1324.length co120) : Value).ownBlock ∧ some k_ ≠ ((.slice Ao121 t1327.length co121) : Value).ownBlock) (.slice Ao41 t1274.length co41) t1306) ∧ Aside0 (Kd.Q (Kd.int .i64) 3 wc w.heap.size (fun k_ => some k_ ≠ ((.slice Ao103 t1280.length co103) : Value).ownBlock ∧ some k_ ≠ ((.slice Ao24 t1243.length co24) : Value).ownBlock ∧ some k_ ≠ ((.slice Ao25 t1246.length co25) : Value).ownBlock ∧ some k_ ≠ ((.slice Ao32 t1300.length co32) : Value).ownBlock ∧ some k_ ≠ ((.slice Ao33 t1301.length co33) : Value).ownBlock ∧ some k_ ≠ ((.slice Ao40 t1271.length co40) : Value).ownBlock ∧ some k_ ≠ ((.slice Ao41 t1274.length co41) : Value).ownBlock ∧ some k_ ≠ ((.slice Ao121 t1327.length co121) : Value).ownBlock) (.slice Ao120 t1324.length co120) t1324) ∧ Aside0 (Kd.R (Kd.int .i64) 3 wc w.heap.size (fun k_ => some k_ ≠ ((.slice Ao103 t1280.length co103) : Value).ownBlock ∧ some k_ ≠ ((.slice Ao24 t1243.length co24) : Value).ownBlock ∧ some k_ ≠ ((.slice Ao25 t1246.length co25) : Value).ownBlock ∧ some k_ ≠ ((.slice Ao32 t1300.length co32) : Value).ownBlock ∧ some k_ ≠ ((.slice Ao33 t1301.length co33) : Value).ownBlock ∧ some k_ ≠ ((.slice Ao40 t1271.length co40) : Value).ownBlock ∧ some k_ ≠ ((.slice Ao41 t1274.length co41) : Value).ownBlock ∧ some k_ ≠ ((.slice Ao120 t1324.length co120) : Value).ownBlock) (.slice Ao121 t1327.length co121) t1327) ∧ Aside0 (wc.heap[gb1228]? = some (.cells #[.bool a0_0, .bool a0_1, (.slice A0_2 l0_2.length c0_2), (.slice A0_3 l0_3.length c0_3), .int .i64 a0_4, .int .i64 a0_5, .int .i64 a0_6] 24 (0, 0))) ∧ Aside0 (wc.heap[gb1256]? = some (.cells #[.bool t1241, .bool t1242, (.slice Ao24 t1243.length co24), (.slice Ao25 t1246.length co25), .int .i64 t1249, .int .i64 t1250, .int .i64 t1251] 27 (0, 0))) ∧ Aside0 (wc.heap[gb1268]? = some (.cells #[.bool t1257, .bool t1258, (.slice Ao32 t1300.length co32), (.slice Ao33 t1301.length co33), .int .i64 t1265, .int .i64 t1266, .int .i64 t1267] 27 (0, 0))) ∧ Aside0 (wc.heap[gb1284]? = some (.cells #[.bool t1269, .bool t1270, (.slice Ao40 t1271.length co40), (.slice Ao41 t1274.length co41), .int .i64 t1277, .int .i64 t1278, .int .i64 t1279] 27 (0, 0))) ∧ Aside0 (wc.heap[gb1337]? = some (.cells #[.bool t1322, .bool t1323, (.slice Ao120 t1324.length co120), (.slice Ao121 t1327.length co121), .int .i64 t1330, .int .i64 t1331, .int .i64 t1332] 27 (0, 0))) ∧ Aside0 (Below w.heap.size w wc))
            case first =>
             have H := HC97.out
             clear HC97
             replace H := Option.bind_eq_some_iff.mp H
             obtain ⟨t1338, A1220, H⟩ := H
             replace H : (if t1338 = true then ((laws_eqIntS.f kj60 t1333 t1252).bind fun t1339 => (if t1339 = true then (laws_FnExactStepBack.j2 kj60 t1308 t1307 (t1336 != t1255) t1269 t1270 t1305 t1306 t1277 t1278 t1279) else (laws_FnExactStepBack.j2 kj60 t1308 t1307 true t1269 t1270 t1305 t1306 t1277 t1278 t1279))) else (laws_FnExactStepBack.j2 kj60 t1308 t1307 true t1269 t1270 t1305 t1306 t1277 t1278 t1279)) = some r := H
             have A122 := am A1220
             clear A1220
             by_cases c123 : t1338 = true
             ·subst c123
              replace H : ((laws_eqIntS.f kj60 t1333 t1252).bind fun t1339 => (if t1339 = true then (laws_FnExactStepBack.j2 kj60 t1308 t1307 (t1336 != t1255) t1269 t1270 t1305 t1306 t1277 t1278 t1279) else (laws_FnExactStepBack.j2 kj60 t1308 t1307 true t1269 t1270 t1305 t1306 t1277 t1278 t1279))) = some r := by rw [if_pos rfl] at H; exact H
              replace H := Option.bind_eq_some_iff.mp H
              obtain ⟨t1339, A1240, H⟩ := H
              replace H : (if t1339 = true then (laws_FnExactStepBack.j2 kj60 t1308 t1307 (t1336 != t1255) t1269 t1270 t1305 t1306 t1277 t1278 t1279) else (laws_FnExactStepBack.j2 kj60 t1308 t1307 true t1269 t1270 t1305 t1306 t1277 t1278 t1279)) = some r := H
              have A124 := am A1240
              clear A1240
              by_cases c125 : t1339 = true
              ·subst c125
               replace H : (laws_FnExactStepBack.j2 kj60 t1308 t1307 (t1336 != t1255) t1269 t1270 t1305 t1306 t1277 t1278 t1279) = some r := by rw [if_pos rfl] at H; exact H
               have H' := am H
               clear H
               have hnb126 := NB1337_1228.out
               have hnc126 := NB1228_1337.out
               have hnb127 := NB1337_1256.out
               have hnc127 := NB1256_1337.out
               have hnb128 := NB1337_1268.out
               have hnc128 := NB1268_1337.out
               have hnb129 := NB1337_1284.out
               have hnc129 := NB1284_1337.out
               obtain ⟨hcz130_0, hcz130_1, hcz130_2, hcz130_3, hcz130_4, hcz130_5, hcz130_6, hfz130_0, hfz130_1, hfz130_2, hfz130_3, hfz130_4, hfz130_5, hfz130_6⟩ := bk7 BK1337.out
               have hnb131 := NB1256_1228.out
               have hnc131 := NB1228_1256.out
               have hnb132 := NB1256_1268.out
               have hnc132 := NB1268_1256.out
               have hnb133 := NB1256_1284.out
               have hnc133 := NB1284_1256.out
               obtain ⟨hcz134_0, hcz134_1, hcz134_2, hcz134_3, hcz134_4, hcz134_5, hcz134_6, hfz134_0, hfz134_1, hfz134_2, hfz134_3, hfz134_4, hfz134_5, hfz134_6⟩ := bk7 BK1256.out
               go_wp2_with (first | ((with_reducible refine gate_callee (f := 18) rfl ?_); refine goesL_ (some 112) rfl rfl Try.func18 (by kernel_rfl) rfl #[.agg #[.bool t1322, .bool t1323, .slice Ao120 t1324.length co120, .slice Ao121 t1327.length co121, .int .i64 t1330, .int .i64 t1331, .int .i64 t1332], .agg #[.bool t1241, .bool t1242, .slice Ao24 t1243.length co24, .slice Ao25 t1246.length co25, .int .i64 t1249, .int .i64 t1250, .int .i64 t1251]] rfl mpx ?_; (with_reducible refine (laws_eqEvent.calls kj60 t1322 t1323 _ _ t1324 _ _ t1327 t1330 t1331 t1332 t1241 t1242 _ _ t1243 _ _ t1246 t1249 t1250 t1251 true _ ?side1 ?side2 ?side3 ?side4 ?side5 ?side6 ?side7 ?side8 A122.out).mono ?_); (case side1 => refine (Kd.Q_reads' (e := 3) (base := w.heap.size) (ok := fun k_ => (((((((((((some k_ ≠ (.slice Ao121 t1327.length co121 : Value).ownBlock ∧ some k_ ≠ (v1334 : Value).ownBlock) ∧ some k_ ≠ (v1253 : Value).ownBlock) ∧ some k_ ≠ (.slice Ao103 t1280.length co103 : Value).ownBlock) ∧ some k_ ≠ (.slice Ao24 t1243.length co24 : Value).ownBlock) ∧ some k_ ≠ (.slice Ao25 t1246.length co25 : Value).ownBlock) ∧ some k_ ≠ (.slice Ao32 t1300.length co32 : Value).ownBlock) ∧ some k_ ≠ (.slice Ao33 t1301.length co33 : Value).ownBlock) ∧ some k_ ≠ (.slice Ao40 t1271.length co40 : Value).ownBlock) ∧ some k_ ≠ (.slice Ao41 t1274.length co41 : Value).ownBlock) ∧ some k_ ≠ (.slice Ao111 t1313.length co111 : Value).ownBlock) ∧ some k_ ≠ (.slice Ao112 t1316.length co112 : Value).ownBlock)) (n := t1324.length) (c := co120) ?_).2.2; exact (by (with_reducible repeat (first | apply Kd.Q_alloc | apply Kd.Q_drewN | apply Kd.Q_drew)); exact (Kd.Q_mono (Kd.Q_far (p := ⟨gb1337, 6, none⟩) (Kd.Q_far (p := ⟨gb1337, 5, none⟩) (Kd.Q_far (p := ⟨gb1337, 4, none⟩) (Kd.Q_far (p := ⟨gb1337, 3, none⟩) (Kd.Q_far (p := ⟨gb1337, 2, none⟩) (Kd.Q_far (p := ⟨gb1337, 1, none⟩) (Kd.Q_far (p := ⟨gb1337, 0, none⟩) (Kd.Q_types HO1326.out BK1337.out (by decide)) (fun _ hk => hk.2) (.bool t1322)) (fun _ hk => hk.2) (.bool t1323)) (fun _ hk => hk.2) (.slice Ao120 t1324.length co120)) (fun _ hk => hk.2) (.slice Ao121 t1327.length co121)) (fun _ hk => hk.2) (.int .i64 t1330)) (fun _ hk => hk.2) (.int .i64 t1331)) (fun _ hk => hk.2) (.int .i64 t1332)) (fun _ h_ => h_.1)))); (case side2 => exact (Kd.Q_reads' HO1326.out).2.1); (case side3 => refine (Kd.R_reads' (e := 3) (base := w.heap.size) (ok := fun k_ => (((((((((((some k_ ≠ (.slice Ao120 t1324.length co120 : Value).ownBlock ∧ some k_ ≠ (v1334 : Value).ownBlock) ∧ some k_ ≠ (v1253 : Value).ownBlock) ∧ some k_ ≠ (.slice Ao103 t1280.length co103 : Value).ownBlock) ∧ some k_ ≠ (.slice Ao24 t1243.length co24 : Value).ownBlock) ∧ some k_ ≠ (.slice Ao25 t1246.length co25 : Value).ownBlock) ∧ some k_ ≠ (.slice Ao32 t1300.length co32 : Value).ownBlock) ∧ some k_ ≠ (.slice Ao33 t1301.length co33 : Value).ownBlock) ∧ some k_ ≠ (.slice Ao40 t1271.length co40 : Value).ownBlock) ∧ some k_ ≠ (.slice Ao41 t1274.length co41 : Value).ownBlock) ∧ some k_ ≠ (.slice Ao111 t1313.length co111 : Value).ownBlock) ∧ some k_ ≠ (.slice Ao112 t1316.length co112 : Value).ownBlock)) (n := t1327.length) (c := co121) ?_).2.2; exact (by (with_reducible repeat (first | apply Kd.R_alloc | apply Kd.R_drewN | apply Kd.R_drew)); exact (Kd.R_mono (Kd.R_far (p := ⟨gb1337, 6, none⟩) (Kd.R_far (p := ⟨gb1337, 5, none⟩) (Kd.R_far (p := ⟨gb1337, 4, none⟩) (Kd.R_far (p := ⟨gb1337, 3, none⟩) (Kd.R_far (p := ⟨gb1337, 2, none⟩) (Kd.R_far (p := ⟨gb1337, 1, none⟩) (Kd.R_far (p := ⟨gb1337, 0, none⟩) (Kd.R_types HO1329.out BK1337.out (by decide)) (fun _ hk => hk.2) (.bool t1322)) (fun _ hk => hk.2) (.bool t1323)) (fun _ hk => hk.2) (.slice Ao120 t1324.length co120)) (fun _ hk => hk.2) (.slice Ao121 t1327.length co121)) (fun _ hk => hk.2) (.int .i64 t1330)) (fun _ hk => hk.2) (.int .i64 t1331)) (fun _ hk => hk.2) (.int .i64 t1332)) (fun _ h_ => h_.1)))); (case side4 => exact (Kd.R_reads' HO1329.out).2.1); (case side5 => refine (Kd.Q_reads' (e := 3) (base := w.heap.size) (ok := fun k_ => ((((((some k_ ≠ (v1253 : Value).ownBlock ∧ (some k_ ≠ (.slice Ao103 t1280.length co103 : Value).ownBlock ∧ (some k_ ≠ (.slice Ao25 t1246.length co25 : Value).ownBlock ∧ (some k_ ≠ (.slice Ao32 t1300.length co32 : Value).ownBlock ∧ (some k_ ≠ (.slice Ao33 t1301.length co33 : Value).ownBlock ∧ (some k_ ≠ (.slice Ao40 t1271.length co40 : Value).ownBlock ∧ some k_ ≠ (.slice Ao41 t1274.length co41 : Value).ownBlock)))))) ∧ some k_ ≠ (.slice Ao111 t1313.length co111 : Value).ownBlock) ∧ some k_ ≠ (.slice Ao112 t1316.length co112 : Value).ownBlock) ∧ some k_ ≠ (.slice Ao120 t1324.length co120 : Value).ownBlock) ∧ some k_ ≠ (.slice Ao121 t1327.length co121 : Value).ownBlock) ∧ some k_ ≠ (v1334 : Value).ownBlock)) (n := t1243.length) (c := co24) ?_).2.2; exact (by (with_reducible repeat (first | apply Kd.Q_alloc | apply Kd.Q_drewN | apply Kd.Q_drew)); exact (Kd.Q_mono (Kd.Q_far (p := ⟨gb1337, 6, none⟩) (Kd.Q_far (p := ⟨gb1337, 5, none⟩) (Kd.Q_far (p := ⟨gb1337, 4, none⟩) (Kd.Q_far (p := ⟨gb1337, 3, none⟩) (Kd.Q_far (p := ⟨gb1337, 2, none⟩) (Kd.Q_far (p := ⟨gb1337, 1, none⟩) (Kd.Q_far (p := ⟨gb1337, 0, none⟩) (Kd.Q_types HO_1257002.out BK1337.out (by decide)) (fun _ hk => hk.2) (.bool t1322)) (fun _ hk => hk.2) (.bool t1323)) (fun _ hk => hk.2) (.slice Ao120 t1324.length co120)) (fun _ hk => hk.2) (.slice Ao121 t1327.length co121)) (fun _ hk => hk.2) (.int .i64 t1330)) (fun _ hk => hk.2) (.int .i64 t1331)) (fun _ hk => hk.2) (.int .i64 t1332)) (fun _ h_ => h_.1)))); (case side6 => exact (Kd.Q_reads' HO_1257002.out).2.1); (case side7 => refine (Kd.R_reads' (e := 3) (base := w.heap.size) (ok := fun k_ => ((((((some k_ ≠ (v1253 : Value).ownBlock ∧ (some k_ ≠ (.slice Ao103 t1280.length co103 : Value).ownBlock ∧ (some k_ ≠ (.slice Ao24 t1243.length co24 : Value).ownBlock ∧ (some k_ ≠ (.slice Ao32 t1300.length co32 : Value).ownBlock ∧ (some k_ ≠ (.slice Ao33 t1301.length co33 : Value).ownBlock ∧ (some k_ ≠ (.slice Ao40 t1271.length co40 : Value).ownBlock ∧ some k_ ≠ (.slice Ao41 t1274.length co41 : Value).ownBlock)))))) ∧ some k_ ≠ (.slice Ao111 t1313.length co111 : Value).ownBlock) ∧ some k_ ≠ (.slice Ao112 t1316.length co112 : Value).ownBlock) ∧ some k_ ≠ (.slice Ao120 t1324.length co120 : Value).ownBlock) ∧ some k_ ≠ (.slice Ao121 t1327.length co121 : Value).ownBlock) ∧ some k_ ≠ (v1334 : Value).ownBlock)) (n := t1246.length) (c := co25) ?_).2.2; exact (by (with_reducible repeat (first | apply Kd.R_alloc | apply Kd.R_drewN | apply Kd.R_drew)); exact (Kd.R_mono (Kd.R_far (p := ⟨gb1337, 6, none⟩) (Kd.R_far (p := ⟨gb1337, 5, none⟩) (Kd.R_far (p := ⟨gb1337, 4, none⟩) (Kd.R_far (p := ⟨gb1337, 3, none⟩) (Kd.R_far (p := ⟨gb1337, 2, none⟩) (Kd.R_far (p := ⟨gb1337, 1, none⟩) (Kd.R_far (p := ⟨gb1337, 0, none⟩) (Kd.R_types HO_1257003.out BK1337.out (by decide)) (fun _ hk => hk.2) (.bool t1322)) (fun _ hk => hk.2) (.bool t1323)) (fun _ hk => hk.2) (.slice Ao120 t1324.length co120)) (fun _ hk => hk.2) (.slice Ao121 t1327.length co121)) (fun _ hk => hk.2) (.int .i64 t1330)) (fun _ hk => hk.2) (.int .i64 t1331)) (fun _ hk => hk.2) (.int .i64 t1332)) (fun _ h_ => h_.1)))); (case side8 => exact (Kd.R_reads' HO_1257003.out).2.1); rintro e w135 ⟨rfl, hb⟩; refine ⟨_, rfl, ?_⟩; replace HO_7 := am (Kd.R_below (by (with_reducible repeat (first | apply Kd.R_alloc | apply Kd.R_drewN | apply Kd.R_drew)); exact (Kd.R_mono (Kd.R_far (p := ⟨gb1337, 6, none⟩) (Kd.R_far (p := ⟨gb1337, 5, none⟩) (Kd.R_far (p := ⟨gb1337, 4, none⟩) (Kd.R_far (p := ⟨gb1337, 3, none⟩) (Kd.R_far (p := ⟨gb1337, 2, none⟩) (Kd.R_far (p := ⟨gb1337, 1, none⟩) (Kd.R_far (p := ⟨gb1337, 0, none⟩) (Kd.R_types HO_7.out BK1337.out (by decide)) (fun _ hk => hk.2) (.bool t1322)) (fun _ hk => hk.2) (.bool t1323)) (fun _ hk => hk.2) (.slice Ao120 t1324.length co120)) (fun _ hk => hk.2) (.slice Ao121 t1327.length co121)) (fun _ hk => hk.2) (.int .i64 t1330)) (fun _ hk => hk.2) (.int .i64 t1331)) (fun _ hk => hk.2) (.int .i64 t1332)) (fun _ h_ => h_.1))) hb); replace HO_11 := am (Kd.Q_below (by (with_reducible repeat (first | apply Kd.Q_alloc | apply Kd.Q_drewN | apply Kd.Q_drew)); exact (Kd.Q_mono (Kd.Q_far (p := ⟨gb1337, 6, none⟩) (Kd.Q_far (p := ⟨gb1337, 5, none⟩) (Kd.Q_far (p := ⟨gb1337, 4, none⟩) (Kd.Q_far (p := ⟨gb1337, 3, none⟩) (Kd.Q_far (p := ⟨gb1337, 2, none⟩) (Kd.Q_far (p := ⟨gb1337, 1, none⟩) (Kd.Q_far (p := ⟨gb1337, 0, none⟩) (Kd.Q_types HO_11.out BK1337.out (by decide)) (fun _ hk => hk.2) (.bool t1322)) (fun _ hk => hk.2) (.bool t1323)) (fun _ hk => hk.2) (.slice Ao120 t1324.length co120)) (fun _ hk => hk.2) (.slice Ao121 t1327.length co121)) (fun _ hk => hk.2) (.int .i64 t1330)) (fun _ hk => hk.2) (.int .i64 t1331)) (fun _ hk => hk.2) (.int .i64 t1332)) (fun _ h_ => h_.1))) hb); replace HO_1257002 := am (Kd.Q_below (by (with_reducible repeat (first | apply Kd.Q_alloc | apply Kd.Q_drewN | apply Kd.Q_drew)); exact (Kd.Q_mono (Kd.Q_far (p := ⟨gb1337, 6, none⟩) (Kd.Q_far (p := ⟨gb1337, 5, none⟩) (Kd.Q_far (p := ⟨gb1337, 4, none⟩) (Kd.Q_far (p := ⟨gb1337, 3, none⟩) (Kd.Q_far (p := ⟨gb1337, 2, none⟩) (Kd.Q_far (p := ⟨gb1337, 1, none⟩) (Kd.Q_far (p := ⟨gb1337, 0, none⟩) (Kd.Q_types HO_1257002.out BK1337.out (by decide)) (fun _ hk => hk.2) (.bool t1322)) (fun _ hk => hk.2) (.bool t1323)) (fun _ hk => hk.2) (.slice Ao120 t1324.length co120)) (fun _ hk => hk.2) (.slice Ao121 t1327.length co121)) (fun _ hk => hk.2) (.int .i64 t1330)) (fun _ hk => hk.2) (.int .i64 t1331)) (fun _ hk => hk.2) (.int .i64 t1332)) (fun _ h_ => h_.1))) hb); replace HO_1257003 := am (Kd.R_below (by (with_reducible repeat (first | apply Kd.R_alloc | apply Kd.R_drewN | apply Kd.R_drew)); exact (Kd.R_mono (Kd.R_far (p := ⟨gb1337, 6, none⟩) (Kd.R_far (p := ⟨gb1337, 5, none⟩) (Kd.R_far (p := ⟨gb1337, 4, none⟩) (Kd.R_far (p := ⟨gb1337, 3, none⟩) (Kd.R_far (p := ⟨gb1337, 2, none⟩) (Kd.R_far (p := ⟨gb1337, 1, none⟩) (Kd.R_far (p := ⟨gb1337, 0, none⟩) (Kd.R_types HO_1257003.out BK1337.out (by decide)) (fun _ hk => hk.2) (.bool t1322)) (fun _ hk => hk.2) (.bool t1323)) (fun _ hk => hk.2) (.slice Ao120 t1324.length co120)) (fun _ hk => hk.2) (.slice Ao121 t1327.length co121)) (fun _ hk => hk.2) (.int .i64 t1330)) (fun _ hk => hk.2) (.int .i64 t1331)) (fun _ hk => hk.2) (.int .i64 t1332)) (fun _ h_ => h_.1))) hb); replace HO_1269002 := am (Kd.Q_below (by (with_reducible repeat (first | apply Kd.Q_alloc | apply Kd.Q_drewN | apply Kd.Q_drew)); exact (Kd.Q_mono (Kd.Q_far (p := ⟨gb1337, 6, none⟩) (Kd.Q_far (p := ⟨gb1337, 5, none⟩) (Kd.Q_far (p := ⟨gb1337, 4, none⟩) (Kd.Q_far (p := ⟨gb1337, 3, none⟩) (Kd.Q_far (p := ⟨gb1337, 2, none⟩) (Kd.Q_far (p := ⟨gb1337, 1, none⟩) (Kd.Q_far (p := ⟨gb1337, 0, none⟩) (Kd.Q_types HO_1269002.out BK1337.out (by decide)) (fun _ hk => hk.2) (.bool t1322)) (fun _ hk => hk.2) (.bool t1323)) (fun _ hk => hk.2) (.slice Ao120 t1324.length co120)) (fun _ hk => hk.2) (.slice Ao121 t1327.length co121)) (fun _ hk => hk.2) (.int .i64 t1330)) (fun _ hk => hk.2) (.int .i64 t1331)) (fun _ hk => hk.2) (.int .i64 t1332)) (fun _ h_ => h_.1))) hb); replace HO_1269003 := am (Kd.Q_below (by (with_reducible repeat (first | apply Kd.Q_alloc | apply Kd.Q_drewN | apply Kd.Q_drew)); exact (Kd.Q_mono (Kd.Q_far (p := ⟨gb1337, 6, none⟩) (Kd.Q_far (p := ⟨gb1337, 5, none⟩) (Kd.Q_far (p := ⟨gb1337, 4, none⟩) (Kd.Q_far (p := ⟨gb1337, 3, none⟩) (Kd.Q_far (p := ⟨gb1337, 2, none⟩) (Kd.Q_far (p := ⟨gb1337, 1, none⟩) (Kd.Q_far (p := ⟨gb1337, 0, none⟩) (Kd.Q_types HO_1269003.out BK1337.out (by decide)) (fun _ hk => hk.2) (.bool t1322)) (fun _ hk => hk.2) (.bool t1323)) (fun _ hk => hk.2) (.slice Ao120 t1324.length co120)) (fun _ hk => hk.2) (.slice Ao121 t1327.length co121)) (fun _ hk => hk.2) (.int .i64 t1330)) (fun _ hk => hk.2) (.int .i64 t1331)) (fun _ hk => hk.2) (.int .i64 t1332)) (fun _ h_ => h_.1))) hb); replace HO_1285002 := am (Kd.Q_below (by (with_reducible repeat (first | apply Kd.Q_alloc | apply Kd.Q_drewN | apply Kd.Q_drew)); exact (Kd.Q_mono (Kd.Q_far (p := ⟨gb1337, 6, none⟩) (Kd.Q_far (p := ⟨gb1337, 5, none⟩) (Kd.Q_far (p := ⟨gb1337, 4, none⟩) (Kd.Q_far (p := ⟨gb1337, 3, none⟩) (Kd.Q_far (p := ⟨gb1337, 2, none⟩) (Kd.Q_far (p := ⟨gb1337, 1, none⟩) (Kd.Q_far (p := ⟨gb1337, 0, none⟩) (Kd.Q_types HO_1285002.out BK1337.out (by decide)) (fun _ hk => hk.2) (.bool t1322)) (fun _ hk => hk.2) (.bool t1323)) (fun _ hk => hk.2) (.slice Ao120 t1324.length co120)) (fun _ hk => hk.2) (.slice Ao121 t1327.length co121)) (fun _ hk => hk.2) (.int .i64 t1330)) (fun _ hk => hk.2) (.int .i64 t1331)) (fun _ hk => hk.2) (.int .i64 t1332)) (fun _ h_ => h_.1))) hb); replace HO_1285003 := am (Kd.Q_below (by (with_reducible repeat (first | apply Kd.Q_alloc | apply Kd.Q_drewN | apply Kd.Q_drew)); exact (Kd.Q_mono (Kd.Q_far (p := ⟨gb1337, 6, none⟩) (Kd.Q_far (p := ⟨gb1337, 5, none⟩) (Kd.Q_far (p := ⟨gb1337, 4, none⟩) (Kd.Q_far (p := ⟨gb1337, 3, none⟩) (Kd.Q_far (p := ⟨gb1337, 2, none⟩) (Kd.Q_far (p := ⟨gb1337, 1, none⟩) (Kd.Q_far (p := ⟨gb1337, 0, none⟩) (Kd.Q_types HO_1285003.out BK1337.out (by decide)) (fun _ hk => hk.2) (.bool t1322)) (fun _ hk => hk.2) (.bool t1323)) (fun _ hk => hk.2) (.slice Ao120 t1324.length co120)) (fun _ hk => hk.2) (.slice Ao121 t1327.length co121)) (fun _ hk => hk.2) (.int .i64 t1330)) (fun _ hk => hk.2) (.int .i64 t1331)) (fun _ hk => hk.2) (.int .i64 t1332)) (fun _ h_ => h_.1))) hb); replace HO1315 := am (Kd.R_below (by (with_reducible repeat (first | apply Kd.R_alloc | apply Kd.R_drewN | apply Kd.R_drew)); exact (Kd.R_mono (Kd.R_far (p := ⟨gb1337, 6, none⟩) (Kd.R_far (p := ⟨gb1337, 5, none⟩) (Kd.R_far (p := ⟨gb1337, 4, none⟩) (Kd.R_far (p := ⟨gb1337, 3, none⟩) (Kd.R_far (p := ⟨gb1337, 2, none⟩) (Kd.R_far (p := ⟨gb1337, 1, none⟩) (Kd.R_far (p := ⟨gb1337, 0, none⟩) (Kd.R_types HO1315.out BK1337.out (by decide)) (fun _ hk => hk.2) (.bool t1322)) (fun _ hk => hk.2) (.bool t1323)) (fun _ hk => hk.2) (.slice Ao120 t1324.length co120)) (fun _ hk => hk.2) (.slice Ao121 t1327.length co121)) (fun _ hk => hk.2) (.int .i64 t1330)) (fun _ hk => hk.2) (.int .i64 t1331)) (fun _ hk => hk.2) (.int .i64 t1332)) (fun _ h_ => h_.1))) hb); replace HO1318 := am (Kd.R_below (by (with_reducible repeat (first | apply Kd.R_alloc | apply Kd.R_drewN | apply Kd.R_drew)); exact (Kd.R_mono (Kd.R_far (p := ⟨gb1337, 6, none⟩) (Kd.R_far (p := ⟨gb1337, 5, none⟩) (Kd.R_far (p := ⟨gb1337, 4, none⟩) (Kd.R_far (p := ⟨gb1337, 3, none⟩) (Kd.R_far (p := ⟨gb1337, 2, none⟩) (Kd.R_far (p := ⟨gb1337, 1, none⟩) (Kd.R_far (p := ⟨gb1337, 0, none⟩) (Kd.R_types HO1318.out BK1337.out (by decide)) (fun _ hk => hk.2) (.bool t1322)) (fun _ hk => hk.2) (.bool t1323)) (fun _ hk => hk.2) (.slice Ao120 t1324.length co120)) (fun _ hk => hk.2) (.slice Ao121 t1327.length co121)) (fun _ hk => hk.2) (.int .i64 t1330)) (fun _ hk => hk.2) (.int .i64 t1331)) (fun _ hk => hk.2) (.int .i64 t1332)) (fun _ h_ => h_.1))) hb); replace HO1326 := am (Kd.Q_below (by (with_reducible repeat (first | apply Kd.Q_alloc | apply Kd.Q_drewN | apply Kd.Q_drew)); exact (Kd.Q_mono (Kd.Q_far (p := ⟨gb1337, 6, none⟩) (Kd.Q_far (p := ⟨gb1337, 5, none⟩) (Kd.Q_far (p := ⟨gb1337, 4, none⟩) (Kd.Q_far (p := ⟨gb1337, 3, none⟩) (Kd.Q_far (p := ⟨gb1337, 2, none⟩) (Kd.Q_far (p := ⟨gb1337, 1, none⟩) (Kd.Q_far (p := ⟨gb1337, 0, none⟩) (Kd.Q_types HO1326.out BK1337.out (by decide)) (fun _ hk => hk.2) (.bool t1322)) (fun _ hk => hk.2) (.bool t1323)) (fun _ hk => hk.2) (.slice Ao120 t1324.length co120)) (fun _ hk => hk.2) (.slice Ao121 t1327.length co121)) (fun _ hk => hk.2) (.int .i64 t1330)) (fun _ hk => hk.2) (.int .i64 t1331)) (fun _ hk => hk.2) (.int .i64 t1332)) (fun _ h_ => h_.1))) hb); replace HO1329 := am (Kd.R_below (by (with_reducible repeat (first | apply Kd.R_alloc | apply Kd.R_drewN | apply Kd.R_drew)); exact (Kd.R_mono (Kd.R_far (p := ⟨gb1337, 6, none⟩) (Kd.R_far (p := ⟨gb1337, 5, none⟩) (Kd.R_far (p := ⟨gb1337, 4, none⟩) (Kd.R_far (p := ⟨gb1337, 3, none⟩) (Kd.R_far (p := ⟨gb1337, 2, none⟩) (Kd.R_far (p := ⟨gb1337, 1, none⟩) (Kd.R_far (p := ⟨gb1337, 0, none⟩) (Kd.R_types HO1329.out BK1337.out (by decide)) (fun _ hk => hk.2) (.bool t1322)) (fun _ hk => hk.2) (.bool t1323)) (fun _ hk => hk.2) (.slice Ao120 t1324.length co120)) (fun _ hk => hk.2) (.slice Ao121 t1327.length co121)) (fun _ hk => hk.2) (.int .i64 t1330)) (fun _ hk => hk.2) (.int .i64 t1331)) (fun _ hk => hk.2) (.int .i64 t1332)) (fun _ h_ => h_.1))) hb); replace HO1335 := am (Kd.R_below (by (with_reducible repeat (first | apply Kd.R_alloc | apply Kd.R_drewN | apply Kd.R_drew)); exact (Kd.R_mono (Kd.R_far (p := ⟨gb1337, 6, none⟩) (Kd.R_far (p := ⟨gb1337, 5, none⟩) (Kd.R_far (p := ⟨gb1337, 4, none⟩) (Kd.R_far (p := ⟨gb1337, 3, none⟩) (Kd.R_far (p := ⟨gb1337, 2, none⟩) (Kd.R_far (p := ⟨gb1337, 1, none⟩) (Kd.R_far (p := ⟨gb1337, 0, none⟩) (Kd.R_types HO1335.out BK1337.out (by decide)) (fun _ hk => hk.2) (.bool t1322)) (fun _ hk => hk.2) (.bool t1323)) (fun _ hk => hk.2) (.slice Ao120 t1324.length co120)) (fun _ hk => hk.2) (.slice Ao121 t1327.length co121)) (fun _ hk => hk.2) (.int .i64 t1330)) (fun _ hk => hk.2) (.int .i64 t1331)) (fun _ hk => hk.2) (.int .i64 t1332)) (fun _ h_ => h_.1))) hb); replace BK1228 := am (blk_below (g := gb1228) (o := .cells #[.bool a0_0, .bool a0_1, .slice A0_2 l0_2.length c0_2, .slice A0_3 l0_3.length c0_3, .int .i64 a0_4, .int .i64 a0_5, .int .i64 a0_6] 24 (0, 0)) (by (with_reducible repeat (first | refine blk_drewN ?_ _ | refine blk_drew ?_ | refine blk_alloc ?_ _)); refine blk_far ?_ NB1228_1337.out _; (with_reducible repeat (first | refine blk_drewN ?_ _ | refine blk_drew ?_ | refine blk_alloc ?_ _)); refine blk_far ?_ NB1228_1337.out _; (with_reducible repeat (first | refine blk_drewN ?_ _ | refine blk_drew ?_ | refine blk_alloc ?_ _)); refine blk_far ?_ NB1228_1337.out _; (with_reducible repeat (first | refine blk_drewN ?_ _ | refine blk_drew ?_ | refine blk_alloc ?_ _)); refine blk_far ?_ NB1228_1337.out _; (with_reducible repeat (first | refine blk_drewN ?_ _ | refine blk_drew ?_ | refine blk_alloc ?_ _)); refine blk_far ?_ NB1228_1337.out _; (with_reducible repeat (first | refine blk_drewN ?_ _ | refine blk_drew ?_ | refine blk_alloc ?_ _)); refine blk_far ?_ NB1228_1337.out _; (with_reducible repeat (first | refine blk_drewN ?_ _ | refine blk_drew ?_ | refine blk_alloc ?_ _)); refine blk_far ?_ NB1228_1337.out _; exact pkK BK1228.out) hb); replace BK1256 := am (blk_below (g := gb1256) (o := .cells #[.bool t1241, .bool t1242, .slice Ao24 t1243.length co24, .slice Ao25 t1246.length co25, .int .i64 t1249, .int .i64 t1250, .int .i64 t1251] 27 (0, 0)) (by (with_reducible repeat (first | refine blk_drewN ?_ _ | refine blk_drew ?_ | refine blk_alloc ?_ _)); refine blk_far ?_ NB1256_1337.out _; (with_reducible repeat (first | refine blk_drewN ?_ _ | refine blk_drew ?_ | refine blk_alloc ?_ _)); refine blk_far ?_ NB1256_1337.out _; (with_reducible repeat (first | refine blk_drewN ?_ _ | refine blk_drew ?_ | refine blk_alloc ?_ _)); refine blk_far ?_ NB1256_1337.out _; (with_reducible repeat (first | refine blk_drewN ?_ _ | refine blk_drew ?_ | refine blk_alloc ?_ _)); refine blk_far ?_ NB1256_1337.out _; (with_reducible repeat (first | refine blk_drewN ?_ _ | refine blk_drew ?_ | refine blk_alloc ?_ _)); refine blk_far ?_ NB1256_1337.out _; (with_reducible repeat (first | refine blk_drewN ?_ _ | refine blk_drew ?_ | refine blk_alloc ?_ _)); refine blk_far ?_ NB1256_1337.out _; (with_reducible repeat (first | refine blk_drewN ?_ _ | refine blk_drew ?_ | refine blk_alloc ?_ _)); refine blk_far ?_ NB1256_1337.out _; exact pkK BK1256.out) hb); replace BK1268 := am (blk_below (g := gb1268) (o := .cells #[.bool t1257, .bool t1258, .slice Ao32 t1300.length co32, .slice Ao33 t1301.length co33, .int .i64 t1265, .int .i64 t1266, .int .i64 t1267] 27 (0, 0)) (by (with_reducible repeat (first | refine blk_drewN ?_ _ | refine blk_drew ?_ | refine blk_alloc ?_ _)); refine blk_far ?_ NB1268_1337.out _; (with_reducible repeat (first | refine blk_drewN ?_ _ | refine blk_drew ?_ | refine blk_alloc ?_ _)); refine blk_far ?_ NB1268_1337.out _; (with_reducible repeat (first | refine blk_drewN ?_ _ | refine blk_drew ?_ | refine blk_alloc ?_ _)); refine blk_far ?_ NB1268_1337.out _; (with_reducible repeat (first | refine blk_drewN ?_ _ | refine blk_drew ?_ | refine blk_alloc ?_ _)); refine blk_far ?_ NB1268_1337.out _; (with_reducible repeat (first | refine blk_drewN ?_ _ | refine blk_drew ?_ | refine blk_alloc ?_ _)); refine blk_far ?_ NB1268_1337.out _; (with_reducible repeat (first | refine blk_drewN ?_ _ | refine blk_drew ?_ | refine blk_alloc ?_ _)); refine blk_far ?_ NB1268_1337.out _; (with_reducible repeat (first | refine blk_drewN ?_ _ | refine blk_drew ?_ | refine blk_alloc ?_ _)); refine blk_far ?_ NB1268_1337.out _; exact pkK BK1268.out) hb); replace BK1284 := am (blk_below (g := gb1284) (o := .cells #[.bool t1269, .bool t1270, .slice Ao40 t1271.length co40, .slice Ao41 t1274.length co41, .int .i64 t1277, .int .i64 t1278, .int .i64 t1279] 27 (0, 0)) (by (with_reducible repeat (first | refine blk_drewN ?_ _ | refine blk_drew ?_ | refine blk_alloc ?_ _)); refine blk_far ?_ NB1284_1337.out _; (with_reducible repeat (first | refine blk_drewN ?_ _ | refine blk_drew ?_ | refine blk_alloc ?_ _)); refine blk_far ?_ NB1284_1337.out _; (with_reducible repeat (first | refine blk_drewN ?_ _ | refine blk_drew ?_ | refine blk_alloc ?_ _)); refine blk_far ?_ NB1284_1337.out _; (with_reducible repeat (first | refine blk_drewN ?_ _ | refine blk_drew ?_ | refine blk_alloc ?_ _)); refine blk_far ?_ NB1284_1337.out _; (with_reducible repeat (first | refine blk_drewN ?_ _ | refine blk_drew ?_ | refine blk_alloc ?_ _)); refine blk_far ?_ NB1284_1337.out _; (with_reducible repeat (first | refine blk_drewN ?_ _ | refine blk_drew ?_ | refine blk_alloc ?_ _)); refine blk_far ?_ NB1284_1337.out _; (with_reducible repeat (first | refine blk_drewN ?_ _ | refine blk_drew ?_ | refine blk_alloc ?_ _)); refine blk_far ?_ NB1284_1337.out _; exact pkK BK1284.out) hb); replace BK1337 := am (blk_below (g := gb1337) (o := .cells #[.bool t1322, .bool t1323, .slice Ao120 t1324.length co120, .slice Ao121 t1327.length co121, .int .i64 t1330, .int .i64 t1331, .int .i64 t1332] 27 (0, 0)) (by (with_reducible repeat (first | refine blk_drewN ?_ _ | refine blk_drew ?_ | refine blk_alloc ?_ _)); refine blk_put (cs := #[.bool t1322, .bool t1323, .slice Ao120 t1324.length co120, .slice Ao121 t1327.length co121, .int .i64 t1330, .int .i64 t1331, .int .i64 0]) ?_ 6 _ rfl; (with_reducible repeat (first | refine blk_drewN ?_ _ | refine blk_drew ?_ | refine blk_alloc ?_ _)); refine blk_put (cs := #[.bool t1322, .bool t1323, .slice Ao120 t1324.length co120, .slice Ao121 t1327.length co121, .int .i64 t1330, .int .i64 0, .int .i64 0]) ?_ 5 _ rfl; (with_reducible repeat (first | refine blk_drewN ?_ _ | refine blk_drew ?_ | refine blk_alloc ?_ _)); refine blk_put (cs := #[.bool t1322, .bool t1323, .slice Ao120 t1324.length co120, .slice Ao121 t1327.length co121, .int .i64 0, .int .i64 0, .int .i64 0]) ?_ 4 _ rfl; (with_reducible repeat (first | refine blk_drewN ?_ _ | refine blk_drew ?_ | refine blk_alloc ?_ _)); refine blk_put (cs := #[.bool t1322, .bool t1323, .slice Ao120 t1324.length co120, .slice none 0 0, .int .i64 0, .int .i64 0, .int .i64 0]) ?_ 3 _ rfl; (with_reducible repeat (first | refine blk_drewN ?_ _ | refine blk_drew ?_ | refine blk_alloc ?_ _)); refine blk_put (cs := #[.bool t1322, .bool t1323, .slice none 0 0, .slice none 0 0, .int .i64 0, .int .i64 0, .int .i64 0]) ?_ 2 _ rfl; (with_reducible repeat (first | refine blk_drewN ?_ _ | refine blk_drew ?_ | refine blk_alloc ?_ _)); refine blk_put (cs := #[.bool t1322, .bool false, .slice none 0 0, .slice none 0 0, .int .i64 0, .int .i64 0, .int .i64 0]) ?_ 1 _ rfl; (with_reducible repeat (first | refine blk_drewN ?_ _ | refine blk_drew ?_ | refine blk_alloc ?_ _)); refine blk_put (cs := #[.bool false, .bool false, .slice none 0 0, .slice none 0 0, .int .i64 0, .int .i64 0, .int .i64 0]) ?_ 0 _ rfl; exact pkK BK1337.out) hb); replace HB := am (below_step (pkW HB.out) hb); (try clear hb); obtain ⟨Ao136, co136, eo136⟩ := Kd.R_slice HO1335.out; subst eo136; obtain ⟨Ao137, co137, eo137⟩ := Kd.R_slice HO_7.out; subst eo137) | (go_at_call 34; (with_reducible refine (laws_eqIntS.calls kj60 _ _ t1333 _ _ t1252 true _ ?side1 ?side2 ?side3 ?side4 A124.out).mono ?_); (case side1 => exact pkC (Kd.R_reads' HO1335.out).2.2); (case side2 => exact (Kd.R_reads' HO1335.out).2.1); (case side3 => exact pkC (Kd.R_reads' HO_7.out).2.2); (case side4 => exact (Kd.R_reads' HO_7.out).2.1); rintro e w' ⟨rfl, ⟨nd, rfl⟩⟩))
               go_meet
               case rel => exact ⟨_, ((t1336 != t1255)), rfx, H', ⟨by have := HJ11.out; have := HJ60.out; first | omega | exact Nat.le_refl _⟩, ⟨by (try simp only [hl1269002_60]); (try simp only [hl1269003_60]); (with_reducible repeat (first | apply Kd.Q_alloc | apply Kd.Q_drewN | apply Kd.Q_drew)); exact Kd.Q_mono HO_11.out (fun _ hk => ⟨hk.1.1.1.1.1.2.1, ⟨hk.1.1.1.1.1.2.2.1, ⟨hk.1.1.1.1.1.2.2.2.1, ⟨hk.1.1.1.1.1.2.2.2.2.1, ⟨hk.1.1.1.1.1.2.2.2.2.2.1, ⟨hk.1.1.1.1.1.2.2.2.2.2.2, ⟨hk.1.1.2, hk.1.2⟩⟩⟩⟩⟩⟩⟩)⟩, ⟨by (try simp only [hl1269002_60]); (try simp only [hl1269003_60]); (with_reducible repeat (first | apply Kd.Q_alloc | apply Kd.Q_drewN | apply Kd.Q_drew)); exact Kd.Q_mono HO_1257002.out (fun _ hk => ⟨hk.1.1.1.1.1.2.1, ⟨hk.1.1.1.1.1.2.2.1, ⟨hk.1.1.1.1.1.2.2.2.1, ⟨hk.1.1.1.1.1.2.2.2.2.1, ⟨hk.1.1.1.1.1.2.2.2.2.2.1, ⟨hk.1.1.1.1.1.2.2.2.2.2.2, ⟨hk.1.1.2, hk.1.2⟩⟩⟩⟩⟩⟩⟩)⟩, ⟨by (try simp only [hl1269002_60]); (try simp only [hl1269003_60]); (with_reducible repeat (first | apply Kd.R_alloc | apply Kd.R_drewN | apply Kd.R_drew)); exact Kd.R_mono HO_1257003.out (fun _ hk => ⟨hk.1.1.1.1.1.2.1, ⟨hk.1.1.1.1.1.2.2.1, ⟨hk.1.1.1.1.1.2.2.2.1, ⟨hk.1.1.1.1.1.2.2.2.2.1, ⟨hk.1.1.1.1.1.2.2.2.2.2.1, ⟨hk.1.1.1.1.1.2.2.2.2.2.2, ⟨hk.1.1.2, hk.1.2⟩⟩⟩⟩⟩⟩⟩)⟩, ⟨by (try simp only [hl1269002_60]); (try simp only [hl1269003_60]); (with_reducible repeat (first | apply Kd.Q_alloc | apply Kd.Q_drewN | apply Kd.Q_drew)); exact Kd.Q_mono HO_1269002.out (fun _ hk => ⟨hk.1.1.1.1.1.2.1, ⟨hk.1.1.1.1.1.2.2.1, ⟨hk.1.1.1.1.1.2.2.2.1, ⟨hk.1.1.1.1.1.2.2.2.2.1, ⟨hk.1.1.1.1.1.2.2.2.2.2.1, ⟨hk.1.1.1.1.1.2.2.2.2.2.2, ⟨hk.1.1.2, hk.1.2⟩⟩⟩⟩⟩⟩⟩)⟩, ⟨by (try simp only [hl1269002_60]); (try simp only [hl1269003_60]); (with_reducible repeat (first | apply Kd.Q_alloc | apply Kd.Q_drewN | apply Kd.Q_drew)); exact Kd.Q_mono HO_1269003.out (fun _ hk => ⟨hk.1.1.1.1.1.2.1, ⟨hk.1.1.1.1.1.2.2.1, ⟨hk.1.1.1.1.1.2.2.2.1, ⟨hk.1.1.1.1.1.2.2.2.2.1, ⟨hk.1.1.1.1.1.2.2.2.2.2.1, ⟨hk.1.1.1.1.1.2.2.2.2.2.2, ⟨hk.1.1.2, hk.1.2⟩⟩⟩⟩⟩⟩⟩)⟩, ⟨by (try simp only [hl1269002_60]); (try simp only [hl1269003_60]); (with_reducible repeat (first | apply Kd.Q_alloc | apply Kd.Q_drewN | apply Kd.Q_drew)); exact Kd.Q_mono HO_1285002.out (fun _ hk => ⟨hk.1.1.1.1.1.2.1, ⟨hk.1.1.1.1.1.2.2.1, ⟨hk.1.1.1.1.1.2.2.2.1, ⟨hk.1.1.1.1.1.2.2.2.2.1, ⟨hk.1.1.1.1.1.2.2.2.2.2.1, ⟨hk.1.1.1.1.1.2.2.2.2.2.2, ⟨hk.1.1.2, hk.1.2⟩⟩⟩⟩⟩⟩⟩)⟩, ⟨by (try simp only [hl1269002_60]); (try simp only [hl1269003_60]); (with_reducible repeat (first | apply Kd.Q_alloc | apply Kd.Q_drewN | apply Kd.Q_drew)); exact Kd.Q_mono HO_1285003.out (fun _ hk => ⟨hk.1.1.1.1.1.2.1, ⟨hk.1.1.1.1.1.2.2.1, ⟨hk.1.1.1.1.1.2.2.2.1, ⟨hk.1.1.1.1.1.2.2.2.2.1, ⟨hk.1.1.1.1.1.2.2.2.2.2.1, ⟨hk.1.1.1.1.1.2.2.2.2.2.2, ⟨hk.1.1.2, hk.1.2⟩⟩⟩⟩⟩⟩⟩)⟩, ⟨by (try simp only [hl1269002_60]); (try simp only [hl1269003_60]); (with_reducible repeat (first | apply Kd.Q_alloc | apply Kd.Q_drewN | apply Kd.Q_drew)); exact Kd.Q_mono HO1326.out (fun _ hk => ⟨hk.1.1.1.1.1.1.1.1.2, ⟨hk.1.1.1.1.1.1.1.2, ⟨hk.1.1.1.1.1.1.2, ⟨hk.1.1.1.1.1.2, ⟨hk.1.1.1.1.2, ⟨hk.1.1.1.2, ⟨hk.1.1.2, hk.1.1.1.1.1.1.1.1.1.1.1⟩⟩⟩⟩⟩⟩⟩)⟩, ⟨by (try simp only [hl1269002_60]); (try simp only [hl1269003_60]); (with_reducible repeat (first | apply Kd.R_alloc | apply Kd.R_drewN | apply Kd.R_drew)); exact Kd.R_mono HO1329.out (fun _ hk => ⟨hk.1.1.1.1.1.1.1.1.2, ⟨hk.1.1.1.1.1.1.1.2, ⟨hk.1.1.1.1.1.1.2, ⟨hk.1.1.1.1.1.2, ⟨hk.1.1.1.1.2, ⟨hk.1.1.1.2, ⟨hk.1.1.2, hk.1.1.1.1.1.1.1.1.1.1.1⟩⟩⟩⟩⟩⟩⟩)⟩, ⟨by (try simp only [hl1269002_60]); (try simp only [hl1269003_60]); exact pkK BK1228.out⟩, ⟨by (try simp only [hl1269002_60]); (try simp only [hl1269003_60]); exact pkK BK1256.out⟩, ⟨by (try simp only [hl1269002_60]); (try simp only [hl1269003_60]); exact pkK BK1268.out⟩, ⟨by (try simp only [hl1269002_60]); (try simp only [hl1269003_60]); exact pkK BK1284.out⟩, ⟨by (try simp only [hl1269002_60]); (try simp only [hl1269003_60]); exact pkK BK1337.out⟩, ⟨pkW HB.out⟩⟩
              ·replace c125 := Bool.eq_false_iff.mpr c125
               subst c125
               replace H : (laws_FnExactStepBack.j2 kj60 t1308 t1307 true t1269 t1270 t1305 t1306 t1277 t1278 t1279) = some r := by rw [if_neg (show ¬ (false = true) by decide)] at H; exact H
               cases kj60 with
               | zero => exact absurd H (by simp [laws_FnExactStepBack.j2])
               | succ k_ => (simp only [laws_FnExactStepBack.j2, if_pos] at H; exact absurd (Option.some.inj H) (by rw [HQ_.out]; simp))
             ·replace c123 := Bool.eq_false_iff.mpr c123
              subst c123
              replace H : (laws_FnExactStepBack.j2 kj60 t1308 t1307 true t1269 t1270 t1305 t1306 t1277 t1278 t1279) = some r := by rw [if_neg (show ¬ (false = true) by decide)] at H; exact H
              cases kj60 with
              | zero => exact absurd H (by simp [laws_FnExactStepBack.j2])
              | succ k_ => (simp only [laws_FnExactStepBack.j2, if_pos] at H; exact absurd (Option.some.inj H) (by rw [HQ_.out]; simp))
            case rest =>
             clear HC97
             try clear c1
             try clear c2
             try clear p2
             try clear c3
             try clear c4
             try clear c4b0
             try clear c5
             try clear c6
             try clear c7
             try clear c8
             try clear c9
             try clear c10
             try clear c11
             try clear c12
             try clear c13
             try clear c14
             try clear c16
             try clear c18
             try clear c22
             try clear c26
             try clear c27
             try clear c29
             try clear c30
             try clear c36
             try clear c37
             try clear c38
             try clear c41
             try clear c42
             try clear c43
             try clear c45
             try clear c46
             try clear c47
             try clear c48
             try clear c50
             try clear c51
             try clear c56
             try clear c59
             try clear c67
             try clear c68
             try clear c69
             try clear c72
             try clear c72b0
             try clear c74
             try clear c76
             try clear c77
             try clear c78
             try clear c79
             try clear c81
             try clear c82
             try clear c87
             try clear c91
             try clear c91b0
             try clear c93
             try clear c93b0
             try clear c94
             try clear c94b0
             try clear c94b1
             try clear c98
             try clear c99
             try clear c100
             try clear c107
             try clear c108
             try clear c115
             try clear c116
             try clear c117
             try clear c118
             try clear c123
             try clear c125
             try clear c126
             try clear c127
             try clear c128
             try clear c129
             try clear c131
             try clear c132
             try clear c133
             try clear hcz101_0
             try clear hcz101_1
             try clear hcz101_2
             try clear hcz101_3
             try clear hcz101_4
             try clear hcz101_5
             try clear hcz101_6
             try clear hcz105_0
             try clear hcz105_1
             try clear hcz105_2
             try clear hcz105_3
             try clear hcz105_4
             try clear hcz105_5
             try clear hcz105_6
             try clear hcz109_0
             try clear hcz109_1
             try clear hcz109_2
             try clear hcz109_3
             try clear hcz109_4
             try clear hcz109_5
             try clear hcz109_6
             try clear hcz119_0
             try clear hcz119_1
             try clear hcz119_2
             try clear hcz119_3
             try clear hcz119_4
             try clear hcz119_5
             try clear hcz119_6
             try clear hcz130_0
             try clear hcz130_1
             try clear hcz130_2
             try clear hcz130_3
             try clear hcz130_4
             try clear hcz130_5
             try clear hcz130_6
             try clear hcz134_0
             try clear hcz134_1
             try clear hcz134_2
             try clear hcz134_3
             try clear hcz134_4
             try clear hcz134_5
             try clear hcz134_6
             try clear hcz14_0
             try clear hcz14_1
             try clear hcz14_2
             try clear hcz14_3
             try clear hcz14_4
             try clear hcz14_5
             try clear hcz14_6
             try clear hcz16_0
             try clear hcz16_1
             try clear hcz16_2
             try clear hcz16_3
             try clear hcz16_4
             try clear hcz16_5
             try clear hcz16_6
             try clear hcz23_0
             try clear hcz23_1
             try clear hcz23_2
             try clear hcz23_3
             try clear hcz23_4
             try clear hcz23_5
             try clear hcz23_6
             try clear hcz26_0
             try clear hcz26_1
             try clear hcz26_2
             try clear hcz26_3
             try clear hcz26_4
             try clear hcz26_5
             try clear hcz26_6
             try clear hcz31_0
             try clear hcz31_1
             try clear hcz31_2
             try clear hcz31_3
             try clear hcz31_4
             try clear hcz31_5
             try clear hcz31_6
             try clear hcz39_0
             try clear hcz39_1
             try clear hcz39_2
             try clear hcz39_3
             try clear hcz39_4
             try clear hcz39_5
             try clear hcz39_6
             try clear hcz49_0
             try clear hcz49_1
             try clear hcz49_2
             try clear hcz49_3
             try clear hcz49_4
             try clear hcz49_5
             try clear hcz49_6
             try clear hcz52_0
             try clear hcz52_1
             try clear hcz52_2
             try clear hcz52_3
             try clear hcz52_4
             try clear hcz52_5
             try clear hcz52_6
             try clear hcz6_0
             try clear hcz6_1
             try clear hcz6_2
             try clear hcz6_3
             try clear hcz6_4
             try clear hcz6_5
             try clear hcz6_6
             try clear hcz70_0
             try clear hcz70_1
             try clear hcz70_2
             try clear hcz70_3
             try clear hcz70_4
             try clear hcz70_5
             try clear hcz70_6
             try clear hcz80_0
             try clear hcz80_1
             try clear hcz80_2
             try clear hcz80_3
             try clear hcz80_4
             try clear hcz80_5
             try clear hcz80_6
             try clear hcz83_0
             try clear hcz83_1
             try clear hcz83_2
             try clear hcz83_3
             try clear hcz83_4
             try clear hcz83_5
             try clear hcz83_6
             try clear hfz101_0
             try clear hfz101_1
             try clear hfz101_2
             try clear hfz101_3
             try clear hfz101_4
             try clear hfz101_5
             try clear hfz101_6
             try clear hfz105_0
             try clear hfz105_1
             try clear hfz105_2
             try clear hfz105_3
             try clear hfz105_4
             try clear hfz105_5
             try clear hfz105_6
             try clear hfz109_0
             try clear hfz109_1
             try clear hfz109_2
             try clear hfz109_3
             try clear hfz109_4
             try clear hfz109_5
             try clear hfz109_6
             try clear hfz119_0
             try clear hfz119_1
             try clear hfz119_2
             try clear hfz119_3
             try clear hfz119_4
             try clear hfz119_5
             try clear hfz119_6
             try clear hfz130_0
             try clear hfz130_1
             try clear hfz130_2
             try clear hfz130_3
             try clear hfz130_4
             try clear hfz130_5
             try clear hfz130_6
             try clear hfz134_0
             try clear hfz134_1
             try clear hfz134_2
             try clear hfz134_3
             try clear hfz134_4
             try clear hfz134_5
             try clear hfz134_6
             try clear hfz14_0
             try clear hfz14_1
             try clear hfz14_2
             try clear hfz14_3
             try clear hfz14_4
             try clear hfz14_5
             try clear hfz14_6
             try clear hfz16_0
             try clear hfz16_1
             try clear hfz16_2
             try clear hfz16_3
             try clear hfz16_4
             try clear hfz16_5
             try clear hfz16_6
             try clear hfz23_0
             try clear hfz23_1
             try clear hfz23_2
             try clear hfz23_3
             try clear hfz23_4
             try clear hfz23_5
             try clear hfz23_6
             try clear hfz26_0
             try clear hfz26_1
             try clear hfz26_2
             try clear hfz26_3
             try clear hfz26_4
             try clear hfz26_5
             try clear hfz26_6
             try clear hfz31_0
             try clear hfz31_1
             try clear hfz31_2
             try clear hfz31_3
             try clear hfz31_4
             try clear hfz31_5
             try clear hfz31_6
             try clear hfz39_0
             try clear hfz39_1
             try clear hfz39_2
             try clear hfz39_3
             try clear hfz39_4
             try clear hfz39_5
             try clear hfz39_6
             try clear hfz49_0
             try clear hfz49_1
             try clear hfz49_2
             try clear hfz49_3
             try clear hfz49_4
             try clear hfz49_5
             try clear hfz49_6
             try clear hfz52_0
             try clear hfz52_1
             try clear hfz52_2
             try clear hfz52_3
             try clear hfz52_4
             try clear hfz52_5
             try clear hfz52_6
             try clear hfz6_0
             try clear hfz6_1
             try clear hfz6_2
             try clear hfz6_3
             try clear hfz6_4
             try clear hfz6_5
             try clear hfz6_6
             try clear hfz70_0
             try clear hfz70_1
             try clear hfz70_2
             try clear hfz70_3
             try clear hfz70_4
             try clear hfz70_5
             try clear hfz70_6
             try clear hfz80_0
             try clear hfz80_1
             try clear hfz80_2
             try clear hfz80_3
             try clear hfz80_4
             try clear hfz80_5
             try clear hfz80_6
             try clear hfz83_0
             try clear hfz83_1
             try clear hfz83_2
             try clear hfz83_3
             try clear hfz83_4
             try clear hfz83_5
             try clear hfz83_6
             try clear p2
             obtain ⟨kq, x124_96, rfl, HA, HJ96, HO_11, HO_1257002, HO_1257003, HO_1269002, HO_1269003, HO_1285002, HO_1285003, HO_1338002, HO_1338003, BK1228, BK1256, BK1268, BK1284, BK1337, HB⟩ := hcut
             have hl11_96 := (Kd.Q_reads' HO_11.out).1
             rw [hl11_96] at HO_11
             (try simp only [hl11_96])
             (try simp only [hl11_96] at BK1228)
             (try simp only [hl11_96] at BK1256)
             (try simp only [hl11_96] at BK1268)
             (try simp only [hl11_96] at BK1284)
             (try simp only [hl11_96] at BK1337)
             (try simp only [hl11_96] at HO_1257002)
             (try simp only [hl11_96] at HO_1257003)
             (try simp only [hl11_96] at HO_1269002)
             (try simp only [hl11_96] at HO_1269003)
             (try simp only [hl11_96] at HO_1285002)
             (try simp only [hl11_96] at HO_1285003)
             (try simp only [hl11_96] at HO_1338002)
             (try simp only [hl11_96] at HO_1338003)
             have hl1285002_96 := (Kd.Q_reads' HO_1285002.out).1
             rw [hl1285002_96] at HO_1285002
             (try simp only [hl1285002_96])
             (try simp only [hl1285002_96] at BK1228)
             (try simp only [hl1285002_96] at BK1256)
             (try simp only [hl1285002_96] at BK1268)
             (try simp only [hl1285002_96] at BK1284)
             (try simp only [hl1285002_96] at BK1337)
             (try simp only [hl1285002_96] at HO_11)
             (try simp only [hl1285002_96] at HO_1257002)
             (try simp only [hl1285002_96] at HO_1257003)
             (try simp only [hl1285002_96] at HO_1269002)
             (try simp only [hl1285002_96] at HO_1269003)
             (try simp only [hl1285002_96] at HO_1285003)
             (try simp only [hl1285002_96] at HO_1338002)
             (try simp only [hl1285002_96] at HO_1338003)
             have hl1285003_96 := (Kd.Q_reads' HO_1285003.out).1
             rw [hl1285003_96] at HO_1285003
             (try simp only [hl1285003_96])
             (try simp only [hl1285003_96] at BK1228)
             (try simp only [hl1285003_96] at BK1256)
             (try simp only [hl1285003_96] at BK1268)
             (try simp only [hl1285003_96] at BK1284)
             (try simp only [hl1285003_96] at BK1337)
             (try simp only [hl1285003_96] at HO_11)
             (try simp only [hl1285003_96] at HO_1257002)
             (try simp only [hl1285003_96] at HO_1257003)
             (try simp only [hl1285003_96] at HO_1269002)
             (try simp only [hl1285003_96] at HO_1269003)
             (try simp only [hl1285003_96] at HO_1285002)
             (try simp only [hl1285003_96] at HO_1338002)
             (try simp only [hl1285003_96] at HO_1338003)
             cases kq with
             | zero => exact absurd HA.out (by simp [laws_FnExactStepBack.j2])
             | succ kj96 =>
              have H := HA.out
              clear HA
              simp only [laws_FnExactStepBack.j2] at H
              by_cases c138 : x124_96 = true
              ·subst c138
               replace H : (some false) = some r := by rw [if_pos rfl] at H; exact H
               exact absurd (Option.some.inj H) (by rw [HQ_.out]; simp)
              ·replace c138 := Bool.eq_false_iff.mpr c138
               subst c138
               replace H : ((laws_heldEvent.f kj96 t1269 t1270 t1305 t1306 t1277 t1278 t1279 1).bind fun t1340 => (if t1340 < 0 then (some false) else ((laws_heldIntS.f kj96 t1308 t1340).bind fun t1341 => (if t1341 < 0 then (some false) else (if t1341 = t1307 then (some true) else (some false)))))) = some r := by rw [if_neg (show ¬ (false = true) by decide)] at H; exact H
               replace H := Option.bind_eq_some_iff.mp H
               obtain ⟨t1340, A1390, H⟩ := H
               replace H : (if t1340 < 0 then (some false) else ((laws_heldIntS.f kj96 t1308 t1340).bind fun t1341 => (if t1341 < 0 then (some false) else (if t1341 = t1307 then (some true) else (some false))))) = some r := H
               have A139 := am A1390
               clear A1390
               by_cases c140 : t1340 < 0
               ·rw [if_pos c140] at H
                have c140b0 : decide (t1340 < 0) = true := decide_eq_true c140
                clear c140
                exact absurd (Option.some.inj H) (by rw [HQ_.out]; simp)
               ·rw [if_neg c140] at H
                have c140b0 : decide (t1340 < 0) = false := decide_eq_false c140
                clear c140
                replace H := Option.bind_eq_some_iff.mp H
                obtain ⟨t1341, A1410, H⟩ := H
                replace H : (if t1341 < 0 then (some false) else (if t1341 = t1307 then (some true) else (some false))) = some r := H
                have A141 := am A1410
                clear A1410
                by_cases c142 : t1341 < 0
                ·rw [if_pos c142] at H
                 have c142b0 : decide (t1341 < 0) = true := decide_eq_true c142
                 clear c142
                 exact absurd (Option.some.inj H) (by rw [HQ_.out]; simp)
                ·rw [if_neg c142] at H
                 have c142b0 : decide (t1341 < 0) = false := decide_eq_false c142
                 clear c142
                 by_cases c143 : t1341 = t1307
                 ·rw [if_pos c143] at H
                  have c143b0 : (t1341 == t1307) = true := beq_iff_eq.mpr c143
                  have c143b1 : (t1341 != t1307) = false := bne_eq_false_iff_eq.mpr c143
                  clear c143
                  obtain rfl := Option.some.inj H
                  have hnb144 := NB1284_1228.out
                  have hnc144 := NB1228_1284.out
                  have hnb145 := NB1284_1256.out
                  have hnc145 := NB1256_1284.out
                  have hnb146 := NB1284_1268.out
                  have hnc146 := NB1268_1284.out
                  have hnb147 := NB1284_1337.out
                  have hnc147 := NB1337_1284.out
                  obtain ⟨hcz148_0, hcz148_1, hcz148_2, hcz148_3, hcz148_4, hcz148_5, hcz148_6, hfz148_0, hfz148_1, hfz148_2, hfz148_3, hfz148_4, hfz148_5, hfz148_6⟩ := bk7 BK1284.out
                  go_wp2_with (first | ((with_reducible refine gate_callee (f := 27) rfl ?_); refine goesL_ (some 127) rfl rfl Try.func27 (by kernel_rfl) rfl #[.agg #[.bool t1269, .bool t1270, .slice Ao40 t1305.length co40, .slice Ao41 t1306.length co41, .int .i64 t1277, .int .i64 t1278, .int .i64 t1279], .int .i64 1] rfl mpx ?_; (with_reducible refine (laws_heldEvent.calls kj96 t1269 t1270 _ _ t1305 _ _ t1306 t1277 t1278 t1279 1 t1340 _ ?side1 ?side2 ?side3 ?side4 A139.out).mono ?_); (case side1 => repeat (first | exact (Kd.Q_reads' HO_1285002.out).2.2 | (with_reducible refine Kd.C_alloc ?_ _) | (with_reducible refine Kd.C_drewN ?_ _) | (with_reducible refine Kd.C_drew ?_))); (case side2 => exact (Kd.Q_reads' HO_1285002.out).2.1); (case side3 => repeat (first | exact (Kd.Q_reads' HO_1285003.out).2.2 | (with_reducible refine Kd.C_alloc ?_ _) | (with_reducible refine Kd.C_drewN ?_ _) | (with_reducible refine Kd.C_drew ?_))); (case side4 => exact (Kd.Q_reads' HO_1285003.out).2.1); rintro e w149 ⟨rfl, hb⟩; refine ⟨_, rfl, ?_⟩; replace HO_11 := am (Kd.Q_below (pkQ HO_11.out) hb); replace HO_1257002 := am (Kd.Q_below (pkQ HO_1257002.out) hb); replace HO_1257003 := am (Kd.R_below (pkR HO_1257003.out) hb); replace HO_1269002 := am (Kd.Q_below (pkQ HO_1269002.out) hb); replace HO_1269003 := am (Kd.Q_below (pkQ HO_1269003.out) hb); replace HO_1285002 := am (Kd.Q_below (pkQ HO_1285002.out) hb); replace HO_1285003 := am (Kd.Q_below (pkQ HO_1285003.out) hb); replace HO_1338002 := am (Kd.Q_below (pkQ HO_1338002.out) hb); replace HO_1338003 := am (Kd.R_below (pkR HO_1338003.out) hb); replace BK1228 := am (blk_below (pkK BK1228.out) hb); replace BK1256 := am (blk_below (pkK BK1256.out) hb); replace BK1268 := am (blk_below (pkK BK1268.out) hb); replace BK1284 := am (blk_below (pkK BK1284.out) hb); replace BK1337 := am (blk_below (pkK BK1337.out) hb); replace HB := am (below_step (pkW HB.out) hb); (try clear hb)) | ((with_reducible refine gate_callee (f := 38) rfl ?_); refine goesL_ (some 132) rfl rfl Try.func38 (by kernel_rfl) rfl #[.slice Ao103 t1308.length co103, .int .i64 t1340] rfl mpx ?_; (with_reducible refine (laws_heldIntS.calls kj96 _ _ t1308 t1340 t1341 _ ?side1 ?side2 A141.out).mono ?_); (case side1 => repeat (first | exact (Kd.Q_reads' HO_11.out).2.2 | (with_reducible refine Kd.C_alloc ?_ _) | (with_reducible refine Kd.C_drewN ?_ _) | (with_reducible refine Kd.C_drew ?_))); (case side2 => exact (Kd.Q_reads' HO_11.out).2.1); rintro e w' ⟨rfl, ⟨nd, rfl⟩⟩; refine ⟨_, rfl, ?_⟩))
                  go_ret
                  exact ⟨rfe, pkW HB.out⟩
                 ·rw [if_neg c143] at H
                  have c143b0 : (t1341 == t1307) = false := beq_eq_false_iff_ne.mpr c143
                  have c143b1 : (t1341 != t1307) = true := bne_iff_ne.mpr c143
                  exact absurd (Option.some.inj H) (by rw [HQ_.out]; simp)
           ·rw [if_neg c94] at H
            have c94b0 : (t1310 == t1307) = false := beq_eq_false_iff_ne.mpr c94
            have c94b1 : (t1310 != t1307) = true := bne_iff_ne.mpr c94
            exact absurd (Option.some.inj H) (by rw [HQ_.out]; simp)
     ·replace c59 := Bool.eq_false_iff.mpr c59
      subst c59
      replace H : (some false) = some r := by rw [if_neg (show ¬ (false = true) by decide)] at H; exact H
      exact absurd (Option.some.inj H) (by rw [HQ_.out]; simp)
end Go.Proofs.Ytdagpmnadapbjaa.Z
