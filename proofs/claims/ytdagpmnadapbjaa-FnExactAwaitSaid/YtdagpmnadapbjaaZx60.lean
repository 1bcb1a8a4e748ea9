/- The Go functions laws_FnExactAwait as Lean functions, each with a proof that its code comes to just these answers; conditions: those of each theorem. -/
import Derived.Test.YtdagpmnadapbjaaZx0
import Derived.Test.YtdagpmnadapbjaaZx14
import Derived.Test.YtdagpmnadapbjaaZx16
import Derived.Test.YtdagpmnadapbjaaZx20
import Derived.Test.YtdagpmnadapbjaaZx36
import Derived.Test.YtdagpmnadapbjaaZx37
import Derived.Test.YtdagpmnadapbjaaZx44
import Derived.Test.YtdagpmnadapbjaaZx46
namespace Go.Proofs.Ytdagpmnadapbjaa.Z
open Go.RowKit Go.Proofs.YtdagpmnadapbjaaW.PrintWords Go.Proofs.YtdagpmnadapbjaaW.PrintLast Go.Proofs.YtdagpmnadapbjaaW.PrintMore
attribute [local go_sem] max2_int min2_int max_two min_two max_three min_three max_four min_four   -- for this text's walks alone
set_option linter.unusedVariables false
set_option linter.unusedSimpArgs false
mutual
def laws_FnExactAwait.j0 : Nat → Int → Int → Int → Bool → Bool → List Int → List (S84) → Int → Int → Int → Bool → List Int → List (S67) → Int → Int → Int → Bool → List Int → List (S67) → Int → Int → Int → Bool → List Int → List (S67) → Int → Int → Int → Option (Bool)
 | 0, _, _, _, _, _, _, _, _, _, _, _, _, _, _, _, _, _, _, _, _, _, _, _, _, _, _, _, _ => none
 | k + 1, x1, x7, x10, x44, x1385000, x1385001, x1385002, x1385003, x1385004, x1385005, x1408000, x1408001, x1408002, x1408003, x1408004, x1408005, x1419000, x1419001, x1419002, x1419003, x1419004, x1419005, x1431000, x1431001, x1431002, x1431003, x1431004, x1431005 => if x44 = true then (some false) else ((laws_toNotify.f k x1385000 x1385001 x1385002 x1385003 x1385004 x1385005).bind fun bt1432 => ((laws_eqNotify.f k x1419000 x1419001 x1419002 x1419003 x1419004 x1419005 bt1432.1 bt1432.2.1 bt1432.2.2.1 bt1432.2.2.2.1 bt1432.2.2.2.2.1 bt1432.2.2.2.2.2).bind fun t1442 => (if t1442 = true then ((laws_markNotify.f k x1419000 x1419001 x1419002 x1419003 x1419004 x1419005 1).bind fun bt1443 => (if bt1443.1 < 0 then (laws_FnExactAwait.j1 k x1 x7 true x1385000 x1385001 x1385002 x1385003 x1385004 x1385005 x1408000 x1408001 x1408002 x1408003 x1408004 x1408005 x1431000 x1431001 x1431002 x1431003 x1431004 x1431005) else ((laws_eqNotify.f k x1431000 x1431001 x1431002 x1431003 x1431004 x1431005 x1408000 x1408001 x1408002 x1408003 x1408004 x1408005).bind fun t1446 => (if t1446 = true then (laws_FnExactAwait.j1 k x1 x7 (x10 != x7) x1385000 x1385001 x1385002 x1385003 x1385004 x1385005 x1408000 x1408001 x1408002 x1408003 x1408004 x1408005 x1431000 x1431001 x1431002 x1431003 x1431004 x1431005) else (laws_FnExactAwait.j1 k x1 x7 true x1385000 x1385001 x1385002 x1385003 x1385004 x1385005 x1408000 x1408001 x1408002 x1408003 x1408004 x1408005 x1431000 x1431001 x1431002 x1431003 x1431004 x1431005))))) else (some false))))
def laws_FnExactAwait.j1 : Nat → Int → Int → Bool → Bool → List Int → List (S84) → Int → Int → Int → Bool → List Int → List (S67) → Int → Int → Int → Bool → List Int → List (S67) → Int → Int → Int → Option (Bool)
 | 0, _, _, _, _, _, _, _, _, _, _, _, _, _, _, _, _, _, _, _, _, _ => none
 | k + 1, x1, x7, x65, x1385000, x1385001, x1385002, x1385003, x1385004, x1385005, x1408000, x1408001, x1408002, x1408003, x1408004, x1408005, x1431000, x1431001, x1431002, x1431003, x1431004, x1431005 => if x65 = true then (some false) else ((laws_markNotify.f k x1431000 x1431001 x1431002 x1431003 x1431004 x1431005 1).bind fun bt1447 => ((laws_heldNotify.f k x1431000 bt1447.2.1 bt1447.2.2 x1431003 x1431004 x1431005 1).bind fun t1450 => (if t1450 < 0 then (some false) else (if t1450 = bt1447.1 then ((laws_toNotify.f k x1385000 x1385001 x1385002 x1385003 x1385004 x1385005).bind fun bt1451 => ((impl_Await.f k bt1451.1 bt1451.2.1 bt1451.2.2.1 bt1451.2.2.2.1 bt1451.2.2.2.2.1 bt1451.2.2.2.2.2 x1).bind fun bt1461 => ((laws_eqNotify.f k bt1461.1 bt1461.2.1 bt1461.2.2.1 bt1461.2.2.2.1 bt1461.2.2.2.2.1 bt1461.2.2.2.2.2.1 x1408000 x1408001 x1408002 x1408003 x1408004 x1408005).bind fun t1473 => (if t1473 = true then (laws_FnExactAwait.j2 k bt1447.1 (bt1461.2.2.2.2.2.2 != x7) x1431000 bt1447.2.1 bt1447.2.2 x1431003 x1431004 x1431005) else (laws_FnExactAwait.j2 k bt1447.1 true x1431000 bt1447.2.1 bt1447.2.2 x1431003 x1431004 x1431005))))) else (some false)))))
def laws_FnExactAwait.j2 : Nat → Int → Bool → Bool → List Int → List (S67) → Int → Int → Int → Option (Bool)
 | 0, _, _, _, _, _, _, _, _ => none
 | k + 1, x12, x92, x1431000, x1431001, x1431002, x1431003, x1431004, x1431005 => if x92 = true then (some false) else ((laws_heldNotify.f k x1431000 x1431001 x1431002 x1431003 x1431004 x1431005 1).bind fun t1474 => (if t1474 < 0 then (some false) else (if t1474 = x12 then (some true) else (some false))))
end
def laws_FnExactAwait.f (k : Nat) (a0_0 : Bool) (l0_1 : List Int) (l0_2 : List (S84)) (a0_3 : Int) (a0_4 : Int) (a0_5 : Int) (a1 : Int) : Option (Bool) := (laws_szNotify.f a0_0 l0_1 l0_2 a0_3 a0_4 a0_5 1048576).bind fun t1385 => (if t1385 < 0 then (some true) else ((laws_toNotify.f k a0_0 l0_1 l0_2 a0_3 a0_4 a0_5).bind fun bt1386 => ((spec_Await.f k bt1386.1 bt1386.2.1 bt1386.2.2.1 bt1386.2.2.2.1 bt1386.2.2.2.2.1 bt1386.2.2.2.2.2 a1).bind fun bt1396 => ((laws_toNotify.f k a0_0 l0_1 l0_2 a0_3 a0_4 a0_5).bind fun bt1408 => ((impl_Await.f k bt1408.1 bt1408.2.1 bt1408.2.2.1 bt1408.2.2.2.1 bt1408.2.2.2.2.1 bt1408.2.2.2.2.2 a1).bind fun bt1419 => ((laws_eqNotify.f k bt1419.1 bt1419.2.1 bt1419.2.2.1 bt1419.2.2.2.1 bt1419.2.2.2.2.1 bt1419.2.2.2.2.2.1 bt1396.1 bt1396.2.1 bt1396.2.2.1 bt1396.2.2.2.1 bt1396.2.2.2.2.1 bt1396.2.2.2.2.2.1).bind fun t1431 => (if t1431 = true then (laws_FnExactAwait.j0 k a1 bt1396.2.2.2.2.2.2 bt1419.2.2.2.2.2.2 (bt1419.2.2.2.2.2.2 != bt1396.2.2.2.2.2.2) a0_0 l0_1 l0_2 a0_3 a0_4 a0_5 bt1396.1 bt1396.2.1 bt1396.2.2.1 bt1396.2.2.2.1 bt1396.2.2.2.2.1 bt1396.2.2.2.2.2.1 bt1408.1 bt1408.2.1 bt1408.2.2.1 bt1408.2.2.2.1 bt1408.2.2.2.2.1 bt1408.2.2.2.2.2 bt1419.1 bt1419.2.1 bt1419.2.2.1 bt1419.2.2.2.1 bt1419.2.2.2.2.1 bt1419.2.2.2.2.2.1) else (laws_FnExactAwait.j0 k a1 bt1396.2.2.2.2.2.2 bt1419.2.2.2.2.2.2 true a0_0 l0_1 l0_2 a0_3 a0_4 a0_5 bt1396.1 bt1396.2.1 bt1396.2.2.1 bt1396.2.2.2.1 bt1396.2.2.2.2.1 bt1396.2.2.2.2.2.1 bt1408.1 bt1408.2.1 bt1408.2.2.1 bt1408.2.2.2.1 bt1408.2.2.2.2.1 bt1408.2.2.2.2.2 bt1419.1 bt1419.2.1 bt1419.2.2.1 bt1419.2.2.2.1 bt1419.2.2.2.2.1 bt1419.2.2.2.2.2.1))))))))
theorem laws_FnExactAwait.mono_l : ∀ k, (∀ y0 y1 y2 y3 y4 y5 y6 y7 y8 y9 y10 y11 y12 y13 y14 y15 y16 y17 y18 y19 y20 y21 y22 y23 y24 y25 y26 y27, LeO (laws_FnExactAwait.j0 k y0 y1 y2 y3 y4 y5 y6 y7 y8 y9 y10 y11 y12 y13 y14 y15 y16 y17 y18 y19 y20 y21 y22 y23 y24 y25 y26 y27) (laws_FnExactAwait.j0 (k + 1) y0 y1 y2 y3 y4 y5 y6 y7 y8 y9 y10 y11 y12 y13 y14 y15 y16 y17 y18 y19 y20 y21 y22 y23 y24 y25 y26 y27)) ∧ (∀ y0 y1 y2 y3 y4 y5 y6 y7 y8 y9 y10 y11 y12 y13 y14 y15 y16 y17 y18 y19 y20, LeO (laws_FnExactAwait.j1 k y0 y1 y2 y3 y4 y5 y6 y7 y8 y9 y10 y11 y12 y13 y14 y15 y16 y17 y18 y19 y20) (laws_FnExactAwait.j1 (k + 1) y0 y1 y2 y3 y4 y5 y6 y7 y8 y9 y10 y11 y12 y13 y14 y15 y16 y17 y18 y19 y20)) ∧ (∀ y0 y1 y2 y3 y4 y5 y6 y7, LeO (laws_FnExactAwait.j2 k y0 y1 y2 y3 y4 y5 y6 y7) (laws_FnExactAwait.j2 (k + 1) y0 y1 y2 y3 y4 y5 y6 y7))
 | 0 => ⟨fun _ _ _ _ _ _ _ _ _ _ _ _ _ _ _ _ _ _ _ _ _ _ _ _ _ _ _ _ r h => by simp [laws_FnExactAwait.j0] at h, fun _ _ _ _ _ _ _ _ _ _ _ _ _ _ _ _ _ _ _ _ _ r h => by simp [laws_FnExactAwait.j1] at h, fun _ _ _ _ _ _ _ _ r h => by simp [laws_FnExactAwait.j2] at h⟩
 | k + 1 => by
  obtain ⟨ih0, ih1, ih2⟩ := laws_FnExactAwait.mono_l k
  refine ⟨?_, ?_, ?_⟩
  ·intro y0 y1 y2 y3 y4 y5 y6 y7 y8 y9 y10 y11 y12 y13 y14 y15 y16 y17 y18 y19 y20 y21 y22 y23 y24 y25 y26 y27
   unfold laws_FnExactAwait.j0
   repeat' first
   | (with_reducible exact ih0 _ _ _ _ _ _ _ _ _ _ _ _ _ _ _ _ _ _ _ _ _ _ _ _ _ _ _ _)
   | (with_reducible exact ih1 _ _ _ _ _ _ _ _ _ _ _ _ _ _ _ _ _ _ _ _ _)
   | (with_reducible exact ih2 _ _ _ _ _ _ _ _)
   | (with_reducible exact impl_Await.mono _ _ _ _ _ _ _ _)
   | (with_reducible exact laws_eqNotify.mono _ _ _ _ _ _ _ _ _ _ _ _ _)
   | (with_reducible exact laws_heldNotify.mono _ _ _ _ _ _ _ _)
   | (with_reducible exact laws_markNotify.mono _ _ _ _ _ _ _ _)
   | (with_reducible exact laws_toNotify.mono _ _ _ _ _ _ _)
   | (with_reducible exact spec_Await.mono _ _ _ _ _ _ _ _)
   | (with_reducible exact LeO.refl _)
   | (with_reducible exact LeO.none _)
   | (with_reducible refine LeO.ite ?_ ?_)
   | (with_reducible refine LeO.bind ?_ (fun _ => ?_))
  ·intro y0 y1 y2 y3 y4 y5 y6 y7 y8 y9 y10 y11 y12 y13 y14 y15 y16 y17 y18 y19 y20
   unfold laws_FnExactAwait.j1
   repeat' first
   | (with_reducible exact ih0 _ _ _ _ _ _ _ _ _ _ _ _ _ _ _ _ _ _ _ _ _ _ _ _ _ _ _ _)
   | (with_reducible exact ih1 _ _ _ _ _ _ _ _ _ _ _ _ _ _ _ _ _ _ _ _ _)
   | (with_reducible exact ih2 _ _ _ _ _ _ _ _)
   | (with_reducible exact impl_Await.mono _ _ _ _ _ _ _ _)
   | (with_reducible exact laws_eqNotify.mono _ _ _ _ _ _ _ _ _ _ _ _ _)
   | (with_reducible exact laws_heldNotify.mono _ _ _ _ _ _ _ _)
   | (with_reducible exact laws_markNotify.mono _ _ _ _ _ _ _ _)
   | (with_reducible exact laws_toNotify.mono _ _ _ _ _ _ _)
   | (with_reducible exact spec_Await.mono _ _ _ _ _ _ _ _)
   | (with_reducible exact LeO.refl _)
   | (with_reducible exact LeO.none _)
   | (with_reducible refine LeO.ite ?_ ?_)
   | (with_reducible refine LeO.bind ?_ (fun _ => ?_))
  ·intro y0 y1 y2 y3 y4 y5 y6 y7
   unfold laws_FnExactAwait.j2
   repeat' first
   | (with_reducible exact ih0 _ _ _ _ _ _ _ _ _ _ _ _ _ _ _ _ _ _ _ _ _ _ _ _ _ _ _ _)
   | (with_reducible exact ih1 _ _ _ _ _ _ _ _ _ _ _ _ _ _ _ _ _ _ _ _ _)
   | (with_reducible exact ih2 _ _ _ _ _ _ _ _)
   | (with_reducible exact impl_Await.mono _ _ _ _ _ _ _ _)
   | (with_reducible exact laws_eqNotify.mono _ _ _ _ _ _ _ _ _ _ _ _ _)
   | (with_reducible exact laws_heldNotify.mono _ _ _ _ _ _ _ _)
   | (with_reducible exact laws_markNotify.mono _ _ _ _ _ _ _ _)
   | (with_reducible exact laws_toNotify.mono _ _ _ _ _ _ _)
   | (with_reducible exact spec_Await.mono _ _ _ _ _ _ _ _)
   | (with_reducible exact LeO.refl _)
   | (with_reducible exact LeO.none _)
   | (with_reducible refine LeO.ite ?_ ?_)
   | (with_reducible refine LeO.bind ?_ (fun _ => ?_))
theorem laws_FnExactAwait.mono : ∀ a0 a1 a2 a3 a4 a5 a6 k, LeO (laws_FnExactAwait.f k a0 a1 a2 a3 a4 a5 a6) (laws_FnExactAwait.f (k + 1) a0 a1 a2 a3 a4 a5 a6) := by
 intro a0 a1 a2 a3 a4 a5 a6 k
 obtain ⟨ih0, ih1, ih2⟩ := laws_FnExactAwait.mono_l k
 unfold laws_FnExactAwait.f
 repeat' first
   | (with_reducible exact ih0 _ _ _ _ _ _ _ _ _ _ _ _ _ _ _ _ _ _ _ _ _ _ _ _ _ _ _ _)
   | (with_reducible exact ih1 _ _ _ _ _ _ _ _ _ _ _ _ _ _ _ _ _ _ _ _ _)
   | (with_reducible exact ih2 _ _ _ _ _ _ _ _)
   | (with_reducible exact impl_Await.mono _ _ _ _ _ _ _ _)
   | (with_reducible exact laws_eqNotify.mono _ _ _ _ _ _ _ _ _ _ _ _ _)
   | (with_reducible exact laws_heldNotify.mono _ _ _ _ _ _ _ _)
   | (with_reducible exact laws_markNotify.mono _ _ _ _ _ _ _ _)
   | (with_reducible exact laws_toNotify.mono _ _ _ _ _ _ _)
   | (with_reducible exact spec_Await.mono _ _ _ _ _ _ _ _)
   | (with_reducible exact LeO.refl _)
   | (with_reducible exact LeO.none _)
   | (with_reducible refine LeO.ite ?_ ?_)
   | (with_reducible refine LeO.bind ?_ (fun _ => ?_))
set_option maxHeartbeats 8000000 in
set_option maxRecDepth 100000 in
theorem laws_FnExactAwait.calls (k : Nat) (a0_0 : Bool) (A0_1 : Option Addr) (c0_1 : Nat) (l0_1 : List Int) (A0_2 : Option Addr) (c0_2 : Nat) (l0_2 : List (S84)) (a0_3 : Int) (a0_4 : Int) (a0_5 : Int) (a1 : Int) (r : Bool) (w : World) (hr0_1 : Kd.C (Kd.int .i64) w A0_1 l0_1.length l0_1) (hc0_1 : l0_1.length ≤ c0_1) (hr0_2 : Kd.C k84 w A0_2 l0_2.length l0_2) (hc0_2 : l0_2.length ≤ c0_2) (HQ_ : Aside0 (r = true)) (h : laws_FnExactAwait.f k a0_0 l0_1 l0_2 a0_3 a0_4 a0_5 a1 = some r) :
  Calls Try.prog 11 #[.agg #[.bool a0_0, .slice A0_1 l0_1.length c0_1, .slice A0_2 l0_2.length c0_2, .int .i64 a0_3, .int .i64 a0_4, .int .i64 a0_5], .int .i64 a1] w fun e w' => e = .returned (.bool r) ∧ Below w.heap.size w w' := by
 have hu33 := Try.underlying33
 have hu38 := Try.underlying38
 have HR0_1 := am hr0_1
 have HC0_1 := am hc0_1
 clear hr0_1 hc0_1
 have HR0_2 := am hr0_2
 have HC0_2 := am hc0_2
 clear hr0_2 hc0_2
 have HB := am (Below.refl w.heap.size w)
 have H : ((laws_szNotify.f a0_0 l0_1 l0_2 a0_3 a0_4 a0_5 1048576).bind fun t1385 => (if t1385 < 0 then (some true) else ((laws_toNotify.f k a0_0 l0_1 l0_2 a0_3 a0_4 a0_5).bind fun bt1386 => ((spec_Await.f k bt1386.1 bt1386.2.1 bt1386.2.2.1 bt1386.2.2.2.1 bt1386.2.2.2.2.1 bt1386.2.2.2.2.2 a1).bind fun bt1396 => ((laws_toNotify.f k a0_0 l0_1 l0_2 a0_3 a0_4 a0_5).bind fun bt1408 => ((impl_Await.f k bt1408.1 bt1408.2.1 bt1408.2.2.1 bt1408.2.2.2.1 bt1408.2.2.2.2.1 bt1408.2.2.2.2.2 a1).bind fun bt1419 => ((laws_eqNotify.f k bt1419.1 bt1419.2.1 bt1419.2.2.1 bt1419.2.2.2.1 bt1419.2.2.2.2.1 bt1419.2.2.2.2.2.1 bt1396.1 bt1396.2.1 bt1396.2.2.1 bt1396.2.2.2.1 bt1396.2.2.2.2.1 bt1396.2.2.2.2.2.1).bind fun t1431 => (if t1431 = true then (laws_FnExactAwait.j0 k a1 bt1396.2.2.2.2.2.2 bt1419.2.2.2.2.2.2 (bt1419.2.2.2.2.2.2 != bt1396.2.2.2.2.2.2) a0_0 l0_1 l0_2 a0_3 a0_4 a0_5 bt1396.1 bt1396.2.1 bt1396.2.2.1 bt1396.2.2.2.1 bt1396.2.2.2.2.1 bt1396.2.2.2.2.2.1 bt1408.1 bt1408.2.1 bt1408.2.2.1 bt1408.2.2.2.1 bt1408.2.2.2.2.1 bt1408.2.2.2.2.2 bt1419.1 bt1419.2.1 bt1419.2.2.1 bt1419.2.2.2.1 bt1419.2.2.2.2.1 bt1419.2.2.2.2.2.1) else (laws_FnExactAwait.j0 k a1 bt1396.2.2.2.2.2.2 bt1419.2.2.2.2.2.2 true a0_0 l0_1 l0_2 a0_3 a0_4 a0_5 bt1396.1 bt1396.2.1 bt1396.2.2.1 bt1396.2.2.2.1 bt1396.2.2.2.2.1 bt1396.2.2.2.2.2.1 bt1408.1 bt1408.2.1 bt1408.2.2.1 bt1408.2.2.2.1 bt1408.2.2.2.2.1 bt1408.2.2.2.2.2 bt1419.1 bt1419.2.1 bt1419.2.2.1 bt1419.2.2.2.1 bt1419.2.2.2.2.1 bt1419.2.2.2.2.2.1))))))))) = some r := h
 clear h
 replace H := Option.bind_eq_some_iff.mp H
 obtain ⟨t1385, A30, H⟩ := H
 replace H : (if t1385 < 0 then (some true) else ((laws_toNotify.f k a0_0 l0_1 l0_2 a0_3 a0_4 a0_5).bind fun bt1386 => ((spec_Await.f k bt1386.1 bt1386.2.1 bt1386.2.2.1 bt1386.2.2.2.1 bt1386.2.2.2.2.1 bt1386.2.2.2.2.2 a1).bind fun bt1396 => ((laws_toNotify.f k a0_0 l0_1 l0_2 a0_3 a0_4 a0_5).bind fun bt1408 => ((impl_Await.f k bt1408.1 bt1408.2.1 bt1408.2.2.1 bt1408.2.2.2.1 bt1408.2.2.2.2.1 bt1408.2.2.2.2.2 a1).bind fun bt1419 => ((laws_eqNotify.f k bt1419.1 bt1419.2.1 bt1419.2.2.1 bt1419.2.2.2.1 bt1419.2.2.2.2.1 bt1419.2.2.2.2.2.1 bt1396.1 bt1396.2.1 bt1396.2.2.1 bt1396.2.2.2.1 bt1396.2.2.2.2.1 bt1396.2.2.2.2.2.1).bind fun t1431 => (if t1431 = true then (laws_FnExactAwait.j0 k a1 bt1396.2.2.2.2.2.2 bt1419.2.2.2.2.2.2 (bt1419.2.2.2.2.2.2 != bt1396.2.2.2.2.2.2) a0_0 l0_1 l0_2 a0_3 a0_4 a0_5 bt1396.1 bt1396.2.1 bt1396.2.2.1 bt1396.2.2.2.1 bt1396.2.2.2.2.1 bt1396.2.2.2.2.2.1 bt1408.1 bt1408.2.1 bt1408.2.2.1 bt1408.2.2.2.1 bt1408.2.2.2.2.1 bt1408.2.2.2.2.2 bt1419.1 bt1419.2.1 bt1419.2.2.1 bt1419.2.2.2.1 bt1419.2.2.2.2.1 bt1419.2.2.2.2.2.1) else (laws_FnExactAwait.j0 k a1 bt1396.2.2.2.2.2.2 bt1419.2.2.2.2.2.2 true a0_0 l0_1 l0_2 a0_3 a0_4 a0_5 bt1396.1 bt1396.2.1 bt1396.2.2.1 bt1396.2.2.2.1 bt1396.2.2.2.2.1 bt1396.2.2.2.2.2.1 bt1408.1 bt1408.2.1 bt1408.2.2.1 bt1408.2.2.2.1 bt1408.2.2.2.2.1 bt1408.2.2.2.2.2 bt1419.1 bt1419.2.1 bt1419.2.2.1 bt1419.2.2.2.1 bt1419.2.2.2.2.1 bt1419.2.2.2.2.2.1)))))))) = some r := H
 have A3 := am A30
 clear A30
 by_cases c4 : t1385 < 0
 ·rw [if_pos c4] at H
  have c4b0 : decide (t1385 < 0) = true := decide_eq_true c4
  clear c4
  obtain rfl := Option.some.inj H
  go_enter Try.func11, Try.ntmps11
  go_wp2_with (first | ((with_reducible refine gate_dst (N := 2) rfl ?_); refine box_event ?hg (N := 2) ?hd (cs := #[.bool a0_0, .slice A0_1 l0_1.length c0_1, .slice A0_2 l0_2.length c0_2, .int .i64 a0_3, .int .i64 a0_4, .int .i64 a0_5]) (t := 33) ?hr ?_; (case hd => rfl); (case hg => rfl); (case hr => first | (go_simp; done) | (go_simp; rfl)); intro gb1384 hg w5 hbox hb; have BK1384 := am (hbox); have GW1384 := am ((by rw [hg]; exact (below_size (pkB HB.out)) : w.heap.size ≤ gb1384)); have GE1384 := am ((by rw [hg]; exact (below_size (pkB HB.out)) : w.heap.size ≤ gb1384)); replace HB := am (below_step (pkB HB.out) hb); clear hb hbox hg; obtain ⟨hcz6_0, hcz6_1, hcz6_2, hcz6_3, hcz6_4, hcz6_5, hfz6_0, hfz6_1, hfz6_2, hfz6_3, hfz6_4, hfz6_5⟩ := bk6 BK1384.out) | ((with_reducible refine gate_callee (f := 19) rfl ?_); refine goesL_ (some 18) rfl rfl Try.func19 (by kernel_rfl) rfl #[.agg #[.bool a0_0, .slice A0_1 l0_1.length c0_1, .slice A0_2 l0_2.length c0_2, .int .i64 a0_3, .int .i64 a0_4, .int .i64 a0_5], .int .i64 1048576] rfl mpx ?_; (with_reducible refine (laws_szNotify.calls a0_0 _ _ l0_1 _ _ l0_2 a0_3 a0_4 a0_5 1048576 t1385 _ ?side1 ?side2 ?side3 ?side4 A3.out).mono ?_); (case side1 => exact pkC (Kd.C_below HR0_1.out HB.out)); (case side2 => exact HC0_1.out); (case side3 => exact pkC (Kd.C_below HR0_2.out HB.out)); (case side4 => exact HC0_2.out); rintro e w7 ⟨rfl, hb⟩; refine ⟨_, rfl, ?_⟩; replace BK1384 := am (blk_below (pkK BK1384.out) hb); replace HB := am (below_step (pkW HB.out) hb); (try clear hb)))
  go_ret
  exact ⟨rfe, pkW HB.out⟩
 ·rw [if_neg c4] at H
  have c4b0 : decide (t1385 < 0) = false := decide_eq_false c4
  clear c4
  replace H := Option.bind_eq_some_iff.mp H
  obtain ⟨⟨t1386, t1387, t1390, t1393, t1394, t1395⟩, A80, H⟩ := H
  replace H : ((spec_Await.f k t1386 t1387 t1390 t1393 t1394 t1395 a1).bind fun bt1396 => ((laws_toNotify.f k a0_0 l0_1 l0_2 a0_3 a0_4 a0_5).bind fun bt1408 => ((impl_Await.f k bt1408.1 bt1408.2.1 bt1408.2.2.1 bt1408.2.2.2.1 bt1408.2.2.2.2.1 bt1408.2.2.2.2.2 a1).bind fun bt1419 => ((laws_eqNotify.f k bt1419.1 bt1419.2.1 bt1419.2.2.1 bt1419.2.2.2.1 bt1419.2.2.2.2.1 bt1419.2.2.2.2.2.1 bt1396.1 bt1396.2.1 bt1396.2.2.1 bt1396.2.2.2.1 bt1396.2.2.2.2.1 bt1396.2.2.2.2.2.1).bind fun t1431 => (if t1431 = true then (laws_FnExactAwait.j0 k a1 bt1396.2.2.2.2.2.2 bt1419.2.2.2.2.2.2 (bt1419.2.2.2.2.2.2 != bt1396.2.2.2.2.2.2) a0_0 l0_1 l0_2 a0_3 a0_4 a0_5 bt1396.1 bt1396.2.1 bt1396.2.2.1 bt1396.2.2.2.1 bt1396.2.2.2.2.1 bt1396.2.2.2.2.2.1 bt1408.1 bt1408.2.1 bt1408.2.2.1 bt1408.2.2.2.1 bt1408.2.2.2.2.1 bt1408.2.2.2.2.2 bt1419.1 bt1419.2.1 bt1419.2.2.1 bt1419.2.2.2.1 bt1419.2.2.2.2.1 bt1419.2.2.2.2.2.1) else (laws_FnExactAwait.j0 k a1 bt1396.2.2.2.2.2.2 bt1419.2.2.2.2.2.2 true a0_0 l0_1 l0_2 a0_3 a0_4 a0_5 bt1396.1 bt1396.2.1 bt1396.2.2.1 bt1396.2.2.2.1 bt1396.2.2.2.2.1 bt1396.2.2.2.2.2.1 bt1408.1 bt1408.2.1 bt1408.2.2.1 bt1408.2.2.2.1 bt1408.2.2.2.2.1 bt1408.2.2.2.2.2 bt1419.1 bt1419.2.1 bt1419.2.2.1 bt1419.2.2.2.1 bt1419.2.2.2.2.1 bt1419.2.2.2.2.2.1)))))) = some r := H
  have A8 := am A80
  clear A80
  replace H := Option.bind_eq_some_iff.mp H
  obtain ⟨⟨t1396, t1397, t1400, t1403, t1404, t1405, t1406⟩, A90, H⟩ := H
  replace H : ((laws_toNotify.f k a0_0 l0_1 l0_2 a0_3 a0_4 a0_5).bind fun bt1408 => ((impl_Await.f k bt1408.1 bt1408.2.1 bt1408.2.2.1 bt1408.2.2.2.1 bt1408.2.2.2.2.1 bt1408.2.2.2.2.2 a1).bind fun bt1419 => ((laws_eqNotify.f k bt1419.1 bt1419.2.1 bt1419.2.2.1 bt1419.2.2.2.1 bt1419.2.2.2.2.1 bt1419.2.2.2.2.2.1 t1396 t1397 t1400 t1403 t1404 t1405).bind fun t1431 => (if t1431 = true then (laws_FnExactAwait.j0 k a1 t1406 bt1419.2.2.2.2.2.2 (bt1419.2.2.2.2.2.2 != t1406) a0_0 l0_1 l0_2 a0_3 a0_4 a0_5 t1396 t1397 t1400 t1403 t1404 t1405 bt1408.1 bt1408.2.1 bt1408.2.2.1 bt1408.2.2.2.1 bt1408.2.2.2.2.1 bt1408.2.2.2.2.2 bt1419.1 bt1419.2.1 bt1419.2.2.1 bt1419.2.2.2.1 bt1419.2.2.2.2.1 bt1419.2.2.2.2.2.1) else (laws_FnExactAwait.j0 k a1 t1406 bt1419.2.2.2.2.2.2 true a0_0 l0_1 l0_2 a0_3 a0_4 a0_5 t1396 t1397 t1400 t1403 t1404 t1405 bt1408.1 bt1408.2.1 bt1408.2.2.1 bt1408.2.2.2.1 bt1408.2.2.2.2.1 bt1408.2.2.2.2.2 bt1419.1 bt1419.2.1 bt1419.2.2.1 bt1419.2.2.2.1 bt1419.2.2.2.2.1 bt1419.2.2.2.2.2.1))))) = some r := H
  have A9 := am A90
  clear A90
  replace H := Option.bind_eq_some_iff.mp H
  obtain ⟨⟨t1408, t1409, t1412, t1415, t1416, t1417⟩, A100, H⟩ := H
  replace H : ((impl_Await.f k t1408 t1409 t1412 t1415 t1416 t1417 a1).bind fun bt1419 => ((laws_eqNotify.f k bt1419.1 bt1419.2.1 bt1419.2.2.1 bt1419.2.2.2.1 bt1419.2.2.2.2.1 bt1419.2.2.2.2.2.1 t1396 t1397 t1400 t1403 t1404 t1405).bind fun t1431 => (if t1431 = true then (laws_FnExactAwait.j0 k a1 t1406 bt1419.2.2.2.2.2.2 (bt1419.2.2.2.2.2.2 != t1406) a0_0 l0_1 l0_2 a0_3 a0_4 a0_5 t1396 t1397 t1400 t1403 t1404 t1405 t1408 t1409 t1412 t1415 t1416 t1417 bt1419.1 bt1419.2.1 bt1419.2.2.1 bt1419.2.2.2.1 bt1419.2.2.2.2.1 bt1419.2.2.2.2.2.1) else (laws_FnExactAwait.j0 k a1 t1406 bt1419.2.2.2.2.2.2 true a0_0 l0_1 l0_2 a0_3 a0_4 a0_5 t1396 t1397 t1400 t1403 t1404 t1405 t1408 t1409 t1412 t1415 t1416 t1417 bt1419.1 bt1419.2.1 bt1419.2.2.1 bt1419.2.2.2.1 bt1419.2.2.2.2.1 bt1419.2.2.2.2.2.1)))) = some r := H
  have A10 := am A100
  clear A100
  replace H := Option.bind_eq_some_iff.mp H
  obtain ⟨⟨t1419, t1420, t1423, t1426, t1427, t1428, t1429⟩, A110, H⟩ := H
  replace H : ((laws_eqNotify.f k t1419 t1420 t1423 t1426 t1427 t1428 t1396 t1397 t1400 t1403 t1404 t1405).bind fun t1431 => (if t1431 = true then (laws_FnExactAwait.j0 k a1 t1406 t1429 (t1429 != t1406) a0_0 l0_1 l0_2 a0_3 a0_4 a0_5 t1396 t1397 t1400 t1403 t1404 t1405 t1408 t1409 t1412 t1415 t1416 t1417 t1419 t1420 t1423 t1426 t1427 t1428) else (laws_FnExactAwait.j0 k a1 t1406 t1429 true a0_0 l0_1 l0_2 a0_3 a0_4 a0_5 t1396 t1397 t1400 t1403 t1404 t1405 t1408 t1409 t1412 t1415 t1416 t1417 t1419 t1420 t1423 t1426 t1427 t1428))) = some r := H
  have A11 := am A110
  clear A110
  have HC12 := am H
  clear H
  go_enter Try.func11, Try.ntmps11
  go_upto_region 8 with (first | ((with_reducible refine gate_dst (N := 2) rfl ?_); refine box_event ?hg (N := 2) ?hd (cs := #[.bool a0_0, .slice A0_1 l0_1.length c0_1, .slice A0_2 l0_2.length c0_2, .int .i64 a0_3, .int .i64 a0_4, .int .i64 a0_5]) (t := 33) ?hr ?_; (case hd => rfl); (case hg => rfl); (case hr => first | (go_simp; done) | (go_simp; rfl)); intro gb1384 hg w13 hbox hb; have BK1384 := am (hbox); have GW1384 := am ((by rw [hg]; exact (below_size (pkB HB.out)) : w.heap.size ≤ gb1384)); have GE1384 := am ((by rw [hg]; exact (below_size (pkB HB.out)) : w.heap.size ≤ gb1384)); replace HB := am (below_step (pkB HB.out) hb); clear hb hbox hg; obtain ⟨hcz14_0, hcz14_1, hcz14_2, hcz14_3, hcz14_4, hcz14_5, hfz14_0, hfz14_1, hfz14_2, hfz14_3, hfz14_4, hfz14_5⟩ := bk6 BK1384.out) | ((with_reducible refine gate_callee (f := 19) rfl ?_); refine goesL_ (some 18) rfl rfl Try.func19 (by kernel_rfl) rfl #[.agg #[.bool a0_0, .slice A0_1 l0_1.length c0_1, .slice A0_2 l0_2.length c0_2, .int .i64 a0_3, .int .i64 a0_4, .int .i64 a0_5], .int .i64 1048576] rfl mpx ?_; (with_reducible refine (laws_szNotify.calls a0_0 _ _ l0_1 _ _ l0_2 a0_3 a0_4 a0_5 1048576 t1385 _ ?side1 ?side2 ?side3 ?side4 A3.out).mono ?_); (case side1 => exact pkC (Kd.C_below HR0_1.out HB.out)); (case side2 => exact HC0_1.out); (case side3 => exact pkC (Kd.C_below HR0_2.out HB.out)); (case side4 => exact HC0_2.out); rintro e w15 ⟨rfl, hb⟩; refine ⟨_, rfl, ?_⟩; replace BK1384 := am (blk_below (pkK BK1384.out) hb); replace HB := am (below_step (pkW HB.out) hb); (try clear hb); obtain ⟨hcz16_0, hcz16_1, hcz16_2, hcz16_3, hcz16_4, hcz16_5, hfz16_0, hfz16_1, hfz16_2, hfz16_3, hfz16_4, hfz16_5⟩ := bk6 BK1384.out) | ((with_reducible refine gate_callee (f := 21) rfl ?_); refine goesL_ (some 23) rfl rfl Try.func21 (by kernel_rfl) rfl #[.agg #[.bool a0_0, .slice A0_1 l0_1.length c0_1, .slice A0_2 l0_2.length c0_2, .int .i64 a0_3, .int .i64 a0_4, .int .i64 a0_5]] rfl mpx ?_; (with_reducible refine (laws_toNotify.calls k a0_0 _ _ l0_1 _ _ l0_2 a0_3 a0_4 a0_5 t1386 t1387 t1390 t1393 t1394 t1395 _ ?side1 ?side2 ?side3 ?side4 A8.out).mono ?_); (case side1 => exact pkC (Kd.C_below HR0_1.out HB.out)); (case side2 => exact HC0_1.out); (case side3 => exact pkC (Kd.C_below HR0_2.out HB.out)); (case side4 => exact HC0_2.out); rintro e w17 ⟨v1388, v1391, rfl, ho0, ho1, hb⟩; refine ⟨_, rfl, ?_⟩; have HO1389 := am (Kd.R_lower ho0 (below_size (pkW HB.out))); have HO1392 := am (Kd.R_lower ho1 (below_size (pkW HB.out))); replace BK1384 := am (blk_below (pkK BK1384.out) hb); replace HB := am (below_step (pkW HB.out) hb); (try clear hb ho0 ho1); obtain ⟨Ao18, co18, eo18⟩ := Kd.R_slice HO1389.out; subst eo18; obtain ⟨Ao19, co19, eo19⟩ := Kd.R_slice HO1392.out; subst eo19) | ((with_reducible refine gate_callee (f := 43) rfl ?_); refine goesL_ (some 25) rfl rfl Try.func43 (by kernel_rfl) rfl #[.agg #[.bool t1386, .slice Ao18 t1387.length co18, .slice Ao19 t1390.length co19, .int .i64 t1393, .int .i64 t1394, .int .i64 t1395], .int .i64 a1] rfl mpx ?_; (with_reducible refine (spec_Await.calls k t1386 _ _ t1387 _ _ t1390 t1393 t1394 t1395 a1 t1396 t1397 t1400 t1403 t1404 t1405 t1406 _ ?side1 ?side2 ?side3 ?side4 A9.out).mono ?_); (case side1 => exact pkC (Kd.R_reads' HO1389.out).2.2); (case side2 => exact (Kd.R_reads' HO1389.out).2.1); (case side3 => exact pkC (Kd.R_reads' HO1392.out).2.2); (case side4 => exact (Kd.R_reads' HO1392.out).2.1); rintro e w20 ⟨v1398, v1401, rfl, ho0, ho1, hb⟩; refine ⟨_, rfl, ?_⟩; have HO1399 := am (Kd.R_lower (Kd.R_new' ho0 (Kd.R_lt (pkR HO1389.out))) (below_size (pkW HB.out))); replace HO1389 := am (Kd.R_elder' (pkR HO1389.out) (Kd.R_base ho0) hb); have HO1402 := am (Kd.R_lower (Kd.R_new' ho1 (Kd.R_lt (pkR HO1392.out))) (below_size (pkW HB.out))); replace HO1392 := am (Kd.R_elder' (pkR HO1392.out) (Kd.R_base ho1) hb); replace BK1384 := am (blk_below (pkK BK1384.out) hb); replace HB := am (below_step (pkW HB.out) hb); (try clear hb ho0 ho1)) | ((with_reducible refine gate_dst (N := 6) rfl ?_); refine box_event ?hg (N := 6) ?hd (cs := #[.bool false, .slice none 0 0, .slice none 0 0, .int .i64 0, .int .i64 0, .int .i64 0]) (t := 38) ?hr ?_; (case hd => rfl); (case hg => rfl); (case hr => first | (go_simp; done) | (go_simp; rfl)); intro gb1407 hg w21 hbox hb; replace HO1389 := am (Kd.R_below (pkR HO1389.out) hb); replace HO1392 := am (Kd.R_below (pkR HO1392.out) hb); replace HO1399 := am (Kd.R_below (pkR HO1399.out) hb); replace HO1402 := am (Kd.R_below (pkR HO1402.out) hb); have BK1407 := am (hbox); have GW1407 := am ((by rw [hg]; exact (below_size (pkW HB.out)) : w.heap.size ≤ gb1407)); have GE1407 := am ((by rw [hg]; exact (below_size (pkW HB.out)) : w.heap.size ≤ gb1407)); replace HB := am (below_step (pkW HB.out) hb); have NB1384_1407 := am ((by rw [hg]; exact Nat.ne_of_lt (blk_lt (g := gb1384) (o := .cells #[.bool a0_0, .slice A0_1 l0_1.length c0_1, .slice A0_2 l0_2.length c0_2, .int .i64 a0_3, .int .i64 a0_4, .int .i64 a0_5] 33 (0, 0)) (pkK BK1384.out)) : gb1384 ≠ gb1407)); have NB1407_1384 := am ((by rw [hg]; exact Nat.ne_of_gt (blk_lt (g := gb1384) (o := .cells #[.bool a0_0, .slice A0_1 l0_1.length c0_1, .slice A0_2 l0_2.length c0_2, .int .i64 a0_3, .int .i64 a0_4, .int .i64 a0_5] 33 (0, 0)) (pkK BK1384.out)) : gb1407 ≠ gb1384)); replace BK1384 := am (blk_below (pkK BK1384.out) hb); clear hb hbox hg; have hnb22 := NB1407_1384.out; have hnc22 := NB1384_1407.out; obtain ⟨hcz23_0, hcz23_1, hcz23_2, hcz23_3, hcz23_4, hcz23_5, hfz23_0, hfz23_1, hfz23_2, hfz23_3, hfz23_4, hfz23_5⟩ := bk6 BK1407.out; obtain ⟨Ao24, co24, eo24⟩ := Kd.R_slice HO1399.out; subst eo24; obtain ⟨Ao25, co25, eo25⟩ := Kd.R_slice HO1402.out; subst eo25; obtain ⟨hcz26_0, hcz26_1, hcz26_2, hcz26_3, hcz26_4, hcz26_5, hfz26_0, hfz26_1, hfz26_2, hfz26_3, hfz26_4, hfz26_5⟩ := bk6 BK1384.out) | ((with_reducible refine gate_callee (f := 21) rfl ?_); refine goesL_ (some 29) rfl rfl Try.func21 (by kernel_rfl) rfl #[.agg #[.bool a0_0, .slice A0_1 l0_1.length c0_1, .slice A0_2 l0_2.length c0_2, .int .i64 a0_3, .int .i64 a0_4, .int .i64 a0_5]] rfl mpx ?_; (with_reducible refine (laws_toNotify.calls k a0_0 _ _ l0_1 _ _ l0_2 a0_3 a0_4 a0_5 t1408 t1409 t1412 t1415 t1416 t1417 _ ?side1 ?side2 ?side3 ?side4 A10.out).mono ?_); (case side1 => exact Kd.C_below HR0_1.out (pkW HB.out)); (case side2 => exact HC0_1.out); (case side3 => exact Kd.C_below HR0_2.out (pkW HB.out)); (case side4 => exact HC0_2.out); rintro e w27 ⟨v1410, v1413, rfl, ho0, ho1, hb⟩; refine ⟨_, rfl, ?_⟩; have HO1411 := am (Kd.R_lower (Kd.R_new' (Kd.R_new' ho0 (Kd.R_lt (by (with_reducible repeat (first | apply Kd.R_alloc | apply Kd.R_drewN | apply Kd.R_drew)); exact (Kd.R_mono (Kd.R_far (p := ⟨gb1407, 5, none⟩) (Kd.R_far (p := ⟨gb1407, 4, none⟩) (Kd.R_far (p := ⟨gb1407, 3, none⟩) (Kd.R_far (p := ⟨gb1407, 2, none⟩) (Kd.R_far (p := ⟨gb1407, 1, none⟩) (Kd.R_far (p := ⟨gb1407, 0, none⟩) (Kd.R_types HO1389.out BK1407.out (by decide)) (fun _ hk => hk.2) (.bool t1396)) (fun _ hk => hk.2) (.slice Ao24 t1397.length co24)) (fun _ hk => hk.2) (.slice Ao25 t1400.length co25)) (fun _ hk => hk.2) (.int .i64 t1403)) (fun _ hk => hk.2) (.int .i64 t1404)) (fun _ hk => hk.2) (.int .i64 t1405)) (fun _ h_ => h_.1))))) (Kd.R_lt (by (with_reducible repeat (first | apply Kd.R_alloc | apply Kd.R_drewN | apply Kd.R_drew)); exact (Kd.R_mono (Kd.R_far (p := ⟨gb1407, 5, none⟩) (Kd.R_far (p := ⟨gb1407, 4, none⟩) (Kd.R_far (p := ⟨gb1407, 3, none⟩) (Kd.R_far (p := ⟨gb1407, 2, none⟩) (Kd.R_far (p := ⟨gb1407, 1, none⟩) (Kd.R_far (p := ⟨gb1407, 0, none⟩) (Kd.R_types HO1399.out BK1407.out (by decide)) (fun _ hk => hk.2) (.bool t1396)) (fun _ hk => hk.2) (.slice Ao24 t1397.length co24)) (fun _ hk => hk.2) (.slice Ao25 t1400.length co25)) (fun _ hk => hk.2) (.int .i64 t1403)) (fun _ hk => hk.2) (.int .i64 t1404)) (fun _ hk => hk.2) (.int .i64 t1405)) (fun _ h_ => h_.1))))) (below_size (pkW HB.out))); replace HO1389 := am (Kd.R_elder' (by (with_reducible repeat (first | apply Kd.R_alloc | apply Kd.R_drewN | apply Kd.R_drew)); exact (Kd.R_mono (Kd.R_far (p := ⟨gb1407, 5, none⟩) (Kd.R_far (p := ⟨gb1407, 4, none⟩) (Kd.R_far (p := ⟨gb1407, 3, none⟩) (Kd.R_far (p := ⟨gb1407, 2, none⟩) (Kd.R_far (p := ⟨gb1407, 1, none⟩) (Kd.R_far (p := ⟨gb1407, 0, none⟩) (Kd.R_types HO1389.out BK1407.out (by decide)) (fun _ hk => hk.2) (.bool t1396)) (fun _ hk => hk.2) (.slice Ao24 t1397.length co24)) (fun _ hk => hk.2) (.slice Ao25 t1400.length co25)) (fun _ hk => hk.2) (.int .i64 t1403)) (fun _ hk => hk.2) (.int .i64 t1404)) (fun _ hk => hk.2) (.int .i64 t1405)) (fun _ h_ => h_.1))) (Kd.R_base ho0) hb); replace HO1399 := am (Kd.R_elder' (by (with_reducible repeat (first | apply Kd.R_alloc | apply Kd.R_drewN | apply Kd.R_drew)); exact (Kd.R_mono (Kd.R_far (p := ⟨gb1407, 5, none⟩) (Kd.R_far (p := ⟨gb1407, 4, none⟩) (Kd.R_far (p := ⟨gb1407, 3, none⟩) (Kd.R_far (p := ⟨gb1407, 2, none⟩) (Kd.R_far (p := ⟨gb1407, 1, none⟩) (Kd.R_far (p := ⟨gb1407, 0, none⟩) (Kd.R_types HO1399.out BK1407.out (by decide)) (fun _ hk => hk.2) (.bool t1396)) (fun _ hk => hk.2) (.slice Ao24 t1397.length co24)) (fun _ hk => hk.2) (.slice Ao25 t1400.length co25)) (fun _ hk => hk.2) (.int .i64 t1403)) (fun _ hk => hk.2) (.int .i64 t1404)) (fun _ hk => hk.2) (.int .i64 t1405)) (fun _ h_ => h_.1))) (Kd.R_base ho0) hb); have HO1414 := am (Kd.R_lower (Kd.R_new' (Kd.R_new' ho1 (Kd.R_lt (by (with_reducible repeat (first | apply Kd.R_alloc | apply Kd.R_drewN | apply Kd.R_drew)); exact (Kd.R_mono (Kd.R_far (p := ⟨gb1407, 5, none⟩) (Kd.R_far (p := ⟨gb1407, 4, none⟩) (Kd.R_far (p := ⟨gb1407, 3, none⟩) (Kd.R_far (p := ⟨gb1407, 2, none⟩) (Kd.R_far (p := ⟨gb1407, 1, none⟩) (Kd.R_far (p := ⟨gb1407, 0, none⟩) (Kd.R_types HO1392.out BK1407.out (by decide)) (fun _ hk => hk.2) (.bool t1396)) (fun _ hk => hk.2) (.slice Ao24 t1397.length co24)) (fun _ hk => hk.2) (.slice Ao25 t1400.length co25)) (fun _ hk => hk.2) (.int .i64 t1403)) (fun _ hk => hk.2) (.int .i64 t1404)) (fun _ hk => hk.2) (.int .i64 t1405)) (fun _ h_ => h_.1))))) (Kd.R_lt (by (with_reducible repeat (first | apply Kd.R_alloc | apply Kd.R_drewN | apply Kd.R_drew)); exact (Kd.R_mono (Kd.R_far (p := ⟨gb1407, 5, none⟩) (Kd.R_far (p := ⟨gb1407, 4, none⟩) (Kd.R_far (p := ⟨gb1407, 3, none⟩) (Kd.R_far (p := ⟨gb1407, 2, none⟩) (Kd.R_far (p := ⟨gb1407, 1, none⟩) (Kd.R_far (p := ⟨gb1407, 0, none⟩) (Kd.R_types HO1402.out BK1407.out (by decide)) (fun _ hk => hk.2) (.bool t1396)) (fun _ hk => hk.2) (.slice Ao24 t1397.length co24)) (fun _ hk => hk.2) (.slice Ao25 t1400.length co25)) (fun _ hk => hk.2) (.int .i64 t1403)) (fun _ hk => hk.2) (.int .i64 t1404)) (fun _ hk => hk.2) (.int .i64 t1405)) (fun _ h_ => h_.1))))) (below_size (pkW HB.out))); replace HO1392 := am (Kd.R_elder' (by (with_reducible repeat (first | apply Kd.R_alloc | apply Kd.R_drewN | apply Kd.R_drew)); exact (Kd.R_mono (Kd.R_far (p := ⟨gb1407, 5, none⟩) (Kd.R_far (p := ⟨gb1407, 4, none⟩) (Kd.R_far (p := ⟨gb1407, 3, none⟩) (Kd.R_far (p := ⟨gb1407, 2, none⟩) (Kd.R_far (p := ⟨gb1407, 1, none⟩) (Kd.R_far (p := ⟨gb1407, 0, none⟩) (Kd.R_types HO1392.out BK1407.out (by decide)) (fun _ hk => hk.2) (.bool t1396)) (fun _ hk => hk.2) (.slice Ao24 t1397.length co24)) (fun _ hk => hk.2) (.slice Ao25 t1400.length co25)) (fun _ hk => hk.2) (.int .i64 t1403)) (fun _ hk => hk.2) (.int .i64 t1404)) (fun _ hk => hk.2) (.int .i64 t1405)) (fun _ h_ => h_.1))) (Kd.R_base ho1) hb); replace HO1402 := am (Kd.R_elder' (by (with_reducible repeat (first | apply Kd.R_alloc | apply Kd.R_drewN | apply Kd.R_drew)); exact (Kd.R_mono (Kd.R_far (p := ⟨gb1407, 5, none⟩) (Kd.R_far (p := ⟨gb1407, 4, none⟩) (Kd.R_far (p := ⟨gb1407, 3, none⟩) (Kd.R_far (p := ⟨gb1407, 2, none⟩) (Kd.R_far (p := ⟨gb1407, 1, none⟩) (Kd.R_far (p := ⟨gb1407, 0, none⟩) (Kd.R_types HO1402.out BK1407.out (by decide)) (fun _ hk => hk.2) (.bool t1396)) (fun _ hk => hk.2) (.slice Ao24 t1397.length co24)) (fun _ hk => hk.2) (.slice Ao25 t1400.length co25)) (fun _ hk => hk.2) (.int .i64 t1403)) (fun _ hk => hk.2) (.int .i64 t1404)) (fun _ hk => hk.2) (.int .i64 t1405)) (fun _ h_ => h_.1))) (Kd.R_base ho1) hb); replace BK1384 := am (blk_below (g := gb1384) (o := .cells #[.bool a0_0, .slice A0_1 l0_1.length c0_1, .slice A0_2 l0_2.length c0_2, .int .i64 a0_3, .int .i64 a0_4, .int .i64 a0_5] 33 (0, 0)) (by (with_reducible repeat (first | refine blk_drewN ?_ _ | refine blk_drew ?_ | refine blk_alloc ?_ _)); refine blk_far ?_ NB1384_1407.out _; (with_reducible repeat (first | refine blk_drewN ?_ _ | refine blk_drew ?_ | refine blk_alloc ?_ _)); refine blk_far ?_ NB1384_1407.out _; (with_reducible repeat (first | refine blk_drewN ?_ _ | refine blk_drew ?_ | refine blk_alloc ?_ _)); refine blk_far ?_ NB1384_1407.out _; (with_reducible repeat (first | refine blk_drewN ?_ _ | refine blk_drew ?_ | refine blk_alloc ?_ _)); refine blk_far ?_ NB1384_1407.out _; (with_reducible repeat (first | refine blk_drewN ?_ _ | refine blk_drew ?_ | refine blk_alloc ?_ _)); refine blk_far ?_ NB1384_1407.out _; (with_reducible repeat (first | refine blk_drewN ?_ _ | refine blk_drew ?_ | refine blk_alloc ?_ _)); refine blk_far ?_ NB1384_1407.out _; exact pkK BK1384.out) hb); replace BK1407 := am (blk_below (g := gb1407) (o := .cells #[.bool t1396, .slice Ao24 t1397.length co24, .slice Ao25 t1400.length co25, .int .i64 t1403, .int .i64 t1404, .int .i64 t1405] 38 (0, 0)) (by (with_reducible repeat (first | refine blk_drewN ?_ _ | refine blk_drew ?_ | refine blk_alloc ?_ _)); refine blk_put (cs := #[.bool t1396, .slice Ao24 t1397.length co24, .slice Ao25 t1400.length co25, .int .i64 t1403, .int .i64 t1404, .int .i64 0]) ?_ 5 _ rfl; (with_reducible repeat (first | refine blk_drewN ?_ _ | refine blk_drew ?_ | refine blk_alloc ?_ _)); refine blk_put (cs := #[.bool t1396, .slice Ao24 t1397.length co24, .slice Ao25 t1400.length co25, .int .i64 t1403, .int .i64 0, .int .i64 0]) ?_ 4 _ rfl; (with_reducible repeat (first | refine blk_drewN ?_ _ | refine blk_drew ?_ | refine blk_alloc ?_ _)); refine blk_put (cs := #[.bool t1396, .slice Ao24 t1397.length co24, .slice Ao25 t1400.length co25, .int .i64 0, .int .i64 0, .int .i64 0]) ?_ 3 _ rfl; (with_reducible repeat (first | refine blk_drewN ?_ _ | refine blk_drew ?_ | refine blk_alloc ?_ _)); refine blk_put (cs := #[.bool t1396, .slice Ao24 t1397.length co24, .slice none 0 0, .int .i64 0, .int .i64 0, .int .i64 0]) ?_ 2 _ rfl; (with_reducible repeat (first | refine blk_drewN ?_ _ | refine blk_drew ?_ | refine blk_alloc ?_ _)); refine blk_put (cs := #[.bool t1396, .slice none 0 0, .slice none 0 0, .int .i64 0, .int .i64 0, .int .i64 0]) ?_ 1 _ rfl; (with_reducible repeat (first | refine blk_drewN ?_ _ | refine blk_drew ?_ | refine blk_alloc ?_ _)); refine blk_put (cs := #[.bool false, .slice none 0 0, .slice none 0 0, .int .i64 0, .int .i64 0, .int .i64 0]) ?_ 0 _ rfl; exact pkK BK1407.out) hb); replace HB := am (below_step (pkW HB.out) hb); (try clear hb ho0 ho1)) | ((with_reducible refine gate_dst (N := 8) rfl ?_); refine box_event ?hg (N := 8) ?hd (cs := #[.bool false, .slice none 0 0, .slice none 0 0, .int .i64 0, .int .i64 0, .int .i64 0]) (t := 38) ?hr ?_; (case hd => rfl); (case hg => rfl); (case hr => first | (go_simp; done) | (go_simp; rfl)); intro gb1418 hg w28 hbox hb; replace HO1389 := am (Kd.R_below (pkR HO1389.out) hb); replace HO1392 := am (Kd.R_below (pkR HO1392.out) hb); replace HO1399 := am (Kd.R_below (pkR HO1399.out) hb); replace HO1402 := am (Kd.R_below (pkR HO1402.out) hb); replace HO1411 := am (Kd.R_below (pkR HO1411.out) hb); replace HO1414 := am (Kd.R_below (pkR HO1414.out) hb); have BK1418 := am (hbox); have GW1418 := am ((by rw [hg]; exact (below_size (pkW HB.out)) : w.heap.size ≤ gb1418)); have GE1418 := am ((by rw [hg]; exact (below_size (pkW HB.out)) : w.heap.size ≤ gb1418)); replace HB := am (below_step (pkW HB.out) hb); have NB1384_1418 := am ((by rw [hg]; exact Nat.ne_of_lt (blk_lt (g := gb1384) (o := .cells #[.bool a0_0, .slice A0_1 l0_1.length c0_1, .slice A0_2 l0_2.length c0_2, .int .i64 a0_3, .int .i64 a0_4, .int .i64 a0_5] 33 (0, 0)) (pkK BK1384.out)) : gb1384 ≠ gb1418)); have NB1418_1384 := am ((by rw [hg]; exact Nat.ne_of_gt (blk_lt (g := gb1384) (o := .cells #[.bool a0_0, .slice A0_1 l0_1.length c0_1, .slice A0_2 l0_2.length c0_2, .int .i64 a0_3, .int .i64 a0_4, .int .i64 a0_5] 33 (0, 0)) (pkK BK1384.out)) : gb1418 ≠ gb1384)); replace BK1384 := am (blk_below (pkK BK1384.out) hb); have NB1407_1418 := am ((by rw [hg]; exact Nat.ne_of_lt (blk_lt (g := gb1407) (o := .cells #[.bool t1396, .slice Ao24 t1397.length co24, .slice Ao25 t1400.length co25, .int .i64 t1403, .int .i64 t1404, .int .i64 t1405] 38 (0, 0)) (pkK BK1407.out)) : gb1407 ≠ gb1418)); have NB1418_1407 := am ((by rw [hg]; exact Nat.ne_of_gt (blk_lt (g := gb1407) (o := .cells #[.bool t1396, .slice Ao24 t1397.length co24, .slice Ao25 t1400.length co25, .int .i64 t1403, .int .i64 t1404, .int .i64 t1405] 38 (0, 0)) (pkK BK1407.out)) : gb1418 ≠ gb1407)); replace BK1407 := am (blk_below (pkK BK1407.out) hb); clear hb hbox hg; have hnb29 := NB1418_1384.out; have hnc29 := NB1384_1418.out; have hnb30 := NB1418_1407.out; have hnc30 := NB1407_1418.out; obtain ⟨hcz31_0, hcz31_1, hcz31_2, hcz31_3, hcz31_4, hcz31_5, hfz31_0, hfz31_1, hfz31_2, hfz31_3, hfz31_4, hfz31_5⟩ := bk6 BK1418.out; obtain ⟨Ao32, co32, eo32⟩ := Kd.R_slice HO1411.out; subst eo32; obtain ⟨Ao33, co33, eo33⟩ := Kd.R_slice HO1414.out; subst eo33) | ((with_reducible refine gate_callee (f := 44) rfl ?_); refine goesL_ (some 33) rfl rfl Try.func44 (by kernel_rfl) rfl #[.agg #[.bool t1408, .slice Ao32 t1409.length co32, .slice Ao33 t1412.length co33, .int .i64 t1415, .int .i64 t1416, .int .i64 t1417], .int .i64 a1] rfl mpx ?_; (with_reducible refine (impl_Await.calls k t1408 _ _ t1409 _ _ t1412 t1415 t1416 t1417 a1 t1419 t1420 t1423 t1426 t1427 t1428 t1429 _ ?side1 ?side2 ?side3 ?side4 A11.out).mono ?_); (case side1 => refine (Kd.R_reads' (e := 3) (base := w.heap.size) (ok := fun k_ => ((True ∧ some k_ ≠ (.slice Ao18 t1387.length co18 : Value).ownBlock) ∧ some k_ ≠ (.slice Ao24 t1397.length co24 : Value).ownBlock)) (n := t1409.length) (c := co32) ?_).2.2; exact (by (with_reducible repeat (first | apply Kd.R_alloc | apply Kd.R_drewN | apply Kd.R_drew)); exact (Kd.R_mono (Kd.R_far (p := ⟨gb1418, 5, none⟩) (Kd.R_far (p := ⟨gb1418, 4, none⟩) (Kd.R_far (p := ⟨gb1418, 3, none⟩) (Kd.R_far (p := ⟨gb1418, 2, none⟩) (Kd.R_far (p := ⟨gb1418, 1, none⟩) (Kd.R_far (p := ⟨gb1418, 0, none⟩) (Kd.R_types HO1411.out BK1418.out (by decide)) (fun _ hk => hk.2) (.bool t1408)) (fun _ hk => hk.2) (.slice Ao32 t1409.length co32)) (fun _ hk => hk.2) (.slice Ao33 t1412.length co33)) (fun _ hk => hk.2) (.int .i64 t1415)) (fun _ hk => hk.2) (.int .i64 t1416)) (fun _ hk => hk.2) (.int .i64 t1417)) (fun _ h_ => h_.1)))); (case side2 => exact (Kd.R_reads' HO1411.out).2.1); (case side3 => refine (Kd.R_reads' (e := 67) (base := w.heap.size) (ok := fun k_ => ((True ∧ some k_ ≠ (.slice Ao19 t1390.length co19 : Value).ownBlock) ∧ some k_ ≠ (.slice Ao25 t1400.length co25 : Value).ownBlock)) (n := t1412.length) (c := co33) ?_).2.2; exact (by (with_reducible repeat (first | apply Kd.R_alloc | apply Kd.R_drewN | apply Kd.R_drew)); exact (Kd.R_mono (Kd.R_far (p := ⟨gb1418, 5, none⟩) (Kd.R_far (p := ⟨gb1418, 4, none⟩) (Kd.R_far (p := ⟨gb1418, 3, none⟩) (Kd.R_far (p := ⟨gb1418, 2, none⟩) (Kd.R_far (p := ⟨gb1418, 1, none⟩) (Kd.R_far (p := ⟨gb1418, 0, none⟩) (Kd.R_types HO1414.out BK1418.out (by decide)) (fun _ hk => hk.2) (.bool t1408)) (fun _ hk => hk.2) (.slice Ao32 t1409.length co32)) (fun _ hk => hk.2) (.slice Ao33 t1412.length co33)) (fun _ hk => hk.2) (.int .i64 t1415)) (fun _ hk => hk.2) (.int .i64 t1416)) (fun _ hk => hk.2) (.int .i64 t1417)) (fun _ h_ => h_.1)))); (case side4 => exact (Kd.R_reads' HO1414.out).2.1); rintro e w34 ⟨v1421, v1424, rfl, ho0, ho1, hb⟩; refine ⟨_, rfl, ?_⟩; have HO1422 := am (Kd.R_lower (Kd.R_new' (Kd.R_new' (Kd.R_new' ho0 (Kd.R_lt (by (with_reducible repeat (first | apply Kd.R_alloc | apply Kd.R_drewN | apply Kd.R_drew)); exact (Kd.R_mono (Kd.R_far (p := ⟨gb1418, 5, none⟩) (Kd.R_far (p := ⟨gb1418, 4, none⟩) (Kd.R_far (p := ⟨gb1418, 3, none⟩) (Kd.R_far (p := ⟨gb1418, 2, none⟩) (Kd.R_far (p := ⟨gb1418, 1, none⟩) (Kd.R_far (p := ⟨gb1418, 0, none⟩) (Kd.R_types HO1389.out BK1418.out (by decide)) (fun _ hk => hk.2) (.bool t1408)) (fun _ hk => hk.2) (.slice Ao32 t1409.length co32)) (fun _ hk => hk.2) (.slice Ao33 t1412.length co33)) (fun _ hk => hk.2) (.int .i64 t1415)) (fun _ hk => hk.2) (.int .i64 t1416)) (fun _ hk => hk.2) (.int .i64 t1417)) (fun _ h_ => h_.1))))) (Kd.R_lt (by (with_reducible repeat (first | apply Kd.R_alloc | apply Kd.R_drewN | apply Kd.R_drew)); exact (Kd.R_mono (Kd.R_far (p := ⟨gb1418, 5, none⟩) (Kd.R_far (p := ⟨gb1418, 4, none⟩) (Kd.R_far (p := ⟨gb1418, 3, none⟩) (Kd.R_far (p := ⟨gb1418, 2, none⟩) (Kd.R_far (p := ⟨gb1418, 1, none⟩) (Kd.R_far (p := ⟨gb1418, 0, none⟩) (Kd.R_types HO1399.out BK1418.out (by decide)) (fun _ hk => hk.2) (.bool t1408)) (fun _ hk => hk.2) (.slice Ao32 t1409.length co32)) (fun _ hk => hk.2) (.slice Ao33 t1412.length co33)) (fun _ hk => hk.2) (.int .i64 t1415)) (fun _ hk => hk.2) (.int .i64 t1416)) (fun _ hk => hk.2) (.int .i64 t1417)) (fun _ h_ => h_.1))))) (Kd.R_lt (by (with_reducible repeat (first | apply Kd.R_alloc | apply Kd.R_drewN | apply Kd.R_drew)); exact (Kd.R_mono (Kd.R_far (p := ⟨gb1418, 5, none⟩) (Kd.R_far (p := ⟨gb1418, 4, none⟩) (Kd.R_far (p := ⟨gb1418, 3, none⟩) (Kd.R_far (p := ⟨gb1418, 2, none⟩) (Kd.R_far (p := ⟨gb1418, 1, none⟩) (Kd.R_far (p := ⟨gb1418, 0, none⟩) (Kd.R_types HO1411.out BK1418.out (by decide)) (fun _ hk => hk.2) (.bool t1408)) (fun _ hk => hk.2) (.slice Ao32 t1409.length co32)) (fun _ hk => hk.2) (.slice Ao33 t1412.length co33)) (fun _ hk => hk.2) (.int .i64 t1415)) (fun _ hk => hk.2) (.int .i64 t1416)) (fun _ hk => hk.2) (.int .i64 t1417)) (fun _ h_ => h_.1))))) (below_size (pkW HB.out))); replace HO1389 := am (Kd.R_elder' (by (with_reducible repeat (first | apply Kd.R_alloc | apply Kd.R_drewN | apply Kd.R_drew)); exact (Kd.R_mono (Kd.R_far (p := ⟨gb1418, 5, none⟩) (Kd.R_far (p := ⟨gb1418, 4, none⟩) (Kd.R_far (p := ⟨gb1418, 3, none⟩) (Kd.R_far (p := ⟨gb1418, 2, none⟩) (Kd.R_far (p := ⟨gb1418, 1, none⟩) (Kd.R_far (p := ⟨gb1418, 0, none⟩) (Kd.R_types HO1389.out BK1418.out (by decide)) (fun _ hk => hk.2) (.bool t1408)) (fun _ hk => hk.2) (.slice Ao32 t1409.length co32)) (fun _ hk => hk.2) (.slice Ao33 t1412.length co33)) (fun _ hk => hk.2) (.int .i64 t1415)) (fun _ hk => hk.2) (.int .i64 t1416)) (fun _ hk => hk.2) (.int .i64 t1417)) (fun _ h_ => h_.1))) (Kd.R_base ho0) hb); replace HO1399 := am (Kd.R_elder' (by (with_reducible repeat (first | apply Kd.R_alloc | apply Kd.R_drewN | apply Kd.R_drew)); exact (Kd.R_mono (Kd.R_far (p := ⟨gb1418, 5, none⟩) (Kd.R_far (p := ⟨gb1418, 4, none⟩) (Kd.R_far (p := ⟨gb1418, 3, none⟩) (Kd.R_far (p := ⟨gb1418, 2, none⟩) (Kd.R_far (p := ⟨gb1418, 1, none⟩) (Kd.R_far (p := ⟨gb1418, 0, none⟩) (Kd.R_types HO1399.out BK1418.out (by decide)) (fun _ hk => hk.2) (.bool t1408)) (fun _ hk => hk.2) (.slice Ao32 t1409.length co32)) (fun _ hk => hk.2) (.slice Ao33 t1412.length co33)) (fun _ hk => hk.2) (.int .i64 t1415)) (fun _ hk => hk.2) (.int .i64 t1416)) (fun _ hk => hk.2) (.int .i64 t1417)) (fun _ h_ => h_.1))) (Kd.R_base ho0) hb); replace HO1411 := am (Kd.R_elder' (by (with_reducible repeat (first | apply Kd.R_alloc | apply Kd.R_drewN | apply Kd.R_drew)); exact (Kd.R_mono (Kd.R_far (p := ⟨gb1418, 5, none⟩) (Kd.R_far (p := ⟨gb1418, 4, none⟩) (Kd.R_far (p := ⟨gb1418, 3, none⟩) (Kd.R_far (p := ⟨gb1418, 2, none⟩) (Kd.R_far (p := ⟨gb1418, 1, none⟩) (Kd.R_far (p := ⟨gb1418, 0, none⟩) (Kd.R_types HO1411.out BK1418.out (by decide)) (fun _ hk => hk.2) (.bool t1408)) (fun _ hk => hk.2) (.slice Ao32 t1409.length co32)) (fun _ hk => hk.2) (.slice Ao33 t1412.length co33)) (fun _ hk => hk.2) (.int .i64 t1415)) (fun _ hk => hk.2) (.int .i64 t1416)) (fun _ hk => hk.2) (.int .i64 t1417)) (fun _ h_ => h_.1))) (Kd.R_base ho0) hb); have HO1425 := am (Kd.R_lower (Kd.R_new' (Kd.R_new' (Kd.R_new' ho1 (Kd.R_lt (by (with_reducible repeat (first | apply Kd.R_alloc | apply Kd.R_drewN | apply Kd.R_drew)); exact (Kd.R_mono (Kd.R_far (p := ⟨gb1418, 5, none⟩) (Kd.R_far (p := ⟨gb1418, 4, none⟩) (Kd.R_far (p := ⟨gb1418, 3, none⟩) (Kd.R_far (p := ⟨gb1418, 2, none⟩) (Kd.R_far (p := ⟨gb1418, 1, none⟩) (Kd.R_far (p := ⟨gb1418, 0, none⟩) (Kd.R_types HO1392.out BK1418.out (by decide)) (fun _ hk => hk.2) (.bool t1408)) (fun _ hk => hk.2) (.slice Ao32 t1409.length co32)) (fun _ hk => hk.2) (.slice Ao33 t1412.length co33)) (fun _ hk => hk.2) (.int .i64 t1415)) (fun _ hk => hk.2) (.int .i64 t1416)) (fun _ hk => hk.2) (.int .i64 t1417)) (fun _ h_ => h_.1))))) (Kd.R_lt (by (with_reducible repeat (first | apply Kd.R_alloc | apply Kd.R_drewN | apply Kd.R_drew)); exact (Kd.R_mono (Kd.R_far (p := ⟨gb1418, 5, none⟩) (Kd.R_far (p := ⟨gb1418, 4, none⟩) (Kd.R_far (p := ⟨gb1418, 3, none⟩) (Kd.R_far (p := ⟨gb1418, 2, none⟩) (Kd.R_far (p := ⟨gb1418, 1, none⟩) (Kd.R_far (p := ⟨gb1418, 0, none⟩) (Kd.R_types HO1402.out BK1418.out (by decide)) (fun _ hk => hk.2) (.bool t1408)) (fun _ hk => hk.2) (.slice Ao32 t1409.length co32)) (fun _ hk => hk.2) (.slice Ao33 t1412.length co33)) (fun _ hk => hk.2) (.int .i64 t1415)) (fun _ hk => hk.2) (.int .i64 t1416)) (fun _ hk => hk.2) (.int .i64 t1417)) (fun _ h_ => h_.1))))) (Kd.R_lt (by (with_reducible repeat (first | apply Kd.R_alloc | apply Kd.R_drewN | apply Kd.R_drew)); exact (Kd.R_mono (Kd.R_far (p := ⟨gb1418, 5, none⟩) (Kd.R_far (p := ⟨gb1418, 4, none⟩) (Kd.R_far (p := ⟨gb1418, 3, none⟩) (Kd.R_far (p := ⟨gb1418, 2, none⟩) (Kd.R_far (p := ⟨gb1418, 1, none⟩) (Kd.R_far (p := ⟨gb1418, 0, none⟩) (Kd.R_types HO1414.out BK1418.out (by decide)) (fun _ hk => hk.2) (.bool t1408)) (fun _ hk => hk.2) (.slice Ao32 t1409.length co32)) (fun _ hk => hk.2) (.slice Ao33 t1412.length co33)) (fun _ hk => hk.2) (.int .i64 t1415)) (fun _ hk => hk.2) (.int .i64 t1416)) (fun _ hk => hk.2) (.int .i64 t1417)) (fun _ h_ => h_.1))))) (below_size (pkW HB.out))); replace HO1392 := am (Kd.R_elder' (by (with_reducible repeat (first | apply Kd.R_alloc | apply Kd.R_drewN | apply Kd.R_drew)); exact (Kd.R_mono (Kd.R_far (p := ⟨gb1418, 5, none⟩) (Kd.R_far (p := ⟨gb1418, 4, none⟩) (Kd.R_far (p := ⟨gb1418, 3, none⟩) (Kd.R_far (p := ⟨gb1418, 2, none⟩) (Kd.R_far (p := ⟨gb1418, 1, none⟩) (Kd.R_far (p := ⟨gb1418, 0, none⟩) (Kd.R_types HO1392.out BK1418.out (by decide)) (fun _ hk => hk.2) (.bool t1408)) (fun _ hk => hk.2) (.slice Ao32 t1409.length co32)) (fun _ hk => hk.2) (.slice Ao33 t1412.length co33)) (fun _ hk => hk.2) (.int .i64 t1415)) (fun _ hk => hk.2) (.int .i64 t1416)) (fun _ hk => hk.2) (.int .i64 t1417)) (fun _ h_ => h_.1))) (Kd.R_base ho1) hb); replace HO1402 := am (Kd.R_elder' (by (with_reducible repeat (first | apply Kd.R_alloc | apply Kd.R_drewN | apply Kd.R_drew)); exact (Kd.R_mono (Kd.R_far (p := ⟨gb1418, 5, none⟩) (Kd.R_far (p := ⟨gb1418, 4, none⟩) (Kd.R_far (p := ⟨gb1418, 3, none⟩) (Kd.R_far (p := ⟨gb1418, 2, none⟩) (Kd.R_far (p := ⟨gb1418, 1, none⟩) (Kd.R_far (p := ⟨gb1418, 0, none⟩) (Kd.R_types HO1402.out BK1418.out (by decide)) (fun _ hk => hk.2) (.bool t1408)) (fun _ hk => hk.2) (.slice Ao32 t1409.length co32)) (fun _ hk => hk.2) (.slice Ao33 t1412.length co33)) (fun _ hk => hk.2) (.int .i64 t1415)) (fun _ hk => hk.2) (.int .i64 t1416)) (fun _ hk => hk.2) (.int .i64 t1417)) (fun _ h_ => h_.1))) (Kd.R_base ho1) hb); replace HO1414 := am (Kd.R_elder' (by (with_reducible repeat (first | apply Kd.R_alloc | apply Kd.R_drewN | apply Kd.R_drew)); exact (Kd.R_mono (Kd.R_far (p := ⟨gb1418, 5, none⟩) (Kd.R_far (p := ⟨gb1418, 4, none⟩) (Kd.R_far (p := ⟨gb1418, 3, none⟩) (Kd.R_far (p := ⟨gb1418, 2, none⟩) (Kd.R_far (p := ⟨gb1418, 1, none⟩) (Kd.R_far (p := ⟨gb1418, 0, none⟩) (Kd.R_types HO1414.out BK1418.out (by decide)) (fun _ hk => hk.2) (.bool t1408)) (fun _ hk => hk.2) (.slice Ao32 t1409.length co32)) (fun _ hk => hk.2) (.slice Ao33 t1412.length co33)) (fun _ hk => hk.2) (.int .i64 t1415)) (fun _ hk => hk.2) (.int .i64 t1416)) (fun _ hk => hk.2) (.int .i64 t1417)) (fun _ h_ => h_.1))) (Kd.R_base ho1) hb); replace BK1384 := am (blk_below (g := gb1384) (o := .cells #[.bool a0_0, .slice A0_1 l0_1.length c0_1, .slice A0_2 l0_2.length c0_2, .int .i64 a0_3, .int .i64 a0_4, .int .i64 a0_5] 33 (0, 0)) (by (with_reducible repeat (first | refine blk_drewN ?_ _ | refine blk_drew ?_ | refine blk_alloc ?_ _)); refine blk_far ?_ NB1384_1418.out _; (with_reducible repeat (first | refine blk_drewN ?_ _ | refine blk_drew ?_ | refine blk_alloc ?_ _)); refine blk_far ?_ NB1384_1418.out _; (with_reducible repeat (first | refine blk_drewN ?_ _ | refine blk_drew ?_ | refine blk_alloc ?_ _)); refine blk_far ?_ NB1384_1418.out _; (with_reducible repeat (first | refine blk_drewN ?_ _ | refine blk_drew ?_ | refine blk_alloc ?_ _)); refine blk_far ?_ NB1384_1418.out _; (with_reducible repeat (first | refine blk_drewN ?_ _ | refine blk_drew ?_ | refine blk_alloc ?_ _)); refine blk_far ?_ NB1384_1418.out _; (with_reducible repeat (first | refine blk_drewN ?_ _ | refine blk_drew ?_ | refine blk_alloc ?_ _)); refine blk_far ?_ NB1384_1418.out _; exact pkK BK1384.out) hb); replace BK1407 := am (blk_below (g := gb1407) (o := .cells #[.bool t1396, .slice Ao24 t1397.length co24, .slice Ao25 t1400.length co25, .int .i64 t1403, .int .i64 t1404, .int .i64 t1405] 38 (0, 0)) (by (with_reducible repeat (first | refine blk_drewN ?_ _ | refine blk_drew ?_ | refine blk_alloc ?_ _)); refine blk_far ?_ NB1407_1418.out _; (with_reducible repeat (first | refine blk_drewN ?_ _ | refine blk_drew ?_ | refine blk_alloc ?_ _)); refine blk_far ?_ NB1407_1418.out _; (with_reducible repeat (first | refine blk_drewN ?_ _ | refine blk_drew ?_ | refine blk_alloc ?_ _)); refine blk_far ?_ NB1407_1418.out _; (with_reducible repeat (first | refine blk_drewN ?_ _ | refine blk_drew ?_ | refine blk_alloc ?_ _)); refine blk_far ?_ NB1407_1418.out _; (with_reducible repeat (first | refine blk_drewN ?_ _ | refine blk_drew ?_ | refine blk_alloc ?_ _)); refine blk_far ?_ NB1407_1418.out _; (with_reducible repeat (first | refine blk_drewN ?_ _ | refine blk_drew ?_ | refine blk_alloc ?_ _)); refine blk_far ?_ NB1407_1418.out _; exact pkK BK1407.out) hb); replace BK1418 := am (blk_below (g := gb1418) (o := .cells #[.bool t1408, .slice Ao32 t1409.length co32, .slice Ao33 t1412.length co33, .int .i64 t1415, .int .i64 t1416, .int .i64 t1417] 38 (0, 0)) (by (with_reducible repeat (first | refine blk_drewN ?_ _ | refine blk_drew ?_ | refine blk_alloc ?_ _)); refine blk_put (cs := #[.bool t1408, .slice Ao32 t1409.length co32, .slice Ao33 t1412.length co33, .int .i64 t1415, .int .i64 t1416, .int .i64 0]) ?_ 5 _ rfl; (with_reducible repeat (first | refine blk_drewN ?_ _ | refine blk_drew ?_ | refine blk_alloc ?_ _)); refine blk_put (cs := #[.bool t1408, .slice Ao32 t1409.length co32, .slice Ao33 t1412.length co33, .int .i64 t1415, .int .i64 0, .int .i64 0]) ?_ 4 _ rfl; (with_reducible repeat (first | refine blk_drewN ?_ _ | refine blk_drew ?_ | refine blk_alloc ?_ _)); refine blk_put (cs := #[.bool t1408, .slice Ao32 t1409.length co32, .slice Ao33 t1412.length co33, .int .i64 0, .int .i64 0, .int .i64 0]) ?_ 3 _ rfl; (with_reducible repeat (first | refine blk_drewN ?_ _ | refine blk_drew ?_ | refine blk_alloc ?_ _)); refine blk_put (cs := #[.bool t1408, .slice Ao32 t1409.length co32, .slice none 0 0, .int .i64 0, .int .i64 0, .int .i64 0]) ?_ 2 _ rfl; (with_reducible repeat (first | refine blk_drewN ?_ _ | refine blk_drew ?_ | refine blk_alloc ?_ _)); refine blk_put (cs := #[.bool t1408, .slice none 0 0, .slice none 0 0, .int .i64 0, .int .i64 0, .int .i64 0]) ?_ 1 _ rfl; (with_reducible repeat (first | refine blk_drewN ?_ _ | refine blk_drew ?_ | refine blk_alloc ?_ _)); refine blk_put (cs := #[.bool false, .slice none 0 0, .slice none 0 0, .int .i64 0, .int .i64 0, .int .i64 0]) ?_ 0 _ rfl; exact pkK BK1418.out) hb); replace HB := am (below_step (pkW HB.out) hb); (try clear hb ho0 ho1)) | ((with_reducible refine gate_dst (N := 9) rfl ?_); refine box_event ?hg (N := 9) ?hd (cs := #[.bool false, .slice none 0 0, .slice none 0 0, .int .i64 0, .int .i64 0, .int .i64 0]) (t := 38) ?hr ?_; (case hd => rfl); (case hg => rfl); (case hr => first | (go_simp; done) | (go_simp; rfl)); intro gb1430 hg w35 hbox hb; replace HO1389 := am (Kd.R_below (pkR HO1389.out) hb); replace HO1392 := am (Kd.R_below (pkR HO1392.out) hb); replace HO1399 := am (Kd.R_below (pkR HO1399.out) hb); replace HO1402 := am (Kd.R_below (pkR HO1402.out) hb); replace HO1411 := am (Kd.R_below (pkR HO1411.out) hb); replace HO1414 := am (Kd.R_below (pkR HO1414.out) hb); replace HO1422 := am (Kd.R_below (pkR HO1422.out) hb); replace HO1425 := am (Kd.R_below (pkR HO1425.out) hb); have BK1430 := am (hbox); have GW1430 := am ((by rw [hg]; exact (below_size (pkW HB.out)) : w.heap.size ≤ gb1430)); have GE1430 := am ((by rw [hg]; exact (below_size (pkW HB.out)) : w.heap.size ≤ gb1430)); replace HB := am (below_step (pkW HB.out) hb); have NB1384_1430 := am ((by rw [hg]; exact Nat.ne_of_lt (blk_lt (g := gb1384) (o := .cells #[.bool a0_0, .slice A0_1 l0_1.length c0_1, .slice A0_2 l0_2.length c0_2, .int .i64 a0_3, .int .i64 a0_4, .int .i64 a0_5] 33 (0, 0)) (pkK BK1384.out)) : gb1384 ≠ gb1430)); have NB1430_1384 := am ((by rw [hg]; exact Nat.ne_of_gt (blk_lt (g := gb1384) (o := .cells #[.bool a0_0, .slice A0_1 l0_1.length c0_1, .slice A0_2 l0_2.length c0_2, .int .i64 a0_3, .int .i64 a0_4, .int .i64 a0_5] 33 (0, 0)) (pkK BK1384.out)) : gb1430 ≠ gb1384)); replace BK1384 := am (blk_below (pkK BK1384.out) hb); have NB1407_1430 := am ((by rw [hg]; exact Nat.ne_of_lt (blk_lt (g := gb1407) (o := .cells #[.bool t1396, .slice Ao24 t1397.length co24, .slice Ao25 t1400.length co25, .int .i64 t1403, .int .i64 t1404, .int .i64 t1405] 38 (0, 0)) (pkK BK1407.out)) : gb1407 ≠ gb1430)); have NB1430_1407 := am ((by rw [hg]; exact Nat.ne_of_gt (blk_lt (g := gb1407) (o := .cells #[.bool t1396, .slice Ao24 t1397.length co24, .slice Ao25 t1400.length co25, .int .i64 t1403, .int .i64 t1404, .int .i64 t1405] 38 (0, 0)) (pkK BK1407.out)) : gb1430 ≠ gb1407)); replace BK1407 := am (blk_below (pkK BK1407.out) hb); have NB1418_1430 := am ((by rw [hg]; exact Nat.ne_of_lt (blk_lt (g := gb1418) (o := .cells #[.bool t1408, .slice Ao32 t1409.length co32, .slice Ao33 t1412.length co33, .int .i64 t1415, .int .i64 t1416, .int .i64 t1417] 38 (0, 0)) (pkK BK1418.out)) : gb1418 ≠ gb1430)); have NB1430_1418 := am ((by rw [hg]; exact Nat.ne_of_gt (blk_lt (g := gb1418) (o := .cells #[.bool t1408, .slice Ao32 t1409.length co32, .slice Ao33 t1412.length co33, .int .i64 t1415, .int .i64 t1416, .int .i64 t1417] 38 (0, 0)) (pkK BK1418.out)) : gb1430 ≠ gb1418)); replace BK1418 := am (blk_below (pkK BK1418.out) hb); clear hb hbox hg; have hnb36 := NB1430_1384.out; have hnc36 := NB1384_1430.out; have hnb37 := NB1430_1407.out; have hnc37 := NB1407_1430.out; have hnb38 := NB1430_1418.out; have hnc38 := NB1418_1430.out; obtain ⟨hcz39_0, hcz39_1, hcz39_2, hcz39_3, hcz39_4, hcz39_5, hfz39_0, hfz39_1, hfz39_2, hfz39_3, hfz39_4, hfz39_5⟩ := bk6 BK1430.out; obtain ⟨Ao40, co40, eo40⟩ := Kd.R_slice HO1422.out; subst eo40; obtain ⟨Ao41, co41, eo41⟩ := Kd.R_slice HO1425.out; subst eo41))
  (try simp only [Act.put, List.setIfInBounds_toArray, List.set_cons_zero, List.set_cons_succ])
  go_cut [44] (fun v44 wc => ∃ (kq : Nat) (x44_11 : Bool), v44 = .bool x44_11 ∧ Aside0 (laws_FnExactAwait.j0 kq a1 t1406 t1429 x44_11 a0_0 l0_1 l0_2 a0_3 a0_4 a0_5 t1396 t1397 t1400 t1403 t1404 t1405 t1408 t1409 t1412 t1415 t1416 t1417 t1419 t1420 t1423 t1426 t1427 t1428 = some r) ∧ Aside0 (kq ≤ k) ∧ Aside0 (Kd.R (Kd.int .i64) 3 wc w.heap.size (fun k_ => some k_ ≠ ((.slice Ao32 t1409.length co32) : Value).ownBlock ∧ some k_ ≠ ((.slice Ao40 t1420.length co40) : Value).ownBlock) (.slice Ao24 t1397.length co24) t1397) ∧ Aside0 (Kd.R k67 67 wc w.heap.size (fun k_ => some k_ ≠ ((.slice Ao33 t1412.length co33) : Value).ownBlock ∧ some k_ ≠ ((.slice Ao41 t1423.length co41) : Value).ownBlock) (.slice Ao25 t1400.length co25) t1400) ∧ Aside0 (Kd.Q (Kd.int .i64) 3 wc w.heap.size (fun k_ => some k_ ≠ ((.slice Ao24 t1397.length co24) : Value).ownBlock ∧ some k_ ≠ ((.slice Ao40 t1420.length co40) : Value).ownBlock) (.slice Ao32 t1409.length co32) t1409) ∧ Aside0 (Kd.R k67 67 wc w.heap.size (fun k_ => some k_ ≠ ((.slice Ao25 t1400.length co25) : Value).ownBlock ∧ some k_ ≠ ((.slice Ao41 t1423.length co41) : Value).ownBlock) (.slice Ao33 t1412.length co33) t1412) ∧ Aside0 (Kd.Q (Kd.int .i64) 3 wc w.heap.size (fun k_ => some k_ ≠ ((.slice Ao24 t1397.length co24) : Value).ownBlock ∧ some k_ ≠ ((.slice Ao32 t1409.length co32) : Value).ownBlock) (.slice Ao40 t1420.length co40) t1420) ∧ Aside0 (Kd.R k67 67 wc w.heap.size (fun k_ => some k_ ≠ ((.slice Ao25 t1400.length co25) : Value).ownBlock ∧ some k_ ≠ ((.slice Ao33 t1412.length co33) : Value).ownBlock) (.slice Ao41 t1423.length co41) t1423) ∧ Aside0 (wc.heap[gb1384]? = some (.cells #[.bool a0_0, (.slice A0_1 l0_1.length c0_1), (.slice A0_2 l0_2.length c0_2), .int .i64 a0_3, .int .i64 a0_4, .int .i64 a0_5] 33 (0, 0))) ∧ Aside0 (wc.heap[gb1407]? = some (.cells #[.bool t1396, (.slice Ao24 t1397.length co24), (.slice Ao25 t1400.length co25), .int .i64 t1403, .int .i64 t1404, .int .i64 t1405] 38 (0, 0))) ∧ Aside0 (wc.heap[gb1418]? = some (.cells #[.bool t1408, (.slice Ao32 t1409.length co32), (.slice Ao33 t1412.length co33), .int .i64 t1415, .int .i64 t1416, .int .i64 t1417] 38 (0, 0))) ∧ Aside0 (wc.heap[gb1430]? = some (.cells #[.bool t1419, (.slice Ao40 t1420.length co40), (.slice Ao41 t1423.length co41), .int .i64 t1426, .int .i64 t1427, .int .i64 t1428] 38 (0, 0))) ∧ Aside0 (Below w.heap.size w wc))
  case first =>
   have H := HC12.out
   clear HC12
   replace H := Option.bind_eq_some_iff.mp H
   obtain ⟨t1431, A420, H⟩ := H
   replace H : (if t1431 = true then (laws_FnExactAwait.j0 k a1 t1406 t1429 (t1429 != t1406) a0_0 l0_1 l0_2 a0_3 a0_4 a0_5 t1396 t1397 t1400 t1403 t1404 t1405 t1408 t1409 t1412 t1415 t1416 t1417 t1419 t1420 t1423 t1426 t1427 t1428) else (laws_FnExactAwait.j0 k a1 t1406 t1429 true a0_0 l0_1 l0_2 a0_3 a0_4 a0_5 t1396 t1397 t1400 t1403 t1404 t1405 t1408 t1409 t1412 t1415 t1416 t1417 t1419 t1420 t1423 t1426 t1427 t1428)) = some r := H
   have A42 := am A420
   clear A420
   by_cases c43 : t1431 = true
   ·subst c43
    replace H : (laws_FnExactAwait.j0 k a1 t1406 t1429 (t1429 != t1406) a0_0 l0_1 l0_2 a0_3 a0_4 a0_5 t1396 t1397 t1400 t1403 t1404 t1405 t1408 t1409 t1412 t1415 t1416 t1417 t1419 t1420 t1423 t1426 t1427 t1428) = some r := by rw [if_pos rfl] at H; exact H
    have H' := am H
    clear H
    have hnb44 := NB1430_1384.out
    have hnc44 := NB1384_1430.out
    have hnb45 := NB1430_1407.out
    have hnc45 := NB1407_1430.out
    have hnb46 := NB1430_1418.out
    have hnc46 := NB1418_1430.out
    obtain ⟨hcz47_0, hcz47_1, hcz47_2, hcz47_3, hcz47_4, hcz47_5, hfz47_0, hfz47_1, hfz47_2, hfz47_3, hfz47_4, hfz47_5⟩ := bk6 BK1430.out
    have hnb48 := NB1407_1384.out
    have hnc48 := NB1384_1407.out
    have hnb49 := NB1407_1418.out
    have hnc49 := NB1418_1407.out
    obtain ⟨hcz50_0, hcz50_1, hcz50_2, hcz50_3, hcz50_4, hcz50_5, hfz50_0, hfz50_1, hfz50_2, hfz50_3, hfz50_4, hfz50_5⟩ := bk6 BK1407.out
    go_wp2_with (first | ((with_reducible refine gate_callee (f := 23) rfl ?_); refine goesL_ (some 38) rfl rfl Try.func23 (by kernel_rfl) rfl #[.agg #[.bool t1419, .slice Ao40 t1420.length co40, .slice Ao41 t1423.length co41, .int .i64 t1426, .int .i64 t1427, .int .i64 t1428], .agg #[.bool t1396, .slice Ao24 t1397.length co24, .slice Ao25 t1400.length co25, .int .i64 t1403, .int .i64 t1404, .int .i64 t1405]] rfl mpx ?_; (with_reducible refine (laws_eqNotify.calls k t1419 _ _ t1420 _ _ t1423 t1426 t1427 t1428 t1396 _ _ t1397 _ _ t1400 t1403 t1404 t1405 true _ ?side1 ?side2 ?side3 ?side4 ?side5 ?side6 ?side7 ?side8 A42.out).mono ?_); (case side1 => refine (Kd.R_reads' (e := 3) (base := w.heap.size) (ok := fun k_ => (((True ∧ some k_ ≠ (.slice Ao18 t1387.length co18 : Value).ownBlock) ∧ some k_ ≠ (.slice Ao24 t1397.length co24 : Value).ownBlock) ∧ some k_ ≠ (.slice Ao32 t1409.length co32 : Value).ownBlock)) (n := t1420.length) (c := co40) ?_).2.2; exact (by (with_reducible repeat (first | apply Kd.R_alloc | apply Kd.R_drewN | apply Kd.R_drew)); exact (Kd.R_mono (Kd.R_far (p := ⟨gb1430, 5, none⟩) (Kd.R_far (p := ⟨gb1430, 4, none⟩) (Kd.R_far (p := ⟨gb1430, 3, none⟩) (Kd.R_far (p := ⟨gb1430, 2, none⟩) (Kd.R_far (p := ⟨gb1430, 1, none⟩) (Kd.R_far (p := ⟨gb1430, 0, none⟩) (Kd.R_types HO1422.out BK1430.out (by decide)) (fun _ hk => hk.2) (.bool t1419)) (fun _ hk => hk.2) (.slice Ao40 t1420.length co40)) (fun _ hk => hk.2) (.slice Ao41 t1423.length co41)) (fun _ hk => hk.2) (.int .i64 t1426)) (fun _ hk => hk.2) (.int .i64 t1427)) (fun _ hk => hk.2) (.int .i64 t1428)) (fun _ h_ => h_.1)))); (case side2 => exact (Kd.R_reads' HO1422.out).2.1); (case side3 => refine (Kd.R_reads' (e := 67) (base := w.heap.size) (ok := fun k_ => (((True ∧ some k_ ≠ (.slice Ao19 t1390.length co19 : Value).ownBlock) ∧ some k_ ≠ (.slice Ao25 t1400.length co25 : Value).ownBlock) ∧ some k_ ≠ (.slice Ao33 t1412.length co33 : Value).ownBlock)) (n := t1423.length) (c := co41) ?_).2.2; exact (by (with_reducible repeat (first | apply Kd.R_alloc | apply Kd.R_drewN | apply Kd.R_drew)); exact (Kd.R_mono (Kd.R_far (p := ⟨gb1430, 5, none⟩) (Kd.R_far (p := ⟨gb1430, 4, none⟩) (Kd.R_far (p := ⟨gb1430, 3, none⟩) (Kd.R_far (p := ⟨gb1430, 2, none⟩) (Kd.R_far (p := ⟨gb1430, 1, none⟩) (Kd.R_far (p := ⟨gb1430, 0, none⟩) (Kd.R_types HO1425.out BK1430.out (by decide)) (fun _ hk => hk.2) (.bool t1419)) (fun _ hk => hk.2) (.slice Ao40 t1420.length co40)) (fun _ hk => hk.2) (.slice Ao41 t1423.length co41)) (fun _ hk => hk.2) (.int .i64 t1426)) (fun _ hk => hk.2) (.int .i64 t1427)) (fun _ hk => hk.2) (.int .i64 t1428)) (fun _ h_ => h_.1)))); (case side4 => exact (Kd.R_reads' HO1425.out).2.1); (case side5 => refine (Kd.R_reads' (e := 3) (base := w.heap.size) (ok := fun k_ => (((True ∧ some k_ ≠ (.slice Ao18 t1387.length co18 : Value).ownBlock) ∧ some k_ ≠ (.slice Ao32 t1409.length co32 : Value).ownBlock) ∧ some k_ ≠ (.slice Ao40 t1420.length co40 : Value).ownBlock)) (n := t1397.length) (c := co24) ?_).2.2; exact (by (with_reducible repeat (first | apply Kd.R_alloc | apply Kd.R_drewN | apply Kd.R_drew)); exact (Kd.R_mono (Kd.R_far (p := ⟨gb1430, 5, none⟩) (Kd.R_far (p := ⟨gb1430, 4, none⟩) (Kd.R_far (p := ⟨gb1430, 3, none⟩) (Kd.R_far (p := ⟨gb1430, 2, none⟩) (Kd.R_far (p := ⟨gb1430, 1, none⟩) (Kd.R_far (p := ⟨gb1430, 0, none⟩) (Kd.R_types HO1399.out BK1430.out (by decide)) (fun _ hk => hk.2) (.bool t1419)) (fun _ hk => hk.2) (.slice Ao40 t1420.length co40)) (fun _ hk => hk.2) (.slice Ao41 t1423.length co41)) (fun _ hk => hk.2) (.int .i64 t1426)) (fun _ hk => hk.2) (.int .i64 t1427)) (fun _ hk => hk.2) (.int .i64 t1428)) (fun _ h_ => h_.1)))); (case side6 => exact (Kd.R_reads' HO1399.out).2.1); (case side7 => refine (Kd.R_reads' (e := 67) (base := w.heap.size) (ok := fun k_ => (((True ∧ some k_ ≠ (.slice Ao19 t1390.length co19 : Value).ownBlock) ∧ some k_ ≠ (.slice Ao33 t1412.length co33 : Value).ownBlock) ∧ some k_ ≠ (.slice Ao41 t1423.length co41 : Value).ownBlock)) (n := t1400.length) (c := co25) ?_).2.2; exact (by (with_reducible repeat (first | apply Kd.R_alloc | apply Kd.R_drewN | apply Kd.R_drew)); exact (Kd.R_mono (Kd.R_far (p := ⟨gb1430, 5, none⟩) (Kd.R_far (p := ⟨gb1430, 4, none⟩) (Kd.R_far (p := ⟨gb1430, 3, none⟩) (Kd.R_far (p := ⟨gb1430, 2, none⟩) (Kd.R_far (p := ⟨gb1430, 1, none⟩) (Kd.R_far (p := ⟨gb1430, 0, none⟩) (Kd.R_types HO1402.out BK1430.out (by decide)) (fun _ hk => hk.2) (.bool t1419)) (fun _ hk => hk.2) (.slice Ao40 t1420.length co40)) (fun _ hk => hk.2) (.slice Ao41 t1423.length co41)) (fun _ hk => hk.2) (.int .i64 t1426)) (fun _ hk => hk.2) (.int .i64 t1427)) (fun _ hk => hk.2) (.int .i64 t1428)) (fun _ h_ => h_.1)))); (case side8 => exact (Kd.R_reads' HO1402.out).2.1); rintro e w51 ⟨rfl, hb⟩; refine ⟨_, rfl, ?_⟩; replace HO1389 := am (Kd.R_below (by (with_reducible repeat (first | apply Kd.R_alloc | apply Kd.R_drewN | apply Kd.R_drew)); exact (Kd.R_mono (Kd.R_far (p := ⟨gb1430, 5, none⟩) (Kd.R_far (p := ⟨gb1430, 4, none⟩) (Kd.R_far (p := ⟨gb1430, 3, none⟩) (Kd.R_far (p := ⟨gb1430, 2, none⟩) (Kd.R_far (p := ⟨gb1430, 1, none⟩) (Kd.R_far (p := ⟨gb1430, 0, none⟩) (Kd.R_types HO1389.out BK1430.out (by decide)) (fun _ hk => hk.2) (.bool t1419)) (fun _ hk => hk.2) (.slice Ao40 t1420.length co40)) (fun _ hk => hk.2) (.slice Ao41 t1423.length co41)) (fun _ hk => hk.2) (.int .i64 t1426)) (fun _ hk => hk.2) (.int .i64 t1427)) (fun _ hk => hk.2) (.int .i64 t1428)) (fun _ h_ => h_.1))) hb); replace HO1392 := am (Kd.R_below (by (with_reducible repeat (first | apply Kd.R_alloc | apply Kd.R_drewN | apply Kd.R_drew)); exact (Kd.R_mono (Kd.R_far (p := ⟨gb1430, 5, none⟩) (Kd.R_far (p := ⟨gb1430, 4, none⟩) (Kd.R_far (p := ⟨gb1430, 3, none⟩) (Kd.R_far (p := ⟨gb1430, 2, none⟩) (Kd.R_far (p := ⟨gb1430, 1, none⟩) (Kd.R_far (p := ⟨gb1430, 0, none⟩) (Kd.R_types HO1392.out BK1430.out (by decide)) (fun _ hk => hk.2) (.bool t1419)) (fun _ hk => hk.2) (.slice Ao40 t1420.length co40)) (fun _ hk => hk.2) (.slice Ao41 t1423.length co41)) (fun _ hk => hk.2) (.int .i64 t1426)) (fun _ hk => hk.2) (.int .i64 t1427)) (fun _ hk => hk.2) (.int .i64 t1428)) (fun _ h_ => h_.1))) hb); replace HO1399 := am (Kd.R_below (by (with_reducible repeat (first | apply Kd.R_alloc | apply Kd.R_drewN | apply Kd.R_drew)); exact (Kd.R_mono (Kd.R_far (p := ⟨gb1430, 5, none⟩) (Kd.R_far (p := ⟨gb1430, 4, none⟩) (Kd.R_far (p := ⟨gb1430, 3, none⟩) (Kd.R_far (p := ⟨gb1430, 2, none⟩) (Kd.R_far (p := ⟨gb1430, 1, none⟩) (Kd.R_far (p := ⟨gb1430, 0, none⟩) (Kd.R_types HO1399.out BK1430.out (by decide)) (fun _ hk => hk.2) (.bool t1419)) (fun _ hk => hk.2) (.slice Ao40 t1420.length co40)) (fun _ hk => hk.2) (.slice Ao41 t1423.length co41)) (fun _ hk => hk.2) (.int .i64 t1426)) (fun _ hk => hk.2) (.int .i64 t1427)) (fun _ hk => hk.2) (.int .i64 t1428)) (fun _ h_ => h_.1))) hb); replace HO1402 := am (Kd.R_below (by (with_reducible repeat (first | apply Kd.R_alloc | apply Kd.R_drewN | apply Kd.R_drew)); exact (Kd.R_mono (Kd.R_far (p := ⟨gb1430, 5, none⟩) (Kd.R_far (p := ⟨gb1430, 4, none⟩) (Kd.R_far (p := ⟨gb1430, 3, none⟩) (Kd.R_far (p := ⟨gb1430, 2, none⟩) (Kd.R_far (p := ⟨gb1430, 1, none⟩) (Kd.R_far (p := ⟨gb1430, 0, none⟩) (Kd.R_types HO1402.out BK1430.out (by decide)) (fun _ hk => hk.2) (.bool t1419)) (fun _ hk => hk.2) (.slice Ao40 t1420.length co40)) (fun _ hk => hk.2) (.slice Ao41 t1423.length co41)) (fun _ hk => hk.2) (.int .i64 t1426)) (fun _ hk => hk.2) (.int .i64 t1427)) (fun _ hk => hk.2) (.int .i64 t1428)) (fun _ h_ => h_.1))) hb); replace HO1411 := am (Kd.R_below (by (with_reducible repeat (first | apply Kd.R_alloc | apply Kd.R_drewN | apply Kd.R_drew)); exact (Kd.R_mono (Kd.R_far (p := ⟨gb1430, 5, none⟩) (Kd.R_far (p := ⟨gb1430, 4, none⟩) (Kd.R_far (p := ⟨gb1430, 3, none⟩) (Kd.R_far (p := ⟨gb1430, 2, none⟩) (Kd.R_far (p := ⟨gb1430, 1, none⟩) (Kd.R_far (p := ⟨gb1430, 0, none⟩) (Kd.R_types HO1411.out BK1430.out (by decide)) (fun _ hk => hk.2) (.bool t1419)) (fun _ hk => hk.2) (.slice Ao40 t1420.length co40)) (fun _ hk => hk.2) (.slice Ao41 t1423.length co41)) (fun _ hk => hk.2) (.int .i64 t1426)) (fun _ hk => hk.2) (.int .i64 t1427)) (fun _ hk => hk.2) (.int .i64 t1428)) (fun _ h_ => h_.1))) hb); replace HO1414 := am (Kd.R_below (by (with_reducible repeat (first | apply Kd.R_alloc | apply Kd.R_drewN | apply Kd.R_drew)); exact (Kd.R_mono (Kd.R_far (p := ⟨gb1430, 5, none⟩) (Kd.R_far (p := ⟨gb1430, 4, none⟩) (Kd.R_far (p := ⟨gb1430, 3, none⟩) (Kd.R_far (p := ⟨gb1430, 2, none⟩) (Kd.R_far (p := ⟨gb1430, 1, none⟩) (Kd.R_far (p := ⟨gb1430, 0, none⟩) (Kd.R_types HO1414.out BK1430.out (by decide)) (fun _ hk => hk.2) (.bool t1419)) (fun _ hk => hk.2) (.slice Ao40 t1420.length co40)) (fun _ hk => hk.2) (.slice Ao41 t1423.length co41)) (fun _ hk => hk.2) (.int .i64 t1426)) (fun _ hk => hk.2) (.int .i64 t1427)) (fun _ hk => hk.2) (.int .i64 t1428)) (fun _ h_ => h_.1))) hb); replace HO1422 := am (Kd.R_below (by (with_reducible repeat (first | apply Kd.R_alloc | apply Kd.R_drewN | apply Kd.R_drew)); exact (Kd.R_mono (Kd.R_far (p := ⟨gb1430, 5, none⟩) (Kd.R_far (p := ⟨gb1430, 4, none⟩) (Kd.R_far (p := ⟨gb1430, 3, none⟩) (Kd.R_far (p := ⟨gb1430, 2, none⟩) (Kd.R_far (p := ⟨gb1430, 1, none⟩) (Kd.R_far (p := ⟨gb1430, 0, none⟩) (Kd.R_types HO1422.out BK1430.out (by decide)) (fun _ hk => hk.2) (.bool t1419)) (fun _ hk => hk.2) (.slice Ao40 t1420.length co40)) (fun _ hk => hk.2) (.slice Ao41 t1423.length co41)) (fun _ hk => hk.2) (.int .i64 t1426)) (fun _ hk => hk.2) (.int .i64 t1427)) (fun _ hk => hk.2) (.int .i64 t1428)) (fun _ h_ => h_.1))) hb); replace HO1425 := am (Kd.R_below (by (with_reducible repeat (first | apply Kd.R_alloc | apply Kd.R_drewN | apply Kd.R_drew)); exact (Kd.R_mono (Kd.R_far (p := ⟨gb1430, 5, none⟩) (Kd.R_far (p := ⟨gb1430, 4, none⟩) (Kd.R_far (p := ⟨gb1430, 3, none⟩) (Kd.R_far (p := ⟨gb1430, 2, none⟩) (Kd.R_far (p := ⟨gb1430, 1, none⟩) (Kd.R_far (p := ⟨gb1430, 0, none⟩) (Kd.R_types HO1425.out BK1430.out (by decide)) (fun _ hk => hk.2) (.bool t1419)) (fun _ hk => hk.2) (.slice Ao40 t1420.length co40)) (fun _ hk => hk.2) (.slice Ao41 t1423.length co41)) (fun _ hk => hk.2) (.int .i64 t1426)) (fun _ hk => hk.2) (.int .i64 t1427)) (fun _ hk => hk.2) (.int .i64 t1428)) (fun _ h_ => h_.1))) hb); replace BK1384 := am (blk_below (g := gb1384) (o := .cells #[.bool a0_0, .slice A0_1 l0_1.length c0_1, .slice A0_2 l0_2.length c0_2, .int .i64 a0_3, .int .i64 a0_4, .int .i64 a0_5] 33 (0, 0)) (by (with_reducible repeat (first | refine blk_drewN ?_ _ | refine blk_drew ?_ | refine blk_alloc ?_ _)); refine blk_far ?_ NB1384_1430.out _; (with_reducible repeat (first | refine blk_drewN ?_ _ | refine blk_drew ?_ | refine blk_alloc ?_ _)); refine blk_far ?_ NB1384_1430.out _; (with_reducible repeat (first | refine blk_drewN ?_ _ | refine blk_drew ?_ | refine blk_alloc ?_ _)); refine blk_far ?_ NB1384_1430.out _; (with_reducible repeat (first | refine blk_drewN ?_ _ | refine blk_drew ?_ | refine blk_alloc ?_ _)); refine blk_far ?_ NB1384_1430.out _; (with_reducible repeat (first | refine blk_drewN ?_ _ | refine blk_drew ?_ | refine blk_alloc ?_ _)); refine blk_far ?_ NB1384_1430.out _; (with_reducible repeat (first | refine blk_drewN ?_ _ | refine blk_drew ?_ | refine blk_alloc ?_ _)); refine blk_far ?_ NB1384_1430.out _; exact pkK BK1384.out) hb); replace BK1407 := am (blk_below (g := gb1407) (o := .cells #[.bool t1396, .slice Ao24 t1397.length co24, .slice Ao25 t1400.length co25, .int .i64 t1403, .int .i64 t1404, .int .i64 t1405] 38 (0, 0)) (by (with_reducible repeat (first | refine blk_drewN ?_ _ | refine blk_drew ?_ | refine blk_alloc ?_ _)); refine blk_far ?_ NB1407_1430.out _; (with_reducible repeat (first | refine blk_drewN ?_ _ | refine blk_drew ?_ | refine blk_alloc ?_ _)); refine blk_far ?_ NB1407_1430.out _; (with_reducible repeat (first | refine blk_drewN ?_ _ | refine blk_drew ?_ | refine blk_alloc ?_ _)); refine blk_far ?_ NB1407_1430.out _; (with_reducible repeat (first | refine blk_drewN ?_ _ | refine blk_drew ?_ | refine blk_alloc ?_ _)); refine blk_far ?_ NB1407_1430.out _; (with_reducible repeat (first | refine blk_drewN ?_ _ | refine blk_drew ?_ | refine blk_alloc ?_ _)); refine blk_far ?_ NB1407_1430.out _; (with_reducible repeat (first | refine blk_drewN ?_ _ | refine blk_drew ?_ | refine blk_alloc ?_ _)); refine blk_far ?_ NB1407_1430.out _; exact pkK BK1407.out) hb); replace BK1418 := am (blk_below (g := gb1418) (o := .cells #[.bool t1408, .slice Ao32 t1409.length co32, .slice Ao33 t1412.length co33, .int .i64 t1415, .int .i64 t1416, .int .i64 t1417] 38 (0, 0)) (by (with_reducible repeat (first | refine blk_drewN ?_ _ | refine blk_drew ?_ | refine blk_alloc ?_ _)); refine blk_far ?_ NB1418_1430.out _; (with_reducible repeat (first | refine blk_drewN ?_ _ | refine blk_drew ?_ | refine blk_alloc ?_ _)); refine blk_far ?_ NB1418_1430.out _; (with_reducible repeat (first | refine blk_drewN ?_ _ | refine blk_drew ?_ | refine blk_alloc ?_ _)); refine blk_far ?_ NB1418_1430.out _; (with_reducible repeat (first | refine blk_drewN ?_ _ | refine blk_drew ?_ | refine blk_alloc ?_ _)); refine blk_far ?_ NB1418_1430.out _; (with_reducible repeat (first | refine blk_drewN ?_ _ | refine blk_drew ?_ | refine blk_alloc ?_ _)); refine blk_far ?_ NB1418_1430.out _; (with_reducible repeat (first | refine blk_drewN ?_ _ | refine blk_drew ?_ | refine blk_alloc ?_ _)); refine blk_far ?_ NB1418_1430.out _; exact pkK BK1418.out) hb); replace BK1430 := am (blk_below (g := gb1430) (o := .cells #[.bool t1419, .slice Ao40 t1420.length co40, .slice Ao41 t1423.length co41, .int .i64 t1426, .int .i64 t1427, .int .i64 t1428] 38 (0, 0)) (by (with_reducible repeat (first | refine blk_drewN ?_ _ | refine blk_drew ?_ | refine blk_alloc ?_ _)); refine blk_put (cs := #[.bool t1419, .slice Ao40 t1420.length co40, .slice Ao41 t1423.length co41, .int .i64 t1426, .int .i64 t1427, .int .i64 0]) ?_ 5 _ rfl; (with_reducible repeat (first | refine blk_drewN ?_ _ | refine blk_drew ?_ | refine blk_alloc ?_ _)); refine blk_put (cs := #[.bool t1419, .slice Ao40 t1420.length co40, .slice Ao41 t1423.length co41, .int .i64 t1426, .int .i64 0, .int .i64 0]) ?_ 4 _ rfl; (with_reducible repeat (first | refine blk_drewN ?_ _ | refine blk_drew ?_ | refine blk_alloc ?_ _)); refine blk_put (cs := #[.bool t1419, .slice Ao40 t1420.length co40, .slice Ao41 t1423.length co41, .int .i64 0, .int .i64 0, .int .i64 0]) ?_ 3 _ rfl; (with_reducible repeat (first | refine blk_drewN ?_ _ | refine blk_drew ?_ | refine blk_alloc ?_ _)); refine blk_put (cs := #[.bool t1419, .slice Ao40 t1420.length co40, .slice none 0 0, .int .i64 0, .int .i64 0, .int .i64 0]) ?_ 2 _ rfl; (with_reducible repeat (first | refine blk_drewN ?_ _ | refine blk_drew ?_ | refine blk_alloc ?_ _)); refine blk_put (cs := #[.bool t1419, .slice none 0 0, .slice none 0 0, .int .i64 0, .int .i64 0, .int .i64 0]) ?_ 1 _ rfl; (with_reducible repeat (first | refine blk_drewN ?_ _ | refine blk_drew ?_ | refine blk_alloc ?_ _)); refine blk_put (cs := #[.bool false, .slice none 0 0, .slice none 0 0, .int .i64 0, .int .i64 0, .int .i64 0]) ?_ 0 _ rfl; exact pkK BK1430.out) hb); replace HB := am (below_step (pkW HB.out) hb); (try clear hb)))
    go_meet
    case rel => exact ⟨_, ((t1429 != t1406)), rfx, H', ⟨by first | omega | exact Nat.le_refl _⟩, ⟨by (with_reducible repeat (first | apply Kd.R_alloc | apply Kd.R_drewN | apply Kd.R_drew)); exact Kd.R_mono HO1399.out (fun _ hk => ⟨hk.1.2, hk.2⟩)⟩, ⟨by (with_reducible repeat (first | apply Kd.R_alloc | apply Kd.R_drewN | apply Kd.R_drew)); exact Kd.R_mono HO1402.out (fun _ hk => ⟨hk.1.2, hk.2⟩)⟩, ⟨Kd.Q_of_R (by (with_reducible repeat (first | apply Kd.R_alloc | apply Kd.R_drewN | apply Kd.R_drew)); exact Kd.R_mono HO1411.out (fun _ hk => ⟨hk.1.2, hk.2⟩))⟩, ⟨by (with_reducible repeat (first | apply Kd.R_alloc | apply Kd.R_drewN | apply Kd.R_drew)); exact Kd.R_mono HO1414.out (fun _ hk => ⟨hk.1.2, hk.2⟩)⟩, ⟨Kd.Q_of_R (by (with_reducible repeat (first | apply Kd.R_alloc | apply Kd.R_drewN | apply Kd.R_drew)); exact Kd.R_mono HO1422.out (fun _ hk => ⟨hk.1.2, hk.2⟩))⟩, ⟨by (with_reducible repeat (first | apply Kd.R_alloc | apply Kd.R_drewN | apply Kd.R_drew)); exact Kd.R_mono HO1425.out (fun _ hk => ⟨hk.1.2, hk.2⟩)⟩, ⟨pkK BK1384.out⟩, ⟨pkK BK1407.out⟩, ⟨pkK BK1418.out⟩, ⟨pkK BK1430.out⟩, ⟨pkW HB.out⟩⟩
   ·replace c43 := Bool.eq_false_iff.mpr c43
    subst c43
    replace H : (laws_FnExactAwait.j0 k a1 t1406 t1429 true a0_0 l0_1 l0_2 a0_3 a0_4 a0_5 t1396 t1397 t1400 t1403 t1404 t1405 t1408 t1409 t1412 t1415 t1416 t1417 t1419 t1420 t1423 t1426 t1427 t1428) = some r := by rw [if_neg (show ¬ (false = true) by decide)] at H; exact H
    cases k with
    | zero => exact absurd H (by simp [laws_FnExactAwait.j0])
    | succ k_ => (simp only [laws_FnExactAwait.j0, if_pos] at H; exact absurd (Option.some.inj H) (by rw [HQ_.out]; simp))
  case rest =>
   clear HC12
   try clear c1
   try clear c2
   try clear p2
   try clear c3
   try clear c4
   try clear c4b0
   try clear c11
   try clear c19
   try clear c21
   try clear c22
   try clear c23
   try clear c29
   try clear c30
   try clear c36
   try clear c37
   try clear c38
   try clear c43
   try clear c44
   try clear c45
   try clear c46
   try clear c48
   try clear c49
   try clear hcz14_0
   try clear hcz14_1
   try clear hcz14_2
   try clear hcz14_3
   try clear hcz14_4
   try clear hcz14_5
   try clear hcz16_0
   try clear hcz16_1
   try clear hcz16_2
   try clear hcz16_3
   try clear hcz16_4
   try clear hcz16_5
   try clear hcz23_0
   try clear hcz23_1
   try clear hcz23_2
   try clear hcz23_3
   try clear hcz23_4
   try clear hcz23_5
   try clear hcz26_0
   try clear hcz26_1
   try clear hcz26_2
   try clear hcz26_3
   try clear hcz26_4
   try clear hcz26_5
   try clear hcz31_0
   try clear hcz31_1
   try clear hcz31_2
   try clear hcz31_3
   try clear hcz31_4
   try clear hcz31_5
   try clear hcz39_0
   try clear hcz39_1
   try clear hcz39_2
   try clear hcz39_3
   try clear hcz39_4
   try clear hcz39_5
   try clear hcz47_0
   try clear hcz47_1
   try clear hcz47_2
   try clear hcz47_3
   try clear hcz47_4
   try clear hcz47_5
   try clear hcz50_0
   try clear hcz50_1
   try clear hcz50_2
   try clear hcz50_3
   try clear hcz50_4
   try clear hcz50_5
   try clear hcz6_0
   try clear hcz6_1
   try clear hcz6_2
   try clear hcz6_3
   try clear hcz6_4
   try clear hcz6_5
   try clear hfz14_0
   try clear hfz14_1
   try clear hfz14_2
   try clear hfz14_3
   try clear hfz14_4
   try clear hfz14_5
   try clear hfz16_0
   try clear hfz16_1
   try clear hfz16_2
   try clear hfz16_3
   try clear hfz16_4
   try clear hfz16_5
   try clear hfz23_0
   try clear hfz23_1
   try clear hfz23_2
   try clear hfz23_3
   try clear hfz23_4
   try clear hfz23_5
   try clear hfz26_0
   try clear hfz26_1
   try clear hfz26_2
   try clear hfz26_3
   try clear hfz26_4
   try clear hfz26_5
   try clear hfz31_0
   try clear hfz31_1
   try clear hfz31_2
   try clear hfz31_3
   try clear hfz31_4
   try clear hfz31_5
   try clear hfz39_0
   try clear hfz39_1
   try clear hfz39_2
   try clear hfz39_3
   try clear hfz39_4
   try clear hfz39_5
   try clear hfz47_0
   try clear hfz47_1
   try clear hfz47_2
   try clear hfz47_3
   try clear hfz47_4
   try clear hfz47_5
   try clear hfz50_0
   try clear hfz50_1
   try clear hfz50_2
   try clear hfz50_3
   try clear hfz50_4
   try clear hfz50_5
   try clear hfz6_0
   try clear hfz6_1
   try clear hfz6_2
   try clear hfz6_3
   try clear hfz6_4
   try clear hfz6_5
   obtain ⟨kq, x44_11, rfl, HA, HJ11, HO_1408001, HO_1408002, HO_1419001, HO_1419002, HO_1431001, HO_1431002, BK1384, BK1407, BK1418, BK1430, HB⟩ := hcut
   cases kq with
   | zero => exact absurd HA.out (by simp [laws_FnExactAwait.j0])
   | succ kj11 =>
    have H := HA.out
    clear HA
    simp only [laws_FnExactAwait.j0] at H
    by_cases c52 : x44_11 = true
    ·subst c52
     replace H : (some false) = some r := by rw [if_pos rfl] at H; exact H
     exact absurd (Option.some.inj H) (by rw [HQ_.out]; simp)
    ·replace c52 := Bool.eq_false_iff.mpr c52
     subst c52
     replace H : ((laws_toNotify.f kj11 a0_0 l0_1 l0_2 a0_3 a0_4 a0_5).bind fun bt1432 => ((laws_eqNotify.f kj11 t1408 t1409 t1412 t1415 t1416 t1417 bt1432.1 bt1432.2.1 bt1432.2.2.1 bt1432.2.2.2.1 bt1432.2.2.2.2.1 bt1432.2.2.2.2.2).bind fun t1442 => (if t1442 = true then ((laws_markNotify.f kj11 t1408 t1409 t1412 t1415 t1416 t1417 1).bind fun bt1443 => (if bt1443.1 < 0 then (laws_FnExactAwait.j1 kj11 a1 t1406 true a0_0 l0_1 l0_2 a0_3 a0_4 a0_5 t1396 t1397 t1400 t1403 t1404 t1405 t1419 t1420 t1423 t1426 t1427 t1428) else ((laws_eqNotify.f kj11 t1419 t1420 t1423 t1426 t1427 t1428 t1396 t1397 t1400 t1403 t1404 t1405).bind fun t1446 => (if t1446 = true then (laws_FnExactAwait.j1 kj11 a1 t1406 (t1429 != t1406) a0_0 l0_1 l0_2 a0_3 a0_4 a0_5 t1396 t1397 t1400 t1403 t1404 t1405 t1419 t1420 t1423 t1426 t1427 t1428) else (laws_FnExactAwait.j1 kj11 a1 t1406 true a0_0 l0_1 l0_2 a0_3 a0_4 a0_5 t1396 t1397 t1400 t1403 t1404 t1405 t1419 t1420 t1423 t1426 t1427 t1428))))) else (some false)))) = some r := by rw [if_neg (show ¬ (false = true) by decide)] at H; exact H
     replace H := Option.bind_eq_some_iff.mp H
     obtain ⟨⟨t1432, t1433, t1436, t1439, t1440, t1441⟩, A530, H⟩ := H
     replace H : ((laws_eqNotify.f kj11 t1408 t1409 t1412 t1415 t1416 t1417 t1432 t1433 t1436 t1439 t1440 t1441).bind fun t1442 => (if t1442 = true then ((laws_markNotify.f kj11 t1408 t1409 t1412 t1415 t1416 t1417 1).bind fun bt1443 => (if bt1443.1 < 0 then (laws_FnExactAwait.j1 kj11 a1 t1406 true a0_0 l0_1 l0_2 a0_3 a0_4 a0_5 t1396 t1397 t1400 t1403 t1404 t1405 t1419 t1420 t1423 t1426 t1427 t1428) else ((laws_eqNotify.f kj11 t1419 t1420 t1423 t1426 t1427 t1428 t1396 t1397 t1400 t1403 t1404 t1405).bind fun t1446 => (if t1446 = true then (laws_FnExactAwait.j1 kj11 a1 t1406 (t1429 != t1406) a0_0 l0_1 l0_2 a0_3 a0_4 a0_5 t1396 t1397 t1400 t1403 t1404 t1405 t1419 t1420 t1423 t1426 t1427 t1428) else (laws_FnExactAwait.j1 kj11 a1 t1406 true a0_0 l0_1 l0_2 a0_3 a0_4 a0_5 t1396 t1397 t1400 t1403 t1404 t1405 t1419 t1420 t1423 t1426 t1427 t1428))))) else (some false))) = some r := H
     have A53 := am A530
     clear A530
     replace H := Option.bind_eq_some_iff.mp H
     obtain ⟨t1442, A540, H⟩ := H
     replace H : (if t1442 = true then ((laws_markNotify.f kj11 t1408 t1409 t1412 t1415 t1416 t1417 1).bind fun bt1443 => (if bt1443.1 < 0 then (laws_FnExactAwait.j1 kj11 a1 t1406 true a0_0 l0_1 l0_2 a0_3 a0_4 a0_5 t1396 t1397 t1400 t1403 t1404 t1405 t1419 t1420 t1423 t1426 t1427 t1428) else ((laws_eqNotify.f kj11 t1419 t1420 t1423 t1426 t1427 t1428 t1396 t1397 t1400 t1403 t1404 t1405).bind fun t1446 => (if t1446 = true then (laws_FnExactAwait.j1 kj11 a1 t1406 (t1429 != t1406) a0_0 l0_1 l0_2 a0_3 a0_4 a0_5 t1396 t1397 t1400 t1403 t1404 t1405 t1419 t1420 t1423 t1426 t1427 t1428) else (laws_FnExactAwait.j1 kj11 a1 t1406 true a0_0 l0_1 l0_2 a0_3 a0_4 a0_5 t1396 t1397 t1400 t1403 t1404 t1405 t1419 t1420 t1423 t1426 t1427 t1428))))) else (some false)) = some r := H
     have A54 := am A540
     clear A540
     by_cases c55 : t1442 = true
     ·subst c55
      replace H : ((laws_markNotify.f kj11 t1408 t1409 t1412 t1415 t1416 t1417 1).bind fun bt1443 => (if bt1443.1 < 0 then (laws_FnExactAwait.j1 kj11 a1 t1406 true a0_0 l0_1 l0_2 a0_3 a0_4 a0_5 t1396 t1397 t1400 t1403 t1404 t1405 t1419 t1420 t1423 t1426 t1427 t1428) else ((laws_eqNotify.f kj11 t1419 t1420 t1423 t1426 t1427 t1428 t1396 t1397 t1400 t1403 t1404 t1405).bind fun t1446 => (if t1446 = true then (laws_FnExactAwait.j1 kj11 a1 t1406 (t1429 != t1406) a0_0 l0_1 l0_2 a0_3 a0_4 a0_5 t1396 t1397 t1400 t1403 t1404 t1405 t1419 t1420 t1423 t1426 t1427 t1428) else (laws_FnExactAwait.j1 kj11 a1 t1406 true a0_0 l0_1 l0_2 a0_3 a0_4 a0_5 t1396 t1397 t1400 t1403 t1404 t1405 t1419 t1420 t1423 t1426 t1427 t1428))))) = some r := by rw [if_pos rfl] at H; exact H
      replace H := Option.bind_eq_some_iff.mp H
      obtain ⟨⟨t1443, t1444, t1445⟩, A560, H⟩ := H
      replace H : (if t1443 < 0 then (laws_FnExactAwait.j1 kj11 a1 t1406 true a0_0 l0_1 l0_2 a0_3 a0_4 a0_5 t1396 t1397 t1400 t1403 t1404 t1405 t1419 t1420 t1423 t1426 t1427 t1428) else ((laws_eqNotify.f kj11 t1419 t1420 t1423 t1426 t1427 t1428 t1396 t1397 t1400 t1403 t1404 t1405).bind fun t1446 => (if t1446 = true then (laws_FnExactAwait.j1 kj11 a1 t1406 (t1429 != t1406) a0_0 l0_1 l0_2 a0_3 a0_4 a0_5 t1396 t1397 t1400 t1403 t1404 t1405 t1419 t1420 t1423 t1426 t1427 t1428) else (laws_FnExactAwait.j1 kj11 a1 t1406 true a0_0 l0_1 l0_2 a0_3 a0_4 a0_5 t1396 t1397 t1400 t1403 t1404 t1405 t1419 t1420 t1423 t1426 t1427 t1428)))) = some r := H
      have A56 := am A560
      clear A560
      have HC57 := am H
      clear H
      try go_wp2
      replace HO_1408001 := am (Kd.R_drew HO_1408001.out)
      replace HO_1408002 := am (Kd.R_drew HO_1408002.out)
      replace HO_1419001 := am (Kd.Q_drew HO_1419001.out)
      replace HO_1419002 := am (Kd.R_drew HO_1419002.out)
      replace HO_1431001 := am (Kd.Q_drew HO_1431001.out)
      replace HO_1431002 := am (Kd.R_drew HO_1431002.out)
      replace BK1384 := am (blk_drew BK1384.out)
      replace BK1407 := am (blk_drew BK1407.out)
      replace BK1418 := am (blk_drew BK1418.out)
      replace BK1430 := am (blk_drew BK1430.out)
      replace HB := am (below_drew1 HB.out)
      refine start_ (n := 5) (S := fun w' => w'.cell? ⟨gb1418, 0, none⟩ = some (.bool t1408) ∧ w'.cell? ⟨gb1418, 1, none⟩ = some (.slice Ao32 t1409.length co32) ∧ w'.cell? ⟨gb1418, 2, none⟩ = some (.slice Ao33 t1412.length co33) ∧ w'.cell? ⟨gb1418, 3, none⟩ = some (.int .i64 t1415) ∧ w'.cell? ⟨gb1418, 4, none⟩ = some (.int .i64 t1416) ∧ w'.cell? ⟨gb1418, 5, none⟩ = some (.int .i64 t1417) ∧ w'.cell? ⟨gb1384, 0, none⟩ = some (.bool a0_0) ∧ w'.cell? ⟨gb1384, 1, none⟩ = some (.slice A0_1 l0_1.length c0_1) ∧ w'.cell? ⟨gb1384, 2, none⟩ = some (.slice A0_2 l0_2.length c0_2) ∧ w'.cell? ⟨gb1384, 3, none⟩ = some (.int .i64 a0_3) ∧ w'.cell? ⟨gb1384, 4, none⟩ = some (.int .i64 a0_4) ∧ w'.cell? ⟨gb1384, 5, none⟩ = some (.int .i64 a0_5)) (ds := []) #[false, false, false, false, false] (by kernel_rfl) rfl rfl ⟨(blk_cell BK1418.out 0).trans rfl, (blk_cell BK1418.out 1).trans rfl, (blk_cell BK1418.out 2).trans rfl, (blk_cell BK1418.out 3).trans rfl, (blk_cell BK1418.out 4).trans rfl, (blk_cell BK1418.out 5).trans rfl, (blk_cell BK1384.out 0).trans rfl, (blk_cell BK1384.out 1).trans rfl, (blk_cell BK1384.out 2).trans rfl, (blk_cell BK1384.out 3).trans rfl, (blk_cell BK1384.out 4).trans rfl, (blk_cell BK1384.out 5).trans rfl⟩ (fun hHeld => ?_)
      generalize wc.drew = w58 at HO_1408001 HO_1408002 HO_1419001 HO_1419002 HO_1431001 HO_1431002 BK1384 BK1407 BK1418 BK1430 HB hHeld ⊢
      refine take_ (i := 0) (N := some 45) (v := ?_) (a' := ?_) #[true, false, false, false, false] rfl rfl (by kernel_rfl) (fun _ _ _ h => h) (Or.inl ⟨by rfl, ?_⟩) hHeld ?_ ?_
      rotate_left
      ·rintro w' ⟨s0, s1, s2, s3, s4, s5, s6, s7, s8, s9, s10, s11⟩
       go_simp
       with_reducible rfl
      rotate_left
      ·simp only [Act.put, List.setIfInBounds_toArray, List.set_cons_zero, List.set_cons_succ, i64_w, i32_w]
       rfl
      refine take_ (i := 1) (N := some 46) (v := ?_) (a' := ?_) #[true, true, false, false, false] rfl rfl (by kernel_rfl) (fun _ _ _ h => h) (Or.inl ⟨by rfl, ?_⟩) hHeld ?_ ?_
      rotate_left
      ·rintro w' ⟨s0, s1, s2, s3, s4, s5, s6, s7, s8, s9, s10, s11⟩
       go_simp
       with_reducible rfl
      rotate_left
      ·simp only [Act.put, List.setIfInBounds_toArray, List.set_cons_zero, List.set_cons_succ, i64_w, i32_w]
       rfl
      refine one_ (i := 2) (N := some 47) #[true, true, true, false, false] rfl rfl (by kernel_rfl) (by decide) (fun K hK => ?_)
      refine goes_ Try.func21 (by kernel_rfl) rfl #[.agg #[.bool a0_0, .slice A0_1 l0_1.length c0_1, .slice A0_2 l0_2.length c0_2, .int .i64 a0_3, .int .i64 a0_4, .int .i64 a0_5]] (by rfl) rfl rfl mpx ?_
      with_reducible refine (laws_toNotify.calls kj11 a0_0 _ _ l0_1 _ _ l0_2 a0_3 a0_4 a0_5 t1432 t1433 t1436 t1439 t1440 t1441 _ ?side1 ?side2 ?side3 ?side4 A53.out).mono ?_
      (case side1 => exact pkC (Kd.C_below HR0_1.out HB.out))
      (case side2 => exact HC0_1.out)
      (case side3 => exact pkC (Kd.C_below HR0_2.out HB.out))
      (case side4 => exact HC0_2.out)
      rintro e w59 ⟨v1434, v1437, rfl, ho0, ho1, hb⟩
      refine ⟨_, rfl, ?_⟩
      have HO1435 := am (Kd.R_lower (Kd.R_new' (Kd.R_new' (Kd.R_new' ho0 (Kd.R_lt (pkR HO_1408001.out))) (Kd.Q_lt (pkQ HO_1419001.out))) (Kd.Q_lt (pkQ HO_1431001.out))) (below_size (pkW HB.out)))
      replace HO_1408001 := am (Kd.R_elder' (pkR HO_1408001.out) (Kd.R_base ho0) hb)
      replace HO_1419001 := am (Kd.Q_elder' (pkQ HO_1419001.out) (Kd.R_base ho0) hb)
      replace HO_1431001 := am (Kd.Q_elder' (pkQ HO_1431001.out) (Kd.R_base ho0) hb)
      have HO1438 := am (Kd.R_lower (Kd.R_new' (Kd.R_new' (Kd.R_new' ho1 (Kd.R_lt (pkR HO_1408002.out))) (Kd.R_lt (pkR HO_1419002.out))) (Kd.R_lt (pkR HO_1431002.out))) (below_size (pkW HB.out)))
      replace HO_1408002 := am (Kd.R_elder' (pkR HO_1408002.out) (Kd.R_base ho1) hb)
      replace HO_1419002 := am (Kd.R_elder' (pkR HO_1419002.out) (Kd.R_base ho1) hb)
      replace HO_1431002 := am (Kd.R_elder' (pkR HO_1431002.out) (Kd.R_base ho1) hb)
      replace BK1384 := am (blk_below (pkK BK1384.out) hb)
      replace BK1407 := am (blk_below (pkK BK1407.out) hb)
      replace BK1418 := am (blk_below (pkK BK1418.out) hb)
      replace BK1430 := am (blk_below (pkK BK1430.out) hb)
      replace HB := am (below_step (pkW HB.out) hb)
      (try clear hb); (try clear ho0 ho1)
      obtain ⟨Ao60, co60, eo60⟩ := Kd.R_slice HO1435.out
      (first | subst eo60 | (injection eo60 with f1_ f2_ f3_; have f4_ := f1_.symm; have f5_ := f3_.symm; clear f1_ f2_ f3_; subst f4_; subst f5_))
      obtain ⟨Ao61, co61, eo61⟩ := Kd.R_slice HO1438.out
      (first | subst eo61 | (injection eo61 with f1_ f2_ f3_; have f4_ := f1_.symm; have f5_ := f3_.symm; clear f1_ f2_ f3_; subst f4_; subst f5_))
      refine hK.out _ _ ⟨(blk_cell BK1418.out 0).trans rfl, (blk_cell BK1418.out 1).trans rfl, (blk_cell BK1418.out 2).trans rfl, (blk_cell BK1418.out 3).trans rfl, (blk_cell BK1418.out 4).trans rfl, (blk_cell BK1418.out 5).trans rfl, (blk_cell BK1384.out 0).trans rfl, (blk_cell BK1384.out 1).trans rfl, (blk_cell BK1384.out 2).trans rfl, (blk_cell BK1384.out 3).trans rfl, (blk_cell BK1384.out 4).trans rfl, (blk_cell BK1384.out 5).trans rfl⟩ (fun hHeld => ?_)
      clear hK K
      refine norm_ (a' := ?_) ?_ ?_
      rotate_left
      ·show Act.put _ (some 47) _ = _
       simp only [Act.put, List.setIfInBounds_toArray, List.set_cons_zero, List.set_cons_succ, i64_w, i32_w]
       rfl
      refine one_ (i := 3) (N := some 48) #[true, true, true, true, false] rfl rfl (by kernel_rfl) (by decide) (fun K hK => ?_)
      refine goes_ Try.func23 (by kernel_rfl) rfl #[.agg #[.bool t1408, .slice Ao32 t1409.length co32, .slice Ao33 t1412.length co33, .int .i64 t1415, .int .i64 t1416, .int .i64 t1417], .agg #[.bool t1432, .slice Ao60 t1433.length co60, .slice Ao61 t1436.length co61, .int .i64 t1439, .int .i64 t1440, .int .i64 t1441]] (by rfl) rfl rfl mpx ?_
      with_reducible refine (laws_eqNotify.calls kj11 t1408 _ _ t1409 _ _ t1412 t1415 t1416 t1417 t1432 _ _ t1433 _ _ t1436 t1439 t1440 t1441 true _ ?side1 ?side2 ?side3 ?side4 ?side5 ?side6 ?side7 ?side8 A54.out).mono ?_
      (case side1 => repeat (first | exact (Kd.Q_reads' HO_1419001.out).2.2 | (with_reducible refine Kd.C_alloc ?_ _) | (with_reducible refine Kd.C_drewN ?_ _) | (with_reducible refine Kd.C_drew ?_)))
      (case side2 => exact (Kd.Q_reads' HO_1419001.out).2.1)
      (case side3 => exact pkC (Kd.R_reads' HO_1419002.out).2.2)
      (case side4 => exact (Kd.R_reads' HO_1419002.out).2.1)
      (case side5 => exact pkC (Kd.R_reads' HO1435.out).2.2)
      (case side6 => exact (Kd.R_reads' HO1435.out).2.1)
      (case side7 => exact pkC (Kd.R_reads' HO1438.out).2.2)
      (case side8 => exact (Kd.R_reads' HO1438.out).2.1)
      rintro e w62 ⟨rfl, hb⟩
      refine ⟨_, rfl, ?_⟩
      replace HO_1408001 := am (Kd.R_below (pkR HO_1408001.out) hb)
      replace HO_1408002 := am (Kd.R_below (pkR HO_1408002.out) hb)
      replace HO_1419001 := am (Kd.Q_below (pkQ HO_1419001.out) hb)
      replace HO_1419002 := am (Kd.R_below (pkR HO_1419002.out) hb)
      replace HO_1431001 := am (Kd.Q_below (pkQ HO_1431001.out) hb)
      replace HO_1431002 := am (Kd.R_below (pkR HO_1431002.out) hb)
      replace HO1435 := am (Kd.R_below (pkR HO1435.out) hb)
      replace HO1438 := am (Kd.R_below (pkR HO1438.out) hb)
      replace BK1384 := am (blk_below (pkK BK1384.out) hb)
      replace BK1407 := am (blk_below (pkK BK1407.out) hb)
      replace BK1418 := am (blk_below (pkK BK1418.out) hb)
      replace BK1430 := am (blk_below (pkK BK1430.out) hb)
      replace HB := am (below_step (pkW HB.out) hb)
      (try clear hb)
      refine hK.out _ _ ⟨(blk_cell BK1418.out 0).trans rfl, (blk_cell BK1418.out 1).trans rfl, (blk_cell BK1418.out 2).trans rfl, (blk_cell BK1418.out 3).trans rfl, (blk_cell BK1418.out 4).trans rfl, (blk_cell BK1418.out 5).trans rfl, (blk_cell BK1384.out 0).trans rfl, (blk_cell BK1384.out 1).trans rfl, (blk_cell BK1384.out 2).trans rfl, (blk_cell BK1384.out 3).trans rfl, (blk_cell BK1384.out 4).trans rfl, (blk_cell BK1384.out 5).trans rfl⟩ (fun hHeld => ?_)
      clear hK K
      refine norm_ (a' := ?_) ?_ ?_
      rotate_left
      ·show Act.put _ (some 48) _ = _
       simp only [Act.put, List.setIfInBounds_toArray, List.set_cons_zero, List.set_cons_succ, i64_w, i32_w]
       rfl
      refine pure_ (i := 4) (N := some 49) (v := ?_) (a' := ?_) #[true, true, true, true, true] rfl rfl (by kernel_rfl) (fun _ _ _ h => h) (Or.inl ⟨by rfl, ?_⟩) ?_ ?_
      rotate_left
      ·intro w'
       go_simp
       with_reducible rfl
      rotate_left
      ·simp only [Act.put, List.setIfInBounds_toArray, List.set_cons_zero, List.set_cons_succ, i64_w, i32_w]
       rfl
      refine done_ (by kernel_rfl) ?_
      have hnb63 := NB1418_1384.out
      have hnc63 := NB1384_1418.out
      have hnb64 := NB1418_1407.out
      have hnc64 := NB1407_1418.out
      have hnb65 := NB1418_1430.out
      have hnc65 := NB1430_1418.out
      obtain ⟨hcz66_0, hcz66_1, hcz66_2, hcz66_3, hcz66_4, hcz66_5, hfz66_0, hfz66_1, hfz66_2, hfz66_3, hfz66_4, hfz66_5⟩ := bk6 BK1418.out
      go_upto_region 14 with (first | ((with_reducible refine gate_callee (f := 35) rfl ?_); refine goesL_ (some 52) rfl rfl Try.func35 (by kernel_rfl) rfl #[.agg #[.bool t1408, .slice Ao32 t1409.length co32, .slice Ao33 t1412.length co33, .int .i64 t1415, .int .i64 t1416, .int .i64 t1417], .int .i64 1] rfl mpx ?_; (with_reducible refine (laws_markNotify.calls kj11 t1408 (fun k_ => some k_ = (.slice Ao32 t1409.length co32 : Value).ownBlock) (.slice Ao32 t1409.length co32) t1409 (fun k_ => some k_ = (.slice Ao33 t1412.length co33 : Value).ownBlock) (.slice Ao33 t1412.length co33) t1412 t1415 t1416 t1417 1 t1443 t1444 t1445 w _ ?side1 ?side2 ?side3 A56.out).mono ?_); (case side1 => repeat (first | (with_reducible first | exact HB.out | apply below_alloc | apply pw_below_drewN | apply below_drew1 | refine below_set ?_ GE1384.out | refine below_set ?_ GE1407.out | refine below_set ?_ GE1418.out | refine below_set ?_ GE1430.out) | exact HB.out)); (case side2 => exact Kd.Q_tight rfl HO_1419001.out); (case side3 => exact Kd.R_tight rfl HO_1419002.out); rintro e w67 ⟨rfl, hy0, hy1, hb, hkp⟩; refine ⟨_, rfl, ?_⟩; replace HO_1408001 := am (Kd.R_mono (ok' := fun k_ => some k_ ≠ (.slice Ao32 t1409.length co32 : Value).ownBlock ∧ some k_ ≠ (.slice Ao40 t1420.length co40 : Value).ownBlock ∧ some k_ ≠ (.slice Ao60 t1433.length co60 : Value).ownBlock) (Kd.R_keptB ((Kd.R_apart' HO_1408001.out (Kd.R_typed HO_1419002.out) (by decide))) hkp (fun k_ hk_ hs_ => Or.elim hs_ (fun e_ => (hk_.1.1.1) e_) (fun e_ => (hk_.2) e_))) (fun k_ hk_ => ⟨hk_.1.1.1.1, hk_.1.1.1.2, hk_.1.1.2⟩)); replace HO_1408002 := am (Kd.R_mono (ok' := fun k_ => some k_ ≠ (.slice Ao33 t1412.length co33 : Value).ownBlock ∧ some k_ ≠ (.slice Ao41 t1423.length co41 : Value).ownBlock ∧ some k_ ≠ (.slice Ao61 t1436.length co61 : Value).ownBlock) (Kd.R_keptB ((Kd.R_apart' HO_1408002.out (Kd.Q_typed HO_1419001.out) (by decide))) hkp (fun k_ hk_ hs_ => Or.elim hs_ (fun e_ => (hk_.2) e_) (fun e_ => (hk_.1.1.1) e_))) (fun k_ hk_ => ⟨hk_.1.1.1.1, hk_.1.1.1.2, hk_.1.1.2⟩)); replace HO_1431001 := am (Kd.Q_mono (ok' := fun k_ => some k_ ≠ (.slice Ao24 t1397.length co24 : Value).ownBlock ∧ some k_ ≠ (.slice Ao32 t1409.length co32 : Value).ownBlock ∧ some k_ ≠ (.slice Ao60 t1433.length co60 : Value).ownBlock) (Kd.Q_keptB ((Kd.Q_apart' HO_1431001.out (Kd.R_typed HO_1419002.out) (by decide))) hkp (fun k_ hk_ hs_ => Or.elim hs_ (fun e_ => (hk_.1.1.2) e_) (fun e_ => (hk_.2) e_))) (fun k_ hk_ => ⟨hk_.1.1.1.1, hk_.1.1.1.2, hk_.1.1.2⟩)); replace HO_1431002 := am (Kd.R_mono (ok' := fun k_ => some k_ ≠ (.slice Ao25 t1400.length co25 : Value).ownBlock ∧ some k_ ≠ (.slice Ao33 t1412.length co33 : Value).ownBlock ∧ some k_ ≠ (.slice Ao61 t1436.length co61 : Value).ownBlock) (Kd.R_keptB ((Kd.R_apart' HO_1431002.out (Kd.Q_typed HO_1419001.out) (by decide))) hkp (fun k_ hk_ hs_ => Or.elim hs_ (fun e_ => (hk_.2) e_) (fun e_ => (hk_.1.1.2) e_))) (fun k_ hk_ => ⟨hk_.1.1.1.1, hk_.1.1.1.2, hk_.1.1.2⟩)); replace BK1384 := am (blk_kept (pkK BK1384.out) hkp (fun hs_ => Or.elim hs_ (fun e_ => (fun e_ => (Kd.Q_ne HO_1419001.out BK1384.out (by decide)) e_) e_) (fun e_ => (fun e_ => (Kd.R_ne HO_1419002.out BK1384.out (by decide)) e_) e_))); replace BK1407 := am (blk_kept (pkK BK1407.out) hkp (fun hs_ => Or.elim hs_ (fun e_ => (fun e_ => (Kd.Q_ne HO_1419001.out BK1407.out (by decide)) e_) e_) (fun e_ => (fun e_ => (Kd.R_ne HO_1419002.out BK1407.out (by decide)) e_) e_))); replace BK1418 := am (blk_kept (pkK BK1418.out) hkp (fun hs_ => Or.elim hs_ (fun e_ => (fun e_ => (Kd.Q_ne HO_1419001.out BK1418.out (by decide)) e_) e_) (fun e_ => (fun e_ => (Kd.R_ne HO_1419002.out BK1418.out (by decide)) e_) e_))); replace BK1430 := am (blk_kept (pkK BK1430.out) hkp (fun hs_ => Or.elim hs_ (fun e_ => (fun e_ => (Kd.Q_ne HO_1419001.out BK1430.out (by decide)) e_) e_) (fun e_ => (fun e_ => (Kd.R_ne HO_1419002.out BK1430.out (by decide)) e_) e_))); replace HO1435 := am (Kd.R_mono (ok' := fun k_ => some k_ ≠ (.slice Ao24 t1397.length co24 : Value).ownBlock ∧ some k_ ≠ (.slice Ao32 t1409.length co32 : Value).ownBlock ∧ some k_ ≠ (.slice Ao40 t1420.length co40 : Value).ownBlock) (Kd.R_keptB ((Kd.R_apart' HO1435.out (Kd.R_typed HO_1419002.out) (by decide))) hkp (fun k_ hk_ hs_ => Or.elim hs_ (fun e_ => (hk_.1.1.2) e_) (fun e_ => (hk_.2) e_))) (fun k_ hk_ => ⟨hk_.1.1.1.1.2, hk_.1.1.1.2, hk_.1.1.2⟩)); replace HO_1419002 := am (Kd.R_reok rfl hy1 (fun k_ e_ => HO_1419002.out.1 k_ e_)); replace HO1438 := am (Kd.R_mono (ok' := fun k_ => some k_ ≠ (.slice Ao25 t1400.length co25 : Value).ownBlock ∧ some k_ ≠ (.slice Ao33 t1412.length co33 : Value).ownBlock ∧ some k_ ≠ (.slice Ao41 t1423.length co41 : Value).ownBlock) (Kd.R_keptB ((Kd.R_apart' HO1438.out (Kd.Q_typed HO_1419001.out) (by decide))) hkp (fun k_ hk_ hs_ => Or.elim hs_ (fun e_ => (hk_.2) e_) (fun e_ => (hk_.1.1.2) e_))) (fun k_ hk_ => ⟨hk_.1.1.1.1.2, hk_.1.1.1.2, hk_.1.1.2⟩)); replace HO_1419001 := am (Kd.Q_reok rfl hy0 (fun k_ e_ => HO_1419001.out.1 k_ e_)); replace HB := am (hb); (try clear hb); (try clear hkp); (try clear hy0); (try clear hy1)))
      (try simp only [Act.put, List.setIfInBounds_toArray, List.set_cons_zero, List.set_cons_succ])
      go_cut [65] (fun v65 wc => ∃ (kq : Nat) (x65_56 : Bool), v65 = .bool x65_56 ∧ Aside0 (laws_FnExactAwait.j1 kq a1 t1406 x65_56 a0_0 l0_1 l0_2 a0_3 a0_4 a0_5 t1396 t1397 t1400 t1403 t1404 t1405 t1419 t1420 t1423 t1426 t1427 t1428 = some r) ∧ Aside0 (kq ≤ kj11) ∧ Aside0 (Kd.R (Kd.int .i64) 3 wc w.heap.size (fun k_ => some k_ ≠ ((.slice Ao32 t1409.length co32) : Value).ownBlock ∧ some k_ ≠ ((.slice Ao40 t1420.length co40) : Value).ownBlock) (.slice Ao24 t1397.length co24) t1397) ∧ Aside0 (Kd.R k67 67 wc w.heap.size (fun k_ => some k_ ≠ ((.slice Ao33 t1412.length co33) : Value).ownBlock ∧ some k_ ≠ ((.slice Ao41 t1423.length co41) : Value).ownBlock) (.slice Ao25 t1400.length co25) t1400) ∧ Aside0 (Kd.Q (Kd.int .i64) 3 wc w.heap.size (fun k_ => some k_ ≠ ((.slice Ao24 t1397.length co24) : Value).ownBlock ∧ some k_ ≠ ((.slice Ao40 t1420.length co40) : Value).ownBlock) (.slice Ao32 t1409.length co32) t1444) ∧ Aside0 (Kd.R k67 67 wc w.heap.size (fun k_ => some k_ ≠ ((.slice Ao25 t1400.length co25) : Value).ownBlock ∧ some k_ ≠ ((.slice Ao41 t1423.length co41) : Value).ownBlock) (.slice Ao33 t1412.length co33) t1445) ∧ Aside0 (Kd.Q (Kd.int .i64) 3 wc w.heap.size (fun k_ => some k_ ≠ ((.slice Ao24 t1397.length co24) : Value).ownBlock ∧ some k_ ≠ ((.slice Ao32 t1409.length co32) : Value).ownBlock) (.slice Ao40 t1420.length co40) t1420) ∧ Aside0 (Kd.R k67 67 wc w.heap.size (fun k_ => some k_ ≠ ((.slice Ao25 t1400.length co25) : Value).ownBlock ∧ some k_ ≠ ((.slice Ao33 t1412.length co33) : Value).ownBlock) (.slice Ao41 t1423.length co41) t1423) ∧ Aside0 (wc.heap[gb1384]? = some (.cells #[.bool a0_0, (.slice A0_1 l0_1.length c0_1), (.slice A0_2 l0_2.length c0_2), .int .i64 a0_3, .int .i64 a0_4, .int .i64 a0_5] 33 (0, 0))) ∧ Aside0 (wc.heap[gb1407]? = some (.cells #[.bool t1396, (.slice Ao24 t1397.length co24), (.slice Ao25 t1400.length co25), .int .i64 t1403, .int .i64 t1404, .int .i64 t1405] 38 (0, 0))) ∧ Aside0 (wc.heap[gb1418]? = some (.cells #[.bool t1408, (.slice Ao32 t1409.length co32), (.slice Ao33 t1412.length co33), .int .i64 t1415, .int .i64 t1416, .int .i64 t1417] 38 (0, 0))) ∧ Aside0 (wc.heap[gb1430]? = some (.cells #[.bool t1419, (.slice Ao40 t1420.length co40), (.slice Ao41 t1423.length co41), .int .i64 t1426, .int .i64 t1427, .int .i64 t1428] 38 (0, 0))) ∧ Aside0 (Below w.heap.size w wc))
      case first =>
       have H := HC57.out
       clear HC57
       by_cases c68 : t1443 < 0
       ·rw [if_pos c68] at H
        have c68b0 : decide (t1443 < 0) = true := decide_eq_true c68
        clear c68
        (first | rw [c68b0] | (simp only [i64_w, i32_w]; rw [c68b0]) | skip)
        cases kj11 with
        | zero => exact absurd H (by simp [laws_FnExactAwait.j1])
        | succ k_ => (simp only [laws_FnExactAwait.j1, if_pos] at H; exact absurd (Option.some.inj H) (by rw [HQ_.out]; simp))
       ·rw [if_neg c68] at H
        have c68b0 : decide (t1443 < 0) = false := decide_eq_false c68
        clear c68
        (first | rw [c68b0] | (simp only [i64_w, i32_w]; rw [c68b0]) | skip)
        replace H := Option.bind_eq_some_iff.mp H
        obtain ⟨t1446, A690, H⟩ := H
        replace H : (if t1446 = true then (laws_FnExactAwait.j1 kj11 a1 t1406 (t1429 != t1406) a0_0 l0_1 l0_2 a0_3 a0_4 a0_5 t1396 t1397 t1400 t1403 t1404 t1405 t1419 t1420 t1423 t1426 t1427 t1428) else (laws_FnExactAwait.j1 kj11 a1 t1406 true a0_0 l0_1 l0_2 a0_3 a0_4 a0_5 t1396 t1397 t1400 t1403 t1404 t1405 t1419 t1420 t1423 t1426 t1427 t1428)) = some r := H
        have A69 := am A690
        clear A690
        by_cases c70 : t1446 = true
        ·subst c70
         replace H : (laws_FnExactAwait.j1 kj11 a1 t1406 (t1429 != t1406) a0_0 l0_1 l0_2 a0_3 a0_4 a0_5 t1396 t1397 t1400 t1403 t1404 t1405 t1419 t1420 t1423 t1426 t1427 t1428) = some r := by rw [if_pos rfl] at H; exact H
         have H' := am H
         clear H
         have hnb71 := NB1430_1384.out
         have hnc71 := NB1384_1430.out
         have hnb72 := NB1430_1407.out
         have hnc72 := NB1407_1430.out
         have hnb73 := NB1430_1418.out
         have hnc73 := NB1418_1430.out
         obtain ⟨hcz74_0, hcz74_1, hcz74_2, hcz74_3, hcz74_4, hcz74_5, hfz74_0, hfz74_1, hfz74_2, hfz74_3, hfz74_4, hfz74_5⟩ := bk6 BK1430.out
         have hnb75 := NB1407_1384.out
         have hnc75 := NB1384_1407.out
         have hnb76 := NB1407_1418.out
         have hnc76 := NB1418_1407.out
         obtain ⟨hcz77_0, hcz77_1, hcz77_2, hcz77_3, hcz77_4, hcz77_5, hfz77_0, hfz77_1, hfz77_2, hfz77_3, hfz77_4, hfz77_5⟩ := bk6 BK1407.out
         go_wp2_with (first | (go_at_call 23; (with_reducible refine (laws_eqNotify.calls kj11 t1419 _ _ t1420 _ _ t1423 t1426 t1427 t1428 t1396 _ _ t1397 _ _ t1400 t1403 t1404 t1405 true _ ?side1 ?side2 ?side3 ?side4 ?side5 ?side6 ?side7 ?side8 A69.out).mono ?_); (case side1 => repeat (first | exact (Kd.Q_reads' HO_1431001.out).2.2 | (with_reducible refine Kd.C_alloc ?_ _) | (with_reducible refine Kd.C_drewN ?_ _) | (with_reducible refine Kd.C_drew ?_))); (case side2 => exact (Kd.Q_reads' HO_1431001.out).2.1); (case side3 => exact pkC (Kd.R_reads' HO_1431002.out).2.2); (case side4 => exact (Kd.R_reads' HO_1431002.out).2.1); (case side5 => exact pkC (Kd.R_reads' HO_1408001.out).2.2); (case side6 => exact (Kd.R_reads' HO_1408001.out).2.1); (case side7 => exact pkC (Kd.R_reads' HO_1408002.out).2.2); (case side8 => exact (Kd.R_reads' HO_1408002.out).2.1); rintro e w78 ⟨rfl, hb⟩; replace HO_1408001 := am (Kd.R_below (pkR HO_1408001.out) hb); replace HO_1408002 := am (Kd.R_below (pkR HO_1408002.out) hb); replace HO_1419001 := am (Kd.Q_below (pkQ HO_1419001.out) hb); replace HO_1419002 := am (Kd.R_below (pkR HO_1419002.out) hb); replace HO_1431001 := am (Kd.Q_below (pkQ HO_1431001.out) hb); replace HO_1431002 := am (Kd.R_below (pkR HO_1431002.out) hb); replace HO1435 := am (Kd.R_below (pkR HO1435.out) hb); replace HO1438 := am (Kd.R_below (pkR HO1438.out) hb); replace BK1384 := am (blk_below (pkK BK1384.out) hb); replace BK1407 := am (blk_below (pkK BK1407.out) hb); replace BK1418 := am (blk_below (pkK BK1418.out) hb); replace BK1430 := am (blk_below (pkK BK1430.out) hb); replace HB := am (below_step (pkW HB.out) hb); (try clear hb)))
         go_meet
         case rel => exact ⟨_, ((t1429 != t1406)), rfx, H', ⟨by have := HJ11.out; first | omega | exact Nat.le_refl _⟩, ⟨by (with_reducible repeat (first | apply Kd.R_alloc | apply Kd.R_drewN | apply Kd.R_drew)); exact Kd.R_mono HO_1408001.out (fun _ hk => ⟨hk.1, hk.2.1⟩)⟩, ⟨by (with_reducible repeat (first | apply Kd.R_alloc | apply Kd.R_drewN | apply Kd.R_drew)); exact Kd.R_mono HO_1408002.out (fun _ hk => ⟨hk.1, hk.2.1⟩)⟩, ⟨by (with_reducible repeat (first | apply Kd.Q_alloc | apply Kd.Q_drewN | apply Kd.Q_drew)); exact Kd.Q_mono HO_1419001.out (fun _ hk => ⟨hk.1.1, hk.1.2⟩)⟩, ⟨by (with_reducible repeat (first | apply Kd.R_alloc | apply Kd.R_drewN | apply Kd.R_drew)); exact Kd.R_mono HO_1419002.out (fun _ hk => ⟨hk.1.1, hk.1.2⟩)⟩, ⟨by (with_reducible repeat (first | apply Kd.Q_alloc | apply Kd.Q_drewN | apply Kd.Q_drew)); exact Kd.Q_mono HO_1431001.out (fun _ hk => ⟨hk.1, hk.2.1⟩)⟩, ⟨by (with_reducible repeat (first | apply Kd.R_alloc | apply Kd.R_drewN | apply Kd.R_drew)); exact Kd.R_mono HO_1431002.out (fun _ hk => ⟨hk.1, hk.2.1⟩)⟩, ⟨pkK BK1384.out⟩, ⟨pkK BK1407.out⟩, ⟨pkK BK1418.out⟩, ⟨pkK BK1430.out⟩, ⟨pkW HB.out⟩⟩
        ·replace c70 := Bool.eq_false_iff.mpr c70
         subst c70
         replace H : (laws_FnExactAwait.j1 kj11 a1 t1406 true a0_0 l0_1 l0_2 a0_3 a0_4 a0_5 t1396 t1397 t1400 t1403 t1404 t1405 t1419 t1420 t1423 t1426 t1427 t1428) = some r := by rw [if_neg (show ¬ (false = true) by decide)] at H; exact H
         cases kj11 with
         | zero => exact absurd H (by simp [laws_FnExactAwait.j1])
         | succ k_ => (simp only [laws_FnExactAwait.j1, if_pos] at H; exact absurd (Option.some.inj H) (by rw [HQ_.out]; simp))
      case rest =>
       clear HC57
       try clear c1
       try clear c2
       try clear p2
       try clear c3
       try clear c4
       try clear c4b0
       try clear c5
       try clear c6
       try clear c7
       try clear c11
       try clear c19
       try clear c21
       try clear c22
       try clear c23
       try clear c29
       try clear c30
       try clear c35
       try clear c36
       try clear c37
       try clear c38
       try clear c43
       try clear c44
       try clear c45
       try clear c46
       try clear c48
       try clear c49
       try clear c52
       try clear c55
       try clear c63
       try clear c64
       try clear c65
       try clear c68
       try clear c68b0
       try clear c70
       try clear c71
       try clear c72
       try clear c73
       try clear c75
       try clear c76
       try clear hcz14_0
       try clear hcz14_1
       try clear hcz14_2
       try clear hcz14_3
       try clear hcz14_4
       try clear hcz14_5
       try clear hcz16_0
       try clear hcz16_1
       try clear hcz16_2
       try clear hcz16_3
       try clear hcz16_4
       try clear hcz16_5
       try clear hcz23_0
       try clear hcz23_1
       try clear hcz23_2
       try clear hcz23_3
       try clear hcz23_4
       try clear hcz23_5
       try clear hcz26_0
       try clear hcz26_1
       try clear hcz26_2
       try clear hcz26_3
       try clear hcz26_4
       try clear hcz26_5
       try clear hcz31_0
       try clear hcz31_1
       try clear hcz31_2
       try clear hcz31_3
       try clear hcz31_4
       try clear hcz31_5
       try clear hcz39_0
       try clear hcz39_1
       try clear hcz39_2
       try clear hcz39_3
       try clear hcz39_4
       try clear hcz39_5
       try clear hcz47_0
       try clear hcz47_1
       try clear hcz47_2
       try clear hcz47_3
       try clear hcz47_4
       try clear hcz47_5
       try clear hcz50_0
       try clear hcz50_1
       try clear hcz50_2
       try clear hcz50_3
       try clear hcz50_4
       try clear hcz50_5
       try clear hcz66_0
       try clear hcz66_1
       try clear hcz66_2
       try clear hcz66_3
       try clear hcz66_4
       try clear hcz66_5
       try clear hcz6_0
       try clear hcz6_1
       try clear hcz6_2
       try clear hcz6_3
       try clear hcz6_4
       try clear hcz6_5
       try clear hcz74_0
       try clear hcz74_1
       try clear hcz74_2
       try clear hcz74_3
       try clear hcz74_4
       try clear hcz74_5
       try clear hcz77_0
       try clear hcz77_1
       try clear hcz77_2
       try clear hcz77_3
       try clear hcz77_4
       try clear hcz77_5
       try clear hfz14_0
       try clear hfz14_1
       try clear hfz14_2
       try clear hfz14_3
       try clear hfz14_4
       try clear hfz14_5
       try clear hfz16_0
       try clear hfz16_1
       try clear hfz16_2
       try clear hfz16_3
       try clear hfz16_4
       try clear hfz16_5
       try clear hfz23_0
       try clear hfz23_1
       try clear hfz23_2
       try clear hfz23_3
       try clear hfz23_4
       try clear hfz23_5
       try clear hfz26_0
       try clear hfz26_1
       try clear hfz26_2
       try clear hfz26_3
       try clear hfz26_4
       try clear hfz26_5
       try clear hfz31_0
       try clear hfz31_1
       try clear hfz31_2
       try clear hfz31_3
       try clear hfz31_4
       try clear hfz31_5
       try clear hfz39_0
       try clear hfz39_1
       try clear hfz39_2
       try clear hfz39_3
       try clear hfz39_4
       try clear hfz39_5
       try clear hfz47_0
       try clear hfz47_1
       try clear hfz47_2
       try clear hfz47_3
       try clear hfz47_4
       try clear hfz47_5
       try clear hfz50_0
       try clear hfz50_1
       try clear hfz50_2
       try clear hfz50_3
       try clear hfz50_4
       try clear hfz50_5
       try clear hfz66_0
       try clear hfz66_1
       try clear hfz66_2
       try clear hfz66_3
       try clear hfz66_4
       try clear hfz66_5
       try clear hfz6_0
       try clear hfz6_1
       try clear hfz6_2
       try clear hfz6_3
       try clear hfz6_4
       try clear hfz6_5
       try clear hfz74_0
       try clear hfz74_1
       try clear hfz74_2
       try clear hfz74_3
       try clear hfz74_4
       try clear hfz74_5
       try clear hfz77_0
       try clear hfz77_1
       try clear hfz77_2
       try clear hfz77_3
       try clear hfz77_4
       try clear hfz77_5
       try clear p2
       obtain ⟨kq, x65_56, rfl, HA, HJ56, HO_1408001, HO_1408002, HO_1419001, HO_1419002, HO_1431001, HO_1431002, BK1384, BK1407, BK1418, BK1430, HB⟩ := hcut
       have hl1419001_56 := (Kd.Q_reads' HO_1419001.out).1
       rw [hl1419001_56] at HO_1419001
       (try simp only [hl1419001_56])
       (try simp only [hl1419001_56] at BK1384)
       (try simp only [hl1419001_56] at BK1407)
       (try simp only [hl1419001_56] at BK1418)
       (try simp only [hl1419001_56] at BK1430)
       (try simp only [hl1419001_56] at HO_1408001)
       (try simp only [hl1419001_56] at HO_1408002)
       (try simp only [hl1419001_56] at HO_1419002)
       (try simp only [hl1419001_56] at HO_1431001)
       (try simp only [hl1419001_56] at HO_1431002)
       have hl1419002_56 := (Kd.R_reads' HO_1419002.out).1
       rw [hl1419002_56] at HO_1419002
       (try simp only [hl1419002_56])
       (try simp only [hl1419002_56] at BK1384)
       (try simp only [hl1419002_56] at BK1407)
       (try simp only [hl1419002_56] at BK1418)
       (try simp only [hl1419002_56] at BK1430)
       (try simp only [hl1419002_56] at HO_1408001)
       (try simp only [hl1419002_56] at HO_1408002)
       (try simp only [hl1419002_56] at HO_1419001)
       (try simp only [hl1419002_56] at HO_1431001)
       (try simp only [hl1419002_56] at HO_1431002)
       cases kq with
       | zero => exact absurd HA.out (by simp [laws_FnExactAwait.j1])
       | succ kj56 =>
        have H := HA.out
        clear HA
        simp only [laws_FnExactAwait.j1] at H
        by_cases c79 : x65_56 = true
        ·subst c79
         replace H : (some false) = some r := by rw [if_pos rfl] at H; exact H
         exact absurd (Option.some.inj H) (by rw [HQ_.out]; simp)
        ·replace c79 := Bool.eq_false_iff.mpr c79
         subst c79
         replace H : ((laws_markNotify.f kj56 t1419 t1420 t1423 t1426 t1427 t1428 1).bind fun bt1447 => ((laws_heldNotify.f kj56 t1419 bt1447.2.1 bt1447.2.2 t1426 t1427 t1428 1).bind fun t1450 => (if t1450 < 0 then (some false) else (if t1450 = bt1447.1 then ((laws_toNotify.f kj56 a0_0 l0_1 l0_2 a0_3 a0_4 a0_5).bind fun bt1451 => ((impl_Await.f kj56 bt1451.1 bt1451.2.1 bt1451.2.2.1 bt1451.2.2.2.1 bt1451.2.2.2.2.1 bt1451.2.2.2.2.2 a1).bind fun bt1461 => ((laws_eqNotify.f kj56 bt1461.1 bt1461.2.1 bt1461.2.2.1 bt1461.2.2.2.1 bt1461.2.2.2.2.1 bt1461.2.2.2.2.2.1 t1396 t1397 t1400 t1403 t1404 t1405).bind fun t1473 => (if t1473 = true then (laws_FnExactAwait.j2 kj56 bt1447.1 (bt1461.2.2.2.2.2.2 != t1406) t1419 bt1447.2.1 bt1447.2.2 t1426 t1427 t1428) else (laws_FnExactAwait.j2 kj56 bt1447.1 true t1419 bt1447.2.1 bt1447.2.2 t1426 t1427 t1428))))) else (some false))))) = some r := by rw [if_neg (show ¬ (false = true) by decide)] at H; exact H
         replace H := Option.bind_eq_some_iff.mp H
         obtain ⟨⟨t1447, t1448, t1449⟩, A800, H⟩ := H
         replace H : ((laws_heldNotify.f kj56 t1419 t1448 t1449 t1426 t1427 t1428 1).bind fun t1450 => (if t1450 < 0 then (some false) else (if t1450 = t1447 then ((laws_toNotify.f kj56 a0_0 l0_1 l0_2 a0_3 a0_4 a0_5).bind fun bt1451 => ((impl_Await.f kj56 bt1451.1 bt1451.2.1 bt1451.2.2.1 bt1451.2.2.2.1 bt1451.2.2.2.2.1 bt1451.2.2.2.2.2 a1).bind fun bt1461 => ((laws_eqNotify.f kj56 bt1461.1 bt1461.2.1 bt1461.2.2.1 bt1461.2.2.2.1 bt1461.2.2.2.2.1 bt1461.2.2.2.2.2.1 t1396 t1397 t1400 t1403 t1404 t1405).bind fun t1473 => (if t1473 = true then (laws_FnExactAwait.j2 kj56 t1447 (bt1461.2.2.2.2.2.2 != t1406) t1419 t1448 t1449 t1426 t1427 t1428) else (laws_FnExactAwait.j2 kj56 t1447 true t1419 t1448 t1449 t1426 t1427 t1428))))) else (some false)))) = some r := H
         have A80 := am A800
         clear A800
         replace H := Option.bind_eq_some_iff.mp H
         obtain ⟨t1450, A810, H⟩ := H
         replace H : (if t1450 < 0 then (some false) else (if t1450 = t1447 then ((laws_toNotify.f kj56 a0_0 l0_1 l0_2 a0_3 a0_4 a0_5).bind fun bt1451 => ((impl_Await.f kj56 bt1451.1 bt1451.2.1 bt1451.2.2.1 bt1451.2.2.2.1 bt1451.2.2.2.2.1 bt1451.2.2.2.2.2 a1).bind fun bt1461 => ((laws_eqNotify.f kj56 bt1461.1 bt1461.2.1 bt1461.2.2.1 bt1461.2.2.2.1 bt1461.2.2.2.2.1 bt1461.2.2.2.2.2.1 t1396 t1397 t1400 t1403 t1404 t1405).bind fun t1473 => (if t1473 = true then (laws_FnExactAwait.j2 kj56 t1447 (bt1461.2.2.2.2.2.2 != t1406) t1419 t1448 t1449 t1426 t1427 t1428) else (laws_FnExactAwait.j2 kj56 t1447 true t1419 t1448 t1449 t1426 t1427 t1428))))) else (some false))) = some r := H
         have A81 := am A810
         clear A810
         by_cases c82 : t1450 < 0
         ·rw [if_pos c82] at H
          have c82b0 : decide (t1450 < 0) = true := decide_eq_true c82
          clear c82
          exact absurd (Option.some.inj H) (by rw [HQ_.out]; simp)
         ·rw [if_neg c82] at H
          have c82b0 : decide (t1450 < 0) = false := decide_eq_false c82
          clear c82
          by_cases c83 : t1450 = t1447
          ·rw [if_pos c83] at H
           have c83b0 : (t1450 == t1447) = true := beq_iff_eq.mpr c83
           have c83b1 : (t1450 != t1447) = false := bne_eq_false_iff_eq.mpr c83
           clear c83
           replace H := Option.bind_eq_some_iff.mp H
           obtain ⟨⟨t1451, t1452, t1455, t1458, t1459, t1460⟩, A840, H⟩ := H
           replace H : ((impl_Await.f kj56 t1451 t1452 t1455 t1458 t1459 t1460 a1).bind fun bt1461 => ((laws_eqNotify.f kj56 bt1461.1 bt1461.2.1 bt1461.2.2.1 bt1461.2.2.2.1 bt1461.2.2.2.2.1 bt1461.2.2.2.2.2.1 t1396 t1397 t1400 t1403 t1404 t1405).bind fun t1473 => (if t1473 = true then (laws_FnExactAwait.j2 kj56 t1447 (bt1461.2.2.2.2.2.2 != t1406) t1419 t1448 t1449 t1426 t1427 t1428) else (laws_FnExactAwait.j2 kj56 t1447 true t1419 t1448 t1449 t1426 t1427 t1428)))) = some r := H
           have A84 := am A840
           clear A840
           replace H := Option.bind_eq_some_iff.mp H
           obtain ⟨⟨t1461, t1462, t1465, t1468, t1469, t1470, t1471⟩, A850, H⟩ := H
           replace H : ((laws_eqNotify.f kj56 t1461 t1462 t1465 t1468 t1469 t1470 t1396 t1397 t1400 t1403 t1404 t1405).bind fun t1473 => (if t1473 = true then (laws_FnExactAwait.j2 kj56 t1447 (t1471 != t1406) t1419 t1448 t1449 t1426 t1427 t1428) else (laws_FnExactAwait.j2 kj56 t1447 true t1419 t1448 t1449 t1426 t1427 t1428))) = some r := H
           have A85 := am A850
           clear A850
           have HC86 := am H
           clear H
           have hnb87 := NB1430_1384.out
           have hnc87 := NB1384_1430.out
           have hnb88 := NB1430_1407.out
           have hnc88 := NB1407_1430.out
           have hnb89 := NB1430_1418.out
           have hnc89 := NB1418_1430.out
           obtain ⟨hcz90_0, hcz90_1, hcz90_2, hcz90_3, hcz90_4, hcz90_5, hfz90_0, hfz90_1, hfz90_2, hfz90_3, hfz90_4, hfz90_5⟩ := bk6 BK1430.out
           go_upto_region 25 with (first | ((with_reducible refine gate_callee (f := 35) rfl ?_); refine goesL_ (some 68) rfl rfl Try.func35 (by kernel_rfl) rfl #[.agg #[.bool t1419, .slice Ao40 t1420.length co40, .slice Ao41 t1423.length co41, .int .i64 t1426, .int .i64 t1427, .int .i64 t1428], .int .i64 1] rfl mpx ?_; (with_reducible refine (laws_markNotify.calls kj56 t1419 (fun k_ => some k_ = (.slice Ao40 t1420.length co40 : Value).ownBlock) (.slice Ao40 t1420.length co40) t1420 (fun k_ => some k_ = (.slice Ao41 t1423.length co41 : Value).ownBlock) (.slice Ao41 t1423.length co41) t1423 t1426 t1427 t1428 1 t1447 t1448 t1449 w _ ?side1 ?side2 ?side3 A80.out).mono ?_); (case side1 => repeat (first | (with_reducible first | exact HB.out | apply below_alloc | apply pw_below_drewN | apply below_drew1 | refine below_set ?_ GE1384.out | refine below_set ?_ GE1407.out | refine below_set ?_ GE1418.out | refine below_set ?_ GE1430.out) | exact HB.out)); (case side2 => exact Kd.Q_tight rfl HO_1431001.out); (case side3 => exact Kd.R_tight rfl HO_1431002.out); rintro e w91 ⟨rfl, hy0, hy1, hb, hkp⟩; refine ⟨_, rfl, ?_⟩; replace HO_1408001 := am (Kd.R_mono (ok' := fun k_ => some k_ ≠ (.slice Ao32 t1444.length co32 : Value).ownBlock ∧ some k_ ≠ (.slice Ao40 t1420.length co40 : Value).ownBlock) (Kd.R_keptB ((Kd.R_apart' HO_1408001.out (Kd.R_typed HO_1431002.out) (by decide))) hkp (fun k_ hk_ hs_ => Or.elim hs_ (fun e_ => (hk_.1.2) e_) (fun e_ => (hk_.2) e_))) (fun k_ hk_ => ⟨hk_.1.1.1, hk_.1.1.2⟩)); replace HO_1408002 := am (Kd.R_mono (ok' := fun k_ => some k_ ≠ (.slice Ao33 t1445.length co33 : Value).ownBlock ∧ some k_ ≠ (.slice Ao41 t1423.length co41 : Value).ownBlock) (Kd.R_keptB ((Kd.R_apart' HO_1408002.out (Kd.Q_typed HO_1431001.out) (by decide))) hkp (fun k_ hk_ hs_ => Or.elim hs_ (fun e_ => (hk_.2) e_) (fun e_ => (hk_.1.2) e_))) (fun k_ hk_ => ⟨hk_.1.1.1, hk_.1.1.2⟩)); replace HO_1419001 := am (Kd.Q_mono (ok' := fun k_ => some k_ ≠ (.slice Ao24 t1397.length co24 : Value).ownBlock ∧ some k_ ≠ (.slice Ao40 t1420.length co40 : Value).ownBlock) (Kd.Q_keptB ((Kd.Q_apart' HO_1419001.out (Kd.R_typed HO_1431002.out) (by decide))) hkp (fun k_ hk_ hs_ => Or.elim hs_ (fun e_ => (hk_.1.2) e_) (fun e_ => (hk_.2) e_))) (fun k_ hk_ => ⟨hk_.1.1.1, hk_.1.1.2⟩)); replace HO_1419002 := am (Kd.R_mono (ok' := fun k_ => some k_ ≠ (.slice Ao25 t1400.length co25 : Value).ownBlock ∧ some k_ ≠ (.slice Ao41 t1423.length co41 : Value).ownBlock) (Kd.R_keptB ((Kd.R_apart' HO_1419002.out (Kd.Q_typed HO_1431001.out) (by decide))) hkp (fun k_ hk_ hs_ => Or.elim hs_ (fun e_ => (hk_.2) e_) (fun e_ => (hk_.1.2) e_))) (fun k_ hk_ => ⟨hk_.1.1.1, hk_.1.1.2⟩)); replace BK1384 := am (blk_kept (pkK BK1384.out) hkp (fun hs_ => Or.elim hs_ (fun e_ => (fun e_ => (Kd.Q_ne HO_1431001.out BK1384.out (by decide)) e_) e_) (fun e_ => (fun e_ => (Kd.R_ne HO_1431002.out BK1384.out (by decide)) e_) e_))); replace BK1407 := am (blk_kept (pkK BK1407.out) hkp (fun hs_ => Or.elim hs_ (fun e_ => (fun e_ => (Kd.Q_ne HO_1431001.out BK1407.out (by decide)) e_) e_) (fun e_ => (fun e_ => (Kd.R_ne HO_1431002.out BK1407.out (by decide)) e_) e_))); replace BK1418 := am (blk_kept (pkK BK1418.out) hkp (fun hs_ => Or.elim hs_ (fun e_ => (fun e_ => (Kd.Q_ne HO_1431001.out BK1418.out (by decide)) e_) e_) (fun e_ => (fun e_ => (Kd.R_ne HO_1431002.out BK1418.out (by decide)) e_) e_))); replace BK1430 := am (blk_kept (pkK BK1430.out) hkp (fun hs_ => Or.elim hs_ (fun e_ => (fun e_ => (Kd.Q_ne HO_1431001.out BK1430.out (by decide)) e_) e_) (fun e_ => (fun e_ => (Kd.R_ne HO_1431002.out BK1430.out (by decide)) e_) e_))); replace HO_1431001 := am (Kd.Q_reok rfl hy0 (fun k_ e_ => HO_1431001.out.1 k_ e_)); replace HO_1431002 := am (Kd.R_reok rfl hy1 (fun k_ e_ => HO_1431002.out.1 k_ e_)); replace HB := am (hb); (try clear hb); (try clear hkp); (try clear hy0); (try clear hy1); obtain ⟨hcz92_0, hcz92_1, hcz92_2, hcz92_3, hcz92_4, hcz92_5, hfz92_0, hfz92_1, hfz92_2, hfz92_3, hfz92_4, hfz92_5⟩ := bk6 BK1430.out) | ((with_reducible refine gate_callee (f := 37) rfl ?_); refine goesL_ (some 71) rfl rfl Try.func37 (by kernel_rfl) rfl #[.agg #[.bool t1419, .slice Ao40 t1448.length co40, .slice Ao41 t1449.length co41, .int .i64 t1426, .int .i64 t1427, .int .i64 t1428], .int .i64 1] rfl (by (try simp only [List.map_toArray, List.map_cons, List.map_nil]); first | done | (rw [show t1448.length = t1420.length from (Kd.Q_reads' HO_1431001.out).1.symm, show t1449.length = t1423.length from (Kd.R_reads' HO_1431002.out).1.symm] <;> rfl) | rfl | (simp only [List.length_drop, List.length_take]; rfl) | (go_simp; done) | (simp [*]; done)) ?_; (with_reducible refine (laws_heldNotify.calls kj56 t1419 _ _ t1448 _ _ t1449 t1426 t1427 t1428 1 t1450 _ ?side1 ?side2 ?side3 ?side4 A81.out).mono ?_); (case side1 => repeat (first | exact (Kd.Q_reads' HO_1431001.out).2.2 | (with_reducible refine Kd.C_alloc ?_ _) | (with_reducible refine Kd.C_drewN ?_ _) | (with_reducible refine Kd.C_drew ?_))); (case side2 => rw [show t1448.length = t1420.length from (Kd.Q_reads' HO_1431001.out).1.symm]; exact (Kd.Q_reads' HO_1431001.out).2.1); (case side3 => exact pkC (Kd.R_reads' HO_1431002.out).2.2); (case side4 => rw [show t1449.length = t1423.length from (Kd.R_reads' HO_1431002.out).1.symm]; exact (Kd.R_reads' HO_1431002.out).2.1); rintro e w93 ⟨rfl, hb⟩; refine ⟨_, rfl, ?_⟩; replace HO_1408001 := am (Kd.R_below (pkR HO_1408001.out) hb); replace HO_1408002 := am (Kd.R_below (pkR HO_1408002.out) hb); replace HO_1419001 := am (Kd.Q_below (pkQ HO_1419001.out) hb); replace HO_1419002 := am (Kd.R_below (pkR HO_1419002.out) hb); replace HO_1431001 := am (Kd.Q_below (pkQ HO_1431001.out) hb); replace HO_1431002 := am (Kd.R_below (pkR HO_1431002.out) hb); replace BK1384 := am (blk_below (pkK BK1384.out) hb); replace BK1407 := am (blk_below (pkK BK1407.out) hb); replace BK1418 := am (blk_below (pkK BK1418.out) hb); replace BK1430 := am (blk_below (pkK BK1430.out) hb); replace HB := am (below_step (pkW HB.out) hb); (try clear hb); have hnb94 := NB1384_1407.out; have hnc94 := NB1407_1384.out; have hnb95 := NB1384_1418.out; have hnc95 := NB1418_1384.out; obtain ⟨hcz96_0, hcz96_1, hcz96_2, hcz96_3, hcz96_4, hcz96_5, hfz96_0, hfz96_1, hfz96_2, hfz96_3, hfz96_4, hfz96_5⟩ := bk6 BK1384.out) | ((with_reducible refine gate_callee (f := 21) rfl ?_); refine goesL_ (some 79) rfl rfl Try.func21 (by kernel_rfl) rfl #[.agg #[.bool a0_0, .slice A0_1 l0_1.length c0_1, .slice A0_2 l0_2.length c0_2, .int .i64 a0_3, .int .i64 a0_4, .int .i64 a0_5]] rfl mpx ?_; (with_reducible refine (laws_toNotify.calls kj56 a0_0 _ _ l0_1 _ _ l0_2 a0_3 a0_4 a0_5 t1451 t1452 t1455 t1458 t1459 t1460 _ ?side1 ?side2 ?side3 ?side4 A84.out).mono ?_); (case side1 => exact pkC (Kd.C_below HR0_1.out HB.out)); (case side2 => exact HC0_1.out); (case side3 => exact pkC (Kd.C_below HR0_2.out HB.out)); (case side4 => exact HC0_2.out); rintro e w97 ⟨v1453, v1456, rfl, ho0, ho1, hb⟩; refine ⟨_, rfl, ?_⟩; have HO1454 := am (Kd.R_lower (Kd.R_new' (Kd.R_new' (Kd.R_new' ho0 (Kd.R_lt (pkR HO_1408001.out))) (Kd.Q_lt (pkQ HO_1419001.out))) (Kd.Q_lt (pkQ HO_1431001.out))) (below_size (pkW HB.out))); replace HO_1408001 := am (Kd.R_elder' (pkR HO_1408001.out) (Kd.R_base ho0) hb); replace HO_1419001 := am (Kd.Q_elder' (pkQ HO_1419001.out) (Kd.R_base ho0) hb); replace HO_1431001 := am (Kd.Q_elder' (pkQ HO_1431001.out) (Kd.R_base ho0) hb); have HO1457 := am (Kd.R_lower (Kd.R_new' (Kd.R_new' (Kd.R_new' ho1 (Kd.R_lt (pkR HO_1408002.out))) (Kd.R_lt (pkR HO_1419002.out))) (Kd.R_lt (pkR HO_1431002.out))) (below_size (pkW HB.out))); replace HO_1408002 := am (Kd.R_elder' (pkR HO_1408002.out) (Kd.R_base ho1) hb); replace HO_1419002 := am (Kd.R_elder' (pkR HO_1419002.out) (Kd.R_base ho1) hb); replace HO_1431002 := am (Kd.R_elder' (pkR HO_1431002.out) (Kd.R_base ho1) hb); replace BK1384 := am (blk_below (pkK BK1384.out) hb); replace BK1407 := am (blk_below (pkK BK1407.out) hb); replace BK1418 := am (blk_below (pkK BK1418.out) hb); replace BK1430 := am (blk_below (pkK BK1430.out) hb); replace HB := am (below_step (pkW HB.out) hb); (try clear hb ho0 ho1); obtain ⟨Ao98, co98, eo98⟩ := Kd.R_slice HO1454.out; subst eo98; obtain ⟨Ao99, co99, eo99⟩ := Kd.R_slice HO1457.out; subst eo99) | ((with_reducible refine gate_callee (f := 44) rfl ?_); refine goesL_ (some 81) rfl rfl Try.func44 (by kernel_rfl) rfl #[.agg #[.bool t1451, .slice Ao98 t1452.length co98, .slice Ao99 t1455.length co99, .int .i64 t1458, .int .i64 t1459, .int .i64 t1460], .int .i64 a1] rfl mpx ?_; (with_reducible refine (impl_Await.calls kj56 t1451 _ _ t1452 _ _ t1455 t1458 t1459 t1460 a1 t1461 t1462 t1465 t1468 t1469 t1470 t1471 _ ?side1 ?side2 ?side3 ?side4 A85.out).mono ?_); (case side1 => exact pkC (Kd.R_reads' HO1454.out).2.2); (case side2 => exact (Kd.R_reads' HO1454.out).2.1); (case side3 => exact pkC (Kd.R_reads' HO1457.out).2.2); (case side4 => exact (Kd.R_reads' HO1457.out).2.1); rintro e w100 ⟨v1463, v1466, rfl, ho0, ho1, hb⟩; refine ⟨_, rfl, ?_⟩; have HO1464 := am (Kd.R_lower (Kd.R_new' (Kd.R_new' (Kd.R_new' (Kd.R_new' ho0 (Kd.R_lt (pkR HO_1408001.out))) (Kd.Q_lt (pkQ HO_1419001.out))) (Kd.Q_lt (pkQ HO_1431001.out))) (Kd.R_lt (pkR HO1454.out))) (below_size (pkW HB.out))); replace HO_1408001 := am (Kd.R_elder' (pkR HO_1408001.out) (Kd.R_base ho0) hb); replace HO_1419001 := am (Kd.Q_elder' (pkQ HO_1419001.out) (Kd.R_base ho0) hb); replace HO_1431001 := am (Kd.Q_elder' (pkQ HO_1431001.out) (Kd.R_base ho0) hb); replace HO1454 := am (Kd.R_elder' (pkR HO1454.out) (Kd.R_base ho0) hb); have HO1467 := am (Kd.R_lower (Kd.R_new' (Kd.R_new' (Kd.R_new' (Kd.R_new' ho1 (Kd.R_lt (pkR HO_1408002.out))) (Kd.R_lt (pkR HO_1419002.out))) (Kd.R_lt (pkR HO_1431002.out))) (Kd.R_lt (pkR HO1457.out))) (below_size (pkW HB.out))); replace HO_1408002 := am (Kd.R_elder' (pkR HO_1408002.out) (Kd.R_base ho1) hb); replace HO_1419002 := am (Kd.R_elder' (pkR HO_1419002.out) (Kd.R_base ho1) hb); replace HO_1431002 := am (Kd.R_elder' (pkR HO_1431002.out) (Kd.R_base ho1) hb); replace HO1457 := am (Kd.R_elder' (pkR HO1457.out) (Kd.R_base ho1) hb); replace BK1384 := am (blk_below (pkK BK1384.out) hb); replace BK1407 := am (blk_below (pkK BK1407.out) hb); replace BK1418 := am (blk_below (pkK BK1418.out) hb); replace BK1430 := am (blk_below (pkK BK1430.out) hb); replace HB := am (below_step (pkW HB.out) hb); (try clear hb ho0 ho1)) | ((with_reducible refine gate_dst (N := 14) rfl ?_); refine box_event ?hg (N := 14) ?hd (cs := #[.bool false, .slice none 0 0, .slice none 0 0, .int .i64 0, .int .i64 0, .int .i64 0]) (t := 38) ?hr ?_; (case hd => rfl); (case hg => rfl); (case hr => first | (go_simp; done) | (go_simp; rfl)); intro gb1472 hg w101 hbox hb; replace HO_1408001 := am (Kd.R_below (pkR HO_1408001.out) hb); replace HO_1408002 := am (Kd.R_below (pkR HO_1408002.out) hb); replace HO_1419001 := am (Kd.Q_below (pkQ HO_1419001.out) hb); replace HO_1419002 := am (Kd.R_below (pkR HO_1419002.out) hb); replace HO_1431001 := am (Kd.Q_below (pkQ HO_1431001.out) hb); replace HO_1431002 := am (Kd.R_below (pkR HO_1431002.out) hb); replace HO1454 := am (Kd.R_below (pkR HO1454.out) hb); replace HO1457 := am (Kd.R_below (pkR HO1457.out) hb); replace HO1464 := am (Kd.R_below (pkR HO1464.out) hb); replace HO1467 := am (Kd.R_below (pkR HO1467.out) hb); have BK1472 := am (hbox); have GW1472 := am ((by rw [hg]; exact (below_size (pkW HB.out)) : w.heap.size ≤ gb1472)); have GE1472 := am ((by rw [hg]; exact (below_size (pkW HB.out)) : w.heap.size ≤ gb1472)); replace HB := am (below_step (pkW HB.out) hb); have NB1384_1472 := am ((by rw [hg]; exact Nat.ne_of_lt (blk_lt (g := gb1384) (o := .cells #[.bool a0_0, .slice A0_1 l0_1.length c0_1, .slice A0_2 l0_2.length c0_2, .int .i64 a0_3, .int .i64 a0_4, .int .i64 a0_5] 33 (0, 0)) (pkK BK1384.out)) : gb1384 ≠ gb1472)); have NB1472_1384 := am ((by rw [hg]; exact Nat.ne_of_gt (blk_lt (g := gb1384) (o := .cells #[.bool a0_0, .slice A0_1 l0_1.length c0_1, .slice A0_2 l0_2.length c0_2, .int .i64 a0_3, .int .i64 a0_4, .int .i64 a0_5] 33 (0, 0)) (pkK BK1384.out)) : gb1472 ≠ gb1384)); replace BK1384 := am (blk_below (pkK BK1384.out) hb); have NB1407_1472 := am ((by rw [hg]; exact Nat.ne_of_lt (blk_lt (g := gb1407) (o := .cells #[.bool t1396, .slice Ao24 t1397.length co24, .slice Ao25 t1400.length co25, .int .i64 t1403, .int .i64 t1404, .int .i64 t1405] 38 (0, 0)) (pkK BK1407.out)) : gb1407 ≠ gb1472)); have NB1472_1407 := am ((by rw [hg]; exact Nat.ne_of_gt (blk_lt (g := gb1407) (o := .cells #[.bool t1396, .slice Ao24 t1397.length co24, .slice Ao25 t1400.length co25, .int .i64 t1403, .int .i64 t1404, .int .i64 t1405] 38 (0, 0)) (pkK BK1407.out)) : gb1472 ≠ gb1407)); replace BK1407 := am (blk_below (pkK BK1407.out) hb); have NB1418_1472 := am ((by rw [hg]; exact Nat.ne_of_lt (blk_lt (g := gb1418) (o := .cells #[.bool t1408, .slice Ao32 t1444.length co32, .slice Ao33 t1445.length co33, .int .i64 t1415, .int .i64 t1416, .int .i64 t1417] 38 (0, 0)) (pkK BK1418.out)) : gb1418 ≠ gb1472)); have NB1472_1418 := am ((by rw [hg]; exact Nat.ne_of_gt (blk_lt (g := gb1418) (o := .cells #[.bool t1408, .slice Ao32 t1444.length co32, .slice Ao33 t1445.length co33, .int .i64 t1415, .int .i64 t1416, .int .i64 t1417] 38 (0, 0)) (pkK BK1418.out)) : gb1472 ≠ gb1418)); replace BK1418 := am (blk_below (pkK BK1418.out) hb); have NB1430_1472 := am ((by rw [hg]; exact Nat.ne_of_lt (blk_lt (g := gb1430) (o := .cells #[.bool t1419, .slice Ao40 t1420.length co40, .slice Ao41 t1423.length co41, .int .i64 t1426, .int .i64 t1427, .int .i64 t1428] 38 (0, 0)) (pkK BK1430.out)) : gb1430 ≠ gb1472)); have NB1472_1430 := am ((by rw [hg]; exact Nat.ne_of_gt (blk_lt (g := gb1430) (o := .cells #[.bool t1419, .slice Ao40 t1420.length co40, .slice Ao41 t1423.length co41, .int .i64 t1426, .int .i64 t1427, .int .i64 t1428] 38 (0, 0)) (pkK BK1430.out)) : gb1472 ≠ gb1430)); replace BK1430 := am (blk_below (pkK BK1430.out) hb); clear hb hbox hg; have hnb102 := NB1472_1384.out; have hnc102 := NB1384_1472.out; have hnb103 := NB1472_1407.out; have hnc103 := NB1407_1472.out; have hnb104 := NB1472_1418.out; have hnc104 := NB1418_1472.out; have hnb105 := NB1472_1430.out; have hnc105 := NB1430_1472.out; obtain ⟨hcz106_0, hcz106_1, hcz106_2, hcz106_3, hcz106_4, hcz106_5, hfz106_0, hfz106_1, hfz106_2, hfz106_3, hfz106_4, hfz106_5⟩ := bk6 BK1472.out; obtain ⟨Ao107, co107, eo107⟩ := Kd.R_slice HO1464.out; subst eo107; obtain ⟨Ao108, co108, eo108⟩ := Kd.R_slice HO1467.out; subst eo108))
           (try simp only [Act.put, List.setIfInBounds_toArray, List.set_cons_zero, List.set_cons_succ])
           go_cut [92] (fun v92 wc => ∃ (kq : Nat) (x92_85 : Bool), v92 = .bool x92_85 ∧ Aside0 (laws_FnExactAwait.j2 kq t1447 x92_85 t1419 t1448 t1449 t1426 t1427 t1428 = some r) ∧ Aside0 (kq ≤ kj56) ∧ Aside0 (Kd.R (Kd.int .i64) 3 wc w.heap.size (fun k_ => some k_ ≠ ((.slice Ao32 t1444.length co32) : Value).ownBlock ∧ some k_ ≠ ((.slice Ao40 t1420.length co40) : Value).ownBlock ∧ some k_ ≠ ((.slice Ao107 t1462.length co107) : Value).ownBlock) (.slice Ao24 t1397.length co24) t1397) ∧ Aside0 (Kd.R k67 67 wc w.heap.size (fun k_ => some k_ ≠ ((.slice Ao33 t1445.length co33) : Value).ownBlock ∧ some k_ ≠ ((.slice Ao41 t1423.length co41) : Value).ownBlock ∧ some k_ ≠ ((.slice Ao108 t1465.length co108) : Value).ownBlock) (.slice Ao25 t1400.length co25) t1400) ∧ Aside0 (Kd.Q (Kd.int .i64) 3 wc w.heap.size (fun k_ => some k_ ≠ ((.slice Ao24 t1397.length co24) : Value).ownBlock ∧ some k_ ≠ ((.slice Ao40 t1420.length co40) : Value).ownBlock ∧ some k_ ≠ ((.slice Ao107 t1462.length co107) : Value).ownBlock) (.slice Ao32 t1444.length co32) t1444) ∧ Aside0 (Kd.R k67 67 wc w.heap.size (fun k_ => some k_ ≠ ((.slice Ao25 t1400.length co25) : Value).ownBlock ∧ some k_ ≠ ((.slice Ao41 t1423.length co41) : Value).ownBlock ∧ some k_ ≠ ((.slice Ao108 t1465.length co108) : Value).ownBlock) (.slice Ao33 t1445.length co33) t1445) ∧ Aside0 (Kd.Q (Kd.int .i64) 3 wc w.heap.size (fun k_ => some k_ ≠ ((.slice Ao24 t1397.length co24) : Value).ownBlock ∧ some k_ ≠ ((.slice Ao32 t1444.length co32) : Value).ownBlock ∧ some k_ ≠ ((.slice Ao107 t1462.length co107) : Value).ownBlock) (.slice Ao40 t1420.length co40) t1448) ∧ Aside0 (Kd.R k67 67 wc w.heap.size (fun k_ => some k_ ≠ ((.slice Ao25 t1400.length co25) : Value).ownBlock ∧ some k_ ≠ ((.slice Ao33 t1445.length co33) : Value).ownBlock ∧ some k_ ≠ ((.slice Ao108 t1465.length co108) : Value).ownBlock) (.slice Ao41 t1423.length co41) t1449) ∧ Aside0 (Kd.R (Kd.int .i64) 3 wc w.heap.size (fun k_ => some k_ ≠ ((.slice Ao24 t1397.length co24) : Value).ownBlock ∧ some k_ ≠ ((.slice Ao32 t1444.length co32) : Value).ownBlock ∧ some k_ ≠ ((.slice Ao40 t1420.length co40) : Value).ownBlock) (.slice Ao107 t1462.length co107) t1462) ∧ Aside0 (Kd.R k67 67 wc w.heap.size (fun k_ => some k_ ≠ ((.slice Ao25 t1400.length co25) : Value).ownBlock ∧ some k_ ≠ ((.slice Ao33 t1445.length co33) : Value).ownBlock ∧ some k_ ≠ ((.slice Ao41 t1423.length co41) : Value).ownBlock) (.slice Ao108 t1465.length co108) t1465) ∧ Aside0 (wc.heap[gb1384]? = some (.cells #[.bool a0_0, (.slice A0_1 l0_1.length c0_1), (.slice A0_2 l0_2.length c0_2), .int .i64 a0_3, .int .i64 a0_4, .int .i64 a0_5] 33 (0, 0))) ∧ Aside0 (wc.heap[gb1407]? = some (.cells #[.bool t1396, (.slice Ao24 t1397.length co24), (.slice Ao25 t1400.length co25), .int .i64 t1403, .int .i64 t1404, .int .i64 t1405] 38 (0, 0))) ∧ Aside0 (wc.heap[gb1418]? = some (.cells #[.bool t1408, (.slice Ao32 t1444.length co32), (.slice Ao33 t1445.length co33), .int .i64 t1415, .int .i64 t1416, .int .i64 t1417] 38 (0, 0))) ∧ Aside0 (wc.heap[gb1430]? = some (.cells #[.bool t1419, (.slice Ao40 t1420.length co40), (.slice Ao41 t1423.length co41), .int .i64 t1426, .int .i64 t1427, .int .i64 t1428] 38 (0, 0))) ∧ Aside0 (wc.heap[gb1472]? = some (.cells #[.bool t1461, (.slice Ao107 t1462.length co107), (.slice Ao108 t1465.length co108), .int .i64 t1468, .int .i64 t1469, .int .i64 t1470] 38 (0, 0))) ∧ Aside0 (Below w.heap.size w wc))
           case first =>
            have H := HC86.out
            clear HC86
            replace H := Option.bind_eq_some_iff.mp H
            obtain ⟨t1473, A1090, H⟩ := H
            replace H : (if t1473 = true then (laws_FnExactAwait.j2 kj56 t1447 (t1471 != t1406) t1419 t1448 t1449 t1426 t1427 t1428) else (laws_FnExactAwait.j2 kj56 t1447 true t1419 t1448 t1449 t1426 t1427 t1428)) = some r := H
            have A109 := am A1090
            clear A1090
            by_cases c110 : t1473 = true
            ·subst c110
             replace H : (laws_FnExactAwait.j2 kj56 t1447 (t1471 != t1406) t1419 t1448 t1449 t1426 t1427 t1428) = some r := by rw [if_pos rfl] at H; exact H
             have H' := am H
             clear H
             have hnb111 := NB1472_1384.out
             have hnc111 := NB1384_1472.out
             have hnb112 := NB1472_1407.out
             have hnc112 := NB1407_1472.out
             have hnb113 := NB1472_1418.out
             have hnc113 := NB1418_1472.out
             have hnb114 := NB1472_1430.out
             have hnc114 := NB1430_1472.out
             obtain ⟨hcz115_0, hcz115_1, hcz115_2, hcz115_3, hcz115_4, hcz115_5, hfz115_0, hfz115_1, hfz115_2, hfz115_3, hfz115_4, hfz115_5⟩ := bk6 BK1472.out
             have hnb116 := NB1407_1384.out
             have hnc116 := NB1384_1407.out
             have hnb117 := NB1407_1418.out
             have hnc117 := NB1418_1407.out
             have hnb118 := NB1407_1430.out
             have hnc118 := NB1430_1407.out
             obtain ⟨hcz119_0, hcz119_1, hcz119_2, hcz119_3, hcz119_4, hcz119_5, hfz119_0, hfz119_1, hfz119_2, hfz119_3, hfz119_4, hfz119_5⟩ := bk6 BK1407.out
             go_wp2_with (first | ((with_reducible refine gate_callee (f := 23) rfl ?_); refine goesL_ (some 86) rfl rfl Try.func23 (by kernel_rfl) rfl #[.agg #[.bool t1461, .slice Ao107 t1462.length co107, .slice Ao108 t1465.length co108, .int .i64 t1468, .int .i64 t1469, .int .i64 t1470], .agg #[.bool t1396, .slice Ao24 t1397.length co24, .slice Ao25 t1400.length co25, .int .i64 t1403, .int .i64 t1404, .int .i64 t1405]] rfl mpx ?_; (with_reducible refine (laws_eqNotify.calls kj56 t1461 _ _ t1462 _ _ t1465 t1468 t1469 t1470 t1396 _ _ t1397 _ _ t1400 t1403 t1404 t1405 true _ ?side1 ?side2 ?side3 ?side4 ?side5 ?side6 ?side7 ?side8 A109.out).mono ?_); (case side1 => refine (Kd.R_reads' (e := 3) (base := w.heap.size) (ok := fun k_ => ((((True ∧ some k_ ≠ (.slice Ao24 t1397.length co24 : Value).ownBlock) ∧ some k_ ≠ (.slice Ao32 t1444.length co32 : Value).ownBlock) ∧ some k_ ≠ (.slice Ao40 t1420.length co40 : Value).ownBlock) ∧ some k_ ≠ (.slice Ao98 t1452.length co98 : Value).ownBlock)) (n := t1462.length) (c := co107) ?_).2.2; exact (by (with_reducible repeat (first | apply Kd.R_alloc | apply Kd.R_drewN | apply Kd.R_drew)); exact (Kd.R_mono (Kd.R_far (p := ⟨gb1472, 5, none⟩) (Kd.R_far (p := ⟨gb1472, 4, none⟩) (Kd.R_far (p := ⟨gb1472, 3, none⟩) (Kd.R_far (p := ⟨gb1472, 2, none⟩) (Kd.R_far (p := ⟨gb1472, 1, none⟩) (Kd.R_far (p := ⟨gb1472, 0, none⟩) (Kd.R_types HO1464.out BK1472.out (by decide)) (fun _ hk => hk.2) (.bool t1461)) (fun _ hk => hk.2) (.slice Ao107 t1462.length co107)) (fun _ hk => hk.2) (.slice Ao108 t1465.length co108)) (fun _ hk => hk.2) (.int .i64 t1468)) (fun _ hk => hk.2) (.int .i64 t1469)) (fun _ hk => hk.2) (.int .i64 t1470)) (fun _ h_ => h_.1)))); (case side2 => exact (Kd.R_reads' HO1464.out).2.1); (case side3 => refine (Kd.R_reads' (e := 67) (base := w.heap.size) (ok := fun k_ => ((((True ∧ some k_ ≠ (.slice Ao25 t1400.length co25 : Value).ownBlock) ∧ some k_ ≠ (.slice Ao33 t1445.length co33 : Value).ownBlock) ∧ some k_ ≠ (.slice Ao41 t1423.length co41 : Value).ownBlock) ∧ some k_ ≠ (.slice Ao99 t1455.length co99 : Value).ownBlock)) (n := t1465.length) (c := co108) ?_).2.2; exact (by (with_reducible repeat (first | apply Kd.R_alloc | apply Kd.R_drewN | apply Kd.R_drew)); exact (Kd.R_mono (Kd.R_far (p := ⟨gb1472, 5, none⟩) (Kd.R_far (p := ⟨gb1472, 4, none⟩) (Kd.R_far (p := ⟨gb1472, 3, none⟩) (Kd.R_far (p := ⟨gb1472, 2, none⟩) (Kd.R_far (p := ⟨gb1472, 1, none⟩) (Kd.R_far (p := ⟨gb1472, 0, none⟩) (Kd.R_types HO1467.out BK1472.out (by decide)) (fun _ hk => hk.2) (.bool t1461)) (fun _ hk => hk.2) (.slice Ao107 t1462.length co107)) (fun _ hk => hk.2) (.slice Ao108 t1465.length co108)) (fun _ hk => hk.2) (.int .i64 t1468)) (fun _ hk => hk.2) (.int .i64 t1469)) (fun _ hk => hk.2) (.int .i64 t1470)) (fun _ h_ => h_.1)))); (case side4 => exact (Kd.R_reads' HO1467.out).2.1); (case side5 => refine (Kd.R_reads' (e := 3) (base := w.heap.size) (ok := fun k_ => (((some k_ ≠ (.slice Ao32 t1444.length co32 : Value).ownBlock ∧ some k_ ≠ (.slice Ao40 t1420.length co40 : Value).ownBlock) ∧ some k_ ≠ (.slice Ao98 t1452.length co98 : Value).ownBlock) ∧ some k_ ≠ (.slice Ao107 t1462.length co107 : Value).ownBlock)) (n := t1397.length) (c := co24) ?_).2.2; exact (by (with_reducible repeat (first | apply Kd.R_alloc | apply Kd.R_drewN | apply Kd.R_drew)); exact (Kd.R_mono (Kd.R_far (p := ⟨gb1472, 5, none⟩) (Kd.R_far (p := ⟨gb1472, 4, none⟩) (Kd.R_far (p := ⟨gb1472, 3, none⟩) (Kd.R_far (p := ⟨gb1472, 2, none⟩) (Kd.R_far (p := ⟨gb1472, 1, none⟩) (Kd.R_far (p := ⟨gb1472, 0, none⟩) (Kd.R_types HO_1408001.out BK1472.out (by decide)) (fun _ hk => hk.2) (.bool t1461)) (fun _ hk => hk.2) (.slice Ao107 t1462.length co107)) (fun _ hk => hk.2) (.slice Ao108 t1465.length co108)) (fun _ hk => hk.2) (.int .i64 t1468)) (fun _ hk => hk.2) (.int .i64 t1469)) (fun _ hk => hk.2) (.int .i64 t1470)) (fun _ h_ => h_.1)))); (case side6 => exact (Kd.R_reads' HO_1408001.out).2.1); (case side7 => refine (Kd.R_reads' (e := 67) (base := w.heap.size) (ok := fun k_ => (((some k_ ≠ (.slice Ao33 t1445.length co33 : Value).ownBlock ∧ some k_ ≠ (.slice Ao41 t1423.length co41 : Value).ownBlock) ∧ some k_ ≠ (.slice Ao99 t1455.length co99 : Value).ownBlock) ∧ some k_ ≠ (.slice Ao108 t1465.length co108 : Value).ownBlock)) (n := t1400.length) (c := co25) ?_).2.2; exact (by (with_reducible repeat (first | apply Kd.R_alloc | apply Kd.R_drewN | apply Kd.R_drew)); exact (Kd.R_mono (Kd.R_far (p := ⟨gb1472, 5, none⟩) (Kd.R_far (p := ⟨gb1472, 4, none⟩) (Kd.R_far (p := ⟨gb1472, 3, none⟩) (Kd.R_far (p := ⟨gb1472, 2, none⟩) (Kd.R_far (p := ⟨gb1472, 1, none⟩) (Kd.R_far (p := ⟨gb1472, 0, none⟩) (Kd.R_types HO_1408002.out BK1472.out (by decide)) (fun _ hk => hk.2) (.bool t1461)) (fun _ hk => hk.2) (.slice Ao107 t1462.length co107)) (fun _ hk => hk.2) (.slice Ao108 t1465.length co108)) (fun _ hk => hk.2) (.int .i64 t1468)) (fun _ hk => hk.2) (.int .i64 t1469)) (fun _ hk => hk.2) (.int .i64 t1470)) (fun _ h_ => h_.1)))); (case side8 => exact (Kd.R_reads' HO_1408002.out).2.1); rintro e w120 ⟨rfl, hb⟩; refine ⟨_, rfl, ?_⟩; replace HO_1408001 := am (Kd.R_below (by (with_reducible repeat (first | apply Kd.R_alloc | apply Kd.R_drewN | apply Kd.R_drew)); exact (Kd.R_mono (Kd.R_far (p := ⟨gb1472, 5, none⟩) (Kd.R_far (p := ⟨gb1472, 4, none⟩) (Kd.R_far (p := ⟨gb1472, 3, none⟩) (Kd.R_far (p := ⟨gb1472, 2, none⟩) (Kd.R_far (p := ⟨gb1472, 1, none⟩) (Kd.R_far (p := ⟨gb1472, 0, none⟩) (Kd.R_types HO_1408001.out BK1472.out (by decide)) (fun _ hk => hk.2) (.bool t1461)) (fun _ hk => hk.2) (.slice Ao107 t1462.length co107)) (fun _ hk => hk.2) (.slice Ao108 t1465.length co108)) (fun _ hk => hk.2) (.int .i64 t1468)) (fun _ hk => hk.2) (.int .i64 t1469)) (fun _ hk => hk.2) (.int .i64 t1470)) (fun _ h_ => h_.1))) hb); replace HO_1408002 := am (Kd.R_below (by (with_reducible repeat (first | apply Kd.R_alloc | apply Kd.R_drewN | apply Kd.R_drew)); exact (Kd.R_mono (Kd.R_far (p := ⟨gb1472, 5, none⟩) (Kd.R_far (p := ⟨gb1472, 4, none⟩) (Kd.R_far (p := ⟨gb1472, 3, none⟩) (Kd.R_far (p := ⟨gb1472, 2, none⟩) (Kd.R_far (p := ⟨gb1472, 1, none⟩) (Kd.R_far (p := ⟨gb1472, 0, none⟩) (Kd.R_types HO_1408002.out BK1472.out (by decide)) (fun _ hk => hk.2) (.bool t1461)) (fun _ hk => hk.2) (.slice Ao107 t1462.length co107)) (fun _ hk => hk.2) (.slice Ao108 t1465.length co108)) (fun _ hk => hk.2) (.int .i64 t1468)) (fun _ hk => hk.2) (.int .i64 t1469)) (fun _ hk => hk.2) (.int .i64 t1470)) (fun _ h_ => h_.1))) hb); replace HO_1419001 := am (Kd.Q_below (by (with_reducible repeat (first | apply Kd.Q_alloc | apply Kd.Q_drewN | apply Kd.Q_drew)); exact (Kd.Q_mono (Kd.Q_far (p := ⟨gb1472, 5, none⟩) (Kd.Q_far (p := ⟨gb1472, 4, none⟩) (Kd.Q_far (p := ⟨gb1472, 3, none⟩) (Kd.Q_far (p := ⟨gb1472, 2, none⟩) (Kd.Q_far (p := ⟨gb1472, 1, none⟩) (Kd.Q_far (p := ⟨gb1472, 0, none⟩) (Kd.Q_types HO_1419001.out BK1472.out (by decide)) (fun _ hk => hk.2) (.bool t1461)) (fun _ hk => hk.2) (.slice Ao107 t1462.length co107)) (fun _ hk => hk.2) (.slice Ao108 t1465.length co108)) (fun _ hk => hk.2) (.int .i64 t1468)) (fun _ hk => hk.2) (.int .i64 t1469)) (fun _ hk => hk.2) (.int .i64 t1470)) (fun _ h_ => h_.1))) hb); replace HO_1419002 := am (Kd.R_below (by (with_reducible repeat (first | apply Kd.R_alloc | apply Kd.R_drewN | apply Kd.R_drew)); exact (Kd.R_mono (Kd.R_far (p := ⟨gb1472, 5, none⟩) (Kd.R_far (p := ⟨gb1472, 4, none⟩) (Kd.R_far (p := ⟨gb1472, 3, none⟩) (Kd.R_far (p := ⟨gb1472, 2, none⟩) (Kd.R_far (p := ⟨gb1472, 1, none⟩) (Kd.R_far (p := ⟨gb1472, 0, none⟩) (Kd.R_types HO_1419002.out BK1472.out (by decide)) (fun _ hk => hk.2) (.bool t1461)) (fun _ hk => hk.2) (.slice Ao107 t1462.length co107)) (fun _ hk => hk.2) (.slice Ao108 t1465.length co108)) (fun _ hk => hk.2) (.int .i64 t1468)) (fun _ hk => hk.2) (.int .i64 t1469)) (fun _ hk => hk.2) (.int .i64 t1470)) (fun _ h_ => h_.1))) hb); replace HO_1431001 := am (Kd.Q_below (by (with_reducible repeat (first | apply Kd.Q_alloc | apply Kd.Q_drewN | apply Kd.Q_drew)); exact (Kd.Q_mono (Kd.Q_far (p := ⟨gb1472, 5, none⟩) (Kd.Q_far (p := ⟨gb1472, 4, none⟩) (Kd.Q_far (p := ⟨gb1472, 3, none⟩) (Kd.Q_far (p := ⟨gb1472, 2, none⟩) (Kd.Q_far (p := ⟨gb1472, 1, none⟩) (Kd.Q_far (p := ⟨gb1472, 0, none⟩) (Kd.Q_types HO_1431001.out BK1472.out (by decide)) (fun _ hk => hk.2) (.bool t1461)) (fun _ hk => hk.2) (.slice Ao107 t1462.length co107)) (fun _ hk => hk.2) (.slice Ao108 t1465.length co108)) (fun _ hk => hk.2) (.int .i64 t1468)) (fun _ hk => hk.2) (.int .i64 t1469)) (fun _ hk => hk.2) (.int .i64 t1470)) (fun _ h_ => h_.1))) hb); replace HO_1431002 := am (Kd.R_below (by (with_reducible repeat (first | apply Kd.R_alloc | apply Kd.R_drewN | apply Kd.R_drew)); exact (Kd.R_mono (Kd.R_far (p := ⟨gb1472, 5, none⟩) (Kd.R_far (p := ⟨gb1472, 4, none⟩) (Kd.R_far (p := ⟨gb1472, 3, none⟩) (Kd.R_far (p := ⟨gb1472, 2, none⟩) (Kd.R_far (p := ⟨gb1472, 1, none⟩) (Kd.R_far (p := ⟨gb1472, 0, none⟩) (Kd.R_types HO_1431002.out BK1472.out (by decide)) (fun _ hk => hk.2) (.bool t1461)) (fun _ hk => hk.2) (.slice Ao107 t1462.length co107)) (fun _ hk => hk.2) (.slice Ao108 t1465.length co108)) (fun _ hk => hk.2) (.int .i64 t1468)) (fun _ hk => hk.2) (.int .i64 t1469)) (fun _ hk => hk.2) (.int .i64 t1470)) (fun _ h_ => h_.1))) hb); replace HO1454 := am (Kd.R_below (by (with_reducible repeat (first | apply Kd.R_alloc | apply Kd.R_drewN | apply Kd.R_drew)); exact (Kd.R_mono (Kd.R_far (p := ⟨gb1472, 5, none⟩) (Kd.R_far (p := ⟨gb1472, 4, none⟩) (Kd.R_far (p := ⟨gb1472, 3, none⟩) (Kd.R_far (p := ⟨gb1472, 2, none⟩) (Kd.R_far (p := ⟨gb1472, 1, none⟩) (Kd.R_far (p := ⟨gb1472, 0, none⟩) (Kd.R_types HO1454.out BK1472.out (by decide)) (fun _ hk => hk.2) (.bool t1461)) (fun _ hk => hk.2) (.slice Ao107 t1462.length co107)) (fun _ hk => hk.2) (.slice Ao108 t1465.length co108)) (fun _ hk => hk.2) (.int .i64 t1468)) (fun _ hk => hk.2) (.int .i64 t1469)) (fun _ hk => hk.2) (.int .i64 t1470)) (fun _ h_ => h_.1))) hb); replace HO1457 := am (Kd.R_below (by (with_reducible repeat (first | apply Kd.R_alloc | apply Kd.R_drewN | apply Kd.R_drew)); exact (Kd.R_mono (Kd.R_far (p := ⟨gb1472, 5, none⟩) (Kd.R_far (p := ⟨gb1472, 4, none⟩) (Kd.R_far (p := ⟨gb1472, 3, none⟩) (Kd.R_far (p := ⟨gb1472, 2, none⟩) (Kd.R_far (p := ⟨gb1472, 1, none⟩) (Kd.R_far (p := ⟨gb1472, 0, none⟩) (Kd.R_types HO1457.out BK1472.out (by decide)) (fun _ hk => hk.2) (.bool t1461)) (fun _ hk => hk.2) (.slice Ao107 t1462.length co107)) (fun _ hk => hk.2) (.slice Ao108 t1465.length co108)) (fun _ hk => hk.2) (.int .i64 t1468)) (fun _ hk => hk.2) (.int .i64 t1469)) (fun _ hk => hk.2) (.int .i64 t1470)) (fun _ h_ => h_.1))) hb); replace HO1464 := am (Kd.R_below (by (with_reducible repeat (first | apply Kd.R_alloc | apply Kd.R_drewN | apply Kd.R_drew)); exact (Kd.R_mono (Kd.R_far (p := ⟨gb1472, 5, none⟩) (Kd.R_far (p := ⟨gb1472, 4, none⟩) (Kd.R_far (p := ⟨gb1472, 3, none⟩) (Kd.R_far (p := ⟨gb1472, 2, none⟩) (Kd.R_far (p := ⟨gb1472, 1, none⟩) (Kd.R_far (p := ⟨gb1472, 0, none⟩) (Kd.R_types HO1464.out BK1472.out (by decide)) (fun _ hk => hk.2) (.bool t1461)) (fun _ hk => hk.2) (.slice Ao107 t1462.length co107)) (fun _ hk => hk.2) (.slice Ao108 t1465.length co108)) (fun _ hk => hk.2) (.int .i64 t1468)) (fun _ hk => hk.2) (.int .i64 t1469)) (fun _ hk => hk.2) (.int .i64 t1470)) (fun _ h_ => h_.1))) hb); replace HO1467 := am (Kd.R_below (by (with_reducible repeat (first | apply Kd.R_alloc | apply Kd.R_drewN | apply Kd.R_drew)); exact (Kd.R_mono (Kd.R_far (p := ⟨gb1472, 5, none⟩) (Kd.R_far (p := ⟨gb1472, 4, none⟩) (Kd.R_far (p := ⟨gb1472, 3, none⟩) (Kd.R_far (p := ⟨gb1472, 2, none⟩) (Kd.R_far (p := ⟨gb1472, 1, none⟩) (Kd.R_far (p := ⟨gb1472, 0, none⟩) (Kd.R_types HO1467.out BK1472.out (by decide)) (fun _ hk => hk.2) (.bool t1461)) (fun _ hk => hk.2) (.slice Ao107 t1462.length co107)) (fun _ hk => hk.2) (.slice Ao108 t1465.length co108)) (fun _ hk => hk.2) (.int .i64 t1468)) (fun _ hk => hk.2) (.int .i64 t1469)) (fun _ hk => hk.2) (.int .i64 t1470)) (fun _ h_ => h_.1))) hb); replace BK1384 := am (blk_below (g := gb1384) (o := .cells #[.bool a0_0, .slice A0_1 l0_1.length c0_1, .slice A0_2 l0_2.length c0_2, .int .i64 a0_3, .int .i64 a0_4, .int .i64 a0_5] 33 (0, 0)) (by (with_reducible repeat (first | refine blk_drewN ?_ _ | refine blk_drew ?_ | refine blk_alloc ?_ _)); refine blk_far ?_ NB1384_1472.out _; (with_reducible repeat (first | refine blk_drewN ?_ _ | refine blk_drew ?_ | refine blk_alloc ?_ _)); refine blk_far ?_ NB1384_1472.out _; (with_reducible repeat (first | refine blk_drewN ?_ _ | refine blk_drew ?_ | refine blk_alloc ?_ _)); refine blk_far ?_ NB1384_1472.out _; (with_reducible repeat (first | refine blk_drewN ?_ _ | refine blk_drew ?_ | refine blk_alloc ?_ _)); refine blk_far ?_ NB1384_1472.out _; (with_reducible repeat (first | refine blk_drewN ?_ _ | refine blk_drew ?_ | refine blk_alloc ?_ _)); refine blk_far ?_ NB1384_1472.out _; (with_reducible repeat (first | refine blk_drewN ?_ _ | refine blk_drew ?_ | refine blk_alloc ?_ _)); refine blk_far ?_ NB1384_1472.out _; exact pkK BK1384.out) hb); replace BK1407 := am (blk_below (g := gb1407) (o := .cells #[.bool t1396, .slice Ao24 t1397.length co24, .slice Ao25 t1400.length co25, .int .i64 t1403, .int .i64 t1404, .int .i64 t1405] 38 (0, 0)) (by (with_reducible repeat (first | refine blk_drewN ?_ _ | refine blk_drew ?_ | refine blk_alloc ?_ _)); refine blk_far ?_ NB1407_1472.out _; (with_reducible repeat (first | refine blk_drewN ?_ _ | refine blk_drew ?_ | refine blk_alloc ?_ _)); refine blk_far ?_ NB1407_1472.out _; (with_reducible repeat (first | refine blk_drewN ?_ _ | refine blk_drew ?_ | refine blk_alloc ?_ _)); refine blk_far ?_ NB1407_1472.out _; (with_reducible repeat (first | refine blk_drewN ?_ _ | refine blk_drew ?_ | refine blk_alloc ?_ _)); refine blk_far ?_ NB1407_1472.out _; (with_reducible repeat (first | refine blk_drewN ?_ _ | refine blk_drew ?_ | refine blk_alloc ?_ _)); refine blk_far ?_ NB1407_1472.out _; (with_reducible repeat (first | refine blk_drewN ?_ _ | refine blk_drew ?_ | refine blk_alloc ?_ _)); refine blk_far ?_ NB1407_1472.out _; exact pkK BK1407.out) hb); replace BK1418 := am (blk_below (g := gb1418) (o := .cells #[.bool t1408, .slice Ao32 t1444.length co32, .slice Ao33 t1445.length co33, .int .i64 t1415, .int .i64 t1416, .int .i64 t1417] 38 (0, 0)) (by (with_reducible repeat (first | refine blk_drewN ?_ _ | refine blk_drew ?_ | refine blk_alloc ?_ _)); refine blk_far ?_ NB1418_1472.out _; (with_reducible repeat (first | refine blk_drewN ?_ _ | refine blk_drew ?_ | refine blk_alloc ?_ _)); refine blk_far ?_ NB1418_1472.out _; (with_reducible repeat (first | refine blk_drewN ?_ _ | refine blk_drew ?_ | refine blk_alloc ?_ _)); refine blk_far ?_ NB1418_1472.out _; (with_reducible repeat (first | refine blk_drewN ?_ _ | refine blk_drew ?_ | refine blk_alloc ?_ _)); refine blk_far ?_ NB1418_1472.out _; (with_reducible repeat (first | refine blk_drewN ?_ _ | refine blk_drew ?_ | refine blk_alloc ?_ _)); refine blk_far ?_ NB1418_1472.out _; (with_reducible repeat (first | refine blk_drewN ?_ _ | refine blk_drew ?_ | refine blk_alloc ?_ _)); refine blk_far ?_ NB1418_1472.out _; exact pkK BK1418.out) hb); replace BK1430 := am (blk_below (g := gb1430) (o := .cells #[.bool t1419, .slice Ao40 t1420.length co40, .slice Ao41 t1423.length co41, .int .i64 t1426, .int .i64 t1427, .int .i64 t1428] 38 (0, 0)) (by (with_reducible repeat (first | refine blk_drewN ?_ _ | refine blk_drew ?_ | refine blk_alloc ?_ _)); refine blk_far ?_ NB1430_1472.out _; (with_reducible repeat (first | refine blk_drewN ?_ _ | refine blk_drew ?_ | refine blk_alloc ?_ _)); refine blk_far ?_ NB1430_1472.out _; (with_reducible repeat (first | refine blk_drewN ?_ _ | refine blk_drew ?_ | refine blk_alloc ?_ _)); refine blk_far ?_ NB1430_1472.out _; (with_reducible repeat (first | refine blk_drewN ?_ _ | refine blk_drew ?_ | refine blk_alloc ?_ _)); refine blk_far ?_ NB1430_1472.out _; (with_reducible repeat (first | refine blk_drewN ?_ _ | refine blk_drew ?_ | refine blk_alloc ?_ _)); refine blk_far ?_ NB1430_1472.out _; (with_reducible repeat (first | refine blk_drewN ?_ _ | refine blk_drew ?_ | refine blk_alloc ?_ _)); refine blk_far ?_ NB1430_1472.out _; exact pkK BK1430.out) hb); replace BK1472 := am (blk_below (g := gb1472) (o := .cells #[.bool t1461, .slice Ao107 t1462.length co107, .slice Ao108 t1465.length co108, .int .i64 t1468, .int .i64 t1469, .int .i64 t1470] 38 (0, 0)) (by (with_reducible repeat (first | refine blk_drewN ?_ _ | refine blk_drew ?_ | refine blk_alloc ?_ _)); refine blk_put (cs := #[.bool t1461, .slice Ao107 t1462.length co107, .slice Ao108 t1465.length co108, .int .i64 t1468, .int .i64 t1469, .int .i64 0]) ?_ 5 _ rfl; (with_reducible repeat (first | refine blk_drewN ?_ _ | refine blk_drew ?_ | refine blk_alloc ?_ _)); refine blk_put (cs := #[.bool t1461, .slice Ao107 t1462.length co107, .slice Ao108 t1465.length co108, .int .i64 t1468, .int .i64 0, .int .i64 0]) ?_ 4 _ rfl; (with_reducible repeat (first | refine blk_drewN ?_ _ | refine blk_drew ?_ | refine blk_alloc ?_ _)); refine blk_put (cs := #[.bool t1461, .slice Ao107 t1462.length co107, .slice Ao108 t1465.length co108, .int .i64 0, .int .i64 0, .int .i64 0]) ?_ 3 _ rfl; (with_reducible repeat (first | refine blk_drewN ?_ _ | refine blk_drew ?_ | refine blk_alloc ?_ _)); refine blk_put (cs := #[.bool t1461, .slice Ao107 t1462.length co107, .slice none 0 0, .int .i64 0, .int .i64 0, .int .i64 0]) ?_ 2 _ rfl; (with_reducible repeat (first | refine blk_drewN ?_ _ | refine blk_drew ?_ | refine blk_alloc ?_ _)); refine blk_put (cs := #[.bool t1461, .slice none 0 0, .slice none 0 0, .int .i64 0, .int .i64 0, .int .i64 0]) ?_ 1 _ rfl; (with_reducible repeat (first | refine blk_drewN ?_ _ | refine blk_drew ?_ | refine blk_alloc ?_ _)); refine blk_put (cs := #[.bool false, .slice none 0 0, .slice none 0 0, .int .i64 0, .int .i64 0, .int .i64 0]) ?_ 0 _ rfl; exact pkK BK1472.out) hb); replace HB := am (below_step (pkW HB.out) hb); (try clear hb)))
             go_meet
             case rel => exact ⟨_, ((t1471 != t1406)), rfx, H', ⟨by have := HJ11.out; have := HJ56.out; first | omega | exact Nat.le_refl _⟩, ⟨by (try simp only [hl1419001_56]); (try simp only [hl1419002_56]); (with_reducible repeat (first | apply Kd.R_alloc | apply Kd.R_drewN | apply Kd.R_drew)); exact Kd.R_mono HO_1408001.out (fun _ hk => ⟨hk.1.1.1, ⟨hk.1.1.2, hk.2⟩⟩)⟩, ⟨by (try simp only [hl1419001_56]); (try simp only [hl1419002_56]); (with_reducible repeat (first | apply Kd.R_alloc | apply Kd.R_drewN | apply Kd.R_drew)); exact Kd.R_mono HO_1408002.out (fun _ hk => ⟨hk.1.1.1, ⟨hk.1.1.2, hk.2⟩⟩)⟩, ⟨by (try simp only [hl1419001_56]); (try simp only [hl1419002_56]); (with_reducible repeat (first | apply Kd.Q_alloc | apply Kd.Q_drewN | apply Kd.Q_drew)); exact Kd.Q_mono HO_1419001.out (fun _ hk => ⟨hk.1.1.1, ⟨hk.1.1.2, hk.2⟩⟩)⟩, ⟨by (try simp only [hl1419001_56]); (try simp only [hl1419002_56]); (with_reducible repeat (first | apply Kd.R_alloc | apply Kd.R_drewN | apply Kd.R_drew)); exact Kd.R_mono HO_1419002.out (fun _ hk => ⟨hk.1.1.1, ⟨hk.1.1.2, hk.2⟩⟩)⟩, ⟨by (try simp only [hl1419001_56]); (try simp only [hl1419002_56]); (with_reducible repeat (first | apply Kd.Q_alloc | apply Kd.Q_drewN | apply Kd.Q_drew)); exact Kd.Q_mono HO_1431001.out (fun _ hk => ⟨hk.1.1.1, ⟨hk.1.1.2, hk.2⟩⟩)⟩, ⟨by (try simp only [hl1419001_56]); (try simp only [hl1419002_56]); (with_reducible repeat (first | apply Kd.R_alloc | apply Kd.R_drewN | apply Kd.R_drew)); exact Kd.R_mono HO_1431002.out (fun _ hk => ⟨hk.1.1.1, ⟨hk.1.1.2, hk.2⟩⟩)⟩, ⟨by (try simp only [hl1419001_56]); (try simp only [hl1419002_56]); (with_reducible repeat (first | apply Kd.R_alloc | apply Kd.R_drewN | apply Kd.R_drew)); exact Kd.R_mono HO1464.out (fun _ hk => ⟨hk.1.1.1.2, ⟨hk.1.1.2, hk.1.2⟩⟩)⟩, ⟨by (try simp only [hl1419001_56]); (try simp only [hl1419002_56]); (with_reducible repeat (first | apply Kd.R_alloc | apply Kd.R_drewN | apply Kd.R_drew)); exact Kd.R_mono HO1467.out (fun _ hk => ⟨hk.1.1.1.2, ⟨hk.1.1.2, hk.1.2⟩⟩)⟩, ⟨by (try simp only [hl1419001_56]); (try simp only [hl1419002_56]); exact pkK BK1384.out⟩, ⟨by (try simp only [hl1419001_56]); (try simp only [hl1419002_56]); exact pkK BK1407.out⟩, ⟨by (try simp only [hl1419001_56]); (try simp only [hl1419002_56]); exact pkK BK1418.out⟩, ⟨by (try simp only [hl1419001_56]); (try simp only [hl1419002_56]); exact pkK BK1430.out⟩, ⟨by (try simp only [hl1419001_56]); (try simp only [hl1419002_56]); exact pkK BK1472.out⟩, ⟨pkW HB.out⟩⟩
            ·replace c110 := Bool.eq_false_iff.mpr c110
             subst c110
             replace H : (laws_FnExactAwait.j2 kj56 t1447 true t1419 t1448 t1449 t1426 t1427 t1428) = some r := by rw [if_neg (show ¬ (false = true) by decide)] at H; exact H
             cases kj56 with
             | zero => exact absurd H (by simp [laws_FnExactAwait.j2])
             | succ k_ => (simp only [laws_FnExactAwait.j2, if_pos] at H; exact absurd (Option.some.inj H) (by rw [HQ_.out]; simp))
           case rest =>
            clear HC86
            try clear c1
            try clear c2
            try clear p2
            try clear c3
            try clear c4
            try clear c4b0
            try clear c5
            try clear c6
            try clear c7
            try clear c8
            try clear c9
            try clear c10
            try clear c11
            try clear c19
            try clear c21
            try clear c22
            try clear c23
            try clear c29
            try clear c30
            try clear c35
            try clear c36
            try clear c37
            try clear c38
            try clear c43
            try clear c44
            try clear c45
            try clear c46
            try clear c48
            try clear c49
            try clear c52
            try clear c55
            try clear c63
            try clear c64
            try clear c65
            try clear c68
            try clear c68b0
            try clear c70
            try clear c71
            try clear c72
            try clear c73
            try clear c75
            try clear c76
            try clear c79
            try clear c82
            try clear c82b0
            try clear c83
            try clear c83b0
            try clear c83b1
            try clear c87
            try clear c88
            try clear c89
            try clear c94
            try clear c95
            try clear c102
            try clear c103
            try clear c104
            try clear c105
            try clear c110
            try clear c111
            try clear c112
            try clear c113
            try clear c114
            try clear c116
            try clear c117
            try clear c118
            try clear hcz106_0
            try clear hcz106_1
            try clear hcz106_2
            try clear hcz106_3
            try clear hcz106_4
            try clear hcz106_5
            try clear hcz115_0
            try clear hcz115_1
            try clear hcz115_2
            try clear hcz115_3
            try clear hcz115_4
            try clear hcz115_5
            try clear hcz119_0
            try clear hcz119_1
            try clear hcz119_2
            try clear hcz119_3
            try clear hcz119_4
            try clear hcz119_5
            try clear hcz14_0
            try clear hcz14_1
            try clear hcz14_2
            try clear hcz14_3
            try clear hcz14_4
            try clear hcz14_5
            try clear hcz16_0
            try clear hcz16_1
            try clear hcz16_2
            try clear hcz16_3
            try clear hcz16_4
            try clear hcz16_5
            try clear hcz23_0
            try clear hcz23_1
            try clear hcz23_2
            try clear hcz23_3
            try clear hcz23_4
            try clear hcz23_5
            try clear hcz26_0
            try clear hcz26_1
            try clear hcz26_2
            try clear hcz26_3
            try clear hcz26_4
            try clear hcz26_5
            try clear hcz31_0
            try clear hcz31_1
            try clear hcz31_2
            try clear hcz31_3
            try clear hcz31_4
            try clear hcz31_5
            try clear hcz39_0
            try clear hcz39_1
            try clear hcz39_2
            try clear hcz39_3
            try clear hcz39_4
            try clear hcz39_5
            try clear hcz47_0
            try clear hcz47_1
            try clear hcz47_2
            try clear hcz47_3
            try clear hcz47_4
            try clear hcz47_5
            try clear hcz50_0
            try clear hcz50_1
            try clear hcz50_2
            try clear hcz50_3
            try clear hcz50_4
            try clear hcz50_5
            try clear hcz66_0
            try clear hcz66_1
            try clear hcz66_2
            try clear hcz66_3
            try clear hcz66_4
            try clear hcz66_5
            try clear hcz6_0
            try clear hcz6_1
            try clear hcz6_2
            try clear hcz6_3
            try clear hcz6_4
            try clear hcz6_5
            try clear hcz74_0
            try clear hcz74_1
            try clear hcz74_2
            try clear hcz74_3
            try clear hcz74_4
            try clear hcz74_5
            try clear hcz77_0
            try clear hcz77_1
            try clear hcz77_2
            try clear hcz77_3
            try clear hcz77_4
            try clear hcz77_5
            try clear hcz90_0
            try clear hcz90_1
            try clear hcz90_2
            try clear hcz90_3
            try clear hcz90_4
            try clear hcz90_5
            try clear hcz92_0
            try clear hcz92_1
            try clear hcz92_2
            try clear hcz92_3
            try clear hcz92_4
            try clear hcz92_5
            try clear hcz96_0
            try clear hcz96_1
            try clear hcz96_2
            try clear hcz96_3
            try clear hcz96_4
            try clear hcz96_5
            try clear hfz106_0
            try clear hfz106_1
            try clear hfz106_2
            try clear hfz106_3
            try clear hfz106_4
            try clear hfz106_5
            try clear hfz115_0
            try clear hfz115_1
            try clear hfz115_2
            try clear hfz115_3
            try clear hfz115_4
            try clear hfz115_5
            try clear hfz119_0
            try clear hfz119_1
            try clear hfz119_2
            try clear hfz119_3
            try clear hfz119_4
            try clear hfz119_5
            try clear hfz14_0
            try clear hfz14_1
            try clear hfz14_2
            try clear hfz14_3
            try clear hfz14_4
            try clear hfz14_5
            try clear hfz16_0
            try clear hfz16_1
            try clear hfz16_2
            try clear hfz16_3
            try clear hfz16_4
            try clear hfz16_5
            try clear hfz23_0
            try clear hfz23_1
            try clear hfz23_2
            try clear hfz23_3
            try clear hfz23_4
            try clear hfz23_5
            try clear hfz26_0
            try clear hfz26_1
            try clear hfz26_2
            try clear hfz26_3
            try clear hfz26_4
            try clear hfz26_5
            try clear hfz31_0
            try clear hfz31_1
            try clear hfz31_2
            try clear hfz31_3
            try clear hfz31_4
            try clear hfz31_5
            try clear hfz39_0
            try clear hfz39_1
            try clear hfz39_2
            try clear hfz39_3
            try clear hfz39_4
            try clear hfz39_5
            try clear hfz47_0
            try clear hfz47_1
            try clear hfz47_2
            try clear hfz47_3
            try clear hfz47_4
            try clear hfz47_5
            try clear hfz50_0
            try clear hfz50_1
            try clear hfz50_2
            try clear hfz50_3
            try clear hfz50_4
            try clear hfz50_5
            try clear hfz66_0
            try clear hfz66_1
            try clear hfz66_2
            try clear hfz66_3
            try clear hfz66_4
            try clear hfz66_5
            try clear hfz6_0
            try clear hfz6_1
            try clear hfz6_2
            try clear hfz6_3
            try clear hfz6_4
            try clear hfz6_5
            try clear hfz74_0
            try clear hfz74_1
            try clear hfz74_2
            try clear hfz74_3
            try clear hfz74_4
            try clear hfz74_5
            try clear hfz77_0
            try clear hfz77_1
            try clear hfz77_2
            try clear hfz77_3
            try clear hfz77_4
            try clear hfz77_5
            try clear hfz90_0
            try clear hfz90_1
            try clear hfz90_2
            try clear hfz90_3
            try clear hfz90_4
            try clear hfz90_5
            try clear hfz92_0
            try clear hfz92_1
            try clear hfz92_2
            try clear hfz92_3
            try clear hfz92_4
            try clear hfz92_5
            try clear hfz96_0
            try clear hfz96_1
            try clear hfz96_2
            try clear hfz96_3
            try clear hfz96_4
            try clear hfz96_5
            try clear p2
            obtain ⟨kq, x92_85, rfl, HA, HJ85, HO_1408001, HO_1408002, HO_1419001, HO_1419002, HO_1431001, HO_1431002, HO_1473001, HO_1473002, BK1384, BK1407, BK1418, BK1430, BK1472, HB⟩ := hcut
            have hl1431001_85 := (Kd.Q_reads' HO_1431001.out).1
            rw [hl1431001_85] at HO_1431001
            (try simp only [hl1431001_85])
            (try simp only [hl1431001_85] at BK1384)
            (try simp only [hl1431001_85] at BK1407)
            (try simp only [hl1431001_85] at BK1418)
            (try simp only [hl1431001_85] at BK1430)
            (try simp only [hl1431001_85] at BK1472)
            (try simp only [hl1431001_85] at HO_1408001)
            (try simp only [hl1431001_85] at HO_1408002)
            (try simp only [hl1431001_85] at HO_1419001)
            (try simp only [hl1431001_85] at HO_1419002)
            (try simp only [hl1431001_85] at HO_1431002)
            (try simp only [hl1431001_85] at HO_1473001)
            (try simp only [hl1431001_85] at HO_1473002)
            have hl1431002_85 := (Kd.R_reads' HO_1431002.out).1
            rw [hl1431002_85] at HO_1431002
            (try simp only [hl1431002_85])
            (try simp only [hl1431002_85] at BK1384)
            (try simp only [hl1431002_85] at BK1407)
            (try simp only [hl1431002_85] at BK1418)
            (try simp only [hl1431002_85] at BK1430)
            (try simp only [hl1431002_85] at BK1472)
            (try simp only [hl1431002_85] at HO_1408001)
            (try simp only [hl1431002_85] at HO_1408002)
            (try simp only [hl1431002_85] at HO_1419001)
            (try simp only [hl1431002_85] at HO_1419002)
            (try simp only [hl1431002_85] at HO_1431001)
            (try simp only [hl1431002_85] at HO_1473001)
            (try simp only [hl1431002_85] at HO_1473002)
            cases kq with
            | zero => exact absurd HA.out (by simp [laws_FnExactAwait.j2])
            | succ kj85 =>
             have H := HA.out
             clear HA
             simp only [laws_FnExactAwait.j2] at H
             by_cases c121 : x92_85 = true
             ·subst c121
              replace H : (some false) = some r := by rw [if_pos rfl] at H; exact H
              exact absurd (Option.some.inj H) (by rw [HQ_.out]; simp)
             ·replace c121 := Bool.eq_false_iff.mpr c121
              subst c121
              replace H : ((laws_heldNotify.f kj85 t1419 t1448 t1449 t1426 t1427 t1428 1).bind fun t1474 => (if t1474 < 0 then (some false) else (if t1474 = t1447 then (some true) else (some false)))) = some r := by rw [if_neg (show ¬ (false = true) by decide)] at H; exact H
              replace H := Option.bind_eq_some_iff.mp H
              obtain ⟨t1474, A1220, H⟩ := H
              replace H : (if t1474 < 0 then (some false) else (if t1474 = t1447 then (some true) else (some false))) = some r := H
              have A122 := am A1220
              clear A1220
              by_cases c123 : t1474 < 0
              ·rw [if_pos c123] at H
               have c123b0 : decide (t1474 < 0) = true := decide_eq_true c123
               clear c123
               exact absurd (Option.some.inj H) (by rw [HQ_.out]; simp)
              ·rw [if_neg c123] at H
               have c123b0 : decide (t1474 < 0) = false := decide_eq_false c123
               clear c123
               by_cases c124 : t1474 = t1447
               ·rw [if_pos c124] at H
                have c124b0 : (t1474 == t1447) = true := beq_iff_eq.mpr c124
                have c124b1 : (t1474 != t1447) = false := bne_eq_false_iff_eq.mpr c124
                clear c124
                obtain rfl := Option.some.inj H
                have hnb125 := NB1430_1384.out
                have hnc125 := NB1384_1430.out
                have hnb126 := NB1430_1407.out
                have hnc126 := NB1407_1430.out
                have hnb127 := NB1430_1418.out
                have hnc127 := NB1418_1430.out
                have hnb128 := NB1430_1472.out
                have hnc128 := NB1472_1430.out
                obtain ⟨hcz129_0, hcz129_1, hcz129_2, hcz129_3, hcz129_4, hcz129_5, hfz129_0, hfz129_1, hfz129_2, hfz129_3, hfz129_4, hfz129_5⟩ := bk6 BK1430.out
                go_wp2_with (first | ((with_reducible refine gate_callee (f := 37) rfl ?_); refine goesL_ (some 95) rfl rfl Try.func37 (by kernel_rfl) rfl #[.agg #[.bool t1419, .slice Ao40 t1448.length co40, .slice Ao41 t1449.length co41, .int .i64 t1426, .int .i64 t1427, .int .i64 t1428], .int .i64 1] rfl mpx ?_; (with_reducible refine (laws_heldNotify.calls kj85 t1419 _ _ t1448 _ _ t1449 t1426 t1427 t1428 1 t1474 _ ?side1 ?side2 ?side3 ?side4 A122.out).mono ?_); (case side1 => repeat (first | exact (Kd.Q_reads' HO_1431001.out).2.2 | (with_reducible refine Kd.C_alloc ?_ _) | (with_reducible refine Kd.C_drewN ?_ _) | (with_reducible refine Kd.C_drew ?_))); (case side2 => exact (Kd.Q_reads' HO_1431001.out).2.1); (case side3 => exact pkC (Kd.R_reads' HO_1431002.out).2.2); (case side4 => exact (Kd.R_reads' HO_1431002.out).2.1); rintro e w130 ⟨rfl, hb⟩; refine ⟨_, rfl, ?_⟩; replace HO_1408001 := am (Kd.R_below (pkR HO_1408001.out) hb); replace HO_1408002 := am (Kd.R_below (pkR HO_1408002.out) hb); replace HO_1419001 := am (Kd.Q_below (pkQ HO_1419001.out) hb); replace HO_1419002 := am (Kd.R_below (pkR HO_1419002.out) hb); replace HO_1431001 := am (Kd.Q_below (pkQ HO_1431001.out) hb); replace HO_1431002 := am (Kd.R_below (pkR HO_1431002.out) hb); replace HO_1473001 := am (Kd.R_below (pkR HO_1473001.out) hb); replace HO_1473002 := am (Kd.R_below (pkR HO_1473002.out) hb); replace BK1384 := am (blk_below (pkK BK1384.out) hb); replace BK1407 := am (blk_below (pkK BK1407.out) hb); replace BK1418 := am (blk_below (pkK BK1418.out) hb); replace BK1430 := am (blk_below (pkK BK1430.out) hb); replace BK1472 := am (blk_below (pkK BK1472.out) hb); replace HB := am (below_step (pkW HB.out) hb); (try clear hb)))
                go_ret
                exact ⟨rfe, pkW HB.out⟩
               ·rw [if_neg c124] at H
                have c124b0 : (t1474 == t1447) = false := beq_eq_false_iff_ne.mpr c124
                have c124b1 : (t1474 != t1447) = true := bne_iff_ne.mpr c124
                exact absurd (Option.some.inj H) (by rw [HQ_.out]; simp)
          ·rw [if_neg c83] at H
           have c83b0 : (t1450 == t1447) = false := beq_eq_false_iff_ne.mpr c83
           have c83b1 : (t1450 != t1447) = true := bne_iff_ne.mpr c83
           exact absurd (Option.some.inj H) (by rw [HQ_.out]; simp)
     ·replace c55 := Bool.eq_false_iff.mpr c55
      subst c55
      replace H : (some false) = some r := by rw [if_neg (show ¬ (false = true) by decide)] at H; exact H
      exact absurd (Option.some.inj H) (by rw [HQ_.out]; simp)
end Go.Proofs.Ytdagpmnadapbjaa.Z
