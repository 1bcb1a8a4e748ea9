/- The Go functions laws_FnExactResume as Lean functions, each with a proof that its code comes to just these answers; conditions: those of each theorem. -/
import Derived.Test.YtdagpmnadapbjaaZx0
import Derived.Test.YtdagpmnadapbjaaZx14
import Derived.Test.YtdagpmnadapbjaaZx16
import Derived.Test.YtdagpmnadapbjaaZx20
import Derived.Test.YtdagpmnadapbjaaZx36
import Derived.Test.YtdagpmnadapbjaaZx37
import Derived.Test.YtdagpmnadapbjaaZx49
import Derived.Test.YtdagpmnadapbjaaZx51
namespace Go.Proofs.Ytdagpmnadapbjaa.Z
open Go.RowKit Go.Proofs.YtdagpmnadapbjaaW.PrintWords Go.Proofs.YtdagpmnadapbjaaW.PrintLast Go.Proofs.YtdagpmnadapbjaaW.PrintMore
attribute [local go_sem] max2_int min2_int max_two min_two max_three min_three max_four min_four   -- for this text's walks alone
set_option linter.unusedVariables false
set_option linter.unusedSimpArgs false
mutual
def laws_FnExactResume.j0 : Nat → Int → Int → Int → Bool → Bool → List Int → List (S84) → Int → Int → Int → Bool → List Int → List (S67) → Int → Int → Int → Bool → List Int → List (S67) → Int → Int → Int → Bool → List Int → List (S67) → Int → Int → Int → Option (Bool)
 | 0, _, _, _, _, _, _, _, _, _, _, _, _, _, _, _, _, _, _, _, _, _, _, _, _, _, _, _, _ => none
 | k + 1, x1, x7, x10, x44, x1668000, x1668001, x1668002, x1668003, x1668004, x1668005, x1691000, x1691001, x1691002, x1691003, x1691004, x1691005, x1702000, x1702001, x1702002, x1702003, x1702004, x1702005, x1714000, x1714001, x1714002, x1714003, x1714004, x1714005 => if x44 = true then (some false) else ((laws_toNotify.f k x1668000 x1668001 x1668002 x1668003 x1668004 x1668005).bind fun bt1715 => ((laws_eqNotify.f k x1702000 x1702001 x1702002 x1702003 x1702004 x1702005 bt1715.1 bt1715.2.1 bt1715.2.2.1 bt1715.2.2.2.1 bt1715.2.2.2.2.1 bt1715.2.2.2.2.2).bind fun t1725 => (if t1725 = true then ((laws_markNotify.f k x1702000 x1702001 x1702002 x1702003 x1702004 x1702005 1).bind fun bt1726 => (if bt1726.1 < 0 then (laws_FnExactResume.j1 k x1 x7 true x1668000 x1668001 x1668002 x1668003 x1668004 x1668005 x1691000 x1691001 x1691002 x1691003 x1691004 x1691005 x1714000 x1714001 x1714002 x1714003 x1714004 x1714005) else ((laws_eqNotify.f k x1714000 x1714001 x1714002 x1714003 x1714004 x1714005 x1691000 x1691001 x1691002 x1691003 x1691004 x1691005).bind fun t1729 => (if t1729 = true then (laws_FnExactResume.j1 k x1 x7 (x10 != x7) x1668000 x1668001 x1668002 x1668003 x1668004 x1668005 x1691000 x1691001 x1691002 x1691003 x1691004 x1691005 x1714000 x1714001 x1714002 x1714003 x1714004 x1714005) else (laws_FnExactResume.j1 k x1 x7 true x1668000 x1668001 x1668002 x1668003 x1668004 x1668005 x1691000 x1691001 x1691002 x1691003 x1691004 x1691005 x1714000 x1714001 x1714002 x1714003 x1714004 x1714005))))) else (some false))))
def laws_FnExactResume.j1 : Nat → Int → Int → Bool → Bool → List Int → List (S84) → Int → Int → Int → Bool → List Int → List (S67) → Int → Int → Int → Bool → List Int → List (S67) → Int → Int → Int → Option (Bool)
 | 0, _, _, _, _, _, _, _, _, _, _, _, _, _, _, _, _, _, _, _, _, _ => none
 | k + 1, x1, x7, x65, x1668000, x1668001, x1668002, x1668003, x1668004, x1668005, x1691000, x1691001, x1691002, x1691003, x1691004, x1691005, x1714000, x1714001, x1714002, x1714003, x1714004, x1714005 => if x65 = true then (some false) else ((laws_markNotify.f k x1714000 x1714001 x1714002 x1714003 x1714004 x1714005 1).bind fun bt1730 => ((laws_heldNotify.f k x1714000 bt1730.2.1 bt1730.2.2 x1714003 x1714004 x1714005 1).bind fun t1733 => (if t1733 < 0 then (some false) else (if t1733 = bt1730.1 then ((laws_toNotify.f k x1668000 x1668001 x1668002 x1668003 x1668004 x1668005).bind fun bt1734 => ((impl_Resume.f k bt1734.1 bt1734.2.1 bt1734.2.2.1 bt1734.2.2.2.1 bt1734.2.2.2.2.1 bt1734.2.2.2.2.2 x1).bind fun bt1744 => ((laws_eqNotify.f k bt1744.1 bt1744.2.1 bt1744.2.2.1 bt1744.2.2.2.1 bt1744.2.2.2.2.1 bt1744.2.2.2.2.2.1 x1691000 x1691001 x1691002 x1691003 x1691004 x1691005).bind fun t1756 => (if t1756 = true then (laws_FnExactResume.j2 k bt1730.1 (bt1744.2.2.2.2.2.2 != x7) x1714000 bt1730.2.1 bt1730.2.2 x1714003 x1714004 x1714005) else (laws_FnExactResume.j2 k bt1730.1 true x1714000 bt1730.2.1 bt1730.2.2 x1714003 x1714004 x1714005))))) else (some false)))))
def laws_FnExactResume.j2 : Nat → Int → Bool → Bool → List Int → List (S67) → Int → Int → Int → Option (Bool)
 | 0, _, _, _, _, _, _, _, _ => none
 | k + 1, x12, x92, x1714000, x1714001, x1714002, x1714003, x1714004, x1714005 => if x92 = true then (some false) else ((laws_heldNotify.f k x1714000 x1714001 x1714002 x1714003 x1714004 x1714005 1).bind fun t1757 => (if t1757 < 0 then (some false) else (if t1757 = x12 then (some true) else (some false))))
end
def laws_FnExactResume.f (k : Nat) (a0_0 : Bool) (l0_1 : List Int) (l0_2 : List (S84)) (a0_3 : Int) (a0_4 : Int) (a0_5 : Int) (a1 : Int) : Option (Bool) := (laws_szNotify.f a0_0 l0_1 l0_2 a0_3 a0_4 a0_5 1048576).bind fun t1668 => (if t1668 < 0 then (some true) else ((laws_toNotify.f k a0_0 l0_1 l0_2 a0_3 a0_4 a0_5).bind fun bt1669 => ((spec_Resume.f k bt1669.1 bt1669.2.1 bt1669.2.2.1 bt1669.2.2.2.1 bt1669.2.2.2.2.1 bt1669.2.2.2.2.2 a1).bind fun bt1679 => ((laws_toNotify.f k a0_0 l0_1 l0_2 a0_3 a0_4 a0_5).bind fun bt1691 => ((impl_Resume.f k bt1691.1 bt1691.2.1 bt1691.2.2.1 bt1691.2.2.2.1 bt1691.2.2.2.2.1 bt1691.2.2.2.2.2 a1).bind fun bt1702 => ((laws_eqNotify.f k bt1702.1 bt1702.2.1 bt1702.2.2.1 bt1702.2.2.2.1 bt1702.2.2.2.2.1 bt1702.2.2.2.2.2.1 bt1679.1 bt1679.2.1 bt1679.2.2.1 bt1679.2.2.2.1 bt1679.2.2.2.2.1 bt1679.2.2.2.2.2.1).bind fun t1714 => (if t1714 = true then (laws_FnExactResume.j0 k a1 bt1679.2.2.2.2.2.2 bt1702.2.2.2.2.2.2 (bt1702.2.2.2.2.2.2 != bt1679.2.2.2.2.2.2) a0_0 l0_1 l0_2 a0_3 a0_4 a0_5 bt1679.1 bt1679.2.1 bt1679.2.2.1 bt1679.2.2.2.1 bt1679.2.2.2.2.1 bt1679.2.2.2.2.2.1 bt1691.1 bt1691.2.1 bt1691.2.2.1 bt1691.2.2.2.1 bt1691.2.2.2.2.1 bt1691.2.2.2.2.2 bt1702.1 bt1702.2.1 bt1702.2.2.1 bt1702.2.2.2.1 bt1702.2.2.2.2.1 bt1702.2.2.2.2.2.1) else (laws_FnExactResume.j0 k a1 bt1679.2.2.2.2.2.2 bt1702.2.2.2.2.2.2 true a0_0 l0_1 l0_2 a0_3 a0_4 a0_5 bt1679.1 bt1679.2.1 bt1679.2.2.1 bt1679.2.2.2.1 bt1679.2.2.2.2.1 bt1679.2.2.2.2.2.1 bt1691.1 bt1691.2.1 bt1691.2.2.1 bt1691.2.2.2.1 bt1691.2.2.2.2.1 bt1691.2.2.2.2.2 bt1702.1 bt1702.2.1 bt1702.2.2.1 bt1702.2.2.2.1 bt1702.2.2.2.2.1 bt1702.2.2.2.2.2.1))))))))
theorem laws_FnExactResume.mono_l : ∀ k, (∀ y0 y1 y2 y3 y4 y5 y6 y7 y8 y9 y10 y11 y12 y13 y14 y15 y16 y17 y18 y19 y20 y21 y22 y23 y24 y25 y26 y27, LeO (laws_FnExactResume.j0 k y0 y1 y2 y3 y4 y5 y6 y7 y8 y9 y10 y11 y12 y13 y14 y15 y16 y17 y18 y19 y20 y21 y22 y23 y24 y25 y26 y27) (laws_FnExactResume.j0 (k + 1) y0 y1 y2 y3 y4 y5 y6 y7 y8 y9 y10 y11 y12 y13 y14 y15 y16 y17 y18 y19 y20 y21 y22 y23 y24 y25 y26 y27)) ∧ (∀ y0 y1 y2 y3 y4 y5 y6 y7 y8 y9 y10 y11 y12 y13 y14 y15 y16 y17 y18 y19 y20, LeO (laws_FnExactResume.j1 k y0 y1 y2 y3 y4 y5 y6 y7 y8 y9 y10 y11 y12 y13 y14 y15 y16 y17 y18 y19 y20) (laws_FnExactResume.j1 (k + 1) y0 y1 y2 y3 y4 y5 y6 y7 y8 y9 y10 y11 y12 y13 y14 y15 y16 y17 y18 y19 y20)) ∧ (∀ y0 y1 y2 y3 y4 y5 y6 y7, LeO (laws_FnExactResume.j2 k y0 y1 y2 y3 y4 y5 y6 y7) (laws_FnExactResume.j2 (k + 1) y0 y1 y2 y3 y4 y5 y6 y7))
 | 0 => ⟨fun _ _ _ _ _ _ _ _ _ _ _ _ _ _ _ _ _ _ _ _ _ _ _ _ _ _ _ _ r h => by simp [laws_FnExactResume.j0] at h, fun _ _ _ _ _ _ _ _ _ _ _ _ _ _ _ _ _ _ _ _ _ r h => by simp [laws_FnExactResume.j1] at h, fun _ _ _ _ _ _ _ _ r h => by simp [laws_FnExactResume.j2] at h⟩
 | k + 1 => by
  obtain ⟨ih0, ih1, ih2⟩ := laws_FnExactResume.mono_l k
  refine ⟨?_, ?_, ?_⟩
  ·intro y0 y1 y2 y3 y4 y5 y6 y7 y8 y9 y10 y11 y12 y13 y14 y15 y16 y17 y18 y19 y20 y21 y22 y23 y24 y25 y26 y27
   unfold laws_FnExactResume.j0
   repeat' first
   | (with_reducible exact ih0 _ _ _ _ _ _ _ _ _ _ _ _ _ _ _ _ _ _ _ _ _ _ _ _ _ _ _ _)
   | (with_reducible exact ih1 _ _ _ _ _ _ _ _ _ _ _ _ _ _ _ _ _ _ _ _ _)
   | (with_reducible exact ih2 _ _ _ _ _ _ _ _)
   | (with_reducible exact impl_Resume.mono _ _ _ _ _ _ _ _)
   | (with_reducible exact laws_eqNotify.mono _ _ _ _ _ _ _ _ _ _ _ _ _)
   | (with_reducible exact laws_heldNotify.mono _ _ _ _ _ _ _ _)
   | (with_reducible exact laws_markNotify.mono _ _ _ _ _ _ _ _)
   | (with_reducible exact laws_toNotify.mono _ _ _ _ _ _ _)
   | (with_reducible exact spec_Resume.mono _ _ _ _ _ _ _ _)
   | (with_reducible exact LeO.refl _)
   | (with_reducible exact LeO.none _)
   | (with_reducible refine LeO.ite ?_ ?_)
   | (with_reducible refine LeO.bind ?_ (fun _ => ?_))
  ·intro y0 y1 y2 y3 y4 y5 y6 y7 y8 y9 y10 y11 y12 y13 y14 y15 y16 y17 y18 y19 y20
   unfold laws_FnExactResume.j1
   repeat' first
   | (with_reducible exact ih0 _ _ _ _ _ _ _ _ _ _ _ _ _ _ _ _ _ _ _ _ _ _ _ _ _ _ _ _)
   | (with_reducible exact ih1 _ _ _ _ _ _ _ _ _ _ _ _ _ _ _ _ _ _ _ _ _)
   | (with_reducible exact ih2 _ _ _ _ _ _ _ _)
   | (with_reducible exact impl_Resume.mono _ _ _ _ _ _ _ _)
   | (with_reducible exact laws_eqNotify.mono _ _ _ _ _ _ _ _ _ _ _ _ _)
   | (with_reducible exact laws_heldNotify.mono _ _ _ _ _ _ _ _)
   | (with_reducible exact laws_markNotify.mono _ _ _ _ _ _ _ _)
   | (with_reducible exact laws_toNotify.mono _ _ _ _ _ _ _)
   | (with_reducible exact spec_Resume.mono _ _ _ _ _ _ _ _)
   | (with_reducible exact LeO.refl _)
   | (with_reducible exact LeO.none _)
   | (with_reducible refine LeO.ite ?_ ?_)
   | (with_reducible refine LeO.bind ?_ (fun _ => ?_))
  ·intro y0 y1 y2 y3 y4 y5 y6 y7
   unfold laws_FnExactResume.j2
   repeat' first
   | (with_reducible exact ih0 _ _ _ _ _ _ _ _ _ _ _ _ _ _ _ _ _ _ _ _ _ _ _ _ _ _ _ _)
   | (with_reducible exact ih1 _ _ _ _ _ _ _ _ _ _ _ _ _ _ _ _ _ _ _ _ _)
   | (with_reducible exact ih2 _ _ _ _ _ _ _ _)
   | (with_reducible exact impl_Resume.mono _ _ _ _ _ _ _ _)
   | (with_reducible exact laws_eqNotify.mono _ _ _ _ _ _ _ _ _ _ _ _ _)
   | (with_reducible exact laws_heldNotify.mono _ _ _ _ _ _ _ _)
   | (with_reducible exact laws_markNotify.mono _ _ _ _ _ _ _ _)
   | (with_reducible exact laws_toNotify.mono _ _ _ _ _ _ _)
   | (with_reducible exact spec_Resume.mono _ _ _ _ _ _ _ _)
   | (with_reducible exact LeO.refl _)
   | (with_reducible exact LeO.none _)
   | (with_reducible refine LeO.ite ?_ ?_)
   | (with_reducible refine LeO.bind ?_ (fun _ => ?_))
theorem laws_FnExactResume.mono : ∀ a0 a1 a2 a3 a4 a5 a6 k, LeO (laws_FnExactResume.f k a0 a1 a2 a3 a4 a5 a6) (laws_FnExactResume.f (k + 1) a0 a1 a2 a3 a4 a5 a6) := by
 intro a0 a1 a2 a3 a4 a5 a6 k
 obtain ⟨ih0, ih1, ih2⟩ := laws_FnExactResume.mono_l k
 unfold laws_FnExactResume.f
 repeat' first
   | (with_reducible exact ih0 _ _ _ _ _ _ _ _ _ _ _ _ _ _ _ _ _ _ _ _ _ _ _ _ _ _ _ _)
   | (with_reducible exact ih1 _ _ _ _ _ _ _ _ _ _ _ _ _ _ _ _ _ _ _ _ _)
   | (with_reducible exact ih2 _ _ _ _ _ _ _ _)
   | (with_reducible exact impl_Resume.mono _ _ _ _ _ _ _ _)
   | (with_reducible exact laws_eqNotify.mono _ _ _ _ _ _ _ _ _ _ _ _ _)
   | (with_reducible exact laws_heldNotify.mono _ _ _ _ _ _ _ _)
   | (with_reducible exact laws_markNotify.mono _ _ _ _ _ _ _ _)
   | (with_reducible exact laws_toNotify.mono _ _ _ _ _ _ _)
   | (with_reducible exact spec_Resume.mono _ _ _ _ _ _ _ _)
   | (with_reducible exact LeO.refl _)
   | (with_reducible exact LeO.none _)
   | (with_reducible refine LeO.ite ?_ ?_)
   | (with_reducible refine LeO.bind ?_ (fun _ => ?_))
set_option maxHeartbeats 8000000 in
set_option maxRecDepth 100000 in
theorem laws_FnExactResume.calls (k : Nat) (a0_0 : Bool) (A0_1 : Option Addr) (c0_1 : Nat) (l0_1 : List Int) (A0_2 : Option Addr) (c0_2 : Nat) (l0_2 : List (S84)) (a0_3 : Int) (a0_4 : Int) (a0_5 : Int) (a1 : Int) (r : Bool) (w : World) (hr0_1 : Kd.C (Kd.int .i64) w A0_1 l0_1.length l0_1) (hc0_1 : l0_1.length ≤ c0_1) (hr0_2 : Kd.C k84 w A0_2 l0_2.length l0_2) (hc0_2 : l0_2.length ≤ c0_2) (HQ_ : Aside0 (r = true)) (h : laws_FnExactResume.f k a0_0 l0_1 l0_2 a0_3 a0_4 a0_5 a1 = some r) :
  Calls Try.prog 13 #[.agg #[.bool a0_0, .slice A0_1 l0_1.length c0_1, .slice A0_2 l0_2.length c0_2, .int .i64 a0_3, .int .i64 a0_4, .int .i64 a0_5], .int .i64 a1] w fun e w' => e = .returned (.bool r) ∧ Below w.heap.size w w' := by
 have hu33 := Try.underlying33
 have hu38 := Try.underlying38
 have HR0_1 := am hr0_1
 have HC0_1 := am hc0_1
 clear hr0_1 hc0_1
 have HR0_2 := am hr0_2
 have HC0_2 := am hc0_2
 clear hr0_2 hc0_2
 have HB := am (Below.refl w.heap.size w)
 have H : ((laws_szNotify.f a0_0 l0_1 l0_2 a0_3 a0_4 a0_5 1048576).bind fun t1668 => (if t1668 < 0 then (some true) else ((laws_toNotify.f k a0_0 l0_1 l0_2 a0_3 a0_4 a0_5).bind fun bt1669 => ((spec_Resume.f k bt1669.1 bt1669.2.1 bt1669.2.2.1 bt1669.2.2.2.1 bt1669.2.2.2.2.1 bt1669.2.2.2.2.2 a1).bind fun bt1679 => ((laws_toNotify.f k a0_0 l0_1 l0_2 a0_3 a0_4 a0_5).bind fun bt1691 => ((impl_Resume.f k bt1691.1 bt1691.2.1 bt1691.2.2.1 bt1691.2.2.2.1 bt1691.2.2.2.2.1 bt1691.2.2.2.2.2 a1).bind fun bt1702 => ((laws_eqNotify.f k bt1702.1 bt1702.2.1 bt1702.2.2.1 bt1702.2.2.2.1 bt1702.2.2.2.2.1 bt1702.2.2.2.2.2.1 bt1679.1 bt1679.2.1 bt1679.2.2.1 bt1679.2.2.2.1 bt1679.2.2.2.2.1 bt1679.2.2.2.2.2.1).bind fun t1714 => (if t1714 = true then (laws_FnExactResume.j0 k a1 bt1679.2.2.2.2.2.2 bt1702.2.2.2.2.2.2 (bt1702.2.2.2.2.2.2 != bt1679.2.2.2.2.2.2) a0_0 l0_1 l0_2 a0_3 a0_4 a0_5 bt1679.1 bt1679.2.1 bt1679.2.2.1 bt1679.2.2.2.1 bt1679.2.2.2.2.1 bt1679.2.2.2.2.2.1 bt1691.1 bt1691.2.1 bt1691.2.2.1 bt1691.2.2.2.1 bt1691.2.2.2.2.1 bt1691.2.2.2.2.2 bt1702.1 bt1702.2.1 bt1702.2.2.1 bt1702.2.2.2.1 bt1702.2.2.2.2.1 bt1702.2.2.2.2.2.1) else (laws_FnExactResume.j0 k a1 bt1679.2.2.2.2.2.2 bt1702.2.2.2.2.2.2 true a0_0 l0_1 l0_2 a0_3 a0_4 a0_5 bt1679.1 bt1679.2.1 bt1679.2.2.1 bt1679.2.2.2.1 bt1679.2.2.2.2.1 bt1679.2.2.2.2.2.1 bt1691.1 bt1691.2.1 bt1691.2.2.1 bt1691.2.2.2.1 bt1691.2.2.2.2.1 bt1691.2.2.2.2.2 bt1702.1 bt1702.2.1 bt1702.2.2.1 bt1702.2.2.2.1 bt1702.2.2.2.2.1 bt1702.2.2.2.2.2.1))))))))) = some r := h
 clear h
 replace H := Option.bind_eq_some_iff.mp H
 obtain ⟨t1668, A30, H⟩ := H
 replace H : (if t1668 < 0 then (some true) else ((laws_toNotify.f k a0_0 l0_1 l0_2 a0_3 a0_4 a0_5).bind fun bt1669 => ((spec_Resume.f k bt1669.1 bt1669.2.1 bt1669.2.2.1 bt1669.2.2.2.1 bt1669.2.2.2.2.1 bt1669.2.2.2.2.2 a1).bind fun bt1679 => ((laws_toNotify.f k a0_0 l0_1 l0_2 a0_3 a0_4 a0_5).bind fun bt1691 => ((impl_Resume.f k bt1691.1 bt1691.2.1 bt1691.2.2.1 bt1691.2.2.2.1 bt1691.2.2.2.2.1 bt1691.2.2.2.2.2 a1).bind fun bt1702 => ((laws_eqNotify.f k bt1702.1 bt1702.2.1 bt1702.2.2.1 bt1702.2.2.2.1 bt1702.2.2.2.2.1 bt1702.2.2.2.2.2.1 bt1679.1 bt1679.2.1 bt1679.2.2.1 bt1679.2.2.2.1 bt1679.2.2.2.2.1 bt1679.2.2.2.2.2.1).bind fun t1714 => (if t1714 = true then (laws_FnExactResume.j0 k a1 bt1679.2.2.2.2.2.2 bt1702.2.2.2.2.2.2 (bt1702.2.2.2.2.2.2 != bt1679.2.2.2.2.2.2) a0_0 l0_1 l0_2 a0_3 a0_4 a0_5 bt1679.1 bt1679.2.1 bt1679.2.2.1 bt1679.2.2.2.1 bt1679.2.2.2.2.1 bt1679.2.2.2.2.2.1 bt1691.1 bt1691.2.1 bt1691.2.2.1 bt1691.2.2.2.1 bt1691.2.2.2.2.1 bt1691.2.2.2.2.2 bt1702.1 bt1702.2.1 bt1702.2.2.1 bt1702.2.2.2.1 bt1702.2.2.2.2.1 bt1702.2.2.2.2.2.1) else (laws_FnExactResume.j0 k a1 bt1679.2.2.2.2.2.2 bt1702.2.2.2.2.2.2 true a0_0 l0_1 l0_2 a0_3 a0_4 a0_5 bt1679.1 bt1679.2.1 bt1679.2.2.1 bt1679.2.2.2.1 bt1679.2.2.2.2.1 bt1679.2.2.2.2.2.1 bt1691.1 bt1691.2.1 bt1691.2.2.1 bt1691.2.2.2.1 bt1691.2.2.2.2.1 bt1691.2.2.2.2.2 bt1702.1 bt1702.2.1 bt1702.2.2.1 bt1702.2.2.2.1 bt1702.2.2.2.2.1 bt1702.2.2.2.2.2.1)))))))) = some r := H
 have A3 := am A30
 clear A30
 by_cases c4 : t1668 < 0
 ·rw [if_pos c4] at H
  have c4b0 : decide (t1668 < 0) = true := decide_eq_true c4
  clear c4
  obtain rfl := Option.some.inj H
  go_enter Try.func13, Try.ntmps13
  go_wp2_with (first | ((with_reducible refine gate_dst (N := 2) rfl ?_); refine box_event ?hg (N := 2) ?hd (cs := #[.bool a0_0, .slice A0_1 l0_1.length c0_1, .slice A0_2 l0_2.length c0_2, .int .i64 a0_3, .int .i64 a0_4, .int .i64 a0_5]) (t := 33) ?hr ?_; (case hd => rfl); (case hg => rfl); (case hr => first | (go_simp; done) | (go_simp; rfl)); intro gb1667 hg w5 hbox hb; have BK1667 := am (hbox); have GW1667 := am ((by rw [hg]; exact (below_size (pkB HB.out)) : w.heap.size ≤ gb1667)); have GE1667 := am ((by rw [hg]; exact (below_size (pkB HB.out)) : w.heap.size ≤ gb1667)); replace HB := am (below_step (pkB HB.out) hb); clear hb hbox hg; obtain ⟨hcz6_0, hcz6_1, hcz6_2, hcz6_3, hcz6_4, hcz6_5, hfz6_0, hfz6_1, hfz6_2, hfz6_3, hfz6_4, hfz6_5⟩ := bk6 BK1667.out) | ((with_reducible refine gate_callee (f := 19) rfl ?_); refine goesL_ (some 18) rfl rfl Try.func19 (by kernel_rfl) rfl #[.agg #[.bool a0_0, .slice A0_1 l0_1.length c0_1, .slice A0_2 l0_2.length c0_2, .int .i64 a0_3, .int .i64 a0_4, .int .i64 a0_5], .int .i64 1048576] rfl mpx ?_; (with_reducible refine (laws_szNotify.calls a0_0 _ _ l0_1 _ _ l0_2 a0_3 a0_4 a0_5 1048576 t1668 _ ?side1 ?side2 ?side3 ?side4 A3.out).mono ?_); (case side1 => exact pkC (Kd.C_below HR0_1.out HB.out)); (case side2 => exact HC0_1.out); (case side3 => exact pkC (Kd.C_below HR0_2.out HB.out)); (case side4 => exact HC0_2.out); rintro e w7 ⟨rfl, hb⟩; refine ⟨_, rfl, ?_⟩; replace BK1667 := am (blk_below (pkK BK1667.out) hb); replace HB := am (below_step (pkW HB.out) hb); (try clear hb)))
  go_ret
  exact ⟨rfe, pkW HB.out⟩
 ·rw [if_neg c4] at H
  have c4b0 : decide (t1668 < 0) = false := decide_eq_false c4
  clear c4
  replace H := Option.bind_eq_some_iff.mp H
  obtain ⟨⟨t1669, t1670, t1673, t1676, t1677, t1678⟩, A80, H⟩ := H
  replace H : ((spec_Resume.f k t1669 t1670 t1673 t1676 t1677 t1678 a1).bind fun bt1679 => ((laws_toNotify.f k a0_0 l0_1 l0_2 a0_3 a0_4 a0_5).bind fun bt1691 => ((impl_Resume.f k bt1691.1 bt1691.2.1 bt1691.2.2.1 bt1691.2.2.2.1 bt1691.2.2.2.2.1 bt1691.2.2.2.2.2 a1).bind fun bt1702 => ((laws_eqNotify.f k bt1702.1 bt1702.2.1 bt1702.2.2.1 bt1702.2.2.2.1 bt1702.2.2.2.2.1 bt1702.2.2.2.2.2.1 bt1679.1 bt1679.2.1 bt1679.2.2.1 bt1679.2.2.2.1 bt1679.2.2.2.2.1 bt1679.2.2.2.2.2.1).bind fun t1714 => (if t1714 = true then (laws_FnExactResume.j0 k a1 bt1679.2.2.2.2.2.2 bt1702.2.2.2.2.2.2 (bt1702.2.2.2.2.2.2 != bt1679.2.2.2.2.2.2) a0_0 l0_1 l0_2 a0_3 a0_4 a0_5 bt1679.1 bt1679.2.1 bt1679.2.2.1 bt1679.2.2.2.1 bt1679.2.2.2.2.1 bt1679.2.2.2.2.2.1 bt1691.1 bt1691.2.1 bt1691.2.2.1 bt1691.2.2.2.1 bt1691.2.2.2.2.1 bt1691.2.2.2.2.2 bt1702.1 bt1702.2.1 bt1702.2.2.1 bt1702.2.2.2.1 bt1702.2.2.2.2.1 bt1702.2.2.2.2.2.1) else (laws_FnExactResume.j0 k a1 bt1679.2.2.2.2.2.2 bt1702.2.2.2.2.2.2 true a0_0 l0_1 l0_2 a0_3 a0_4 a0_5 bt1679.1 bt1679.2.1 bt1679.2.2.1 bt1679.2.2.2.1 bt1679.2.2.2.2.1 bt1679.2.2.2.2.2.1 bt1691.1 bt1691.2.1 bt1691.2.2.1 bt1691.2.2.2.1 bt1691.2.2.2.2.1 bt1691.2.2.2.2.2 bt1702.1 bt1702.2.1 bt1702.2.2.1 bt1702.2.2.2.1 bt1702.2.2.2.2.1 bt1702.2.2.2.2.2.1)))))) = some r := H
  have A8 := am A80
  clear A80
  replace H := Option.bind_eq_some_iff.mp H
  obtain ⟨⟨t1679, t1680, t1683, t1686, t1687, t1688, t1689⟩, A90, H⟩ := H
  replace H : ((laws_toNotify.f k a0_0 l0_1 l0_2 a0_3 a0_4 a0_5).bind fun bt1691 => ((impl_Resume.f k bt1691.1 bt1691.2.1 bt1691.2.2.1 bt1691.2.2.2.1 bt1691.2.2.2.2.1 bt1691.2.2.2.2.2 a1).bind fun bt1702 => ((laws_eqNotify.f k bt1702.1 bt1702.2.1 bt1702.2.2.1 bt1702.2.2.2.1 bt1702.2.2.2.2.1 bt1702.2.2.2.2.2.1 t1679 t1680 t1683 t1686 t1687 t1688).bind fun t1714 => (if t1714 = true then (laws_FnExactResume.j0 k a1 t1689 bt1702.2.2.2.2.2.2 (bt1702.2.2.2.2.2.2 != t1689) a0_0 l0_1 l0_2 a0_3 a0_4 a0_5 t1679 t1680 t1683 t1686 t1687 t1688 bt1691.1 bt1691.2.1 bt1691.2.2.1 bt1691.2.2.2.1 bt1691.2.2.2.2.1 bt1691.2.2.2.2.2 bt1702.1 bt1702.2.1 bt1702.2.2.1 bt1702.2.2.2.1 bt1702.2.2.2.2.1 bt1702.2.2.2.2.2.1) else (laws_FnExactResume.j0 k a1 t1689 bt1702.2.2.2.2.2.2 true a0_0 l0_1 l0_2 a0_3 a0_4 a0_5 t1679 t1680 t1683 t1686 t1687 t1688 bt1691.1 bt1691.2.1 bt1691.2.2.1 bt1691.2.2.2.1 bt1691.2.2.2.2.1 bt1691.2.2.2.2.2 bt1702.1 bt1702.2.1 bt1702.2.2.1 bt1702.2.2.2.1 bt1702.2.2.2.2.1 bt1702.2.2.2.2.2.1))))) = some r := H
  have A9 := am A90
  clear A90
  replace H := Option.bind_eq_some_iff.mp H
  obtain ⟨⟨t1691, t1692, t1695, t1698, t1699, t1700⟩, A100, H⟩ := H
  replace H : ((impl_Resume.f k t1691 t1692 t1695 t1698 t1699 t1700 a1).bind fun bt1702 => ((laws_eqNotify.f k bt1702.1 bt1702.2.1 bt1702.2.2.1 bt1702.2.2.2.1 bt1702.2.2.2.2.1 bt1702.2.2.2.2.2.1 t1679 t1680 t1683 t1686 t1687 t1688).bind fun t1714 => (if t1714 = true then (laws_FnExactResume.j0 k a1 t1689 bt1702.2.2.2.2.2.2 (bt1702.2.2.2.2.2.2 != t1689) a0_0 l0_1 l0_2 a0_3 a0_4 a0_5 t1679 t1680 t1683 t1686 t1687 t1688 t1691 t1692 t1695 t1698 t1699 t1700 bt1702.1 bt1702.2.1 bt1702.2.2.1 bt1702.2.2.2.1 bt1702.2.2.2.2.1 bt1702.2.2.2.2.2.1) else (laws_FnExactResume.j0 k a1 t1689 bt1702.2.2.2.2.2.2 true a0_0 l0_1 l0_2 a0_3 a0_4 a0_5 t1679 t1680 t1683 t1686 t1687 t1688 t1691 t1692 t1695 t1698 t1699 t1700 bt1702.1 bt1702.2.1 bt1702.2.2.1 bt1702.2.2.2.1 bt1702.2.2.2.2.1 bt1702.2.2.2.2.2.1)))) = some r := H
  have A10 := am A100
  clear A100
  replace H := Option.bind_eq_some_iff.mp H
  obtain ⟨⟨t1702, t1703, t1706, t1709, t1710, t1711, t1712⟩, A110, H⟩ := H
  replace H : ((laws_eqNotify.f k t1702 t1703 t1706 t1709 t1710 t1711 t1679 t1680 t1683 t1686 t1687 t1688).bind fun t1714 => (if t1714 = true then (laws_FnExactResume.j0 k a1 t1689 t1712 (t1712 != t1689) a0_0 l0_1 l0_2 a0_3 a0_4 a0_5 t1679 t1680 t1683 t1686 t1687 t1688 t1691 t1692 t1695 t1698 t1699 t1700 t1702 t1703 t1706 t1709 t1710 t1711) else (laws_FnExactResume.j0 k a1 t1689 t1712 true a0_0 l0_1 l0_2 a0_3 a0_4 a0_5 t1679 t1680 t1683 t1686 t1687 t1688 t1691 t1692 t1695 t1698 t1699 t1700 t1702 t1703 t1706 t1709 t1710 t1711))) = some r := H
  have A11 := am A110
  clear A110
  have HC12 := am H
  clear H
  go_enter Try.func13, Try.ntmps13
  go_upto_region 8 with (first | ((with_reducible refine gate_dst (N := 2) rfl ?_); refine box_event ?hg (N := 2) ?hd (cs := #[.bool a0_0, .slice A0_1 l0_1.length c0_1, .slice A0_2 l0_2.length c0_2, .int .i64 a0_3, .int .i64 a0_4, .int .i64 a0_5]) (t := 33) ?hr ?_; (case hd => rfl); (case hg => rfl); (case hr => first | (go_simp; done) | (go_simp; rfl)); intro gb1667 hg w13 hbox hb; have BK1667 := am (hbox); have GW1667 := am ((by rw [hg]; exact (below_size (pkB HB.out)) : w.heap.size ≤ gb1667)); have GE1667 := am ((by rw [hg]; exact (below_size (pkB HB.out)) : w.heap.size ≤ gb1667)); replace HB := am (below_step (pkB HB.out) hb); clear hb hbox hg; obtain ⟨hcz14_0, hcz14_1, hcz14_2, hcz14_3, hcz14_4, hcz14_5, hfz14_0, hfz14_1, hfz14_2, hfz14_3, hfz14_4, hfz14_5⟩ := bk6 BK1667.out) | ((with_reducible refine gate_callee (f := 19) rfl ?_); refine goesL_ (some 18) rfl rfl Try.func19 (by kernel_rfl) rfl #[.agg #[.bool a0_0, .slice A0_1 l0_1.length c0_1, .slice A0_2 l0_2.length c0_2, .int .i64 a0_3, .int .i64 a0_4, .int .i64 a0_5], .int .i64 1048576] rfl mpx ?_; (with_reducible refine (laws_szNotify.calls a0_0 _ _ l0_1 _ _ l0_2 a0_3 a0_4 a0_5 1048576 t1668 _ ?side1 ?side2 ?side3 ?side4 A3.out).mono ?_); (case side1 => exact pkC (Kd.C_below HR0_1.out HB.out)); (case side2 => exact HC0_1.out); (case side3 => exact pkC (Kd.C_below HR0_2.out HB.out)); (case side4 => exact HC0_2.out); rintro e w15 ⟨rfl, hb⟩; refine ⟨_, rfl, ?_⟩; replace BK1667 := am (blk_below (pkK BK1667.out) hb); replace HB := am (below_step (pkW HB.out) hb); (try clear hb); obtain ⟨hcz16_0, hcz16_1, hcz16_2, hcz16_3, hcz16_4, hcz16_5, hfz16_0, hfz16_1, hfz16_2, hfz16_3, hfz16_4, hfz16_5⟩ := bk6 BK1667.out) | ((with_reducible refine gate_callee (f := 21) rfl ?_); refine goesL_ (some 23) rfl rfl Try.func21 (by kernel_rfl) rfl #[.agg #[.bool a0_0, .slice A0_1 l0_1.length c0_1, .slice A0_2 l0_2.length c0_2, .int .i64 a0_3, .int .i64 a0_4, .int .i64 a0_5]] rfl mpx ?_; (with_reducible refine (laws_toNotify.calls k a0_0 _ _ l0_1 _ _ l0_2 a0_3 a0_4 a0_5 t1669 t1670 t1673 t1676 t1677 t1678 _ ?side1 ?side2 ?side3 ?side4 A8.out).mono ?_); (case side1 => exact pkC (Kd.C_below HR0_1.out HB.out)); (case side2 => exact HC0_1.out); (case side3 => exact pkC (Kd.C_below HR0_2.out HB.out)); (case side4 => exact HC0_2.out); rintro e w17 ⟨v1671, v1674, rfl, ho0, ho1, hb⟩; refine ⟨_, rfl, ?_⟩; have HO1672 := am (Kd.R_lower ho0 (below_size (pkW HB.out))); have HO1675 := am (Kd.R_lower ho1 (below_size (pkW HB.out))); replace BK1667 := am (blk_below (pkK BK1667.out) hb); replace HB := am (below_step (pkW HB.out) hb); (try clear hb ho0 ho1); obtain ⟨Ao18, co18, eo18⟩ := Kd.R_slice HO1672.out; subst eo18; obtain ⟨Ao19, co19, eo19⟩ := Kd.R_slice HO1675.out; subst eo19) | ((with_reducible refine gate_callee (f := 48) rfl ?_); refine goesL_ (some 25) rfl rfl Try.func48 (by kernel_rfl) rfl #[.agg #[.bool t1669, .slice Ao18 t1670.length co18, .slice Ao19 t1673.length co19, .int .i64 t1676, .int .i64 t1677, .int .i64 t1678], .int .i64 a1] rfl mpx ?_; (with_reducible refine (spec_Resume.calls k t1669 _ _ t1670 _ _ t1673 t1676 t1677 t1678 a1 t1679 t1680 t1683 t1686 t1687 t1688 t1689 _ ?side1 ?side2 ?side3 ?side4 A9.out).mono ?_); (case side1 => exact pkC (Kd.R_reads' HO1672.out).2.2); (case side2 => exact (Kd.R_reads' HO1672.out).2.1); (case side3 => exact pkC (Kd.R_reads' HO1675.out).2.2); (case side4 => exact (Kd.R_reads' HO1675.out).2.1); rintro e w20 ⟨v1681, v1684, rfl, ho0, ho1, hb⟩; refine ⟨_, rfl, ?_⟩; have HO1682 := am (Kd.R_lower (Kd.R_new' ho0 (Kd.R_lt (pkR HO1672.out))) (below_size (pkW HB.out))); replace HO1672 := am (Kd.R_elder' (pkR HO1672.out) (Kd.R_base ho0) hb); have HO1685 := am (Kd.R_lower (Kd.R_new' ho1 (Kd.R_lt (pkR HO1675.out))) (below_size (pkW HB.out))); replace HO1675 := am (Kd.R_elder' (pkR HO1675.out) (Kd.R_base ho1) hb); replace BK1667 := am (blk_below (pkK BK1667.out) hb); replace HB := am (below_step (pkW HB.out) hb); (try clear hb ho0 ho1)) | ((with_reducible refine gate_dst (N := 6) rfl ?_); refine box_event ?hg (N := 6) ?hd (cs := #[.bool false, .slice none 0 0, .slice none 0 0, .int .i64 0, .int .i64 0, .int .i64 0]) (t := 38) ?hr ?_; (case hd => rfl); (case hg => rfl); (case hr => first | (go_simp; done) | (go_simp; rfl)); intro gb1690 hg w21 hbox hb; replace HO1672 := am (Kd.R_below (pkR HO1672.out) hb); replace HO1675 := am (Kd.R_below (pkR HO1675.out) hb); replace HO1682 := am (Kd.R_below (pkR HO1682.out) hb); replace HO1685 := am (Kd.R_below (pkR HO1685.out) hb); have BK1690 := am (hbox); have GW1690 := am ((by rw [hg]; exact (below_size (pkW HB.out)) : w.heap.size ≤ gb1690)); have GE1690 := am ((by rw [hg]; exact (below_size (pkW HB.out)) : w.heap.size ≤ gb1690)); replace HB := am (below_step (pkW HB.out) hb); have NB1667_1690 := am ((by rw [hg]; exact Nat.ne_of_lt (blk_lt (g := gb1667) (o := .cells #[.bool a0_0, .slice A0_1 l0_1.length c0_1, .slice A0_2 l0_2.length c0_2, .int .i64 a0_3, .int .i64 a0_4, .int .i64 a0_5] 33 (0, 0)) (pkK BK1667.out)) : gb1667 ≠ gb1690)); have NB1690_1667 := am ((by rw [hg]; exact Nat.ne_of_gt (blk_lt (g := gb1667) (o := .cells #[.bool a0_0, .slice A0_1 l0_1.length c0_1, .slice A0_2 l0_2.length c0_2, .int .i64 a0_3, .int .i64 a0_4, .int .i64 a0_5] 33 (0, 0)) (pkK BK1667.out)) : gb1690 ≠ gb1667)); replace BK1667 := am (blk_below (pkK BK1667.out) hb); clear hb hbox hg; have hnb22 := NB1690_1667.out; have hnc22 := NB1667_1690.out; obtain ⟨hcz23_0, hcz23_1, hcz23_2, hcz23_3, hcz23_4, hcz23_5, hfz23_0, hfz23_1, hfz23_2, hfz23_3, hfz23_4, hfz23_5⟩ := bk6 BK1690.out; obtain ⟨Ao24, co24, eo24⟩ := Kd.R_slice HO1682.out; subst eo24; obtain ⟨Ao25, co25, eo25⟩ := Kd.R_slice HO1685.out; subst eo25; obtain ⟨hcz26_0, hcz26_1, hcz26_2, hcz26_3, hcz26_4, hcz26_5, hfz26_0, hfz26_1, hfz26_2, hfz26_3, hfz26_4, hfz26_5⟩ := bk6 BK1667.out) | ((with_reducible refine gate_callee (f := 21) rfl ?_); refine goesL_ (some 29) rfl rfl Try.func21 (by kernel_rfl) rfl #[.agg #[.bool a0_0, .slice A0_1 l0_1.length c0_1, .slice A0_2 l0_2.length c0_2, .int .i64 a0_3, .int .i64 a0_4, .int .i64 a0_5]] rfl mpx ?_; (with_reducible refine (laws_toNotify.calls k a0_0 _ _ l0_1 _ _ l0_2 a0_3 a0_4 a0_5 t1691 t1692 t1695 t1698 t1699 t1700 _ ?side1 ?side2 ?side3 ?side4 A10.out).mono ?_); (case side1 => exact Kd.C_below HR0_1.out (pkW HB.out)); (case side2 => exact HC0_1.out); (case side3 => exact Kd.C_below HR0_2.out (pkW HB.out)); (case side4 => exact HC0_2.out); rintro e w27 ⟨v1693, v1696, rfl, ho0, ho1, hb⟩; refine ⟨_, rfl, ?_⟩; have HO1694 := am (Kd.R_lower (Kd.R_new' (Kd.R_new' ho0 (Kd.R_lt (by (with_reducible repeat (first | apply Kd.R_alloc | apply Kd.R_drewN | apply Kd.R_drew)); exact (Kd.R_mono (Kd.R_far (p := ⟨gb1690, 5, none⟩) (Kd.R_far (p := ⟨gb1690, 4, none⟩) (Kd.R_far (p := ⟨gb1690, 3, none⟩) (Kd.R_far (p := ⟨gb1690, 2, none⟩) (Kd.R_far (p := ⟨gb1690, 1, none⟩) (Kd.R_far (p := ⟨gb1690, 0, none⟩) (Kd.R_types HO1672.out BK1690.out (by decide)) (fun _ hk => hk.2) (.bool t1679)) (fun _ hk => hk.2) (.slice Ao24 t1680.length co24)) (fun _ hk => hk.2) (.slice Ao25 t1683.length co25)) (fun _ hk => hk.2) (.int .i64 t1686)) (fun _ hk => hk.2) (.int .i64 t1687)) (fun _ hk => hk.2) (.int .i64 t1688)) (fun _ h_ => h_.1))))) (Kd.R_lt (by (with_reducible repeat (first | apply Kd.R_alloc | apply Kd.R_drewN | apply Kd.R_drew)); exact (Kd.R_mono (Kd.R_far (p := ⟨gb1690, 5, none⟩) (Kd.R_far (p := ⟨gb1690, 4, none⟩) (Kd.R_far (p := ⟨gb1690, 3, none⟩) (Kd.R_far (p := ⟨gb1690, 2, none⟩) (Kd.R_far (p := ⟨gb1690, 1, none⟩) (Kd.R_far (p := ⟨gb1690, 0, none⟩) (Kd.R_types HO1682.out BK1690.out (by decide)) (fun _ hk => hk.2) (.bool t1679)) (fun _ hk => hk.2) (.slice Ao24 t1680.length co24)) (fun _ hk => hk.2) (.slice Ao25 t1683.length co25)) (fun _ hk => hk.2) (.int .i64 t1686)) (fun _ hk => hk.2) (.int .i64 t1687)) (fun _ hk => hk.2) (.int .i64 t1688)) (fun _ h_ => h_.1))))) (below_size (pkW HB.out))); replace HO1672 := am (Kd.R_elder' (by (with_reducible repeat (first | apply Kd.R_alloc | apply Kd.R_drewN | apply Kd.R_drew)); exact (Kd.R_mono (Kd.R_far (p := ⟨gb1690, 5, none⟩) (Kd.R_far (p := ⟨gb1690, 4, none⟩) (Kd.R_far (p := ⟨gb1690, 3, none⟩) (Kd.R_far (p := ⟨gb1690, 2, none⟩) (Kd.R_far (p := ⟨gb1690, 1, none⟩) (Kd.R_far (p := ⟨gb1690, 0, none⟩) (Kd.R_types HO1672.out BK1690.out (by decide)) (fun _ hk => hk.2) (.bool t1679)) (fun _ hk => hk.2) (.slice Ao24 t1680.length co24)) (fun _ hk => hk.2) (.slice Ao25 t1683.length co25)) (fun _ hk => hk.2) (.int .i64 t1686)) (fun _ hk => hk.2) (.int .i64 t1687)) (fun _ hk => hk.2) (.int .i64 t1688)) (fun _ h_ => h_.1))) (Kd.R_base ho0) hb); replace HO1682 := am (Kd.R_elder' (by (with_reducible repeat (first | apply Kd.R_alloc | apply Kd.R_drewN | apply Kd.R_drew)); exact (Kd.R_mono (Kd.R_far (p := ⟨gb1690, 5, none⟩) (Kd.R_far (p := ⟨gb1690, 4, none⟩) (Kd.R_far (p := ⟨gb1690, 3, none⟩) (Kd.R_far (p := ⟨gb1690, 2, none⟩) (Kd.R_far (p := ⟨gb1690, 1, none⟩) (Kd.R_far (p := ⟨gb1690, 0, none⟩) (Kd.R_types HO1682.out BK1690.out (by decide)) (fun _ hk => hk.2) (.bool t1679)) (fun _ hk => hk.2) (.slice Ao24 t1680.length co24)) (fun _ hk => hk.2) (.slice Ao25 t1683.length co25)) (fun _ hk => hk.2) (.int .i64 t1686)) (fun _ hk => hk.2) (.int .i64 t1687)) (fun _ hk => hk.2) (.int .i64 t1688)) (fun _ h_ => h_.1))) (Kd.R_base ho0) hb); have HO1697 := am (Kd.R_lower (Kd.R_new' (Kd.R_new' ho1 (Kd.R_lt (by (with_reducible repeat (first | apply Kd.R_alloc | apply Kd.R_drewN | apply Kd.R_drew)); exact (Kd.R_mono (Kd.R_far (p := ⟨gb1690, 5, none⟩) (Kd.R_far (p := ⟨gb1690, 4, none⟩) (Kd.R_far (p := ⟨gb1690, 3, none⟩) (Kd.R_far (p := ⟨gb1690, 2, none⟩) (Kd.R_far (p := ⟨gb1690, 1, none⟩) (Kd.R_far (p := ⟨gb1690, 0, none⟩) (Kd.R_types HO1675.out BK1690.out (by decide)) (fun _ hk => hk.2) (.bool t1679)) (fun _ hk => hk.2) (.slice Ao24 t1680.length co24)) (fun _ hk => hk.2) (.slice Ao25 t1683.length co25)) (fun _ hk => hk.2) (.int .i64 t1686)) (fun _ hk => hk.2) (.int .i64 t1687)) (fun _ hk => hk.2) (.int .i64 t1688)) (fun _ h_ => h_.1))))) (Kd.R_lt (by (with_reducible repeat (first | apply Kd.R_alloc | apply Kd.R_drewN | apply Kd.R_drew)); exact (Kd.R_mono (Kd.R_far (p := ⟨gb1690, 5, none⟩) (Kd.R_far (p := ⟨gb1690, 4, none⟩) (Kd.R_far (p := ⟨gb1690, 3, none⟩) (Kd.R_far (p := ⟨gb1690, 2, none⟩) (Kd.R_far (p := ⟨gb1690, 1, none⟩) (Kd.R_far (p := ⟨gb1690, 0, none⟩) (Kd.R_types HO1685.out BK1690.out (by decide)) (fun _ hk => hk.2) (.bool t1679)) (fun _ hk => hk.2) (.slice Ao24 t1680.length co24)) (fun _ hk => hk.2) (.slice Ao25 t1683.length co25)) (fun _ hk => hk.2) (.int .i64 t1686)) (fun _ hk => hk.2) (.int .i64 t1687)) (fun _ hk => hk.2) (.int .i64 t1688)) (fun _ h_ => h_.1))))) (below_size (pkW HB.out))); replace HO1675 := am (Kd.R_elder' (by (with_reducible repeat (first | apply Kd.R_alloc | apply Kd.R_drewN | apply Kd.R_drew)); exact (Kd.R_mono (Kd.R_far (p := ⟨gb1690, 5, none⟩) (Kd.R_far (p := ⟨gb1690, 4, none⟩) (Kd.R_far (p := ⟨gb1690, 3, none⟩) (Kd.R_far (p := ⟨gb1690, 2, none⟩) (Kd.R_far (p := ⟨gb1690, 1, none⟩) (Kd.R_far (p := ⟨gb1690, 0, none⟩) (Kd.R_types HO1675.out BK1690.out (by decide)) (fun _ hk => hk.2) (.bool t1679)) (fun _ hk => hk.2) (.slice Ao24 t1680.length co24)) (fun _ hk => hk.2) (.slice Ao25 t1683.length co25)) (fun _ hk => hk.2) (.int .i64 t1686)) (fun _ hk => hk.2) (.int .i64 t1687)) (fun _ hk => hk.2) (.int .i64 t1688)) (fun _ h_ => h_.1))) (Kd.R_base ho1) hb); replace HO1685 := am (Kd.R_elder' (by (with_reducible repeat (first | apply Kd.R_alloc | apply Kd.R_drewN | apply Kd.R_drew)); exact (Kd.R_mono (Kd.R_far (p := ⟨gb1690, 5, none⟩) (Kd.R_far (p := ⟨gb1690, 4, none⟩) (Kd.R_far (p := ⟨gb1690, 3, none⟩) (Kd.R_far (p := ⟨gb1690, 2, none⟩) (Kd.R_far (p := ⟨gb1690, 1, none⟩) (Kd.R_far (p := ⟨gb1690, 0, none⟩) (Kd.R_types HO1685.out BK1690.out (by decide)) (fun _ hk => hk.2) (.bool t1679)) (fun _ hk => hk.2) (.slice Ao24 t1680.length co24)) (fun _ hk => hk.2) (.slice Ao25 t1683.length co25)) (fun _ hk => hk.2) (.int .i64 t1686)) (fun _ hk => hk.2) (.int .i64 t1687)) (fun _ hk => hk.2) (.int .i64 t1688)) (fun _ h_ => h_.1))) (Kd.R_base ho1) hb); replace BK1667 := am (blk_below (g := gb1667) (o := .cells #[.bool a0_0, .slice A0_1 l0_1.length c0_1, .slice A0_2 l0_2.length c0_2, .int .i64 a0_3, .int .i64 a0_4, .int .i64 a0_5] 33 (0, 0)) (by (with_reducible repeat (first | refine blk_drewN ?_ _ | refine blk_drew ?_ | refine blk_alloc ?_ _)); refine blk_far ?_ NB1667_1690.out _; (with_reducible repeat (first | refine blk_drewN ?_ _ | refine blk_drew ?_ | refine blk_alloc ?_ _)); refine blk_far ?_ NB1667_1690.out _; (with_reducible repeat (first | refine blk_drewN ?_ _ | refine blk_drew ?_ | refine blk_alloc ?_ _)); refine blk_far ?_ NB1667_1690.out _; (with_reducible repeat (first | refine blk_drewN ?_ _ | refine blk_drew ?_ | refine blk_alloc ?_ _)); refine blk_far ?_ NB1667_1690.out _; (with_reducible repeat (first | refine blk_drewN ?_ _ | refine blk_drew ?_ | refine blk_alloc ?_ _)); refine blk_far ?_ NB1667_1690.out _; (with_reducible repeat (first | refine blk_drewN ?_ _ | refine blk_drew ?_ | refine blk_alloc ?_ _)); refine blk_far ?_ NB1667_1690.out _; exact pkK BK1667.out) hb); replace BK1690 := am (blk_below (g := gb1690) (o := .cells #[.bool t1679, .slice Ao24 t1680.length co24, .slice Ao25 t1683.length co25, .int .i64 t1686, .int .i64 t1687, .int .i64 t1688] 38 (0, 0)) (by (with_reducible repeat (first | refine blk_drewN ?_ _ | refine blk_drew ?_ | refine blk_alloc ?_ _)); refine blk_put (cs := #[.bool t1679, .slice Ao24 t1680.length co24, .slice Ao25 t1683.length co25, .int .i64 t1686, .int .i64 t1687, .int .i64 0]) ?_ 5 _ rfl; (with_reducible repeat (first | refine blk_drewN ?_ _ | refine blk_drew ?_ | refine blk_alloc ?_ _)); refine blk_put (cs := #[.bool t1679, .slice Ao24 t1680.length co24, .slice Ao25 t1683.length co25, .int .i64 t1686, .int .i64 0, .int .i64 0]) ?_ 4 _ rfl; (with_reducible repeat (first | refine blk_drewN ?_ _ | refine blk_drew ?_ | refine blk_alloc ?_ _)); refine blk_put (cs := #[.bool t1679, .slice Ao24 t1680.length co24, .slice Ao25 t1683.length co25, .int .i64 0, .int .i64 0, .int .i64 0]) ?_ 3 _ rfl; (with_reducible repeat (first | refine blk_drewN ?_ _ | refine blk_drew ?_ | refine blk_alloc ?_ _)); refine blk_put (cs := #[.bool t1679, .slice Ao24 t1680.length co24, .slice none 0 0, .int .i64 0, .int .i64 0, .int .i64 0]) ?_ 2 _ rfl; (with_reducible repeat (first | refine blk_drewN ?_ _ | refine blk_drew ?_ | refine blk_alloc ?_ _)); refine blk_put (cs := #[.bool t1679, .slice none 0 0, .slice none 0 0, .int .i64 0, .int .i64 0, .int .i64 0]) ?_ 1 _ rfl; (with_reducible repeat (first | refine blk_drewN ?_ _ | refine blk_drew ?_ | refine blk_alloc ?_ _)); refine blk_put (cs := #[.bool false, .slice none 0 0, .slice none 0 0, .int .i64 0, .int .i64 0, .int .i64 0]) ?_ 0 _ rfl; exact pkK BK1690.out) hb); replace HB := am (below_step (pkW HB.out) hb); (try clear hb ho0 ho1)) | ((with_reducible refine gate_dst (N := 8) rfl ?_); refine box_event ?hg (N := 8) ?hd (cs := #[.bool false, .slice none 0 0, .slice none 0 0, .int .i64 0, .int .i64 0, .int .i64 0]) (t := 38) ?hr ?_; (case hd => rfl); (case hg => rfl); (case hr => first | (go_simp; done) | (go_simp; rfl)); intro gb1701 hg w28 hbox hb; replace HO1672 := am (Kd.R_below (pkR HO1672.out) hb); replace HO1675 := am (Kd.R_below (pkR HO1675.out) hb); replace HO1682 := am (Kd.R_below (pkR HO1682.out) hb); replace HO1685 := am (Kd.R_below (pkR HO1685.out) hb); replace HO1694 := am (Kd.R_below (pkR HO1694.out) hb); replace HO1697 := am (Kd.R_below (pkR HO1697.out) hb); have BK1701 := am (hbox); have GW1701 := am ((by rw [hg]; exact (below_size (pkW HB.out)) : w.heap.size ≤ gb1701)); have GE1701 := am ((by rw [hg]; exact (below_size (pkW HB.out)) : w.heap.size ≤ gb1701)); replace HB := am (below_step (pkW HB.out) hb); have NB1667_1701 := am ((by rw [hg]; exact Nat.ne_of_lt (blk_lt (g := gb1667) (o := .cells #[.bool a0_0, .slice A0_1 l0_1.length c0_1, .slice A0_2 l0_2.length c0_2, .int .i64 a0_3, .int .i64 a0_4, .int .i64 a0_5] 33 (0, 0)) (pkK BK1667.out)) : gb1667 ≠ gb1701)); have NB1701_1667 := am ((by rw [hg]; exact Nat.ne_of_gt (blk_lt (g := gb1667) (o := .cells #[.bool a0_0, .slice A0_1 l0_1.length c0_1, .slice A0_2 l0_2.length c0_2, .int .i64 a0_3, .int .i64 a0_4, .int .i64 a0_5] 33 (0, 0)) (pkK BK1667.out)) : gb1701 ≠ gb1667)); replace BK1667 := am (blk_below (pkK BK1667.out) hb); have NB1690_1701 := am ((by rw [hg]; exact Nat.ne_of_lt (blk_lt (g := gb1690) (o := .cells #[.bool t1679, .slice Ao24 t1680.length co24, .slice Ao25 t1683.length co25, .int .i64 t1686, .int .i64 t1687, .int .i64 t1688] 38 (0, 0)) (pkK BK1690.out)) : gb1690 ≠ gb1701)); have NB1701_1690 := am ((by rw [hg]; exact Nat.ne_of_gt (blk_lt (g := gb1690) (o := .cells #[.bool t1679, .slice Ao24 t1680.length co24, .slice Ao25 t1683.length co25, .int .i64 t1686, .int .i64 t1687, .int .i64 t1688] 38 (0, 0)) (pkK BK1690.out)) : gb1701 ≠ gb1690)); replace BK1690 := am (blk_below (pkK BK1690.out) hb); clear hb hbox hg; have hnb29 := NB1701_1667.out; have hnc29 := NB1667_1701.out; have hnb30 := NB1701_1690.out; have hnc30 := NB1690_1701.out; obtain ⟨hcz31_0, hcz31_1, hcz31_2, hcz31_3, hcz31_4, hcz31_5, hfz31_0, hfz31_1, hfz31_2, hfz31_3, hfz31_4, hfz31_5⟩ := bk6 BK1701.out; obtain ⟨Ao32, co32, eo32⟩ := Kd.R_slice HO1694.out; subst eo32; obtain ⟨Ao33, co33, eo33⟩ := Kd.R_slice HO1697.out; subst eo33) | ((with_reducible refine gate_callee (f := 49) rfl ?_); refine goesL_ (some 33) rfl rfl Try.func49 (by kernel_rfl) rfl #[.agg #[.bool t1691, .slice Ao32 t1692.length co32, .slice Ao33 t1695.length co33, .int .i64 t1698, .int .i64 t1699, .int .i64 t1700], .int .i64 a1] rfl mpx ?_; (with_reducible refine (impl_Resume.calls k t1691 _ _ t1692 _ _ t1695 t1698 t1699 t1700 a1 t1702 t1703 t1706 t1709 t1710 t1711 t1712 _ ?side1 ?side2 ?side3 ?side4 A11.out).mono ?_); (case side1 => refine (Kd.R_reads' (e := 3) (base := w.heap.size) (ok := fun k_ => ((True ∧ some k_ ≠ (.slice Ao18 t1670.length co18 : Value).ownBlock) ∧ some k_ ≠ (.slice Ao24 t1680.length co24 : Value).ownBlock)) (n := t1692.length) (c := co32) ?_).2.2; exact (by (with_reducible repeat (first | apply Kd.R_alloc | apply Kd.R_drewN | apply Kd.R_drew)); exact (Kd.R_mono (Kd.R_far (p := ⟨gb1701, 5, none⟩) (Kd.R_far (p := ⟨gb1701, 4, none⟩) (Kd.R_far (p := ⟨gb1701, 3, none⟩) (Kd.R_far (p := ⟨gb1701, 2, none⟩) (Kd.R_far (p := ⟨gb1701, 1, none⟩) (Kd.R_far (p := ⟨gb1701, 0, none⟩) (Kd.R_types HO1694.out BK1701.out (by decide)) (fun _ hk => hk.2) (.bool t1691)) (fun _ hk => hk.2) (.slice Ao32 t1692.length co32)) (fun _ hk => hk.2) (.slice Ao33 t1695.length co33)) (fun _ hk => hk.2) (.int .i64 t1698)) (fun _ hk => hk.2) (.int .i64 t1699)) (fun _ hk => hk.2) (.int .i64 t1700)) (fun _ h_ => h_.1)))); (case side2 => exact (Kd.R_reads' HO1694.out).2.1); (case side3 => refine (Kd.R_reads' (e := 67) (base := w.heap.size) (ok := fun k_ => ((True ∧ some k_ ≠ (.slice Ao19 t1673.length co19 : Value).ownBlock) ∧ some k_ ≠ (.slice Ao25 t1683.length co25 : Value).ownBlock)) (n := t1695.length) (c := co33) ?_).2.2; exact (by (with_reducible repeat (first | apply Kd.R_alloc | apply Kd.R_drewN | apply Kd.R_drew)); exact (Kd.R_mono (Kd.R_far (p := ⟨gb1701, 5, none⟩) (Kd.R_far (p := ⟨gb1701, 4, none⟩) (Kd.R_far (p := ⟨gb1701, 3, none⟩) (Kd.R_far (p := ⟨gb1701, 2, none⟩) (Kd.R_far (p := ⟨gb1701, 1, none⟩) (Kd.R_far (p := ⟨gb1701, 0, none⟩) (Kd.R_types HO1697.out BK1701.out (by decide)) (fun _ hk => hk.2) (.bool t1691)) (fun _ hk => hk.2) (.slice Ao32 t1692.length co32)) (fun _ hk => hk.2) (.slice Ao33 t1695.length co33)) (fun _ hk => hk.2) (.int .i64 t1698)) (fun _ hk => hk.2) (.int .i64 t1699)) (fun _ hk => hk.2) (.int .i64 t1700)) (fun _ h_ => h_.1)))); (case side4 => exact (Kd.R_reads' HO1697.out).2.1); rintro e w34 ⟨v1704, v1707, rfl, ho0, ho1, hb⟩; refine ⟨_, rfl, ?_⟩; have HO1705 := am (Kd.R_lower (Kd.R_new' (Kd.R_new' (Kd.R_new' ho0 (Kd.R_lt (by (with_reducible repeat (first | apply Kd.R_alloc | apply Kd.R_drewN | apply Kd.R_drew)); exact (Kd.R_mono (Kd.R_far (p := ⟨gb1701, 5, none⟩) (Kd.R_far (p := ⟨gb1701, 4, none⟩) (Kd.R_far (p := ⟨gb1701, 3, none⟩) (Kd.R_far (p := ⟨gb1701, 2, none⟩) (Kd.R_far (p := ⟨gb1701, 1, none⟩) (Kd.R_far (p := ⟨gb1701, 0, none⟩) (Kd.R_types HO1672.out BK1701.out (by decide)) (fun _ hk => hk.2) (.bool t1691)) (fun _ hk => hk.2) (.slice Ao32 t1692.length co32)) (fun _ hk => hk.2) (.slice Ao33 t1695.length co33)) (fun _ hk => hk.2) (.int .i64 t1698)) (fun _ hk => hk.2) (.int .i64 t1699)) (fun _ hk => hk.2) (.int .i64 t1700)) (fun _ h_ => h_.1))))) (Kd.R_lt (by (with_reducible repeat (first | apply Kd.R_alloc | apply Kd.R_drewN | apply Kd.R_drew)); exact (Kd.R_mono (Kd.R_far (p := ⟨gb1701, 5, none⟩) (Kd.R_far (p := ⟨gb1701, 4, none⟩) (Kd.R_far (p := ⟨gb1701, 3, none⟩) (Kd.R_far (p := ⟨gb1701, 2, none⟩) (Kd.R_far (p := ⟨gb1701, 1, none⟩) (Kd.R_far (p := ⟨gb1701, 0, none⟩) (Kd.R_types HO1682.out BK1701.out (by decide)) (fun _ hk => hk.2) (.bool t1691)) (fun _ hk => hk.2) (.slice Ao32 t1692.length co32)) (fun _ hk => hk.2) (.slice Ao33 t1695.length co33)) (fun _ hk => hk.2) (.int .i64 t1698)) (fun _ hk => hk.2) (.int .i64 t1699)) (fun _ hk => hk.2) (.int .i64 t1700)) (fun _ h_ => h_.1))))) (Kd.R_lt (by (with_reducible repeat (first | apply Kd.R_alloc | apply Kd.R_drewN | apply Kd.R_drew)); exact (Kd.R_mono (Kd.R_far (p := ⟨gb1701, 5, none⟩) (Kd.R_far (p := ⟨gb1701, 4, none⟩) (Kd.R_far (p := ⟨gb1701, 3, none⟩) (Kd.R_far (p := ⟨gb1701, 2, none⟩) (Kd.R_far (p := ⟨gb1701, 1, none⟩) (Kd.R_far (p := ⟨gb1701, 0, none⟩) (Kd.R_types HO1694.out BK1701.out (by decide)) (fun _ hk => hk.2) (.bool t1691)) (fun _ hk => hk.2) (.slice Ao32 t1692.length co32)) (fun _ hk => hk.2) (.slice Ao33 t1695.length co33)) (fun _ hk => hk.2) (.int .i64 t1698)) (fun _ hk => hk.2) (.int .i64 t1699)) (fun _ hk => hk.2) (.int .i64 t1700)) (fun _ h_ => h_.1))))) (below_size (pkW HB.out))); replace HO1672 := am (Kd.R_elder' (by (with_reducible repeat (first | apply Kd.R_alloc | apply Kd.R_drewN | apply Kd.R_drew)); exact (Kd.R_mono (Kd.R_far (p := ⟨gb1701, 5, none⟩) (Kd.R_far (p := ⟨gb1701, 4, none⟩) (Kd.R_far (p := ⟨gb1701, 3, none⟩) (Kd.R_far (p := ⟨gb1701, 2, none⟩) (Kd.R_far (p := ⟨gb1701, 1, none⟩) (Kd.R_far (p := ⟨gb1701, 0, none⟩) (Kd.R_types HO1672.out BK1701.out (by decide)) (fun _ hk => hk.2) (.bool t1691)) (fun _ hk => hk.2) (.slice Ao32 t1692.length co32)) (fun _ hk => hk.2) (.slice Ao33 t1695.length co33)) (fun _ hk => hk.2) (.int .i64 t1698)) (fun _ hk => hk.2) (.int .i64 t1699)) (fun _ hk => hk.2) (.int .i64 t1700)) (fun _ h_ => h_.1))) (Kd.R_base ho0) hb); replace HO1682 := am (Kd.R_elder' (by (with_reducible repeat (first | apply Kd.R_alloc | apply Kd.R_drewN | apply Kd.R_drew)); exact (Kd.R_mono (Kd.R_far (p := ⟨gb1701, 5, none⟩) (Kd.R_far (p := ⟨gb1701, 4, none⟩) (Kd.R_far (p := ⟨gb1701, 3, none⟩) (Kd.R_far (p := ⟨gb1701, 2, none⟩) (Kd.R_far (p := ⟨gb1701, 1, none⟩) (Kd.R_far (p := ⟨gb1701, 0, none⟩) (Kd.R_types HO1682.out BK1701.out (by decide)) (fun _ hk => hk.2) (.bool t1691)) (fun _ hk => hk.2) (.slice Ao32 t1692.length co32)) (fun _ hk => hk.2) (.slice Ao33 t1695.length co33)) (fun _ hk => hk.2) (.int .i64 t1698)) (fun _ hk => hk.2) (.int .i64 t1699)) (fun _ hk => hk.2) (.int .i64 t1700)) (fun _ h_ => h_.1))) (Kd.R_base ho0) hb); replace HO1694 := am (Kd.R_elder' (by (with_reducible repeat (first | apply Kd.R_alloc | apply Kd.R_drewN | apply Kd.R_drew)); exact (Kd.R_mono (Kd.R_far (p := ⟨gb1701, 5, none⟩) (Kd.R_far (p := ⟨gb1701, 4, none⟩) (Kd.R_far (p := ⟨gb1701, 3, none⟩) (Kd.R_far (p := ⟨gb1701, 2, none⟩) (Kd.R_far (p := ⟨gb1701, 1, none⟩) (Kd.R_far (p := ⟨gb1701, 0, none⟩) (Kd.R_types HO1694.out BK1701.out (by decide)) (fun _ hk => hk.2) (.bool t1691)) (fun _ hk => hk.2) (.slice Ao32 t1692.length co32)) (fun _ hk => hk.2) (.slice Ao33 t1695.length co33)) (fun _ hk => hk.2) (.int .i64 t1698)) (fun _ hk => hk.2) (.int .i64 t1699)) (fun _ hk => hk.2) (.int .i64 t1700)) (fun _ h_ => h_.1))) (Kd.R_base ho0) hb); have HO1708 := am (Kd.R_lower (Kd.R_new' (Kd.R_new' (Kd.R_new' ho1 (Kd.R_lt (by (with_reducible repeat (first | apply Kd.R_alloc | apply Kd.R_drewN | apply Kd.R_drew)); exact (Kd.R_mono (Kd.R_far (p := ⟨gb1701, 5, none⟩) (Kd.R_far (p := ⟨gb1701, 4, none⟩) (Kd.R_far (p := ⟨gb1701, 3, none⟩) (Kd.R_far (p := ⟨gb1701, 2, none⟩) (Kd.R_far (p := ⟨gb1701, 1, none⟩) (Kd.R_far (p := ⟨gb1701, 0, none⟩) (Kd.R_types HO1675.out BK1701.out (by decide)) (fun _ hk => hk.2) (.bool t1691)) (fun _ hk => hk.2) (.slice Ao32 t1692.length co32)) (fun _ hk => hk.2) (.slice Ao33 t1695.length co33)) (fun _ hk => hk.2) (.int .i64 t1698)) (fun _ hk => hk.2) (.int .i64 t1699)) (fun _ hk => hk.2) (.int .i64 t1700)) (fun _ h_ => h_.1))))) (Kd.R_lt (by (with_reducible repeat (first | apply Kd.R_alloc | apply Kd.R_drewN | apply Kd.R_drew)); exact (Kd.R_mono (Kd.R_far (p := ⟨gb1701, 5, none⟩) (Kd.R_far (p := ⟨gb1701, 4, none⟩) (Kd.R_far (p := ⟨gb1701, 3, none⟩) (Kd.R_far (p := ⟨gb1701, 2, none⟩) (Kd.R_far (p := ⟨gb1701, 1, none⟩) (Kd.R_far (p := ⟨gb1701, 0, none⟩) (Kd.R_types HO1685.out BK1701.out (by decide)) (fun _ hk => hk.2) (.bool t1691)) (fun _ hk => hk.2) (.slice Ao32 t1692.length co32)) (fun _ hk => hk.2) (.slice Ao33 t1695.length co33)) (fun _ hk => hk.2) (.int .i64 t1698)) (fun _ hk => hk.2) (.int .i64 t1699)) (fun _ hk => hk.2) (.int .i64 t1700)) (fun _ h_ => h_.1))))) (Kd.R_lt (by (with_reducible repeat (first | apply Kd.R_alloc | apply Kd.R_drewN | apply Kd.R_drew)); exact (Kd.R_mono (Kd.R_far (p := ⟨gb1701, 5, none⟩) (Kd.R_far (p := ⟨gb1701, 4, none⟩) (Kd.R_far (p := ⟨gb1701, 3, none⟩) (Kd.R_far (p := ⟨gb1701, 2, none⟩) (Kd.R_far (p := ⟨gb1701, 1, none⟩) (Kd.R_far (p := ⟨gb1701, 0, none⟩) (Kd.R_types HO1697.out BK1701.out (by decide)) (fun _ hk => hk.2) (.bool t1691)) (fun _ hk => hk.2) (.slice Ao32 t1692.length co32)) (fun _ hk => hk.2) (.slice Ao33 t1695.length co33)) (fun _ hk => hk.2) (.int .i64 t1698)) (fun _ hk => hk.2) (.int .i64 t1699)) (fun _ hk => hk.2) (.int .i64 t1700)) (fun _ h_ => h_.1))))) (below_size (pkW HB.out))); replace HO1675 := am (Kd.R_elder' (by (with_reducible repeat (first | apply Kd.R_alloc | apply Kd.R_drewN | apply Kd.R_drew)); exact (Kd.R_mono (Kd.R_far (p := ⟨gb1701, 5, none⟩) (Kd.R_far (p := ⟨gb1701, 4, none⟩) (Kd.R_far (p := ⟨gb1701, 3, none⟩) (Kd.R_far (p := ⟨gb1701, 2, none⟩) (Kd.R_far (p := ⟨gb1701, 1, none⟩) (Kd.R_far (p := ⟨gb1701, 0, none⟩) (Kd.R_types HO1675.out BK1701.out (by decide)) (fun _ hk => hk.2) (.bool t1691)) (fun _ hk => hk.2) (.slice Ao32 t1692.length co32)) (fun _ hk => hk.2) (.slice Ao33 t1695.length co33)) (fun _ hk => hk.2) (.int .i64 t1698)) (fun _ hk => hk.2) (.int .i64 t1699)) (fun _ hk => hk.2) (.int .i64 t1700)) (fun _ h_ => h_.1))) (Kd.R_base ho1) hb); replace HO1685 := am (Kd.R_elder' (by (with_reducible repeat (first | apply Kd.R_alloc | apply Kd.R_drewN | apply Kd.R_drew)); exact (Kd.R_mono (Kd.R_far (p := ⟨gb1701, 5, none⟩) (Kd.R_far (p := ⟨gb1701, 4, none⟩) (Kd.R_far (p := ⟨gb1701, 3, none⟩) (Kd.R_far (p := ⟨gb1701, 2, none⟩) (Kd.R_far (p := ⟨gb1701, 1, none⟩) (Kd.R_far (p := ⟨gb1701, 0, none⟩) (Kd.R_types HO1685.out BK1701.out (by decide)) (fun _ hk => hk.2) (.bool t1691)) (fun _ hk => hk.2) (.slice Ao32 t1692.length co32)) (fun _ hk => hk.2) (.slice Ao33 t1695.length co33)) (fun _ hk => hk.2) (.int .i64 t1698)) (fun _ hk => hk.2) (.int .i64 t1699)) (fun _ hk => hk.2) (.int .i64 t1700)) (fun _ h_ => h_.1))) (Kd.R_base ho1) hb); replace HO1697 := am (Kd.R_elder' (by (with_reducible repeat (first | apply Kd.R_alloc | apply Kd.R_drewN | apply Kd.R_drew)); exact (Kd.R_mono (Kd.R_far (p := ⟨gb1701, 5, none⟩) (Kd.R_far (p := ⟨gb1701, 4, none⟩) (Kd.R_far (p := ⟨gb1701, 3, none⟩) (Kd.R_far (p := ⟨gb1701, 2, none⟩) (Kd.R_far (p := ⟨gb1701, 1, none⟩) (Kd.R_far (p := ⟨gb1701, 0, none⟩) (Kd.R_types HO1697.out BK1701.out (by decide)) (fun _ hk => hk.2) (.bool t1691)) (fun _ hk => hk.2) (.slice Ao32 t1692.length co32)) (fun _ hk => hk.2) (.slice Ao33 t1695.length co33)) (fun _ hk => hk.2) (.int .i64 t1698)) (fun _ hk => hk.2) (.int .i64 t1699)) (fun _ hk => hk.2) (.int .i64 t1700)) (fun _ h_ => h_.1))) (Kd.R_base ho1) hb); replace BK1667 := am (blk_below (g := gb1667) (o := .cells #[.bool a0_0, .slice A0_1 l0_1.length c0_1, .slice A0_2 l0_2.length c0_2, .int .i64 a0_3, .int .i64 a0_4, .int .i64 a0_5] 33 (0, 0)) (by (with_reducible repeat (first | refine blk_drewN ?_ _ | refine blk_drew ?_ | refine blk_alloc ?_ _)); refine blk_far ?_ NB1667_1701.out _; (with_reducible repeat (first | refine blk_drewN ?_ _ | refine blk_drew ?_ | refine blk_alloc ?_ _)); refine blk_far ?_ NB1667_1701.out _; (with_reducible repeat (first | refine blk_drewN ?_ _ | refine blk_drew ?_ | refine blk_alloc ?_ _)); refine blk_far ?_ NB1667_1701.out _; (with_reducible repeat (first | refine blk_drewN ?_ _ | refine blk_drew ?_ | refine blk_alloc ?_ _)); refine blk_far ?_ NB1667_1701.out _; (with_reducible repeat (first | refine blk_drewN ?_ _ | refine blk_drew ?_ | refine blk_alloc ?_ _)); refine blk_far ?_ NB1667_1701.out _; (with_reducible repeat (first | refine blk_drewN ?_ _ | refine blk_drew ?_ | refine blk_alloc ?_ _)); refine blk_far ?_ NB1667_1701.out _; exact pkK BK1667.out) hb); replace BK1690 := am (blk_below (g := gb1690) (o := .cells #[.bool t1679, .slice Ao24 t1680.length co24, .slice Ao25 t1683.length co25, .int .i64 t1686, .int .i64 t1687, .int .i64 t1688] 38 (0, 0)) (by (with_reducible repeat (first | refine blk_drewN ?_ _ | refine blk_drew ?_ | refine blk_alloc ?_ _)); refine blk_far ?_ NB1690_1701.out _; (with_reducible repeat (first | refine blk_drewN ?_ _ | refine blk_drew ?_ | refine blk_alloc ?_ _)); refine blk_far ?_ NB1690_1701.out _; (with_reducible repeat (first | refine blk_drewN ?_ _ | refine blk_drew ?_ | refine blk_alloc ?_ _)); refine blk_far ?_ NB1690_1701.out _; (with_reducible repeat (first | refine blk_drewN ?_ _ | refine blk_drew ?_ | refine blk_alloc ?_ _)); refine blk_far ?_ NB1690_1701.out _; (with_reducible repeat (first | refine blk_drewN ?_ _ | refine blk_drew ?_ | refine blk_alloc ?_ _)); refine blk_far ?_ NB1690_1701.out _; (with_reducible repeat (first | refine blk_drewN ?_ _ | refine blk_drew ?_ | refine blk_alloc ?_ _)); refine blk_far ?_ NB1690_1701.out _; exact pkK BK1690.out) hb); replace BK1701 := am (blk_below (g := gb1701) (o := .cells #[.bool t1691, .slice Ao32 t1692.length co32, .slice Ao33 t1695.length co33, .int .i64 t1698, .int .i64 t1699, .int .i64 t1700] 38 (0, 0)) (by (with_reducible repeat (first | refine blk_drewN ?_ _ | refine blk_drew ?_ | refine blk_alloc ?_ _)); refine blk_put (cs := #[.bool t1691, .slice Ao32 t1692.length co32, .slice Ao33 t1695.length co33, .int .i64 t1698, .int .i64 t1699, .int .i64 0]) ?_ 5 _ rfl; (with_reducible repeat (first | refine blk_drewN ?_ _ | refine blk_drew ?_ | refine blk_alloc ?_ _)); refine blk_put (cs := #[.bool t1691, .slice Ao32 t1692.length co32, .slice Ao33 t1695.length co33, .int .i64 t1698, .int .i64 0, .int .i64 0]) ?_ 4 _ rfl; (with_reducible repeat (first | refine blk_drewN ?_ _ | refine blk_drew ?_ | refine blk_alloc ?_ _)); refine blk_put (cs := #[.bool t1691, .slice Ao32 t1692.length co32, .slice Ao33 t1695.length co33, .int .i64 0, .int .i64 0, .int .i64 0]) ?_ 3 _ rfl; (with_reducible repeat (first | refine blk_drewN ?_ _ | refine blk_drew ?_ | refine blk_alloc ?_ _)); refine blk_put (cs := #[.bool t1691, .slice Ao32 t1692.length co32, .slice none 0 0, .int .i64 0, .int .i64 0, .int .i64 0]) ?_ 2 _ rfl; (with_reducible repeat (first | refine blk_drewN ?_ _ | refine blk_drew ?_ | refine blk_alloc ?_ _)); refine blk_put (cs := #[.bool t1691, .slice none 0 0, .slice none 0 0, .int .i64 0, .int .i64 0, .int .i64 0]) ?_ 1 _ rfl; (with_reducible repeat (first | refine blk_drewN ?_ _ | refine blk_drew ?_ | refine blk_alloc ?_ _)); refine blk_put (cs := #[.bool false, .slice none 0 0, .slice none 0 0, .int .i64 0, .int .i64 0, .int .i64 0]) ?_ 0 _ rfl; exact pkK BK1701.out) hb); replace HB := am (below_step (pkW HB.out) hb); (try clear hb ho0 ho1)) | ((with_reducible refine gate_dst (N := 9) rfl ?_); refine box_event ?hg (N := 9) ?hd (cs := #[.bool false, .slice none 0 0, .slice none 0 0, .int .i64 0, .int .i64 0, .int .i64 0]) (t := 38) ?hr ?_; (case hd => rfl); (case hg => rfl); (case hr => first | (go_simp; done) | (go_simp; rfl)); intro gb1713 hg w35 hbox hb; replace HO1672 := am (Kd.R_below (pkR HO1672.out) hb); replace HO1675 := am (Kd.R_below (pkR HO1675.out) hb); replace HO1682 := am (Kd.R_below (pkR HO1682.out) hb); replace HO1685 := am (Kd.R_below (pkR HO1685.out) hb); replace HO1694 := am (Kd.R_below (pkR HO1694.out) hb); replace HO1697 := am (Kd.R_below (pkR HO1697.out) hb); replace HO1705 := am (Kd.R_below (pkR HO1705.out) hb); replace HO1708 := am (Kd.R_below (pkR HO1708.out) hb); have BK1713 := am (hbox); have GW1713 := am ((by rw [hg]; exact (below_size (pkW HB.out)) : w.heap.size ≤ gb1713)); have GE1713 := am ((by rw [hg]; exact (below_size (pkW HB.out)) : w.heap.size ≤ gb1713)); replace HB := am (below_step (pkW HB.out) hb); have NB1667_1713 := am ((by rw [hg]; exact Nat.ne_of_lt (blk_lt (g := gb1667) (o := .cells #[.bool a0_0, .slice A0_1 l0_1.length c0_1, .slice A0_2 l0_2.length c0_2, .int .i64 a0_3, .int .i64 a0_4, .int .i64 a0_5] 33 (0, 0)) (pkK BK1667.out)) : gb1667 ≠ gb1713)); have NB1713_1667 := am ((by rw [hg]; exact Nat.ne_of_gt (blk_lt (g := gb1667) (o := .cells #[.bool a0_0, .slice A0_1 l0_1.length c0_1, .slice A0_2 l0_2.length c0_2, .int .i64 a0_3, .int .i64 a0_4, .int .i64 a0_5] 33 (0, 0)) (pkK BK1667.out)) : gb1713 ≠ gb1667)); replace BK1667 := am (blk_below (pkK BK1667.out) hb); have NB1690_1713 := am ((by rw [hg]; exact Nat.ne_of_lt (blk_lt (g := gb1690) (o := .cells #[.bool t1679, .slice Ao24 t1680.length co24, .slice Ao25 t1683.length co25, .int .i64 t1686, .int .i64 t1687, .int .i64 t1688] 38 (0, 0)) (pkK BK1690.out)) : gb1690 ≠ gb1713)); have NB1713_1690 := am ((by rw [hg]; exact Nat.ne_of_gt (blk_lt (g := gb1690) (o := .cells #[.bool t1679, .slice Ao24 t1680.length co24, .slice Ao25 t1683.length co25, .int .i64 t1686, .int .i64 t1687, .int .i64 t1688] 38 (0, 0)) (pkK BK1690.out)) : gb1713 ≠ gb1690)); replace BK1690 := am (blk_below (pkK BK1690.out) hb); have NB1701_1713 := am ((by rw [hg]; exact Nat.ne_of_lt (blk_lt (g := gb1701) (o := .cells #[.bool t1691, .slice Ao32 t1692.length co32, .slice Ao33 t1695.length co33, .int .i64 t1698, .int .i64 t1699, .int .i64 t1700] 38 (0, 0)) (pkK BK1701.out)) : gb1701 ≠ gb1713)); have NB1713_1701 := am ((by rw [hg]; exact Nat.ne_of_gt (blk_lt (g := gb1701) (o := .cells #[.bool t1691, .slice Ao32 t1692.length co32, .slice Ao33 t1695.length co33, .int .i64 t1698, .int .i64 t1699, .int .i64 t1700] 38 (0, 0)) (pkK BK1701.out)) : gb1713 ≠ gb1701)); replace BK1701 := am (blk_below (pkK BK1701.out) hb); clear hb hbox hg; have hnb36 := NB1713_1667.out; have hnc36 := NB1667_1713.out; have hnb37 := NB1713_1690.out; have hnc37 := NB1690_1713.out; have hnb38 := NB1713_1701.out; have hnc38 := NB1701_1713.out; obtain ⟨hcz39_0, hcz39_1, hcz39_2, hcz39_3, hcz39_4, hcz39_5, hfz39_0, hfz39_1, hfz39_2, hfz39_3, hfz39_4, hfz39_5⟩ := bk6 BK1713.out; obtain ⟨Ao40, co40, eo40⟩ := Kd.R_slice HO1705.out; subst eo40; obtain ⟨Ao41, co41, eo41⟩ := Kd.R_slice HO1708.out; subst eo41))
  (try simp only [Act.put, List.setIfInBounds_toArray, List.set_cons_zero, List.set_cons_succ])
  go_cut [44] (fun v44 wc => ∃ (kq : Nat) (x44_11 : Bool), v44 = .bool x44_11 ∧ Aside0 (laws_FnExactResume.j0 kq a1 t1689 t1712 x44_11 a0_0 l0_1 l0_2 a0_3 a0_4 a0_5 t1679 t1680 t1683 t1686 t1687 t1688 t1691 t1692 t1695 t1698 t1699 t1700 t1702 t1703 t1706 t1709 t1710 t1711 = some r) ∧ Aside0 (kq ≤ k) ∧ Aside0 (Kd.R (Kd.int .i64) 3 wc w.heap.size (fun k_ => some k_ ≠ ((.slice Ao32 t1692.length co32) : Value).ownBlock ∧ some k_ ≠ ((.slice Ao40 t1703.length co40) : Value).ownBlock) (.slice Ao24 t1680.length co24) t1680) ∧ Aside0 (Kd.R k67 67 wc w.heap.size (fun k_ => some k_ ≠ ((.slice Ao33 t1695.length co33) : Value).ownBlock ∧ some k_ ≠ ((.slice Ao41 t1706.length co41) : Value).ownBlock) (.slice Ao25 t1683.length co25) t1683) ∧ Aside0 (Kd.Q (Kd.int .i64) 3 wc w.heap.size (fun k_ => some k_ ≠ ((.slice Ao24 t1680.length co24) : Value).ownBlock ∧ some k_ ≠ ((.slice Ao40 t1703.length co40) : Value).ownBlock) (.slice Ao32 t1692.length co32) t1692) ∧ Aside0 (Kd.R k67 67 wc w.heap.size (fun k_ => some k_ ≠ ((.slice Ao25 t1683.length co25) : Value).ownBlock ∧ some k_ ≠ ((.slice Ao41 t1706.length co41) : Value).ownBlock) (.slice Ao33 t1695.length co33) t1695) ∧ Aside0 (Kd.Q (Kd.int .i64) 3 wc w.heap.size (fun k_ => some k_ ≠ ((.slice Ao24 t1680.length co24) : Value).ownBlock ∧ some k_ ≠ ((.slice Ao32 t1692.length co32) : Value).ownBlock) (.slice Ao40 t1703.length co40) t1703) ∧ Aside0 (Kd.R k67 67 wc w.heap.size (fun k_ => some k_ ≠ ((.slice Ao25 t1683.length co25) : Value).ownBlock ∧ some k_ ≠ ((.slice Ao33 t1695.length co33) : Value).ownBlock) (.slice Ao41 t1706.length co41) t1706) ∧ Aside0 (wc.heap[gb1667]? = some (.cells #[.bool a0_0, (.slice A0_1 l0_1.length c0_1), (.slice A0_2 l0_2.length c0_2), .int .i64 a0_3, .int .i64 a0_4, .int .i64 a0_5] 33 (0, 0))) ∧ Aside0 (wc.heap[gb1690]? = some (.cells #[.bool t1679, (.slice Ao24 t1680.length co24), (.slice Ao25 t1683.length co25), .int .i64 t1686, .int .i64 t1687, .int .i64 t1688] 38 (0, 0))) ∧ Aside0 (wc.heap[gb1701]? = some (.cells #[.bool t1691, (.slice Ao32 t1692.length co32), (.slice Ao33 t1695.length co33), .int .i64 t1698, .int .i64 t1699, .int .i64 t1700] 38 (0, 0))) ∧ Aside0 (wc.heap[gb1713]? = some (.cells #[.bool t1702, (.slice Ao40 t1703.length co40), (.slice Ao41 t1706.length co41), .int .i64 t1709, .int .i64 t1710, .int .i64 t1711] 38 (0, 0))) ∧ Aside0 (Below w.heap.size w wc))
  case first =>
   have H := HC12.out
   clear HC12
   replace H := Option.bind_eq_some_iff.mp H
   obtain ⟨t1714, A420, H⟩ := H
   replace H : (if t1714 = true then (laws_FnExactResume.j0 k a1 t1689 t1712 (t1712 != t1689) a0_0 l0_1 l0_2 a0_3 a0_4 a0_5 t1679 t1680 t1683 t1686 t1687 t1688 t1691 t1692 t1695 t1698 t1699 t1700 t1702 t1703 t1706 t1709 t1710 t1711) else (laws_FnExactResume.j0 k a1 t1689 t1712 true a0_0 l0_1 l0_2 a0_3 a0_4 a0_5 t1679 t1680 t1683 t1686 t1687 t1688 t1691 t1692 t1695 t1698 t1699 t1700 t1702 t1703 t1706 t1709 t1710 t1711)) = some r := H
   have A42 := am A420
   clear A420
   by_cases c43 : t1714 = true
   ·subst c43
    replace H : (laws_FnExactResume.j0 k a1 t1689 t1712 (t1712 != t1689) a0_0 l0_1 l0_2 a0_3 a0_4 a0_5 t1679 t1680 t1683 t1686 t1687 t1688 t1691 t1692 t1695 t1698 t1699 t1700 t1702 t1703 t1706 t1709 t1710 t1711) = some r := by rw [if_pos rfl] at H; exact H
    have H' := am H
    clear H
    have hnb44 := NB1713_1667.out
    have hnc44 := NB1667_1713.out
    have hnb45 := NB1713_1690.out
    have hnc45 := NB1690_1713.out
    have hnb46 := NB1713_1701.out
    have hnc46 := NB1701_1713.out
    obtain ⟨hcz47_0, hcz47_1, hcz47_2, hcz47_3, hcz47_4, hcz47_5, hfz47_0, hfz47_1, hfz47_2, hfz47_3, hfz47_4, hfz47_5⟩ := bk6 BK1713.out
    have hnb48 := NB1690_1667.out
    have hnc48 := NB1667_1690.out
    have hnb49 := NB1690_1701.out
    have hnc49 := NB1701_1690.out
    obtain ⟨hcz50_0, hcz50_1, hcz50_2, hcz50_3, hcz50_4, hcz50_5, hfz50_0, hfz50_1, hfz50_2, hfz50_3, hfz50_4, hfz50_5⟩ := bk6 BK1690.out
    go_wp2_with (first | ((with_reducible refine gate_callee (f := 23) rfl ?_); refine goesL_ (some 38) rfl rfl Try.func23 (by kernel_rfl) rfl #[.agg #[.bool t1702, .slice Ao40 t1703.length co40, .slice Ao41 t1706.length co41, .int .i64 t1709, .int .i64 t1710, .int .i64 t1711], .agg #[.bool t1679, .slice Ao24 t1680.length co24, .slice Ao25 t1683.length co25, .int .i64 t1686, .int .i64 t1687, .int .i64 t1688]] rfl mpx ?_; (with_reducible refine (laws_eqNotify.calls k t1702 _ _ t1703 _ _ t1706 t1709 t1710 t1711 t1679 _ _ t1680 _ _ t1683 t1686 t1687 t1688 true _ ?side1 ?side2 ?side3 ?side4 ?side5 ?side6 ?side7 ?side8 A42.out).mono ?_); (case side1 => refine (Kd.R_reads' (e := 3) (base := w.heap.size) (ok := fun k_ => (((True ∧ some k_ ≠ (.slice Ao18 t1670.length co18 : Value).ownBlock) ∧ some k_ ≠ (.slice Ao24 t1680.length co24 : Value).ownBlock) ∧ some k_ ≠ (.slice Ao32 t1692.length co32 : Value).ownBlock)) (n := t1703.length) (c := co40) ?_).2.2; exact (by (with_reducible repeat (first | apply Kd.R_alloc | apply Kd.R_drewN | apply Kd.R_drew)); exact (Kd.R_mono (Kd.R_far (p := ⟨gb1713, 5, none⟩) (Kd.R_far (p := ⟨gb1713, 4, none⟩) (Kd.R_far (p := ⟨gb1713, 3, none⟩) (Kd.R_far (p := ⟨gb1713, 2, none⟩) (Kd.R_far (p := ⟨gb1713, 1, none⟩) (Kd.R_far (p := ⟨gb1713, 0, none⟩) (Kd.R_types HO1705.out BK1713.out (by decide)) (fun _ hk => hk.2) (.bool t1702)) (fun _ hk => hk.2) (.slice Ao40 t1703.length co40)) (fun _ hk => hk.2) (.slice Ao41 t1706.length co41)) (fun _ hk => hk.2) (.int .i64 t1709)) (fun _ hk => hk.2) (.int .i64 t1710)) (fun _ hk => hk.2) (.int .i64 t1711)) (fun _ h_ => h_.1)))); (case side2 => exact (Kd.R_reads' HO1705.out).2.1); (case side3 => refine (Kd.R_reads' (e := 67) (base := w.heap.size) (ok := fun k_ => (((True ∧ some k_ ≠ (.slice Ao19 t1673.length co19 : Value).ownBlock) ∧ some k_ ≠ (.slice Ao25 t1683.length co25 : Value).ownBlock) ∧ some k_ ≠ (.slice Ao33 t1695.length co33 : Value).ownBlock)) (n := t1706.length) (c := co41) ?_).2.2; exact (by (with_reducible repeat (first | apply Kd.R_alloc | apply Kd.R_drewN | apply Kd.R_drew)); exact (Kd.R_mono (Kd.R_far (p := ⟨gb1713, 5, none⟩) (Kd.R_far (p := ⟨gb1713, 4, none⟩) (Kd.R_far (p := ⟨gb1713, 3, none⟩) (Kd.R_far (p := ⟨gb1713, 2, none⟩) (Kd.R_far (p := ⟨gb1713, 1, none⟩) (Kd.R_far (p := ⟨gb1713, 0, none⟩) (Kd.R_types HO1708.out BK1713.out (by decide)) (fun _ hk => hk.2) (.bool t1702)) (fun _ hk => hk.2) (.slice Ao40 t1703.length co40)) (fun _ hk => hk.2) (.slice Ao41 t1706.length co41)) (fun _ hk => hk.2) (.int .i64 t1709)) (fun _ hk => hk.2) (.int .i64 t1710)) (fun _ hk => hk.2) (.int .i64 t1711)) (fun _ h_ => h_.1)))); (case side4 => exact (Kd.R_reads' HO1708.out).2.1); (case side5 => refine (Kd.R_reads' (e := 3) (base := w.heap.size) (ok := fun k_ => (((True ∧ some k_ ≠ (.slice Ao18 t1670.length co18 : Value).ownBlock) ∧ some k_ ≠ (.slice Ao32 t1692.length co32 : Value).ownBlock) ∧ some k_ ≠ (.slice Ao40 t1703.length co40 : Value).ownBlock)) (n := t1680.length) (c := co24) ?_).2.2; exact (by (with_reducible repeat (first | apply Kd.R_alloc | apply Kd.R_drewN | apply Kd.R_drew)); exact (Kd.R_mono (Kd.R_far (p := ⟨gb1713, 5, none⟩) (Kd.R_far (p := ⟨gb1713, 4, none⟩) (Kd.R_far (p := ⟨gb1713, 3, none⟩) (Kd.R_far (p := ⟨gb1713, 2, none⟩) (Kd.R_far (p := ⟨gb1713, 1, none⟩) (Kd.R_far (p := ⟨gb1713, 0, none⟩) (Kd.R_types HO1682.out BK1713.out (by decide)) (fun _ hk => hk.2) (.bool t1702)) (fun _ hk => hk.2) (.slice Ao40 t1703.length co40)) (fun _ hk => hk.2) (.slice Ao41 t1706.length co41)) (fun _ hk => hk.2) (.int .i64 t1709)) (fun _ hk => hk.2) (.int .i64 t1710)) (fun _ hk => hk.2) (.int .i64 t1711)) (fun _ h_ => h_.1)))); (case side6 => exact (Kd.R_reads' HO1682.out).2.1); (case side7 => refine (Kd.R_reads' (e := 67) (base := w.heap.size) (ok := fun k_ => (((True ∧ some k_ ≠ (.slice Ao19 t1673.length co19 : Value).ownBlock) ∧ some k_ ≠ (.slice Ao33 t1695.length co33 : Value).ownBlock) ∧ some k_ ≠ (.slice Ao41 t1706.length co41 : Value).ownBlock)) (n := t1683.length) (c := co25) ?_).2.2; exact (by (with_reducible repeat (first | apply Kd.R_alloc | apply Kd.R_drewN | apply Kd.R_drew)); exact (Kd.R_mono (Kd.R_far (p := ⟨gb1713, 5, none⟩) (Kd.R_far (p := ⟨gb1713, 4, none⟩) (Kd.R_far (p := ⟨gb1713, 3, none⟩) (Kd.R_far (p := ⟨gb1713, 2, none⟩) (Kd.R_far (p := ⟨gb1713, 1, none⟩) (Kd.R_far (p := ⟨gb1713, 0, none⟩) (Kd.R_types HO1685.out BK1713.out (by decide)) (fun _ hk => hk.2) (.bool t1702)) (fun _ hk => hk.2) (.slice Ao40 t1703.length co40)) (fun _ hk => hk.2) (.slice Ao41 t1706.length co41)) (fun _ hk => hk.2) (.int .i64 t1709)) (fun _ hk => hk.2) (.int .i64 t1710)) (fun _ hk => hk.2) (.int .i64 t1711)) (fun _ h_ => h_.1)))); (case side8 => exact (Kd.R_reads' HO1685.out).2.1); rintro e w51 ⟨rfl, hb⟩; refine ⟨_, rfl, ?_⟩; replace HO1672 := am (Kd.R_below (by (with_reducible repeat (first | apply Kd.R_alloc | apply Kd.R_drewN | apply Kd.R_drew)); exact (Kd.R_mono (Kd.R_far (p := ⟨gb1713, 5, none⟩) (Kd.R_far (p := ⟨gb1713, 4, none⟩) (Kd.R_far (p := ⟨gb1713, 3, none⟩) (Kd.R_far (p := ⟨gb1713, 2, none⟩) (Kd.R_far (p := ⟨gb1713, 1, none⟩) (Kd.R_far (p := ⟨gb1713, 0, none⟩) (Kd.R_types HO1672.out BK1713.out (by decide)) (fun _ hk => hk.2) (.bool t1702)) (fun _ hk => hk.2) (.slice Ao40 t1703.length co40)) (fun _ hk => hk.2) (.slice Ao41 t1706.length co41)) (fun _ hk => hk.2) (.int .i64 t1709)) (fun _ hk => hk.2) (.int .i64 t1710)) (fun _ hk => hk.2) (.int .i64 t1711)) (fun _ h_ => h_.1))) hb); replace HO1675 := am (Kd.R_below (by (with_reducible repeat (first | apply Kd.R_alloc | apply Kd.R_drewN | apply Kd.R_drew)); exact (Kd.R_mono (Kd.R_far (p := ⟨gb1713, 5, none⟩) (Kd.R_far (p := ⟨gb1713, 4, none⟩) (Kd.R_far (p := ⟨gb1713, 3, none⟩) (Kd.R_far (p := ⟨gb1713, 2, none⟩) (Kd.R_far (p := ⟨gb1713, 1, none⟩) (Kd.R_far (p := ⟨gb1713, 0, none⟩) (Kd.R_types HO1675.out BK1713.out (by decide)) (fun _ hk => hk.2) (.bool t1702)) (fun _ hk => hk.2) (.slice Ao40 t1703.length co40)) (fun _ hk => hk.2) (.slice Ao41 t1706.length co41)) (fun _ hk => hk.2) (.int .i64 t1709)) (fun _ hk => hk.2) (.int .i64 t1710)) (fun _ hk => hk.2) (.int .i64 t1711)) (fun _ h_ => h_.1))) hb); replace HO1682 := am (Kd.R_below (by (with_reducible repeat (first | apply Kd.R_alloc | apply Kd.R_drewN | apply Kd.R_drew)); exact (Kd.R_mono (Kd.R_far (p := ⟨gb1713, 5, none⟩) (Kd.R_far (p := ⟨gb1713, 4, none⟩) (Kd.R_far (p := ⟨gb1713, 3, none⟩) (Kd.R_far (p := ⟨gb1713, 2, none⟩) (Kd.R_far (p := ⟨gb1713, 1, none⟩) (Kd.R_far (p := ⟨gb1713, 0, none⟩) (Kd.R_types HO1682.out BK1713.out (by decide)) (fun _ hk => hk.2) (.bool t1702)) (fun _ hk => hk.2) (.slice Ao40 t1703.length co40)) (fun _ hk => hk.2) (.slice Ao41 t1706.length co41)) (fun _ hk => hk.2) (.int .i64 t1709)) (fun _ hk => hk.2) (.int .i64 t1710)) (fun _ hk => hk.2) (.int .i64 t1711)) (fun _ h_ => h_.1))) hb); replace HO1685 := am (Kd.R_below (by (with_reducible repeat (first | apply Kd.R_alloc | apply Kd.R_drewN | apply Kd.R_drew)); exact (Kd.R_mono (Kd.R_far (p := ⟨gb1713, 5, none⟩) (Kd.R_far (p := ⟨gb1713, 4, none⟩) (Kd.R_far (p := ⟨gb1713, 3, none⟩) (Kd.R_far (p := ⟨gb1713, 2, none⟩) (Kd.R_far (p := ⟨gb1713, 1, none⟩) (Kd.R_far (p := ⟨gb1713, 0, none⟩) (Kd.R_types HO1685.out BK1713.out (by decide)) (fun _ hk => hk.2) (.bool t1702)) (fun _ hk => hk.2) (.slice Ao40 t1703.length co40)) (fun _ hk => hk.2) (.slice Ao41 t1706.length co41)) (fun _ hk => hk.2) (.int .i64 t1709)) (fun _ hk => hk.2) (.int .i64 t1710)) (fun _ hk => hk.2) (.int .i64 t1711)) (fun _ h_ => h_.1))) hb); replace HO1694 := am (Kd.R_below (by (with_reducible repeat (first | apply Kd.R_alloc | apply Kd.R_drewN | apply Kd.R_drew)); exact (Kd.R_mono (Kd.R_far (p := ⟨gb1713, 5, none⟩) (Kd.R_far (p := ⟨gb1713, 4, none⟩) (Kd.R_far (p := ⟨gb1713, 3, none⟩) (Kd.R_far (p := ⟨gb1713, 2, none⟩) (Kd.R_far (p := ⟨gb1713, 1, none⟩) (Kd.R_far (p := ⟨gb1713, 0, none⟩) (Kd.R_types HO1694.out BK1713.out (by decide)) (fun _ hk => hk.2) (.bool t1702)) (fun _ hk => hk.2) (.slice Ao40 t1703.length co40)) (fun _ hk => hk.2) (.slice Ao41 t1706.length co41)) (fun _ hk => hk.2) (.int .i64 t1709)) (fun _ hk => hk.2) (.int .i64 t1710)) (fun _ hk => hk.2) (.int .i64 t1711)) (fun _ h_ => h_.1))) hb); replace HO1697 := am (Kd.R_below (by (with_reducible repeat (first | apply Kd.R_alloc | apply Kd.R_drewN | apply Kd.R_drew)); exact (Kd.R_mono (Kd.R_far (p := ⟨gb1713, 5, none⟩) (Kd.R_far (p := ⟨gb1713, 4, none⟩) (Kd.R_far (p := ⟨gb1713, 3, none⟩) (Kd.R_far (p := ⟨gb1713, 2, none⟩) (Kd.R_far (p := ⟨gb1713, 1, none⟩) (Kd.R_far (p := ⟨gb1713, 0, none⟩) (Kd.R_types HO1697.out BK1713.out (by decide)) (fun _ hk => hk.2) (.bool t1702)) (fun _ hk => hk.2) (.slice Ao40 t1703.length co40)) (fun _ hk => hk.2) (.slice Ao41 t1706.length co41)) (fun _ hk => hk.2) (.int .i64 t1709)) (fun _ hk => hk.2) (.int .i64 t1710)) (fun _ hk => hk.2) (.int .i64 t1711)) (fun _ h_ => h_.1))) hb); replace HO1705 := am (Kd.R_below (by (with_reducible repeat (first | apply Kd.R_alloc | apply Kd.R_drewN | apply Kd.R_drew)); exact (Kd.R_mono (Kd.R_far (p := ⟨gb1713, 5, none⟩) (Kd.R_far (p := ⟨gb1713, 4, none⟩) (Kd.R_far (p := ⟨gb1713, 3, none⟩) (Kd.R_far (p := ⟨gb1713, 2, none⟩) (Kd.R_far (p := ⟨gb1713, 1, none⟩) (Kd.R_far (p := ⟨gb1713, 0, none⟩) (Kd.R_types HO1705.out BK1713.out (by decide)) (fun _ hk => hk.2) (.bool t1702)) (fun _ hk => hk.2) (.slice Ao40 t1703.length co40)) (fun _ hk => hk.2) (.slice Ao41 t1706.length co41)) (fun _ hk => hk.2) (.int .i64 t1709)) (fun _ hk => hk.2) (.int .i64 t1710)) (fun _ hk => hk.2) (.int .i64 t1711)) (fun _ h_ => h_.1))) hb); replace HO1708 := am (Kd.R_below (by (with_reducible repeat (first | apply Kd.R_alloc | apply Kd.R_drewN | apply Kd.R_drew)); exact (Kd.R_mono (Kd.R_far (p := ⟨gb1713, 5, none⟩) (Kd.R_far (p := ⟨gb1713, 4, none⟩) (Kd.R_far (p := ⟨gb1713, 3, none⟩) (Kd.R_far (p := ⟨gb1713, 2, none⟩) (Kd.R_far (p := ⟨gb1713, 1, none⟩) (Kd.R_far (p := ⟨gb1713, 0, none⟩) (Kd.R_types HO1708.out BK1713.out (by decide)) (fun _ hk => hk.2) (.bool t1702)) (fun _ hk => hk.2) (.slice Ao40 t1703.length co40)) (fun _ hk => hk.2) (.slice Ao41 t1706.length co41)) (fun _ hk => hk.2) (.int .i64 t1709)) (fun _ hk => hk.2) (.int .i64 t1710)) (fun _ hk => hk.2) (.int .i64 t1711)) (fun _ h_ => h_.1))) hb); replace BK1667 := am (blk_below (g := gb1667) (o := .cells #[.bool a0_0, .slice A0_1 l0_1.length c0_1, .slice A0_2 l0_2.length c0_2, .int .i64 a0_3, .int .i64 a0_4, .int .i64 a0_5] 33 (0, 0)) (by (with_reducible repeat (first | refine blk_drewN ?_ _ | refine blk_drew ?_ | refine blk_alloc ?_ _)); refine blk_far ?_ NB1667_1713.out _; (with_reducible repeat (first | refine blk_drewN ?_ _ | refine blk_drew ?_ | refine blk_alloc ?_ _)); refine blk_far ?_ NB1667_1713.out _; (with_reducible repeat (first | refine blk_drewN ?_ _ | refine blk_drew ?_ | refine blk_alloc ?_ _)); refine blk_far ?_ NB1667_1713.out _; (with_reducible repeat (first | refine blk_drewN ?_ _ | refine blk_drew ?_ | refine blk_alloc ?_ _)); refine blk_far ?_ NB1667_1713.out _; (with_reducible repeat (first | refine blk_drewN ?_ _ | refine blk_drew ?_ | refine blk_alloc ?_ _)); refine blk_far ?_ NB1667_1713.out _; (with_reducible repeat (first | refine blk_drewN ?_ _ | refine blk_drew ?_ | refine blk_alloc ?_ _)); refine blk_far ?_ NB1667_1713.out _; exact pkK BK1667.out) hb); replace BK1690 := am (blk_below (g := gb1690) (o := .cells #[.bool t1679, .slice Ao24 t1680.length co24, .slice Ao25 t1683.length co25, .int .i64 t1686, .int .i64 t1687, .int .i64 t1688] 38 (0, 0)) (by (with_reducible repeat (first | refine blk_drewN ?_ _ | refine blk_drew ?_ | refine blk_alloc ?_ _)); refine blk_far ?_ NB1690_1713.out _; (with_reducible repeat (first | refine blk_drewN ?_ _ | refine blk_drew ?_ | refine blk_alloc ?_ _)); refine blk_far ?_ NB1690_1713.out _; (with_reducible repeat (first | refine blk_drewN ?_ _ | refine blk_drew ?_ | refine blk_alloc ?_ _)); refine blk_far ?_ NB1690_1713.out _; (with_reducible repeat (first | refine blk_drewN ?_ _ | refine blk_drew ?_ | refine blk_alloc ?_ _)); refine blk_far ?_ NB1690_1713.out _; (with_reducible repeat (first | refine blk_drewN ?_ _ | refine blk_drew ?_ | refine blk_alloc ?_ _)); refine blk_far ?_ NB1690_1713.out _; (with_reducible repeat (first | refine blk_drewN ?_ _ | refine blk_drew ?_ | refine blk_alloc ?_ _)); refine blk_far ?_ NB1690_1713.out _; exact pkK BK1690.out) hb); replace BK1701 := am (blk_below (g := gb1701) (o := .cells #[.bool t1691, .slice Ao32 t1692.length co32, .slice Ao33 t1695.length co33, .int .i64 t1698, .int .i64 t1699, .int .i64 t1700] 38 (0, 0)) (by (with_reducible repeat (first | refine blk_drewN ?_ _ | refine blk_drew ?_ | refine blk_alloc ?_ _)); refine blk_far ?_ NB1701_1713.out _; (with_reducible repeat (first | refine blk_drewN ?_ _ | refine blk_drew ?_ | refine blk_alloc ?_ _)); refine blk_far ?_ NB1701_1713.out _; (with_reducible repeat (first | refine blk_drewN ?_ _ | refine blk_drew ?_ | refine blk_alloc ?_ _)); refine blk_far ?_ NB1701_1713.out _; (with_reducible repeat (first | refine blk_drewN ?_ _ | refine blk_drew ?_ | refine blk_alloc ?_ _)); refine blk_far ?_ NB1701_1713.out _; (with_reducible repeat (first | refine blk_drewN ?_ _ | refine blk_drew ?_ | refine blk_alloc ?_ _)); refine blk_far ?_ NB1701_1713.out _; (with_reducible repeat (first | refine blk_drewN ?_ _ | refine blk_drew ?_ | refine blk_alloc ?_ _)); refine blk_far ?_ NB1701_1713.out _; exact pkK BK1701.out) hb); replace BK1713 := am (blk_below (g := gb1713) (o := .cells #[.bool t1702, .slice Ao40 t1703.length co40, .slice Ao41 t1706.length co41, .int .i64 t1709, .int .i64 t1710, .int .i64 t1711] 38 (0, 0)) (by (with_reducible repeat (first | refine blk_drewN ?_ _ | refine blk_drew ?_ | refine blk_alloc ?_ _)); refine blk_put (cs := #[.bool t1702, .slice Ao40 t1703.length co40, .slice Ao41 t1706.length co41, .int .i64 t1709, .int .i64 t1710, .int .i64 0]) ?_ 5 _ rfl; (with_reducible repeat (first | refine blk_drewN ?_ _ | refine blk_drew ?_ | refine blk_alloc ?_ _)); refine blk_put (cs := #[.bool t1702, .slice Ao40 t1703.length co40, .slice Ao41 t1706.length co41, .int .i64 t1709, .int .i64 0, .int .i64 0]) ?_ 4 _ rfl; (with_reducible repeat (first | refine blk_drewN ?_ _ | refine blk_drew ?_ | refine blk_alloc ?_ _)); refine blk_put (cs := #[.bool t1702, .slice Ao40 t1703.length co40, .slice Ao41 t1706.length co41, .int .i64 0, .int .i64 0, .int .i64 0]) ?_ 3 _ rfl; (with_reducible repeat (first | refine blk_drewN ?_ _ | refine blk_drew ?_ | refine blk_alloc ?_ _)); refine blk_put (cs := #[.bool t1702, .slice Ao40 t1703.length co40, .slice none 0 0, .int .i64 0, .int .i64 0, .int .i64 0]) ?_ 2 _ rfl; (with_reducible repeat (first | refine blk_drewN ?_ _ | refine blk_drew ?_ | refine blk_alloc ?_ _)); refine blk_put (cs := #[.bool t1702, .slice none 0 0, .slice none 0 0, .int .i64 0, .int .i64 0, .int .i64 0]) ?_ 1 _ rfl; (with_reducible repeat (first | refine blk_drewN ?_ _ | refine blk_drew ?_ | refine blk_alloc ?_ _)); refine blk_put (cs := #[.bool false, .slice none 0 0, .slice none 0 0, .int .i64 0, .int .i64 0, .int .i64 0]) ?_ 0 _ rfl; exact pkK BK1713.out) hb); replace HB := am (below_step (pkW HB.out) hb); (try clear hb)))
    go_meet
    case rel => exact ⟨_, ((t1712 != t1689)), rfx, H', ⟨by first | omega | exact Nat.le_refl _⟩, ⟨by (with_reducible repeat (first | apply Kd.R_alloc | apply Kd.R_drewN | apply Kd.R_drew)); exact Kd.R_mono HO1682.out (fun _ hk => ⟨hk.1.2, hk.2⟩)⟩, ⟨by (with_reducible repeat (first | apply Kd.R_alloc | apply Kd.R_drewN | apply Kd.R_drew)); exact Kd.R_mono HO1685.out (fun _ hk => ⟨hk.1.2, hk.2⟩)⟩, ⟨Kd.Q_of_R (by (with_reducible repeat (first | apply Kd.R_alloc | apply Kd.R_drewN | apply Kd.R_drew)); exact Kd.R_mono HO1694.out (fun _ hk => ⟨hk.1.2, hk.2⟩))⟩, ⟨by (with_reducible repeat (first | apply Kd.R_alloc | apply Kd.R_drewN | apply Kd.R_drew)); exact Kd.R_mono HO1697.out (fun _ hk => ⟨hk.1.2, hk.2⟩)⟩, ⟨Kd.Q_of_R (by (with_reducible repeat (first | apply Kd.R_alloc | apply Kd.R_drewN | apply Kd.R_drew)); exact Kd.R_mono HO1705.out (fun _ hk => ⟨hk.1.2, hk.2⟩))⟩, ⟨by (with_reducible repeat (first | apply Kd.R_alloc | apply Kd.R_drewN | apply Kd.R_drew)); exact Kd.R_mono HO1708.out (fun _ hk => ⟨hk.1.2, hk.2⟩)⟩, ⟨pkK BK1667.out⟩, ⟨pkK BK1690.out⟩, ⟨pkK BK1701.out⟩, ⟨pkK BK1713.out⟩, ⟨pkW HB.out⟩⟩
   ·replace c43 := Bool.eq_false_iff.mpr c43
    subst c43
    replace H : (laws_FnExactResume.j0 k a1 t1689 t1712 true a0_0 l0_1 l0_2 a0_3 a0_4 a0_5 t1679 t1680 t1683 t1686 t1687 t1688 t1691 t1692 t1695 t1698 t1699 t1700 t1702 t1703 t1706 t1709 t1710 t1711) = some r := by rw [if_neg (show ¬ (false = true) by decide)] at H; exact H
    cases k with
    | zero => exact absurd H (by simp [laws_FnExactResume.j0])
    | succ k_ => (simp only [laws_FnExactResume.j0, if_pos] at H; exact absurd (Option.some.inj H) (by rw [HQ_.out]; simp))
  case rest =>
   clear HC12
   try clear c1
   try clear c2
   try clear p2
   try clear c3
   try clear c4
   try clear c4b0
   try clear c13
   try clear c19
   try clear c21
   try clear c22
   try clear c23
   try clear c29
   try clear c30
   try clear c36
   try clear c37
   try clear c38
   try clear c43
   try clear c44
   try clear c45
   try clear c46
   try clear c48
   try clear c49
   try clear hcz14_0
   try clear hcz14_1
   try clear hcz14_2
   try clear hcz14_3
   try clear hcz14_4
   try clear hcz14_5
   try clear hcz16_0
   try clear hcz16_1
   try clear hcz16_2
   try clear hcz16_3
   try clear hcz16_4
   try clear hcz16_5
   try clear hcz23_0
   try clear hcz23_1
   try clear hcz23_2
   try clear hcz23_3
   try clear hcz23_4
   try clear hcz23_5
   try clear hcz26_0
   try clear hcz26_1
   try clear hcz26_2
   try clear hcz26_3
   try clear hcz26_4
   try clear hcz26_5
   try clear hcz31_0
   try clear hcz31_1
   try clear hcz31_2
   try clear hcz31_3
   try clear hcz31_4
   try clear hcz31_5
   try clear hcz39_0
   try clear hcz39_1
   try clear hcz39_2
   try clear hcz39_3
   try clear hcz39_4
   try clear hcz39_5
   try clear hcz47_0
   try clear hcz47_1
   try clear hcz47_2
   try clear hcz47_3
   try clear hcz47_4
   try clear hcz47_5
   try clear hcz50_0
   try clear hcz50_1
   try clear hcz50_2
   try clear hcz50_3
   try clear hcz50_4
   try clear hcz50_5
   try clear hcz6_0
   try clear hcz6_1
   try clear hcz6_2
   try clear hcz6_3
   try clear hcz6_4
   try clear hcz6_5
   try clear hfz14_0
   try clear hfz14_1
   try clear hfz14_2
   try clear hfz14_3
   try clear hfz14_4
   try clear hfz14_5
   try clear hfz16_0
   try clear hfz16_1
   try clear hfz16_2
   try clear hfz16_3
   try clear hfz16_4
   try clear hfz16_5
   try clear hfz23_0
   try clear hfz23_1
   try clear hfz23_2
   try clear hfz23_3
   try clear hfz23_4
   try clear hfz23_5
   try clear hfz26_0
   try clear hfz26_1
   try clear hfz26_2
   try clear hfz26_3
   try clear hfz26_4
   try clear hfz26_5
   try clear hfz31_0
   try clear hfz31_1
   try clear hfz31_2
   try clear hfz31_3
   try clear hfz31_4
   try clear hfz31_5
   try clear hfz39_0
   try clear hfz39_1
   try clear hfz39_2
   try clear hfz39_3
   try clear hfz39_4
   try clear hfz39_5
   try clear hfz47_0
   try clear hfz47_1
   try clear hfz47_2
   try clear hfz47_3
   try clear hfz47_4
   try clear hfz47_5
   try clear hfz50_0
   try clear hfz50_1
   try clear hfz50_2
   try clear hfz50_3
   try clear hfz50_4
   try clear hfz50_5
   try clear hfz6_0
   try clear hfz6_1
   try clear hfz6_2
   try clear hfz6_3
   try clear hfz6_4
   try clear hfz6_5
   obtain ⟨kq, x44_11, rfl, HA, HJ11, HO_1691001, HO_1691002, HO_1702001, HO_1702002, HO_1714001, HO_1714002, BK1667, BK1690, BK1701, BK1713, HB⟩ := hcut
   cases kq with
   | zero => exact absurd HA.out (by simp [laws_FnExactResume.j0])
   | succ kj11 =>
    have H := HA.out
    clear HA
    simp only [laws_FnExactResume.j0] at H
    by_cases c52 : x44_11 = true
    ·subst c52
     replace H : (some false) = some r := by rw [if_pos rfl] at H; exact H
     exact absurd (Option.some.inj H) (by rw [HQ_.out]; simp)
    ·replace c52 := Bool.eq_false_iff.mpr c52
     subst c52
     replace H : ((laws_toNotify.f kj11 a0_0 l0_1 l0_2 a0_3 a0_4 a0_5).bind fun bt1715 => ((laws_eqNotify.f kj11 t1691 t1692 t1695 t1698 t1699 t1700 bt1715.1 bt1715.2.1 bt1715.2.2.1 bt1715.2.2.2.1 bt1715.2.2.2.2.1 bt1715.2.2.2.2.2).bind fun t1725 => (if t1725 = true then ((laws_markNotify.f kj11 t1691 t1692 t1695 t1698 t1699 t1700 1).bind fun bt1726 => (if bt1726.1 < 0 then (laws_FnExactResume.j1 kj11 a1 t1689 true a0_0 l0_1 l0_2 a0_3 a0_4 a0_5 t1679 t1680 t1683 t1686 t1687 t1688 t1702 t1703 t1706 t1709 t1710 t1711) else ((laws_eqNotify.f kj11 t1702 t1703 t1706 t1709 t1710 t1711 t1679 t1680 t1683 t1686 t1687 t1688).bind fun t1729 => (if t1729 = true then (laws_FnExactResume.j1 kj11 a1 t1689 (t1712 != t1689) a0_0 l0_1 l0_2 a0_3 a0_4 a0_5 t1679 t1680 t1683 t1686 t1687 t1688 t1702 t1703 t1706 t1709 t1710 t1711) else (laws_FnExactResume.j1 kj11 a1 t1689 true a0_0 l0_1 l0_2 a0_3 a0_4 a0_5 t1679 t1680 t1683 t1686 t1687 t1688 t1702 t1703 t1706 t1709 t1710 t1711))))) else (some false)))) = some r := by rw [if_neg (show ¬ (false = true) by decide)] at H; exact H
     replace H := Option.bind_eq_some_iff.mp H
     obtain ⟨⟨t1715, t1716, t1719, t1722, t1723, t1724⟩, A530, H⟩ := H
     replace H : ((laws_eqNotify.f kj11 t1691 t1692 t1695 t1698 t1699 t1700 t1715 t1716 t1719 t1722 t1723 t1724).bind fun t1725 => (if t1725 = true then ((laws_markNotify.f kj11 t1691 t1692 t1695 t1698 t1699 t1700 1).bind fun bt1726 => (if bt1726.1 < 0 then (laws_FnExactResume.j1 kj11 a1 t1689 true a0_0 l0_1 l0_2 a0_3 a0_4 a0_5 t1679 t1680 t1683 t1686 t1687 t1688 t1702 t1703 t1706 t1709 t1710 t1711) else ((laws_eqNotify.f kj11 t1702 t1703 t1706 t1709 t1710 t1711 t1679 t1680 t1683 t1686 t1687 t1688).bind fun t1729 => (if t1729 = true then (laws_FnExactResume.j1 kj11 a1 t1689 (t1712 != t1689) a0_0 l0_1 l0_2 a0_3 a0_4 a0_5 t1679 t1680 t1683 t1686 t1687 t1688 t1702 t1703 t1706 t1709 t1710 t1711) else (laws_FnExactResume.j1 kj11 a1 t1689 true a0_0 l0_1 l0_2 a0_3 a0_4 a0_5 t1679 t1680 t1683 t1686 t1687 t1688 t1702 t1703 t1706 t1709 t1710 t1711))))) else (some false))) = some r := H
     have A53 := am A530
     clear A530
     replace H := Option.bind_eq_some_iff.mp H
     obtain ⟨t1725, A540, H⟩ := H
     replace H : (if t1725 = true then ((laws_markNotify.f kj11 t1691 t1692 t1695 t1698 t1699 t1700 1).bind fun bt1726 => (if bt1726.1 < 0 then (laws_FnExactResume.j1 kj11 a1 t1689 true a0_0 l0_1 l0_2 a0_3 a0_4 a0_5 t1679 t1680 t1683 t1686 t1687 t1688 t1702 t1703 t1706 t1709 t1710 t1711) else ((laws_eqNotify.f kj11 t1702 t1703 t1706 t1709 t1710 t1711 t1679 t1680 t1683 t1686 t1687 t1688).bind fun t1729 => (if t1729 = true then (laws_FnExactResume.j1 kj11 a1 t1689 (t1712 != t1689) a0_0 l0_1 l0_2 a0_3 a0_4 a0_5 t1679 t1680 t1683 t1686 t1687 t1688 t1702 t1703 t1706 t1709 t1710 t1711) else (laws_FnExactResume.j1 kj11 a1 t1689 true a0_0 l0_1 l0_2 a0_3 a0_4 a0_5 t1679 t1680 t1683 t1686 t1687 t1688 t1702 t1703 t1706 t1709 t1710 t1711))))) else (some false)) = some r := H
     have A54 := am A540
     clear A540
     by_cases c55 : t1725 = true
     ·subst c55
      replace H : ((laws_markNotify.f kj11 t1691 t1692 t1695 t1698 t1699 t1700 1).bind fun bt1726 => (if bt1726.1 < 0 then (laws_FnExactResume.j1 kj11 a1 t1689 true a0_0 l0_1 l0_2 a0_3 a0_4 a0_5 t1679 t1680 t1683 t1686 t1687 t1688 t1702 t1703 t1706 t1709 t1710 t1711) else ((laws_eqNotify.f kj11 t1702 t1703 t1706 t1709 t1710 t1711 t1679 t1680 t1683 t1686 t1687 t1688).bind fun t1729 => (if t1729 = true then (laws_FnExactResume.j1 kj11 a1 t1689 (t1712 != t1689) a0_0 l0_1 l0_2 a0_3 a0_4 a0_5 t1679 t1680 t1683 t1686 t1687 t1688 t1702 t1703 t1706 t1709 t1710 t1711) else (laws_FnExactResume.j1 kj11 a1 t1689 true a0_0 l0_1 l0_2 a0_3 a0_4 a0_5 t1679 t1680 t1683 t1686 t1687 t1688 t1702 t1703 t1706 t1709 t1710 t1711))))) = some r := by rw [if_pos rfl] at H; exact H
      replace H := Option.bind_eq_some_iff.mp H
      obtain ⟨⟨t1726, t1727, t1728⟩, A560, H⟩ := H
      replace H : (if t1726 < 0 then (laws_FnExactResume.j1 kj11 a1 t1689 true a0_0 l0_1 l0_2 a0_3 a0_4 a0_5 t1679 t1680 t1683 t1686 t1687 t1688 t1702 t1703 t1706 t1709 t1710 t1711) else ((laws_eqNotify.f kj11 t1702 t1703 t1706 t1709 t1710 t1711 t1679 t1680 t1683 t1686 t1687 t1688).bind fun t1729 => (if t1729 = true then (laws_FnExactResume.j1 kj11 a1 t1689 (t1712 != t1689) a0_0 l0_1 l0_2 a0_3 a0_4 a0_5 t1679 t1680 t1683 t1686 t1687 t1688 t1702 t1703 t1706 t1709 t1710 t1711) else (laws_FnExactResume.j1 kj11 a1 t1689 true a0_0 l0_1 l0_2 a0_3 a0_4 a0_5 t1679 t1680 t1683 t1686 t1687 t1688 t1702 t1703 t1706 t1709 t1710 t1711)))) = some r := H
      have A56 := am A560
      clear A560
      have HC57 := am H
      clear H
      try go_wp2
      replace HO_1691001 := am (Kd.R_drew HO_1691001.out)
      replace HO_1691002 := am (Kd.R_drew HO_1691002.out)
      replace HO_1702001 := am (Kd.Q_drew HO_1702001.out)
      replace HO_1702002 := am (Kd.R_drew HO_1702002.out)
      replace HO_1714001 := am (Kd.Q_drew HO_1714001.out)
      replace HO_1714002 := am (Kd.R_drew HO_1714002.out)
      replace BK1667 := am (blk_drew BK1667.out)
      replace BK1690 := am (blk_drew BK1690.out)
      replace BK1701 := am (blk_drew BK1701.out)
      replace BK1713 := am (blk_drew BK1713.out)
      replace HB := am (below_drew1 HB.out)
      refine start_ (n := 5) (S := fun w' => w'.cell? ⟨gb1701, 0, none⟩ = some (.bool t1691) ∧ w'.cell? ⟨gb1701, 1, none⟩ = some (.slice Ao32 t1692.length co32) ∧ w'.cell? ⟨gb1701, 2, none⟩ = some (.slice Ao33 t1695.length co33) ∧ w'.cell? ⟨gb1701, 3, none⟩ = some (.int .i64 t1698) ∧ w'.cell? ⟨gb1701, 4, none⟩ = some (.int .i64 t1699) ∧ w'.cell? ⟨gb1701, 5, none⟩ = some (.int .i64 t1700) ∧ w'.cell? ⟨gb1667, 0, none⟩ = some (.bool a0_0) ∧ w'.cell? ⟨gb1667, 1, none⟩ = some (.slice A0_1 l0_1.length c0_1) ∧ w'.cell? ⟨gb1667, 2, none⟩ = some (.slice A0_2 l0_2.length c0_2) ∧ w'.cell? ⟨gb1667, 3, none⟩ = some (.int .i64 a0_3) ∧ w'.cell? ⟨gb1667, 4, none⟩ = some (.int .i64 a0_4) ∧ w'.cell? ⟨gb1667, 5, none⟩ = some (.int .i64 a0_5)) (ds := []) #[false, false, false, false, false] (by kernel_rfl) rfl rfl ⟨(blk_cell BK1701.out 0).trans rfl, (blk_cell BK1701.out 1).trans rfl, (blk_cell BK1701.out 2).trans rfl, (blk_cell BK1701.out 3).trans rfl, (blk_cell BK1701.out 4).trans rfl, (blk_cell BK1701.out 5).trans rfl, (blk_cell BK1667.out 0).trans rfl, (blk_cell BK1667.out 1).trans rfl, (blk_cell BK1667.out 2).trans rfl, (blk_cell BK1667.out 3).trans rfl, (blk_cell BK1667.out 4).trans rfl, (blk_cell BK1667.out 5).trans rfl⟩ (fun hHeld => ?_)
      generalize wc.drew = w58 at HO_1691001 HO_1691002 HO_1702001 HO_1702002 HO_1714001 HO_1714002 BK1667 BK1690 BK1701 BK1713 HB hHeld ⊢
      refine take_ (i := 0) (N := some 45) (v := ?_) (a' := ?_) #[true, false, false, false, false] rfl rfl (by kernel_rfl) (fun _ _ _ h => h) (Or.inl ⟨by rfl, ?_⟩) hHeld ?_ ?_
      rotate_left
      ·rintro w' ⟨s0, s1, s2, s3, s4, s5, s6, s7, s8, s9, s10, s11⟩
       go_simp
       with_reducible rfl
      rotate_left
      ·simp only [Act.put, List.setIfInBounds_toArray, List.set_cons_zero, List.set_cons_succ, i64_w, i32_w]
       rfl
      refine take_ (i := 1) (N := some 46) (v := ?_) (a' := ?_) #[true, true, false, false, false] rfl rfl (by kernel_rfl) (fun _ _ _ h => h) (Or.inl ⟨by rfl, ?_⟩) hHeld ?_ ?_
      rotate_left
      ·rintro w' ⟨s0, s1, s2, s3, s4, s5, s6, s7, s8, s9, s10, s11⟩
       go_simp
       with_reducible rfl
      rotate_left
      ·simp only [Act.put, List.setIfInBounds_toArray, List.set_cons_zero, List.set_cons_succ, i64_w, i32_w]
       rfl
      refine one_ (i := 2) (N := some 47) #[true, true, true, false, false] rfl rfl (by kernel_rfl) (by decide) (fun K hK => ?_)
      refine goes_ Try.func21 (by kernel_rfl) rfl #[.agg #[.bool a0_0, .slice A0_1 l0_1.length c0_1, .slice A0_2 l0_2.length c0_2, .int .i64 a0_3, .int .i64 a0_4, .int .i64 a0_5]] (by rfl) rfl rfl mpx ?_
      with_reducible refine (laws_toNotify.calls kj11 a0_0 _ _ l0_1 _ _ l0_2 a0_3 a0_4 a0_5 t1715 t1716 t1719 t1722 t1723 t1724 _ ?side1 ?side2 ?side3 ?side4 A53.out).mono ?_
      (case side1 => exact pkC (Kd.C_below HR0_1.out HB.out))
      (case side2 => exact HC0_1.out)
      (case side3 => exact pkC (Kd.C_below HR0_2.out HB.out))
      (case side4 => exact HC0_2.out)
      rintro e w59 ⟨v1717, v1720, rfl, ho0, ho1, hb⟩
      refine ⟨_, rfl, ?_⟩
      have HO1718 := am (Kd.R_lower (Kd.R_new' (Kd.R_new' (Kd.R_new' ho0 (Kd.R_lt (pkR HO_1691001.out))) (Kd.Q_lt (pkQ HO_1702001.out))) (Kd.Q_lt (pkQ HO_1714001.out))) (below_size (pkW HB.out)))
      replace HO_1691001 := am (Kd.R_elder' (pkR HO_1691001.out) (Kd.R_base ho0) hb)
      replace HO_1702001 := am (Kd.Q_elder' (pkQ HO_1702001.out) (Kd.R_base ho0) hb)
      replace HO_1714001 := am (Kd.Q_elder' (pkQ HO_1714001.out) (Kd.R_base ho0) hb)
      have HO1721 := am (Kd.R_lower (Kd.R_new' (Kd.R_new' (Kd.R_new' ho1 (Kd.R_lt (pkR HO_1691002.out))) (Kd.R_lt (pkR HO_1702002.out))) (Kd.R_lt (pkR HO_1714002.out))) (below_size (pkW HB.out)))
      replace HO_1691002 := am (Kd.R_elder' (pkR HO_1691002.out) (Kd.R_base ho1) hb)
      replace HO_1702002 := am (Kd.R_elder' (pkR HO_1702002.out) (Kd.R_base ho1) hb)
      replace HO_1714002 := am (Kd.R_elder' (pkR HO_1714002.out) (Kd.R_base ho1) hb)
      replace BK1667 := am (blk_below (pkK BK1667.out) hb)
      replace BK1690 := am (blk_below (pkK BK1690.out) hb)
      replace BK1701 := am (blk_below (pkK BK1701.out) hb)
      replace BK1713 := am (blk_below (pkK BK1713.out) hb)
      replace HB := am (below_step (pkW HB.out) hb)
      (try clear hb); (try clear ho0 ho1)
      obtain ⟨Ao60, co60, eo60⟩ := Kd.R_slice HO1718.out
      (first | subst eo60 | (injection eo60 with f1_ f2_ f3_; have f4_ := f1_.symm; have f5_ := f3_.symm; clear f1_ f2_ f3_; subst f4_; subst f5_))
      obtain ⟨Ao61, co61, eo61⟩ := Kd.R_slice HO1721.out
      (first | subst eo61 | (injection eo61 with f1_ f2_ f3_; have f4_ := f1_.symm; have f5_ := f3_.symm; clear f1_ f2_ f3_; subst f4_; subst f5_))
      refine hK.out _ _ ⟨(blk_cell BK1701.out 0).trans rfl, (blk_cell BK1701.out 1).trans rfl, (blk_cell BK1701.out 2).trans rfl, (blk_cell BK1701.out 3).trans rfl, (blk_cell BK1701.out 4).trans rfl, (blk_cell BK1701.out 5).trans rfl, (blk_cell BK1667.out 0).trans rfl, (blk_cell BK1667.out 1).trans rfl, (blk_cell BK1667.out 2).trans rfl, (blk_cell BK1667.out 3).trans rfl, (blk_cell BK1667.out 4).trans rfl, (blk_cell BK1667.out 5).trans rfl⟩ (fun hHeld => ?_)
      clear hK K
      refine norm_ (a' := ?_) ?_ ?_
      rotate_left
      ·show Act.put _ (some 47) _ = _
       simp only [Act.put, List.setIfInBounds_toArray, List.set_cons_zero, List.set_cons_succ, i64_w, i32_w]
       rfl
      refine one_ (i := 3) (N := some 48) #[true, true, true, true, false] rfl rfl (by kernel_rfl) (by decide) (fun K hK => ?_)
      refine goes_ Try.func23 (by kernel_rfl) rfl #[.agg #[.bool t1691, .slice Ao32 t1692.length co32, .slice Ao33 t1695.length co33, .int .i64 t1698, .int .i64 t1699, .int .i64 t1700], .agg #[.bool t1715, .slice Ao60 t1716.length co60, .slice Ao61 t1719.length co61, .int .i64 t1722, .int .i64 t1723, .int .i64 t1724]] (by rfl) rfl rfl mpx ?_
      with_reducible refine (laws_eqNotify.calls kj11 t1691 _ _ t1692 _ _ t1695 t1698 t1699 t1700 t1715 _ _ t1716 _ _ t1719 t1722 t1723 t1724 true _ ?side1 ?side2 ?side3 ?side4 ?side5 ?side6 ?side7 ?side8 A54.out).mono ?_
      (case side1 => repeat (first | exact (Kd.Q_reads' HO_1702001.out).2.2 | (with_reducible refine Kd.C_alloc ?_ _) | (with_reducible refine Kd.C_drewN ?_ _) | (with_reducible refine Kd.C_drew ?_)))
      (case side2 => exact (Kd.Q_reads' HO_1702001.out).2.1)
      (case side3 => exact pkC (Kd.R_reads' HO_1702002.out).2.2)
      (case side4 => exact (Kd.R_reads' HO_1702002.out).2.1)
      (case side5 => exact pkC (Kd.R_reads' HO1718.out).2.2)
      (case side6 => exact (Kd.R_reads' HO1718.out).2.1)
      (case side7 => exact pkC (Kd.R_reads' HO1721.out).2.2)
      (case side8 => exact (Kd.R_reads' HO1721.out).2.1)
      rintro e w62 ⟨rfl, hb⟩
      refine ⟨_, rfl, ?_⟩
      replace HO_1691001 := am (Kd.R_below (pkR HO_1691001.out) hb)
      replace HO_1691002 := am (Kd.R_below (pkR HO_1691002.out) hb)
      replace HO_1702001 := am (Kd.Q_below (pkQ HO_1702001.out) hb)
      replace HO_1702002 := am (Kd.R_below (pkR HO_1702002.out) hb)
      replace HO_1714001 := am (Kd.Q_below (pkQ HO_1714001.out) hb)
      replace HO_1714002 := am (Kd.R_below (pkR HO_1714002.out) hb)
      replace HO1718 := am (Kd.R_below (pkR HO1718.out) hb)
      replace HO1721 := am (Kd.R_below (pkR HO1721.out) hb)
      replace BK1667 := am (blk_below (pkK BK1667.out) hb)
      replace BK1690 := am (blk_below (pkK BK1690.out) hb)
      replace BK1701 := am (blk_below (pkK BK1701.out) hb)
      replace BK1713 := am (blk_below (pkK BK1713.out) hb)
      replace HB := am (below_step (pkW HB.out) hb)
      (try clear hb)
      refine hK.out _ _ ⟨(blk_cell BK1701.out 0).trans rfl, (blk_cell BK1701.out 1).trans rfl, (blk_cell BK1701.out 2).trans rfl, (blk_cell BK1701.out 3).trans rfl, (blk_cell BK1701.out 4).trans rfl, (blk_cell BK1701.out 5).trans rfl, (blk_cell BK1667.out 0).trans rfl, (blk_cell BK1667.out 1).trans rfl, (blk_cell BK1667.out 2).trans rfl, (blk_cell BK1667.out 3).trans rfl, (blk_cell BK1667.out 4).trans rfl, (blk_cell BK1667.out 5).trans rfl⟩ (fun hHeld => ?_)
      clear hK K
      refine norm_ (a' := ?_) ?_ ?_
      rotate_left
      ·show Act.put _ (some 48) _ = _
       simp only [Act.put, List.setIfInBounds_toArray, List.set_cons_zero, List.set_cons_succ, i64_w, i32_w]
       rfl
      refine pure_ (i := 4) (N := some 49) (v := ?_) (a' := ?_) #[true, true, true, true, true] rfl rfl (by kernel_rfl) (fun _ _ _ h => h) (Or.inl ⟨by rfl, ?_⟩) ?_ ?_
      rotate_left
      ·intro w'
       go_simp
       with_reducible rfl
      rotate_left
      ·simp only [Act.put, List.setIfInBounds_toArray, List.set_cons_zero, List.set_cons_succ, i64_w, i32_w]
       rfl
      refine done_ (by kernel_rfl) ?_
      have hnb63 := NB1701_1667.out
      have hnc63 := NB1667_1701.out
      have hnb64 := NB1701_1690.out
      have hnc64 := NB1690_1701.out
      have hnb65 := NB1701_1713.out
      have hnc65 := NB1713_1701.out
      obtain ⟨hcz66_0, hcz66_1, hcz66_2, hcz66_3, hcz66_4, hcz66_5, hfz66_0, hfz66_1, hfz66_2, hfz66_3, hfz66_4, hfz66_5⟩ := bk6 BK1701.out
      go_upto_region 14 with (first | ((with_reducible refine gate_callee (f := 35) rfl ?_); refine goesL_ (some 52) rfl rfl Try.func35 (by kernel_rfl) rfl #[.agg #[.bool t1691, .slice Ao32 t1692.length co32, .slice Ao33 t1695.length co33, .int .i64 t1698, .int .i64 t1699, .int .i64 t1700], .int .i64 1] rfl mpx ?_; (with_reducible refine (laws_markNotify.calls kj11 t1691 (fun k_ => some k_ = (.slice Ao32 t1692.length co32 : Value).ownBlock) (.slice Ao32 t1692.length co32) t1692 (fun k_ => some k_ = (.slice Ao33 t1695.length co33 : Value).ownBlock) (.slice Ao33 t1695.length co33) t1695 t1698 t1699 t1700 1 t1726 t1727 t1728 w _ ?side1 ?side2 ?side3 A56.out).mono ?_); (case side1 => repeat (first | (with_reducible first | exact HB.out | apply below_alloc | apply pw_below_drewN | apply below_drew1 | refine below_set ?_ GE1667.out | refine below_set ?_ GE1690.out | refine below_set ?_ GE1701.out | refine below_set ?_ GE1713.out) | exact HB.out)); (case side2 => exact Kd.Q_tight rfl HO_1702001.out); (case side3 => exact Kd.R_tight rfl HO_1702002.out); rintro e w67 ⟨rfl, hy0, hy1, hb, hkp⟩; refine ⟨_, rfl, ?_⟩; replace HO_1691001 := am (Kd.R_mono (ok' := fun k_ => some k_ ≠ (.slice Ao32 t1692.length co32 : Value).ownBlock ∧ some k_ ≠ (.slice Ao40 t1703.length co40 : Value).ownBlock ∧ some k_ ≠ (.slice Ao60 t1716.length co60 : Value).ownBlock) (Kd.R_keptB ((Kd.R_apart' HO_1691001.out (Kd.R_typed HO_1702002.out) (by decide))) hkp (fun k_ hk_ hs_ => Or.elim hs_ (fun e_ => (hk_.1.1.1) e_) (fun e_ => (hk_.2) e_))) (fun k_ hk_ => ⟨hk_.1.1.1.1, hk_.1.1.1.2, hk_.1.1.2⟩)); replace HO_1691002 := am (Kd.R_mono (ok' := fun k_ => some k_ ≠ (.slice Ao33 t1695.length co33 : Value).ownBlock ∧ some k_ ≠ (.slice Ao41 t1706.length co41 : Value).ownBlock ∧ some k_ ≠ (.slice Ao61 t1719.length co61 : Value).ownBlock) (Kd.R_keptB ((Kd.R_apart' HO_1691002.out (Kd.Q_typed HO_1702001.out) (by decide))) hkp (fun k_ hk_ hs_ => Or.elim hs_ (fun e_ => (hk_.2) e_) (fun e_ => (hk_.1.1.1) e_))) (fun k_ hk_ => ⟨hk_.1.1.1.1, hk_.1.1.1.2, hk_.1.1.2⟩)); replace HO_1714001 := am (Kd.Q_mono (ok' := fun k_ => some k_ ≠ (.slice Ao24 t1680.length co24 : Value).ownBlock ∧ some k_ ≠ (.slice Ao32 t1692.length co32 : Value).ownBlock ∧ some k_ ≠ (.slice Ao60 t1716.length co60 : Value).ownBlock) (Kd.Q_keptB ((Kd.Q_apart' HO_1714001.out (Kd.R_typed HO_1702002.out) (by decide))) hkp (fun k_ hk_ hs_ => Or.elim hs_ (fun e_ => (hk_.1.1.2) e_) (fun e_ => (hk_.2) e_))) (fun k_ hk_ => ⟨hk_.1.1.1.1, hk_.1.1.1.2, hk_.1.1.2⟩)); replace HO_1714002 := am (Kd.R_mono (ok' := fun k_ => some k_ ≠ (.slice Ao25 t1683.length co25 : Value).ownBlock ∧ some k_ ≠ (.slice Ao33 t1695.length co33 : Value).ownBlock ∧ some k_ ≠ (.slice Ao61 t1719.length co61 : Value).ownBlock) (Kd.R_keptB ((Kd.R_apart' HO_1714002.out (Kd.Q_typed HO_1702001.out) (by decide))) hkp (fun k_ hk_ hs_ => Or.elim hs_ (fun e_ => (hk_.2) e_) (fun e_ => (hk_.1.1.2) e_))) (fun k_ hk_ => ⟨hk_.1.1.1.1, hk_.1.1.1.2, hk_.1.1.2⟩)); replace BK1667 := am (blk_kept (pkK BK1667.out) hkp (fun hs_ => Or.elim hs_ (fun e_ => (fun e_ => (Kd.Q_ne HO_1702001.out BK1667.out (by decide)) e_) e_) (fun e_ => (fun e_ => (Kd.R_ne HO_1702002.out BK1667.out (by decide)) e_) e_))); replace BK1690 := am (blk_kept (pkK BK1690.out) hkp (fun hs_ => Or.elim hs_ (fun e_ => (fun e_ => (Kd.Q_ne HO_1702001.out BK1690.out (by decide)) e_) e_) (fun e_ => (fun e_ => (Kd.R_ne HO_1702002.out BK1690.out (by decide)) e_) e_))); replace BK1701 := am (blk_kept (pkK BK1701.out) hkp (fun hs_ => Or.elim hs_ (fun e_ => (fun e_ => (Kd.Q_ne HO_1702001.out BK1701.out (by decide)) e_) e_) (fun e_ => (fun e_ => (Kd.R_ne HO_1702002.out BK1701.out (by decide)) e_) e_))); replace BK1713 := am (blk_kept (pkK BK1713.out) hkp (fun hs_ => Or.elim hs_ (fun e_ => (fun e_ => (Kd.Q_ne HO_1702001.out BK1713.out (by decide)) e_) e_) (fun e_ => (fun e_ => (Kd.R_ne HO_1702002.out BK1713.out (by decide)) e_) e_))); replace HO1718 := am (Kd.R_mono (ok' := fun k_ => some k_ ≠ (.slice Ao24 t1680.length co24 : Value).ownBlock ∧ some k_ ≠ (.slice Ao32 t1692.length co32 : Value).ownBlock ∧ some k_ ≠ (.slice Ao40 t1703.length co40 : Value).ownBlock) (Kd.R_keptB ((Kd.R_apart' HO1718.out (Kd.R_typed HO_1702002.out) (by decide))) hkp (fun k_ hk_ hs_ => Or.elim hs_ (fun e_ => (hk_.1.1.2) e_) (fun e_ => (hk_.2) e_))) (fun k_ hk_ => ⟨hk_.1.1.1.1.2, hk_.1.1.1.2, hk_.1.1.2⟩)); replace HO_1702002 := am (Kd.R_reok rfl hy1 (fun k_ e_ => HO_1702002.out.1 k_ e_)); replace HO1721 := am (Kd.R_mono (ok' := fun k_ => some k_ ≠ (.slice Ao25 t1683.length co25 : Value).ownBlock ∧ some k_ ≠ (.slice Ao33 t1695.length co33 : Value).ownBlock ∧ some k_ ≠ (.slice Ao41 t1706.length co41 : Value).ownBlock) (Kd.R_keptB ((Kd.R_apart' HO1721.out (Kd.Q_typed HO_1702001.out) (by decide))) hkp (fun k_ hk_ hs_ => Or.elim hs_ (fun e_ => (hk_.2) e_) (fun e_ => (hk_.1.1.2) e_))) (fun k_ hk_ => ⟨hk_.1.1.1.1.2, hk_.1.1.1.2, hk_.1.1.2⟩)); replace HO_1702001 := am (Kd.Q_reok rfl hy0 (fun k_ e_ => HO_1702001.out.1 k_ e_)); replace HB := am (hb); (try clear hb); (try clear hkp); (try clear hy0); (try clear hy1)))
      (try simp only [Act.put, List.setIfInBounds_toArray, List.set_cons_zero, List.set_cons_succ])
      go_cut [65] (fun v65 wc => ∃ (kq : Nat) (x65_56 : Bool), v65 = .bool x65_56 ∧ Aside0 (laws_FnExactResume.j1 kq a1 t1689 x65_56 a0_0 l0_1 l0_2 a0_3 a0_4 a0_5 t1679 t1680 t1683 t1686 t1687 t1688 t1702 t1703 t1706 t1709 t1710 t1711 = some r) ∧ Aside0 (kq ≤ kj11) ∧ Aside0 (Kd.R (Kd.int .i64) 3 wc w.heap.size (fun k_ => some k_ ≠ ((.slice Ao32 t1692.length co32) : Value).ownBlock ∧ some k_ ≠ ((.slice Ao40 t1703.length co40) : Value).ownBlock) (.slice Ao24 t1680.length co24) t1680) ∧ Aside0 (Kd.R k67 67 wc w.heap.size (fun k_ => some k_ ≠ ((.slice Ao33 t1695.length co33) : Value).ownBlock ∧ some k_ ≠ ((.slice Ao41 t1706.length co41) : Value).ownBlock) (.slice Ao25 t1683.length co25) t1683) ∧ Aside0 (Kd.Q (Kd.int .i64) 3 wc w.heap.size (fun k_ => some k_ ≠ ((.slice Ao24 t1680.length co24) : Value).ownBlock ∧ some k_ ≠ ((.slice Ao40 t1703.length co40) : Value).ownBlock) (.slice Ao32 t1692.length co32) t1727) ∧ Aside0 (Kd.R k67 67 wc w.heap.size (fun k_ => some k_ ≠ ((.slice Ao25 t1683.length co25) : Value).ownBlock ∧ some k_ ≠ ((.slice Ao41 t1706.length co41) : Value).ownBlock) (.slice Ao33 t1695.length co33) t1728) ∧ Aside0 (Kd.Q (Kd.int .i64) 3 wc w.heap.size (fun k_ => some k_ ≠ ((.slice Ao24 t1680.length co24) : Value).ownBlock ∧ some k_ ≠ ((.slice Ao32 t1692.length co32) : Value).ownBlock) (.slice Ao40 t1703.length co40) t1703) ∧ Aside0 (Kd.R k67 67 wc w.heap.size (fun k_ => some k_ ≠ ((.slice Ao25 t1683.length co25) : Value).ownBlock ∧ some k_ ≠ ((.slice Ao33 t1695.length co33) : Value).ownBlock) (.slice Ao41 t1706.length co41) t1706) ∧ Aside0 (wc.heap[gb1667]? = some (.cells #[.bool a0_0, (.slice A0_1 l0_1.length c0_1), (.slice A0_2 l0_2.length c0_2), .int .i64 a0_3, .int .i64 a0_4, .int .i64 a0_5] 33 (0, 0))) ∧ Aside0 (wc.heap[gb1690]? = some (.cells #[.bool t1679, (.slice Ao24 t1680.length co24), (.slice Ao25 t1683.length co25), .int .i64 t1686, .int .i64 t1687, .int .i64 t1688] 38 (0, 0))) ∧ Aside0 (wc.heap[gb1701]? = some (.cells #[.bool t1691, (.slice Ao32 t1692.length co32), (.slice Ao33 t1695.length co33), .int .i64 t1698, .int .i64 t1699, .int .i64 t1700] 38 (0, 0))) ∧ Aside0 (wc.heap[gb1713]? = some (.cells #[.bool t1702, (.slice Ao40 t1703.length co40), (.slice Ao41 t1706.length co41), .int .i64 t1709, .int .i64 t1710, .int .i64 t1711] 38 (0, 0))) ∧ Aside0 (Below w.heap.size w wc))
      case first =>
       have H := HC57.out
       clear HC57
       by_cases c68 : t1726 < 0
       ·rw [if_pos c68] at H
        have c68b0 : decide (t1726 < 0) = true := decide_eq_true c68
        clear c68
        (first | rw [c68b0] | (simp only [i64_w, i32_w]; rw [c68b0]) | skip)
        cases kj11 with
        | zero => exact absurd H (by simp [laws_FnExactResume.j1])
        | succ k_ => (simp only [laws_FnExactResume.j1, if_pos] at H; exact absurd (Option.some.inj H) (by rw [HQ_.out]; simp))
       ·rw [if_neg c68] at H
        have c68b0 : decide (t1726 < 0) = false := decide_eq_false c68
        clear c68
        (first | rw [c68b0] | (simp only [i64_w, i32_w]; rw [c68b0]) | skip)
        replace H := Option.bind_eq_some_iff.mp H
        obtain ⟨t1729, A690, H⟩ := H
        replace H : (if t1729 = true then (laws_FnExactResume.j1 kj11 a1 t1689 (t1712 != t1689) a0_0 l0_1 l0_2 a0_3 a0_4 a0_5 t1679 t1680 t1683 t1686 t1687 t1688 t1702 t1703 t1706 t1709 t1710 t1711) else (laws_FnExactResume.j1 kj11 a1 t1689 true a0_0 l0_1 l0_2 a0_3 a0_4 a0_5 t1679 t1680 t1683 t1686 t1687 t1688 t1702 t1703 t1706 t1709 t1710 t1711)) = some r := H
        have A69 := am A690
        clear A690
        by_cases c70 : t1729 = true
        ·subst c70
         replace H : (laws_FnExactResume.j1 kj11 a1 t1689 (t1712 != t1689) a0_0 l0_1 l0_2 a0_3 a0_4 a0_5 t1679 t1680 t1683 t1686 t1687 t1688 t1702 t1703 t1706 t1709 t1710 t1711) = some r := by rw [if_pos rfl] at H; exact H
         have H' := am H
         clear H
         have hnb71 := NB1713_1667.out
         have hnc71 := NB1667_1713.out
         have hnb72 := NB1713_1690.out
         have hnc72 := NB1690_1713.out
         have hnb73 := NB1713_1701.out
         have hnc73 := NB1701_1713.out
         obtain ⟨hcz74_0, hcz74_1, hcz74_2, hcz74_3, hcz74_4, hcz74_5, hfz74_0, hfz74_1, hfz74_2, hfz74_3, hfz74_4, hfz74_5⟩ := bk6 BK1713.out
         have hnb75 := NB1690_1667.out
         have hnc75 := NB1667_1690.out
         have hnb76 := NB1690_1701.out
         have hnc76 := NB1701_1690.out
         obtain ⟨hcz77_0, hcz77_1, hcz77_2, hcz77_3, hcz77_4, hcz77_5, hfz77_0, hfz77_1, hfz77_2, hfz77_3, hfz77_4, hfz77_5⟩ := bk6 BK1690.out
         go_wp2_with (first | (go_at_call 23; (with_reducible refine (laws_eqNotify.calls kj11 t1702 _ _ t1703 _ _ t1706 t1709 t1710 t1711 t1679 _ _ t1680 _ _ t1683 t1686 t1687 t1688 true _ ?side1 ?side2 ?side3 ?side4 ?side5 ?side6 ?side7 ?side8 A69.out).mono ?_); (case side1 => repeat (first | exact (Kd.Q_reads' HO_1714001.out).2.2 | (with_reducible refine Kd.C_alloc ?_ _) | (with_reducible refine Kd.C_drewN ?_ _) | (with_reducible refine Kd.C_drew ?_))); (case side2 => exact (Kd.Q_reads' HO_1714001.out).2.1); (case side3 => exact pkC (Kd.R_reads' HO_1714002.out).2.2); (case side4 => exact (Kd.R_reads' HO_1714002.out).2.1); (case side5 => exact pkC (Kd.R_reads' HO_1691001.out).2.2); (case side6 => exact (Kd.R_reads' HO_1691001.out).2.1); (case side7 => exact pkC (Kd.R_reads' HO_1691002.out).2.2); (case side8 => exact (Kd.R_reads' HO_1691002.out).2.1); rintro e w78 ⟨rfl, hb⟩; replace HO_1691001 := am (Kd.R_below (pkR HO_1691001.out) hb); replace HO_1691002 := am (Kd.R_below (pkR HO_1691002.out) hb); replace HO_1702001 := am (Kd.Q_below (pkQ HO_1702001.out) hb); replace HO_1702002 := am (Kd.R_below (pkR HO_1702002.out) hb); replace HO_1714001 := am (Kd.Q_below (pkQ HO_1714001.out) hb); replace HO_1714002 := am (Kd.R_below (pkR HO_1714002.out) hb); replace HO1718 := am (Kd.R_below (pkR HO1718.out) hb); replace HO1721 := am (Kd.R_below (pkR HO1721.out) hb); replace BK1667 := am (blk_below (pkK BK1667.out) hb); replace BK1690 := am (blk_below (pkK BK1690.out) hb); replace BK1701 := am (blk_below (pkK BK1701.out) hb); replace BK1713 := am (blk_below (pkK BK1713.out) hb); replace HB := am (below_step (pkW HB.out) hb); (try clear hb)))
         go_meet
         case rel => exact ⟨_, ((t1712 != t1689)), rfx, H', ⟨by have := HJ11.out; first | omega | exact Nat.le_refl _⟩, ⟨by (with_reducible repeat (first | apply Kd.R_alloc | apply Kd.R_drewN | apply Kd.R_drew)); exact Kd.R_mono HO_1691001.out (fun _ hk => ⟨hk.1, hk.2.1⟩)⟩, ⟨by (with_reducible repeat (first | apply Kd.R_alloc | apply Kd.R_drewN | apply Kd.R_drew)); exact Kd.R_mono HO_1691002.out (fun _ hk => ⟨hk.1, hk.2.1⟩)⟩, ⟨by (with_reducible repeat (first | apply Kd.Q_alloc | apply Kd.Q_drewN | apply Kd.Q_drew)); exact Kd.Q_mono HO_1702001.out (fun _ hk => ⟨hk.1.1, hk.1.2⟩)⟩, ⟨by (with_reducible repeat (first | apply Kd.R_alloc | apply Kd.R_drewN | apply Kd.R_drew)); exact Kd.R_mono HO_1702002.out (fun _ hk => ⟨hk.1.1, hk.1.2⟩)⟩, ⟨by (with_reducible repeat (first | apply Kd.Q_alloc | apply Kd.Q_drewN | apply Kd.Q_drew)); exact Kd.Q_mono HO_1714001.out (fun _ hk => ⟨hk.1, hk.2.1⟩)⟩, ⟨by (with_reducible repeat (first | apply Kd.R_alloc | apply Kd.R_drewN | apply Kd.R_drew)); exact Kd.R_mono HO_1714002.out (fun _ hk => ⟨hk.1, hk.2.1⟩)⟩, ⟨pkK BK1667.out⟩, ⟨pkK BK1690.out⟩, ⟨pkK BK1701.out⟩, ⟨pkK BK1713.out⟩, ⟨pkW HB.out⟩⟩
        ·replace c70 := Bool.eq_false_iff.mpr c70
         subst c70
         replace H : (laws_FnExactResume.j1 kj11 a1 t1689 true a0_0 l0_1 l0_2 a0_3 a0_4 a0_5 t1679 t1680 t1683 t1686 t1687 t1688 t1702 t1703 t1706 t1709 t1710 t1711) = some r := by rw [if_neg (show ¬ (false = true) by decide)] at H; exact H
         cases kj11 with
         | zero => exact absurd H (by simp [laws_FnExactResume.j1])
         | succ k_ => (simp only [laws_FnExactResume.j1, if_pos] at H; exact absurd (Option.some.inj H) (by rw [HQ_.out]; simp))
      case rest =>
       clear HC57
       try clear c1
       try clear c2
       try clear p2
       try clear c3
       try clear c4
       try clear c4b0
       try clear c5
       try clear c6
       try clear c7
       try clear c13
       try clear c19
       try clear c21
       try clear c22
       try clear c23
       try clear c29
       try clear c30
       try clear c35
       try clear c36
       try clear c37
       try clear c38
       try clear c43
       try clear c44
       try clear c45
       try clear c46
       try clear c48
       try clear c49
       try clear c52
       try clear c55
       try clear c63
       try clear c64
       try clear c65
       try clear c68
       try clear c68b0
       try clear c70
       try clear c71
       try clear c72
       try clear c73
       try clear c75
       try clear c76
       try clear hcz14_0
       try clear hcz14_1
       try clear hcz14_2
       try clear hcz14_3
       try clear hcz14_4
       try clear hcz14_5
       try clear hcz16_0
       try clear hcz16_1
       try clear hcz16_2
       try clear hcz16_3
       try clear hcz16_4
       try clear hcz16_5
       try clear hcz23_0
       try clear hcz23_1
       try clear hcz23_2
       try clear hcz23_3
       try clear hcz23_4
       try clear hcz23_5
       try clear hcz26_0
       try clear hcz26_1
       try clear hcz26_2
       try clear hcz26_3
       try clear hcz26_4
       try clear hcz26_5
       try clear hcz31_0
       try clear hcz31_1
       try clear hcz31_2
       try clear hcz31_3
       try clear hcz31_4
       try clear hcz31_5
       try clear hcz39_0
       try clear hcz39_1
       try clear hcz39_2
       try clear hcz39_3
       try clear hcz39_4
       try clear hcz39_5
       try clear hcz47_0
       try clear hcz47_1
       try clear hcz47_2
       try clear hcz47_3
       try clear hcz47_4
       try clear hcz47_5
       try clear hcz50_0
       try clear hcz50_1
       try clear hcz50_2
       try clear hcz50_3
       try clear hcz50_4
       try clear hcz50_5
       try clear hcz66_0
       try clear hcz66_1
       try clear hcz66_2
       try clear hcz66_3
       try clear hcz66_4
       try clear hcz66_5
       try clear hcz6_0
       try clear hcz6_1
       try clear hcz6_2
       try clear hcz6_3
       try clear hcz6_4
       try clear hcz6_5
       try clear hcz74_0
       try clear hcz74_1
       try clear hcz74_2
       try clear hcz74_3
       try clear hcz74_4
       try clear hcz74_5
       try clear hcz77_0
       try clear hcz77_1
       try clear hcz77_2
       try clear hcz77_3
       try clear hcz77_4
       try clear hcz77_5
       try clear hfz14_0
       try clear hfz14_1
       try clear hfz14_2
       try clear hfz14_3
       try clear hfz14_4
       try clear hfz14_5
       try clear hfz16_0
       try clear hfz16_1
       try clear hfz16_2
       try clear hfz16_3
       try clear hfz16_4
       try clear hfz16_5
       try clear hfz23_0
       try clear hfz23_1
       try clear hfz23_2
       try clear hfz23_3
       try clear hfz23_4
       try clear hfz23_5
       try clear hfz26_0
       try clear hfz26_1
       try clear hfz26_2
       try clear hfz26_3
       try clear hfz26_4
       try clear hfz26_5
       try clear hfz31_0
       try clear hfz31_1
       try clear hfz31_2
       try clear hfz31_3
       try clear hfz31_4
       try clear hfz31_5
       try clear hfz39_0
       try clear hfz39_1
       try clear hfz39_2
       try clear hfz39_3
       try clear hfz39_4
       try clear hfz39_5
       try clear hfz47_0
       try clear hfz47_1
       try clear hfz47_2
       try clear hfz47_3
       try clear hfz47_4
       try clear hfz47_5
       try clear hfz50_0
       try clear hfz50_1
       try clear hfz50_2
       try clear hfz50_3
       try clear hfz50_4
       try clear hfz50_5
       try clear hfz66_0
       try clear hfz66_1
       try clear hfz66_2
       try clear hfz66_3
       try clear hfz66_4
       try clear hfz66_5
       try clear hfz6_0
       try clear hfz6_1
       try clear hfz6_2
       try clear hfz6_3
       try clear hfz6_4
       try clear hfz6_5
       try clear hfz74_0
       try clear hfz74_1
       try clear hfz74_2
       try clear hfz74_3
       try clear hfz74_4
       try clear hfz74_5
       try clear hfz77_0
       try clear hfz77_1
       try clear hfz77_2
       try clear hfz77_3
       try clear hfz77_4
       try clear hfz77_5
       try clear p2
       obtain ⟨kq, x65_56, rfl, HA, HJ56, HO_1691001, HO_1691002, HO_1702001, HO_1702002, HO_1714001, HO_1714002, BK1667, BK1690, BK1701, BK1713, HB⟩ := hcut
       have hl1702001_56 := (Kd.Q_reads' HO_1702001.out).1
       rw [hl1702001_56] at HO_1702001
       (try simp only [hl1702001_56])
       (try simp only [hl1702001_56] at BK1667)
       (try simp only [hl1702001_56] at BK1690)
       (try simp only [hl1702001_56] at BK1701)
       (try simp only [hl1702001_56] at BK1713)
       (try simp only [hl1702001_56] at HO_1691001)
       (try simp only [hl1702001_56] at HO_1691002)
       (try simp only [hl1702001_56] at HO_1702002)
       (try simp only [hl1702001_56] at HO_1714001)
       (try simp only [hl1702001_56] at HO_1714002)
       have hl1702002_56 := (Kd.R_reads' HO_1702002.out).1
       rw [hl1702002_56] at HO_1702002
       (try simp only [hl1702002_56])
       (try simp only [hl1702002_56] at BK1667)
       (try simp only [hl1702002_56] at BK1690)
       (try simp only [hl1702002_56] at BK1701)
       (try simp only [hl1702002_56] at BK1713)
       (try simp only [hl1702002_56] at HO_1691001)
       (try simp only [hl1702002_56] at HO_1691002)
       (try simp only [hl1702002_56] at HO_1702001)
       (try simp only [hl1702002_56] at HO_1714001)
       (try simp only [hl1702002_56] at HO_1714002)
       cases kq with
       | zero => exact absurd HA.out (by simp [laws_FnExactResume.j1])
       | succ kj56 =>
        have H := HA.out
        clear HA
        simp only [laws_FnExactResume.j1] at H
        by_cases c79 : x65_56 = true
        ·subst c79
         replace H : (some false) = some r := by rw [if_pos rfl] at H; exact H
         exact absurd (Option.some.inj H) (by rw [HQ_.out]; simp)
        ·replace c79 := Bool.eq_false_iff.mpr c79
         subst c79
         replace H : ((laws_markNotify.f kj56 t1702 t1703 t1706 t1709 t1710 t1711 1).bind fun bt1730 => ((laws_heldNotify.f kj56 t1702 bt1730.2.1 bt1730.2.2 t1709 t1710 t1711 1).bind fun t1733 => (if t1733 < 0 then (some false) else (if t1733 = bt1730.1 then ((laws_toNotify.f kj56 a0_0 l0_1 l0_2 a0_3 a0_4 a0_5).bind fun bt1734 => ((impl_Resume.f kj56 bt1734.1 bt1734.2.1 bt1734.2.2.1 bt1734.2.2.2.1 bt1734.2.2.2.2.1 bt1734.2.2.2.2.2 a1).bind fun bt1744 => ((laws_eqNotify.f kj56 bt1744.1 bt1744.2.1 bt1744.2.2.1 bt1744.2.2.2.1 bt1744.2.2.2.2.1 bt1744.2.2.2.2.2.1 t1679 t1680 t1683 t1686 t1687 t1688).bind fun t1756 => (if t1756 = true then (laws_FnExactResume.j2 kj56 bt1730.1 (bt1744.2.2.2.2.2.2 != t1689) t1702 bt1730.2.1 bt1730.2.2 t1709 t1710 t1711) else (laws_FnExactResume.j2 kj56 bt1730.1 true t1702 bt1730.2.1 bt1730.2.2 t1709 t1710 t1711))))) else (some false))))) = some r := by rw [if_neg (show ¬ (false = true) by decide)] at H; exact H
         replace H := Option.bind_eq_some_iff.mp H
         obtain ⟨⟨t1730, t1731, t1732⟩, A800, H⟩ := H
         replace H : ((laws_heldNotify.f kj56 t1702 t1731 t1732 t1709 t1710 t1711 1).bind fun t1733 => (if t1733 < 0 then (some false) else (if t1733 = t1730 then ((laws_toNotify.f kj56 a0_0 l0_1 l0_2 a0_3 a0_4 a0_5).bind fun bt1734 => ((impl_Resume.f kj56 bt1734.1 bt1734.2.1 bt1734.2.2.1 bt1734.2.2.2.1 bt1734.2.2.2.2.1 bt1734.2.2.2.2.2 a1).bind fun bt1744 => ((laws_eqNotify.f kj56 bt1744.1 bt1744.2.1 bt1744.2.2.1 bt1744.2.2.2.1 bt1744.2.2.2.2.1 bt1744.2.2.2.2.2.1 t1679 t1680 t1683 t1686 t1687 t1688).bind fun t1756 => (if t1756 = true then (laws_FnExactResume.j2 kj56 t1730 (bt1744.2.2.2.2.2.2 != t1689) t1702 t1731 t1732 t1709 t1710 t1711) else (laws_FnExactResume.j2 kj56 t1730 true t1702 t1731 t1732 t1709 t1710 t1711))))) else (some false)))) = some r := H
         have A80 := am A800
         clear A800
         replace H := Option.bind_eq_some_iff.mp H
         obtain ⟨t1733, A810, H⟩ := H
         replace H : (if t1733 < 0 then (some false) else (if t1733 = t1730 then ((laws_toNotify.f kj56 a0_0 l0_1 l0_2 a0_3 a0_4 a0_5).bind fun bt1734 => ((impl_Resume.f kj56 bt1734.1 bt1734.2.1 bt1734.2.2.1 bt1734.2.2.2.1 bt1734.2.2.2.2.1 bt1734.2.2.2.2.2 a1).bind fun bt1744 => ((laws_eqNotify.f kj56 bt1744.1 bt1744.2.1 bt1744.2.2.1 bt1744.2.2.2.1 bt1744.2.2.2.2.1 bt1744.2.2.2.2.2.1 t1679 t1680 t1683 t1686 t1687 t1688).bind fun t1756 => (if t1756 = true then (laws_FnExactResume.j2 kj56 t1730 (bt1744.2.2.2.2.2.2 != t1689) t1702 t1731 t1732 t1709 t1710 t1711) else (laws_FnExactResume.j2 kj56 t1730 true t1702 t1731 t1732 t1709 t1710 t1711))))) else (some false))) = some r := H
         have A81 := am A810
         clear A810
         by_cases c82 : t1733 < 0
         ·rw [if_pos c82] at H
          have c82b0 : decide (t1733 < 0) = true := decide_eq_true c82
          clear c82
          exact absurd (Option.some.inj H) (by rw [HQ_.out]; simp)
         ·rw [if_neg c82] at H
          have c82b0 : decide (t1733 < 0) = false := decide_eq_false c82
          clear c82
          by_cases c83 : t1733 = t1730
          ·rw [if_pos c83] at H
           have c83b0 : (t1733 == t1730) = true := beq_iff_eq.mpr c83
           have c83b1 : (t1733 != t1730) = false := bne_eq_false_iff_eq.mpr c83
           clear c83
           replace H := Option.bind_eq_some_iff.mp H
           obtain ⟨⟨t1734, t1735, t1738, t1741, t1742, t1743⟩, A840, H⟩ := H
           replace H : ((impl_Resume.f kj56 t1734 t1735 t1738 t1741 t1742 t1743 a1).bind fun bt1744 => ((laws_eqNotify.f kj56 bt1744.1 bt1744.2.1 bt1744.2.2.1 bt1744.2.2.2.1 bt1744.2.2.2.2.1 bt1744.2.2.2.2.2.1 t1679 t1680 t1683 t1686 t1687 t1688).bind fun t1756 => (if t1756 = true then (laws_FnExactResume.j2 kj56 t1730 (bt1744.2.2.2.2.2.2 != t1689) t1702 t1731 t1732 t1709 t1710 t1711) else (laws_FnExactResume.j2 kj56 t1730 true t1702 t1731 t1732 t1709 t1710 t1711)))) = some r := H
           have A84 := am A840
           clear A840
           replace H := Option.bind_eq_some_iff.mp H
           obtain ⟨⟨t1744, t1745, t1748, t1751, t1752, t1753, t1754⟩, A850, H⟩ := H
           replace H : ((laws_eqNotify.f kj56 t1744 t1745 t1748 t1751 t1752 t1753 t1679 t1680 t1683 t1686 t1687 t1688).bind fun t1756 => (if t1756 = true then (laws_FnExactResume.j2 kj56 t1730 (t1754 != t1689) t1702 t1731 t1732 t1709 t1710 t1711) else (laws_FnExactResume.j2 kj56 t1730 true t1702 t1731 t1732 t1709 t1710 t1711))) = some r := H
           have A85 := am A850
           clear A850
           have HC86 := am H
           clear H
           have hnb87 := NB1713_1667.out
           have hnc87 := NB1667_1713.out
           have hnb88 := NB1713_1690.out
           have hnc88 := NB1690_1713.out
           have hnb89 := NB1713_1701.out
           have hnc89 := NB1701_1713.out
           obtain ⟨hcz90_0, hcz90_1, hcz90_2, hcz90_3, hcz90_4, hcz90_5, hfz90_0, hfz90_1, hfz90_2, hfz90_3, hfz90_4, hfz90_5⟩ := bk6 BK1713.out
           go_upto_region 25 with (first | ((with_reducible refine gate_callee (f := 35) rfl ?_); refine goesL_ (some 68) rfl rfl Try.func35 (by kernel_rfl) rfl #[.agg #[.bool t1702, .slice Ao40 t1703.length co40, .slice Ao41 t1706.length co41, .int .i64 t1709, .int .i64 t1710, .int .i64 t1711], .int .i64 1] rfl mpx ?_; (with_reducible refine (laws_markNotify.calls kj56 t1702 (fun k_ => some k_ = (.slice Ao40 t1703.length co40 : Value).ownBlock) (.slice Ao40 t1703.length co40) t1703 (fun k_ => some k_ = (.slice Ao41 t1706.length co41 : Value).ownBlock) (.slice Ao41 t1706.length co41) t1706 t1709 t1710 t1711 1 t1730 t1731 t1732 w _ ?side1 ?side2 ?side3 A80.out).mono ?_); (case side1 => repeat (first | (with_reducible first | exact HB.out | apply below_alloc | apply pw_below_drewN | apply below_drew1 | refine below_set ?_ GE1667.out | refine below_set ?_ GE1690.out | refine below_set ?_ GE1701.out | refine below_set ?_ GE1713.out) | exact HB.out)); (case side2 => exact Kd.Q_tight rfl HO_1714001.out); (case side3 => exact Kd.R_tight rfl HO_1714002.out); rintro e w91 ⟨rfl, hy0, hy1, hb, hkp⟩; refine ⟨_, rfl, ?_⟩; replace HO_1691001 := am (Kd.R_mono (ok' := fun k_ => some k_ ≠ (.slice Ao32 t1727.length co32 : Value).ownBlock ∧ some k_ ≠ (.slice Ao40 t1703.length co40 : Value).ownBlock) (Kd.R_keptB ((Kd.R_apart' HO_1691001.out (Kd.R_typed HO_1714002.out) (by decide))) hkp (fun k_ hk_ hs_ => Or.elim hs_ (fun e_ => (hk_.1.2) e_) (fun e_ => (hk_.2) e_))) (fun k_ hk_ => ⟨hk_.1.1.1, hk_.1.1.2⟩)); replace HO_1691002 := am (Kd.R_mono (ok' := fun k_ => some k_ ≠ (.slice Ao33 t1728.length co33 : Value).ownBlock ∧ some k_ ≠ (.slice Ao41 t1706.length co41 : Value).ownBlock) (Kd.R_keptB ((Kd.R_apart' HO_1691002.out (Kd.Q_typed HO_1714001.out) (by decide))) hkp (fun k_ hk_ hs_ => Or.elim hs_ (fun e_ => (hk_.2) e_) (fun e_ => (hk_.1.2) e_))) (fun k_ hk_ => ⟨hk_.1.1.1, hk_.1.1.2⟩)); replace HO_1702001 := am (Kd.Q_mono (ok' := fun k_ => some k_ ≠ (.slice Ao24 t1680.length co24 : Value).ownBlock ∧ some k_ ≠ (.slice Ao40 t1703.length co40 : Value).ownBlock) (Kd.Q_keptB ((Kd.Q_apart' HO_1702001.out (Kd.R_typed HO_1714002.out) (by decide))) hkp (fun k_ hk_ hs_ => Or.elim hs_ (fun e_ => (hk_.1.2) e_) (fun e_ => (hk_.2) e_))) (fun k_ hk_ => ⟨hk_.1.1.1, hk_.1.1.2⟩)); replace HO_1702002 := am (Kd.R_mono (ok' := fun k_ => some k_ ≠ (.slice Ao25 t1683.length co25 : Value).ownBlock ∧ some k_ ≠ (.slice Ao41 t1706.length co41 : Value).ownBlock) (Kd.R_keptB ((Kd.R_apart' HO_1702002.out (Kd.Q_typed HO_1714001.out) (by decide))) hkp (fun k_ hk_ hs_ => Or.elim hs_ (fun e_ => (hk_.2) e_) (fun e_ => (hk_.1.2) e_))) (fun k_ hk_ => ⟨hk_.1.1.1, hk_.1.1.2⟩)); replace BK1667 := am (blk_kept (pkK BK1667.out) hkp (fun hs_ => Or.elim hs_ (fun e_ => (fun e_ => (Kd.Q_ne HO_1714001.out BK1667.out (by decide)) e_) e_) (fun e_ => (fun e_ => (Kd.R_ne HO_1714002.out BK1667.out (by decide)) e_) e_))); replace BK1690 := am (blk_kept (pkK BK1690.out) hkp (fun hs_ => Or.elim hs_ (fun e_ => (fun e_ => (Kd.Q_ne HO_1714001.out BK1690.out (by decide)) e_) e_) (fun e_ => (fun e_ => (Kd.R_ne HO_1714002.out BK1690.out (by decide)) e_) e_))); replace BK1701 := am (blk_kept (pkK BK1701.out) hkp (fun hs_ => Or.elim hs_ (fun e_ => (fun e_ => (Kd.Q_ne HO_1714001.out BK1701.out (by decide)) e_) e_) (fun e_ => (fun e_ => (Kd.R_ne HO_1714002.out BK1701.out (by decide)) e_) e_))); replace BK1713 := am (blk_kept (pkK BK1713.out) hkp (fun hs_ => Or.elim hs_ (fun e_ => (fun e_ => (Kd.Q_ne HO_1714001.out BK1713.out (by decide)) e_) e_) (fun e_ => (fun e_ => (Kd.R_ne HO_1714002.out BK1713.out (by decide)) e_) e_))); replace HO_1714001 := am (Kd.Q_reok rfl hy0 (fun k_ e_ => HO_1714001.out.1 k_ e_)); replace HO_1714002 := am (Kd.R_reok rfl hy1 (fun k_ e_ => HO_1714002.out.1 k_ e_)); replace HB := am (hb); (try clear hb); (try clear hkp); (try clear hy0); (try clear hy1); obtain ⟨hcz92_0, hcz92_1, hcz92_2, hcz92_3, hcz92_4, hcz92_5, hfz92_0, hfz92_1, hfz92_2, hfz92_3, hfz92_4, hfz92_5⟩ := bk6 BK1713.out) | ((with_reducible refine gate_callee (f := 37) rfl ?_); refine goesL_ (some 71) rfl rfl Try.func37 (by kernel_rfl) rfl #[.agg #[.bool t1702, .slice Ao40 t1731.length co40, .slice Ao41 t1732.length co41, .int .i64 t1709, .int .i64 t1710, .int .i64 t1711], .int .i64 1] rfl (by (try simp only [List.map_toArray, List.map_cons, List.map_nil]); first | done | (rw [show t1731.length = t1703.length from (Kd.Q_reads' HO_1714001.out).1.symm, show t1732.length = t1706.length from (Kd.R_reads' HO_1714002.out).1.symm] <;> rfl) | rfl | (simp only [List.length_drop, List.length_take]; rfl) | (go_simp; done) | (simp [*]; done)) ?_; (with_reducible refine (laws_heldNotify.calls kj56 t1702 _ _ t1731 _ _ t1732 t1709 t1710 t1711 1 t1733 _ ?side1 ?side2 ?side3 ?side4 A81.out).mono ?_); (case side1 => repeat (first | exact (Kd.Q_reads' HO_1714001.out).2.2 | (with_reducible refine Kd.C_alloc ?_ _) | (with_reducible refine Kd.C_drewN ?_ _) | (with_reducible refine Kd.C_drew ?_))); (case side2 => rw [show t1731.length = t1703.length from (Kd.Q_reads' HO_1714001.out).1.symm]; exact (Kd.Q_reads' HO_1714001.out).2.1); (case side3 => exact pkC (Kd.R_reads' HO_1714002.out).2.2); (case side4 => rw [show t1732.length = t1706.length from (Kd.R_reads' HO_1714002.out).1.symm]; exact (Kd.R_reads' HO_1714002.out).2.1); rintro e w93 ⟨rfl, hb⟩; refine ⟨_, rfl, ?_⟩; replace HO_1691001 := am (Kd.R_below (pkR HO_1691001.out) hb); replace HO_1691002 := am (Kd.R_below (pkR HO_1691002.out) hb); replace HO_1702001 := am (Kd.Q_below (pkQ HO_1702001.out) hb); replace HO_1702002 := am (Kd.R_below (pkR HO_1702002.out) hb); replace HO_1714001 := am (Kd.Q_below (pkQ HO_1714001.out) hb); replace HO_1714002 := am (Kd.R_below (pkR HO_1714002.out) hb); replace BK1667 := am (blk_below (pkK BK1667.out) hb); replace BK1690 := am (blk_below (pkK BK1690.out) hb); replace BK1701 := am (blk_below (pkK BK1701.out) hb); replace BK1713 := am (blk_below (pkK BK1713.out) hb); replace HB := am (below_step (pkW HB.out) hb); (try clear hb); have hnb94 := NB1667_1690.out; have hnc94 := NB1690_1667.out; have hnb95 := NB1667_1701.out; have hnc95 := NB1701_1667.out; obtain ⟨hcz96_0, hcz96_1, hcz96_2, hcz96_3, hcz96_4, hcz96_5, hfz96_0, hfz96_1, hfz96_2, hfz96_3, hfz96_4, hfz96_5⟩ := bk6 BK1667.out) | ((with_reducible refine gate_callee (f := 21) rfl ?_); refine goesL_ (some 79) rfl rfl Try.func21 (by kernel_rfl) rfl #[.agg #[.bool a0_0, .slice A0_1 l0_1.length c0_1, .slice A0_2 l0_2.length c0_2, .int .i64 a0_3, .int .i64 a0_4, .int .i64 a0_5]] rfl mpx ?_; (with_reducible refine (laws_toNotify.calls kj56 a0_0 _ _ l0_1 _ _ l0_2 a0_3 a0_4 a0_5 t1734 t1735 t1738 t1741 t1742 t1743 _ ?side1 ?side2 ?side3 ?side4 A84.out).mono ?_); (case side1 => exact pkC (Kd.C_below HR0_1.out HB.out)); (case side2 => exact HC0_1.out); (case side3 => exact pkC (Kd.C_below HR0_2.out HB.out)); (case side4 => exact HC0_2.out); rintro e w97 ⟨v1736, v1739, rfl, ho0, ho1, hb⟩; refine ⟨_, rfl, ?_⟩; have HO1737 := am (Kd.R_lower (Kd.R_new' (Kd.R_new' (Kd.R_new' ho0 (Kd.R_lt (pkR HO_1691001.out))) (Kd.Q_lt (pkQ HO_1702001.out))) (Kd.Q_lt (pkQ HO_1714001.out))) (below_size (pkW HB.out))); replace HO_1691001 := am (Kd.R_elder' (pkR HO_1691001.out) (Kd.R_base ho0) hb); replace HO_1702001 := am (Kd.Q_elder' (pkQ HO_1702001.out) (Kd.R_base ho0) hb); replace HO_1714001 := am (Kd.Q_elder' (pkQ HO_1714001.out) (Kd.R_base ho0) hb); have HO1740 := am (Kd.R_lower (Kd.R_new' (Kd.R_new' (Kd.R_new' ho1 (Kd.R_lt (pkR HO_1691002.out))) (Kd.R_lt (pkR HO_1702002.out))) (Kd.R_lt (pkR HO_1714002.out))) (below_size (pkW HB.out))); replace HO_1691002 := am (Kd.R_elder' (pkR HO_1691002.out) (Kd.R_base ho1) hb); replace HO_1702002 := am (Kd.R_elder' (pkR HO_1702002.out) (Kd.R_base ho1) hb); replace HO_1714002 := am (Kd.R_elder' (pkR HO_1714002.out) (Kd.R_base ho1) hb); replace BK1667 := am (blk_below (pkK BK1667.out) hb); replace BK1690 := am (blk_below (pkK BK1690.out) hb); replace BK1701 := am (blk_below (pkK BK1701.out) hb); replace BK1713 := am (blk_below (pkK BK1713.out) hb); replace HB := am (below_step (pkW HB.out) hb); (try clear hb ho0 ho1); obtain ⟨Ao98, co98, eo98⟩ := Kd.R_slice HO1737.out; subst eo98; obtain ⟨Ao99, co99, eo99⟩ := Kd.R_slice HO1740.out; subst eo99) | ((with_reducible refine gate_callee (f := 49) rfl ?_); refine goesL_ (some 81) rfl rfl Try.func49 (by kernel_rfl) rfl #[.agg #[.bool t1734, .slice Ao98 t1735.length co98, .slice Ao99 t1738.length co99, .int .i64 t1741, .int .i64 t1742, .int .i64 t1743], .int .i64 a1] rfl mpx ?_; (with_reducible refine (impl_Resume.calls kj56 t1734 _ _ t1735 _ _ t1738 t1741 t1742 t1743 a1 t1744 t1745 t1748 t1751 t1752 t1753 t1754 _ ?side1 ?side2 ?side3 ?side4 A85.out).mono ?_); (case side1 => exact pkC (Kd.R_reads' HO1737.out).2.2); (case side2 => exact (Kd.R_reads' HO1737.out).2.1); (case side3 => exact pkC (Kd.R_reads' HO1740.out).2.2); (case side4 => exact (Kd.R_reads' HO1740.out).2.1); rintro e w100 ⟨v1746, v1749, rfl, ho0, ho1, hb⟩; refine ⟨_, rfl, ?_⟩; have HO1747 := am (Kd.R_lower (Kd.R_new' (Kd.R_new' (Kd.R_new' (Kd.R_new' ho0 (Kd.R_lt (pkR HO_1691001.out))) (Kd.Q_lt (pkQ HO_1702001.out))) (Kd.Q_lt (pkQ HO_1714001.out))) (Kd.R_lt (pkR HO1737.out))) (below_size (pkW HB.out))); replace HO_1691001 := am (Kd.R_elder' (pkR HO_1691001.out) (Kd.R_base ho0) hb); replace HO_1702001 := am (Kd.Q_elder' (pkQ HO_1702001.out) (Kd.R_base ho0) hb); replace HO_1714001 := am (Kd.Q_elder' (pkQ HO_1714001.out) (Kd.R_base ho0) hb); replace HO1737 := am (Kd.R_elder' (pkR HO1737.out) (Kd.R_base ho0) hb); have HO1750 := am (Kd.R_lower (Kd.R_new' (Kd.R_new' (Kd.R_new' (Kd.R_new' ho1 (Kd.R_lt (pkR HO_1691002.out))) (Kd.R_lt (pkR HO_1702002.out))) (Kd.R_lt (pkR HO_1714002.out))) (Kd.R_lt (pkR HO1740.out))) (below_size (pkW HB.out))); replace HO_1691002 := am (Kd.R_elder' (pkR HO_1691002.out) (Kd.R_base ho1) hb); replace HO_1702002 := am (Kd.R_elder' (pkR HO_1702002.out) (Kd.R_base ho1) hb); replace HO_1714002 := am (Kd.R_elder' (pkR HO_1714002.out) (Kd.R_base ho1) hb); replace HO1740 := am (Kd.R_elder' (pkR HO1740.out) (Kd.R_base ho1) hb); replace BK1667 := am (blk_below (pkK BK1667.out) hb); replace BK1690 := am (blk_below (pkK BK1690.out) hb); replace BK1701 := am (blk_below (pkK BK1701.out) hb); replace BK1713 := am (blk_below (pkK BK1713.out) hb); replace HB := am (below_step (pkW HB.out) hb); (try clear hb ho0 ho1)) | ((with_reducible refine gate_dst (N := 14) rfl ?_); refine box_event ?hg (N := 14) ?hd (cs := #[.bool false, .slice none 0 0, .slice none 0 0, .int .i64 0, .int .i64 0, .int .i64 0]) (t := 38) ?hr ?_; (case hd => rfl); (case hg => rfl); (case hr => first | (go_simp; done) | (go_simp; rfl)); intro gb1755 hg w101 hbox hb; replace HO_1691001 := am (Kd.R_below (pkR HO_1691001.out) hb); replace HO_1691002 := am (Kd.R_below (pkR HO_1691002.out) hb); replace HO_1702001 := am (Kd.Q_below (pkQ HO_1702001.out) hb); replace HO_1702002 := am (Kd.R_below (pkR HO_1702002.out) hb); replace HO_1714001 := am (Kd.Q_below (pkQ HO_1714001.out) hb); replace HO_1714002 := am (Kd.R_below (pkR HO_1714002.out) hb); replace HO1737 := am (Kd.R_below (pkR HO1737.out) hb); replace HO1740 := am (Kd.R_below (pkR HO1740.out) hb); replace HO1747 := am (Kd.R_below (pkR HO1747.out) hb); replace HO1750 := am (Kd.R_below (pkR HO1750.out) hb); have BK1755 := am (hbox); have GW1755 := am ((by rw [hg]; exact (below_size (pkW HB.out)) : w.heap.size ≤ gb1755)); have GE1755 := am ((by rw [hg]; exact (below_size (pkW HB.out)) : w.heap.size ≤ gb1755)); replace HB := am (below_step (pkW HB.out) hb); have NB1667_1755 := am ((by rw [hg]; exact Nat.ne_of_lt (blk_lt (g := gb1667) (o := .cells #[.bool a0_0, .slice A0_1 l0_1.length c0_1, .slice A0_2 l0_2.length c0_2, .int .i64 a0_3, .int .i64 a0_4, .int .i64 a0_5] 33 (0, 0)) (pkK BK1667.out)) : gb1667 ≠ gb1755)); have NB1755_1667 := am ((by rw [hg]; exact Nat.ne_of_gt (blk_lt (g := gb1667) (o := .cells #[.bool a0_0, .slice A0_1 l0_1.length c0_1, .slice A0_2 l0_2.length c0_2, .int .i64 a0_3, .int .i64 a0_4, .int .i64 a0_5] 33 (0, 0)) (pkK BK1667.out)) : gb1755 ≠ gb1667)); replace BK1667 := am (blk_below (pkK BK1667.out) hb); have NB1690_1755 := am ((by rw [hg]; exact Nat.ne_of_lt (blk_lt (g := gb1690) (o := .cells #[.bool t1679, .slice Ao24 t1680.length co24, .slice Ao25 t1683.length co25, .int .i64 t1686, .int .i64 t1687, .int .i64 t1688] 38 (0, 0)) (pkK BK1690.out)) : gb1690 ≠ gb1755)); have NB1755_1690 := am ((by rw [hg]; exact Nat.ne_of_gt (blk_lt (g := gb1690) (o := .cells #[.bool t1679, .slice Ao24 t1680.length co24, .slice Ao25 t1683.length co25, .int .i64 t1686, .int .i64 t1687, .int .i64 t1688] 38 (0, 0)) (pkK BK1690.out)) : gb1755 ≠ gb1690)); replace BK1690 := am (blk_below (pkK BK1690.out) hb); have NB1701_1755 := am ((by rw [hg]; exact Nat.ne_of_lt (blk_lt (g := gb1701) (o := .cells #[.bool t1691, .slice Ao32 t1727.length co32, .slice Ao33 t1728.length co33, .int .i64 t1698, .int .i64 t1699, .int .i64 t1700] 38 (0, 0)) (pkK BK1701.out)) : gb1701 ≠ gb1755)); have NB1755_1701 := am ((by rw [hg]; exact Nat.ne_of_gt (blk_lt (g := gb1701) (o := .cells #[.bool t1691, .slice Ao32 t1727.length co32, .slice Ao33 t1728.length co33, .int .i64 t1698, .int .i64 t1699, .int .i64 t1700] 38 (0, 0)) (pkK BK1701.out)) : gb1755 ≠ gb1701)); replace BK1701 := am (blk_below (pkK BK1701.out) hb); have NB1713_1755 := am ((by rw [hg]; exact Nat.ne_of_lt (blk_lt (g := gb1713) (o := .cells #[.bool t1702, .slice Ao40 t1703.length co40, .slice Ao41 t1706.length co41, .int .i64 t1709, .int .i64 t1710, .int .i64 t1711] 38 (0, 0)) (pkK BK1713.out)) : gb1713 ≠ gb1755)); have NB1755_1713 := am ((by rw [hg]; exact Nat.ne_of_gt (blk_lt (g := gb1713) (o := .cells #[.bool t1702, .slice Ao40 t1703.length co40, .slice Ao41 t1706.length co41, .int .i64 t1709, .int .i64 t1710, .int .i64 t1711] 38 (0, 0)) (pkK BK1713.out)) : gb1755 ≠ gb1713)); replace BK1713 := am (blk_below (pkK BK1713.out) hb); clear hb hbox hg; have hnb102 := NB1755_1667.out; have hnc102 := NB1667_1755.out; have hnb103 := NB1755_1690.out; have hnc103 := NB1690_1755.out; have hnb104 := NB1755_1701.out; have hnc104 := NB1701_1755.out; have hnb105 := NB1755_1713.out; have hnc105 := NB1713_1755.out; obtain ⟨hcz106_0, hcz106_1, hcz106_2, hcz106_3, hcz106_4, hcz106_5, hfz106_0, hfz106_1, hfz106_2, hfz106_3, hfz106_4, hfz106_5⟩ := bk6 BK1755.out; obtain ⟨Ao107, co107, eo107⟩ := Kd.R_slice HO1747.out; subst eo107; obtain ⟨Ao108, co108, eo108⟩ := Kd.R_slice HO1750.out; subst eo108))
           (try simp only [Act.put, List.setIfInBounds_toArray, List.set_cons_zero, List.set_cons_succ])
           go_cut [92] (fun v92 wc => ∃ (kq : Nat) (x92_85 : Bool), v92 = .bool x92_85 ∧ Aside0 (laws_FnExactResume.j2 kq t1730 x92_85 t1702 t1731 t1732 t1709 t1710 t1711 = some r) ∧ Aside0 (kq ≤ kj56) ∧ Aside0 (Kd.R (Kd.int .i64) 3 wc w.heap.size (fun k_ => some k_ ≠ ((.slice Ao32 t1727.length co32) : Value).ownBlock ∧ some k_ ≠ ((.slice Ao40 t1703.length co40) : Value).ownBlock ∧ some k_ ≠ ((.slice Ao107 t1745.length co107) : Value).ownBlock) (.slice Ao24 t1680.length co24) t1680) ∧ Aside0 (Kd.R k67 67 wc w.heap.size (fun k_ => some k_ ≠ ((.slice Ao33 t1728.length co33) : Value).ownBlock ∧ some k_ ≠ ((.slice Ao41 t1706.length co41) : Value).ownBlock ∧ some k_ ≠ ((.slice Ao108 t1748.length co108) : Value).ownBlock) (.slice Ao25 t1683.length co25) t1683) ∧ Aside0 (Kd.Q (Kd.int .i64) 3 wc w.heap.size (fun k_ => some k_ ≠ ((.slice Ao24 t1680.length co24) : Value).ownBlock ∧ some k_ ≠ ((.slice Ao40 t1703.length co40) : Value).ownBlock ∧ some k_ ≠ ((.slice Ao107 t1745.length co107) : Value).ownBlock) (.slice Ao32 t1727.length co32) t1727) ∧ Aside0 (Kd.R k67 67 wc w.heap.size (fun k_ => some k_ ≠ ((.slice Ao25 t1683.length co25) : Value).ownBlock ∧ some k_ ≠ ((.slice Ao41 t1706.length co41) : Value).ownBlock ∧ some k_ ≠ ((.slice Ao108 t1748.length co108) : Value).ownBlock) (.slice Ao33 t1728.length co33) t1728) ∧ Aside0 (Kd.Q (Kd.int .i64) 3 wc w.heap.size (fun k_ => some k_ ≠ ((.slice Ao24 t1680.length co24) : Value).ownBlock ∧ some k_ ≠ ((.slice Ao32 t1727.length co32) : Value).ownBlock ∧ some k_ ≠ ((.slice Ao107 t1745.length co107) : Value).ownBlock) (.slice Ao40 t1703.length co40) t1731) ∧ Aside0 (Kd.R k67 67 wc w.heap.size (fun k_ => some k_ ≠ ((.slice Ao25 t1683.length co25) : Value).ownBlock ∧ some k_ ≠ ((.slice Ao33 t1728.length co33) : Value).ownBlock ∧ some k_ ≠ ((.slice Ao108 t1748.length co108) : Value).ownBlock) (.slice Ao41 t1706.length co41) t1732) ∧ Aside0 (Kd.R (Kd.int .i64) 3 wc w.heap.size (fun k_ => some k_ ≠ ((.slice Ao24 t1680.length co24) : Value).ownBlock ∧ some k_ ≠ ((.slice Ao32 t1727.length co32) : Value).ownBlock ∧ some k_ ≠ ((.slice Ao40 t1703.length co40) : Value).ownBlock) (.slice Ao107 t1745.length co107) t1745) ∧ Aside0 (Kd.R k67 67 wc w.heap.size (fun k_ => some k_ ≠ ((.slice Ao25 t1683.length co25) : Value).ownBlock ∧ some k_ ≠ ((.slice Ao33 t1728.length co33) : Value).ownBlock ∧ some k_ ≠ ((.slice Ao41 t1706.length co41) : Value).ownBlock) (.slice Ao108 t1748.length co108) t1748) ∧ Aside0 (wc.heap[gb1667]? = some (.cells #[.bool a0_0, (.slice A0_1 l0_1.length c0_1), (.slice A0_2 l0_2.length c0_2), .int .i64 a0_3, .int .i64 a0_4, .int .i64 a0_5] 33 (0, 0))) ∧ Aside0 (wc.heap[gb1690]? = some (.cells #[.bool t1679, (.slice Ao24 t1680.length co24), (.slice Ao25 t1683.length co25), .int .i64 t1686, .int .i64 t1687, .int .i64 t1688] 38 (0, 0))) ∧ Aside0 (wc.heap[gb1701]? = some (.cells #[.bool t1691, (.slice Ao32 t1727.length co32), (.slice Ao33 t1728.length co33), .int .i64 t1698, .int .i64 t1699, .int .i64 t1700] 38 (0, 0))) ∧ Aside0 (wc.heap[gb1713]? = some (.cells #[.bool t1702, (.slice Ao40 t1703.length co40), (.slice Ao41 t1706.length co41), .int .i64 t1709, .int .i64 t1710, .int .i64 t1711] 38 (0, 0))) ∧ Aside0 (wc.heap[gb1755]? = some (.cells #[.bool t1744, (.slice Ao107 t1745.length co107), (.slice Ao108 t1748.length co108), .int .i64 t1751, .int .i64 t1752, .int .i64 t1753] 38 (0, 0))) ∧ Aside0 (Below w.heap.size w wc))
           case first =>
            have H := HC86.out
            clear HC86
            replace H := Option.bind_eq_some_iff.mp H
            obtain ⟨t1756, A1090, H⟩ := H
            replace H : (if t1756 = true then (laws_FnExactResume.j2 kj56 t1730 (t1754 != t1689) t1702 t1731 t1732 t1709 t1710 t1711) else (laws_FnExactResume.j2 kj56 t1730 true t1702 t1731 t1732 t1709 t1710 t1711)) = some r := H
            have A109 := am A1090
            clear A1090
            by_cases c110 : t1756 = true
            ·subst c110
             replace H : (laws_FnExactResume.j2 kj56 t1730 (t1754 != t1689) t1702 t1731 t1732 t1709 t1710 t1711) = some r := by rw [if_pos rfl] at H; exact H
             have H' := am H
             clear H
             have hnb111 := NB1755_1667.out
             have hnc111 := NB1667_1755.out
             have hnb112 := NB1755_1690.out
             have hnc112 := NB1690_1755.out
             have hnb113 := NB1755_1701.out
             have hnc113 := NB1701_1755.out
             have hnb114 := NB1755_1713.out
             have hnc114 := NB1713_1755.out
             obtain ⟨hcz115_0, hcz115_1, hcz115_2, hcz115_3, hcz115_4, hcz115_5, hfz115_0, hfz115_1, hfz115_2, hfz115_3, hfz115_4, hfz115_5⟩ := bk6 BK1755.out
             have hnb116 := NB1690_1667.out
             have hnc116 := NB1667_1690.out
             have hnb117 := NB1690_1701.out
             have hnc117 := NB1701_1690.out
             have hnb118 := NB1690_1713.out
             have hnc118 := NB1713_1690.out
             obtain ⟨hcz119_0, hcz119_1, hcz119_2, hcz119_3, hcz119_4, hcz119_5, hfz119_0, hfz119_1, hfz119_2, hfz119_3, hfz119_4, hfz119_5⟩ := bk6 BK1690.out
             go_wp2_with (first | ((with_reducible refine gate_callee (f := 23) rfl ?_); refine goesL_ (some 86) rfl rfl Try.func23 (by kernel_rfl) rfl #[.agg #[.bool t1744, .slice Ao107 t1745.length co107, .slice Ao108 t1748.length co108, .int .i64 t1751, .int .i64 t1752, .int .i64 t1753], .agg #[.bool t1679, .slice Ao24 t1680.length co24, .slice Ao25 t1683.length co25, .int .i64 t1686, .int .i64 t1687, .int .i64 t1688]] rfl mpx ?_; (with_reducible refine (laws_eqNotify.calls kj56 t1744 _ _ t1745 _ _ t1748 t1751 t1752 t1753 t1679 _ _ t1680 _ _ t1683 t1686 t1687 t1688 true _ ?side1 ?side2 ?side3 ?side4 ?side5 ?side6 ?side7 ?side8 A109.out).mono ?_); (case side1 => refine (Kd.R_reads' (e := 3) (base := w.heap.size) (ok := fun k_ => ((((True ∧ some k_ ≠ (.slice Ao24 t1680.length co24 : Value).ownBlock) ∧ some k_ ≠ (.slice Ao32 t1727.length co32 : Value).ownBlock) ∧ some k_ ≠ (.slice Ao40 t1703.length co40 : Value).ownBlock) ∧ some k_ ≠ (.slice Ao98 t1735.length co98 : Value).ownBlock)) (n := t1745.length) (c := co107) ?_).2.2; exact (by (with_reducible repeat (first | apply Kd.R_alloc | apply Kd.R_drewN | apply Kd.R_drew)); exact (Kd.R_mono (Kd.R_far (p := ⟨gb1755, 5, none⟩) (Kd.R_far (p := ⟨gb1755, 4, none⟩) (Kd.R_far (p := ⟨gb1755, 3, none⟩) (Kd.R_far (p := ⟨gb1755, 2, none⟩) (Kd.R_far (p := ⟨gb1755, 1, none⟩) (Kd.R_far (p := ⟨gb1755, 0, none⟩) (Kd.R_types HO1747.out BK1755.out (by decide)) (fun _ hk => hk.2) (.bool t1744)) (fun _ hk => hk.2) (.slice Ao107 t1745.length co107)) (fun _ hk => hk.2) (.slice Ao108 t1748.length co108)) (fun _ hk => hk.2) (.int .i64 t1751)) (fun _ hk => hk.2) (.int .i64 t1752)) (fun _ hk => hk.2) (.int .i64 t1753)) (fun _ h_ => h_.1)))); (case side2 => exact (Kd.R_reads' HO1747.out).2.1); (case side3 => refine (Kd.R_reads' (e := 67) (base := w.heap.size) (ok := fun k_ => ((((True ∧ some k_ ≠ (.slice Ao25 t1683.length co25 : Value).ownBlock) ∧ some k_ ≠ (.slice Ao33 t1728.length co33 : Value).ownBlock) ∧ some k_ ≠ (.slice Ao41 t1706.length co41 : Value).ownBlock) ∧ some k_ ≠ (.slice Ao99 t1738.length co99 : Value).ownBlock)) (n := t1748.length) (c := co108) ?_).2.2; exact (by (with_reducible repeat (first | apply Kd.R_alloc | apply Kd.R_drewN | apply Kd.R_drew)); exact (Kd.R_mono (Kd.R_far (p := ⟨gb1755, 5, none⟩) (Kd.R_far (p := ⟨gb1755, 4, none⟩) (Kd.R_far (p := ⟨gb1755, 3, none⟩) (Kd.R_far (p := ⟨gb1755, 2, none⟩) (Kd.R_far (p := ⟨gb1755, 1, none⟩) (Kd.R_far (p := ⟨gb1755, 0, none⟩) (Kd.R_types HO1750.out BK1755.out (by decide)) (fun _ hk => hk.2) (.bool t1744)) (fun _ hk => hk.2) (.slice Ao107 t1745.length co107)) (fun _ hk => hk.2) (.slice Ao108 t1748.length co108)) (fun _ hk => hk.2) (.int .i64 t1751)) (fun _ hk => hk.2) (.int .i64 t1752)) (fun _ hk => hk.2) (.int .i64 t1753)) (fun _ h_ => h_.1)))); (case side4 => exact (Kd.R_reads' HO1750.out).2.1); (case side5 => refine (Kd.R_reads' (e := 3) (base := w.heap.size) (ok := fun k_ => (((some k_ ≠ (.slice Ao32 t1727.length co32 : Value).ownBlock ∧ some k_ ≠ (.slice Ao40 t1703.length co40 : Value).ownBlock) ∧ some k_ ≠ (.slice Ao98 t1735.length co98 : Value).ownBlock) ∧ some k_ ≠ (.slice Ao107 t1745.length co107 : Value).ownBlock)) (n := t1680.length) (c := co24) ?_).2.2; exact (by (with_reducible repeat (first | apply Kd.R_alloc | apply Kd.R_drewN | apply Kd.R_drew)); exact (Kd.R_mono (Kd.R_far (p := ⟨gb1755, 5, none⟩) (Kd.R_far (p := ⟨gb1755, 4, none⟩) (Kd.R_far (p := ⟨gb1755, 3, none⟩) (Kd.R_far (p := ⟨gb1755, 2, none⟩) (Kd.R_far (p := ⟨gb1755, 1, none⟩) (Kd.R_far (p := ⟨gb1755, 0, none⟩) (Kd.R_types HO_1691001.out BK1755.out (by decide)) (fun _ hk => hk.2) (.bool t1744)) (fun _ hk => hk.2) (.slice Ao107 t1745.length co107)) (fun _ hk => hk.2) (.slice Ao108 t1748.length co108)) (fun _ hk => hk.2) (.int .i64 t1751)) (fun _ hk => hk.2) (.int .i64 t1752)) (fun _ hk => hk.2) (.int .i64 t1753)) (fun _ h_ => h_.1)))); (case side6 => exact (Kd.R_reads' HO_1691001.out).2.1); (case side7 => refine (Kd.R_reads' (e := 67) (base := w.heap.size) (ok := fun k_ => (((some k_ ≠ (.slice Ao33 t1728.length co33 : Value).ownBlock ∧ some k_ ≠ (.slice Ao41 t1706.length co41 : Value).ownBlock) ∧ some k_ ≠ (.slice Ao99 t1738.length co99 : Value).ownBlock) ∧ some k_ ≠ (.slice Ao108 t1748.length co108 : Value).ownBlock)) (n := t1683.length) (c := co25) ?_).2.2; exact (by (with_reducible repeat (first | apply Kd.R_alloc | apply Kd.R_drewN | apply Kd.R_drew)); exact (Kd.R_mono (Kd.R_far (p := ⟨gb1755, 5, none⟩) (Kd.R_far (p := ⟨gb1755, 4, none⟩) (Kd.R_far (p := ⟨gb1755, 3, none⟩) (Kd.R_far (p := ⟨gb1755, 2, none⟩) (Kd.R_far (p := ⟨gb1755, 1, none⟩) (Kd.R_far (p := ⟨gb1755, 0, none⟩) (Kd.R_types HO_1691002.out BK1755.out (by decide)) (fun _ hk => hk.2) (.bool t1744)) (fun _ hk => hk.2) (.slice Ao107 t1745.length co107)) (fun _ hk => hk.2) (.slice Ao108 t1748.length co108)) (fun _ hk => hk.2) (.int .i64 t1751)) (fun _ hk => hk.2) (.int .i64 t1752)) (fun _ hk => hk.2) (.int .i64 t1753)) (fun _ h_ => h_.1)))); (case side8 => exact (Kd.R_reads' HO_1691002.out).2.1); rintro e w120 ⟨rfl, hb⟩; refine ⟨_, rfl, ?_⟩; replace HO_1691001 := am (Kd.R_below (by (with_reducible repeat (first | apply Kd.R_alloc | apply Kd.R_drewN | apply Kd.R_drew)); exact (Kd.R_mono (Kd.R_far (p := ⟨gb1755, 5, none⟩) (Kd.R_far (p := ⟨gb1755, 4, none⟩) (Kd.R_far (p := ⟨gb1755, 3, none⟩) (Kd.R_far (p := ⟨gb1755, 2, none⟩) (Kd.R_far (p := ⟨gb1755, 1, none⟩) (Kd.R_far (p := ⟨gb1755, 0, none⟩) (Kd.R_types HO_1691001.out BK1755.out (by decide)) (fun _ hk => hk.2) (.bool t1744)) (fun _ hk => hk.2) (.slice Ao107 t1745.length co107)) (fun _ hk => hk.2) (.slice Ao108 t1748.length co108)) (fun _ hk => hk.2) (.int .i64 t1751)) (fun _ hk => hk.2) (.int .i64 t1752)) (fun _ hk => hk.2) (.int .i64 t1753)) (fun _ h_ => h_.1))) hb); replace HO_1691002 := am (Kd.R_below (by (with_reducible repeat (first | apply Kd.R_alloc | apply Kd.R_drewN | apply Kd.R_drew)); exact (Kd.R_mono (Kd.R_far (p := ⟨gb1755, 5, none⟩) (Kd.R_far (p := ⟨gb1755, 4, none⟩) (Kd.R_far (p := ⟨gb1755, 3, none⟩) (Kd.R_far (p := ⟨gb1755, 2, none⟩) (Kd.R_far (p := ⟨gb1755, 1, none⟩) (Kd.R_far (p := ⟨gb1755, 0, none⟩) (Kd.R_types HO_1691002.out BK1755.out (by decide)) (fun _ hk => hk.2) (.bool t1744)) (fun _ hk => hk.2) (.slice Ao107 t1745.length co107)) (fun _ hk => hk.2) (.slice Ao108 t1748.length co108)) (fun _ hk => hk.2) (.int .i64 t1751)) (fun _ hk => hk.2) (.int .i64 t1752)) (fun _ hk => hk.2) (.int .i64 t1753)) (fun _ h_ => h_.1))) hb); replace HO_1702001 := am (Kd.Q_below (by (with_reducible repeat (first | apply Kd.Q_alloc | apply Kd.Q_drewN | apply Kd.Q_drew)); exact (Kd.Q_mono (Kd.Q_far (p := ⟨gb1755, 5, none⟩) (Kd.Q_far (p := ⟨gb1755, 4, none⟩) (Kd.Q_far (p := ⟨gb1755, 3, none⟩) (Kd.Q_far (p := ⟨gb1755, 2, none⟩) (Kd.Q_far (p := ⟨gb1755, 1, none⟩) (Kd.Q_far (p := ⟨gb1755, 0, none⟩) (Kd.Q_types HO_1702001.out BK1755.out (by decide)) (fun _ hk => hk.2) (.bool t1744)) (fun _ hk => hk.2) (.slice Ao107 t1745.length co107)) (fun _ hk => hk.2) (.slice Ao108 t1748.length co108)) (fun _ hk => hk.2) (.int .i64 t1751)) (fun _ hk => hk.2) (.int .i64 t1752)) (fun _ hk => hk.2) (.int .i64 t1753)) (fun _ h_ => h_.1))) hb); replace HO_1702002 := am (Kd.R_below (by (with_reducible repeat (first | apply Kd.R_alloc | apply Kd.R_drewN | apply Kd.R_drew)); exact (Kd.R_mono (Kd.R_far (p := ⟨gb1755, 5, none⟩) (Kd.R_far (p := ⟨gb1755, 4, none⟩) (Kd.R_far (p := ⟨gb1755, 3, none⟩) (Kd.R_far (p := ⟨gb1755, 2, none⟩) (Kd.R_far (p := ⟨gb1755, 1, none⟩) (Kd.R_far (p := ⟨gb1755, 0, none⟩) (Kd.R_types HO_1702002.out BK1755.out (by decide)) (fun _ hk => hk.2) (.bool t1744)) (fun _ hk => hk.2) (.slice Ao107 t1745.length co107)) (fun _ hk => hk.2) (.slice Ao108 t1748.length co108)) (fun _ hk => hk.2) (.int .i64 t1751)) (fun _ hk => hk.2) (.int .i64 t1752)) (fun _ hk => hk.2) (.int .i64 t1753)) (fun _ h_ => h_.1))) hb); replace HO_1714001 := am (Kd.Q_below (by (with_reducible repeat (first | apply Kd.Q_alloc | apply Kd.Q_drewN | apply Kd.Q_drew)); exact (Kd.Q_mono (Kd.Q_far (p := ⟨gb1755, 5, none⟩) (Kd.Q_far (p := ⟨gb1755, 4, none⟩) (Kd.Q_far (p := ⟨gb1755, 3, none⟩) (Kd.Q_far (p := ⟨gb1755, 2, none⟩) (Kd.Q_far (p := ⟨gb1755, 1, none⟩) (Kd.Q_far (p := ⟨gb1755, 0, none⟩) (Kd.Q_types HO_1714001.out BK1755.out (by decide)) (fun _ hk => hk.2) (.bool t1744)) (fun _ hk => hk.2) (.slice Ao107 t1745.length co107)) (fun _ hk => hk.2) (.slice Ao108 t1748.length co108)) (fun _ hk => hk.2) (.int .i64 t1751)) (fun _ hk => hk.2) (.int .i64 t1752)) (fun _ hk => hk.2) (.int .i64 t1753)) (fun _ h_ => h_.1))) hb); replace HO_1714002 := am (Kd.R_below (by (with_reducible repeat (first | apply Kd.R_alloc | apply Kd.R_drewN | apply Kd.R_drew)); exact (Kd.R_mono (Kd.R_far (p := ⟨gb1755, 5, none⟩) (Kd.R_far (p := ⟨gb1755, 4, none⟩) (Kd.R_far (p := ⟨gb1755, 3, none⟩) (Kd.R_far (p := ⟨gb1755, 2, none⟩) (Kd.R_far (p := ⟨gb1755, 1, none⟩) (Kd.R_far (p := ⟨gb1755, 0, none⟩) (Kd.R_types HO_1714002.out BK1755.out (by decide)) (fun _ hk => hk.2) (.bool t1744)) (fun _ hk => hk.2) (.slice Ao107 t1745.length co107)) (fun _ hk => hk.2) (.slice Ao108 t1748.length co108)) (fun _ hk => hk.2) (.int .i64 t1751)) (fun _ hk => hk.2) (.int .i64 t1752)) (fun _ hk => hk.2) (.int .i64 t1753)) (fun _ h_ => h_.1))) hb); replace HO1737 := am (Kd.R_below (by (with_reducible repeat (first | apply Kd.R_alloc | apply Kd.R_drewN | apply Kd.R_drew)); exact (Kd.R_mono (Kd.R_far (p := ⟨gb1755, 5, none⟩) (Kd.R_far (p := ⟨gb1755, 4, none⟩) (Kd.R_far (p := ⟨gb1755, 3, none⟩) (Kd.R_far (p := ⟨gb1755, 2, none⟩) (Kd.R_far (p := ⟨gb1755, 1, none⟩) (Kd.R_far (p := ⟨gb1755, 0, none⟩) (Kd.R_types HO1737.out BK1755.out (by decide)) (fun _ hk => hk.2) (.bool t1744)) (fun _ hk => hk.2) (.slice Ao107 t1745.length co107)) (fun _ hk => hk.2) (.slice Ao108 t1748.length co108)) (fun _ hk => hk.2) (.int .i64 t1751)) (fun _ hk => hk.2) (.int .i64 t1752)) (fun _ hk => hk.2) (.int .i64 t1753)) (fun _ h_ => h_.1))) hb); replace HO1740 := am (Kd.R_below (by (with_reducible repeat (first | apply Kd.R_alloc | apply Kd.R_drewN | apply Kd.R_drew)); exact (Kd.R_mono (Kd.R_far (p := ⟨gb1755, 5, none⟩) (Kd.R_far (p := ⟨gb1755, 4, none⟩) (Kd.R_far (p := ⟨gb1755, 3, none⟩) (Kd.R_far (p := ⟨gb1755, 2, none⟩) (Kd.R_far (p := ⟨gb1755, 1, none⟩) (Kd.R_far (p := ⟨gb1755, 0, none⟩) (Kd.R_types HO1740.out BK1755.out (by decide)) (fun _ hk => hk.2) (.bool t1744)) (fun _ hk => hk.2) (.slice Ao107 t1745.length co107)) (fun _ hk => hk.2) (.slice Ao108 t1748.length co108)) (fun _ hk => hk.2) (.int .i64 t1751)) (fun _ hk => hk.2) (.int .i64 t1752)) (fun _ hk => hk.2) (.int .i64 t1753)) (fun _ h_ => h_.1))) hb); replace HO1747 := am (Kd.R_below (by (with_reducible repeat (first | apply Kd.R_alloc | apply Kd.R_drewN | apply Kd.R_drew)); exact (Kd.R_mono (Kd.R_far (p := ⟨gb1755, 5, none⟩) (Kd.R_far (p := ⟨gb1755, 4, none⟩) (Kd.R_far (p := ⟨gb1755, 3, none⟩) (Kd.R_far (p := ⟨gb1755, 2, none⟩) (Kd.R_far (p := ⟨gb1755, 1, none⟩) (Kd.R_far (p := ⟨gb1755, 0, none⟩) (Kd.R_types HO1747.out BK1755.out (by decide)) (fun _ hk => hk.2) (.bool t1744)) (fun _ hk => hk.2) (.slice Ao107 t1745.length co107)) (fun _ hk => hk.2) (.slice Ao108 t1748.length co108)) (fun _ hk => hk.2) (.int .i64 t1751)) (fun _ hk => hk.2) (.int .i64 t1752)) (fun _ hk => hk.2) (.int .i64 t1753)) (fun _ h_ => h_.1))) hb); replace HO1750 := am (Kd.R_below (by (with_reducible repeat (first | apply Kd.R_alloc | apply Kd.R_drewN | apply Kd.R_drew)); exact (Kd.R_mono (Kd.R_far (p := ⟨gb1755, 5, none⟩) (Kd.R_far (p := ⟨gb1755, 4, none⟩) (Kd.R_far (p := ⟨gb1755, 3, none⟩) (Kd.R_far (p := ⟨gb1755, 2, none⟩) (Kd.R_far (p := ⟨gb1755, 1, none⟩) (Kd.R_far (p := ⟨gb1755, 0, none⟩) (Kd.R_types HO1750.out BK1755.out (by decide)) (fun _ hk => hk.2) (.bool t1744)) (fun _ hk => hk.2) (.slice Ao107 t1745.length co107)) (fun _ hk => hk.2) (.slice Ao108 t1748.length co108)) (fun _ hk => hk.2) (.int .i64 t1751)) (fun _ hk => hk.2) (.int .i64 t1752)) (fun _ hk => hk.2) (.int .i64 t1753)) (fun _ h_ => h_.1))) hb); replace BK1667 := am (blk_below (g := gb1667) (o := .cells #[.bool a0_0, .slice A0_1 l0_1.length c0_1, .slice A0_2 l0_2.length c0_2, .int .i64 a0_3, .int .i64 a0_4, .int .i64 a0_5] 33 (0, 0)) (by (with_reducible repeat (first | refine blk_drewN ?_ _ | refine blk_drew ?_ | refine blk_alloc ?_ _)); refine blk_far ?_ NB1667_1755.out _; (with_reducible repeat (first | refine blk_drewN ?_ _ | refine blk_drew ?_ | refine blk_alloc ?_ _)); refine blk_far ?_ NB1667_1755.out _; (with_reducible repeat (first | refine blk_drewN ?_ _ | refine blk_drew ?_ | refine blk_alloc ?_ _)); refine blk_far ?_ NB1667_1755.out _; (with_reducible repeat (first | refine blk_drewN ?_ _ | refine blk_drew ?_ | refine blk_alloc ?_ _)); refine blk_far ?_ NB1667_1755.out _; (with_reducible repeat (first | refine blk_drewN ?_ _ | refine blk_drew ?_ | refine blk_alloc ?_ _)); refine blk_far ?_ NB1667_1755.out _; (with_reducible repeat (first | refine blk_drewN ?_ _ | refine blk_drew ?_ | refine blk_alloc ?_ _)); refine blk_far ?_ NB1667_1755.out _; exact pkK BK1667.out) hb); replace BK1690 := am (blk_below (g := gb1690) (o := .cells #[.bool t1679, .slice Ao24 t1680.length co24, .slice Ao25 t1683.length co25, .int .i64 t1686, .int .i64 t1687, .int .i64 t1688] 38 (0, 0)) (by (with_reducible repeat (first | refine blk_drewN ?_ _ | refine blk_drew ?_ | refine blk_alloc ?_ _)); refine blk_far ?_ NB1690_1755.out _; (with_reducible repeat (first | refine blk_drewN ?_ _ | refine blk_drew ?_ | refine blk_alloc ?_ _)); refine blk_far ?_ NB1690_1755.out _; (with_reducible repeat (first | refine blk_drewN ?_ _ | refine blk_drew ?_ | refine blk_alloc ?_ _)); refine blk_far ?_ NB1690_1755.out _; (with_reducible repeat (first | refine blk_drewN ?_ _ | refine blk_drew ?_ | refine blk_alloc ?_ _)); refine blk_far ?_ NB1690_1755.out _; (with_reducible repeat (first | refine blk_drewN ?_ _ | refine blk_drew ?_ | refine blk_alloc ?_ _)); refine blk_far ?_ NB1690_1755.out _; (with_reducible repeat (first | refine blk_drewN ?_ _ | refine blk_drew ?_ | refine blk_alloc ?_ _)); refine blk_far ?_ NB1690_1755.out _; exact pkK BK1690.out) hb); replace BK1701 := am (blk_below (g := gb1701) (o := .cells #[.bool t1691, .slice Ao32 t1727.length co32, .slice Ao33 t1728.length co33, .int .i64 t1698, .int .i64 t1699, .int .i64 t1700] 38 (0, 0)) (by (with_reducible repeat (first | refine blk_drewN ?_ _ | refine blk_drew ?_ | refine blk_alloc ?_ _)); refine blk_far ?_ NB1701_1755.out _; (with_reducible repeat (first | refine blk_drewN ?_ _ | refine blk_drew ?_ | refine blk_alloc ?_ _)); refine blk_far ?_ NB1701_1755.out _; (with_reducible repeat (first | refine blk_drewN ?_ _ | refine blk_drew ?_ | refine blk_alloc ?_ _)); refine blk_far ?_ NB1701_1755.out _; (with_reducible repeat (first | refine blk_drewN ?_ _ | refine blk_drew ?_ | refine blk_alloc ?_ _)); refine blk_far ?_ NB1701_1755.out _; (with_reducible repeat (first | refine blk_drewN ?_ _ | refine blk_drew ?_ | refine blk_alloc ?_ _)); refine blk_far ?_ NB1701_1755.out _; (with_reducible repeat (first | refine blk_drewN ?_ _ | refine blk_drew ?_ | refine blk_alloc ?_ _)); refine blk_far ?_ NB1701_1755.out _; exact pkK BK1701.out) hb); replace BK1713 := am (blk_below (g := gb1713) (o := .cells #[.bool t1702, .slice Ao40 t1703.length co40, .slice Ao41 t1706.length co41, .int .i64 t1709, .int .i64 t1710, .int .i64 t1711] 38 (0, 0)) (by (with_reducible repeat (first | refine blk_drewN ?_ _ | refine blk_drew ?_ | refine blk_alloc ?_ _)); refine blk_far ?_ NB1713_1755.out _; (with_reducible repeat (first | refine blk_drewN ?_ _ | refine blk_drew ?_ | refine blk_alloc ?_ _)); refine blk_far ?_ NB1713_1755.out _; (with_reducible repeat (first | refine blk_drewN ?_ _ | refine blk_drew ?_ | refine blk_alloc ?_ _)); refine blk_far ?_ NB1713_1755.out _; (with_reducible repeat (first | refine blk_drewN ?_ _ | refine blk_drew ?_ | refine blk_alloc ?_ _)); refine blk_far ?_ NB1713_1755.out _; (with_reducible repeat (first | refine blk_drewN ?_ _ | refine blk_drew ?_ | refine blk_alloc ?_ _)); refine blk_far ?_ NB1713_1755.out _; (with_reducible repeat (first | refine blk_drewN ?_ _ | refine blk_drew ?_ | refine blk_alloc ?_ _)); refine blk_far ?_ NB1713_1755.out _; exact pkK BK1713.out) hb); replace BK1755 := am (blk_below (g := gb1755) (o := .cells #[.bool t1744, .slice Ao107 t1745.length co107, .slice Ao108 t1748.length co108, .int .i64 t1751, .int .i64 t1752, .int .i64 t1753] 38 (0, 0)) (by (with_reducible repeat (first | refine blk_drewN ?_ _ | refine blk_drew ?_ | refine blk_alloc ?_ _)); refine blk_put (cs := #[.bool t1744, .slice Ao107 t1745.length co107, .slice Ao108 t1748.length co108, .int .i64 t1751, .int .i64 t1752, .int .i64 0]) ?_ 5 _ rfl; (with_reducible repeat (first | refine blk_drewN ?_ _ | refine blk_drew ?_ | refine blk_alloc ?_ _)); refine blk_put (cs := #[.bool t1744, .slice Ao107 t1745.length co107, .slice Ao108 t1748.length co108, .int .i64 t1751, .int .i64 0, .int .i64 0]) ?_ 4 _ rfl; (with_reducible repeat (first | refine blk_drewN ?_ _ | refine blk_drew ?_ | refine blk_alloc ?_ _)); refine blk_put (cs := #[.bool t1744, .slice Ao107 t1745.length co107, .slice Ao108 t1748.length co108, .int .i64 0, .int .i64 0, .int .i64 0]) ?_ 3 _ rfl; (with_reducible repeat (first | refine blk_drewN ?_ _ | refine blk_drew ?_ | refine blk_alloc ?_ _)); refine blk_put (cs := #[.bool t1744, .slice Ao107 t1745.length co107, .slice none 0 0, .int .i64 0, .int .i64 0, .int .i64 0]) ?_ 2 _ rfl; (with_reducible repeat (first | refine blk_drewN ?_ _ | refine blk_drew ?_ | refine blk_alloc ?_ _)); refine blk_put (cs := #[.bool t1744, .slice none 0 0, .slice none 0 0, .int .i64 0, .int .i64 0, .int .i64 0]) ?_ 1 _ rfl; (with_reducible repeat (first | refine blk_drewN ?_ _ | refine blk_drew ?_ | refine blk_alloc ?_ _)); refine blk_put (cs := #[.bool false, .slice none 0 0, .slice none 0 0, .int .i64 0, .int .i64 0, .int .i64 0]) ?_ 0 _ rfl; exact pkK BK1755.out) hb); replace HB := am (below_step (pkW HB.out) hb); (try clear hb)))
             go_meet
             case rel => exact ⟨_, ((t1754 != t1689)), rfx, H', ⟨by have := HJ11.out; have := HJ56.out; first | omega | exact Nat.le_refl _⟩, ⟨by (try simp only [hl1702001_56]); (try simp only [hl1702002_56]); (with_reducible repeat (first | apply Kd.R_alloc | apply Kd.R_drewN | apply Kd.R_drew)); exact Kd.R_mono HO_1691001.out (fun _ hk => ⟨hk.1.1.1, ⟨hk.1.1.2, hk.2⟩⟩)⟩, ⟨by (try simp only [hl1702001_56]); (try simp only [hl1702002_56]); (with_reducible repeat (first | apply Kd.R_alloc | apply Kd.R_drewN | apply Kd.R_drew)); exact Kd.R_mono HO_1691002.out (fun _ hk => ⟨hk.1.1.1, ⟨hk.1.1.2, hk.2⟩⟩)⟩, ⟨by (try simp only [hl1702001_56]); (try simp only [hl1702002_56]); (with_reducible repeat (first | apply Kd.Q_alloc | apply Kd.Q_drewN | apply Kd.Q_drew)); exact Kd.Q_mono HO_1702001.out (fun _ hk => ⟨hk.1.1.1, ⟨hk.1.1.2, hk.2⟩⟩)⟩, ⟨by (try simp only [hl1702001_56]); (try simp only [hl1702002_56]); (with_reducible repeat (first | apply Kd.R_alloc | apply Kd.R_drewN | apply Kd.R_drew)); exact Kd.R_mono HO_1702002.out (fun _ hk => ⟨hk.1.1.1, ⟨hk.1.1.2, hk.2⟩⟩)⟩, ⟨by (try simp only [hl1702001_56]); (try simp only [hl1702002_56]); (with_reducible repeat (first | apply Kd.Q_alloc | apply Kd.Q_drewN | apply Kd.Q_drew)); exact Kd.Q_mono HO_1714001.out (fun _ hk => ⟨hk.1.1.1, ⟨hk.1.1.2, hk.2⟩⟩)⟩, ⟨by (try simp only [hl1702001_56]); (try simp only [hl1702002_56]); (with_reducible repeat (first | apply Kd.R_alloc | apply Kd.R_drewN | apply Kd.R_drew)); exact Kd.R_mono HO_1714002.out (fun _ hk => ⟨hk.1.1.1, ⟨hk.1.1.2, hk.2⟩⟩)⟩, ⟨by (try simp only [hl1702001_56]); (try simp only [hl1702002_56]); (with_reducible repeat (first | apply Kd.R_alloc | apply Kd.R_drewN | apply Kd.R_drew)); exact Kd.R_mono HO1747.out (fun _ hk => ⟨hk.1.1.1.2, ⟨hk.1.1.2, hk.1.2⟩⟩)⟩, ⟨by (try simp only [hl1702001_56]); (try simp only [hl1702002_56]); (with_reducible repeat (first | apply Kd.R_alloc | apply Kd.R_drewN | apply Kd.R_drew)); exact Kd.R_mono HO1750.out (fun _ hk => ⟨hk.1.1.1.2, ⟨hk.1.1.2, hk.1.2⟩⟩)⟩, ⟨by (try simp only [hl1702001_56]); (try simp only [hl1702002_56]); exact pkK BK1667.out⟩, ⟨by (try simp only [hl1702001_56]); (try simp only [hl1702002_56]); exact pkK BK1690.out⟩, ⟨by (try simp only [hl1702001_56]); (try simp only [hl1702002_56]); exact pkK BK1701.out⟩, ⟨by (try simp only [hl1702001_56]); (try simp only [hl1702002_56]); exact pkK BK1713.out⟩, ⟨by (try simp only [hl1702001_56]); (try simp only [hl1702002_56]); exact pkK BK1755.out⟩, ⟨pkW HB.out⟩⟩
            ·replace c110 := Bool.eq_false_iff.mpr c110
             subst c110
             replace H : (laws_FnExactResume.j2 kj56 t1730 true t1702 t1731 t1732 t1709 t1710 t1711) = some r := by rw [if_neg (show ¬ (false = true) by decide)] at H; exact H
             cases kj56 with
             | zero => exact absurd H (by simp [laws_FnExactResume.j2])
             | succ k_ => (simp only [laws_FnExactResume.j2, if_pos] at H; exact absurd (Option.some.inj H) (by rw [HQ_.out]; simp))
           case rest =>
            clear HC86
            try clear c1
            try clear c2
            try clear p2
            try clear c3
            try clear c4
            try clear c4b0
            try clear c5
            try clear c6
            try clear c7
            try clear c8
            try clear c9
            try clear c10
            try clear c11
            try clear c13
            try clear c19
            try clear c21
            try clear c22
            try clear c23
            try clear c29
            try clear c30
            try clear c35
            try clear c36
            try clear c37
            try clear c38
            try clear c43
            try clear c44
            try clear c45
            try clear c46
            try clear c48
            try clear c49
            try clear c52
            try clear c55
            try clear c63
            try clear c64
            try clear c65
            try clear c68
            try clear c68b0
            try clear c70
            try clear c71
            try clear c72
            try clear c73
            try clear c75
            try clear c76
            try clear c79
            try clear c82
            try clear c82b0
            try clear c83
            try clear c83b0
            try clear c83b1
            try clear c87
            try clear c88
            try clear c89
            try clear c94
            try clear c95
            try clear c102
            try clear c103
            try clear c104
            try clear c105
            try clear c110
            try clear c111
            try clear c112
            try clear c113
            try clear c114
            try clear c116
            try clear c117
            try clear c118
            try clear hcz106_0
            try clear hcz106_1
            try clear hcz106_2
            try clear hcz106_3
            try clear hcz106_4
            try clear hcz106_5
            try clear hcz115_0
            try clear hcz115_1
            try clear hcz115_2
            try clear hcz115_3
            try clear hcz115_4
            try clear hcz115_5
            try clear hcz119_0
            try clear hcz119_1
            try clear hcz119_2
            try clear hcz119_3
            try clear hcz119_4
            try clear hcz119_5
            try clear hcz14_0
            try clear hcz14_1
            try clear hcz14_2
            try clear hcz14_3
            try clear hcz14_4
            try clear hcz14_5
            try clear hcz16_0
            try clear hcz16_1
            try clear hcz16_2
            try clear hcz16_3
            try clear hcz16_4
            try clear hcz16_5
            try clear hcz23_0
            try clear hcz23_1
            try clear hcz23_2
            try clear hcz23_3
            try clear hcz23_4
            try clear hcz23_5
            try clear hcz26_0
            try clear hcz26_1
            try clear hcz26_2
            try clear hcz26_3
            try clear hcz26_4
            try clear hcz26_5
            try clear hcz31_0
            try clear hcz31_1
            try clear hcz31_2
            try clear hcz31_3
            try clear hcz31_4
            try clear hcz31_5
            try clear hcz39_0
            try clear hcz39_1
            try clear hcz39_2
            try clear hcz39_3
            try clear hcz39_4
            try clear hcz39_5
            try clear hcz47_0
            try clear hcz47_1
            try clear hcz47_2
            try clear hcz47_3
            try clear hcz47_4
            try clear hcz47_5
            try clear hcz50_0
            try clear hcz50_1
            try clear hcz50_2
            try clear hcz50_3
            try clear hcz50_4
            try clear hcz50_5
            try clear hcz66_0
            try clear hcz66_1
            try clear hcz66_2
            try clear hcz66_3
            try clear hcz66_4
            try clear hcz66_5
            try clear hcz6_0
            try clear hcz6_1
            try clear hcz6_2
            try clear hcz6_3
            try clear hcz6_4
            try clear hcz6_5
            try clear hcz74_0
            try clear hcz74_1
            try clear hcz74_2
            try clear hcz74_3
            try clear hcz74_4
            try clear hcz74_5
            try clear hcz77_0
            try clear hcz77_1
            try clear hcz77_2
            try clear hcz77_3
            try clear hcz77_4
            try clear hcz77_5
            try clear hcz90_0
            try clear hcz90_1
            try clear hcz90_2
            try clear hcz90_3
            try clear hcz90_4
            try clear hcz90_5
            try clear hcz92_0
            try clear hcz92_1
            try clear hcz92_2
            try clear hcz92_3
            try clear hcz92_4
            try clear hcz92_5
            try clear hcz96_0
            try clear hcz96_1
            try clear hcz96_2
            try clear hcz96_3
            try clear hcz96_4
            try clear hcz96_5
            try clear hfz106_0
            try clear hfz106_1
            try clear hfz106_2
            try clear hfz106_3
            try clear hfz106_4
            try clear hfz106_5
            try clear hfz115_0
            try clear hfz115_1
            try clear hfz115_2
            try clear hfz115_3
            try clear hfz115_4
            try clear hfz115_5
            try clear hfz119_0
            try clear hfz119_1
            try clear hfz119_2
            try clear hfz119_3
            try clear hfz119_4
            try clear hfz119_5
            try clear hfz14_0
            try clear hfz14_1
            try clear hfz14_2
            try clear hfz14_3
            try clear hfz14_4
            try clear hfz14_5
            try clear hfz16_0
            try clear hfz16_1
            try clear hfz16_2
            try clear hfz16_3
            try clear hfz16_4
            try clear hfz16_5
            try clear hfz23_0
            try clear hfz23_1
            try clear hfz23_2
            try clear hfz23_3
            try clear hfz23_4
            try clear hfz23_5
            try clear hfz26_0
            try clear hfz26_1
            try clear hfz26_2
            try clear hfz26_3
            try clear hfz26_4
            try clear hfz26_5
            try clear hfz31_0
            try clear hfz31_1
            try clear hfz31_2
            try clear hfz31_3
            try clear hfz31_4
            try clear hfz31_5
            try clear hfz39_0
            try clear hfz39_1
            try clear hfz39_2
            try clear hfz39_3
            try clear hfz39_4
            try clear hfz39_5
            try clear hfz47_0
            try clear hfz47_1
            try clear hfz47_2
            try clear hfz47_3
            try clear hfz47_4
            try clear hfz47_5
            try clear hfz50_0
            try clear hfz50_1
            try clear hfz50_2
            try clear hfz50_3
            try clear hfz50_4
            try clear hfz50_5
            try clear hfz66_0
            try clear hfz66_1
            try clear hfz66_2
            try clear hfz66_3
            try clear hfz66_4
            try clear hfz66_5
            try clear hfz6_0
            try clear hfz6_1
            try clear hfz6_2
            try clear hfz6_3
            try clear hfz6_4
            try clear hfz6_5
            try clear hfz74_0
            try clear hfz74_1
            try clear hfz74_2
            try clear hfz74_3
            try clear hfz74_4
            try clear hfz74_5
            try clear hfz77_0
            try clear hfz77_1
            try clear hfz77_2
            try clear hfz77_3
            try clear hfz77_4
            try clear hfz77_5
            try clear hfz90_0
            try clear hfz90_1
            try clear hfz90_2
            try clear hfz90_3
            try clear hfz90_4
            try clear hfz90_5
            try clear hfz92_0
            try clear hfz92_1
            try clear hfz92_2
            try clear hfz92_3
            try clear hfz92_4
            try clear hfz92_5
            try clear hfz96_0
            try clear hfz96_1
            try clear hfz96_2
            try clear hfz96_3
            try clear hfz96_4
            try clear hfz96_5
            try clear p2
            obtain ⟨kq, x92_85, rfl, HA, HJ85, HO_1691001, HO_1691002, HO_1702001, HO_1702002, HO_1714001, HO_1714002, HO_1756001, HO_1756002, BK1667, BK1690, BK1701, BK1713, BK1755, HB⟩ := hcut
            have hl1714001_85 := (Kd.Q_reads' HO_1714001.out).1
            rw [hl1714001_85] at HO_1714001
            (try simp only [hl1714001_85])
            (try simp only [hl1714001_85] at BK1667)
            (try simp only [hl1714001_85] at BK1690)
            (try simp only [hl1714001_85] at BK1701)
            (try simp only [hl1714001_85] at BK1713)
            (try simp only [hl1714001_85] at BK1755)
            (try simp only [hl1714001_85] at HO_1691001)
            (try simp only [hl1714001_85] at HO_1691002)
            (try simp only [hl1714001_85] at HO_1702001)
            (try simp only [hl1714001_85] at HO_1702002)
            (try simp only [hl1714001_85] at HO_1714002)
            (try simp only [hl1714001_85] at HO_1756001)
            (try simp only [hl1714001_85] at HO_1756002)
            have hl1714002_85 := (Kd.R_reads' HO_1714002.out).1
            rw [hl1714002_85] at HO_1714002
            (try simp only [hl1714002_85])
            (try simp only [hl1714002_85] at BK1667)
            (try simp only [hl1714002_85] at BK1690)
            (try simp only [hl1714002_85] at BK1701)
            (try simp only [hl1714002_85] at BK1713)
            (try simp only [hl1714002_85] at BK1755)
            (try simp only [hl1714002_85] at HO_1691001)
            (try simp only [hl1714002_85] at HO_1691002)
            (try simp only [hl1714002_85] at HO_1702001)
            (try simp only [hl1714002_85] at HO_1702002)
            (try simp only [hl1714002_85] at HO_1714001)
            (try simp only [hl1714002_85] at HO_1756001)
            (try simp only [hl1714002_85] at HO_1756002)
            cases kq with
            | zero => exact absurd HA.out (by simp [laws_FnExactResume.j2])
            | succ kj85 =>
             have H := HA.out
             clear HA
             simp only [laws_FnExactResume.j2] at H
             by_cases c121 : x92_85 = true
             ·subst c121
              replace H : (some false) = some r := by rw [if_pos rfl] at H; exact H
              exact absurd (Option.some.inj H) (by rw [HQ_.out]; simp)
             ·replace c121 := Bool.eq_false_iff.mpr c121
              subst c121
              replace H : ((laws_heldNotify.f kj85 t1702 t1731 t1732 t1709 t1710 t1711 1).bind fun t1757 => (if t1757 < 0 then (some false) else (if t1757 = t1730 then (some true) else (some false)))) = some r := by rw [if_neg (show ¬ (false = true) by decide)] at H; exact H
              replace H := Option.bind_eq_some_iff.mp H
              obtain ⟨t1757, A1220, H⟩ := H
              replace H : (if t1757 < 0 then (some false) else (if t1757 = t1730 then (some true) else (some false))) = some r := H
              have A122 := am A1220
              clear A1220
              by_cases c123 : t1757 < 0
              ·rw [if_pos c123] at H
               have c123b0 : decide (t1757 < 0) = true := decide_eq_true c123
               clear c123
               exact absurd (Option.some.inj H) (by rw [HQ_.out]; simp)
              ·rw [if_neg c123] at H
               have c123b0 : decide (t1757 < 0) = false := decide_eq_false c123
               clear c123
               by_cases c124 : t1757 = t1730
               ·rw [if_pos c124] at H
                have c124b0 : (t1757 == t1730) = true := beq_iff_eq.mpr c124
                have c124b1 : (t1757 != t1730) = false := bne_eq_false_iff_eq.mpr c124
                clear c124
                obtain rfl := Option.some.inj H
                have hnb125 := NB1713_1667.out
                have hnc125 := NB1667_1713.out
                have hnb126 := NB1713_1690.out
                have hnc126 := NB1690_1713.out
                have hnb127 := NB1713_1701.out
                have hnc127 := NB1701_1713.out
                have hnb128 := NB1713_1755.out
                have hnc128 := NB1755_1713.out
                obtain ⟨hcz129_0, hcz129_1, hcz129_2, hcz129_3, hcz129_4, hcz129_5, hfz129_0, hfz129_1, hfz129_2, hfz129_3, hfz129_4, hfz129_5⟩ := bk6 BK1713.out
                go_wp2_with (first | ((with_reducible refine gate_callee (f := 37) rfl ?_); refine goesL_ (some 95) rfl rfl Try.func37 (by kernel_rfl) rfl #[.agg #[.bool t1702, .slice Ao40 t1731.length co40, .slice Ao41 t1732.length co41, .int .i64 t1709, .int .i64 t1710, .int .i64 t1711], .int .i64 1] rfl mpx ?_; (with_reducible refine (laws_heldNotify.calls kj85 t1702 _ _ t1731 _ _ t1732 t1709 t1710 t1711 1 t1757 _ ?side1 ?side2 ?side3 ?side4 A122.out).mono ?_); (case side1 => repeat (first | exact (Kd.Q_reads' HO_1714001.out).2.2 | (with_reducible refine Kd.C_alloc ?_ _) | (with_reducible refine Kd.C_drewN ?_ _) | (with_reducible refine Kd.C_drew ?_))); (case side2 => exact (Kd.Q_reads' HO_1714001.out).2.1); (case side3 => exact pkC (Kd.R_reads' HO_1714002.out).2.2); (case side4 => exact (Kd.R_reads' HO_1714002.out).2.1); rintro e w130 ⟨rfl, hb⟩; refine ⟨_, rfl, ?_⟩; replace HO_1691001 := am (Kd.R_below (pkR HO_1691001.out) hb); replace HO_1691002 := am (Kd.R_below (pkR HO_1691002.out) hb); replace HO_1702001 := am (Kd.Q_below (pkQ HO_1702001.out) hb); replace HO_1702002 := am (Kd.R_below (pkR HO_1702002.out) hb); replace HO_1714001 := am (Kd.Q_below (pkQ HO_1714001.out) hb); replace HO_1714002 := am (Kd.R_below (pkR HO_1714002.out) hb); replace HO_1756001 := am (Kd.R_below (pkR HO_1756001.out) hb); replace HO_1756002 := am (Kd.R_below (pkR HO_1756002.out) hb); replace BK1667 := am (blk_below (pkK BK1667.out) hb); replace BK1690 := am (blk_below (pkK BK1690.out) hb); replace BK1701 := am (blk_below (pkK BK1701.out) hb); replace BK1713 := am (blk_below (pkK BK1713.out) hb); replace BK1755 := am (blk_below (pkK BK1755.out) hb); replace HB := am (below_step (pkW HB.out) hb); (try clear hb)))
                go_ret
                exact ⟨rfe, pkW HB.out⟩
               ·rw [if_neg c124] at H
                have c124b0 : (t1757 == t1730) = false := beq_eq_false_iff_ne.mpr c124
                have c124b1 : (t1757 != t1730) = true := bne_iff_ne.mpr c124
                exact absurd (Option.some.inj H) (by rw [HQ_.out]; simp)
          ·rw [if_neg c83] at H
           have c83b0 : (t1733 == t1730) = false := beq_eq_false_iff_ne.mpr c83
           have c83b1 : (t1733 != t1730) = true := bne_iff_ne.mpr c83
           exact absurd (Option.some.inj H) (by rw [HQ_.out]; simp)
     ·replace c55 := Bool.eq_false_iff.mpr c55
      subst c55
      replace H : (some false) = some r := by rw [if_neg (show ¬ (false = true) by decide)] at H; exact H
      exact absurd (Option.some.inj H) (by rw [HQ_.out]; simp)
end Go.Proofs.Ytdagpmnadapbjaa.Z
