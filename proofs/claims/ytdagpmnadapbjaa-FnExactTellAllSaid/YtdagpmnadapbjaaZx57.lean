/- The Go functions laws_FnExactTellAll as Lean functions, each with a proof that its code comes to just these answers; conditions: those of each theorem. -/
import Derived.Test.YtdagpmnadapbjaaZx0
import Derived.Test.YtdagpmnadapbjaaZx12
import Derived.Test.YtdagpmnadapbjaaZx14
import Derived.Test.YtdagpmnadapbjaaZx16
import Derived.Test.YtdagpmnadapbjaaZx20
import Derived.Test.YtdagpmnadapbjaaZx24
import Derived.Test.YtdagpmnadapbjaaZx25
import Derived.Test.YtdagpmnadapbjaaZx33
import Derived.Test.YtdagpmnadapbjaaZx35
import Derived.Test.YtdagpmnadapbjaaZx36
import Derived.Test.YtdagpmnadapbjaaZx37
namespace Go.Proofs.Ytdagpmnadapbjaa.Z
open Go.RowKit Go.Proofs.YtdagpmnadapbjaaW.PrintWords Go.Proofs.YtdagpmnadapbjaaW.PrintLast Go.Proofs.YtdagpmnadapbjaaW.PrintMore
attribute [local go_sem] max2_int min2_int max_two min_two max_three min_three max_four min_four   -- for this text's walks alone
set_option linter.unusedVariables false
set_option linter.unusedSimpArgs false
mutual
def laws_FnExactTellAll.j0 : Nat → List Int → Int → List Int → Int → Bool → Bool → List Int → List (S84) → Int → Int → Int → Bool → List Int → List (S67) → Int → Int → Int → Bool → List Int → List (S67) → Int → Int → Int → Bool → List Int → List (S67) → Int → Int → Int → Option (Bool)
 | 0, _, _, _, _, _, _, _, _, _, _, _, _, _, _, _, _, _, _, _, _, _, _, _, _, _, _, _, _, _ => none
 | k + 1, x5, x6, x9, x10, x51, x845000, x845001, x845002, x845003, x845004, x845005, x871000, x871001, x871002, x871003, x871004, x871005, x882000, x882001, x882002, x882003, x882004, x882005, x897000, x897001, x897002, x897003, x897004, x897005 => if x51 = true then (some false) else ((laws_toNotify.f k x845000 x845001 x845002 x845003 x845004 x845005).bind fun bt899 => ((laws_eqNotify.f k x882000 x882001 x882002 x882003 x882004 x882005 bt899.1 bt899.2.1 bt899.2.2.1 bt899.2.2.2.1 bt899.2.2.2.2.1 bt899.2.2.2.2.2).bind fun t909 => (if t909 = true then ((laws_markNotify.f k x882000 x882001 x882002 x882003 x882004 x882005 1).bind fun bt910 => (if bt910.1 < 0 then (laws_FnExactTellAll.j1 k x5 x6 x9 true x845000 x845001 x845002 x845003 x845004 x845005 x871000 x871001 x871002 x871003 x871004 x871005 x897000 x897001 x897002 x897003 x897004 x897005) else ((laws_eqNotify.f k x897000 x897001 x897002 x897003 x897004 x897005 x871000 x871001 x871002 x871003 x871004 x871005).bind fun t913 => (if t913 = true then ((laws_eqIntS.f k x9 x5).bind fun t914 => (if t914 = true then (laws_FnExactTellAll.j1 k x5 x6 x9 (x10 != x6) x845000 x845001 x845002 x845003 x845004 x845005 x871000 x871001 x871002 x871003 x871004 x871005 x897000 x897001 x897002 x897003 x897004 x897005) else (laws_FnExactTellAll.j1 k x5 x6 x9 true x845000 x845001 x845002 x845003 x845004 x845005 x871000 x871001 x871002 x871003 x871004 x871005 x897000 x897001 x897002 x897003 x897004 x897005))) else (laws_FnExactTellAll.j1 k x5 x6 x9 true x845000 x845001 x845002 x845003 x845004 x845005 x871000 x871001 x871002 x871003 x871004 x871005 x897000 x897001 x897002 x897003 x897004 x897005))))) else (some false))))
def laws_FnExactTellAll.j1 : Nat → List Int → Int → List Int → Bool → Bool → List Int → List (S84) → Int → Int → Int → Bool → List Int → List (S67) → Int → Int → Int → Bool → List Int → List (S67) → Int → Int → Int → Option (Bool)
 | 0, _, _, _, _, _, _, _, _, _, _, _, _, _, _, _, _, _, _, _, _, _, _ => none
 | k + 1, x5, x6, x9, x78, x845000, x845001, x845002, x845003, x845004, x845005, x871000, x871001, x871002, x871003, x871004, x871005, x897000, x897001, x897002, x897003, x897004, x897005 => if x78 = true then (some false) else ((laws_markNotify.f k x897000 x897001 x897002 x897003 x897004 x897005 1).bind fun bt915 => ((laws_markIntS.f k x9 bt915.1).bind fun bt918 => ((laws_heldNotify.f k x897000 bt915.2.1 bt915.2.2 x897003 x897004 x897005 1).bind fun t920 => (if t920 < 0 then (some false) else ((laws_heldIntS.f k bt918.2 t920).bind fun t921 => (if t921 < 0 then (some false) else (if t921 = bt918.1 then ((laws_toNotify.f k x845000 x845001 x845002 x845003 x845004 x845005).bind fun bt922 => ((impl_TellAll.f k bt922.1 bt922.2.1 bt922.2.2.1 bt922.2.2.2.1 bt922.2.2.2.2.1 bt922.2.2.2.2.2).bind fun bt932 => ((laws_eqNotify.f k bt932.1 bt932.2.1 bt932.2.2.1 bt932.2.2.2.1 bt932.2.2.2.2.1 bt932.2.2.2.2.2.1 x871000 x871001 x871002 x871003 x871004 x871005).bind fun t947 => (if t947 = true then ((laws_eqIntS.f k bt932.2.2.2.2.2.2.1 x5).bind fun t948 => (if t948 = true then (laws_FnExactTellAll.j2 k bt918.2 bt918.1 (bt932.2.2.2.2.2.2.2 != x6) x897000 bt915.2.1 bt915.2.2 x897003 x897004 x897005) else (laws_FnExactTellAll.j2 k bt918.2 bt918.1 true x897000 bt915.2.1 bt915.2.2 x897003 x897004 x897005))) else (laws_FnExactTellAll.j2 k bt918.2 bt918.1 true x897000 bt915.2.1 bt915.2.2 x897003 x897004 x897005))))) else (some false))))))))
def laws_FnExactTellAll.j2 : Nat → List Int → Int → Bool → Bool → List Int → List (S67) → Int → Int → Int → Option (Bool)
 | 0, _, _, _, _, _, _, _, _, _ => none
 | k + 1, x9, x12, x119, x897000, x897001, x897002, x897003, x897004, x897005 => if x119 = true then (some false) else ((laws_heldNotify.f k x897000 x897001 x897002 x897003 x897004 x897005 1).bind fun t949 => (if t949 < 0 then (some false) else ((laws_heldIntS.f k x9 t949).bind fun t950 => (if t950 < 0 then (some false) else (if t950 = x12 then (some true) else (some false))))))
end
def laws_FnExactTellAll.f (k : Nat) (a0_0 : Bool) (l0_1 : List Int) (l0_2 : List (S84)) (a0_3 : Int) (a0_4 : Int) (a0_5 : Int) : Option (Bool) := (laws_szNotify.f a0_0 l0_1 l0_2 a0_3 a0_4 a0_5 1048576).bind fun t845 => (if t845 < 0 then (some true) else ((laws_toNotify.f k a0_0 l0_1 l0_2 a0_3 a0_4 a0_5).bind fun bt846 => ((spec_TellAll.f k bt846.1 bt846.2.1 bt846.2.2.1 bt846.2.2.2.1 bt846.2.2.2.2.1 bt846.2.2.2.2.2).bind fun bt856 => ((laws_toNotify.f k a0_0 l0_1 l0_2 a0_3 a0_4 a0_5).bind fun bt871 => ((impl_TellAll.f k bt871.1 bt871.2.1 bt871.2.2.1 bt871.2.2.2.1 bt871.2.2.2.2.1 bt871.2.2.2.2.2).bind fun bt882 => ((laws_eqNotify.f k bt882.1 bt882.2.1 bt882.2.2.1 bt882.2.2.2.1 bt882.2.2.2.2.1 bt882.2.2.2.2.2.1 bt856.1 bt856.2.1 bt856.2.2.1 bt856.2.2.2.1 bt856.2.2.2.2.1 bt856.2.2.2.2.2.1).bind fun t897 => (if t897 = true then ((laws_eqIntS.f k bt882.2.2.2.2.2.2.1 bt856.2.2.2.2.2.2.1).bind fun t898 => (if t898 = true then (laws_FnExactTellAll.j0 k bt856.2.2.2.2.2.2.1 bt856.2.2.2.2.2.2.2 bt882.2.2.2.2.2.2.1 bt882.2.2.2.2.2.2.2 (bt882.2.2.2.2.2.2.2 != bt856.2.2.2.2.2.2.2) a0_0 l0_1 l0_2 a0_3 a0_4 a0_5 bt856.1 bt856.2.1 bt856.2.2.1 bt856.2.2.2.1 bt856.2.2.2.2.1 bt856.2.2.2.2.2.1 bt871.1 bt871.2.1 bt871.2.2.1 bt871.2.2.2.1 bt871.2.2.2.2.1 bt871.2.2.2.2.2 bt882.1 bt882.2.1 bt882.2.2.1 bt882.2.2.2.1 bt882.2.2.2.2.1 bt882.2.2.2.2.2.1) else (laws_FnExactTellAll.j0 k bt856.2.2.2.2.2.2.1 bt856.2.2.2.2.2.2.2 bt882.2.2.2.2.2.2.1 bt882.2.2.2.2.2.2.2 true a0_0 l0_1 l0_2 a0_3 a0_4 a0_5 bt856.1 bt856.2.1 bt856.2.2.1 bt856.2.2.2.1 bt856.2.2.2.2.1 bt856.2.2.2.2.2.1 bt871.1 bt871.2.1 bt871.2.2.1 bt871.2.2.2.1 bt871.2.2.2.2.1 bt871.2.2.2.2.2 bt882.1 bt882.2.1 bt882.2.2.1 bt882.2.2.2.1 bt882.2.2.2.2.1 bt882.2.2.2.2.2.1))) else (laws_FnExactTellAll.j0 k bt856.2.2.2.2.2.2.1 bt856.2.2.2.2.2.2.2 bt882.2.2.2.2.2.2.1 bt882.2.2.2.2.2.2.2 true a0_0 l0_1 l0_2 a0_3 a0_4 a0_5 bt856.1 bt856.2.1 bt856.2.2.1 bt856.2.2.2.1 bt856.2.2.2.2.1 bt856.2.2.2.2.2.1 bt871.1 bt871.2.1 bt871.2.2.1 bt871.2.2.2.1 bt871.2.2.2.2.1 bt871.2.2.2.2.2 bt882.1 bt882.2.1 bt882.2.2.1 bt882.2.2.2.1 bt882.2.2.2.2.1 bt882.2.2.2.2.2.1))))))))
theorem laws_FnExactTellAll.mono_l : ∀ k, (∀ y0 y1 y2 y3 y4 y5 y6 y7 y8 y9 y10 y11 y12 y13 y14 y15 y16 y17 y18 y19 y20 y21 y22 y23 y24 y25 y26 y27 y28, LeO (laws_FnExactTellAll.j0 k y0 y1 y2 y3 y4 y5 y6 y7 y8 y9 y10 y11 y12 y13 y14 y15 y16 y17 y18 y19 y20 y21 y22 y23 y24 y25 y26 y27 y28) (laws_FnExactTellAll.j0 (k + 1) y0 y1 y2 y3 y4 y5 y6 y7 y8 y9 y10 y11 y12 y13 y14 y15 y16 y17 y18 y19 y20 y21 y22 y23 y24 y25 y26 y27 y28)) ∧ (∀ y0 y1 y2 y3 y4 y5 y6 y7 y8 y9 y10 y11 y12 y13 y14 y15 y16 y17 y18 y19 y20 y21, LeO (laws_FnExactTellAll.j1 k y0 y1 y2 y3 y4 y5 y6 y7 y8 y9 y10 y11 y12 y13 y14 y15 y16 y17 y18 y19 y20 y21) (laws_FnExactTellAll.j1 (k + 1) y0 y1 y2 y3 y4 y5 y6 y7 y8 y9 y10 y11 y12 y13 y14 y15 y16 y17 y18 y19 y20 y21)) ∧ (∀ y0 y1 y2 y3 y4 y5 y6 y7 y8, LeO (laws_FnExactTellAll.j2 k y0 y1 y2 y3 y4 y5 y6 y7 y8) (laws_FnExactTellAll.j2 (k + 1) y0 y1 y2 y3 y4 y5 y6 y7 y8))
 | 0 => ⟨fun _ _ _ _ _ _ _ _ _ _ _ _ _ _ _ _ _ _ _ _ _ _ _ _ _ _ _ _ _ r h => by simp [laws_FnExactTellAll.j0] at h, fun _ _ _ _ _ _ _ _ _ _ _ _ _ _ _ _ _ _ _ _ _ _ r h => by simp [laws_FnExactTellAll.j1] at h, fun _ _ _ _ _ _ _ _ _ r h => by simp [laws_FnExactTellAll.j2] at h⟩
 | k + 1 => by
  obtain ⟨ih0, ih1, ih2⟩ := laws_FnExactTellAll.mono_l k
  refine ⟨?_, ?_, ?_⟩
  ·intro y0 y1 y2 y3 y4 y5 y6 y7 y8 y9 y10 y11 y12 y13 y14 y15 y16 y17 y18 y19 y20 y21 y22 y23 y24 y25 y26 y27 y28
   unfold laws_FnExactTellAll.j0
   repeat' first
   | (with_reducible exact ih0 _ _ _ _ _ _ _ _ _ _ _ _ _ _ _ _ _ _ _ _ _ _ _ _ _ _ _ _ _)
   | (with_reducible exact ih1 _ _ _ _ _ _ _ _ _ _ _ _ _ _ _ _ _ _ _ _ _ _)
   | (with_reducible exact ih2 _ _ _ _ _ _ _ _ _)
   | (with_reducible exact impl_TellAll.mono _ _ _ _ _ _ _)
   | (with_reducible exact laws_eqIntS.mono _ _ _)
   | (with_reducible exact laws_eqNotify.mono _ _ _ _ _ _ _ _ _ _ _ _ _)
   | (with_reducible exact laws_heldIntS.mono _ _ _)
   | (with_reducible exact laws_heldNotify.mono _ _ _ _ _ _ _ _)
   | (with_reducible exact laws_markIntS.mono _ _ _)
   | (with_reducible exact laws_markNotify.mono _ _ _ _ _ _ _ _)
   | (with_reducible exact laws_toNotify.mono _ _ _ _ _ _ _)
   | (with_reducible exact spec_TellAll.mono _ _ _ _ _ _ _)
   | (with_reducible exact LeO.refl _)
   | (with_reducible exact LeO.none _)
   | (with_reducible refine LeO.ite ?_ ?_)
   | (with_reducible refine LeO.bind ?_ (fun _ => ?_))
  ·intro y0 y1 y2 y3 y4 y5 y6 y7 y8 y9 y10 y11 y12 y13 y14 y15 y16 y17 y18 y19 y20 y21
   unfold laws_FnExactTellAll.j1
   repeat' first
   | (with_reducible exact ih0 _ _ _ _ _ _ _ _ _ _ _ _ _ _ _ _ _ _ _ _ _ _ _ _ _ _ _ _ _)
   | (with_reducible exact ih1 _ _ _ _ _ _ _ _ _ _ _ _ _ _ _ _ _ _ _ _ _ _)
   | (with_reducible exact ih2 _ _ _ _ _ _ _ _ _)
   | (with_reducible exact impl_TellAll.mono _ _ _ _ _ _ _)
   | (with_reducible exact laws_eqIntS.mono _ _ _)
   | (with_reducible exact laws_eqNotify.mono _ _ _ _ _ _ _ _ _ _ _ _ _)
   | (with_reducible exact laws_heldIntS.mono _ _ _)
   | (with_reducible exact laws_heldNotify.mono _ _ _ _ _ _ _ _)
   | (with_reducible exact laws_markIntS.mono _ _ _)
   | (with_reducible exact laws_markNotify.mono _ _ _ _ _ _ _ _)
   | (with_reducible exact laws_toNotify.mono _ _ _ _ _ _ _)
   | (with_reducible exact spec_TellAll.mono _ _ _ _ _ _ _)
   | (with_reducible exact LeO.refl _)
   | (with_reducible exact LeO.none _)
   | (with_reducible refine LeO.ite ?_ ?_)
   | (with_reducible refine LeO.bind ?_ (fun _ => ?_))
  ·intro y0 y1 y2 y3 y4 y5 y6 y7 y8
   unfold laws_FnExactTellAll.j2
   repeat' first
   | (with_reducible exact ih0 _ _ _ _ _ _ _ _ _ _ _ _ _ _ _ _ _ _ _ _ _ _ _ _ _ _ _ _ _)
   | (with_reducible exact ih1 _ _ _ _ _ _ _ _ _ _ _ _ _ _ _ _ _ _ _ _ _ _)
   | (with_reducible exact ih2 _ _ _ _ _ _ _ _ _)
   | (with_reducible exact impl_TellAll.mono _ _ _ _ _ _ _)
   | (with_reducible exact laws_eqIntS.mono _ _ _)
   | (with_reducible exact laws_eqNotify.mono _ _ _ _ _ _ _ _ _ _ _ _ _)
   | (with_reducible exact laws_heldIntS.mono _ _ _)
   | (with_reducible exact laws_heldNotify.mono _ _ _ _ _ _ _ _)
   | (with_reducible exact laws_markIntS.mono _ _ _)
   | (with_reducible exact laws_markNotify.mono _ _ _ _ _ _ _ _)
   | (with_reducible exact laws_toNotify.mono _ _ _ _ _ _ _)
   | (with_reducible exact spec_TellAll.mono _ _ _ _ _ _ _)
   | (with_reducible exact LeO.refl _)
   | (with_reducible exact LeO.none _)
   | (with_reducible refine LeO.ite ?_ ?_)
   | (with_reducible refine LeO.bind ?_ (fun _ => ?_))
theorem laws_FnExactTellAll.mono : ∀ a0 a1 a2 a3 a4 a5 k, LeO (laws_FnExactTellAll.f k a0 a1 a2 a3 a4 a5) (laws_FnExactTellAll.f (k + 1) a0 a1 a2 a3 a4 a5) := by
 intro a0 a1 a2 a3 a4 a5 k
 obtain ⟨ih0, ih1, ih2⟩ := laws_FnExactTellAll.mono_l k
 unfold laws_FnExactTellAll.f
 repeat' first
   | (with_reducible exact ih0 _ _ _ _ _ _ _ _ _ _ _ _ _ _ _ _ _ _ _ _ _ _ _ _ _ _ _ _ _)
   | (with_reducible exact ih1 _ _ _ _ _ _ _ _ _ _ _ _ _ _ _ _ _ _ _ _ _ _)
   | (with_reducible exact ih2 _ _ _ _ _ _ _ _ _)
   | (with_reducible exact impl_TellAll.mono _ _ _ _ _ _ _)
   | (with_reducible exact laws_eqIntS.mono _ _ _)
   | (with_reducible exact laws_eqNotify.mono _ _ _ _ _ _ _ _ _ _ _ _ _)
   | (with_reducible exact laws_heldIntS.mono _ _ _)
   | (with_reducible exact laws_heldNotify.mono _ _ _ _ _ _ _ _)
   | (with_reducible exact laws_markIntS.mono _ _ _)
   | (with_reducible exact laws_markNotify.mono _ _ _ _ _ _ _ _)
   | (with_reducible exact laws_toNotify.mono _ _ _ _ _ _ _)
   | (with_reducible exact spec_TellAll.mono _ _ _ _ _ _ _)
   | (with_reducible exact LeO.refl _)
   | (with_reducible exact LeO.none _)
   | (with_reducible refine LeO.ite ?_ ?_)
   | (with_reducible refine LeO.bind ?_ (fun _ => ?_))
set_option maxHeartbeats 8000000 in
set_option maxRecDepth 100000 in
theorem laws_FnExactTellAll.calls (k : Nat) (a0_0 : Bool) (A0_1 : Option Addr) (c0_1 : Nat) (l0_1 : List Int) (A0_2 : Option Addr) (c0_2 : Nat) (l0_2 : List (S84)) (a0_3 : Int) (a0_4 : Int) (a0_5 : Int) (r : Bool) (w : World) (hr0_1 : Kd.C (Kd.int .i64) w A0_1 l0_1.length l0_1) (hc0_1 : l0_1.length ≤ c0_1) (hr0_2 : Kd.C k84 w A0_2 l0_2.length l0_2) (hc0_2 : l0_2.length ≤ c0_2) (HQ_ : Aside0 (r = true)) (h : laws_FnExactTellAll.f k a0_0 l0_1 l0_2 a0_3 a0_4 a0_5 = some r) :
  Calls Try.prog 8 #[.agg #[.bool a0_0, .slice A0_1 l0_1.length c0_1, .slice A0_2 l0_2.length c0_2, .int .i64 a0_3, .int .i64 a0_4, .int .i64 a0_5]] w fun e w' => e = .returned (.bool r) ∧ Below w.heap.size w w' := by
 have hu33 := Try.underlying33
 have hu38 := Try.underlying38
 have HR0_1 := am hr0_1
 have HC0_1 := am hc0_1
 clear hr0_1 hc0_1
 have HR0_2 := am hr0_2
 have HC0_2 := am hc0_2
 clear hr0_2 hc0_2
 have HB := am (Below.refl w.heap.size w)
 have H : ((laws_szNotify.f a0_0 l0_1 l0_2 a0_3 a0_4 a0_5 1048576).bind fun t845 => (if t845 < 0 then (some true) else ((laws_toNotify.f k a0_0 l0_1 l0_2 a0_3 a0_4 a0_5).bind fun bt846 => ((spec_TellAll.f k bt846.1 bt846.2.1 bt846.2.2.1 bt846.2.2.2.1 bt846.2.2.2.2.1 bt846.2.2.2.2.2).bind fun bt856 => ((laws_toNotify.f k a0_0 l0_1 l0_2 a0_3 a0_4 a0_5).bind fun bt871 => ((impl_TellAll.f k bt871.1 bt871.2.1 bt871.2.2.1 bt871.2.2.2.1 bt871.2.2.2.2.1 bt871.2.2.2.2.2).bind fun bt882 => ((laws_eqNotify.f k bt882.1 bt882.2.1 bt882.2.2.1 bt882.2.2.2.1 bt882.2.2.2.2.1 bt882.2.2.2.2.2.1 bt856.1 bt856.2.1 bt856.2.2.1 bt856.2.2.2.1 bt856.2.2.2.2.1 bt856.2.2.2.2.2.1).bind fun t897 => (if t897 = true then ((laws_eqIntS.f k bt882.2.2.2.2.2.2.1 bt856.2.2.2.2.2.2.1).bind fun t898 => (if t898 = true then (laws_FnExactTellAll.j0 k bt856.2.2.2.2.2.2.1 bt856.2.2.2.2.2.2.2 bt882.2.2.2.2.2.2.1 bt882.2.2.2.2.2.2.2 (bt882.2.2.2.2.2.2.2 != bt856.2.2.2.2.2.2.2) a0_0 l0_1 l0_2 a0_3 a0_4 a0_5 bt856.1 bt856.2.1 bt856.2.2.1 bt856.2.2.2.1 bt856.2.2.2.2.1 bt856.2.2.2.2.2.1 bt871.1 bt871.2.1 bt871.2.2.1 bt871.2.2.2.1 bt871.2.2.2.2.1 bt871.2.2.2.2.2 bt882.1 bt882.2.1 bt882.2.2.1 bt882.2.2.2.1 bt882.2.2.2.2.1 bt882.2.2.2.2.2.1) else (laws_FnExactTellAll.j0 k bt856.2.2.2.2.2.2.1 bt856.2.2.2.2.2.2.2 bt882.2.2.2.2.2.2.1 bt882.2.2.2.2.2.2.2 true a0_0 l0_1 l0_2 a0_3 a0_4 a0_5 bt856.1 bt856.2.1 bt856.2.2.1 bt856.2.2.2.1 bt856.2.2.2.2.1 bt856.2.2.2.2.2.1 bt871.1 bt871.2.1 bt871.2.2.1 bt871.2.2.2.1 bt871.2.2.2.2.1 bt871.2.2.2.2.2 bt882.1 bt882.2.1 bt882.2.2.1 bt882.2.2.2.1 bt882.2.2.2.2.1 bt882.2.2.2.2.2.1))) else (laws_FnExactTellAll.j0 k bt856.2.2.2.2.2.2.1 bt856.2.2.2.2.2.2.2 bt882.2.2.2.2.2.2.1 bt882.2.2.2.2.2.2.2 true a0_0 l0_1 l0_2 a0_3 a0_4 a0_5 bt856.1 bt856.2.1 bt856.2.2.1 bt856.2.2.2.1 bt856.2.2.2.2.1 bt856.2.2.2.2.2.1 bt871.1 bt871.2.1 bt871.2.2.1 bt871.2.2.2.1 bt871.2.2.2.2.1 bt871.2.2.2.2.2 bt882.1 bt882.2.1 bt882.2.2.1 bt882.2.2.2.1 bt882.2.2.2.2.1 bt882.2.2.2.2.2.1))))))))) = some r := h
 clear h
 replace H := Option.bind_eq_some_iff.mp H
 obtain ⟨t845, A20, H⟩ := H
 replace H : (if t845 < 0 then (some true) else ((laws_toNotify.f k a0_0 l0_1 l0_2 a0_3 a0_4 a0_5).bind fun bt846 => ((spec_TellAll.f k bt846.1 bt846.2.1 bt846.2.2.1 bt846.2.2.2.1 bt846.2.2.2.2.1 bt846.2.2.2.2.2).bind fun bt856 => ((laws_toNotify.f k a0_0 l0_1 l0_2 a0_3 a0_4 a0_5).bind fun bt871 => ((impl_TellAll.f k bt871.1 bt871.2.1 bt871.2.2.1 bt871.2.2.2.1 bt871.2.2.2.2.1 bt871.2.2.2.2.2).bind fun bt882 => ((laws_eqNotify.f k bt882.1 bt882.2.1 bt882.2.2.1 bt882.2.2.2.1 bt882.2.2.2.2.1 bt882.2.2.2.2.2.1 bt856.1 bt856.2.1 bt856.2.2.1 bt856.2.2.2.1 bt856.2.2.2.2.1 bt856.2.2.2.2.2.1).bind fun t897 => (if t897 = true then ((laws_eqIntS.f k bt882.2.2.2.2.2.2.1 bt856.2.2.2.2.2.2.1).bind fun t898 => (if t898 = true then (laws_FnExactTellAll.j0 k bt856.2.2.2.2.2.2.1 bt856.2.2.2.2.2.2.2 bt882.2.2.2.2.2.2.1 bt882.2.2.2.2.2.2.2 (bt882.2.2.2.2.2.2.2 != bt856.2.2.2.2.2.2.2) a0_0 l0_1 l0_2 a0_3 a0_4 a0_5 bt856.1 bt856.2.1 bt856.2.2.1 bt856.2.2.2.1 bt856.2.2.2.2.1 bt856.2.2.2.2.2.1 bt871.1 bt871.2.1 bt871.2.2.1 bt871.2.2.2.1 bt871.2.2.2.2.1 bt871.2.2.2.2.2 bt882.1 bt882.2.1 bt882.2.2.1 bt882.2.2.2.1 bt882.2.2.2.2.1 bt882.2.2.2.2.2.1) else (laws_FnExactTellAll.j0 k bt856.2.2.2.2.2.2.1 bt856.2.2.2.2.2.2.2 bt882.2.2.2.2.2.2.1 bt882.2.2.2.2.2.2.2 true a0_0 l0_1 l0_2 a0_3 a0_4 a0_5 bt856.1 bt856.2.1 bt856.2.2.1 bt856.2.2.2.1 bt856.2.2.2.2.1 bt856.2.2.2.2.2.1 bt871.1 bt871.2.1 bt871.2.2.1 bt871.2.2.2.1 bt871.2.2.2.2.1 bt871.2.2.2.2.2 bt882.1 bt882.2.1 bt882.2.2.1 bt882.2.2.2.1 bt882.2.2.2.2.1 bt882.2.2.2.2.2.1))) else (laws_FnExactTellAll.j0 k bt856.2.2.2.2.2.2.1 bt856.2.2.2.2.2.2.2 bt882.2.2.2.2.2.2.1 bt882.2.2.2.2.2.2.2 true a0_0 l0_1 l0_2 a0_3 a0_4 a0_5 bt856.1 bt856.2.1 bt856.2.2.1 bt856.2.2.2.1 bt856.2.2.2.2.1 bt856.2.2.2.2.2.1 bt871.1 bt871.2.1 bt871.2.2.1 bt871.2.2.2.1 bt871.2.2.2.2.1 bt871.2.2.2.2.2 bt882.1 bt882.2.1 bt882.2.2.1 bt882.2.2.2.1 bt882.2.2.2.2.1 bt882.2.2.2.2.2.1)))))))) = some r := H
 have A2 := am A20
 clear A20
 by_cases c3 : t845 < 0
 ·rw [if_pos c3] at H
  have c3b0 : decide (t845 < 0) = true := decide_eq_true c3
  clear c3
  obtain rfl := Option.some.inj H
  go_enter Try.func8, Try.ntmps8
  go_wp2_with (first | ((with_reducible refine gate_dst (N := 1) rfl ?_); refine box_event ?hg (N := 1) ?hd (cs := #[.bool a0_0, .slice A0_1 l0_1.length c0_1, .slice A0_2 l0_2.length c0_2, .int .i64 a0_3, .int .i64 a0_4, .int .i64 a0_5]) (t := 33) ?hr ?_; (case hd => rfl); (case hg => rfl); (case hr => first | (go_simp; done) | (go_simp; rfl)); intro gb844 hg w4 hbox hb; have BK844 := am (hbox); have GW844 := am ((by rw [hg]; exact (below_size (pkB HB.out)) : w.heap.size ≤ gb844)); have GE844 := am ((by rw [hg]; exact (below_size (pkB HB.out)) : w.heap.size ≤ gb844)); replace HB := am (below_step (pkB HB.out) hb); clear hb hbox hg; obtain ⟨hcz5_0, hcz5_1, hcz5_2, hcz5_3, hcz5_4, hcz5_5, hfz5_0, hfz5_1, hfz5_2, hfz5_3, hfz5_4, hfz5_5⟩ := bk6 BK844.out) | ((with_reducible refine gate_callee (f := 19) rfl ?_); refine goesL_ (some 19) rfl rfl Try.func19 (by kernel_rfl) rfl #[.agg #[.bool a0_0, .slice A0_1 l0_1.length c0_1, .slice A0_2 l0_2.length c0_2, .int .i64 a0_3, .int .i64 a0_4, .int .i64 a0_5], .int .i64 1048576] rfl mpx ?_; (with_reducible refine (laws_szNotify.calls a0_0 _ _ l0_1 _ _ l0_2 a0_3 a0_4 a0_5 1048576 t845 _ ?side1 ?side2 ?side3 ?side4 A2.out).mono ?_); (case side1 => exact pkC (Kd.C_below HR0_1.out HB.out)); (case side2 => exact HC0_1.out); (case side3 => exact pkC (Kd.C_below HR0_2.out HB.out)); (case side4 => exact HC0_2.out); rintro e w6 ⟨rfl, hb⟩; refine ⟨_, rfl, ?_⟩; replace BK844 := am (blk_below (pkK BK844.out) hb); replace HB := am (below_step (pkW HB.out) hb); (try clear hb)))
  go_ret
  exact ⟨rfe, pkW HB.out⟩
 ·rw [if_neg c3] at H
  have c3b0 : decide (t845 < 0) = false := decide_eq_false c3
  clear c3
  replace H := Option.bind_eq_some_iff.mp H
  obtain ⟨⟨t846, t847, t850, t853, t854, t855⟩, A70, H⟩ := H
  replace H : ((spec_TellAll.f k t846 t847 t850 t853 t854 t855).bind fun bt856 => ((laws_toNotify.f k a0_0 l0_1 l0_2 a0_3 a0_4 a0_5).bind fun bt871 => ((impl_TellAll.f k bt871.1 bt871.2.1 bt871.2.2.1 bt871.2.2.2.1 bt871.2.2.2.2.1 bt871.2.2.2.2.2).bind fun bt882 => ((laws_eqNotify.f k bt882.1 bt882.2.1 bt882.2.2.1 bt882.2.2.2.1 bt882.2.2.2.2.1 bt882.2.2.2.2.2.1 bt856.1 bt856.2.1 bt856.2.2.1 bt856.2.2.2.1 bt856.2.2.2.2.1 bt856.2.2.2.2.2.1).bind fun t897 => (if t897 = true then ((laws_eqIntS.f k bt882.2.2.2.2.2.2.1 bt856.2.2.2.2.2.2.1).bind fun t898 => (if t898 = true then (laws_FnExactTellAll.j0 k bt856.2.2.2.2.2.2.1 bt856.2.2.2.2.2.2.2 bt882.2.2.2.2.2.2.1 bt882.2.2.2.2.2.2.2 (bt882.2.2.2.2.2.2.2 != bt856.2.2.2.2.2.2.2) a0_0 l0_1 l0_2 a0_3 a0_4 a0_5 bt856.1 bt856.2.1 bt856.2.2.1 bt856.2.2.2.1 bt856.2.2.2.2.1 bt856.2.2.2.2.2.1 bt871.1 bt871.2.1 bt871.2.2.1 bt871.2.2.2.1 bt871.2.2.2.2.1 bt871.2.2.2.2.2 bt882.1 bt882.2.1 bt882.2.2.1 bt882.2.2.2.1 bt882.2.2.2.2.1 bt882.2.2.2.2.2.1) else (laws_FnExactTellAll.j0 k bt856.2.2.2.2.2.2.1 bt856.2.2.2.2.2.2.2 bt882.2.2.2.2.2.2.1 bt882.2.2.2.2.2.2.2 true a0_0 l0_1 l0_2 a0_3 a0_4 a0_5 bt856.1 bt856.2.1 bt856.2.2.1 bt856.2.2.2.1 bt856.2.2.2.2.1 bt856.2.2.2.2.2.1 bt871.1 bt871.2.1 bt871.2.2.1 bt871.2.2.2.1 bt871.2.2.2.2.1 bt871.2.2.2.2.2 bt882.1 bt882.2.1 bt882.2.2.1 bt882.2.2.2.1 bt882.2.2.2.2.1 bt882.2.2.2.2.2.1))) else (laws_FnExactTellAll.j0 k bt856.2.2.2.2.2.2.1 bt856.2.2.2.2.2.2.2 bt882.2.2.2.2.2.2.1 bt882.2.2.2.2.2.2.2 true a0_0 l0_1 l0_2 a0_3 a0_4 a0_5 bt856.1 bt856.2.1 bt856.2.2.1 bt856.2.2.2.1 bt856.2.2.2.2.1 bt856.2.2.2.2.2.1 bt871.1 bt871.2.1 bt871.2.2.1 bt871.2.2.2.1 bt871.2.2.2.2.1 bt871.2.2.2.2.2 bt882.1 bt882.2.1 bt882.2.2.1 bt882.2.2.2.1 bt882.2.2.2.2.1 bt882.2.2.2.2.2.1)))))) = some r := H
  have A7 := am A70
  clear A70
  replace H := Option.bind_eq_some_iff.mp H
  obtain ⟨⟨t856, t857, t860, t863, t864, t865, t866, t869⟩, A80, H⟩ := H
  replace H : ((laws_toNotify.f k a0_0 l0_1 l0_2 a0_3 a0_4 a0_5).bind fun bt871 => ((impl_TellAll.f k bt871.1 bt871.2.1 bt871.2.2.1 bt871.2.2.2.1 bt871.2.2.2.2.1 bt871.2.2.2.2.2).bind fun bt882 => ((laws_eqNotify.f k bt882.1 bt882.2.1 bt882.2.2.1 bt882.2.2.2.1 bt882.2.2.2.2.1 bt882.2.2.2.2.2.1 t856 t857 t860 t863 t864 t865).bind fun t897 => (if t897 = true then ((laws_eqIntS.f k bt882.2.2.2.2.2.2.1 t866).bind fun t898 => (if t898 = true then (laws_FnExactTellAll.j0 k t866 t869 bt882.2.2.2.2.2.2.1 bt882.2.2.2.2.2.2.2 (bt882.2.2.2.2.2.2.2 != t869) a0_0 l0_1 l0_2 a0_3 a0_4 a0_5 t856 t857 t860 t863 t864 t865 bt871.1 bt871.2.1 bt871.2.2.1 bt871.2.2.2.1 bt871.2.2.2.2.1 bt871.2.2.2.2.2 bt882.1 bt882.2.1 bt882.2.2.1 bt882.2.2.2.1 bt882.2.2.2.2.1 bt882.2.2.2.2.2.1) else (laws_FnExactTellAll.j0 k t866 t869 bt882.2.2.2.2.2.2.1 bt882.2.2.2.2.2.2.2 true a0_0 l0_1 l0_2 a0_3 a0_4 a0_5 t856 t857 t860 t863 t864 t865 bt871.1 bt871.2.1 bt871.2.2.1 bt871.2.2.2.1 bt871.2.2.2.2.1 bt871.2.2.2.2.2 bt882.1 bt882.2.1 bt882.2.2.1 bt882.2.2.2.1 bt882.2.2.2.2.1 bt882.2.2.2.2.2.1))) else (laws_FnExactTellAll.j0 k t866 t869 bt882.2.2.2.2.2.2.1 bt882.2.2.2.2.2.2.2 true a0_0 l0_1 l0_2 a0_3 a0_4 a0_5 t856 t857 t860 t863 t864 t865 bt871.1 bt871.2.1 bt871.2.2.1 bt871.2.2.2.1 bt871.2.2.2.2.1 bt871.2.2.2.2.2 bt882.1 bt882.2.1 bt882.2.2.1 bt882.2.2.2.1 bt882.2.2.2.2.1 bt882.2.2.2.2.2.1))))) = some r := H
  have A8 := am A80
  clear A80
  replace H := Option.bind_eq_some_iff.mp H
  obtain ⟨⟨t871, t872, t875, t878, t879, t880⟩, A90, H⟩ := H
  replace H : ((impl_TellAll.f k t871 t872 t875 t878 t879 t880).bind fun bt882 => ((laws_eqNotify.f k bt882.1 bt882.2.1 bt882.2.2.1 bt882.2.2.2.1 bt882.2.2.2.2.1 bt882.2.2.2.2.2.1 t856 t857 t860 t863 t864 t865).bind fun t897 => (if t897 = true then ((laws_eqIntS.f k bt882.2.2.2.2.2.2.1 t866).bind fun t898 => (if t898 = true then (laws_FnExactTellAll.j0 k t866 t869 bt882.2.2.2.2.2.2.1 bt882.2.2.2.2.2.2.2 (bt882.2.2.2.2.2.2.2 != t869) a0_0 l0_1 l0_2 a0_3 a0_4 a0_5 t856 t857 t860 t863 t864 t865 t871 t872 t875 t878 t879 t880 bt882.1 bt882.2.1 bt882.2.2.1 bt882.2.2.2.1 bt882.2.2.2.2.1 bt882.2.2.2.2.2.1) else (laws_FnExactTellAll.j0 k t866 t869 bt882.2.2.2.2.2.2.1 bt882.2.2.2.2.2.2.2 true a0_0 l0_1 l0_2 a0_3 a0_4 a0_5 t856 t857 t860 t863 t864 t865 t871 t872 t875 t878 t879 t880 bt882.1 bt882.2.1 bt882.2.2.1 bt882.2.2.2.1 bt882.2.2.2.2.1 bt882.2.2.2.2.2.1))) else (laws_FnExactTellAll.j0 k t866 t869 bt882.2.2.2.2.2.2.1 bt882.2.2.2.2.2.2.2 true a0_0 l0_1 l0_2 a0_3 a0_4 a0_5 t856 t857 t860 t863 t864 t865 t871 t872 t875 t878 t879 t880 bt882.1 bt882.2.1 bt882.2.2.1 bt882.2.2.2.1 bt882.2.2.2.2.1 bt882.2.2.2.2.2.1)))) = some r := H
  have A9 := am A90
  clear A90
  replace H := Option.bind_eq_some_iff.mp H
  obtain ⟨⟨t882, t883, t886, t889, t890, t891, t892, t895⟩, A100, H⟩ := H
  replace H : ((laws_eqNotify.f k t882 t883 t886 t889 t890 t891 t856 t857 t860 t863 t864 t865).bind fun t897 => (if t897 = true then ((laws_eqIntS.f k t892 t866).bind fun t898 => (if t898 = true then (laws_FnExactTellAll.j0 k t866 t869 t892 t895 (t895 != t869) a0_0 l0_1 l0_2 a0_3 a0_4 a0_5 t856 t857 t860 t863 t864 t865 t871 t872 t875 t878 t879 t880 t882 t883 t886 t889 t890 t891) else (laws_FnExactTellAll.j0 k t866 t869 t892 t895 true a0_0 l0_1 l0_2 a0_3 a0_4 a0_5 t856 t857 t860 t863 t864 t865 t871 t872 t875 t878 t879 t880 t882 t883 t886 t889 t890 t891))) else (laws_FnExactTellAll.j0 k t866 t869 t892 t895 true a0_0 l0_1 l0_2 a0_3 a0_4 a0_5 t856 t857 t860 t863 t864 t865 t871 t872 t875 t878 t879 t880 t882 t883 t886 t889 t890 t891))) = some r := H
  have A10 := am A100
  clear A100
  have HC11 := am H
  clear H
  go_enter Try.func8, Try.ntmps8
  go_upto_region 8 with (first | ((with_reducible refine gate_dst (N := 1) rfl ?_); refine box_event ?hg (N := 1) ?hd (cs := #[.bool a0_0, .slice A0_1 l0_1.length c0_1, .slice A0_2 l0_2.length c0_2, .int .i64 a0_3, .int .i64 a0_4, .int .i64 a0_5]) (t := 33) ?hr ?_; (case hd => rfl); (case hg => rfl); (case hr => first | (go_simp; done) | (go_simp; rfl)); intro gb844 hg w12 hbox hb; have BK844 := am (hbox); have GW844 := am ((by rw [hg]; exact (below_size (pkB HB.out)) : w.heap.size ≤ gb844)); have GE844 := am ((by rw [hg]; exact (below_size (pkB HB.out)) : w.heap.size ≤ gb844)); replace HB := am (below_step (pkB HB.out) hb); clear hb hbox hg; obtain ⟨hcz13_0, hcz13_1, hcz13_2, hcz13_3, hcz13_4, hcz13_5, hfz13_0, hfz13_1, hfz13_2, hfz13_3, hfz13_4, hfz13_5⟩ := bk6 BK844.out) | ((with_reducible refine gate_callee (f := 19) rfl ?_); refine goesL_ (some 19) rfl rfl Try.func19 (by kernel_rfl) rfl #[.agg #[.bool a0_0, .slice A0_1 l0_1.length c0_1, .slice A0_2 l0_2.length c0_2, .int .i64 a0_3, .int .i64 a0_4, .int .i64 a0_5], .int .i64 1048576] rfl mpx ?_; (with_reducible refine (laws_szNotify.calls a0_0 _ _ l0_1 _ _ l0_2 a0_3 a0_4 a0_5 1048576 t845 _ ?side1 ?side2 ?side3 ?side4 A2.out).mono ?_); (case side1 => exact pkC (Kd.C_below HR0_1.out HB.out)); (case side2 => exact HC0_1.out); (case side3 => exact pkC (Kd.C_below HR0_2.out HB.out)); (case side4 => exact HC0_2.out); rintro e w14 ⟨rfl, hb⟩; refine ⟨_, rfl, ?_⟩; replace BK844 := am (blk_below (pkK BK844.out) hb); replace HB := am (below_step (pkW HB.out) hb); (try clear hb); obtain ⟨hcz15_0, hcz15_1, hcz15_2, hcz15_3, hcz15_4, hcz15_5, hfz15_0, hfz15_1, hfz15_2, hfz15_3, hfz15_4, hfz15_5⟩ := bk6 BK844.out) | ((with_reducible refine gate_callee (f := 21) rfl ?_); refine goesL_ (some 24) rfl rfl Try.func21 (by kernel_rfl) rfl #[.agg #[.bool a0_0, .slice A0_1 l0_1.length c0_1, .slice A0_2 l0_2.length c0_2, .int .i64 a0_3, .int .i64 a0_4, .int .i64 a0_5]] rfl mpx ?_; (with_reducible refine (laws_toNotify.calls k a0_0 _ _ l0_1 _ _ l0_2 a0_3 a0_4 a0_5 t846 t847 t850 t853 t854 t855 _ ?side1 ?side2 ?side3 ?side4 A7.out).mono ?_); (case side1 => exact pkC (Kd.C_below HR0_1.out HB.out)); (case side2 => exact HC0_1.out); (case side3 => exact pkC (Kd.C_below HR0_2.out HB.out)); (case side4 => exact HC0_2.out); rintro e w16 ⟨v848, v851, rfl, ho0, ho1, hb⟩; refine ⟨_, rfl, ?_⟩; have HO849 := am (Kd.R_lower ho0 (below_size (pkW HB.out))); have HO852 := am (Kd.R_lower ho1 (below_size (pkW HB.out))); replace BK844 := am (blk_below (pkK BK844.out) hb); replace HB := am (below_step (pkW HB.out) hb); (try clear hb ho0 ho1); obtain ⟨Ao17, co17, eo17⟩ := Kd.R_slice HO849.out; subst eo17; obtain ⟨Ao18, co18, eo18⟩ := Kd.R_slice HO852.out; subst eo18) | ((with_reducible refine gate_callee (f := 32) rfl ?_); refine goesL_ (some 25) rfl rfl Try.func32 (by kernel_rfl) rfl #[.agg #[.bool t846, .slice Ao17 t847.length co17, .slice Ao18 t850.length co18, .int .i64 t853, .int .i64 t854, .int .i64 t855]] rfl mpx ?_; (with_reducible refine (spec_TellAll.calls k t846 _ _ t847 _ _ t850 t853 t854 t855 t856 t857 t860 t863 t864 t865 t866 t869 _ ?side1 ?side2 ?side3 ?side4 A8.out).mono ?_); (case side1 => exact pkC (Kd.R_reads' HO849.out).2.2); (case side2 => exact (Kd.R_reads' HO849.out).2.1); (case side3 => exact pkC (Kd.R_reads' HO852.out).2.2); (case side4 => exact (Kd.R_reads' HO852.out).2.1); rintro e w19 ⟨v858, v861, v867, rfl, ho0, ho1, ho2, hb⟩; refine ⟨_, rfl, ?_⟩; have HO859 := am (Kd.R_lower (Kd.R_new' ho0 (Kd.R_lt (pkR HO849.out))) (below_size (pkW HB.out))); have HO862 := am (Kd.R_lower (Kd.R_new' ho1 (Kd.R_lt (pkR HO852.out))) (below_size (pkW HB.out))); replace HO852 := am (Kd.R_elder' (pkR HO852.out) (Kd.R_base ho1) hb); have HO868 := am (Kd.R_lower (Kd.R_new' ho2 (Kd.R_lt (pkR HO849.out))) (below_size (pkW HB.out))); replace HO849 := am (Kd.R_mono (Kd.R_told (Kd.R_told (Kd.R_old (pkR HO849.out) hb) (Kd.R_base ho0)) (Kd.R_base ho2)) (fun _ h_ => h_.1)); replace BK844 := am (blk_below (pkK BK844.out) hb); replace HB := am (below_step (pkW HB.out) hb); (try clear hb ho0 ho1 ho2)) | ((with_reducible refine gate_dst (N := 4) rfl ?_); refine box_event ?hg (N := 4) ?hd (cs := #[.bool false, .slice none 0 0, .slice none 0 0, .int .i64 0, .int .i64 0, .int .i64 0]) (t := 38) ?hr ?_; (case hd => rfl); (case hg => rfl); (case hr => first | (go_simp; done) | (go_simp; rfl)); intro gb870 hg w20 hbox hb; replace HO849 := am (Kd.R_below (pkR HO849.out) hb); replace HO852 := am (Kd.R_below (pkR HO852.out) hb); replace HO859 := am (Kd.R_below (pkR HO859.out) hb); replace HO862 := am (Kd.R_below (pkR HO862.out) hb); replace HO868 := am (Kd.R_below (pkR HO868.out) hb); have BK870 := am (hbox); have GW870 := am ((by rw [hg]; exact (below_size (pkW HB.out)) : w.heap.size ≤ gb870)); have GE870 := am ((by rw [hg]; exact (below_size (pkW HB.out)) : w.heap.size ≤ gb870)); replace HB := am (below_step (pkW HB.out) hb); have NB844_870 := am ((by rw [hg]; exact Nat.ne_of_lt (blk_lt (g := gb844) (o := .cells #[.bool a0_0, .slice A0_1 l0_1.length c0_1, .slice A0_2 l0_2.length c0_2, .int .i64 a0_3, .int .i64 a0_4, .int .i64 a0_5] 33 (0, 0)) (pkK BK844.out)) : gb844 ≠ gb870)); have NB870_844 := am ((by rw [hg]; exact Nat.ne_of_gt (blk_lt (g := gb844) (o := .cells #[.bool a0_0, .slice A0_1 l0_1.length c0_1, .slice A0_2 l0_2.length c0_2, .int .i64 a0_3, .int .i64 a0_4, .int .i64 a0_5] 33 (0, 0)) (pkK BK844.out)) : gb870 ≠ gb844)); replace BK844 := am (blk_below (pkK BK844.out) hb); clear hb hbox hg; have hnb21 := NB870_844.out; have hnc21 := NB844_870.out; obtain ⟨hcz22_0, hcz22_1, hcz22_2, hcz22_3, hcz22_4, hcz22_5, hfz22_0, hfz22_1, hfz22_2, hfz22_3, hfz22_4, hfz22_5⟩ := bk6 BK870.out; obtain ⟨Ao23, co23, eo23⟩ := Kd.R_slice HO859.out; subst eo23; obtain ⟨Ao24, co24, eo24⟩ := Kd.R_slice HO862.out; subst eo24; obtain ⟨hcz25_0, hcz25_1, hcz25_2, hcz25_3, hcz25_4, hcz25_5, hfz25_0, hfz25_1, hfz25_2, hfz25_3, hfz25_4, hfz25_5⟩ := bk6 BK844.out) | ((with_reducible refine gate_callee (f := 21) rfl ?_); refine goesL_ (some 30) rfl rfl Try.func21 (by kernel_rfl) rfl #[.agg #[.bool a0_0, .slice A0_1 l0_1.length c0_1, .slice A0_2 l0_2.length c0_2, .int .i64 a0_3, .int .i64 a0_4, .int .i64 a0_5]] rfl mpx ?_; (with_reducible refine (laws_toNotify.calls k a0_0 _ _ l0_1 _ _ l0_2 a0_3 a0_4 a0_5 t871 t872 t875 t878 t879 t880 _ ?side1 ?side2 ?side3 ?side4 A9.out).mono ?_); (case side1 => exact Kd.C_below HR0_1.out (pkW HB.out)); (case side2 => exact HC0_1.out); (case side3 => exact Kd.C_below HR0_2.out (pkW HB.out)); (case side4 => exact HC0_2.out); rintro e w26 ⟨v873, v876, rfl, ho0, ho1, hb⟩; refine ⟨_, rfl, ?_⟩; have HO874 := am (Kd.R_lower (Kd.R_new' (Kd.R_new' (Kd.R_new' ho0 (Kd.R_lt (by (with_reducible repeat (first | apply Kd.R_alloc | apply Kd.R_drewN | apply Kd.R_drew)); exact (Kd.R_mono (Kd.R_far (p := ⟨gb870, 5, none⟩) (Kd.R_far (p := ⟨gb870, 4, none⟩) (Kd.R_far (p := ⟨gb870, 3, none⟩) (Kd.R_far (p := ⟨gb870, 2, none⟩) (Kd.R_far (p := ⟨gb870, 1, none⟩) (Kd.R_far (p := ⟨gb870, 0, none⟩) (Kd.R_types HO849.out BK870.out (by decide)) (fun _ hk => hk.2) (.bool t856)) (fun _ hk => hk.2) (.slice Ao23 t857.length co23)) (fun _ hk => hk.2) (.slice Ao24 t860.length co24)) (fun _ hk => hk.2) (.int .i64 t863)) (fun _ hk => hk.2) (.int .i64 t864)) (fun _ hk => hk.2) (.int .i64 t865)) (fun _ h_ => h_.1))))) (Kd.R_lt (by (with_reducible repeat (first | apply Kd.R_alloc | apply Kd.R_drewN | apply Kd.R_drew)); exact (Kd.R_mono (Kd.R_far (p := ⟨gb870, 5, none⟩) (Kd.R_far (p := ⟨gb870, 4, none⟩) (Kd.R_far (p := ⟨gb870, 3, none⟩) (Kd.R_far (p := ⟨gb870, 2, none⟩) (Kd.R_far (p := ⟨gb870, 1, none⟩) (Kd.R_far (p := ⟨gb870, 0, none⟩) (Kd.R_types HO859.out BK870.out (by decide)) (fun _ hk => hk.2) (.bool t856)) (fun _ hk => hk.2) (.slice Ao23 t857.length co23)) (fun _ hk => hk.2) (.slice Ao24 t860.length co24)) (fun _ hk => hk.2) (.int .i64 t863)) (fun _ hk => hk.2) (.int .i64 t864)) (fun _ hk => hk.2) (.int .i64 t865)) (fun _ h_ => h_.1))))) (Kd.R_lt (by (with_reducible repeat (first | apply Kd.R_alloc | apply Kd.R_drewN | apply Kd.R_drew)); exact (Kd.R_mono (Kd.R_far (p := ⟨gb870, 5, none⟩) (Kd.R_far (p := ⟨gb870, 4, none⟩) (Kd.R_far (p := ⟨gb870, 3, none⟩) (Kd.R_far (p := ⟨gb870, 2, none⟩) (Kd.R_far (p := ⟨gb870, 1, none⟩) (Kd.R_far (p := ⟨gb870, 0, none⟩) (Kd.R_types HO868.out BK870.out (by decide)) (fun _ hk => hk.2) (.bool t856)) (fun _ hk => hk.2) (.slice Ao23 t857.length co23)) (fun _ hk => hk.2) (.slice Ao24 t860.length co24)) (fun _ hk => hk.2) (.int .i64 t863)) (fun _ hk => hk.2) (.int .i64 t864)) (fun _ hk => hk.2) (.int .i64 t865)) (fun _ h_ => h_.1))))) (below_size (pkW HB.out))); replace HO849 := am (Kd.R_elder' (by (with_reducible repeat (first | apply Kd.R_alloc | apply Kd.R_drewN | apply Kd.R_drew)); exact (Kd.R_mono (Kd.R_far (p := ⟨gb870, 5, none⟩) (Kd.R_far (p := ⟨gb870, 4, none⟩) (Kd.R_far (p := ⟨gb870, 3, none⟩) (Kd.R_far (p := ⟨gb870, 2, none⟩) (Kd.R_far (p := ⟨gb870, 1, none⟩) (Kd.R_far (p := ⟨gb870, 0, none⟩) (Kd.R_types HO849.out BK870.out (by decide)) (fun _ hk => hk.2) (.bool t856)) (fun _ hk => hk.2) (.slice Ao23 t857.length co23)) (fun _ hk => hk.2) (.slice Ao24 t860.length co24)) (fun _ hk => hk.2) (.int .i64 t863)) (fun _ hk => hk.2) (.int .i64 t864)) (fun _ hk => hk.2) (.int .i64 t865)) (fun _ h_ => h_.1))) (Kd.R_base ho0) hb); replace HO859 := am (Kd.R_elder' (by (with_reducible repeat (first | apply Kd.R_alloc | apply Kd.R_drewN | apply Kd.R_drew)); exact (Kd.R_mono (Kd.R_far (p := ⟨gb870, 5, none⟩) (Kd.R_far (p := ⟨gb870, 4, none⟩) (Kd.R_far (p := ⟨gb870, 3, none⟩) (Kd.R_far (p := ⟨gb870, 2, none⟩) (Kd.R_far (p := ⟨gb870, 1, none⟩) (Kd.R_far (p := ⟨gb870, 0, none⟩) (Kd.R_types HO859.out BK870.out (by decide)) (fun _ hk => hk.2) (.bool t856)) (fun _ hk => hk.2) (.slice Ao23 t857.length co23)) (fun _ hk => hk.2) (.slice Ao24 t860.length co24)) (fun _ hk => hk.2) (.int .i64 t863)) (fun _ hk => hk.2) (.int .i64 t864)) (fun _ hk => hk.2) (.int .i64 t865)) (fun _ h_ => h_.1))) (Kd.R_base ho0) hb); replace HO868 := am (Kd.R_elder' (by (with_reducible repeat (first | apply Kd.R_alloc | apply Kd.R_drewN | apply Kd.R_drew)); exact (Kd.R_mono (Kd.R_far (p := ⟨gb870, 5, none⟩) (Kd.R_far (p := ⟨gb870, 4, none⟩) (Kd.R_far (p := ⟨gb870, 3, none⟩) (Kd.R_far (p := ⟨gb870, 2, none⟩) (Kd.R_far (p := ⟨gb870, 1, none⟩) (Kd.R_far (p := ⟨gb870, 0, none⟩) (Kd.R_types HO868.out BK870.out (by decide)) (fun _ hk => hk.2) (.bool t856)) (fun _ hk => hk.2) (.slice Ao23 t857.length co23)) (fun _ hk => hk.2) (.slice Ao24 t860.length co24)) (fun _ hk => hk.2) (.int .i64 t863)) (fun _ hk => hk.2) (.int .i64 t864)) (fun _ hk => hk.2) (.int .i64 t865)) (fun _ h_ => h_.1))) (Kd.R_base ho0) hb); have HO877 := am (Kd.R_lower (Kd.R_new' (Kd.R_new' ho1 (Kd.R_lt (by (with_reducible repeat (first | apply Kd.R_alloc | apply Kd.R_drewN | apply Kd.R_drew)); exact (Kd.R_mono (Kd.R_far (p := ⟨gb870, 5, none⟩) (Kd.R_far (p := ⟨gb870, 4, none⟩) (Kd.R_far (p := ⟨gb870, 3, none⟩) (Kd.R_far (p := ⟨gb870, 2, none⟩) (Kd.R_far (p := ⟨gb870, 1, none⟩) (Kd.R_far (p := ⟨gb870, 0, none⟩) (Kd.R_types HO852.out BK870.out (by decide)) (fun _ hk => hk.2) (.bool t856)) (fun _ hk => hk.2) (.slice Ao23 t857.length co23)) (fun _ hk => hk.2) (.slice Ao24 t860.length co24)) (fun _ hk => hk.2) (.int .i64 t863)) (fun _ hk => hk.2) (.int .i64 t864)) (fun _ hk => hk.2) (.int .i64 t865)) (fun _ h_ => h_.1))))) (Kd.R_lt (by (with_reducible repeat (first | apply Kd.R_alloc | apply Kd.R_drewN | apply Kd.R_drew)); exact (Kd.R_mono (Kd.R_far (p := ⟨gb870, 5, none⟩) (Kd.R_far (p := ⟨gb870, 4, none⟩) (Kd.R_far (p := ⟨gb870, 3, none⟩) (Kd.R_far (p := ⟨gb870, 2, none⟩) (Kd.R_far (p := ⟨gb870, 1, none⟩) (Kd.R_far (p := ⟨gb870, 0, none⟩) (Kd.R_types HO862.out BK870.out (by decide)) (fun _ hk => hk.2) (.bool t856)) (fun _ hk => hk.2) (.slice Ao23 t857.length co23)) (fun _ hk => hk.2) (.slice Ao24 t860.length co24)) (fun _ hk => hk.2) (.int .i64 t863)) (fun _ hk => hk.2) (.int .i64 t864)) (fun _ hk => hk.2) (.int .i64 t865)) (fun _ h_ => h_.1))))) (below_size (pkW HB.out))); replace HO852 := am (Kd.R_elder' (by (with_reducible repeat (first | apply Kd.R_alloc | apply Kd.R_drewN | apply Kd.R_drew)); exact (Kd.R_mono (Kd.R_far (p := ⟨gb870, 5, none⟩) (Kd.R_far (p := ⟨gb870, 4, none⟩) (Kd.R_far (p := ⟨gb870, 3, none⟩) (Kd.R_far (p := ⟨gb870, 2, none⟩) (Kd.R_far (p := ⟨gb870, 1, none⟩) (Kd.R_far (p := ⟨gb870, 0, none⟩) (Kd.R_types HO852.out BK870.out (by decide)) (fun _ hk => hk.2) (.bool t856)) (fun _ hk => hk.2) (.slice Ao23 t857.length co23)) (fun _ hk => hk.2) (.slice Ao24 t860.length co24)) (fun _ hk => hk.2) (.int .i64 t863)) (fun _ hk => hk.2) (.int .i64 t864)) (fun _ hk => hk.2) (.int .i64 t865)) (fun _ h_ => h_.1))) (Kd.R_base ho1) hb); replace HO862 := am (Kd.R_elder' (by (with_reducible repeat (first | apply Kd.R_alloc | apply Kd.R_drewN | apply Kd.R_drew)); exact (Kd.R_mono (Kd.R_far (p := ⟨gb870, 5, none⟩) (Kd.R_far (p := ⟨gb870, 4, none⟩) (Kd.R_far (p := ⟨gb870, 3, none⟩) (Kd.R_far (p := ⟨gb870, 2, none⟩) (Kd.R_far (p := ⟨gb870, 1, none⟩) (Kd.R_far (p := ⟨gb870, 0, none⟩) (Kd.R_types HO862.out BK870.out (by decide)) (fun _ hk => hk.2) (.bool t856)) (fun _ hk => hk.2) (.slice Ao23 t857.length co23)) (fun _ hk => hk.2) (.slice Ao24 t860.length co24)) (fun _ hk => hk.2) (.int .i64 t863)) (fun _ hk => hk.2) (.int .i64 t864)) (fun _ hk => hk.2) (.int .i64 t865)) (fun _ h_ => h_.1))) (Kd.R_base ho1) hb); replace BK844 := am (blk_below (g := gb844) (o := .cells #[.bool a0_0, .slice A0_1 l0_1.length c0_1, .slice A0_2 l0_2.length c0_2, .int .i64 a0_3, .int .i64 a0_4, .int .i64 a0_5] 33 (0, 0)) (by (with_reducible repeat (first | refine blk_drewN ?_ _ | refine blk_drew ?_ | refine blk_alloc ?_ _)); refine blk_far ?_ NB844_870.out _; (with_reducible repeat (first | refine blk_drewN ?_ _ | refine blk_drew ?_ | refine blk_alloc ?_ _)); refine blk_far ?_ NB844_870.out _; (with_reducible repeat (first | refine blk_drewN ?_ _ | refine blk_drew ?_ | refine blk_alloc ?_ _)); refine blk_far ?_ NB844_870.out _; (with_reducible repeat (first | refine blk_drewN ?_ _ | refine blk_drew ?_ | refine blk_alloc ?_ _)); refine blk_far ?_ NB844_870.out _; (with_reducible repeat (first | refine blk_drewN ?_ _ | refine blk_drew ?_ | refine blk_alloc ?_ _)); refine blk_far ?_ NB844_870.out _; (with_reducible repeat (first | refine blk_drewN ?_ _ | refine blk_drew ?_ | refine blk_alloc ?_ _)); refine blk_far ?_ NB844_870.out _; exact pkK BK844.out) hb); replace BK870 := am (blk_below (g := gb870) (o := .cells #[.bool t856, .slice Ao23 t857.length co23, .slice Ao24 t860.length co24, .int .i64 t863, .int .i64 t864, .int .i64 t865] 38 (0, 0)) (by (with_reducible repeat (first | refine blk_drewN ?_ _ | refine blk_drew ?_ | refine blk_alloc ?_ _)); refine blk_put (cs := #[.bool t856, .slice Ao23 t857.length co23, .slice Ao24 t860.length co24, .int .i64 t863, .int .i64 t864, .int .i64 0]) ?_ 5 _ rfl; (with_reducible repeat (first | refine blk_drewN ?_ _ | refine blk_drew ?_ | refine blk_alloc ?_ _)); refine blk_put (cs := #[.bool t856, .slice Ao23 t857.length co23, .slice Ao24 t860.length co24, .int .i64 t863, .int .i64 0, .int .i64 0]) ?_ 4 _ rfl; (with_reducible repeat (first | refine blk_drewN ?_ _ | refine blk_drew ?_ | refine blk_alloc ?_ _)); refine blk_put (cs := #[.bool t856, .slice Ao23 t857.length co23, .slice Ao24 t860.length co24, .int .i64 0, .int .i64 0, .int .i64 0]) ?_ 3 _ rfl; (with_reducible repeat (first | refine blk_drewN ?_ _ | refine blk_drew ?_ | refine blk_alloc ?_ _)); refine blk_put (cs := #[.bool t856, .slice Ao23 t857.length co23, .slice none 0 0, .int .i64 0, .int .i64 0, .int .i64 0]) ?_ 2 _ rfl; (with_reducible repeat (first | refine blk_drewN ?_ _ | refine blk_drew ?_ | refine blk_alloc ?_ _)); refine blk_put (cs := #[.bool t856, .slice none 0 0, .slice none 0 0, .int .i64 0, .int .i64 0, .int .i64 0]) ?_ 1 _ rfl; (with_reducible repeat (first | refine blk_drewN ?_ _ | refine blk_drew ?_ | refine blk_alloc ?_ _)); refine blk_put (cs := #[.bool false, .slice none 0 0, .slice none 0 0, .int .i64 0, .int .i64 0, .int .i64 0]) ?_ 0 _ rfl; exact pkK BK870.out) hb); replace HB := am (below_step (pkW HB.out) hb); (try clear hb ho0 ho1)) | ((with_reducible refine gate_dst (N := 7) rfl ?_); refine box_event ?hg (N := 7) ?hd (cs := #[.bool false, .slice none 0 0, .slice none 0 0, .int .i64 0, .int .i64 0, .int .i64 0]) (t := 38) ?hr ?_; (case hd => rfl); (case hg => rfl); (case hr => first | (go_simp; done) | (go_simp; rfl)); intro gb881 hg w27 hbox hb; replace HO849 := am (Kd.R_below (pkR HO849.out) hb); replace HO852 := am (Kd.R_below (pkR HO852.out) hb); replace HO859 := am (Kd.R_below (pkR HO859.out) hb); replace HO862 := am (Kd.R_below (pkR HO862.out) hb); replace HO868 := am (Kd.R_below (pkR HO868.out) hb); replace HO874 := am (Kd.R_below (pkR HO874.out) hb); replace HO877 := am (Kd.R_below (pkR HO877.out) hb); have BK881 := am (hbox); have GW881 := am ((by rw [hg]; exact (below_size (pkW HB.out)) : w.heap.size ≤ gb881)); have GE881 := am ((by rw [hg]; exact (below_size (pkW HB.out)) : w.heap.size ≤ gb881)); replace HB := am (below_step (pkW HB.out) hb); have NB844_881 := am ((by rw [hg]; exact Nat.ne_of_lt (blk_lt (g := gb844) (o := .cells #[.bool a0_0, .slice A0_1 l0_1.length c0_1, .slice A0_2 l0_2.length c0_2, .int .i64 a0_3, .int .i64 a0_4, .int .i64 a0_5] 33 (0, 0)) (pkK BK844.out)) : gb844 ≠ gb881)); have NB881_844 := am ((by rw [hg]; exact Nat.ne_of_gt (blk_lt (g := gb844) (o := .cells #[.bool a0_0, .slice A0_1 l0_1.length c0_1, .slice A0_2 l0_2.length c0_2, .int .i64 a0_3, .int .i64 a0_4, .int .i64 a0_5] 33 (0, 0)) (pkK BK844.out)) : gb881 ≠ gb844)); replace BK844 := am (blk_below (pkK BK844.out) hb); have NB870_881 := am ((by rw [hg]; exact Nat.ne_of_lt (blk_lt (g := gb870) (o := .cells #[.bool t856, .slice Ao23 t857.length co23, .slice Ao24 t860.length co24, .int .i64 t863, .int .i64 t864, .int .i64 t865] 38 (0, 0)) (pkK BK870.out)) : gb870 ≠ gb881)); have NB881_870 := am ((by rw [hg]; exact Nat.ne_of_gt (blk_lt (g := gb870) (o := .cells #[.bool t856, .slice Ao23 t857.length co23, .slice Ao24 t860.length co24, .int .i64 t863, .int .i64 t864, .int .i64 t865] 38 (0, 0)) (pkK BK870.out)) : gb881 ≠ gb870)); replace BK870 := am (blk_below (pkK BK870.out) hb); clear hb hbox hg; have hnb28 := NB881_844.out; have hnc28 := NB844_881.out; have hnb29 := NB881_870.out; have hnc29 := NB870_881.out; obtain ⟨hcz30_0, hcz30_1, hcz30_2, hcz30_3, hcz30_4, hcz30_5, hfz30_0, hfz30_1, hfz30_2, hfz30_3, hfz30_4, hfz30_5⟩ := bk6 BK881.out; obtain ⟨Ao31, co31, eo31⟩ := Kd.R_slice HO874.out; subst eo31; obtain ⟨Ao32, co32, eo32⟩ := Kd.R_slice HO877.out; subst eo32) | ((with_reducible refine gate_callee (f := 33) rfl ?_); refine goesL_ (some 33) rfl rfl Try.func33 (by kernel_rfl) rfl #[.agg #[.bool t871, .slice Ao31 t872.length co31, .slice Ao32 t875.length co32, .int .i64 t878, .int .i64 t879, .int .i64 t880]] rfl mpx ?_; (with_reducible refine (impl_TellAll.calls k t871 _ _ t872 _ _ t875 t878 t879 t880 t882 t883 t886 t889 t890 t891 t892 t895 _ ?side1 ?side2 ?side3 ?side4 A10.out).mono ?_); (case side1 => refine (Kd.R_reads' (e := 3) (base := w.heap.size) (ok := fun k_ => (((True ∧ some k_ ≠ (.slice Ao17 t847.length co17 : Value).ownBlock) ∧ some k_ ≠ (.slice Ao23 t857.length co23 : Value).ownBlock) ∧ some k_ ≠ (v867 : Value).ownBlock)) (n := t872.length) (c := co31) ?_).2.2; exact (by (with_reducible repeat (first | apply Kd.R_alloc | apply Kd.R_drewN | apply Kd.R_drew)); exact (Kd.R_mono (Kd.R_far (p := ⟨gb881, 5, none⟩) (Kd.R_far (p := ⟨gb881, 4, none⟩) (Kd.R_far (p := ⟨gb881, 3, none⟩) (Kd.R_far (p := ⟨gb881, 2, none⟩) (Kd.R_far (p := ⟨gb881, 1, none⟩) (Kd.R_far (p := ⟨gb881, 0, none⟩) (Kd.R_types HO874.out BK881.out (by decide)) (fun _ hk => hk.2) (.bool t871)) (fun _ hk => hk.2) (.slice Ao31 t872.length co31)) (fun _ hk => hk.2) (.slice Ao32 t875.length co32)) (fun _ hk => hk.2) (.int .i64 t878)) (fun _ hk => hk.2) (.int .i64 t879)) (fun _ hk => hk.2) (.int .i64 t880)) (fun _ h_ => h_.1)))); (case side2 => exact (Kd.R_reads' HO874.out).2.1); (case side3 => refine (Kd.R_reads' (e := 67) (base := w.heap.size) (ok := fun k_ => ((True ∧ some k_ ≠ (.slice Ao18 t850.length co18 : Value).ownBlock) ∧ some k_ ≠ (.slice Ao24 t860.length co24 : Value).ownBlock)) (n := t875.length) (c := co32) ?_).2.2; exact (by (with_reducible repeat (first | apply Kd.R_alloc | apply Kd.R_drewN | apply Kd.R_drew)); exact (Kd.R_mono (Kd.R_far (p := ⟨gb881, 5, none⟩) (Kd.R_far (p := ⟨gb881, 4, none⟩) (Kd.R_far (p := ⟨gb881, 3, none⟩) (Kd.R_far (p := ⟨gb881, 2, none⟩) (Kd.R_far (p := ⟨gb881, 1, none⟩) (Kd.R_far (p := ⟨gb881, 0, none⟩) (Kd.R_types HO877.out BK881.out (by decide)) (fun _ hk => hk.2) (.bool t871)) (fun _ hk => hk.2) (.slice Ao31 t872.length co31)) (fun _ hk => hk.2) (.slice Ao32 t875.length co32)) (fun _ hk => hk.2) (.int .i64 t878)) (fun _ hk => hk.2) (.int .i64 t879)) (fun _ hk => hk.2) (.int .i64 t880)) (fun _ h_ => h_.1)))); (case side4 => exact (Kd.R_reads' HO877.out).2.1); rintro e w33 ⟨v884, v887, v893, rfl, ho0, ho1, ho2, hb⟩; refine ⟨_, rfl, ?_⟩; have HO885 := am (Kd.R_lower (Kd.R_new' (Kd.R_new' (Kd.R_new' (Kd.R_new' ho0 (Kd.R_lt (by (with_reducible repeat (first | apply Kd.R_alloc | apply Kd.R_drewN | apply Kd.R_drew)); exact (Kd.R_mono (Kd.R_far (p := ⟨gb881, 5, none⟩) (Kd.R_far (p := ⟨gb881, 4, none⟩) (Kd.R_far (p := ⟨gb881, 3, none⟩) (Kd.R_far (p := ⟨gb881, 2, none⟩) (Kd.R_far (p := ⟨gb881, 1, none⟩) (Kd.R_far (p := ⟨gb881, 0, none⟩) (Kd.R_types HO849.out BK881.out (by decide)) (fun _ hk => hk.2) (.bool t871)) (fun _ hk => hk.2) (.slice Ao31 t872.length co31)) (fun _ hk => hk.2) (.slice Ao32 t875.length co32)) (fun _ hk => hk.2) (.int .i64 t878)) (fun _ hk => hk.2) (.int .i64 t879)) (fun _ hk => hk.2) (.int .i64 t880)) (fun _ h_ => h_.1))))) (Kd.R_lt (by (with_reducible repeat (first | apply Kd.R_alloc | apply Kd.R_drewN | apply Kd.R_drew)); exact (Kd.R_mono (Kd.R_far (p := ⟨gb881, 5, none⟩) (Kd.R_far (p := ⟨gb881, 4, none⟩) (Kd.R_far (p := ⟨gb881, 3, none⟩) (Kd.R_far (p := ⟨gb881, 2, none⟩) (Kd.R_far (p := ⟨gb881, 1, none⟩) (Kd.R_far (p := ⟨gb881, 0, none⟩) (Kd.R_types HO859.out BK881.out (by decide)) (fun _ hk => hk.2) (.bool t871)) (fun _ hk => hk.2) (.slice Ao31 t872.length co31)) (fun _ hk => hk.2) (.slice Ao32 t875.length co32)) (fun _ hk => hk.2) (.int .i64 t878)) (fun _ hk => hk.2) (.int .i64 t879)) (fun _ hk => hk.2) (.int .i64 t880)) (fun _ h_ => h_.1))))) (Kd.R_lt (by (with_reducible repeat (first | apply Kd.R_alloc | apply Kd.R_drewN | apply Kd.R_drew)); exact (Kd.R_mono (Kd.R_far (p := ⟨gb881, 5, none⟩) (Kd.R_far (p := ⟨gb881, 4, none⟩) (Kd.R_far (p := ⟨gb881, 3, none⟩) (Kd.R_far (p := ⟨gb881, 2, none⟩) (Kd.R_far (p := ⟨gb881, 1, none⟩) (Kd.R_far (p := ⟨gb881, 0, none⟩) (Kd.R_types HO868.out BK881.out (by decide)) (fun _ hk => hk.2) (.bool t871)) (fun _ hk => hk.2) (.slice Ao31 t872.length co31)) (fun _ hk => hk.2) (.slice Ao32 t875.length co32)) (fun _ hk => hk.2) (.int .i64 t878)) (fun _ hk => hk.2) (.int .i64 t879)) (fun _ hk => hk.2) (.int .i64 t880)) (fun _ h_ => h_.1))))) (Kd.R_lt (by (with_reducible repeat (first | apply Kd.R_alloc | apply Kd.R_drewN | apply Kd.R_drew)); exact (Kd.R_mono (Kd.R_far (p := ⟨gb881, 5, none⟩) (Kd.R_far (p := ⟨gb881, 4, none⟩) (Kd.R_far (p := ⟨gb881, 3, none⟩) (Kd.R_far (p := ⟨gb881, 2, none⟩) (Kd.R_far (p := ⟨gb881, 1, none⟩) (Kd.R_far (p := ⟨gb881, 0, none⟩) (Kd.R_types HO874.out BK881.out (by decide)) (fun _ hk => hk.2) (.bool t871)) (fun _ hk => hk.2) (.slice Ao31 t872.length co31)) (fun _ hk => hk.2) (.slice Ao32 t875.length co32)) (fun _ hk => hk.2) (.int .i64 t878)) (fun _ hk => hk.2) (.int .i64 t879)) (fun _ hk => hk.2) (.int .i64 t880)) (fun _ h_ => h_.1))))) (below_size (pkW HB.out))); have HO888 := am (Kd.R_lower (Kd.R_new' (Kd.R_new' (Kd.R_new' ho1 (Kd.R_lt (by (with_reducible repeat (first | apply Kd.R_alloc | apply Kd.R_drewN | apply Kd.R_drew)); exact (Kd.R_mono (Kd.R_far (p := ⟨gb881, 5, none⟩) (Kd.R_far (p := ⟨gb881, 4, none⟩) (Kd.R_far (p := ⟨gb881, 3, none⟩) (Kd.R_far (p := ⟨gb881, 2, none⟩) (Kd.R_far (p := ⟨gb881, 1, none⟩) (Kd.R_far (p := ⟨gb881, 0, none⟩) (Kd.R_types HO852.out BK881.out (by decide)) (fun _ hk => hk.2) (.bool t871)) (fun _ hk => hk.2) (.slice Ao31 t872.length co31)) (fun _ hk => hk.2) (.slice Ao32 t875.length co32)) (fun _ hk => hk.2) (.int .i64 t878)) (fun _ hk => hk.2) (.int .i64 t879)) (fun _ hk => hk.2) (.int .i64 t880)) (fun _ h_ => h_.1))))) (Kd.R_lt (by (with_reducible repeat (first | apply Kd.R_alloc | apply Kd.R_drewN | apply Kd.R_drew)); exact (Kd.R_mono (Kd.R_far (p := ⟨gb881, 5, none⟩) (Kd.R_far (p := ⟨gb881, 4, none⟩) (Kd.R_far (p := ⟨gb881, 3, none⟩) (Kd.R_far (p := ⟨gb881, 2, none⟩) (Kd.R_far (p := ⟨gb881, 1, none⟩) (Kd.R_far (p := ⟨gb881, 0, none⟩) (Kd.R_types HO862.out BK881.out (by decide)) (fun _ hk => hk.2) (.bool t871)) (fun _ hk => hk.2) (.slice Ao31 t872.length co31)) (fun _ hk => hk.2) (.slice Ao32 t875.length co32)) (fun _ hk => hk.2) (.int .i64 t878)) (fun _ hk => hk.2) (.int .i64 t879)) (fun _ hk => hk.2) (.int .i64 t880)) (fun _ h_ => h_.1))))) (Kd.R_lt (by (with_reducible repeat (first | apply Kd.R_alloc | apply Kd.R_drewN | apply Kd.R_drew)); exact (Kd.R_mono (Kd.R_far (p := ⟨gb881, 5, none⟩) (Kd.R_far (p := ⟨gb881, 4, none⟩) (Kd.R_far (p := ⟨gb881, 3, none⟩) (Kd.R_far (p := ⟨gb881, 2, none⟩) (Kd.R_far (p := ⟨gb881, 1, none⟩) (Kd.R_far (p := ⟨gb881, 0, none⟩) (Kd.R_types HO877.out BK881.out (by decide)) (fun _ hk => hk.2) (.bool t871)) (fun _ hk => hk.2) (.slice Ao31 t872.length co31)) (fun _ hk => hk.2) (.slice Ao32 t875.length co32)) (fun _ hk => hk.2) (.int .i64 t878)) (fun _ hk => hk.2) (.int .i64 t879)) (fun _ hk => hk.2) (.int .i64 t880)) (fun _ h_ => h_.1))))) (below_size (pkW HB.out))); replace HO852 := am (Kd.R_elder' (by (with_reducible repeat (first | apply Kd.R_alloc | apply Kd.R_drewN | apply Kd.R_drew)); exact (Kd.R_mono (Kd.R_far (p := ⟨gb881, 5, none⟩) (Kd.R_far (p := ⟨gb881, 4, none⟩) (Kd.R_far (p := ⟨gb881, 3, none⟩) (Kd.R_far (p := ⟨gb881, 2, none⟩) (Kd.R_far (p := ⟨gb881, 1, none⟩) (Kd.R_far (p := ⟨gb881, 0, none⟩) (Kd.R_types HO852.out BK881.out (by decide)) (fun _ hk => hk.2) (.bool t871)) (fun _ hk => hk.2) (.slice Ao31 t872.length co31)) (fun _ hk => hk.2) (.slice Ao32 t875.length co32)) (fun _ hk => hk.2) (.int .i64 t878)) (fun _ hk => hk.2) (.int .i64 t879)) (fun _ hk => hk.2) (.int .i64 t880)) (fun _ h_ => h_.1))) (Kd.R_base ho1) hb); replace HO862 := am (Kd.R_elder' (by (with_reducible repeat (first | apply Kd.R_alloc | apply Kd.R_drewN | apply Kd.R_drew)); exact (Kd.R_mono (Kd.R_far (p := ⟨gb881, 5, none⟩) (Kd.R_far (p := ⟨gb881, 4, none⟩) (Kd.R_far (p := ⟨gb881, 3, none⟩) (Kd.R_far (p := ⟨gb881, 2, none⟩) (Kd.R_far (p := ⟨gb881, 1, none⟩) (Kd.R_far (p := ⟨gb881, 0, none⟩) (Kd.R_types HO862.out BK881.out (by decide)) (fun _ hk => hk.2) (.bool t871)) (fun _ hk => hk.2) (.slice Ao31 t872.length co31)) (fun _ hk => hk.2) (.slice Ao32 t875.length co32)) (fun _ hk => hk.2) (.int .i64 t878)) (fun _ hk => hk.2) (.int .i64 t879)) (fun _ hk => hk.2) (.int .i64 t880)) (fun _ h_ => h_.1))) (Kd.R_base ho1) hb); replace HO877 := am (Kd.R_elder' (by (with_reducible repeat (first | apply Kd.R_alloc | apply Kd.R_drewN | apply Kd.R_drew)); exact (Kd.R_mono (Kd.R_far (p := ⟨gb881, 5, none⟩) (Kd.R_far (p := ⟨gb881, 4, none⟩) (Kd.R_far (p := ⟨gb881, 3, none⟩) (Kd.R_far (p := ⟨gb881, 2, none⟩) (Kd.R_far (p := ⟨gb881, 1, none⟩) (Kd.R_far (p := ⟨gb881, 0, none⟩) (Kd.R_types HO877.out BK881.out (by decide)) (fun _ hk => hk.2) (.bool t871)) (fun _ hk => hk.2) (.slice Ao31 t872.length co31)) (fun _ hk => hk.2) (.slice Ao32 t875.length co32)) (fun _ hk => hk.2) (.int .i64 t878)) (fun _ hk => hk.2) (.int .i64 t879)) (fun _ hk => hk.2) (.int .i64 t880)) (fun _ h_ => h_.1))) (Kd.R_base ho1) hb); have HO894 := am (Kd.R_lower (Kd.R_new' (Kd.R_new' (Kd.R_new' (Kd.R_new' ho2 (Kd.R_lt (by (with_reducible repeat (first | apply Kd.R_alloc | apply Kd.R_drewN | apply Kd.R_drew)); exact (Kd.R_mono (Kd.R_far (p := ⟨gb881, 5, none⟩) (Kd.R_far (p := ⟨gb881, 4, none⟩) (Kd.R_far (p := ⟨gb881, 3, none⟩) (Kd.R_far (p := ⟨gb881, 2, none⟩) (Kd.R_far (p := ⟨gb881, 1, none⟩) (Kd.R_far (p := ⟨gb881, 0, none⟩) (Kd.R_types HO849.out BK881.out (by decide)) (fun _ hk => hk.2) (.bool t871)) (fun _ hk => hk.2) (.slice Ao31 t872.length co31)) (fun _ hk => hk.2) (.slice Ao32 t875.length co32)) (fun _ hk => hk.2) (.int .i64 t878)) (fun _ hk => hk.2) (.int .i64 t879)) (fun _ hk => hk.2) (.int .i64 t880)) (fun _ h_ => h_.1))))) (Kd.R_lt (by (with_reducible repeat (first | apply Kd.R_alloc | apply Kd.R_drewN | apply Kd.R_drew)); exact (Kd.R_mono (Kd.R_far (p := ⟨gb881, 5, none⟩) (Kd.R_far (p := ⟨gb881, 4, none⟩) (Kd.R_far (p := ⟨gb881, 3, none⟩) (Kd.R_far (p := ⟨gb881, 2, none⟩) (Kd.R_far (p := ⟨gb881, 1, none⟩) (Kd.R_far (p := ⟨gb881, 0, none⟩) (Kd.R_types HO859.out BK881.out (by decide)) (fun _ hk => hk.2) (.bool t871)) (fun _ hk => hk.2) (.slice Ao31 t872.length co31)) (fun _ hk => hk.2) (.slice Ao32 t875.length co32)) (fun _ hk => hk.2) (.int .i64 t878)) (fun _ hk => hk.2) (.int .i64 t879)) (fun _ hk => hk.2) (.int .i64 t880)) (fun _ h_ => h_.1))))) (Kd.R_lt (by (with_reducible repeat (first | apply Kd.R_alloc | apply Kd.R_drewN | apply Kd.R_drew)); exact (Kd.R_mono (Kd.R_far (p := ⟨gb881, 5, none⟩) (Kd.R_far (p := ⟨gb881, 4, none⟩) (Kd.R_far (p := ⟨gb881, 3, none⟩) (Kd.R_far (p := ⟨gb881, 2, none⟩) (Kd.R_far (p := ⟨gb881, 1, none⟩) (Kd.R_far (p := ⟨gb881, 0, none⟩) (Kd.R_types HO868.out BK881.out (by decide)) (fun _ hk => hk.2) (.bool t871)) (fun _ hk => hk.2) (.slice Ao31 t872.length co31)) (fun _ hk => hk.2) (.slice Ao32 t875.length co32)) (fun _ hk => hk.2) (.int .i64 t878)) (fun _ hk => hk.2) (.int .i64 t879)) (fun _ hk => hk.2) (.int .i64 t880)) (fun _ h_ => h_.1))))) (Kd.R_lt (by (with_reducible repeat (first | apply Kd.R_alloc | apply Kd.R_drewN | apply Kd.R_drew)); exact (Kd.R_mono (Kd.R_far (p := ⟨gb881, 5, none⟩) (Kd.R_far (p := ⟨gb881, 4, none⟩) (Kd.R_far (p := ⟨gb881, 3, none⟩) (Kd.R_far (p := ⟨gb881, 2, none⟩) (Kd.R_far (p := ⟨gb881, 1, none⟩) (Kd.R_far (p := ⟨gb881, 0, none⟩) (Kd.R_types HO874.out BK881.out (by decide)) (fun _ hk => hk.2) (.bool t871)) (fun _ hk => hk.2) (.slice Ao31 t872.length co31)) (fun _ hk => hk.2) (.slice Ao32 t875.length co32)) (fun _ hk => hk.2) (.int .i64 t878)) (fun _ hk => hk.2) (.int .i64 t879)) (fun _ hk => hk.2) (.int .i64 t880)) (fun _ h_ => h_.1))))) (below_size (pkW HB.out))); replace HO849 := am (Kd.R_mono (Kd.R_told (Kd.R_told (Kd.R_old (by (with_reducible repeat (first | apply Kd.R_alloc | apply Kd.R_drewN | apply Kd.R_drew)); exact (Kd.R_mono (Kd.R_far (p := ⟨gb881, 5, none⟩) (Kd.R_far (p := ⟨gb881, 4, none⟩) (Kd.R_far (p := ⟨gb881, 3, none⟩) (Kd.R_far (p := ⟨gb881, 2, none⟩) (Kd.R_far (p := ⟨gb881, 1, none⟩) (Kd.R_far (p := ⟨gb881, 0, none⟩) (Kd.R_types HO849.out BK881.out (by decide)) (fun _ hk => hk.2) (.bool t871)) (fun _ hk => hk.2) (.slice Ao31 t872.length co31)) (fun _ hk => hk.2) (.slice Ao32 t875.length co32)) (fun _ hk => hk.2) (.int .i64 t878)) (fun _ hk => hk.2) (.int .i64 t879)) (fun _ hk => hk.2) (.int .i64 t880)) (fun _ h_ => h_.1))) hb) (Kd.R_base ho0)) (Kd.R_base ho2)) (fun _ h_ => h_.1)); replace HO859 := am (Kd.R_mono (Kd.R_told (Kd.R_told (Kd.R_old (by (with_reducible repeat (first | apply Kd.R_alloc | apply Kd.R_drewN | apply Kd.R_drew)); exact (Kd.R_mono (Kd.R_far (p := ⟨gb881, 5, none⟩) (Kd.R_far (p := ⟨gb881, 4, none⟩) (Kd.R_far (p := ⟨gb881, 3, none⟩) (Kd.R_far (p := ⟨gb881, 2, none⟩) (Kd.R_far (p := ⟨gb881, 1, none⟩) (Kd.R_far (p := ⟨gb881, 0, none⟩) (Kd.R_types HO859.out BK881.out (by decide)) (fun _ hk => hk.2) (.bool t871)) (fun _ hk => hk.2) (.slice Ao31 t872.length co31)) (fun _ hk => hk.2) (.slice Ao32 t875.length co32)) (fun _ hk => hk.2) (.int .i64 t878)) (fun _ hk => hk.2) (.int .i64 t879)) (fun _ hk => hk.2) (.int .i64 t880)) (fun _ h_ => h_.1))) hb) (Kd.R_base ho0)) (Kd.R_base ho2)) (fun _ h_ => h_.1)); replace HO868 := am (Kd.R_mono (Kd.R_told (Kd.R_told (Kd.R_old (by (with_reducible repeat (first | apply Kd.R_alloc | apply Kd.R_drewN | apply Kd.R_drew)); exact (Kd.R_mono (Kd.R_far (p := ⟨gb881, 5, none⟩) (Kd.R_far (p := ⟨gb881, 4, none⟩) (Kd.R_far (p := ⟨gb881, 3, none⟩) (Kd.R_far (p := ⟨gb881, 2, none⟩) (Kd.R_far (p := ⟨gb881, 1, none⟩) (Kd.R_far (p := ⟨gb881, 0, none⟩) (Kd.R_types HO868.out BK881.out (by decide)) (fun _ hk => hk.2) (.bool t871)) (fun _ hk => hk.2) (.slice Ao31 t872.length co31)) (fun _ hk => hk.2) (.slice Ao32 t875.length co32)) (fun _ hk => hk.2) (.int .i64 t878)) (fun _ hk => hk.2) (.int .i64 t879)) (fun _ hk => hk.2) (.int .i64 t880)) (fun _ h_ => h_.1))) hb) (Kd.R_base ho0)) (Kd.R_base ho2)) (fun _ h_ => h_.1)); replace HO874 := am (Kd.R_mono (Kd.R_told (Kd.R_told (Kd.R_old (by (with_reducible repeat (first | apply Kd.R_alloc | apply Kd.R_drewN | apply Kd.R_drew)); exact (Kd.R_mono (Kd.R_far (p := ⟨gb881, 5, none⟩) (Kd.R_far (p := ⟨gb881, 4, none⟩) (Kd.R_far (p := ⟨gb881, 3, none⟩) (Kd.R_far (p := ⟨gb881, 2, none⟩) (Kd.R_far (p := ⟨gb881, 1, none⟩) (Kd.R_far (p := ⟨gb881, 0, none⟩) (Kd.R_types HO874.out BK881.out (by decide)) (fun _ hk => hk.2) (.bool t871)) (fun _ hk => hk.2) (.slice Ao31 t872.length co31)) (fun _ hk => hk.2) (.slice Ao32 t875.length co32)) (fun _ hk => hk.2) (.int .i64 t878)) (fun _ hk => hk.2) (.int .i64 t879)) (fun _ hk => hk.2) (.int .i64 t880)) (fun _ h_ => h_.1))) hb) (Kd.R_base ho0)) (Kd.R_base ho2)) (fun _ h_ => h_.1)); replace BK844 := am (blk_below (g := gb844) (o := .cells #[.bool a0_0, .slice A0_1 l0_1.length c0_1, .slice A0_2 l0_2.length c0_2, .int .i64 a0_3, .int .i64 a0_4, .int .i64 a0_5] 33 (0, 0)) (by (with_reducible repeat (first | refine blk_drewN ?_ _ | refine blk_drew ?_ | refine blk_alloc ?_ _)); refine blk_far ?_ NB844_881.out _; (with_reducible repeat (first | refine blk_drewN ?_ _ | refine blk_drew ?_ | refine blk_alloc ?_ _)); refine blk_far ?_ NB844_881.out _; (with_reducible repeat (first | refine blk_drewN ?_ _ | refine blk_drew ?_ | refine blk_alloc ?_ _)); refine blk_far ?_ NB844_881.out _; (with_reducible repeat (first | refine blk_drewN ?_ _ | refine blk_drew ?_ | refine blk_alloc ?_ _)); refine blk_far ?_ NB844_881.out _; (with_reducible repeat (first | refine blk_drewN ?_ _ | refine blk_drew ?_ | refine blk_alloc ?_ _)); refine blk_far ?_ NB844_881.out _; (with_reducible repeat (first | refine blk_drewN ?_ _ | refine blk_drew ?_ | refine blk_alloc ?_ _)); refine blk_far ?_ NB844_881.out _; exact pkK BK844.out) hb); replace BK870 := am (blk_below (g := gb870) (o := .cells #[.bool t856, .slice Ao23 t857.length co23, .slice Ao24 t860.length co24, .int .i64 t863, .int .i64 t864, .int .i64 t865] 38 (0, 0)) (by (with_reducible repeat (first | refine blk_drewN ?_ _ | refine blk_drew ?_ | refine blk_alloc ?_ _)); refine blk_far ?_ NB870_881.out _; (with_reducible repeat (first | refine blk_drewN ?_ _ | refine blk_drew ?_ | refine blk_alloc ?_ _)); refine blk_far ?_ NB870_881.out _; (with_reducible repeat (first | refine blk_drewN ?_ _ | refine blk_drew ?_ | refine blk_alloc ?_ _)); refine blk_far ?_ NB870_881.out _; (with_reducible repeat (first | refine blk_drewN ?_ _ | refine blk_drew ?_ | refine blk_alloc ?_ _)); refine blk_far ?_ NB870_881.out _; (with_reducible repeat (first | refine blk_drewN ?_ _ | refine blk_drew ?_ | refine blk_alloc ?_ _)); refine blk_far ?_ NB870_881.out _; (with_reducible repeat (first | refine blk_drewN ?_ _ | refine blk_drew ?_ | refine blk_alloc ?_ _)); refine blk_far ?_ NB870_881.out _; exact pkK BK870.out) hb); replace BK881 := am (blk_below (g := gb881) (o := .cells #[.bool t871, .slice Ao31 t872.length co31, .slice Ao32 t875.length co32, .int .i64 t878, .int .i64 t879, .int .i64 t880] 38 (0, 0)) (by (with_reducible repeat (first | refine blk_drewN ?_ _ | refine blk_drew ?_ | refine blk_alloc ?_ _)); refine blk_put (cs := #[.bool t871, .slice Ao31 t872.length co31, .slice Ao32 t875.length co32, .int .i64 t878, .int .i64 t879, .int .i64 0]) ?_ 5 _ rfl; (with_reducible repeat (first | refine blk_drewN ?_ _ | refine blk_drew ?_ | refine blk_alloc ?_ _)); refine blk_put (cs := #[.bool t871, .slice Ao31 t872.length co31, .slice Ao32 t875.length co32, .int .i64 t878, .int .i64 0, .int .i64 0]) ?_ 4 _ rfl; (with_reducible repeat (first | refine blk_drewN ?_ _ | refine blk_drew ?_ | refine blk_alloc ?_ _)); refine blk_put (cs := #[.bool t871, .slice Ao31 t872.length co31, .slice Ao32 t875.length co32, .int .i64 0, .int .i64 0, .int .i64 0]) ?_ 3 _ rfl; (with_reducible repeat (first | refine blk_drewN ?_ _ | refine blk_drew ?_ | refine blk_alloc ?_ _)); refine blk_put (cs := #[.bool t871, .slice Ao31 t872.length co31, .slice none 0 0, .int .i64 0, .int .i64 0, .int .i64 0]) ?_ 2 _ rfl; (with_reducible repeat (first | refine blk_drewN ?_ _ | refine blk_drew ?_ | refine blk_alloc ?_ _)); refine blk_put (cs := #[.bool t871, .slice none 0 0, .slice none 0 0, .int .i64 0, .int .i64 0, .int .i64 0]) ?_ 1 _ rfl; (with_reducible repeat (first | refine blk_drewN ?_ _ | refine blk_drew ?_ | refine blk_alloc ?_ _)); refine blk_put (cs := #[.bool false, .slice none 0 0, .slice none 0 0, .int .i64 0, .int .i64 0, .int .i64 0]) ?_ 0 _ rfl; exact pkK BK881.out) hb); replace HB := am (below_step (pkW HB.out) hb); (try clear hb ho0 ho1 ho2)) | ((with_reducible refine gate_dst (N := 8) rfl ?_); refine box_event ?hg (N := 8) ?hd (cs := #[.bool false, .slice none 0 0, .slice none 0 0, .int .i64 0, .int .i64 0, .int .i64 0]) (t := 38) ?hr ?_; (case hd => rfl); (case hg => rfl); (case hr => first | (go_simp; done) | (go_simp; rfl)); intro gb896 hg w34 hbox hb; replace HO849 := am (Kd.R_below (pkR HO849.out) hb); replace HO852 := am (Kd.R_below (pkR HO852.out) hb); replace HO859 := am (Kd.R_below (pkR HO859.out) hb); replace HO862 := am (Kd.R_below (pkR HO862.out) hb); replace HO868 := am (Kd.R_below (pkR HO868.out) hb); replace HO874 := am (Kd.R_below (pkR HO874.out) hb); replace HO877 := am (Kd.R_below (pkR HO877.out) hb); replace HO885 := am (Kd.R_below (pkR HO885.out) hb); replace HO888 := am (Kd.R_below (pkR HO888.out) hb); replace HO894 := am (Kd.R_below (pkR HO894.out) hb); have BK896 := am (hbox); have GW896 := am ((by rw [hg]; exact (below_size (pkW HB.out)) : w.heap.size ≤ gb896)); have GE896 := am ((by rw [hg]; exact (below_size (pkW HB.out)) : w.heap.size ≤ gb896)); replace HB := am (below_step (pkW HB.out) hb); have NB844_896 := am ((by rw [hg]; exact Nat.ne_of_lt (blk_lt (g := gb844) (o := .cells #[.bool a0_0, .slice A0_1 l0_1.length c0_1, .slice A0_2 l0_2.length c0_2, .int .i64 a0_3, .int .i64 a0_4, .int .i64 a0_5] 33 (0, 0)) (pkK BK844.out)) : gb844 ≠ gb896)); have NB896_844 := am ((by rw [hg]; exact Nat.ne_of_gt (blk_lt (g := gb844) (o := .cells #[.bool a0_0, .slice A0_1 l0_1.length c0_1, .slice A0_2 l0_2.length c0_2, .int .i64 a0_3, .int .i64 a0_4, .int .i64 a0_5] 33 (0, 0)) (pkK BK844.out)) : gb896 ≠ gb844)); replace BK844 := am (blk_below (pkK BK844.out) hb); have NB870_896 := am ((by rw [hg]; exact Nat.ne_of_lt (blk_lt (g := gb870) (o := .cells #[.bool t856, .slice Ao23 t857.length co23, .slice Ao24 t860.length co24, .int .i64 t863, .int .i64 t864, .int .i64 t865] 38 (0, 0)) (pkK BK870.out)) : gb870 ≠ gb896)); have NB896_870 := am ((by rw [hg]; exact Nat.ne_of_gt (blk_lt (g := gb870) (o := .cells #[.bool t856, .slice Ao23 t857.length co23, .slice Ao24 t860.length co24, .int .i64 t863, .int .i64 t864, .int .i64 t865] 38 (0, 0)) (pkK BK870.out)) : gb896 ≠ gb870)); replace BK870 := am (blk_below (pkK BK870.out) hb); have NB881_896 := am ((by rw [hg]; exact Nat.ne_of_lt (blk_lt (g := gb881) (o := .cells #[.bool t871, .slice Ao31 t872.length co31, .slice Ao32 t875.length co32, .int .i64 t878, .int .i64 t879, .int .i64 t880] 38 (0, 0)) (pkK BK881.out)) : gb881 ≠ gb896)); have NB896_881 := am ((by rw [hg]; exact Nat.ne_of_gt (blk_lt (g := gb881) (o := .cells #[.bool t871, .slice Ao31 t872.length co31, .slice Ao32 t875.length co32, .int .i64 t878, .int .i64 t879, .int .i64 t880] 38 (0, 0)) (pkK BK881.out)) : gb896 ≠ gb881)); replace BK881 := am (blk_below (pkK BK881.out) hb); clear hb hbox hg; have hnb35 := NB896_844.out; have hnc35 := NB844_896.out; have hnb36 := NB896_870.out; have hnc36 := NB870_896.out; have hnb37 := NB896_881.out; have hnc37 := NB881_896.out; obtain ⟨hcz38_0, hcz38_1, hcz38_2, hcz38_3, hcz38_4, hcz38_5, hfz38_0, hfz38_1, hfz38_2, hfz38_3, hfz38_4, hfz38_5⟩ := bk6 BK896.out; obtain ⟨Ao39, co39, eo39⟩ := Kd.R_slice HO885.out; subst eo39; obtain ⟨Ao40, co40, eo40⟩ := Kd.R_slice HO888.out; subst eo40))
  (try simp only [Act.put, List.setIfInBounds_toArray, List.set_cons_zero, List.set_cons_succ])
  go_cut [51] (fun v51 wc => ∃ (kq : Nat) (x51_10 : Bool), v51 = .bool x51_10 ∧ Aside0 (laws_FnExactTellAll.j0 kq t866 t869 t892 t895 x51_10 a0_0 l0_1 l0_2 a0_3 a0_4 a0_5 t856 t857 t860 t863 t864 t865 t871 t872 t875 t878 t879 t880 t882 t883 t886 t889 t890 t891 = some r) ∧ Aside0 (kq ≤ k) ∧ Aside0 (Kd.R (Kd.int .i64) 3 wc w.heap.size (fun k_ => some k_ ≠ (v893 : Value).ownBlock ∧ some k_ ≠ ((.slice Ao23 t857.length co23) : Value).ownBlock ∧ some k_ ≠ ((.slice Ao31 t872.length co31) : Value).ownBlock ∧ some k_ ≠ ((.slice Ao39 t883.length co39) : Value).ownBlock) v867 t866) ∧ Aside0 (Kd.Q (Kd.int .i64) 3 wc w.heap.size (fun k_ => some k_ ≠ (v867 : Value).ownBlock ∧ some k_ ≠ ((.slice Ao23 t857.length co23) : Value).ownBlock ∧ some k_ ≠ ((.slice Ao31 t872.length co31) : Value).ownBlock ∧ some k_ ≠ ((.slice Ao39 t883.length co39) : Value).ownBlock) v893 t892) ∧ Aside0 (Kd.R (Kd.int .i64) 3 wc w.heap.size (fun k_ => some k_ ≠ (v867 : Value).ownBlock ∧ some k_ ≠ (v893 : Value).ownBlock ∧ some k_ ≠ ((.slice Ao31 t872.length co31) : Value).ownBlock ∧ some k_ ≠ ((.slice Ao39 t883.length co39) : Value).ownBlock) (.slice Ao23 t857.length co23) t857) ∧ Aside0 (Kd.R k67 67 wc w.heap.size (fun k_ => some k_ ≠ ((.slice Ao32 t875.length co32) : Value).ownBlock ∧ some k_ ≠ ((.slice Ao40 t886.length co40) : Value).ownBlock) (.slice Ao24 t860.length co24) t860) ∧ Aside0 (Kd.Q (Kd.int .i64) 3 wc w.heap.size (fun k_ => some k_ ≠ (v867 : Value).ownBlock ∧ some k_ ≠ (v893 : Value).ownBlock ∧ some k_ ≠ ((.slice Ao23 t857.length co23) : Value).ownBlock ∧ some k_ ≠ ((.slice Ao39 t883.length co39) : Value).ownBlock) (.slice Ao31 t872.length co31) t872) ∧ Aside0 (Kd.R k67 67 wc w.heap.size (fun k_ => some k_ ≠ ((.slice Ao24 t860.length co24) : Value).ownBlock ∧ some k_ ≠ ((.slice Ao40 t886.length co40) : Value).ownBlock) (.slice Ao32 t875.length co32) t875) ∧ Aside0 (Kd.Q (Kd.int .i64) 3 wc w.heap.size (fun k_ => some k_ ≠ (v867 : Value).ownBlock ∧ some k_ ≠ (v893 : Value).ownBlock ∧ some k_ ≠ ((.slice Ao23 t857.length co23) : Value).ownBlock ∧ some k_ ≠ ((.slice Ao31 t872.length co31) : Value).ownBlock) (.slice Ao39 t883.length co39) t883) ∧ Aside0 (Kd.R k67 67 wc w.heap.size (fun k_ => some k_ ≠ ((.slice Ao24 t860.length co24) : Value).ownBlock ∧ some k_ ≠ ((.slice Ao32 t875.length co32) : Value).ownBlock) (.slice Ao40 t886.length co40) t886) ∧ Aside0 (wc.heap[gb844]? = some (.cells #[.bool a0_0, (.slice A0_1 l0_1.length c0_1), (.slice A0_2 l0_2.length c0_2), .int .i64 a0_3, .int .i64 a0_4, .int .i64 a0_5] 33 (0, 0))) ∧ Aside0 (wc.heap[gb870]? = some (.cells #[.bool t856, (.slice Ao23 t857.length co23), (.slice Ao24 t860.length co24), .int .i64 t863, .int .i64 t864, .int .i64 t865] 38 (0, 0))) ∧ Aside0 (wc.heap[gb881]? = some (.cells #[.bool t871, (.slice Ao31 t872.length co31), (.slice Ao32 t875.length co32), .int .i64 t878, .int .i64 t879, .int .i64 t880] 38 (0, 0))) ∧ Aside0 (wc.heap[gb896]? = some (.cells #[.bool t882, (.slice Ao39 t883.length co39), (.slice Ao40 t886.length co40), .int .i64 t889, .int .i64 t890, .int .i64 t891] 38 (0, 0))) ∧ Aside0 (Below w.heap.size w wc))
  case first =>
   have H := HC11.out
   clear HC11
   replace H := Option.bind_eq_some_iff.mp H
   obtain ⟨t897, A410, H⟩ := H
   replace H : (if t897 = true then ((laws_eqIntS.f k t892 t866).bind fun t898 => (if t898 = true then (laws_FnExactTellAll.j0 k t866 t869 t892 t895 (t895 != t869) a0_0 l0_1 l0_2 a0_3 a0_4 a0_5 t856 t857 t860 t863 t864 t865 t871 t872 t875 t878 t879 t880 t882 t883 t886 t889 t890 t891) else (laws_FnExactTellAll.j0 k t866 t869 t892 t895 true a0_0 l0_1 l0_2 a0_3 a0_4 a0_5 t856 t857 t860 t863 t864 t865 t871 t872 t875 t878 t879 t880 t882 t883 t886 t889 t890 t891))) else (laws_FnExactTellAll.j0 k t866 t869 t892 t895 true a0_0 l0_1 l0_2 a0_3 a0_4 a0_5 t856 t857 t860 t863 t864 t865 t871 t872 t875 t878 t879 t880 t882 t883 t886 t889 t890 t891)) = some r := H
   have A41 := am A410
   clear A410
   by_cases c42 : t897 = true
   ·subst c42
    replace H : ((laws_eqIntS.f k t892 t866).bind fun t898 => (if t898 = true then (laws_FnExactTellAll.j0 k t866 t869 t892 t895 (t895 != t869) a0_0 l0_1 l0_2 a0_3 a0_4 a0_5 t856 t857 t860 t863 t864 t865 t871 t872 t875 t878 t879 t880 t882 t883 t886 t889 t890 t891) else (laws_FnExactTellAll.j0 k t866 t869 t892 t895 true a0_0 l0_1 l0_2 a0_3 a0_4 a0_5 t856 t857 t860 t863 t864 t865 t871 t872 t875 t878 t879 t880 t882 t883 t886 t889 t890 t891))) = some r := by rw [if_pos rfl] at H; exact H
    replace H := Option.bind_eq_some_iff.mp H
    obtain ⟨t898, A430, H⟩ := H
    replace H : (if t898 = true then (laws_FnExactTellAll.j0 k t866 t869 t892 t895 (t895 != t869) a0_0 l0_1 l0_2 a0_3 a0_4 a0_5 t856 t857 t860 t863 t864 t865 t871 t872 t875 t878 t879 t880 t882 t883 t886 t889 t890 t891) else (laws_FnExactTellAll.j0 k t866 t869 t892 t895 true a0_0 l0_1 l0_2 a0_3 a0_4 a0_5 t856 t857 t860 t863 t864 t865 t871 t872 t875 t878 t879 t880 t882 t883 t886 t889 t890 t891)) = some r := H
    have A43 := am A430
    clear A430
    by_cases c44 : t898 = true
    ·subst c44
     replace H : (laws_FnExactTellAll.j0 k t866 t869 t892 t895 (t895 != t869) a0_0 l0_1 l0_2 a0_3 a0_4 a0_5 t856 t857 t860 t863 t864 t865 t871 t872 t875 t878 t879 t880 t882 t883 t886 t889 t890 t891) = some r := by rw [if_pos rfl] at H; exact H
     have H' := am H
     clear H
     have hnb45 := NB896_844.out
     have hnc45 := NB844_896.out
     have hnb46 := NB896_870.out
     have hnc46 := NB870_896.out
     have hnb47 := NB896_881.out
     have hnc47 := NB881_896.out
     obtain ⟨hcz48_0, hcz48_1, hcz48_2, hcz48_3, hcz48_4, hcz48_5, hfz48_0, hfz48_1, hfz48_2, hfz48_3, hfz48_4, hfz48_5⟩ := bk6 BK896.out
     have hnb49 := NB870_844.out
     have hnc49 := NB844_870.out
     have hnb50 := NB870_881.out
     have hnc50 := NB881_870.out
     obtain ⟨hcz51_0, hcz51_1, hcz51_2, hcz51_3, hcz51_4, hcz51_5, hfz51_0, hfz51_1, hfz51_2, hfz51_3, hfz51_4, hfz51_5⟩ := bk6 BK870.out
     go_wp2_with (first | ((with_reducible refine gate_callee (f := 23) rfl ?_); refine goesL_ (some 39) rfl rfl Try.func23 (by kernel_rfl) rfl #[.agg #[.bool t882, .slice Ao39 t883.length co39, .slice Ao40 t886.length co40, .int .i64 t889, .int .i64 t890, .int .i64 t891], .agg #[.bool t856, .slice Ao23 t857.length co23, .slice Ao24 t860.length co24, .int .i64 t863, .int .i64 t864, .int .i64 t865]] rfl mpx ?_; (with_reducible refine (laws_eqNotify.calls k t882 _ _ t883 _ _ t886 t889 t890 t891 t856 _ _ t857 _ _ t860 t863 t864 t865 true _ ?side1 ?side2 ?side3 ?side4 ?side5 ?side6 ?side7 ?side8 A41.out).mono ?_); (case side1 => refine (Kd.R_reads' (e := 3) (base := w.heap.size) (ok := fun k_ => ((((some k_ ≠ (v893 : Value).ownBlock ∧ some k_ ≠ (.slice Ao17 t847.length co17 : Value).ownBlock) ∧ some k_ ≠ (.slice Ao23 t857.length co23 : Value).ownBlock) ∧ some k_ ≠ (v867 : Value).ownBlock) ∧ some k_ ≠ (.slice Ao31 t872.length co31 : Value).ownBlock)) (n := t883.length) (c := co39) ?_).2.2; exact (by (with_reducible repeat (first | apply Kd.R_alloc | apply Kd.R_drewN | apply Kd.R_drew)); exact (Kd.R_mono (Kd.R_far (p := ⟨gb896, 5, none⟩) (Kd.R_far (p := ⟨gb896, 4, none⟩) (Kd.R_far (p := ⟨gb896, 3, none⟩) (Kd.R_far (p := ⟨gb896, 2, none⟩) (Kd.R_far (p := ⟨gb896, 1, none⟩) (Kd.R_far (p := ⟨gb896, 0, none⟩) (Kd.R_types HO885.out BK896.out (by decide)) (fun _ hk => hk.2) (.bool t882)) (fun _ hk => hk.2) (.slice Ao39 t883.length co39)) (fun _ hk => hk.2) (.slice Ao40 t886.length co40)) (fun _ hk => hk.2) (.int .i64 t889)) (fun _ hk => hk.2) (.int .i64 t890)) (fun _ hk => hk.2) (.int .i64 t891)) (fun _ h_ => h_.1)))); (case side2 => exact (Kd.R_reads' HO885.out).2.1); (case side3 => refine (Kd.R_reads' (e := 67) (base := w.heap.size) (ok := fun k_ => (((True ∧ some k_ ≠ (.slice Ao18 t850.length co18 : Value).ownBlock) ∧ some k_ ≠ (.slice Ao24 t860.length co24 : Value).ownBlock) ∧ some k_ ≠ (.slice Ao32 t875.length co32 : Value).ownBlock)) (n := t886.length) (c := co40) ?_).2.2; exact (by (with_reducible repeat (first | apply Kd.R_alloc | apply Kd.R_drewN | apply Kd.R_drew)); exact (Kd.R_mono (Kd.R_far (p := ⟨gb896, 5, none⟩) (Kd.R_far (p := ⟨gb896, 4, none⟩) (Kd.R_far (p := ⟨gb896, 3, none⟩) (Kd.R_far (p := ⟨gb896, 2, none⟩) (Kd.R_far (p := ⟨gb896, 1, none⟩) (Kd.R_far (p := ⟨gb896, 0, none⟩) (Kd.R_types HO888.out BK896.out (by decide)) (fun _ hk => hk.2) (.bool t882)) (fun _ hk => hk.2) (.slice Ao39 t883.length co39)) (fun _ hk => hk.2) (.slice Ao40 t886.length co40)) (fun _ hk => hk.2) (.int .i64 t889)) (fun _ hk => hk.2) (.int .i64 t890)) (fun _ hk => hk.2) (.int .i64 t891)) (fun _ h_ => h_.1)))); (case side4 => exact (Kd.R_reads' HO888.out).2.1); (case side5 => refine (Kd.R_reads' (e := 3) (base := w.heap.size) (ok := fun k_ => ((((some k_ ≠ (v867 : Value).ownBlock ∧ some k_ ≠ (.slice Ao17 t847.length co17 : Value).ownBlock) ∧ some k_ ≠ (.slice Ao31 t872.length co31 : Value).ownBlock) ∧ some k_ ≠ (.slice Ao39 t883.length co39 : Value).ownBlock) ∧ some k_ ≠ (v893 : Value).ownBlock)) (n := t857.length) (c := co23) ?_).2.2; exact (by (with_reducible repeat (first | apply Kd.R_alloc | apply Kd.R_drewN | apply Kd.R_drew)); exact (Kd.R_mono (Kd.R_far (p := ⟨gb896, 5, none⟩) (Kd.R_far (p := ⟨gb896, 4, none⟩) (Kd.R_far (p := ⟨gb896, 3, none⟩) (Kd.R_far (p := ⟨gb896, 2, none⟩) (Kd.R_far (p := ⟨gb896, 1, none⟩) (Kd.R_far (p := ⟨gb896, 0, none⟩) (Kd.R_types HO859.out BK896.out (by decide)) (fun _ hk => hk.2) (.bool t882)) (fun _ hk => hk.2) (.slice Ao39 t883.length co39)) (fun _ hk => hk.2) (.slice Ao40 t886.length co40)) (fun _ hk => hk.2) (.int .i64 t889)) (fun _ hk => hk.2) (.int .i64 t890)) (fun _ hk => hk.2) (.int .i64 t891)) (fun _ h_ => h_.1)))); (case side6 => exact (Kd.R_reads' HO859.out).2.1); (case side7 => refine (Kd.R_reads' (e := 67) (base := w.heap.size) (ok := fun k_ => (((True ∧ some k_ ≠ (.slice Ao18 t850.length co18 : Value).ownBlock) ∧ some k_ ≠ (.slice Ao32 t875.length co32 : Value).ownBlock) ∧ some k_ ≠ (.slice Ao40 t886.length co40 : Value).ownBlock)) (n := t860.length) (c := co24) ?_).2.2; exact (by (with_reducible repeat (first | apply Kd.R_alloc | apply Kd.R_drewN | apply Kd.R_drew)); exact (Kd.R_mono (Kd.R_far (p := ⟨gb896, 5, none⟩) (Kd.R_far (p := ⟨gb896, 4, none⟩) (Kd.R_far (p := ⟨gb896, 3, none⟩) (Kd.R_far (p := ⟨gb896, 2, none⟩) (Kd.R_far (p := ⟨gb896, 1, none⟩) (Kd.R_far (p := ⟨gb896, 0, none⟩) (Kd.R_types HO862.out BK896.out (by decide)) (fun _ hk => hk.2) (.bool t882)) (fun _ hk => hk.2) (.slice Ao39 t883.length co39)) (fun _ hk => hk.2) (.slice Ao40 t886.length co40)) (fun _ hk => hk.2) (.int .i64 t889)) (fun _ hk => hk.2) (.int .i64 t890)) (fun _ hk => hk.2) (.int .i64 t891)) (fun _ h_ => h_.1)))); (case side8 => exact (Kd.R_reads' HO862.out).2.1); rintro e w52 ⟨rfl, hb⟩; refine ⟨_, rfl, ?_⟩; replace HO849 := am (Kd.R_below (by (with_reducible repeat (first | apply Kd.R_alloc | apply Kd.R_drewN | apply Kd.R_drew)); exact (Kd.R_mono (Kd.R_far (p := ⟨gb896, 5, none⟩) (Kd.R_far (p := ⟨gb896, 4, none⟩) (Kd.R_far (p := ⟨gb896, 3, none⟩) (Kd.R_far (p := ⟨gb896, 2, none⟩) (Kd.R_far (p := ⟨gb896, 1, none⟩) (Kd.R_far (p := ⟨gb896, 0, none⟩) (Kd.R_types HO849.out BK896.out (by decide)) (fun _ hk => hk.2) (.bool t882)) (fun _ hk => hk.2) (.slice Ao39 t883.length co39)) (fun _ hk => hk.2) (.slice Ao40 t886.length co40)) (fun _ hk => hk.2) (.int .i64 t889)) (fun _ hk => hk.2) (.int .i64 t890)) (fun _ hk => hk.2) (.int .i64 t891)) (fun _ h_ => h_.1))) hb); replace HO852 := am (Kd.R_below (by (with_reducible repeat (first | apply Kd.R_alloc | apply Kd.R_drewN | apply Kd.R_drew)); exact (Kd.R_mono (Kd.R_far (p := ⟨gb896, 5, none⟩) (Kd.R_far (p := ⟨gb896, 4, none⟩) (Kd.R_far (p := ⟨gb896, 3, none⟩) (Kd.R_far (p := ⟨gb896, 2, none⟩) (Kd.R_far (p := ⟨gb896, 1, none⟩) (Kd.R_far (p := ⟨gb896, 0, none⟩) (Kd.R_types HO852.out BK896.out (by decide)) (fun _ hk => hk.2) (.bool t882)) (fun _ hk => hk.2) (.slice Ao39 t883.length co39)) (fun _ hk => hk.2) (.slice Ao40 t886.length co40)) (fun _ hk => hk.2) (.int .i64 t889)) (fun _ hk => hk.2) (.int .i64 t890)) (fun _ hk => hk.2) (.int .i64 t891)) (fun _ h_ => h_.1))) hb); replace HO859 := am (Kd.R_below (by (with_reducible repeat (first | apply Kd.R_alloc | apply Kd.R_drewN | apply Kd.R_drew)); exact (Kd.R_mono (Kd.R_far (p := ⟨gb896, 5, none⟩) (Kd.R_far (p := ⟨gb896, 4, none⟩) (Kd.R_far (p := ⟨gb896, 3, none⟩) (Kd.R_far (p := ⟨gb896, 2, none⟩) (Kd.R_far (p := ⟨gb896, 1, none⟩) (Kd.R_far (p := ⟨gb896, 0, none⟩) (Kd.R_types HO859.out BK896.out (by decide)) (fun _ hk => hk.2) (.bool t882)) (fun _ hk => hk.2) (.slice Ao39 t883.length co39)) (fun _ hk => hk.2) (.slice Ao40 t886.length co40)) (fun _ hk => hk.2) (.int .i64 t889)) (fun _ hk => hk.2) (.int .i64 t890)) (fun _ hk => hk.2) (.int .i64 t891)) (fun _ h_ => h_.1))) hb); replace HO862 := am (Kd.R_below (by (with_reducible repeat (first | apply Kd.R_alloc | apply Kd.R_drewN | apply Kd.R_drew)); exact (Kd.R_mono (Kd.R_far (p := ⟨gb896, 5, none⟩) (Kd.R_far (p := ⟨gb896, 4, none⟩) (Kd.R_far (p := ⟨gb896, 3, none⟩) (Kd.R_far (p := ⟨gb896, 2, none⟩) (Kd.R_far (p := ⟨gb896, 1, none⟩) (Kd.R_far (p := ⟨gb896, 0, none⟩) (Kd.R_types HO862.out BK896.out (by decide)) (fun _ hk => hk.2) (.bool t882)) (fun _ hk => hk.2) (.slice Ao39 t883.length co39)) (fun _ hk => hk.2) (.slice Ao40 t886.length co40)) (fun _ hk => hk.2) (.int .i64 t889)) (fun _ hk => hk.2) (.int .i64 t890)) (fun _ hk => hk.2) (.int .i64 t891)) (fun _ h_ => h_.1))) hb); replace HO868 := am (Kd.R_below (by (with_reducible repeat (first | apply Kd.R_alloc | apply Kd.R_drewN | apply Kd.R_drew)); exact (Kd.R_mono (Kd.R_far (p := ⟨gb896, 5, none⟩) (Kd.R_far (p := ⟨gb896, 4, none⟩) (Kd.R_far (p := ⟨gb896, 3, none⟩) (Kd.R_far (p := ⟨gb896, 2, none⟩) (Kd.R_far (p := ⟨gb896, 1, none⟩) (Kd.R_far (p := ⟨gb896, 0, none⟩) (Kd.R_types HO868.out BK896.out (by decide)) (fun _ hk => hk.2) (.bool t882)) (fun _ hk => hk.2) (.slice Ao39 t883.length co39)) (fun _ hk => hk.2) (.slice Ao40 t886.length co40)) (fun _ hk => hk.2) (.int .i64 t889)) (fun _ hk => hk.2) (.int .i64 t890)) (fun _ hk => hk.2) (.int .i64 t891)) (fun _ h_ => h_.1))) hb); replace HO874 := am (Kd.R_below (by (with_reducible repeat (first | apply Kd.R_alloc | apply Kd.R_drewN | apply Kd.R_drew)); exact (Kd.R_mono (Kd.R_far (p := ⟨gb896, 5, none⟩) (Kd.R_far (p := ⟨gb896, 4, none⟩) (Kd.R_far (p := ⟨gb896, 3, none⟩) (Kd.R_far (p := ⟨gb896, 2, none⟩) (Kd.R_far (p := ⟨gb896, 1, none⟩) (Kd.R_far (p := ⟨gb896, 0, none⟩) (Kd.R_types HO874.out BK896.out (by decide)) (fun _ hk => hk.2) (.bool t882)) (fun _ hk => hk.2) (.slice Ao39 t883.length co39)) (fun _ hk => hk.2) (.slice Ao40 t886.length co40)) (fun _ hk => hk.2) (.int .i64 t889)) (fun _ hk => hk.2) (.int .i64 t890)) (fun _ hk => hk.2) (.int .i64 t891)) (fun _ h_ => h_.1))) hb); replace HO877 := am (Kd.R_below (by (with_reducible repeat (first | apply Kd.R_alloc | apply Kd.R_drewN | apply Kd.R_drew)); exact (Kd.R_mono (Kd.R_far (p := ⟨gb896, 5, none⟩) (Kd.R_far (p := ⟨gb896, 4, none⟩) (Kd.R_far (p := ⟨gb896, 3, none⟩) (Kd.R_far (p := ⟨gb896, 2, none⟩) (Kd.R_far (p := ⟨gb896, 1, none⟩) (Kd.R_far (p := ⟨gb896, 0, none⟩) (Kd.R_types HO877.out BK896.out (by decide)) (fun _ hk => hk.2) (.bool t882)) (fun _ hk => hk.2) (.slice Ao39 t883.length co39)) (fun _ hk => hk.2) (.slice Ao40 t886.length co40)) (fun _ hk => hk.2) (.int .i64 t889)) (fun _ hk => hk.2) (.int .i64 t890)) (fun _ hk => hk.2) (.int .i64 t891)) (fun _ h_ => h_.1))) hb); replace HO885 := am (Kd.R_below (by (with_reducible repeat (first | apply Kd.R_alloc | apply Kd.R_drewN | apply Kd.R_drew)); exact (Kd.R_mono (Kd.R_far (p := ⟨gb896, 5, none⟩) (Kd.R_far (p := ⟨gb896, 4, none⟩) (Kd.R_far (p := ⟨gb896, 3, none⟩) (Kd.R_far (p := ⟨gb896, 2, none⟩) (Kd.R_far (p := ⟨gb896, 1, none⟩) (Kd.R_far (p := ⟨gb896, 0, none⟩) (Kd.R_types HO885.out BK896.out (by decide)) (fun _ hk => hk.2) (.bool t882)) (fun _ hk => hk.2) (.slice Ao39 t883.length co39)) (fun _ hk => hk.2) (.slice Ao40 t886.length co40)) (fun _ hk => hk.2) (.int .i64 t889)) (fun _ hk => hk.2) (.int .i64 t890)) (fun _ hk => hk.2) (.int .i64 t891)) (fun _ h_ => h_.1))) hb); replace HO888 := am (Kd.R_below (by (with_reducible repeat (first | apply Kd.R_alloc | apply Kd.R_drewN | apply Kd.R_drew)); exact (Kd.R_mono (Kd.R_far (p := ⟨gb896, 5, none⟩) (Kd.R_far (p := ⟨gb896, 4, none⟩) (Kd.R_far (p := ⟨gb896, 3, none⟩) (Kd.R_far (p := ⟨gb896, 2, none⟩) (Kd.R_far (p := ⟨gb896, 1, none⟩) (Kd.R_far (p := ⟨gb896, 0, none⟩) (Kd.R_types HO888.out BK896.out (by decide)) (fun _ hk => hk.2) (.bool t882)) (fun _ hk => hk.2) (.slice Ao39 t883.length co39)) (fun _ hk => hk.2) (.slice Ao40 t886.length co40)) (fun _ hk => hk.2) (.int .i64 t889)) (fun _ hk => hk.2) (.int .i64 t890)) (fun _ hk => hk.2) (.int .i64 t891)) (fun _ h_ => h_.1))) hb); replace HO894 := am (Kd.R_below (by (with_reducible repeat (first | apply Kd.R_alloc | apply Kd.R_drewN | apply Kd.R_drew)); exact (Kd.R_mono (Kd.R_far (p := ⟨gb896, 5, none⟩) (Kd.R_far (p := ⟨gb896, 4, none⟩) (Kd.R_far (p := ⟨gb896, 3, none⟩) (Kd.R_far (p := ⟨gb896, 2, none⟩) (Kd.R_far (p := ⟨gb896, 1, none⟩) (Kd.R_far (p := ⟨gb896, 0, none⟩) (Kd.R_types HO894.out BK896.out (by decide)) (fun _ hk => hk.2) (.bool t882)) (fun _ hk => hk.2) (.slice Ao39 t883.length co39)) (fun _ hk => hk.2) (.slice Ao40 t886.length co40)) (fun _ hk => hk.2) (.int .i64 t889)) (fun _ hk => hk.2) (.int .i64 t890)) (fun _ hk => hk.2) (.int .i64 t891)) (fun _ h_ => h_.1))) hb); replace BK844 := am (blk_below (g := gb844) (o := .cells #[.bool a0_0, .slice A0_1 l0_1.length c0_1, .slice A0_2 l0_2.length c0_2, .int .i64 a0_3, .int .i64 a0_4, .int .i64 a0_5] 33 (0, 0)) (by (with_reducible repeat (first | refine blk_drewN ?_ _ | refine blk_drew ?_ | refine blk_alloc ?_ _)); refine blk_far ?_ NB844_896.out _; (with_reducible repeat (first | refine blk_drewN ?_ _ | refine blk_drew ?_ | refine blk_alloc ?_ _)); refine blk_far ?_ NB844_896.out _; (with_reducible repeat (first | refine blk_drewN ?_ _ | refine blk_drew ?_ | refine blk_alloc ?_ _)); refine blk_far ?_ NB844_896.out _; (with_reducible repeat (first | refine blk_drewN ?_ _ | refine blk_drew ?_ | refine blk_alloc ?_ _)); refine blk_far ?_ NB844_896.out _; (with_reducible repeat (first | refine blk_drewN ?_ _ | refine blk_drew ?_ | refine blk_alloc ?_ _)); refine blk_far ?_ NB844_896.out _; (with_reducible repeat (first | refine blk_drewN ?_ _ | refine blk_drew ?_ | refine blk_alloc ?_ _)); refine blk_far ?_ NB844_896.out _; exact pkK BK844.out) hb); replace BK870 := am (blk_below (g := gb870) (o := .cells #[.bool t856, .slice Ao23 t857.length co23, .slice Ao24 t860.length co24, .int .i64 t863, .int .i64 t864, .int .i64 t865] 38 (0, 0)) (by (with_reducible repeat (first | refine blk_drewN ?_ _ | refine blk_drew ?_ | refine blk_alloc ?_ _)); refine blk_far ?_ NB870_896.out _; (with_reducible repeat (first | refine blk_drewN ?_ _ | refine blk_drew ?_ | refine blk_alloc ?_ _)); refine blk_far ?_ NB870_896.out _; (with_reducible repeat (first | refine blk_drewN ?_ _ | refine blk_drew ?_ | refine blk_alloc ?_ _)); refine blk_far ?_ NB870_896.out _; (with_reducible repeat (first | refine blk_drewN ?_ _ | refine blk_drew ?_ | refine blk_alloc ?_ _)); refine blk_far ?_ NB870_896.out _; (with_reducible repeat (first | refine blk_drewN ?_ _ | refine blk_drew ?_ | refine blk_alloc ?_ _)); refine blk_far ?_ NB870_896.out _; (with_reducible repeat (first | refine blk_drewN ?_ _ | refine blk_drew ?_ | refine blk_alloc ?_ _)); refine blk_far ?_ NB870_896.out _; exact pkK BK870.out) hb); replace BK881 := am (blk_below (g := gb881) (o := .cells #[.bool t871, .slice Ao31 t872.length co31, .slice Ao32 t875.length co32, .int .i64 t878, .int .i64 t879, .int .i64 t880] 38 (0, 0)) (by (with_reducible repeat (first | refine blk_drewN ?_ _ | refine blk_drew ?_ | refine blk_alloc ?_ _)); refine blk_far ?_ NB881_896.out _; (with_reducible repeat (first | refine blk_drewN ?_ _ | refine blk_drew ?_ | refine blk_alloc ?_ _)); refine blk_far ?_ NB881_896.out _; (with_reducible repeat (first | refine blk_drewN ?_ _ | refine blk_drew ?_ | refine blk_alloc ?_ _)); refine blk_far ?_ NB881_896.out _; (with_reducible repeat (first | refine blk_drewN ?_ _ | refine blk_drew ?_ | refine blk_alloc ?_ _)); refine blk_far ?_ NB881_896.out _; (with_reducible repeat (first | refine blk_drewN ?_ _ | refine blk_drew ?_ | refine blk_alloc ?_ _)); refine blk_far ?_ NB881_896.out _; (with_reducible repeat (first | refine blk_drewN ?_ _ | refine blk_drew ?_ | refine blk_alloc ?_ _)); refine blk_far ?_ NB881_896.out _; exact pkK BK881.out) hb); replace BK896 := am (blk_below (g := gb896) (o := .cells #[.bool t882, .slice Ao39 t883.length co39, .slice Ao40 t886.length co40, .int .i64 t889, .int .i64 t890, .int .i64 t891] 38 (0, 0)) (by (with_reducible repeat (first | refine blk_drewN ?_ _ | refine blk_drew ?_ | refine blk_alloc ?_ _)); refine blk_put (cs := #[.bool t882, .slice Ao39 t883.length co39, .slice Ao40 t886.length co40, .int .i64 t889, .int .i64 t890, .int .i64 0]) ?_ 5 _ rfl; (with_reducible repeat (first | refine blk_drewN ?_ _ | refine blk_drew ?_ | refine blk_alloc ?_ _)); refine blk_put (cs := #[.bool t882, .slice Ao39 t883.length co39, .slice Ao40 t886.length co40, .int .i64 t889, .int .i64 0, .int .i64 0]) ?_ 4 _ rfl; (with_reducible repeat (first | refine blk_drewN ?_ _ | refine blk_drew ?_ | refine blk_alloc ?_ _)); refine blk_put (cs := #[.bool t882, .slice Ao39 t883.length co39, .slice Ao40 t886.length co40, .int .i64 0, .int .i64 0, .int .i64 0]) ?_ 3 _ rfl; (with_reducible repeat (first | refine blk_drewN ?_ _ | refine blk_drew ?_ | refine blk_alloc ?_ _)); refine blk_put (cs := #[.bool t882, .slice Ao39 t883.length co39, .slice none 0 0, .int .i64 0, .int .i64 0, .int .i64 0]) ?_ 2 _ rfl; (with_reducible repeat (first | refine blk_drewN ?_ _ | refine blk_drew ?_ | refine blk_alloc ?_ _)); refine blk_put (cs := #[.bool t882, .slice none 0 0, .slice none 0 0, .int .i64 0, .int .i64 0, .int .i64 0]) ?_ 1 _ rfl; (with_reducible repeat (first | refine blk_drewN ?_ _ | refine blk_drew ?_ | refine blk_alloc ?_ _)); refine blk_put (cs := #[.bool false, .slice none 0 0, .slice none 0 0, .int .i64 0, .int .i64 0, .int .i64 0]) ?_ 0 _ rfl; exact pkK BK896.out) hb); replace HB := am (below_step (pkW HB.out) hb); (try clear hb); obtain ⟨Ao53, co53, eo53⟩ := Kd.R_slice HO894.out; subst eo53; obtain ⟨Ao54, co54, eo54⟩ := Kd.R_slice HO868.out; subst eo54) | (go_at_call 34; (with_reducible refine (laws_eqIntS.calls k _ _ t892 _ _ t866 true _ ?side1 ?side2 ?side3 ?side4 A43.out).mono ?_); (case side1 => exact pkC (Kd.R_reads' HO894.out).2.2); (case side2 => exact (Kd.R_reads' HO894.out).2.1); (case side3 => exact pkC (Kd.R_reads' HO868.out).2.2); (case side4 => exact (Kd.R_reads' HO868.out).2.1); rintro e w' ⟨rfl, ⟨nd, rfl⟩⟩))
     go_meet
     case rel => exact ⟨_, ((t895 != t869)), rfx, H', ⟨by first | omega | exact Nat.le_refl _⟩, ⟨by (with_reducible repeat (first | apply Kd.R_alloc | apply Kd.R_drewN | apply Kd.R_drew)); exact Kd.R_mono HO868.out (fun _ hk => ⟨hk.2, ⟨hk.1.1.1.1, ⟨hk.1.1.2, hk.1.2⟩⟩⟩)⟩, ⟨Kd.Q_of_R (by (with_reducible repeat (first | apply Kd.R_alloc | apply Kd.R_drewN | apply Kd.R_drew)); exact Kd.R_mono HO894.out (fun _ hk => ⟨hk.1.2, ⟨hk.1.1.2, ⟨hk.2, hk.1.1.1.1⟩⟩⟩))⟩, ⟨by (with_reducible repeat (first | apply Kd.R_alloc | apply Kd.R_drewN | apply Kd.R_drew)); exact Kd.R_mono HO859.out (fun _ hk => ⟨hk.1.1.1.1, ⟨hk.2, ⟨hk.1.1.2, hk.1.2⟩⟩⟩)⟩, ⟨by (with_reducible repeat (first | apply Kd.R_alloc | apply Kd.R_drewN | apply Kd.R_drew)); exact Kd.R_mono HO862.out (fun _ hk => ⟨hk.1.2, hk.2⟩)⟩, ⟨Kd.Q_of_R (by (with_reducible repeat (first | apply Kd.R_alloc | apply Kd.R_drewN | apply Kd.R_drew)); exact Kd.R_mono HO874.out (fun _ hk => ⟨hk.1.1.2, ⟨hk.2, ⟨hk.1.1.1.2, hk.1.2⟩⟩⟩))⟩, ⟨by (with_reducible repeat (first | apply Kd.R_alloc | apply Kd.R_drewN | apply Kd.R_drew)); exact Kd.R_mono HO877.out (fun _ hk => ⟨hk.1.2, hk.2⟩)⟩, ⟨Kd.Q_of_R (by (with_reducible repeat (first | apply Kd.R_alloc | apply Kd.R_drewN | apply Kd.R_drew)); exact Kd.R_mono HO885.out (fun _ hk => ⟨hk.1.2, ⟨hk.1.1.1.1, ⟨hk.1.1.2, hk.2⟩⟩⟩))⟩, ⟨by (with_reducible repeat (first | apply Kd.R_alloc | apply Kd.R_drewN | apply Kd.R_drew)); exact Kd.R_mono HO888.out (fun _ hk => ⟨hk.1.2, hk.2⟩)⟩, ⟨pkK BK844.out⟩, ⟨pkK BK870.out⟩, ⟨pkK BK881.out⟩, ⟨pkK BK896.out⟩, ⟨pkW HB.out⟩⟩
    ·replace c44 := Bool.eq_false_iff.mpr c44
     subst c44
     replace H : (laws_FnExactTellAll.j0 k t866 t869 t892 t895 true a0_0 l0_1 l0_2 a0_3 a0_4 a0_5 t856 t857 t860 t863 t864 t865 t871 t872 t875 t878 t879 t880 t882 t883 t886 t889 t890 t891) = some r := by rw [if_neg (show ¬ (false = true) by decide)] at H; exact H
     cases k with
     | zero => exact absurd H (by simp [laws_FnExactTellAll.j0])
     | succ k_ => (simp only [laws_FnExactTellAll.j0, if_pos] at H; exact absurd (Option.some.inj H) (by rw [HQ_.out]; simp))
   ·replace c42 := Bool.eq_false_iff.mpr c42
    subst c42
    replace H : (laws_FnExactTellAll.j0 k t866 t869 t892 t895 true a0_0 l0_1 l0_2 a0_3 a0_4 a0_5 t856 t857 t860 t863 t864 t865 t871 t872 t875 t878 t879 t880 t882 t883 t886 t889 t890 t891) = some r := by rw [if_neg (show ¬ (false = true) by decide)] at H; exact H
    cases k with
    | zero => exact absurd H (by simp [laws_FnExactTellAll.j0])
    | succ k_ => (simp only [laws_FnExactTellAll.j0, if_pos] at H; exact absurd (Option.some.inj H) (by rw [HQ_.out]; simp))
  case rest =>
   clear HC11
   try clear c1
   try clear c2
   try clear p2
   try clear c3
   try clear c3b0
   try clear c4
   try clear c5
   try clear c8
   try clear c19
   try clear c21
   try clear c23
   try clear c28
   try clear c29
   try clear c32
   try clear c33
   try clear c35
   try clear c36
   try clear c37
   try clear c42
   try clear c44
   try clear c45
   try clear c46
   try clear c47
   try clear c49
   try clear c50
   try clear hcz13_0
   try clear hcz13_1
   try clear hcz13_2
   try clear hcz13_3
   try clear hcz13_4
   try clear hcz13_5
   try clear hcz15_0
   try clear hcz15_1
   try clear hcz15_2
   try clear hcz15_3
   try clear hcz15_4
   try clear hcz15_5
   try clear hcz22_0
   try clear hcz22_1
   try clear hcz22_2
   try clear hcz22_3
   try clear hcz22_4
   try clear hcz22_5
   try clear hcz25_0
   try clear hcz25_1
   try clear hcz25_2
   try clear hcz25_3
   try clear hcz25_4
   try clear hcz25_5
   try clear hcz30_0
   try clear hcz30_1
   try clear hcz30_2
   try clear hcz30_3
   try clear hcz30_4
   try clear hcz30_5
   try clear hcz38_0
   try clear hcz38_1
   try clear hcz38_2
   try clear hcz38_3
   try clear hcz38_4
   try clear hcz38_5
   try clear hcz48_0
   try clear hcz48_1
   try clear hcz48_2
   try clear hcz48_3
   try clear hcz48_4
   try clear hcz48_5
   try clear hcz51_0
   try clear hcz51_1
   try clear hcz51_2
   try clear hcz51_3
   try clear hcz51_4
   try clear hcz51_5
   try clear hcz5_0
   try clear hcz5_1
   try clear hcz5_2
   try clear hcz5_3
   try clear hcz5_4
   try clear hcz5_5
   try clear hfz13_0
   try clear hfz13_1
   try clear hfz13_2
   try clear hfz13_3
   try clear hfz13_4
   try clear hfz13_5
   try clear hfz15_0
   try clear hfz15_1
   try clear hfz15_2
   try clear hfz15_3
   try clear hfz15_4
   try clear hfz15_5
   try clear hfz22_0
   try clear hfz22_1
   try clear hfz22_2
   try clear hfz22_3
   try clear hfz22_4
   try clear hfz22_5
   try clear hfz25_0
   try clear hfz25_1
   try clear hfz25_2
   try clear hfz25_3
   try clear hfz25_4
   try clear hfz25_5
   try clear hfz30_0
   try clear hfz30_1
   try clear hfz30_2
   try clear hfz30_3
   try clear hfz30_4
   try clear hfz30_5
   try clear hfz38_0
   try clear hfz38_1
   try clear hfz38_2
   try clear hfz38_3
   try clear hfz38_4
   try clear hfz38_5
   try clear hfz48_0
   try clear hfz48_1
   try clear hfz48_2
   try clear hfz48_3
   try clear hfz48_4
   try clear hfz48_5
   try clear hfz51_0
   try clear hfz51_1
   try clear hfz51_2
   try clear hfz51_3
   try clear hfz51_4
   try clear hfz51_5
   try clear hfz5_0
   try clear hfz5_1
   try clear hfz5_2
   try clear hfz5_3
   try clear hfz5_4
   try clear hfz5_5
   obtain ⟨kq, x51_10, rfl, HA, HJ10, HO_5, HO_9, HO_871001, HO_871002, HO_882001, HO_882002, HO_897001, HO_897002, BK844, BK870, BK881, BK896, HB⟩ := hcut
   cases kq with
   | zero => exact absurd HA.out (by simp [laws_FnExactTellAll.j0])
   | succ kj10 =>
    have H := HA.out
    clear HA
    simp only [laws_FnExactTellAll.j0] at H
    by_cases c55 : x51_10 = true
    ·subst c55
     replace H : (some false) = some r := by rw [if_pos rfl] at H; exact H
     exact absurd (Option.some.inj H) (by rw [HQ_.out]; simp)
    ·replace c55 := Bool.eq_false_iff.mpr c55
     subst c55
     replace H : ((laws_toNotify.f kj10 a0_0 l0_1 l0_2 a0_3 a0_4 a0_5).bind fun bt899 => ((laws_eqNotify.f kj10 t871 t872 t875 t878 t879 t880 bt899.1 bt899.2.1 bt899.2.2.1 bt899.2.2.2.1 bt899.2.2.2.2.1 bt899.2.2.2.2.2).bind fun t909 => (if t909 = true then ((laws_markNotify.f kj10 t871 t872 t875 t878 t879 t880 1).bind fun bt910 => (if bt910.1 < 0 then (laws_FnExactTellAll.j1 kj10 t866 t869 t892 true a0_0 l0_1 l0_2 a0_3 a0_4 a0_5 t856 t857 t860 t863 t864 t865 t882 t883 t886 t889 t890 t891) else ((laws_eqNotify.f kj10 t882 t883 t886 t889 t890 t891 t856 t857 t860 t863 t864 t865).bind fun t913 => (if t913 = true then ((laws_eqIntS.f kj10 t892 t866).bind fun t914 => (if t914 = true then (laws_FnExactTellAll.j1 kj10 t866 t869 t892 (t895 != t869) a0_0 l0_1 l0_2 a0_3 a0_4 a0_5 t856 t857 t860 t863 t864 t865 t882 t883 t886 t889 t890 t891) else (laws_FnExactTellAll.j1 kj10 t866 t869 t892 true a0_0 l0_1 l0_2 a0_3 a0_4 a0_5 t856 t857 t860 t863 t864 t865 t882 t883 t886 t889 t890 t891))) else (laws_FnExactTellAll.j1 kj10 t866 t869 t892 true a0_0 l0_1 l0_2 a0_3 a0_4 a0_5 t856 t857 t860 t863 t864 t865 t882 t883 t886 t889 t890 t891))))) else (some false)))) = some r := by rw [if_neg (show ¬ (false = true) by decide)] at H; exact H
     replace H := Option.bind_eq_some_iff.mp H
     obtain ⟨⟨t899, t900, t903, t906, t907, t908⟩, A560, H⟩ := H
     replace H : ((laws_eqNotify.f kj10 t871 t872 t875 t878 t879 t880 t899 t900 t903 t906 t907 t908).bind fun t909 => (if t909 = true then ((laws_markNotify.f kj10 t871 t872 t875 t878 t879 t880 1).bind fun bt910 => (if bt910.1 < 0 then (laws_FnExactTellAll.j1 kj10 t866 t869 t892 true a0_0 l0_1 l0_2 a0_3 a0_4 a0_5 t856 t857 t860 t863 t864 t865 t882 t883 t886 t889 t890 t891) else ((laws_eqNotify.f kj10 t882 t883 t886 t889 t890 t891 t856 t857 t860 t863 t864 t865).bind fun t913 => (if t913 = true then ((laws_eqIntS.f kj10 t892 t866).bind fun t914 => (if t914 = true then (laws_FnExactTellAll.j1 kj10 t866 t869 t892 (t895 != t869) a0_0 l0_1 l0_2 a0_3 a0_4 a0_5 t856 t857 t860 t863 t864 t865 t882 t883 t886 t889 t890 t891) else (laws_FnExactTellAll.j1 kj10 t866 t869 t892 true a0_0 l0_1 l0_2 a0_3 a0_4 a0_5 t856 t857 t860 t863 t864 t865 t882 t883 t886 t889 t890 t891))) else (laws_FnExactTellAll.j1 kj10 t866 t869 t892 true a0_0 l0_1 l0_2 a0_3 a0_4 a0_5 t856 t857 t860 t863 t864 t865 t882 t883 t886 t889 t890 t891))))) else (some false))) = some r := H
     have A56 := am A560
     clear A560
     replace H := Option.bind_eq_some_iff.mp H
     obtain ⟨t909, A570, H⟩ := H
     replace H : (if t909 = true then ((laws_markNotify.f kj10 t871 t872 t875 t878 t879 t880 1).bind fun bt910 => (if bt910.1 < 0 then (laws_FnExactTellAll.j1 kj10 t866 t869 t892 true a0_0 l0_1 l0_2 a0_3 a0_4 a0_5 t856 t857 t860 t863 t864 t865 t882 t883 t886 t889 t890 t891) else ((laws_eqNotify.f kj10 t882 t883 t886 t889 t890 t891 t856 t857 t860 t863 t864 t865).bind fun t913 => (if t913 = true then ((laws_eqIntS.f kj10 t892 t866).bind fun t914 => (if t914 = true then (laws_FnExactTellAll.j1 kj10 t866 t869 t892 (t895 != t869) a0_0 l0_1 l0_2 a0_3 a0_4 a0_5 t856 t857 t860 t863 t864 t865 t882 t883 t886 t889 t890 t891) else (laws_FnExactTellAll.j1 kj10 t866 t869 t892 true a0_0 l0_1 l0_2 a0_3 a0_4 a0_5 t856 t857 t860 t863 t864 t865 t882 t883 t886 t889 t890 t891))) else (laws_FnExactTellAll.j1 kj10 t866 t869 t892 true a0_0 l0_1 l0_2 a0_3 a0_4 a0_5 t856 t857 t860 t863 t864 t865 t882 t883 t886 t889 t890 t891))))) else (some false)) = some r := H
     have A57 := am A570
     clear A570
     by_cases c58 : t909 = true
     ·subst c58
      replace H : ((laws_markNotify.f kj10 t871 t872 t875 t878 t879 t880 1).bind fun bt910 => (if bt910.1 < 0 then (laws_FnExactTellAll.j1 kj10 t866 t869 t892 true a0_0 l0_1 l0_2 a0_3 a0_4 a0_5 t856 t857 t860 t863 t864 t865 t882 t883 t886 t889 t890 t891) else ((laws_eqNotify.f kj10 t882 t883 t886 t889 t890 t891 t856 t857 t860 t863 t864 t865).bind fun t913 => (if t913 = true then ((laws_eqIntS.f kj10 t892 t866).bind fun t914 => (if t914 = true then (laws_FnExactTellAll.j1 kj10 t866 t869 t892 (t895 != t869) a0_0 l0_1 l0_2 a0_3 a0_4 a0_5 t856 t857 t860 t863 t864 t865 t882 t883 t886 t889 t890 t891) else (laws_FnExactTellAll.j1 kj10 t866 t869 t892 true a0_0 l0_1 l0_2 a0_3 a0_4 a0_5 t856 t857 t860 t863 t864 t865 t882 t883 t886 t889 t890 t891))) else (laws_FnExactTellAll.j1 kj10 t866 t869 t892 true a0_0 l0_1 l0_2 a0_3 a0_4 a0_5 t856 t857 t860 t863 t864 t865 t882 t883 t886 t889 t890 t891))))) = some r := by rw [if_pos rfl] at H; exact H
      replace H := Option.bind_eq_some_iff.mp H
      obtain ⟨⟨t910, t911, t912⟩, A590, H⟩ := H
      replace H : (if t910 < 0 then (laws_FnExactTellAll.j1 kj10 t866 t869 t892 true a0_0 l0_1 l0_2 a0_3 a0_4 a0_5 t856 t857 t860 t863 t864 t865 t882 t883 t886 t889 t890 t891) else ((laws_eqNotify.f kj10 t882 t883 t886 t889 t890 t891 t856 t857 t860 t863 t864 t865).bind fun t913 => (if t913 = true then ((laws_eqIntS.f kj10 t892 t866).bind fun t914 => (if t914 = true then (laws_FnExactTellAll.j1 kj10 t866 t869 t892 (t895 != t869) a0_0 l0_1 l0_2 a0_3 a0_4 a0_5 t856 t857 t860 t863 t864 t865 t882 t883 t886 t889 t890 t891) else (laws_FnExactTellAll.j1 kj10 t866 t869 t892 true a0_0 l0_1 l0_2 a0_3 a0_4 a0_5 t856 t857 t860 t863 t864 t865 t882 t883 t886 t889 t890 t891))) else (laws_FnExactTellAll.j1 kj10 t866 t869 t892 true a0_0 l0_1 l0_2 a0_3 a0_4 a0_5 t856 t857 t860 t863 t864 t865 t882 t883 t886 t889 t890 t891)))) = some r := H
      have A59 := am A590
      clear A590
      have HC60 := am H
      clear H
      try go_wp2
      replace HO_5 := am (Kd.R_drew HO_5.out)
      replace HO_9 := am (Kd.Q_drew HO_9.out)
      replace HO_871001 := am (Kd.R_drew HO_871001.out)
      replace HO_871002 := am (Kd.R_drew HO_871002.out)
      replace HO_882001 := am (Kd.Q_drew HO_882001.out)
      replace HO_882002 := am (Kd.R_drew HO_882002.out)
      replace HO_897001 := am (Kd.Q_drew HO_897001.out)
      replace HO_897002 := am (Kd.R_drew HO_897002.out)
      replace BK844 := am (blk_drew BK844.out)
      replace BK870 := am (blk_drew BK870.out)
      replace BK881 := am (blk_drew BK881.out)
      replace BK896 := am (blk_drew BK896.out)
      replace HB := am (below_drew1 HB.out)
      refine start_ (n := 5) (S := fun w' => w'.cell? ⟨gb881, 0, none⟩ = some (.bool t871) ∧ w'.cell? ⟨gb881, 1, none⟩ = some (.slice Ao31 t872.length co31) ∧ w'.cell? ⟨gb881, 2, none⟩ = some (.slice Ao32 t875.length co32) ∧ w'.cell? ⟨gb881, 3, none⟩ = some (.int .i64 t878) ∧ w'.cell? ⟨gb881, 4, none⟩ = some (.int .i64 t879) ∧ w'.cell? ⟨gb881, 5, none⟩ = some (.int .i64 t880) ∧ w'.cell? ⟨gb844, 0, none⟩ = some (.bool a0_0) ∧ w'.cell? ⟨gb844, 1, none⟩ = some (.slice A0_1 l0_1.length c0_1) ∧ w'.cell? ⟨gb844, 2, none⟩ = some (.slice A0_2 l0_2.length c0_2) ∧ w'.cell? ⟨gb844, 3, none⟩ = some (.int .i64 a0_3) ∧ w'.cell? ⟨gb844, 4, none⟩ = some (.int .i64 a0_4) ∧ w'.cell? ⟨gb844, 5, none⟩ = some (.int .i64 a0_5)) (ds := []) #[false, false, false, false, false] (by kernel_rfl) rfl rfl ⟨(blk_cell BK881.out 0).trans rfl, (blk_cell BK881.out 1).trans rfl, (blk_cell BK881.out 2).trans rfl, (blk_cell BK881.out 3).trans rfl, (blk_cell BK881.out 4).trans rfl, (blk_cell BK881.out 5).trans rfl, (blk_cell BK844.out 0).trans rfl, (blk_cell BK844.out 1).trans rfl, (blk_cell BK844.out 2).trans rfl, (blk_cell BK844.out 3).trans rfl, (blk_cell BK844.out 4).trans rfl, (blk_cell BK844.out 5).trans rfl⟩ (fun hHeld => ?_)
      generalize wc.drew = w61 at HO_5 HO_9 HO_871001 HO_871002 HO_882001 HO_882002 HO_897001 HO_897002 BK844 BK870 BK881 BK896 HB hHeld ⊢
      refine take_ (i := 0) (N := some 52) (v := ?_) (a' := ?_) #[true, false, false, false, false] rfl rfl (by kernel_rfl) (fun _ _ _ h => h) (Or.inl ⟨by rfl, ?_⟩) hHeld ?_ ?_
      rotate_left
      ·rintro w' ⟨s0, s1, s2, s3, s4, s5, s6, s7, s8, s9, s10, s11⟩
       go_simp
       with_reducible rfl
      rotate_left
      ·simp only [Act.put, List.setIfInBounds_toArray, List.set_cons_zero, List.set_cons_succ, i64_w, i32_w]
       rfl
      refine take_ (i := 1) (N := some 53) (v := ?_) (a' := ?_) #[true, true, false, false, false] rfl rfl (by kernel_rfl) (fun _ _ _ h => h) (Or.inl ⟨by rfl, ?_⟩) hHeld ?_ ?_
      rotate_left
      ·rintro w' ⟨s0, s1, s2, s3, s4, s5, s6, s7, s8, s9, s10, s11⟩
       go_simp
       with_reducible rfl
      rotate_left
      ·simp only [Act.put, List.setIfInBounds_toArray, List.set_cons_zero, List.set_cons_succ, i64_w, i32_w]
       rfl
      refine one_ (i := 2) (N := some 54) #[true, true, true, false, false] rfl rfl (by kernel_rfl) (by decide) (fun K hK => ?_)
      refine goes_ Try.func21 (by kernel_rfl) rfl #[.agg #[.bool a0_0, .slice A0_1 l0_1.length c0_1, .slice A0_2 l0_2.length c0_2, .int .i64 a0_3, .int .i64 a0_4, .int .i64 a0_5]] (by rfl) rfl rfl mpx ?_
      with_reducible refine (laws_toNotify.calls kj10 a0_0 _ _ l0_1 _ _ l0_2 a0_3 a0_4 a0_5 t899 t900 t903 t906 t907 t908 _ ?side1 ?side2 ?side3 ?side4 A56.out).mono ?_
      (case side1 => exact pkC (Kd.C_below HR0_1.out HB.out))
      (case side2 => exact HC0_1.out)
      (case side3 => exact pkC (Kd.C_below HR0_2.out HB.out))
      (case side4 => exact HC0_2.out)
      rintro e w62 ⟨v901, v904, rfl, ho0, ho1, hb⟩
      refine ⟨_, rfl, ?_⟩
      have HO902 := am (Kd.R_lower (Kd.R_new' (Kd.R_new' (Kd.R_new' (Kd.R_new' (Kd.R_new' ho0 (Kd.R_lt (pkR HO_5.out))) (Kd.Q_lt (pkQ HO_9.out))) (Kd.R_lt (pkR HO_871001.out))) (Kd.Q_lt (pkQ HO_882001.out))) (Kd.Q_lt (pkQ HO_897001.out))) (below_size (pkW HB.out)))
      replace HO_5 := am (Kd.R_elder' (pkR HO_5.out) (Kd.R_base ho0) hb)
      replace HO_9 := am (Kd.Q_elder' (pkQ HO_9.out) (Kd.R_base ho0) hb)
      replace HO_871001 := am (Kd.R_elder' (pkR HO_871001.out) (Kd.R_base ho0) hb)
      replace HO_882001 := am (Kd.Q_elder' (pkQ HO_882001.out) (Kd.R_base ho0) hb)
      replace HO_897001 := am (Kd.Q_elder' (pkQ HO_897001.out) (Kd.R_base ho0) hb)
      have HO905 := am (Kd.R_lower (Kd.R_new' (Kd.R_new' (Kd.R_new' ho1 (Kd.R_lt (pkR HO_871002.out))) (Kd.R_lt (pkR HO_882002.out))) (Kd.R_lt (pkR HO_897002.out))) (below_size (pkW HB.out)))
      replace HO_871002 := am (Kd.R_elder' (pkR HO_871002.out) (Kd.R_base ho1) hb)
      replace HO_882002 := am (Kd.R_elder' (pkR HO_882002.out) (Kd.R_base ho1) hb)
      replace HO_897002 := am (Kd.R_elder' (pkR HO_897002.out) (Kd.R_base ho1) hb)
      replace BK844 := am (blk_below (pkK BK844.out) hb)
      replace BK870 := am (blk_below (pkK BK870.out) hb)
      replace BK881 := am (blk_below (pkK BK881.out) hb)
      replace BK896 := am (blk_below (pkK BK896.out) hb)
      replace HB := am (below_step (pkW HB.out) hb)
      (try clear hb); (try clear ho0 ho1)
      obtain ⟨Ao63, co63, eo63⟩ := Kd.R_slice HO902.out
      (first | subst eo63 | (injection eo63 with f1_ f2_ f3_; have f4_ := f1_.symm; have f5_ := f3_.symm; clear f1_ f2_ f3_; subst f4_; subst f5_))
      obtain ⟨Ao64, co64, eo64⟩ := Kd.R_slice HO905.out
      (first | subst eo64 | (injection eo64 with f1_ f2_ f3_; have f4_ := f1_.symm; have f5_ := f3_.symm; clear f1_ f2_ f3_; subst f4_; subst f5_))
      refine hK.out _ _ ⟨(blk_cell BK881.out 0).trans rfl, (blk_cell BK881.out 1).trans rfl, (blk_cell BK881.out 2).trans rfl, (blk_cell BK881.out 3).trans rfl, (blk_cell BK881.out 4).trans rfl, (blk_cell BK881.out 5).trans rfl, (blk_cell BK844.out 0).trans rfl, (blk_cell BK844.out 1).trans rfl, (blk_cell BK844.out 2).trans rfl, (blk_cell BK844.out 3).trans rfl, (blk_cell BK844.out 4).trans rfl, (blk_cell BK844.out 5).trans rfl⟩ (fun hHeld => ?_)
      clear hK K
      refine norm_ (a' := ?_) ?_ ?_
      rotate_left
      ·show Act.put _ (some 54) _ = _
       simp only [Act.put, List.setIfInBounds_toArray, List.set_cons_zero, List.set_cons_succ, i64_w, i32_w]
       rfl
      refine one_ (i := 3) (N := some 55) #[true, true, true, true, false] rfl rfl (by kernel_rfl) (by decide) (fun K hK => ?_)
      refine goes_ Try.func23 (by kernel_rfl) rfl #[.agg #[.bool t871, .slice Ao31 t872.length co31, .slice Ao32 t875.length co32, .int .i64 t878, .int .i64 t879, .int .i64 t880], .agg #[.bool t899, .slice Ao63 t900.length co63, .slice Ao64 t903.length co64, .int .i64 t906, .int .i64 t907, .int .i64 t908]] (by rfl) rfl rfl mpx ?_
      with_reducible refine (laws_eqNotify.calls kj10 t871 _ _ t872 _ _ t875 t878 t879 t880 t899 _ _ t900 _ _ t903 t906 t907 t908 true _ ?side1 ?side2 ?side3 ?side4 ?side5 ?side6 ?side7 ?side8 A57.out).mono ?_
      (case side1 => repeat (first | exact (Kd.Q_reads' HO_882001.out).2.2 | (with_reducible refine Kd.C_alloc ?_ _) | (with_reducible refine Kd.C_drewN ?_ _) | (with_reducible refine Kd.C_drew ?_)))
      (case side2 => exact (Kd.Q_reads' HO_882001.out).2.1)
      (case side3 => exact pkC (Kd.R_reads' HO_882002.out).2.2)
      (case side4 => exact (Kd.R_reads' HO_882002.out).2.1)
      (case side5 => exact pkC (Kd.R_reads' HO902.out).2.2)
      (case side6 => exact (Kd.R_reads' HO902.out).2.1)
      (case side7 => exact pkC (Kd.R_reads' HO905.out).2.2)
      (case side8 => exact (Kd.R_reads' HO905.out).2.1)
      rintro e w65 ⟨rfl, hb⟩
      refine ⟨_, rfl, ?_⟩
      replace HO_5 := am (Kd.R_below (pkR HO_5.out) hb)
      replace HO_9 := am (Kd.Q_below (pkQ HO_9.out) hb)
      replace HO_871001 := am (Kd.R_below (pkR HO_871001.out) hb)
      replace HO_871002 := am (Kd.R_below (pkR HO_871002.out) hb)
      replace HO_882001 := am (Kd.Q_below (pkQ HO_882001.out) hb)
      replace HO_882002 := am (Kd.R_below (pkR HO_882002.out) hb)
      replace HO_897001 := am (Kd.Q_below (pkQ HO_897001.out) hb)
      replace HO_897002 := am (Kd.R_below (pkR HO_897002.out) hb)
      replace HO902 := am (Kd.R_below (pkR HO902.out) hb)
      replace HO905 := am (Kd.R_below (pkR HO905.out) hb)
      replace BK844 := am (blk_below (pkK BK844.out) hb)
      replace BK870 := am (blk_below (pkK BK870.out) hb)
      replace BK881 := am (blk_below (pkK BK881.out) hb)
      replace BK896 := am (blk_below (pkK BK896.out) hb)
      replace HB := am (below_step (pkW HB.out) hb)
      (try clear hb)
      refine hK.out _ _ ⟨(blk_cell BK881.out 0).trans rfl, (blk_cell BK881.out 1).trans rfl, (blk_cell BK881.out 2).trans rfl, (blk_cell BK881.out 3).trans rfl, (blk_cell BK881.out 4).trans rfl, (blk_cell BK881.out 5).trans rfl, (blk_cell BK844.out 0).trans rfl, (blk_cell BK844.out 1).trans rfl, (blk_cell BK844.out 2).trans rfl, (blk_cell BK844.out 3).trans rfl, (blk_cell BK844.out 4).trans rfl, (blk_cell BK844.out 5).trans rfl⟩ (fun hHeld => ?_)
      clear hK K
      refine norm_ (a' := ?_) ?_ ?_
      rotate_left
      ·show Act.put _ (some 55) _ = _
       simp only [Act.put, List.setIfInBounds_toArray, List.set_cons_zero, List.set_cons_succ, i64_w, i32_w]
       rfl
      refine pure_ (i := 4) (N := some 56) (v := ?_) (a' := ?_) #[true, true, true, true, true] rfl rfl (by kernel_rfl) (fun _ _ _ h => h) (Or.inl ⟨by rfl, ?_⟩) ?_ ?_
      rotate_left
      ·intro w'
       go_simp
       with_reducible rfl
      rotate_left
      ·simp only [Act.put, List.setIfInBounds_toArray, List.set_cons_zero, List.set_cons_succ, i64_w, i32_w]
       rfl
      refine done_ (by kernel_rfl) ?_
      have hnb66 := NB881_844.out
      have hnc66 := NB844_881.out
      have hnb67 := NB881_870.out
      have hnc67 := NB870_881.out
      have hnb68 := NB881_896.out
      have hnc68 := NB896_881.out
      obtain ⟨hcz69_0, hcz69_1, hcz69_2, hcz69_3, hcz69_4, hcz69_5, hfz69_0, hfz69_1, hfz69_2, hfz69_3, hfz69_4, hfz69_5⟩ := bk6 BK881.out
      go_upto_region 14 with (first | ((with_reducible refine gate_callee (f := 35) rfl ?_); refine goesL_ (some 59) rfl rfl Try.func35 (by kernel_rfl) rfl #[.agg #[.bool t871, .slice Ao31 t872.length co31, .slice Ao32 t875.length co32, .int .i64 t878, .int .i64 t879, .int .i64 t880], .int .i64 1] rfl mpx ?_; (with_reducible refine (laws_markNotify.calls kj10 t871 (fun k_ => some k_ = (.slice Ao31 t872.length co31 : Value).ownBlock) (.slice Ao31 t872.length co31) t872 (fun k_ => some k_ = (.slice Ao32 t875.length co32 : Value).ownBlock) (.slice Ao32 t875.length co32) t875 t878 t879 t880 1 t910 t911 t912 w _ ?side1 ?side2 ?side3 A59.out).mono ?_); (case side1 => repeat (first | (with_reducible first | exact HB.out | apply below_alloc | apply pw_below_drewN | apply below_drew1 | refine below_set ?_ GE844.out | refine below_set ?_ GE870.out | refine below_set ?_ GE881.out | refine below_set ?_ GE896.out) | exact HB.out)); (case side2 => exact Kd.Q_tight rfl HO_882001.out); (case side3 => exact Kd.R_tight rfl HO_882002.out); rintro e w70 ⟨rfl, hy0, hy1, hb, hkp⟩; refine ⟨_, rfl, ?_⟩; replace HO_5 := am (Kd.R_mono (ok' := fun k_ => some k_ ≠ (v893 : Value).ownBlock ∧ some k_ ≠ (.slice Ao23 t857.length co23 : Value).ownBlock ∧ some k_ ≠ (.slice Ao31 t872.length co31 : Value).ownBlock ∧ some k_ ≠ (.slice Ao39 t883.length co39 : Value).ownBlock ∧ some k_ ≠ (.slice Ao63 t900.length co63 : Value).ownBlock) (Kd.R_keptB ((Kd.R_apart' HO_5.out (Kd.R_typed HO_882002.out) (by decide))) hkp (fun k_ hk_ hs_ => Or.elim hs_ (fun e_ => (hk_.1.1.2.2.1) e_) (fun e_ => (hk_.2) e_))) (fun k_ hk_ => ⟨hk_.1.1.1.1, hk_.1.1.1.2.1, hk_.1.1.1.2.2.1, hk_.1.1.1.2.2.2, hk_.1.1.2⟩)); replace HO_9 := am (Kd.Q_mono (ok' := fun k_ => some k_ ≠ (v867 : Value).ownBlock ∧ some k_ ≠ (.slice Ao23 t857.length co23 : Value).ownBlock ∧ some k_ ≠ (.slice Ao31 t872.length co31 : Value).ownBlock ∧ some k_ ≠ (.slice Ao39 t883.length co39 : Value).ownBlock ∧ some k_ ≠ (.slice Ao63 t900.length co63 : Value).ownBlock) (Kd.Q_keptB ((Kd.Q_apart' HO_9.out (Kd.R_typed HO_882002.out) (by decide))) hkp (fun k_ hk_ hs_ => Or.elim hs_ (fun e_ => (hk_.1.1.2.2.1) e_) (fun e_ => (hk_.2) e_))) (fun k_ hk_ => ⟨hk_.1.1.1.1, hk_.1.1.1.2.1, hk_.1.1.1.2.2.1, hk_.1.1.1.2.2.2, hk_.1.1.2⟩)); replace HO_871001 := am (Kd.R_mono (ok' := fun k_ => some k_ ≠ (v867 : Value).ownBlock ∧ some k_ ≠ (v893 : Value).ownBlock ∧ some k_ ≠ (.slice Ao31 t872.length co31 : Value).ownBlock ∧ some k_ ≠ (.slice Ao39 t883.length co39 : Value).ownBlock ∧ some k_ ≠ (.slice Ao63 t900.length co63 : Value).ownBlock) (Kd.R_keptB ((Kd.R_apart' HO_871001.out (Kd.R_typed HO_882002.out) (by decide))) hkp (fun k_ hk_ hs_ => Or.elim hs_ (fun e_ => (hk_.1.1.2.2.1) e_) (fun e_ => (hk_.2) e_))) (fun k_ hk_ => ⟨hk_.1.1.1.1, hk_.1.1.1.2.1, hk_.1.1.1.2.2.1, hk_.1.1.1.2.2.2, hk_.1.1.2⟩)); replace HO_871002 := am (Kd.R_mono (ok' := fun k_ => some k_ ≠ (.slice Ao32 t875.length co32 : Value).ownBlock ∧ some k_ ≠ (.slice Ao40 t886.length co40 : Value).ownBlock ∧ some k_ ≠ (.slice Ao64 t903.length co64 : Value).ownBlock) (Kd.R_keptB ((Kd.R_apart' HO_871002.out (Kd.Q_typed HO_882001.out) (by decide))) hkp (fun k_ hk_ hs_ => Or.elim hs_ (fun e_ => (hk_.2) e_) (fun e_ => (hk_.1.1.1) e_))) (fun k_ hk_ => ⟨hk_.1.1.1.1, hk_.1.1.1.2, hk_.1.1.2⟩)); replace HO_897001 := am (Kd.Q_mono (ok' := fun k_ => some k_ ≠ (v867 : Value).ownBlock ∧ some k_ ≠ (v893 : Value).ownBlock ∧ some k_ ≠ (.slice Ao23 t857.length co23 : Value).ownBlock ∧ some k_ ≠ (.slice Ao31 t872.length co31 : Value).ownBlock ∧ some k_ ≠ (.slice Ao63 t900.length co63 : Value).ownBlock) (Kd.Q_keptB ((Kd.Q_apart' HO_897001.out (Kd.R_typed HO_882002.out) (by decide))) hkp (fun k_ hk_ hs_ => Or.elim hs_ (fun e_ => (hk_.1.1.2.2.2) e_) (fun e_ => (hk_.2) e_))) (fun k_ hk_ => ⟨hk_.1.1.1.1, hk_.1.1.1.2.1, hk_.1.1.1.2.2.1, hk_.1.1.1.2.2.2, hk_.1.1.2⟩)); replace HO_897002 := am (Kd.R_mono (ok' := fun k_ => some k_ ≠ (.slice Ao24 t860.length co24 : Value).ownBlock ∧ some k_ ≠ (.slice Ao32 t875.length co32 : Value).ownBlock ∧ some k_ ≠ (.slice Ao64 t903.length co64 : Value).ownBlock) (Kd.R_keptB ((Kd.R_apart' HO_897002.out (Kd.Q_typed HO_882001.out) (by decide))) hkp (fun k_ hk_ hs_ => Or.elim hs_ (fun e_ => (hk_.2) e_) (fun e_ => (hk_.1.1.2) e_))) (fun k_ hk_ => ⟨hk_.1.1.1.1, hk_.1.1.1.2, hk_.1.1.2⟩)); replace BK844 := am (blk_kept (pkK BK844.out) hkp (fun hs_ => Or.elim hs_ (fun e_ => (fun e_ => (Kd.Q_ne HO_882001.out BK844.out (by decide)) e_) e_) (fun e_ => (fun e_ => (Kd.R_ne HO_882002.out BK844.out (by decide)) e_) e_))); replace BK870 := am (blk_kept (pkK BK870.out) hkp (fun hs_ => Or.elim hs_ (fun e_ => (fun e_ => (Kd.Q_ne HO_882001.out BK870.out (by decide)) e_) e_) (fun e_ => (fun e_ => (Kd.R_ne HO_882002.out BK870.out (by decide)) e_) e_))); replace BK881 := am (blk_kept (pkK BK881.out) hkp (fun hs_ => Or.elim hs_ (fun e_ => (fun e_ => (Kd.Q_ne HO_882001.out BK881.out (by decide)) e_) e_) (fun e_ => (fun e_ => (Kd.R_ne HO_882002.out BK881.out (by decide)) e_) e_))); replace BK896 := am (blk_kept (pkK BK896.out) hkp (fun hs_ => Or.elim hs_ (fun e_ => (fun e_ => (Kd.Q_ne HO_882001.out BK896.out (by decide)) e_) e_) (fun e_ => (fun e_ => (Kd.R_ne HO_882002.out BK896.out (by decide)) e_) e_))); replace HO902 := am (Kd.R_mono (ok' := fun k_ => some k_ ≠ (v867 : Value).ownBlock ∧ some k_ ≠ (v893 : Value).ownBlock ∧ some k_ ≠ (.slice Ao23 t857.length co23 : Value).ownBlock ∧ some k_ ≠ (.slice Ao31 t872.length co31 : Value).ownBlock ∧ some k_ ≠ (.slice Ao39 t883.length co39 : Value).ownBlock) (Kd.R_keptB ((Kd.R_apart' HO902.out (Kd.R_typed HO_882002.out) (by decide))) hkp (fun k_ hk_ hs_ => Or.elim hs_ (fun e_ => (hk_.1.1.2) e_) (fun e_ => (hk_.2) e_))) (fun k_ hk_ => ⟨hk_.1.1.1.1.1.1.2, hk_.1.1.1.1.1.2, hk_.1.1.1.1.2, hk_.1.1.1.2, hk_.1.1.2⟩)); replace HO_882002 := am (Kd.R_reok rfl hy1 (fun k_ e_ => HO_882002.out.1 k_ e_)); replace HO905 := am (Kd.R_mono (ok' := fun k_ => some k_ ≠ (.slice Ao24 t860.length co24 : Value).ownBlock ∧ some k_ ≠ (.slice Ao32 t875.length co32 : Value).ownBlock ∧ some k_ ≠ (.slice Ao40 t886.length co40 : Value).ownBlock) (Kd.R_keptB ((Kd.R_apart' HO905.out (Kd.Q_typed HO_882001.out) (by decide))) hkp (fun k_ hk_ hs_ => Or.elim hs_ (fun e_ => (hk_.2) e_) (fun e_ => (hk_.1.1.2) e_))) (fun k_ hk_ => ⟨hk_.1.1.1.1.2, hk_.1.1.1.2, hk_.1.1.2⟩)); replace HO_882001 := am (Kd.Q_reok rfl hy0 (fun k_ e_ => HO_882001.out.1 k_ e_)); replace HB := am (hb); (try clear hb); (try clear hkp); (try clear hy0); (try clear hy1)))
      (try simp only [Act.put, List.setIfInBounds_toArray, List.set_cons_zero, List.set_cons_succ])
      go_cut [78] (fun v78 wc => ∃ (kq : Nat) (x78_59 : Bool), v78 = .bool x78_59 ∧ Aside0 (laws_FnExactTellAll.j1 kq t866 t869 t892 x78_59 a0_0 l0_1 l0_2 a0_3 a0_4 a0_5 t856 t857 t860 t863 t864 t865 t882 t883 t886 t889 t890 t891 = some r) ∧ Aside0 (kq ≤ kj10) ∧ Aside0 (Kd.R (Kd.int .i64) 3 wc w.heap.size (fun k_ => some k_ ≠ (v893 : Value).ownBlock ∧ some k_ ≠ ((.slice Ao23 t857.length co23) : Value).ownBlock ∧ some k_ ≠ ((.slice Ao31 t872.length co31) : Value).ownBlock ∧ some k_ ≠ ((.slice Ao39 t883.length co39) : Value).ownBlock) v867 t866) ∧ Aside0 (Kd.Q (Kd.int .i64) 3 wc w.heap.size (fun k_ => some k_ ≠ (v867 : Value).ownBlock ∧ some k_ ≠ ((.slice Ao23 t857.length co23) : Value).ownBlock ∧ some k_ ≠ ((.slice Ao31 t872.length co31) : Value).ownBlock ∧ some k_ ≠ ((.slice Ao39 t883.length co39) : Value).ownBlock) v893 t892) ∧ Aside0 (Kd.R (Kd.int .i64) 3 wc w.heap.size (fun k_ => some k_ ≠ (v867 : Value).ownBlock ∧ some k_ ≠ (v893 : Value).ownBlock ∧ some k_ ≠ ((.slice Ao31 t872.length co31) : Value).ownBlock ∧ some k_ ≠ ((.slice Ao39 t883.length co39) : Value).ownBlock) (.slice Ao23 t857.length co23) t857) ∧ Aside0 (Kd.R k67 67 wc w.heap.size (fun k_ => some k_ ≠ ((.slice Ao32 t875.length co32) : Value).ownBlock ∧ some k_ ≠ ((.slice Ao40 t886.length co40) : Value).ownBlock) (.slice Ao24 t860.length co24) t860) ∧ Aside0 (Kd.Q (Kd.int .i64) 3 wc w.heap.size (fun k_ => some k_ ≠ (v867 : Value).ownBlock ∧ some k_ ≠ (v893 : Value).ownBlock ∧ some k_ ≠ ((.slice Ao23 t857.length co23) : Value).ownBlock ∧ some k_ ≠ ((.slice Ao39 t883.length co39) : Value).ownBlock) (.slice Ao31 t872.length co31) t911) ∧ Aside0 (Kd.R k67 67 wc w.heap.size (fun k_ => some k_ ≠ ((.slice Ao24 t860.length co24) : Value).ownBlock ∧ some k_ ≠ ((.slice Ao40 t886.length co40) : Value).ownBlock) (.slice Ao32 t875.length co32) t912) ∧ Aside0 (Kd.Q (Kd.int .i64) 3 wc w.heap.size (fun k_ => some k_ ≠ (v867 : Value).ownBlock ∧ some k_ ≠ (v893 : Value).ownBlock ∧ some k_ ≠ ((.slice Ao23 t857.length co23) : Value).ownBlock ∧ some k_ ≠ ((.slice Ao31 t872.length co31) : Value).ownBlock) (.slice Ao39 t883.length co39) t883) ∧ Aside0 (Kd.R k67 67 wc w.heap.size (fun k_ => some k_ ≠ ((.slice Ao24 t860.length co24) : Value).ownBlock ∧ some k_ ≠ ((.slice Ao32 t875.length co32) : Value).ownBlock) (.slice Ao40 t886.length co40) t886) ∧ Aside0 (wc.heap[gb844]? = some (.cells #[.bool a0_0, (.slice A0_1 l0_1.length c0_1), (.slice A0_2 l0_2.length c0_2), .int .i64 a0_3, .int .i64 a0_4, .int .i64 a0_5] 33 (0, 0))) ∧ Aside0 (wc.heap[gb870]? = some (.cells #[.bool t856, (.slice Ao23 t857.length co23), (.slice Ao24 t860.length co24), .int .i64 t863, .int .i64 t864, .int .i64 t865] 38 (0, 0))) ∧ Aside0 (wc.heap[gb881]? = some (.cells #[.bool t871, (.slice Ao31 t872.length co31), (.slice Ao32 t875.length co32), .int .i64 t878, .int .i64 t879, .int .i64 t880] 38 (0, 0))) ∧ Aside0 (wc.heap[gb896]? = some (.cells #[.bool t882, (.slice Ao39 t883.length co39), (.slice Ao40 t886.length co40), .int .i64 t889, .int .i64 t890, .int .i64 t891] 38 (0, 0))) ∧ Aside0 (Below w.heap.size w wc))
      case first =>
       have H := HC60.out
       clear HC60
       by_cases c71 : t910 < 0
       ·rw [if_pos c71] at H
        have c71b0 : decide (t910 < 0) = true := decide_eq_true c71
        clear c71
        (first | rw [c71b0] | (simp only [i64_w, i32_w]; rw [c71b0]) | skip)
        cases kj10 with
        | zero => exact absurd H (by simp [laws_FnExactTellAll.j1])
        | succ k_ => (simp only [laws_FnExactTellAll.j1, if_pos] at H; exact absurd (Option.some.inj H) (by rw [HQ_.out]; simp))
       ·rw [if_neg c71] at H
        have c71b0 : decide (t910 < 0) = false := decide_eq_false c71
        clear c71
        (first | rw [c71b0] | (simp only [i64_w, i32_w]; rw [c71b0]) | skip)
        replace H := Option.bind_eq_some_iff.mp H
        obtain ⟨t913, A720, H⟩ := H
        replace H : (if t913 = true then ((laws_eqIntS.f kj10 t892 t866).bind fun t914 => (if t914 = true then (laws_FnExactTellAll.j1 kj10 t866 t869 t892 (t895 != t869) a0_0 l0_1 l0_2 a0_3 a0_4 a0_5 t856 t857 t860 t863 t864 t865 t882 t883 t886 t889 t890 t891) else (laws_FnExactTellAll.j1 kj10 t866 t869 t892 true a0_0 l0_1 l0_2 a0_3 a0_4 a0_5 t856 t857 t860 t863 t864 t865 t882 t883 t886 t889 t890 t891))) else (laws_FnExactTellAll.j1 kj10 t866 t869 t892 true a0_0 l0_1 l0_2 a0_3 a0_4 a0_5 t856 t857 t860 t863 t864 t865 t882 t883 t886 t889 t890 t891)) = some r := H
        have A72 := am A720
        clear A720
        by_cases c73 : t913 = true
        ·subst c73
         replace H : ((laws_eqIntS.f kj10 t892 t866).bind fun t914 => (if t914 = true then (laws_FnExactTellAll.j1 kj10 t866 t869 t892 (t895 != t869) a0_0 l0_1 l0_2 a0_3 a0_4 a0_5 t856 t857 t860 t863 t864 t865 t882 t883 t886 t889 t890 t891) else (laws_FnExactTellAll.j1 kj10 t866 t869 t892 true a0_0 l0_1 l0_2 a0_3 a0_4 a0_5 t856 t857 t860 t863 t864 t865 t882 t883 t886 t889 t890 t891))) = some r := by rw [if_pos rfl] at H; exact H
         replace H := Option.bind_eq_some_iff.mp H
         obtain ⟨t914, A740, H⟩ := H
         replace H : (if t914 = true then (laws_FnExactTellAll.j1 kj10 t866 t869 t892 (t895 != t869) a0_0 l0_1 l0_2 a0_3 a0_4 a0_5 t856 t857 t860 t863 t864 t865 t882 t883 t886 t889 t890 t891) else (laws_FnExactTellAll.j1 kj10 t866 t869 t892 true a0_0 l0_1 l0_2 a0_3 a0_4 a0_5 t856 t857 t860 t863 t864 t865 t882 t883 t886 t889 t890 t891)) = some r := H
         have A74 := am A740
         clear A740
         by_cases c75 : t914 = true
         ·subst c75
          replace H : (laws_FnExactTellAll.j1 kj10 t866 t869 t892 (t895 != t869) a0_0 l0_1 l0_2 a0_3 a0_4 a0_5 t856 t857 t860 t863 t864 t865 t882 t883 t886 t889 t890 t891) = some r := by rw [if_pos rfl] at H; exact H
          have H' := am H
          clear H
          have hnb76 := NB896_844.out
          have hnc76 := NB844_896.out
          have hnb77 := NB896_870.out
          have hnc77 := NB870_896.out
          have hnb78 := NB896_881.out
          have hnc78 := NB881_896.out
          obtain ⟨hcz79_0, hcz79_1, hcz79_2, hcz79_3, hcz79_4, hcz79_5, hfz79_0, hfz79_1, hfz79_2, hfz79_3, hfz79_4, hfz79_5⟩ := bk6 BK896.out
          have hnb80 := NB870_844.out
          have hnc80 := NB844_870.out
          have hnb81 := NB870_881.out
          have hnc81 := NB881_870.out
          obtain ⟨hcz82_0, hcz82_1, hcz82_2, hcz82_3, hcz82_4, hcz82_5, hfz82_0, hfz82_1, hfz82_2, hfz82_3, hfz82_4, hfz82_5⟩ := bk6 BK870.out
          go_wp2_with (first | (go_at_call 23; (with_reducible refine (laws_eqNotify.calls kj10 t882 _ _ t883 _ _ t886 t889 t890 t891 t856 _ _ t857 _ _ t860 t863 t864 t865 true _ ?side1 ?side2 ?side3 ?side4 ?side5 ?side6 ?side7 ?side8 A72.out).mono ?_); (case side1 => repeat (first | exact (Kd.Q_reads' HO_897001.out).2.2 | (with_reducible refine Kd.C_alloc ?_ _) | (with_reducible refine Kd.C_drewN ?_ _) | (with_reducible refine Kd.C_drew ?_))); (case side2 => exact (Kd.Q_reads' HO_897001.out).2.1); (case side3 => exact pkC (Kd.R_reads' HO_897002.out).2.2); (case side4 => exact (Kd.R_reads' HO_897002.out).2.1); (case side5 => exact pkC (Kd.R_reads' HO_871001.out).2.2); (case side6 => exact (Kd.R_reads' HO_871001.out).2.1); (case side7 => exact pkC (Kd.R_reads' HO_871002.out).2.2); (case side8 => exact (Kd.R_reads' HO_871002.out).2.1); rintro e w83 ⟨rfl, hb⟩; replace HO_5 := am (Kd.R_below (pkR HO_5.out) hb); replace HO_9 := am (Kd.Q_below (pkQ HO_9.out) hb); replace HO_871001 := am (Kd.R_below (pkR HO_871001.out) hb); replace HO_871002 := am (Kd.R_below (pkR HO_871002.out) hb); replace HO_882001 := am (Kd.Q_below (pkQ HO_882001.out) hb); replace HO_882002 := am (Kd.R_below (pkR HO_882002.out) hb); replace HO_897001 := am (Kd.Q_below (pkQ HO_897001.out) hb); replace HO_897002 := am (Kd.R_below (pkR HO_897002.out) hb); replace HO902 := am (Kd.R_below (pkR HO902.out) hb); replace HO905 := am (Kd.R_below (pkR HO905.out) hb); replace BK844 := am (blk_below (pkK BK844.out) hb); replace BK870 := am (blk_below (pkK BK870.out) hb); replace BK881 := am (blk_below (pkK BK881.out) hb); replace BK896 := am (blk_below (pkK BK896.out) hb); replace HB := am (below_step (pkW HB.out) hb); (try clear hb); obtain ⟨Ao84, co84, eo84, _⟩ := Kd.Q_slice HO_9.out; subst eo84; obtain ⟨Ao85, co85, eo85⟩ := Kd.R_slice HO_5.out; subst eo85) | (go_at_call 34; (with_reducible refine (laws_eqIntS.calls kj10 _ _ t892 _ _ t866 true _ ?side1 ?side2 ?side3 ?side4 A74.out).mono ?_); (case side1 => repeat (first | exact (Kd.Q_reads' HO_9.out).2.2 | (with_reducible refine Kd.C_alloc ?_ _) | (with_reducible refine Kd.C_drewN ?_ _) | (with_reducible refine Kd.C_drew ?_))); (case side2 => exact (Kd.Q_reads' HO_9.out).2.1); (case side3 => exact pkC (Kd.R_reads' HO_5.out).2.2); (case side4 => exact (Kd.R_reads' HO_5.out).2.1); rintro e w' ⟨rfl, ⟨nd, rfl⟩⟩))
          go_meet
          case rel => exact ⟨_, ((t895 != t869)), rfx, H', ⟨by have := HJ10.out; first | omega | exact Nat.le_refl _⟩, ⟨by (with_reducible repeat (first | apply Kd.R_alloc | apply Kd.R_drewN | apply Kd.R_drew)); exact Kd.R_mono HO_5.out (fun _ hk => ⟨hk.1, ⟨hk.2.1, ⟨hk.2.2.1, hk.2.2.2.1⟩⟩⟩)⟩, ⟨by (with_reducible repeat (first | apply Kd.Q_alloc | apply Kd.Q_drewN | apply Kd.Q_drew)); exact Kd.Q_mono HO_9.out (fun _ hk => ⟨hk.1, ⟨hk.2.1, ⟨hk.2.2.1, hk.2.2.2.1⟩⟩⟩)⟩, ⟨by (with_reducible repeat (first | apply Kd.R_alloc | apply Kd.R_drewN | apply Kd.R_drew)); exact Kd.R_mono HO_871001.out (fun _ hk => ⟨hk.1, ⟨hk.2.1, ⟨hk.2.2.1, hk.2.2.2.1⟩⟩⟩)⟩, ⟨by (with_reducible repeat (first | apply Kd.R_alloc | apply Kd.R_drewN | apply Kd.R_drew)); exact Kd.R_mono HO_871002.out (fun _ hk => ⟨hk.1, hk.2.1⟩)⟩, ⟨by (with_reducible repeat (first | apply Kd.Q_alloc | apply Kd.Q_drewN | apply Kd.Q_drew)); exact Kd.Q_mono HO_882001.out (fun _ hk => ⟨hk.1.1, ⟨hk.1.2.1, ⟨hk.1.2.2.1, hk.1.2.2.2⟩⟩⟩)⟩, ⟨by (with_reducible repeat (first | apply Kd.R_alloc | apply Kd.R_drewN | apply Kd.R_drew)); exact Kd.R_mono HO_882002.out (fun _ hk => ⟨hk.1.1, hk.1.2⟩)⟩, ⟨by (with_reducible repeat (first | apply Kd.Q_alloc | apply Kd.Q_drewN | apply Kd.Q_drew)); exact Kd.Q_mono HO_897001.out (fun _ hk => ⟨hk.1, ⟨hk.2.1, ⟨hk.2.2.1, hk.2.2.2.1⟩⟩⟩)⟩, ⟨by (with_reducible repeat (first | apply Kd.R_alloc | apply Kd.R_drewN | apply Kd.R_drew)); exact Kd.R_mono HO_897002.out (fun _ hk => ⟨hk.1, hk.2.1⟩)⟩, ⟨pkK BK844.out⟩, ⟨pkK BK870.out⟩, ⟨pkK BK881.out⟩, ⟨pkK BK896.out⟩, ⟨pkW HB.out⟩⟩
         ·replace c75 := Bool.eq_false_iff.mpr c75
          subst c75
          replace H : (laws_FnExactTellAll.j1 kj10 t866 t869 t892 true a0_0 l0_1 l0_2 a0_3 a0_4 a0_5 t856 t857 t860 t863 t864 t865 t882 t883 t886 t889 t890 t891) = some r := by rw [if_neg (show ¬ (false = true) by decide)] at H; exact H
          cases kj10 with
          | zero => exact absurd H (by simp [laws_FnExactTellAll.j1])
          | succ k_ => (simp only [laws_FnExactTellAll.j1, if_pos] at H; exact absurd (Option.some.inj H) (by rw [HQ_.out]; simp))
        ·replace c73 := Bool.eq_false_iff.mpr c73
         subst c73
         replace H : (laws_FnExactTellAll.j1 kj10 t866 t869 t892 true a0_0 l0_1 l0_2 a0_3 a0_4 a0_5 t856 t857 t860 t863 t864 t865 t882 t883 t886 t889 t890 t891) = some r := by rw [if_neg (show ¬ (false = true) by decide)] at H; exact H
         cases kj10 with
         | zero => exact absurd H (by simp [laws_FnExactTellAll.j1])
         | succ k_ => (simp only [laws_FnExactTellAll.j1, if_pos] at H; exact absurd (Option.some.inj H) (by rw [HQ_.out]; simp))
      case rest =>
       clear HC60
       try clear c1
       try clear c2
       try clear p2
       try clear c3
       try clear c3b0
       try clear c4
       try clear c5
       try clear c6
       try clear c7
       try clear c8
       try clear c19
       try clear c21
       try clear c23
       try clear c28
       try clear c29
       try clear c32
       try clear c33
       try clear c35
       try clear c36
       try clear c37
       try clear c42
       try clear c44
       try clear c45
       try clear c46
       try clear c47
       try clear c49
       try clear c50
       try clear c55
       try clear c58
       try clear c66
       try clear c67
       try clear c68
       try clear c71
       try clear c71b0
       try clear c73
       try clear c75
       try clear c76
       try clear c77
       try clear c78
       try clear c80
       try clear c81
       try clear hcz13_0
       try clear hcz13_1
       try clear hcz13_2
       try clear hcz13_3
       try clear hcz13_4
       try clear hcz13_5
       try clear hcz15_0
       try clear hcz15_1
       try clear hcz15_2
       try clear hcz15_3
       try clear hcz15_4
       try clear hcz15_5
       try clear hcz22_0
       try clear hcz22_1
       try clear hcz22_2
       try clear hcz22_3
       try clear hcz22_4
       try clear hcz22_5
       try clear hcz25_0
       try clear hcz25_1
       try clear hcz25_2
       try clear hcz25_3
       try clear hcz25_4
       try clear hcz25_5
       try clear hcz30_0
       try clear hcz30_1
       try clear hcz30_2
       try clear hcz30_3
       try clear hcz30_4
       try clear hcz30_5
       try clear hcz38_0
       try clear hcz38_1
       try clear hcz38_2
       try clear hcz38_3
       try clear hcz38_4
       try clear hcz38_5
       try clear hcz48_0
       try clear hcz48_1
       try clear hcz48_2
       try clear hcz48_3
       try clear hcz48_4
       try clear hcz48_5
       try clear hcz51_0
       try clear hcz51_1
       try clear hcz51_2
       try clear hcz51_3
       try clear hcz51_4
       try clear hcz51_5
       try clear hcz5_0
       try clear hcz5_1
       try clear hcz5_2
       try clear hcz5_3
       try clear hcz5_4
       try clear hcz5_5
       try clear hcz69_0
       try clear hcz69_1
       try clear hcz69_2
       try clear hcz69_3
       try clear hcz69_4
       try clear hcz69_5
       try clear hcz79_0
       try clear hcz79_1
       try clear hcz79_2
       try clear hcz79_3
       try clear hcz79_4
       try clear hcz79_5
       try clear hcz82_0
       try clear hcz82_1
       try clear hcz82_2
       try clear hcz82_3
       try clear hcz82_4
       try clear hcz82_5
       try clear hfz13_0
       try clear hfz13_1
       try clear hfz13_2
       try clear hfz13_3
       try clear hfz13_4
       try clear hfz13_5
       try clear hfz15_0
       try clear hfz15_1
       try clear hfz15_2
       try clear hfz15_3
       try clear hfz15_4
       try clear hfz15_5
       try clear hfz22_0
       try clear hfz22_1
       try clear hfz22_2
       try clear hfz22_3
       try clear hfz22_4
       try clear hfz22_5
       try clear hfz25_0
       try clear hfz25_1
       try clear hfz25_2
       try clear hfz25_3
       try clear hfz25_4
       try clear hfz25_5
       try clear hfz30_0
       try clear hfz30_1
       try clear hfz30_2
       try clear hfz30_3
       try clear hfz30_4
       try clear hfz30_5
       try clear hfz38_0
       try clear hfz38_1
       try clear hfz38_2
       try clear hfz38_3
       try clear hfz38_4
       try clear hfz38_5
       try clear hfz48_0
       try clear hfz48_1
       try clear hfz48_2
       try clear hfz48_3
       try clear hfz48_4
       try clear hfz48_5
       try clear hfz51_0
       try clear hfz51_1
       try clear hfz51_2
       try clear hfz51_3
       try clear hfz51_4
       try clear hfz51_5
       try clear hfz5_0
       try clear hfz5_1
       try clear hfz5_2
       try clear hfz5_3
       try clear hfz5_4
       try clear hfz5_5
       try clear hfz69_0
       try clear hfz69_1
       try clear hfz69_2
       try clear hfz69_3
       try clear hfz69_4
       try clear hfz69_5
       try clear hfz79_0
       try clear hfz79_1
       try clear hfz79_2
       try clear hfz79_3
       try clear hfz79_4
       try clear hfz79_5
       try clear hfz82_0
       try clear hfz82_1
       try clear hfz82_2
       try clear hfz82_3
       try clear hfz82_4
       try clear hfz82_5
       try clear p2
       obtain ⟨kq, x78_59, rfl, HA, HJ59, HO_5, HO_9, HO_871001, HO_871002, HO_882001, HO_882002, HO_897001, HO_897002, BK844, BK870, BK881, BK896, HB⟩ := hcut
       have hl882001_59 := (Kd.Q_reads' HO_882001.out).1
       rw [hl882001_59] at HO_882001
       (try simp only [hl882001_59])
       (try simp only [hl882001_59] at BK844)
       (try simp only [hl882001_59] at BK870)
       (try simp only [hl882001_59] at BK881)
       (try simp only [hl882001_59] at BK896)
       (try simp only [hl882001_59] at HO_5)
       (try simp only [hl882001_59] at HO_9)
       (try simp only [hl882001_59] at HO_871001)
       (try simp only [hl882001_59] at HO_871002)
       (try simp only [hl882001_59] at HO_882002)
       (try simp only [hl882001_59] at HO_897001)
       (try simp only [hl882001_59] at HO_897002)
       have hl882002_59 := (Kd.R_reads' HO_882002.out).1
       rw [hl882002_59] at HO_882002
       (try simp only [hl882002_59])
       (try simp only [hl882002_59] at BK844)
       (try simp only [hl882002_59] at BK870)
       (try simp only [hl882002_59] at BK881)
       (try simp only [hl882002_59] at BK896)
       (try simp only [hl882002_59] at HO_5)
       (try simp only [hl882002_59] at HO_9)
       (try simp only [hl882002_59] at HO_871001)
       (try simp only [hl882002_59] at HO_871002)
       (try simp only [hl882002_59] at HO_882001)
       (try simp only [hl882002_59] at HO_897001)
       (try simp only [hl882002_59] at HO_897002)
       cases kq with
       | zero => exact absurd HA.out (by simp [laws_FnExactTellAll.j1])
       | succ kj59 =>
        have H := HA.out
        clear HA
        simp only [laws_FnExactTellAll.j1] at H
        by_cases c86 : x78_59 = true
        ·subst c86
         replace H : (some false) = some r := by rw [if_pos rfl] at H; exact H
         exact absurd (Option.some.inj H) (by rw [HQ_.out]; simp)
        ·replace c86 := Bool.eq_false_iff.mpr c86
         subst c86
         replace H : ((laws_markNotify.f kj59 t882 t883 t886 t889 t890 t891 1).bind fun bt915 => ((laws_markIntS.f kj59 t892 bt915.1).bind fun bt918 => ((laws_heldNotify.f kj59 t882 bt915.2.1 bt915.2.2 t889 t890 t891 1).bind fun t920 => (if t920 < 0 then (some false) else ((laws_heldIntS.f kj59 bt918.2 t920).bind fun t921 => (if t921 < 0 then (some false) else (if t921 = bt918.1 then ((laws_toNotify.f kj59 a0_0 l0_1 l0_2 a0_3 a0_4 a0_5).bind fun bt922 => ((impl_TellAll.f kj59 bt922.1 bt922.2.1 bt922.2.2.1 bt922.2.2.2.1 bt922.2.2.2.2.1 bt922.2.2.2.2.2).bind fun bt932 => ((laws_eqNotify.f kj59 bt932.1 bt932.2.1 bt932.2.2.1 bt932.2.2.2.1 bt932.2.2.2.2.1 bt932.2.2.2.2.2.1 t856 t857 t860 t863 t864 t865).bind fun t947 => (if t947 = true then ((laws_eqIntS.f kj59 bt932.2.2.2.2.2.2.1 t866).bind fun t948 => (if t948 = true then (laws_FnExactTellAll.j2 kj59 bt918.2 bt918.1 (bt932.2.2.2.2.2.2.2 != t869) t882 bt915.2.1 bt915.2.2 t889 t890 t891) else (laws_FnExactTellAll.j2 kj59 bt918.2 bt918.1 true t882 bt915.2.1 bt915.2.2 t889 t890 t891))) else (laws_FnExactTellAll.j2 kj59 bt918.2 bt918.1 true t882 bt915.2.1 bt915.2.2 t889 t890 t891))))) else (some false)))))))) = some r := by rw [if_neg (show ¬ (false = true) by decide)] at H; exact H
         replace H := Option.bind_eq_some_iff.mp H
         obtain ⟨⟨t915, t916, t917⟩, A870, H⟩ := H
         replace H : ((laws_markIntS.f kj59 t892 t915).bind fun bt918 => ((laws_heldNotify.f kj59 t882 t916 t917 t889 t890 t891 1).bind fun t920 => (if t920 < 0 then (some false) else ((laws_heldIntS.f kj59 bt918.2 t920).bind fun t921 => (if t921 < 0 then (some false) else (if t921 = bt918.1 then ((laws_toNotify.f kj59 a0_0 l0_1 l0_2 a0_3 a0_4 a0_5).bind fun bt922 => ((impl_TellAll.f kj59 bt922.1 bt922.2.1 bt922.2.2.1 bt922.2.2.2.1 bt922.2.2.2.2.1 bt922.2.2.2.2.2).bind fun bt932 => ((laws_eqNotify.f kj59 bt932.1 bt932.2.1 bt932.2.2.1 bt932.2.2.2.1 bt932.2.2.2.2.1 bt932.2.2.2.2.2.1 t856 t857 t860 t863 t864 t865).bind fun t947 => (if t947 = true then ((laws_eqIntS.f kj59 bt932.2.2.2.2.2.2.1 t866).bind fun t948 => (if t948 = true then (laws_FnExactTellAll.j2 kj59 bt918.2 bt918.1 (bt932.2.2.2.2.2.2.2 != t869) t882 t916 t917 t889 t890 t891) else (laws_FnExactTellAll.j2 kj59 bt918.2 bt918.1 true t882 t916 t917 t889 t890 t891))) else (laws_FnExactTellAll.j2 kj59 bt918.2 bt918.1 true t882 t916 t917 t889 t890 t891))))) else (some false))))))) = some r := H
         have A87 := am A870
         clear A870
         replace H := Option.bind_eq_some_iff.mp H
         obtain ⟨⟨t918, t919⟩, A880, H⟩ := H
         replace H : ((laws_heldNotify.f kj59 t882 t916 t917 t889 t890 t891 1).bind fun t920 => (if t920 < 0 then (some false) else ((laws_heldIntS.f kj59 t919 t920).bind fun t921 => (if t921 < 0 then (some false) else (if t921 = t918 then ((laws_toNotify.f kj59 a0_0 l0_1 l0_2 a0_3 a0_4 a0_5).bind fun bt922 => ((impl_TellAll.f kj59 bt922.1 bt922.2.1 bt922.2.2.1 bt922.2.2.2.1 bt922.2.2.2.2.1 bt922.2.2.2.2.2).bind fun bt932 => ((laws_eqNotify.f kj59 bt932.1 bt932.2.1 bt932.2.2.1 bt932.2.2.2.1 bt932.2.2.2.2.1 bt932.2.2.2.2.2.1 t856 t857 t860 t863 t864 t865).bind fun t947 => (if t947 = true then ((laws_eqIntS.f kj59 bt932.2.2.2.2.2.2.1 t866).bind fun t948 => (if t948 = true then (laws_FnExactTellAll.j2 kj59 t919 t918 (bt932.2.2.2.2.2.2.2 != t869) t882 t916 t917 t889 t890 t891) else (laws_FnExactTellAll.j2 kj59 t919 t918 true t882 t916 t917 t889 t890 t891))) else (laws_FnExactTellAll.j2 kj59 t919 t918 true t882 t916 t917 t889 t890 t891))))) else (some false)))))) = some r := H
         have A88 := am A880
         clear A880
         replace H := Option.bind_eq_some_iff.mp H
         obtain ⟨t920, A890, H⟩ := H
         replace H : (if t920 < 0 then (some false) else ((laws_heldIntS.f kj59 t919 t920).bind fun t921 => (if t921 < 0 then (some false) else (if t921 = t918 then ((laws_toNotify.f kj59 a0_0 l0_1 l0_2 a0_3 a0_4 a0_5).bind fun bt922 => ((impl_TellAll.f kj59 bt922.1 bt922.2.1 bt922.2.2.1 bt922.2.2.2.1 bt922.2.2.2.2.1 bt922.2.2.2.2.2).bind fun bt932 => ((laws_eqNotify.f kj59 bt932.1 bt932.2.1 bt932.2.2.1 bt932.2.2.2.1 bt932.2.2.2.2.1 bt932.2.2.2.2.2.1 t856 t857 t860 t863 t864 t865).bind fun t947 => (if t947 = true then ((laws_eqIntS.f kj59 bt932.2.2.2.2.2.2.1 t866).bind fun t948 => (if t948 = true then (laws_FnExactTellAll.j2 kj59 t919 t918 (bt932.2.2.2.2.2.2.2 != t869) t882 t916 t917 t889 t890 t891) else (laws_FnExactTellAll.j2 kj59 t919 t918 true t882 t916 t917 t889 t890 t891))) else (laws_FnExactTellAll.j2 kj59 t919 t918 true t882 t916 t917 t889 t890 t891))))) else (some false))))) = some r := H
         have A89 := am A890
         clear A890
         by_cases c90 : t920 < 0
         ·rw [if_pos c90] at H
          have c90b0 : decide (t920 < 0) = true := decide_eq_true c90
          clear c90
          exact absurd (Option.some.inj H) (by rw [HQ_.out]; simp)
         ·rw [if_neg c90] at H
          have c90b0 : decide (t920 < 0) = false := decide_eq_false c90
          clear c90
          replace H := Option.bind_eq_some_iff.mp H
          obtain ⟨t921, A910, H⟩ := H
          replace H : (if t921 < 0 then (some false) else (if t921 = t918 then ((laws_toNotify.f kj59 a0_0 l0_1 l0_2 a0_3 a0_4 a0_5).bind fun bt922 => ((impl_TellAll.f kj59 bt922.1 bt922.2.1 bt922.2.2.1 bt922.2.2.2.1 bt922.2.2.2.2.1 bt922.2.2.2.2.2).bind fun bt932 => ((laws_eqNotify.f kj59 bt932.1 bt932.2.1 bt932.2.2.1 bt932.2.2.2.1 bt932.2.2.2.2.1 bt932.2.2.2.2.2.1 t856 t857 t860 t863 t864 t865).bind fun t947 => (if t947 = true then ((laws_eqIntS.f kj59 bt932.2.2.2.2.2.2.1 t866).bind fun t948 => (if t948 = true then (laws_FnExactTellAll.j2 kj59 t919 t918 (bt932.2.2.2.2.2.2.2 != t869) t882 t916 t917 t889 t890 t891) else (laws_FnExactTellAll.j2 kj59 t919 t918 true t882 t916 t917 t889 t890 t891))) else (laws_FnExactTellAll.j2 kj59 t919 t918 true t882 t916 t917 t889 t890 t891))))) else (some false))) = some r := H
          have A91 := am A910
          clear A910
          by_cases c92 : t921 < 0
          ·rw [if_pos c92] at H
           have c92b0 : decide (t921 < 0) = true := decide_eq_true c92
           clear c92
           exact absurd (Option.some.inj H) (by rw [HQ_.out]; simp)
          ·rw [if_neg c92] at H
           have c92b0 : decide (t921 < 0) = false := decide_eq_false c92
           clear c92
           by_cases c93 : t921 = t918
           ·rw [if_pos c93] at H
            have c93b0 : (t921 == t918) = true := beq_iff_eq.mpr c93
            have c93b1 : (t921 != t918) = false := bne_eq_false_iff_eq.mpr c93
            clear c93
            replace H := Option.bind_eq_some_iff.mp H
            obtain ⟨⟨t922, t923, t926, t929, t930, t931⟩, A940, H⟩ := H
            replace H : ((impl_TellAll.f kj59 t922 t923 t926 t929 t930 t931).bind fun bt932 => ((laws_eqNotify.f kj59 bt932.1 bt932.2.1 bt932.2.2.1 bt932.2.2.2.1 bt932.2.2.2.2.1 bt932.2.2.2.2.2.1 t856 t857 t860 t863 t864 t865).bind fun t947 => (if t947 = true then ((laws_eqIntS.f kj59 bt932.2.2.2.2.2.2.1 t866).bind fun t948 => (if t948 = true then (laws_FnExactTellAll.j2 kj59 t919 t918 (bt932.2.2.2.2.2.2.2 != t869) t882 t916 t917 t889 t890 t891) else (laws_FnExactTellAll.j2 kj59 t919 t918 true t882 t916 t917 t889 t890 t891))) else (laws_FnExactTellAll.j2 kj59 t919 t918 true t882 t916 t917 t889 t890 t891)))) = some r := H
            have A94 := am A940
            clear A940
            replace H := Option.bind_eq_some_iff.mp H
            obtain ⟨⟨t932, t933, t936, t939, t940, t941, t942, t945⟩, A950, H⟩ := H
            replace H : ((laws_eqNotify.f kj59 t932 t933 t936 t939 t940 t941 t856 t857 t860 t863 t864 t865).bind fun t947 => (if t947 = true then ((laws_eqIntS.f kj59 t942 t866).bind fun t948 => (if t948 = true then (laws_FnExactTellAll.j2 kj59 t919 t918 (t945 != t869) t882 t916 t917 t889 t890 t891) else (laws_FnExactTellAll.j2 kj59 t919 t918 true t882 t916 t917 t889 t890 t891))) else (laws_FnExactTellAll.j2 kj59 t919 t918 true t882 t916 t917 t889 t890 t891))) = some r := H
            have A95 := am A950
            clear A950
            have HC96 := am H
            clear H
            have hnb97 := NB896_844.out
            have hnc97 := NB844_896.out
            have hnb98 := NB896_870.out
            have hnc98 := NB870_896.out
            have hnb99 := NB896_881.out
            have hnc99 := NB881_896.out
            obtain ⟨hcz100_0, hcz100_1, hcz100_2, hcz100_3, hcz100_4, hcz100_5, hfz100_0, hfz100_1, hfz100_2, hfz100_3, hfz100_4, hfz100_5⟩ := bk6 BK896.out
            go_upto_region 29 with (first | ((with_reducible refine gate_callee (f := 35) rfl ?_); refine goesL_ (some 81) rfl rfl Try.func35 (by kernel_rfl) rfl #[.agg #[.bool t882, .slice Ao39 t883.length co39, .slice Ao40 t886.length co40, .int .i64 t889, .int .i64 t890, .int .i64 t891], .int .i64 1] rfl mpx ?_; (with_reducible refine (laws_markNotify.calls kj59 t882 (fun k_ => some k_ = (.slice Ao39 t883.length co39 : Value).ownBlock) (.slice Ao39 t883.length co39) t883 (fun k_ => some k_ = (.slice Ao40 t886.length co40 : Value).ownBlock) (.slice Ao40 t886.length co40) t886 t889 t890 t891 1 t915 t916 t917 w _ ?side1 ?side2 ?side3 A87.out).mono ?_); (case side1 => repeat (first | (with_reducible first | exact HB.out | apply below_alloc | apply pw_below_drewN | apply below_drew1 | refine below_set ?_ GE844.out | refine below_set ?_ GE870.out | refine below_set ?_ GE881.out | refine below_set ?_ GE896.out) | exact HB.out)); (case side2 => exact Kd.Q_tight rfl HO_897001.out); (case side3 => exact Kd.R_tight rfl HO_897002.out); rintro e w101 ⟨rfl, hy0, hy1, hb, hkp⟩; refine ⟨_, rfl, ?_⟩; replace HO_5 := am (Kd.R_mono (ok' := fun k_ => some k_ ≠ (v893 : Value).ownBlock ∧ some k_ ≠ (.slice Ao23 t857.length co23 : Value).ownBlock ∧ some k_ ≠ (.slice Ao31 t911.length co31 : Value).ownBlock ∧ some k_ ≠ (.slice Ao39 t883.length co39 : Value).ownBlock) (Kd.R_keptB ((Kd.R_apart' HO_5.out (Kd.R_typed HO_897002.out) (by decide))) hkp (fun k_ hk_ hs_ => Or.elim hs_ (fun e_ => (hk_.1.2.2.2) e_) (fun e_ => (hk_.2) e_))) (fun k_ hk_ => ⟨hk_.1.1.1, hk_.1.1.2.1, hk_.1.1.2.2.1, hk_.1.1.2.2.2⟩)); replace HO_9 := am (Kd.Q_mono (ok' := fun k_ => some k_ ≠ (v867 : Value).ownBlock ∧ some k_ ≠ (.slice Ao23 t857.length co23 : Value).ownBlock ∧ some k_ ≠ (.slice Ao31 t911.length co31 : Value).ownBlock ∧ some k_ ≠ (.slice Ao39 t883.length co39 : Value).ownBlock) (Kd.Q_keptB ((Kd.Q_apart' HO_9.out (Kd.R_typed HO_897002.out) (by decide))) hkp (fun k_ hk_ hs_ => Or.elim hs_ (fun e_ => (hk_.1.2.2.2) e_) (fun e_ => (hk_.2) e_))) (fun k_ hk_ => ⟨hk_.1.1.1, hk_.1.1.2.1, hk_.1.1.2.2.1, hk_.1.1.2.2.2⟩)); replace HO_871001 := am (Kd.R_mono (ok' := fun k_ => some k_ ≠ (v867 : Value).ownBlock ∧ some k_ ≠ (v893 : Value).ownBlock ∧ some k_ ≠ (.slice Ao31 t911.length co31 : Value).ownBlock ∧ some k_ ≠ (.slice Ao39 t883.length co39 : Value).ownBlock) (Kd.R_keptB ((Kd.R_apart' HO_871001.out (Kd.R_typed HO_897002.out) (by decide))) hkp (fun k_ hk_ hs_ => Or.elim hs_ (fun e_ => (hk_.1.2.2.2) e_) (fun e_ => (hk_.2) e_))) (fun k_ hk_ => ⟨hk_.1.1.1, hk_.1.1.2.1, hk_.1.1.2.2.1, hk_.1.1.2.2.2⟩)); replace HO_871002 := am (Kd.R_mono (ok' := fun k_ => some k_ ≠ (.slice Ao32 t912.length co32 : Value).ownBlock ∧ some k_ ≠ (.slice Ao40 t886.length co40 : Value).ownBlock) (Kd.R_keptB ((Kd.R_apart' HO_871002.out (Kd.Q_typed HO_897001.out) (by decide))) hkp (fun k_ hk_ hs_ => Or.elim hs_ (fun e_ => (hk_.2) e_) (fun e_ => (hk_.1.2) e_))) (fun k_ hk_ => ⟨hk_.1.1.1, hk_.1.1.2⟩)); replace HO_882001 := am (Kd.Q_mono (ok' := fun k_ => some k_ ≠ (v867 : Value).ownBlock ∧ some k_ ≠ (v893 : Value).ownBlock ∧ some k_ ≠ (.slice Ao23 t857.length co23 : Value).ownBlock ∧ some k_ ≠ (.slice Ao39 t883.length co39 : Value).ownBlock) (Kd.Q_keptB ((Kd.Q_apart' HO_882001.out (Kd.R_typed HO_897002.out) (by decide))) hkp (fun k_ hk_ hs_ => Or.elim hs_ (fun e_ => (hk_.1.2.2.2) e_) (fun e_ => (hk_.2) e_))) (fun k_ hk_ => ⟨hk_.1.1.1, hk_.1.1.2.1, hk_.1.1.2.2.1, hk_.1.1.2.2.2⟩)); replace HO_882002 := am (Kd.R_mono (ok' := fun k_ => some k_ ≠ (.slice Ao24 t860.length co24 : Value).ownBlock ∧ some k_ ≠ (.slice Ao40 t886.length co40 : Value).ownBlock) (Kd.R_keptB ((Kd.R_apart' HO_882002.out (Kd.Q_typed HO_897001.out) (by decide))) hkp (fun k_ hk_ hs_ => Or.elim hs_ (fun e_ => (hk_.2) e_) (fun e_ => (hk_.1.2) e_))) (fun k_ hk_ => ⟨hk_.1.1.1, hk_.1.1.2⟩)); replace BK844 := am (blk_kept (pkK BK844.out) hkp (fun hs_ => Or.elim hs_ (fun e_ => (fun e_ => (Kd.Q_ne HO_897001.out BK844.out (by decide)) e_) e_) (fun e_ => (fun e_ => (Kd.R_ne HO_897002.out BK844.out (by decide)) e_) e_))); replace BK870 := am (blk_kept (pkK BK870.out) hkp (fun hs_ => Or.elim hs_ (fun e_ => (fun e_ => (Kd.Q_ne HO_897001.out BK870.out (by decide)) e_) e_) (fun e_ => (fun e_ => (Kd.R_ne HO_897002.out BK870.out (by decide)) e_) e_))); replace BK881 := am (blk_kept (pkK BK881.out) hkp (fun hs_ => Or.elim hs_ (fun e_ => (fun e_ => (Kd.Q_ne HO_897001.out BK881.out (by decide)) e_) e_) (fun e_ => (fun e_ => (Kd.R_ne HO_897002.out BK881.out (by decide)) e_) e_))); replace BK896 := am (blk_kept (pkK BK896.out) hkp (fun hs_ => Or.elim hs_ (fun e_ => (fun e_ => (Kd.Q_ne HO_897001.out BK896.out (by decide)) e_) e_) (fun e_ => (fun e_ => (Kd.R_ne HO_897002.out BK896.out (by decide)) e_) e_))); replace HO_897001 := am (Kd.Q_reok rfl hy0 (fun k_ e_ => HO_897001.out.1 k_ e_)); replace HO_897002 := am (Kd.R_reok rfl hy1 (fun k_ e_ => HO_897002.out.1 k_ e_)); replace HB := am (hb); (try clear hb); (try clear hkp); (try clear hy0); (try clear hy1); obtain ⟨Ao102, co102, eo102, _⟩ := Kd.Q_slice HO_9.out; subst eo102) | ((with_reducible refine gate_callee (f := 36) rfl ?_); refine goesL_ (some 84) rfl rfl Try.func36 (by kernel_rfl) rfl #[.slice Ao102 t892.length co102, .int .i64 t915] rfl mpx ?_; (with_reducible refine (laws_markIntS.calls kj59 (fun k_ => some k_ = (.slice Ao102 t892.length co102 : Value).ownBlock) (.slice Ao102 t892.length co102) t892 t915 t918 t919 w _ ?side1 ?side2 A88.out).mono ?_); (case side1 => repeat (first | (with_reducible first | exact HB.out | apply below_alloc | apply pw_below_drewN | apply below_drew1 | refine below_set ?_ GE844.out | refine below_set ?_ GE870.out | refine below_set ?_ GE881.out | refine below_set ?_ GE896.out) | exact HB.out)); (case side2 => exact Kd.Q_tight rfl HO_9.out); rintro e w103 ⟨rfl, hy0, hb, hkp⟩; refine ⟨_, rfl, ?_⟩; replace HO_5 := am (Kd.R_mono (ok' := fun k_ => some k_ ≠ (.slice Ao102 t892.length co102 : Value).ownBlock ∧ some k_ ≠ (.slice Ao23 t857.length co23 : Value).ownBlock ∧ some k_ ≠ (.slice Ao31 t911.length co31 : Value).ownBlock ∧ some k_ ≠ (.slice Ao39 t883.length co39 : Value).ownBlock) (Kd.R_keptB (HO_5.out) hkp (fun k_ hk_ hs_ => (hk_.1) hs_)) (fun k_ hk_ => ⟨hk_.1.1, hk_.1.2.1, hk_.1.2.2.1, hk_.1.2.2.2⟩)); replace HO_871001 := am (Kd.R_mono (ok' := fun k_ => some k_ ≠ (v867 : Value).ownBlock ∧ some k_ ≠ (.slice Ao102 t892.length co102 : Value).ownBlock ∧ some k_ ≠ (.slice Ao31 t911.length co31 : Value).ownBlock ∧ some k_ ≠ (.slice Ao39 t883.length co39 : Value).ownBlock) (Kd.R_keptB (HO_871001.out) hkp (fun k_ hk_ hs_ => (hk_.2.1) hs_)) (fun k_ hk_ => ⟨hk_.1.1, hk_.1.2.1, hk_.1.2.2.1, hk_.1.2.2.2⟩)); replace HO_871002 := am (Kd.R_mono (ok' := fun k_ => some k_ ≠ (.slice Ao32 t912.length co32 : Value).ownBlock ∧ some k_ ≠ (.slice Ao40 t886.length co40 : Value).ownBlock) (Kd.R_keptB ((Kd.R_apart' HO_871002.out (Kd.Q_typed HO_9.out) (by decide))) hkp (fun k_ hk_ hs_ => (hk_.2) hs_)) (fun k_ hk_ => ⟨hk_.1.1.1, hk_.1.1.2⟩)); replace HO_882001 := am (Kd.Q_mono (ok' := fun k_ => some k_ ≠ (v867 : Value).ownBlock ∧ some k_ ≠ (.slice Ao102 t892.length co102 : Value).ownBlock ∧ some k_ ≠ (.slice Ao23 t857.length co23 : Value).ownBlock ∧ some k_ ≠ (.slice Ao39 t883.length co39 : Value).ownBlock) (Kd.Q_keptB (HO_882001.out) hkp (fun k_ hk_ hs_ => (hk_.2.1) hs_)) (fun k_ hk_ => ⟨hk_.1.1, hk_.1.2.1, hk_.1.2.2.1, hk_.1.2.2.2⟩)); replace HO_882002 := am (Kd.R_mono (ok' := fun k_ => some k_ ≠ (.slice Ao24 t860.length co24 : Value).ownBlock ∧ some k_ ≠ (.slice Ao40 t886.length co40 : Value).ownBlock) (Kd.R_keptB ((Kd.R_apart' HO_882002.out (Kd.Q_typed HO_9.out) (by decide))) hkp (fun k_ hk_ hs_ => (hk_.2) hs_)) (fun k_ hk_ => ⟨hk_.1.1.1, hk_.1.1.2⟩)); replace HO_897001 := am (Kd.Q_mono (ok' := fun k_ => some k_ ≠ (v867 : Value).ownBlock ∧ some k_ ≠ (.slice Ao102 t892.length co102 : Value).ownBlock ∧ some k_ ≠ (.slice Ao23 t857.length co23 : Value).ownBlock ∧ some k_ ≠ (.slice Ao31 t911.length co31 : Value).ownBlock) (Kd.Q_keptB (HO_897001.out) hkp (fun k_ hk_ hs_ => (hk_.2.1) hs_)) (fun k_ hk_ => ⟨hk_.1.1, hk_.1.2.1, hk_.1.2.2.1, hk_.1.2.2.2⟩)); replace HO_897002 := am (Kd.R_mono (ok' := fun k_ => some k_ ≠ (.slice Ao24 t860.length co24 : Value).ownBlock ∧ some k_ ≠ (.slice Ao32 t912.length co32 : Value).ownBlock) (Kd.R_keptB ((Kd.R_apart' HO_897002.out (Kd.Q_typed HO_9.out) (by decide))) hkp (fun k_ hk_ hs_ => (hk_.2) hs_)) (fun k_ hk_ => ⟨hk_.1.1.1, hk_.1.1.2⟩)); replace BK844 := am (blk_kept (pkK BK844.out) hkp (fun hs_ => (fun e_ => (Kd.Q_ne HO_9.out BK844.out (by decide)) e_) hs_)); replace BK870 := am (blk_kept (pkK BK870.out) hkp (fun hs_ => (fun e_ => (Kd.Q_ne HO_9.out BK870.out (by decide)) e_) hs_)); replace BK881 := am (blk_kept (pkK BK881.out) hkp (fun hs_ => (fun e_ => (Kd.Q_ne HO_9.out BK881.out (by decide)) e_) hs_)); replace BK896 := am (blk_kept (pkK BK896.out) hkp (fun hs_ => (fun e_ => (Kd.Q_ne HO_9.out BK896.out (by decide)) e_) hs_)); replace HO_9 := am (Kd.Q_reok rfl hy0 (fun k_ e_ => HO_9.out.1 k_ e_)); replace HB := am (hb); (try clear hb); (try clear hkp); (try clear hy0); obtain ⟨hcz104_0, hcz104_1, hcz104_2, hcz104_3, hcz104_4, hcz104_5, hfz104_0, hfz104_1, hfz104_2, hfz104_3, hfz104_4, hfz104_5⟩ := bk6 BK896.out) | ((with_reducible refine gate_callee (f := 37) rfl ?_); refine goesL_ (some 87) rfl rfl Try.func37 (by kernel_rfl) rfl #[.agg #[.bool t882, .slice Ao39 t916.length co39, .slice Ao40 t917.length co40, .int .i64 t889, .int .i64 t890, .int .i64 t891], .int .i64 1] rfl (by (try simp only [List.map_toArray, List.map_cons, List.map_nil]); first | done | (rw [show t916.length = t883.length from (Kd.Q_reads' HO_897001.out).1.symm, show t917.length = t886.length from (Kd.R_reads' HO_897002.out).1.symm] <;> rfl) | rfl | (simp only [List.length_drop, List.length_take]; rfl) | (go_simp; done) | (simp [*]; done)) ?_; (with_reducible refine (laws_heldNotify.calls kj59 t882 _ _ t916 _ _ t917 t889 t890 t891 1 t920 _ ?side1 ?side2 ?side3 ?side4 A89.out).mono ?_); (case side1 => repeat (first | exact (Kd.Q_reads' HO_897001.out).2.2 | (with_reducible refine Kd.C_alloc ?_ _) | (with_reducible refine Kd.C_drewN ?_ _) | (with_reducible refine Kd.C_drew ?_))); (case side2 => rw [show t916.length = t883.length from (Kd.Q_reads' HO_897001.out).1.symm]; exact (Kd.Q_reads' HO_897001.out).2.1); (case side3 => exact pkC (Kd.R_reads' HO_897002.out).2.2); (case side4 => rw [show t917.length = t886.length from (Kd.R_reads' HO_897002.out).1.symm]; exact (Kd.R_reads' HO_897002.out).2.1); rintro e w105 ⟨rfl, hb⟩; refine ⟨_, rfl, ?_⟩; replace HO_5 := am (Kd.R_below (pkR HO_5.out) hb); replace HO_9 := am (Kd.Q_below (pkQ HO_9.out) hb); replace HO_871001 := am (Kd.R_below (pkR HO_871001.out) hb); replace HO_871002 := am (Kd.R_below (pkR HO_871002.out) hb); replace HO_882001 := am (Kd.Q_below (pkQ HO_882001.out) hb); replace HO_882002 := am (Kd.R_below (pkR HO_882002.out) hb); replace HO_897001 := am (Kd.Q_below (pkQ HO_897001.out) hb); replace HO_897002 := am (Kd.R_below (pkR HO_897002.out) hb); replace BK844 := am (blk_below (pkK BK844.out) hb); replace BK870 := am (blk_below (pkK BK870.out) hb); replace BK881 := am (blk_below (pkK BK881.out) hb); replace BK896 := am (blk_below (pkK BK896.out) hb); replace HB := am (below_step (pkW HB.out) hb); (try clear hb)) | ((with_reducible refine gate_callee (f := 38) rfl ?_); refine goesL_ (some 92) rfl rfl Try.func38 (by kernel_rfl) rfl #[.slice Ao102 t919.length co102, .int .i64 t920] rfl (by (try simp only [List.map_toArray, List.map_cons, List.map_nil]); first | done | (rw [show t919.length = t892.length from (Kd.Q_reads' HO_9.out).1.symm] <;> rfl) | rfl | (simp only [List.length_drop, List.length_take]; rfl) | (go_simp; done) | (simp [*]; done)) ?_; (with_reducible refine (laws_heldIntS.calls kj59 _ _ t919 t920 t921 _ ?side1 ?side2 A91.out).mono ?_); (case side1 => repeat (first | exact (Kd.Q_reads' HO_9.out).2.2 | (with_reducible refine Kd.C_alloc ?_ _) | (with_reducible refine Kd.C_drewN ?_ _) | (with_reducible refine Kd.C_drew ?_))); (case side2 => rw [show t919.length = t892.length from (Kd.Q_reads' HO_9.out).1.symm]; exact (Kd.Q_reads' HO_9.out).2.1); rintro e w' ⟨rfl, ⟨nd, rfl⟩⟩; refine ⟨_, rfl, ?_⟩; (try (rw [drewN_self w105]; generalize hq_ : World.drewN w105 _ = w105; replace HO_5 : Aside0 (Kd.R (Kd.int .i64) 3 w105 w.heap.size (fun k_ => (some k_ ≠ (.slice Ao102 t892.length co102 : Value).ownBlock ∧ (some k_ ≠ (.slice Ao23 t857.length co23 : Value).ownBlock ∧ (some k_ ≠ (.slice Ao31 t911.length co31 : Value).ownBlock ∧ some k_ ≠ (.slice Ao39 t883.length co39 : Value).ownBlock)))) v867 t866) := ⟨by rw [← hq_]; exact (pkR HO_5.out)⟩; replace HO_871001 : Aside0 (Kd.R (Kd.int .i64) 3 w105 w.heap.size (fun k_ => (some k_ ≠ (v867 : Value).ownBlock ∧ (some k_ ≠ (.slice Ao102 t892.length co102 : Value).ownBlock ∧ (some k_ ≠ (.slice Ao31 t911.length co31 : Value).ownBlock ∧ some k_ ≠ (.slice Ao39 t883.length co39 : Value).ownBlock)))) (.slice Ao23 t857.length co23) t857) := ⟨by rw [← hq_]; exact (pkR HO_871001.out)⟩; replace HO_871002 : Aside0 (Kd.R k67 67 w105 w.heap.size (fun k_ => (some k_ ≠ (.slice Ao32 t912.length co32 : Value).ownBlock ∧ some k_ ≠ (.slice Ao40 t886.length co40 : Value).ownBlock)) (.slice Ao24 t860.length co24) t860) := ⟨by rw [← hq_]; exact (pkR HO_871002.out)⟩; replace HO_882001 : Aside0 (Kd.Q (Kd.int .i64) 3 w105 w.heap.size (fun k_ => (some k_ ≠ (v867 : Value).ownBlock ∧ (some k_ ≠ (.slice Ao102 t892.length co102 : Value).ownBlock ∧ (some k_ ≠ (.slice Ao23 t857.length co23 : Value).ownBlock ∧ some k_ ≠ (.slice Ao39 t883.length co39 : Value).ownBlock)))) (.slice Ao31 t911.length co31) t911) := ⟨by rw [← hq_]; exact (pkQ HO_882001.out)⟩; replace HO_882002 : Aside0 (Kd.R k67 67 w105 w.heap.size (fun k_ => (some k_ ≠ (.slice Ao24 t860.length co24 : Value).ownBlock ∧ some k_ ≠ (.slice Ao40 t886.length co40 : Value).ownBlock)) (.slice Ao32 t912.length co32) t912) := ⟨by rw [← hq_]; exact (pkR HO_882002.out)⟩; replace HO_897001 : Aside0 (Kd.Q (Kd.int .i64) 3 w105 w.heap.size (fun k_ => (some k_ ≠ (v867 : Value).ownBlock ∧ (some k_ ≠ (.slice Ao102 t892.length co102 : Value).ownBlock ∧ (some k_ ≠ (.slice Ao23 t857.length co23 : Value).ownBlock ∧ some k_ ≠ (.slice Ao31 t911.length co31 : Value).ownBlock)))) (.slice Ao39 t883.length co39) t916) := ⟨by rw [← hq_]; exact (pkQ HO_897001.out)⟩; replace HO_897002 : Aside0 (Kd.R k67 67 w105 w.heap.size (fun k_ => (some k_ ≠ (.slice Ao24 t860.length co24 : Value).ownBlock ∧ some k_ ≠ (.slice Ao32 t912.length co32 : Value).ownBlock)) (.slice Ao40 t886.length co40) t917) := ⟨by rw [← hq_]; exact (pkR HO_897002.out)⟩; replace HO_9 : Aside0 (Kd.Q (Kd.int .i64) 3 w105 w.heap.size (fun k_ => (some k_ ≠ (v867 : Value).ownBlock ∧ (some k_ ≠ (.slice Ao23 t857.length co23 : Value).ownBlock ∧ (some k_ ≠ (.slice Ao31 t911.length co31 : Value).ownBlock ∧ some k_ ≠ (.slice Ao39 t883.length co39 : Value).ownBlock)))) (.slice Ao102 t892.length co102) t919) := ⟨by rw [← hq_]; exact (pkQ HO_9.out)⟩; replace BK844 : Aside0 (w105.heap[gb844]? = some (.cells #[.bool a0_0, .slice A0_1 l0_1.length c0_1, .slice A0_2 l0_2.length c0_2, .int .i64 a0_3, .int .i64 a0_4, .int .i64 a0_5] 33 (0, 0))) := ⟨by rw [← hq_]; exact (pkK BK844.out)⟩; replace BK870 : Aside0 (w105.heap[gb870]? = some (.cells #[.bool t856, .slice Ao23 t857.length co23, .slice Ao24 t860.length co24, .int .i64 t863, .int .i64 t864, .int .i64 t865] 38 (0, 0))) := ⟨by rw [← hq_]; exact (pkK BK870.out)⟩; replace BK881 : Aside0 (w105.heap[gb881]? = some (.cells #[.bool t871, .slice Ao31 t911.length co31, .slice Ao32 t912.length co32, .int .i64 t878, .int .i64 t879, .int .i64 t880] 38 (0, 0))) := ⟨by rw [← hq_]; exact (pkK BK881.out)⟩; replace BK896 : Aside0 (w105.heap[gb896]? = some (.cells #[.bool t882, .slice Ao39 t883.length co39, .slice Ao40 t886.length co40, .int .i64 t889, .int .i64 t890, .int .i64 t891] 38 (0, 0))) := ⟨by rw [← hq_]; exact (pkK BK896.out)⟩; replace HB : Aside0 (Below w.heap.size w w105) := ⟨by rw [← hq_]; exact (pkW HB.out)⟩; clear hq_)); have hnb106 := NB844_870.out; have hnc106 := NB870_844.out; have hnb107 := NB844_881.out; have hnc107 := NB881_844.out; obtain ⟨hcz108_0, hcz108_1, hcz108_2, hcz108_3, hcz108_4, hcz108_5, hfz108_0, hfz108_1, hfz108_2, hfz108_3, hfz108_4, hfz108_5⟩ := bk6 BK844.out) | ((with_reducible refine gate_callee (f := 21) rfl ?_); refine goesL_ (some 100) rfl rfl Try.func21 (by kernel_rfl) rfl #[.agg #[.bool a0_0, .slice A0_1 l0_1.length c0_1, .slice A0_2 l0_2.length c0_2, .int .i64 a0_3, .int .i64 a0_4, .int .i64 a0_5]] rfl mpx ?_; (with_reducible refine (laws_toNotify.calls kj59 a0_0 _ _ l0_1 _ _ l0_2 a0_3 a0_4 a0_5 t922 t923 t926 t929 t930 t931 _ ?side1 ?side2 ?side3 ?side4 A94.out).mono ?_); (case side1 => exact pkC (Kd.C_below HR0_1.out HB.out)); (case side2 => exact HC0_1.out); (case side3 => exact pkC (Kd.C_below HR0_2.out HB.out)); (case side4 => exact HC0_2.out); rintro e w109 ⟨v924, v927, rfl, ho0, ho1, hb⟩; refine ⟨_, rfl, ?_⟩; have HO925 := am (Kd.R_lower (Kd.R_new' (Kd.R_new' (Kd.R_new' (Kd.R_new' (Kd.R_new' ho0 (Kd.R_lt (pkR HO_5.out))) (Kd.Q_lt (pkQ HO_9.out))) (Kd.R_lt (pkR HO_871001.out))) (Kd.Q_lt (pkQ HO_882001.out))) (Kd.Q_lt (pkQ HO_897001.out))) (below_size (pkW HB.out))); replace HO_5 := am (Kd.R_elder' (pkR HO_5.out) (Kd.R_base ho0) hb); replace HO_9 := am (Kd.Q_elder' (pkQ HO_9.out) (Kd.R_base ho0) hb); replace HO_871001 := am (Kd.R_elder' (pkR HO_871001.out) (Kd.R_base ho0) hb); replace HO_882001 := am (Kd.Q_elder' (pkQ HO_882001.out) (Kd.R_base ho0) hb); replace HO_897001 := am (Kd.Q_elder' (pkQ HO_897001.out) (Kd.R_base ho0) hb); have HO928 := am (Kd.R_lower (Kd.R_new' (Kd.R_new' (Kd.R_new' ho1 (Kd.R_lt (pkR HO_871002.out))) (Kd.R_lt (pkR HO_882002.out))) (Kd.R_lt (pkR HO_897002.out))) (below_size (pkW HB.out))); replace HO_871002 := am (Kd.R_elder' (pkR HO_871002.out) (Kd.R_base ho1) hb); replace HO_882002 := am (Kd.R_elder' (pkR HO_882002.out) (Kd.R_base ho1) hb); replace HO_897002 := am (Kd.R_elder' (pkR HO_897002.out) (Kd.R_base ho1) hb); replace BK844 := am (blk_below (pkK BK844.out) hb); replace BK870 := am (blk_below (pkK BK870.out) hb); replace BK881 := am (blk_below (pkK BK881.out) hb); replace BK896 := am (blk_below (pkK BK896.out) hb); replace HB := am (below_step (pkW HB.out) hb); (try clear hb ho0 ho1); obtain ⟨Ao110, co110, eo110⟩ := Kd.R_slice HO925.out; subst eo110; obtain ⟨Ao111, co111, eo111⟩ := Kd.R_slice HO928.out; subst eo111) | ((with_reducible refine gate_callee (f := 33) rfl ?_); refine goesL_ (some 101) rfl rfl Try.func33 (by kernel_rfl) rfl #[.agg #[.bool t922, .slice Ao110 t923.length co110, .slice Ao111 t926.length co111, .int .i64 t929, .int .i64 t930, .int .i64 t931]] rfl mpx ?_; (with_reducible refine (impl_TellAll.calls kj59 t922 _ _ t923 _ _ t926 t929 t930 t931 t932 t933 t936 t939 t940 t941 t942 t945 _ ?side1 ?side2 ?side3 ?side4 A95.out).mono ?_); (case side1 => exact pkC (Kd.R_reads' HO925.out).2.2); (case side2 => exact (Kd.R_reads' HO925.out).2.1); (case side3 => exact pkC (Kd.R_reads' HO928.out).2.2); (case side4 => exact (Kd.R_reads' HO928.out).2.1); rintro e w112 ⟨v934, v937, v943, rfl, ho0, ho1, ho2, hb⟩; refine ⟨_, rfl, ?_⟩; have HO935 := am (Kd.R_lower (Kd.R_new' (Kd.R_new' (Kd.R_new' (Kd.R_new' (Kd.R_new' (Kd.R_new' ho0 (Kd.R_lt (pkR HO_5.out))) (Kd.Q_lt (pkQ HO_9.out))) (Kd.R_lt (pkR HO_871001.out))) (Kd.Q_lt (pkQ HO_882001.out))) (Kd.Q_lt (pkQ HO_897001.out))) (Kd.R_lt (pkR HO925.out))) (below_size (pkW HB.out))); have HO938 := am (Kd.R_lower (Kd.R_new' (Kd.R_new' (Kd.R_new' (Kd.R_new' ho1 (Kd.R_lt (pkR HO_871002.out))) (Kd.R_lt (pkR HO_882002.out))) (Kd.R_lt (pkR HO_897002.out))) (Kd.R_lt (pkR HO928.out))) (below_size (pkW HB.out))); replace HO_871002 := am (Kd.R_elder' (pkR HO_871002.out) (Kd.R_base ho1) hb); replace HO_882002 := am (Kd.R_elder' (pkR HO_882002.out) (Kd.R_base ho1) hb); replace HO_897002 := am (Kd.R_elder' (pkR HO_897002.out) (Kd.R_base ho1) hb); replace HO928 := am (Kd.R_elder' (pkR HO928.out) (Kd.R_base ho1) hb); have HO944 := am (Kd.R_lower (Kd.R_new' (Kd.R_new' (Kd.R_new' (Kd.R_new' (Kd.R_new' (Kd.R_new' ho2 (Kd.R_lt (pkR HO_5.out))) (Kd.Q_lt (pkQ HO_9.out))) (Kd.R_lt (pkR HO_871001.out))) (Kd.Q_lt (pkQ HO_882001.out))) (Kd.Q_lt (pkQ HO_897001.out))) (Kd.R_lt (pkR HO925.out))) (below_size (pkW HB.out))); replace HO_5 := am (Kd.R_mono (Kd.R_told (Kd.R_told (Kd.R_old (pkR HO_5.out) hb) (Kd.R_base ho0)) (Kd.R_base ho2)) (fun _ h_ => h_.1)); replace HO_9 := am (Kd.Q_mono (Kd.Q_told (Kd.Q_told (Kd.Q_old (pkQ HO_9.out) hb) (Kd.R_base ho0)) (Kd.R_base ho2)) (fun _ h_ => h_.1)); replace HO_871001 := am (Kd.R_mono (Kd.R_told (Kd.R_told (Kd.R_old (pkR HO_871001.out) hb) (Kd.R_base ho0)) (Kd.R_base ho2)) (fun _ h_ => h_.1)); replace HO_882001 := am (Kd.Q_mono (Kd.Q_told (Kd.Q_told (Kd.Q_old (pkQ HO_882001.out) hb) (Kd.R_base ho0)) (Kd.R_base ho2)) (fun _ h_ => h_.1)); replace HO_897001 := am (Kd.Q_mono (Kd.Q_told (Kd.Q_told (Kd.Q_old (pkQ HO_897001.out) hb) (Kd.R_base ho0)) (Kd.R_base ho2)) (fun _ h_ => h_.1)); replace HO925 := am (Kd.R_mono (Kd.R_told (Kd.R_told (Kd.R_old (pkR HO925.out) hb) (Kd.R_base ho0)) (Kd.R_base ho2)) (fun _ h_ => h_.1)); replace BK844 := am (blk_below (pkK BK844.out) hb); replace BK870 := am (blk_below (pkK BK870.out) hb); replace BK881 := am (blk_below (pkK BK881.out) hb); replace BK896 := am (blk_below (pkK BK896.out) hb); replace HB := am (below_step (pkW HB.out) hb); (try clear hb ho0 ho1 ho2)) | ((with_reducible refine gate_dst (N := 14) rfl ?_); refine box_event ?hg (N := 14) ?hd (cs := #[.bool false, .slice none 0 0, .slice none 0 0, .int .i64 0, .int .i64 0, .int .i64 0]) (t := 38) ?hr ?_; (case hd => rfl); (case hg => rfl); (case hr => first | (go_simp; done) | (go_simp; rfl)); intro gb946 hg w113 hbox hb; replace HO_5 := am (Kd.R_below (pkR HO_5.out) hb); replace HO_9 := am (Kd.Q_below (pkQ HO_9.out) hb); replace HO_871001 := am (Kd.R_below (pkR HO_871001.out) hb); replace HO_871002 := am (Kd.R_below (pkR HO_871002.out) hb); replace HO_882001 := am (Kd.Q_below (pkQ HO_882001.out) hb); replace HO_882002 := am (Kd.R_below (pkR HO_882002.out) hb); replace HO_897001 := am (Kd.Q_below (pkQ HO_897001.out) hb); replace HO_897002 := am (Kd.R_below (pkR HO_897002.out) hb); replace HO925 := am (Kd.R_below (pkR HO925.out) hb); replace HO928 := am (Kd.R_below (pkR HO928.out) hb); replace HO935 := am (Kd.R_below (pkR HO935.out) hb); replace HO938 := am (Kd.R_below (pkR HO938.out) hb); replace HO944 := am (Kd.R_below (pkR HO944.out) hb); have BK946 := am (hbox); have GW946 := am ((by rw [hg]; exact (below_size (pkW HB.out)) : w.heap.size ≤ gb946)); have GE946 := am ((by rw [hg]; exact (below_size (pkW HB.out)) : w.heap.size ≤ gb946)); replace HB := am (below_step (pkW HB.out) hb); have NB844_946 := am ((by rw [hg]; exact Nat.ne_of_lt (blk_lt (g := gb844) (o := .cells #[.bool a0_0, .slice A0_1 l0_1.length c0_1, .slice A0_2 l0_2.length c0_2, .int .i64 a0_3, .int .i64 a0_4, .int .i64 a0_5] 33 (0, 0)) (pkK BK844.out)) : gb844 ≠ gb946)); have NB946_844 := am ((by rw [hg]; exact Nat.ne_of_gt (blk_lt (g := gb844) (o := .cells #[.bool a0_0, .slice A0_1 l0_1.length c0_1, .slice A0_2 l0_2.length c0_2, .int .i64 a0_3, .int .i64 a0_4, .int .i64 a0_5] 33 (0, 0)) (pkK BK844.out)) : gb946 ≠ gb844)); replace BK844 := am (blk_below (pkK BK844.out) hb); have NB870_946 := am ((by rw [hg]; exact Nat.ne_of_lt (blk_lt (g := gb870) (o := .cells #[.bool t856, .slice Ao23 t857.length co23, .slice Ao24 t860.length co24, .int .i64 t863, .int .i64 t864, .int .i64 t865] 38 (0, 0)) (pkK BK870.out)) : gb870 ≠ gb946)); have NB946_870 := am ((by rw [hg]; exact Nat.ne_of_gt (blk_lt (g := gb870) (o := .cells #[.bool t856, .slice Ao23 t857.length co23, .slice Ao24 t860.length co24, .int .i64 t863, .int .i64 t864, .int .i64 t865] 38 (0, 0)) (pkK BK870.out)) : gb946 ≠ gb870)); replace BK870 := am (blk_below (pkK BK870.out) hb); have NB881_946 := am ((by rw [hg]; exact Nat.ne_of_lt (blk_lt (g := gb881) (o := .cells #[.bool t871, .slice Ao31 t911.length co31, .slice Ao32 t912.length co32, .int .i64 t878, .int .i64 t879, .int .i64 t880] 38 (0, 0)) (pkK BK881.out)) : gb881 ≠ gb946)); have NB946_881 := am ((by rw [hg]; exact Nat.ne_of_gt (blk_lt (g := gb881) (o := .cells #[.bool t871, .slice Ao31 t911.length co31, .slice Ao32 t912.length co32, .int .i64 t878, .int .i64 t879, .int .i64 t880] 38 (0, 0)) (pkK BK881.out)) : gb946 ≠ gb881)); replace BK881 := am (blk_below (pkK BK881.out) hb); have NB896_946 := am ((by rw [hg]; exact Nat.ne_of_lt (blk_lt (g := gb896) (o := .cells #[.bool t882, .slice Ao39 t883.length co39, .slice Ao40 t886.length co40, .int .i64 t889, .int .i64 t890, .int .i64 t891] 38 (0, 0)) (pkK BK896.out)) : gb896 ≠ gb946)); have NB946_896 := am ((by rw [hg]; exact Nat.ne_of_gt (blk_lt (g := gb896) (o := .cells #[.bool t882, .slice Ao39 t883.length co39, .slice Ao40 t886.length co40, .int .i64 t889, .int .i64 t890, .int .i64 t891] 38 (0, 0)) (pkK BK896.out)) : gb946 ≠ gb896)); replace BK896 := am (blk_below (pkK BK896.out) hb); clear hb hbox hg; have hnb114 := NB946_844.out; have hnc114 := NB844_946.out; have hnb115 := NB946_870.out; have hnc115 := NB870_946.out; have hnb116 := NB946_881.out; have hnc116 := NB881_946.out; have hnb117 := NB946_896.out; have hnc117 := NB896_946.out; obtain ⟨hcz118_0, hcz118_1, hcz118_2, hcz118_3, hcz118_4, hcz118_5, hfz118_0, hfz118_1, hfz118_2, hfz118_3, hfz118_4, hfz118_5⟩ := bk6 BK946.out; obtain ⟨Ao119, co119, eo119⟩ := Kd.R_slice HO935.out; subst eo119; obtain ⟨Ao120, co120, eo120⟩ := Kd.R_slice HO938.out; subst eo120))
            (try simp only [Act.put, List.setIfInBounds_toArray, List.set_cons_zero, List.set_cons_succ])
            go_cut [119] (fun v119 wc => ∃ (kq : Nat) (x119_95 : Bool), v119 = .bool x119_95 ∧ Aside0 (laws_FnExactTellAll.j2 kq t919 t918 x119_95 t882 t916 t917 t889 t890 t891 = some r) ∧ Aside0 (kq ≤ kj59) ∧ Aside0 (Kd.Q (Kd.int .i64) 3 wc w.heap.size (fun k_ => some k_ ≠ ((.slice Ao23 t857.length co23) : Value).ownBlock ∧ some k_ ≠ ((.slice Ao31 t911.length co31) : Value).ownBlock ∧ some k_ ≠ ((.slice Ao39 t883.length co39) : Value).ownBlock ∧ some k_ ≠ ((.slice Ao119 t933.length co119) : Value).ownBlock) (.slice Ao102 t892.length co102) t919) ∧ Aside0 (Kd.R (Kd.int .i64) 3 wc w.heap.size (fun k_ => some k_ ≠ ((.slice Ao102 t892.length co102) : Value).ownBlock ∧ some k_ ≠ ((.slice Ao31 t911.length co31) : Value).ownBlock ∧ some k_ ≠ ((.slice Ao39 t883.length co39) : Value).ownBlock ∧ some k_ ≠ ((.slice Ao119 t933.length co119) : Value).ownBlock) (.slice Ao23 t857.length co23) t857) ∧ Aside0 (Kd.R k67 67 wc w.heap.size (fun k_ => some k_ ≠ ((.slice Ao32 t912.length co32) : Value).ownBlock ∧ some k_ ≠ ((.slice Ao40 t886.length co40) : Value).ownBlock ∧ some k_ ≠ ((.slice Ao120 t936.length co120) : Value).ownBlock) (.slice Ao24 t860.length co24) t860) ∧ Aside0 (Kd.Q (Kd.int .i64) 3 wc w.heap.size (fun k_ => some k_ ≠ ((.slice Ao102 t892.length co102) : Value).ownBlock ∧ some k_ ≠ ((.slice Ao23 t857.length co23) : Value).ownBlock ∧ some k_ ≠ ((.slice Ao39 t883.length co39) : Value).ownBlock ∧ some k_ ≠ ((.slice Ao119 t933.length co119) : Value).ownBlock) (.slice Ao31 t911.length co31) t911) ∧ Aside0 (Kd.R k67 67 wc w.heap.size (fun k_ => some k_ ≠ ((.slice Ao24 t860.length co24) : Value).ownBlock ∧ some k_ ≠ ((.slice Ao40 t886.length co40) : Value).ownBlock ∧ some k_ ≠ ((.slice Ao120 t936.length co120) : Value).ownBlock) (.slice Ao32 t912.length co32) t912) ∧ Aside0 (Kd.Q (Kd.int .i64) 3 wc w.heap.size (fun k_ => some k_ ≠ ((.slice Ao102 t892.length co102) : Value).ownBlock ∧ some k_ ≠ ((.slice Ao23 t857.length co23) : Value).ownBlock ∧ some k_ ≠ ((.slice Ao31 t911.length co31) : Value).ownBlock ∧ some k_ ≠ ((.slice Ao119 t933.length co119) : Value).ownBlock) (.slice Ao39 t883.length co39) t916) ∧ Aside0 (Kd.R k67 67 wc w.heap.size (fun k_ => some k_ ≠ ((.slice Ao24 t860.length co24) : Value).ownBlock ∧ some k_ ≠ ((.slice Ao32 t912.length co32) : Value).ownBlock ∧ some k_ ≠ ((.slice Ao120 t936.length co120) : Value).ownBlock) (.slice Ao40 t886.length co40) t917) ∧ Aside0 (Kd.R (Kd.int .i64) 3 wc w.heap.size (fun k_ => some k_ ≠ ((.slice Ao102 t892.length co102) : Value).ownBlock ∧ some k_ ≠ ((.slice Ao23 t857.length co23) : Value).ownBlock ∧ some k_ ≠ ((.slice Ao31 t911.length co31) : Value).ownBlock ∧ some k_ ≠ ((.slice Ao39 t883.length co39) : Value).ownBlock) (.slice Ao119 t933.length co119) t933) ∧ Aside0 (Kd.R k67 67 wc w.heap.size (fun k_ => some k_ ≠ ((.slice Ao24 t860.length co24) : Value).ownBlock ∧ some k_ ≠ ((.slice Ao32 t912.length co32) : Value).ownBlock ∧ some k_ ≠ ((.slice Ao40 t886.length co40) : Value).ownBlock) (.slice Ao120 t936.length co120) t936) ∧ Aside0 (wc.heap[gb844]? = some (.cells #[.bool a0_0, (.slice A0_1 l0_1.length c0_1), (.slice A0_2 l0_2.length c0_2), .int .i64 a0_3, .int .i64 a0_4, .int .i64 a0_5] 33 (0, 0))) ∧ Aside0 (wc.heap[gb870]? = some (.cells #[.bool t856, (.slice Ao23 t857.length co23), (.slice Ao24 t860.length co24), .int .i64 t863, .int .i64 t864, .int .i64 t865] 38 (0, 0))) ∧ Aside0 (wc.heap[gb881]? = some (.cells #[.bool t871, (.slice Ao31 t911.length co31), (.slice Ao32 t912.length co32), .int .i64 t878, .int .i64 t879, .int .i64 t880] 38 (0, 0))) ∧ Aside0 (wc.heap[gb896]? = some (.cells #[.bool t882, (.slice Ao39 t883.length co39), (.slice Ao40 t886.length co40), .int .i64 t889, .int .i64 t890, .int .i64 t891] 38 (0, 0))) ∧ Aside0 (wc.heap[gb946]? = some (.cells #[.bool t932, (.slice Ao119 t933.length co119), (.slice Ao120 t936.length co120), .int .i64 t939, .int .i64 t940, .int .i64 t941] 38 (0, 0))) ∧ Aside0 (Below w.heap.size w wc))
            case first =>
             have H := HC96.out
             clear HC96
             replace H := Option.bind_eq_some_iff.mp H
             obtain ⟨t947, A1210, H⟩ := H
             replace H : (if t947 = true then ((laws_eqIntS.f kj59 t942 t866).bind fun t948 => (if t948 = true then (laws_FnExactTellAll.j2 kj59 t919 t918 (t945 != t869) t882 t916 t917 t889 t890 t891) else (laws_FnExactTellAll.j2 kj59 t919 t918 true t882 t916 t917 t889 t890 t891))) else (laws_FnExactTellAll.j2 kj59 t919 t918 true t882 t916 t917 t889 t890 t891)) = some r := H
             have A121 := am A1210
             clear A1210
             by_cases c122 : t947 = true
             ·subst c122
              replace H : ((laws_eqIntS.f kj59 t942 t866).bind fun t948 => (if t948 = true then (laws_FnExactTellAll.j2 kj59 t919 t918 (t945 != t869) t882 t916 t917 t889 t890 t891) else (laws_FnExactTellAll.j2 kj59 t919 t918 true t882 t916 t917 t889 t890 t891))) = some r := by rw [if_pos rfl] at H; exact H
              replace H := Option.bind_eq_some_iff.mp H
              obtain ⟨t948, A1230, H⟩ := H
              replace H : (if t948 = true then (laws_FnExactTellAll.j2 kj59 t919 t918 (t945 != t869) t882 t916 t917 t889 t890 t891) else (laws_FnExactTellAll.j2 kj59 t919 t918 true t882 t916 t917 t889 t890 t891)) = some r := H
              have A123 := am A1230
              clear A1230
              by_cases c124 : t948 = true
              ·subst c124
               replace H : (laws_FnExactTellAll.j2 kj59 t919 t918 (t945 != t869) t882 t916 t917 t889 t890 t891) = some r := by rw [if_pos rfl] at H; exact H
               have H' := am H
               clear H
               have hnb125 := NB946_844.out
               have hnc125 := NB844_946.out
               have hnb126 := NB946_870.out
               have hnc126 := NB870_946.out
               have hnb127 := NB946_881.out
               have hnc127 := NB881_946.out
               have hnb128 := NB946_896.out
               have hnc128 := NB896_946.out
               obtain ⟨hcz129_0, hcz129_1, hcz129_2, hcz129_3, hcz129_4, hcz129_5, hfz129_0, hfz129_1, hfz129_2, hfz129_3, hfz129_4, hfz129_5⟩ := bk6 BK946.out
               have hnb130 := NB870_844.out
               have hnc130 := NB844_870.out
               have hnb131 := NB870_881.out
               have hnc131 := NB881_870.out
               have hnb132 := NB870_896.out
               have hnc132 := NB896_870.out
               obtain ⟨hcz133_0, hcz133_1, hcz133_2, hcz133_3, hcz133_4, hcz133_5, hfz133_0, hfz133_1, hfz133_2, hfz133_3, hfz133_4, hfz133_5⟩ := bk6 BK870.out
               go_wp2_with (first | ((with_reducible refine gate_callee (f := 23) rfl ?_); refine goesL_ (some 107) rfl rfl Try.func23 (by kernel_rfl) rfl #[.agg #[.bool t932, .slice Ao119 t933.length co119, .slice Ao120 t936.length co120, .int .i64 t939, .int .i64 t940, .int .i64 t941], .agg #[.bool t856, .slice Ao23 t857.length co23, .slice Ao24 t860.length co24, .int .i64 t863, .int .i64 t864, .int .i64 t865]] rfl mpx ?_; (with_reducible refine (laws_eqNotify.calls kj59 t932 _ _ t933 _ _ t936 t939 t940 t941 t856 _ _ t857 _ _ t860 t863 t864 t865 true _ ?side1 ?side2 ?side3 ?side4 ?side5 ?side6 ?side7 ?side8 A121.out).mono ?_); (case side1 => refine (Kd.R_reads' (e := 3) (base := w.heap.size) (ok := fun k_ => ((((((some k_ ≠ (v943 : Value).ownBlock ∧ some k_ ≠ (v867 : Value).ownBlock) ∧ some k_ ≠ (.slice Ao102 t892.length co102 : Value).ownBlock) ∧ some k_ ≠ (.slice Ao23 t857.length co23 : Value).ownBlock) ∧ some k_ ≠ (.slice Ao31 t911.length co31 : Value).ownBlock) ∧ some k_ ≠ (.slice Ao39 t883.length co39 : Value).ownBlock) ∧ some k_ ≠ (.slice Ao110 t923.length co110 : Value).ownBlock)) (n := t933.length) (c := co119) ?_).2.2; exact (by (with_reducible repeat (first | apply Kd.R_alloc | apply Kd.R_drewN | apply Kd.R_drew)); exact (Kd.R_mono (Kd.R_far (p := ⟨gb946, 5, none⟩) (Kd.R_far (p := ⟨gb946, 4, none⟩) (Kd.R_far (p := ⟨gb946, 3, none⟩) (Kd.R_far (p := ⟨gb946, 2, none⟩) (Kd.R_far (p := ⟨gb946, 1, none⟩) (Kd.R_far (p := ⟨gb946, 0, none⟩) (Kd.R_types HO935.out BK946.out (by decide)) (fun _ hk => hk.2) (.bool t932)) (fun _ hk => hk.2) (.slice Ao119 t933.length co119)) (fun _ hk => hk.2) (.slice Ao120 t936.length co120)) (fun _ hk => hk.2) (.int .i64 t939)) (fun _ hk => hk.2) (.int .i64 t940)) (fun _ hk => hk.2) (.int .i64 t941)) (fun _ h_ => h_.1)))); (case side2 => exact (Kd.R_reads' HO935.out).2.1); (case side3 => refine (Kd.R_reads' (e := 67) (base := w.heap.size) (ok := fun k_ => ((((True ∧ some k_ ≠ (.slice Ao24 t860.length co24 : Value).ownBlock) ∧ some k_ ≠ (.slice Ao32 t912.length co32 : Value).ownBlock) ∧ some k_ ≠ (.slice Ao40 t886.length co40 : Value).ownBlock) ∧ some k_ ≠ (.slice Ao111 t926.length co111 : Value).ownBlock)) (n := t936.length) (c := co120) ?_).2.2; exact (by (with_reducible repeat (first | apply Kd.R_alloc | apply Kd.R_drewN | apply Kd.R_drew)); exact (Kd.R_mono (Kd.R_far (p := ⟨gb946, 5, none⟩) (Kd.R_far (p := ⟨gb946, 4, none⟩) (Kd.R_far (p := ⟨gb946, 3, none⟩) (Kd.R_far (p := ⟨gb946, 2, none⟩) (Kd.R_far (p := ⟨gb946, 1, none⟩) (Kd.R_far (p := ⟨gb946, 0, none⟩) (Kd.R_types HO938.out BK946.out (by decide)) (fun _ hk => hk.2) (.bool t932)) (fun _ hk => hk.2) (.slice Ao119 t933.length co119)) (fun _ hk => hk.2) (.slice Ao120 t936.length co120)) (fun _ hk => hk.2) (.int .i64 t939)) (fun _ hk => hk.2) (.int .i64 t940)) (fun _ hk => hk.2) (.int .i64 t941)) (fun _ h_ => h_.1)))); (case side4 => exact (Kd.R_reads' HO938.out).2.1); (case side5 => refine (Kd.R_reads' (e := 3) (base := w.heap.size) (ok := fun k_ => ((((some k_ ≠ (v867 : Value).ownBlock ∧ (some k_ ≠ (.slice Ao102 t892.length co102 : Value).ownBlock ∧ (some k_ ≠ (.slice Ao31 t911.length co31 : Value).ownBlock ∧ some k_ ≠ (.slice Ao39 t883.length co39 : Value).ownBlock))) ∧ some k_ ≠ (.slice Ao110 t923.length co110 : Value).ownBlock) ∧ some k_ ≠ (.slice Ao119 t933.length co119 : Value).ownBlock) ∧ some k_ ≠ (v943 : Value).ownBlock)) (n := t857.length) (c := co23) ?_).2.2; exact (by (with_reducible repeat (first | apply Kd.R_alloc | apply Kd.R_drewN | apply Kd.R_drew)); exact (Kd.R_mono (Kd.R_far (p := ⟨gb946, 5, none⟩) (Kd.R_far (p := ⟨gb946, 4, none⟩) (Kd.R_far (p := ⟨gb946, 3, none⟩) (Kd.R_far (p := ⟨gb946, 2, none⟩) (Kd.R_far (p := ⟨gb946, 1, none⟩) (Kd.R_far (p := ⟨gb946, 0, none⟩) (Kd.R_types HO_871001.out BK946.out (by decide)) (fun _ hk => hk.2) (.bool t932)) (fun _ hk => hk.2) (.slice Ao119 t933.length co119)) (fun _ hk => hk.2) (.slice Ao120 t936.length co120)) (fun _ hk => hk.2) (.int .i64 t939)) (fun _ hk => hk.2) (.int .i64 t940)) (fun _ hk => hk.2) (.int .i64 t941)) (fun _ h_ => h_.1)))); (case side6 => exact (Kd.R_reads' HO_871001.out).2.1); (case side7 => refine (Kd.R_reads' (e := 67) (base := w.heap.size) (ok := fun k_ => (((some k_ ≠ (.slice Ao32 t912.length co32 : Value).ownBlock ∧ some k_ ≠ (.slice Ao40 t886.length co40 : Value).ownBlock) ∧ some k_ ≠ (.slice Ao111 t926.length co111 : Value).ownBlock) ∧ some k_ ≠ (.slice Ao120 t936.length co120 : Value).ownBlock)) (n := t860.length) (c := co24) ?_).2.2; exact (by (with_reducible repeat (first | apply Kd.R_alloc | apply Kd.R_drewN | apply Kd.R_drew)); exact (Kd.R_mono (Kd.R_far (p := ⟨gb946, 5, none⟩) (Kd.R_far (p := ⟨gb946, 4, none⟩) (Kd.R_far (p := ⟨gb946, 3, none⟩) (Kd.R_far (p := ⟨gb946, 2, none⟩) (Kd.R_far (p := ⟨gb946, 1, none⟩) (Kd.R_far (p := ⟨gb946, 0, none⟩) (Kd.R_types HO_871002.out BK946.out (by decide)) (fun _ hk => hk.2) (.bool t932)) (fun _ hk => hk.2) (.slice Ao119 t933.length co119)) (fun _ hk => hk.2) (.slice Ao120 t936.length co120)) (fun _ hk => hk.2) (.int .i64 t939)) (fun _ hk => hk.2) (.int .i64 t940)) (fun _ hk => hk.2) (.int .i64 t941)) (fun _ h_ => h_.1)))); (case side8 => exact (Kd.R_reads' HO_871002.out).2.1); rintro e w134 ⟨rfl, hb⟩; refine ⟨_, rfl, ?_⟩; replace HO_5 := am (Kd.R_below (by (with_reducible repeat (first | apply Kd.R_alloc | apply Kd.R_drewN | apply Kd.R_drew)); exact (Kd.R_mono (Kd.R_far (p := ⟨gb946, 5, none⟩) (Kd.R_far (p := ⟨gb946, 4, none⟩) (Kd.R_far (p := ⟨gb946, 3, none⟩) (Kd.R_far (p := ⟨gb946, 2, none⟩) (Kd.R_far (p := ⟨gb946, 1, none⟩) (Kd.R_far (p := ⟨gb946, 0, none⟩) (Kd.R_types HO_5.out BK946.out (by decide)) (fun _ hk => hk.2) (.bool t932)) (fun _ hk => hk.2) (.slice Ao119 t933.length co119)) (fun _ hk => hk.2) (.slice Ao120 t936.length co120)) (fun _ hk => hk.2) (.int .i64 t939)) (fun _ hk => hk.2) (.int .i64 t940)) (fun _ hk => hk.2) (.int .i64 t941)) (fun _ h_ => h_.1))) hb); replace HO_9 := am (Kd.Q_below (by (with_reducible repeat (first | apply Kd.Q_alloc | apply Kd.Q_drewN | apply Kd.Q_drew)); exact (Kd.Q_mono (Kd.Q_far (p := ⟨gb946, 5, none⟩) (Kd.Q_far (p := ⟨gb946, 4, none⟩) (Kd.Q_far (p := ⟨gb946, 3, none⟩) (Kd.Q_far (p := ⟨gb946, 2, none⟩) (Kd.Q_far (p := ⟨gb946, 1, none⟩) (Kd.Q_far (p := ⟨gb946, 0, none⟩) (Kd.Q_types HO_9.out BK946.out (by decide)) (fun _ hk => hk.2) (.bool t932)) (fun _ hk => hk.2) (.slice Ao119 t933.length co119)) (fun _ hk => hk.2) (.slice Ao120 t936.length co120)) (fun _ hk => hk.2) (.int .i64 t939)) (fun _ hk => hk.2) (.int .i64 t940)) (fun _ hk => hk.2) (.int .i64 t941)) (fun _ h_ => h_.1))) hb); replace HO_871001 := am (Kd.R_below (by (with_reducible repeat (first | apply Kd.R_alloc | apply Kd.R_drewN | apply Kd.R_drew)); exact (Kd.R_mono (Kd.R_far (p := ⟨gb946, 5, none⟩) (Kd.R_far (p := ⟨gb946, 4, none⟩) (Kd.R_far (p := ⟨gb946, 3, none⟩) (Kd.R_far (p := ⟨gb946, 2, none⟩) (Kd.R_far (p := ⟨gb946, 1, none⟩) (Kd.R_far (p := ⟨gb946, 0, none⟩) (Kd.R_types HO_871001.out BK946.out (by decide)) (fun _ hk => hk.2) (.bool t932)) (fun _ hk => hk.2) (.slice Ao119 t933.length co119)) (fun _ hk => hk.2) (.slice Ao120 t936.length co120)) (fun _ hk => hk.2) (.int .i64 t939)) (fun _ hk => hk.2) (.int .i64 t940)) (fun _ hk => hk.2) (.int .i64 t941)) (fun _ h_ => h_.1))) hb); replace HO_871002 := am (Kd.R_below (by (with_reducible repeat (first | apply Kd.R_alloc | apply Kd.R_drewN | apply Kd.R_drew)); exact (Kd.R_mono (Kd.R_far (p := ⟨gb946, 5, none⟩) (Kd.R_far (p := ⟨gb946, 4, none⟩) (Kd.R_far (p := ⟨gb946, 3, none⟩) (Kd.R_far (p := ⟨gb946, 2, none⟩) (Kd.R_far (p := ⟨gb946, 1, none⟩) (Kd.R_far (p := ⟨gb946, 0, none⟩) (Kd.R_types HO_871002.out BK946.out (by decide)) (fun _ hk => hk.2) (.bool t932)) (fun _ hk => hk.2) (.slice Ao119 t933.length co119)) (fun _ hk => hk.2) (.slice Ao120 t936.length co120)) (fun _ hk => hk.2) (.int .i64 t939)) (fun _ hk => hk.2) (.int .i64 t940)) (fun _ hk => hk.2) (.int .i64 t941)) (fun _ h_ => h_.1))) hb); replace HO_882001 := am (Kd.Q_below (by (with_reducible repeat (first | apply Kd.Q_alloc | apply Kd.Q_drewN | apply Kd.Q_drew)); exact (Kd.Q_mono (Kd.Q_far (p := ⟨gb946, 5, none⟩) (Kd.Q_far (p := ⟨gb946, 4, none⟩) (Kd.Q_far (p := ⟨gb946, 3, none⟩) (Kd.Q_far (p := ⟨gb946, 2, none⟩) (Kd.Q_far (p := ⟨gb946, 1, none⟩) (Kd.Q_far (p := ⟨gb946, 0, none⟩) (Kd.Q_types HO_882001.out BK946.out (by decide)) (fun _ hk => hk.2) (.bool t932)) (fun _ hk => hk.2) (.slice Ao119 t933.length co119)) (fun _ hk => hk.2) (.slice Ao120 t936.length co120)) (fun _ hk => hk.2) (.int .i64 t939)) (fun _ hk => hk.2) (.int .i64 t940)) (fun _ hk => hk.2) (.int .i64 t941)) (fun _ h_ => h_.1))) hb); replace HO_882002 := am (Kd.R_below (by (with_reducible repeat (first | apply Kd.R_alloc | apply Kd.R_drewN | apply Kd.R_drew)); exact (Kd.R_mono (Kd.R_far (p := ⟨gb946, 5, none⟩) (Kd.R_far (p := ⟨gb946, 4, none⟩) (Kd.R_far (p := ⟨gb946, 3, none⟩) (Kd.R_far (p := ⟨gb946, 2, none⟩) (Kd.R_far (p := ⟨gb946, 1, none⟩) (Kd.R_far (p := ⟨gb946, 0, none⟩) (Kd.R_types HO_882002.out BK946.out (by decide)) (fun _ hk => hk.2) (.bool t932)) (fun _ hk => hk.2) (.slice Ao119 t933.length co119)) (fun _ hk => hk.2) (.slice Ao120 t936.length co120)) (fun _ hk => hk.2) (.int .i64 t939)) (fun _ hk => hk.2) (.int .i64 t940)) (fun _ hk => hk.2) (.int .i64 t941)) (fun _ h_ => h_.1))) hb); replace HO_897001 := am (Kd.Q_below (by (with_reducible repeat (first | apply Kd.Q_alloc | apply Kd.Q_drewN | apply Kd.Q_drew)); exact (Kd.Q_mono (Kd.Q_far (p := ⟨gb946, 5, none⟩) (Kd.Q_far (p := ⟨gb946, 4, none⟩) (Kd.Q_far (p := ⟨gb946, 3, none⟩) (Kd.Q_far (p := ⟨gb946, 2, none⟩) (Kd.Q_far (p := ⟨gb946, 1, none⟩) (Kd.Q_far (p := ⟨gb946, 0, none⟩) (Kd.Q_types HO_897001.out BK946.out (by decide)) (fun _ hk => hk.2) (.bool t932)) (fun _ hk => hk.2) (.slice Ao119 t933.length co119)) (fun _ hk => hk.2) (.slice Ao120 t936.length co120)) (fun _ hk => hk.2) (.int .i64 t939)) (fun _ hk => hk.2) (.int .i64 t940)) (fun _ hk => hk.2) (.int .i64 t941)) (fun _ h_ => h_.1))) hb); replace HO_897002 := am (Kd.R_below (by (with_reducible repeat (first | apply Kd.R_alloc | apply Kd.R_drewN | apply Kd.R_drew)); exact (Kd.R_mono (Kd.R_far (p := ⟨gb946, 5, none⟩) (Kd.R_far (p := ⟨gb946, 4, none⟩) (Kd.R_far (p := ⟨gb946, 3, none⟩) (Kd.R_far (p := ⟨gb946, 2, none⟩) (Kd.R_far (p := ⟨gb946, 1, none⟩) (Kd.R_far (p := ⟨gb946, 0, none⟩) (Kd.R_types HO_897002.out BK946.out (by decide)) (fun _ hk => hk.2) (.bool t932)) (fun _ hk => hk.2) (.slice Ao119 t933.length co119)) (fun _ hk => hk.2) (.slice Ao120 t936.length co120)) (fun _ hk => hk.2) (.int .i64 t939)) (fun _ hk => hk.2) (.int .i64 t940)) (fun _ hk => hk.2) (.int .i64 t941)) (fun _ h_ => h_.1))) hb); replace HO925 := am (Kd.R_below (by (with_reducible repeat (first | apply Kd.R_alloc | apply Kd.R_drewN | apply Kd.R_drew)); exact (Kd.R_mono (Kd.R_far (p := ⟨gb946, 5, none⟩) (Kd.R_far (p := ⟨gb946, 4, none⟩) (Kd.R_far (p := ⟨gb946, 3, none⟩) (Kd.R_far (p := ⟨gb946, 2, none⟩) (Kd.R_far (p := ⟨gb946, 1, none⟩) (Kd.R_far (p := ⟨gb946, 0, none⟩) (Kd.R_types HO925.out BK946.out (by decide)) (fun _ hk => hk.2) (.bool t932)) (fun _ hk => hk.2) (.slice Ao119 t933.length co119)) (fun _ hk => hk.2) (.slice Ao120 t936.length co120)) (fun _ hk => hk.2) (.int .i64 t939)) (fun _ hk => hk.2) (.int .i64 t940)) (fun _ hk => hk.2) (.int .i64 t941)) (fun _ h_ => h_.1))) hb); replace HO928 := am (Kd.R_below (by (with_reducible repeat (first | apply Kd.R_alloc | apply Kd.R_drewN | apply Kd.R_drew)); exact (Kd.R_mono (Kd.R_far (p := ⟨gb946, 5, none⟩) (Kd.R_far (p := ⟨gb946, 4, none⟩) (Kd.R_far (p := ⟨gb946, 3, none⟩) (Kd.R_far (p := ⟨gb946, 2, none⟩) (Kd.R_far (p := ⟨gb946, 1, none⟩) (Kd.R_far (p := ⟨gb946, 0, none⟩) (Kd.R_types HO928.out BK946.out (by decide)) (fun _ hk => hk.2) (.bool t932)) (fun _ hk => hk.2) (.slice Ao119 t933.length co119)) (fun _ hk => hk.2) (.slice Ao120 t936.length co120)) (fun _ hk => hk.2) (.int .i64 t939)) (fun _ hk => hk.2) (.int .i64 t940)) (fun _ hk => hk.2) (.int .i64 t941)) (fun _ h_ => h_.1))) hb); replace HO935 := am (Kd.R_below (by (with_reducible repeat (first | apply Kd.R_alloc | apply Kd.R_drewN | apply Kd.R_drew)); exact (Kd.R_mono (Kd.R_far (p := ⟨gb946, 5, none⟩) (Kd.R_far (p := ⟨gb946, 4, none⟩) (Kd.R_far (p := ⟨gb946, 3, none⟩) (Kd.R_far (p := ⟨gb946, 2, none⟩) (Kd.R_far (p := ⟨gb946, 1, none⟩) (Kd.R_far (p := ⟨gb946, 0, none⟩) (Kd.R_types HO935.out BK946.out (by decide)) (fun _ hk => hk.2) (.bool t932)) (fun _ hk => hk.2) (.slice Ao119 t933.length co119)) (fun _ hk => hk.2) (.slice Ao120 t936.length co120)) (fun _ hk => hk.2) (.int .i64 t939)) (fun _ hk => hk.2) (.int .i64 t940)) (fun _ hk => hk.2) (.int .i64 t941)) (fun _ h_ => h_.1))) hb); replace HO938 := am (Kd.R_below (by (with_reducible repeat (first | apply Kd.R_alloc | apply Kd.R_drewN | apply Kd.R_drew)); exact (Kd.R_mono (Kd.R_far (p := ⟨gb946, 5, none⟩) (Kd.R_far (p := ⟨gb946, 4, none⟩) (Kd.R_far (p := ⟨gb946, 3, none⟩) (Kd.R_far (p := ⟨gb946, 2, none⟩) (Kd.R_far (p := ⟨gb946, 1, none⟩) (Kd.R_far (p := ⟨gb946, 0, none⟩) (Kd.R_types HO938.out BK946.out (by decide)) (fun _ hk => hk.2) (.bool t932)) (fun _ hk => hk.2) (.slice Ao119 t933.length co119)) (fun _ hk => hk.2) (.slice Ao120 t936.length co120)) (fun _ hk => hk.2) (.int .i64 t939)) (fun _ hk => hk.2) (.int .i64 t940)) (fun _ hk => hk.2) (.int .i64 t941)) (fun _ h_ => h_.1))) hb); replace HO944 := am (Kd.R_below (by (with_reducible repeat (first | apply Kd.R_alloc | apply Kd.R_drewN | apply Kd.R_drew)); exact (Kd.R_mono (Kd.R_far (p := ⟨gb946, 5, none⟩) (Kd.R_far (p := ⟨gb946, 4, none⟩) (Kd.R_far (p := ⟨gb946, 3, none⟩) (Kd.R_far (p := ⟨gb946, 2, none⟩) (Kd.R_far (p := ⟨gb946, 1, none⟩) (Kd.R_far (p := ⟨gb946, 0, none⟩) (Kd.R_types HO944.out BK946.out (by decide)) (fun _ hk => hk.2) (.bool t932)) (fun _ hk => hk.2) (.slice Ao119 t933.length co119)) (fun _ hk => hk.2) (.slice Ao120 t936.length co120)) (fun _ hk => hk.2) (.int .i64 t939)) (fun _ hk => hk.2) (.int .i64 t940)) (fun _ hk => hk.2) (.int .i64 t941)) (fun _ h_ => h_.1))) hb); replace BK844 := am (blk_below (g := gb844) (o := .cells #[.bool a0_0, .slice A0_1 l0_1.length c0_1, .slice A0_2 l0_2.length c0_2, .int .i64 a0_3, .int .i64 a0_4, .int .i64 a0_5] 33 (0, 0)) (by (with_reducible repeat (first | refine blk_drewN ?_ _ | refine blk_drew ?_ | refine blk_alloc ?_ _)); refine blk_far ?_ NB844_946.out _; (with_reducible repeat (first | refine blk_drewN ?_ _ | refine blk_drew ?_ | refine blk_alloc ?_ _)); refine blk_far ?_ NB844_946.out _; (with_reducible repeat (first | refine blk_drewN ?_ _ | refine blk_drew ?_ | refine blk_alloc ?_ _)); refine blk_far ?_ NB844_946.out _; (with_reducible repeat (first | refine blk_drewN ?_ _ | refine blk_drew ?_ | refine blk_alloc ?_ _)); refine blk_far ?_ NB844_946.out _; (with_reducible repeat (first | refine blk_drewN ?_ _ | refine blk_drew ?_ | refine blk_alloc ?_ _)); refine blk_far ?_ NB844_946.out _; (with_reducible repeat (first | refine blk_drewN ?_ _ | refine blk_drew ?_ | refine blk_alloc ?_ _)); refine blk_far ?_ NB844_946.out _; exact pkK BK844.out) hb); replace BK870 := am (blk_below (g := gb870) (o := .cells #[.bool t856, .slice Ao23 t857.length co23, .slice Ao24 t860.length co24, .int .i64 t863, .int .i64 t864, .int .i64 t865] 38 (0, 0)) (by (with_reducible repeat (first | refine blk_drewN ?_ _ | refine blk_drew ?_ | refine blk_alloc ?_ _)); refine blk_far ?_ NB870_946.out _; (with_reducible repeat (first | refine blk_drewN ?_ _ | refine blk_drew ?_ | refine blk_alloc ?_ _)); refine blk_far ?_ NB870_946.out _; (with_reducible repeat (first | refine blk_drewN ?_ _ | refine blk_drew ?_ | refine blk_alloc ?_ _)); refine blk_far ?_ NB870_946.out _; (with_reducible repeat (first | refine blk_drewN ?_ _ | refine blk_drew ?_ | refine blk_alloc ?_ _)); refine blk_far ?_ NB870_946.out _; (with_reducible repeat (first | refine blk_drewN ?_ _ | refine blk_drew ?_ | refine blk_alloc ?_ _)); refine blk_far ?_ NB870_946.out _; (with_reducible repeat (first | refine blk_drewN ?_ _ | refine blk_drew ?_ | refine blk_alloc ?_ _)); refine blk_far ?_ NB870_946.out _; exact pkK BK870.out) hb); replace BK881 := am (blk_below (g := gb881) (o := .cells #[.bool t871, .slice Ao31 t911.length co31, .slice Ao32 t912.length co32, .int .i64 t878, .int .i64 t879, .int .i64 t880] 38 (0, 0)) (by (with_reducible repeat (first | refine blk_drewN ?_ _ | refine blk_drew ?_ | refine blk_alloc ?_ _)); refine blk_far ?_ NB881_946.out _; (with_reducible repeat (first | refine blk_drewN ?_ _ | refine blk_drew ?_ | refine blk_alloc ?_ _)); refine blk_far ?_ NB881_946.out _; (with_reducible repeat (first | refine blk_drewN ?_ _ | refine blk_drew ?_ | refine blk_alloc ?_ _)); refine blk_far ?_ NB881_946.out _; (with_reducible repeat (first | refine blk_drewN ?_ _ | refine blk_drew ?_ | refine blk_alloc ?_ _)); refine blk_far ?_ NB881_946.out _; (with_reducible repeat (first | refine blk_drewN ?_ _ | refine blk_drew ?_ | refine blk_alloc ?_ _)); refine blk_far ?_ NB881_946.out _; (with_reducible repeat (first | refine blk_drewN ?_ _ | refine blk_drew ?_ | refine blk_alloc ?_ _)); refine blk_far ?_ NB881_946.out _; exact pkK BK881.out) hb); replace BK896 := am (blk_below (g := gb896) (o := .cells #[.bool t882, .slice Ao39 t883.length co39, .slice Ao40 t886.length co40, .int .i64 t889, .int .i64 t890, .int .i64 t891] 38 (0, 0)) (by (with_reducible repeat (first | refine blk_drewN ?_ _ | refine blk_drew ?_ | refine blk_alloc ?_ _)); refine blk_far ?_ NB896_946.out _; (with_reducible repeat (first | refine blk_drewN ?_ _ | refine blk_drew ?_ | refine blk_alloc ?_ _)); refine blk_far ?_ NB896_946.out _; (with_reducible repeat (first | refine blk_drewN ?_ _ | refine blk_drew ?_ | refine blk_alloc ?_ _)); refine blk_far ?_ NB896_946.out _; (with_reducible repeat (first | refine blk_drewN ?_ _ | refine blk_drew ?_ | refine blk_alloc ?_ _)); refine blk_far ?_ NB896_946.out _; (with_reducible repeat (first | refine blk_drewN ?_ _ | refine blk_drew ?_ | refine blk_alloc ?_ _)); refine blk_far ?_ NB896_946.out _; (with_reducible repeat (first | refine blk_drewN ?_ _ | refine blk_drew ?_ | refine blk_alloc ?_ _)); refine blk_far ?_ NB896_946.out _; exact pkK BK896.out) hb); replace BK946 := am (blk_below (g := gb946) (o := .cells #[.bool t932, .slice Ao119 t933.length co119, .slice Ao120 t936.length co120, .int .i64 t939, .int .i64 t940, .int .i64 t941] 38 (0, 0)) (by (with_reducible repeat (first | refine blk_drewN ?_ _ | refine blk_drew ?_ | refine blk_alloc ?_ _)); refine blk_put (cs := #[.bool t932, .slice Ao119 t933.length co119, .slice Ao120 t936.length co120, .int .i64 t939, .int .i64 t940, .int .i64 0]) ?_ 5 _ rfl; (with_reducible repeat (first | refine blk_drewN ?_ _ | refine blk_drew ?_ | refine blk_alloc ?_ _)); refine blk_put (cs := #[.bool t932, .slice Ao119 t933.length co119, .slice Ao120 t936.length co120, .int .i64 t939, .int .i64 0, .int .i64 0]) ?_ 4 _ rfl; (with_reducible repeat (first | refine blk_drewN ?_ _ | refine blk_drew ?_ | refine blk_alloc ?_ _)); refine blk_put (cs := #[.bool t932, .slice Ao119 t933.length co119, .slice Ao120 t936.length co120, .int .i64 0, .int .i64 0, .int .i64 0]) ?_ 3 _ rfl; (with_reducible repeat (first | refine blk_drewN ?_ _ | refine blk_drew ?_ | refine blk_alloc ?_ _)); refine blk_put (cs := #[.bool t932, .slice Ao119 t933.length co119, .slice none 0 0, .int .i64 0, .int .i64 0, .int .i64 0]) ?_ 2 _ rfl; (with_reducible repeat (first | refine blk_drewN ?_ _ | refine blk_drew ?_ | refine blk_alloc ?_ _)); refine blk_put (cs := #[.bool t932, .slice none 0 0, .slice none 0 0, .int .i64 0, .int .i64 0, .int .i64 0]) ?_ 1 _ rfl; (with_reducible repeat (first | refine blk_drewN ?_ _ | refine blk_drew ?_ | refine blk_alloc ?_ _)); refine blk_put (cs := #[.bool false, .slice none 0 0, .slice none 0 0, .int .i64 0, .int .i64 0, .int .i64 0]) ?_ 0 _ rfl; exact pkK BK946.out) hb); replace HB := am (below_step (pkW HB.out) hb); (try clear hb); obtain ⟨Ao135, co135, eo135⟩ := Kd.R_slice HO944.out; subst eo135; obtain ⟨Ao136, co136, eo136⟩ := Kd.R_slice HO_5.out; subst eo136) | (go_at_call 34; (with_reducible refine (laws_eqIntS.calls kj59 _ _ t942 _ _ t866 true _ ?side1 ?side2 ?side3 ?side4 A123.out).mono ?_); (case side1 => exact pkC (Kd.R_reads' HO944.out).2.2); (case side2 => exact (Kd.R_reads' HO944.out).2.1); (case side3 => exact pkC (Kd.R_reads' HO_5.out).2.2); (case side4 => exact (Kd.R_reads' HO_5.out).2.1); rintro e w' ⟨rfl, ⟨nd, rfl⟩⟩))
               go_meet
               case rel => exact ⟨_, ((t945 != t869)), rfx, H', ⟨by have := HJ10.out; have := HJ59.out; first | omega | exact Nat.le_refl _⟩, ⟨by (try simp only [hl882001_59]); (try simp only [hl882002_59]); (with_reducible repeat (first | apply Kd.Q_alloc | apply Kd.Q_drewN | apply Kd.Q_drew)); exact Kd.Q_mono HO_9.out (fun _ hk => ⟨hk.1.1.1.2.1, ⟨hk.1.1.1.2.2.1, ⟨hk.1.1.1.2.2.2, hk.1.2⟩⟩⟩)⟩, ⟨by (try simp only [hl882001_59]); (try simp only [hl882002_59]); (with_reducible repeat (first | apply Kd.R_alloc | apply Kd.R_drewN | apply Kd.R_drew)); exact Kd.R_mono HO_871001.out (fun _ hk => ⟨hk.1.1.1.2.1, ⟨hk.1.1.1.2.2.1, ⟨hk.1.1.1.2.2.2, hk.1.2⟩⟩⟩)⟩, ⟨by (try simp only [hl882001_59]); (try simp only [hl882002_59]); (with_reducible repeat (first | apply Kd.R_alloc | apply Kd.R_drewN | apply Kd.R_drew)); exact Kd.R_mono HO_871002.out (fun _ hk => ⟨hk.1.1.1, ⟨hk.1.1.2, hk.2⟩⟩)⟩, ⟨by (try simp only [hl882001_59]); (try simp only [hl882002_59]); (with_reducible repeat (first | apply Kd.Q_alloc | apply Kd.Q_drewN | apply Kd.Q_drew)); exact Kd.Q_mono HO_882001.out (fun _ hk => ⟨hk.1.1.1.2.1, ⟨hk.1.1.1.2.2.1, ⟨hk.1.1.1.2.2.2, hk.1.2⟩⟩⟩)⟩, ⟨by (try simp only [hl882001_59]); (try simp only [hl882002_59]); (with_reducible repeat (first | apply Kd.R_alloc | apply Kd.R_drewN | apply Kd.R_drew)); exact Kd.R_mono HO_882002.out (fun _ hk => ⟨hk.1.1.1, ⟨hk.1.1.2, hk.2⟩⟩)⟩, ⟨by (try simp only [hl882001_59]); (try simp only [hl882002_59]); (with_reducible repeat (first | apply Kd.Q_alloc | apply Kd.Q_drewN | apply Kd.Q_drew)); exact Kd.Q_mono HO_897001.out (fun _ hk => ⟨hk.1.1.1.2.1, ⟨hk.1.1.1.2.2.1, ⟨hk.1.1.1.2.2.2, hk.1.2⟩⟩⟩)⟩, ⟨by (try simp only [hl882001_59]); (try simp only [hl882002_59]); (with_reducible repeat (first | apply Kd.R_alloc | apply Kd.R_drewN | apply Kd.R_drew)); exact Kd.R_mono HO_897002.out (fun _ hk => ⟨hk.1.1.1, ⟨hk.1.1.2, hk.2⟩⟩)⟩, ⟨by (try simp only [hl882001_59]); (try simp only [hl882002_59]); (with_reducible repeat (first | apply Kd.R_alloc | apply Kd.R_drewN | apply Kd.R_drew)); exact Kd.R_mono HO935.out (fun _ hk => ⟨hk.1.1.1.1.2, ⟨hk.1.1.1.2, ⟨hk.1.1.2, hk.1.2⟩⟩⟩)⟩, ⟨by (try simp only [hl882001_59]); (try simp only [hl882002_59]); (with_reducible repeat (first | apply Kd.R_alloc | apply Kd.R_drewN | apply Kd.R_drew)); exact Kd.R_mono HO938.out (fun _ hk => ⟨hk.1.1.1.2, ⟨hk.1.1.2, hk.1.2⟩⟩)⟩, ⟨by (try simp only [hl882001_59]); (try simp only [hl882002_59]); exact pkK BK844.out⟩, ⟨by (try simp only [hl882001_59]); (try simp only [hl882002_59]); exact pkK BK870.out⟩, ⟨by (try simp only [hl882001_59]); (try simp only [hl882002_59]); exact pkK BK881.out⟩, ⟨by (try simp only [hl882001_59]); (try simp only [hl882002_59]); exact pkK BK896.out⟩, ⟨by (try simp only [hl882001_59]); (try simp only [hl882002_59]); exact pkK BK946.out⟩, ⟨pkW HB.out⟩⟩
              ·replace c124 := Bool.eq_false_iff.mpr c124
               subst c124
               replace H : (laws_FnExactTellAll.j2 kj59 t919 t918 true t882 t916 t917 t889 t890 t891) = some r := by rw [if_neg (show ¬ (false = true) by decide)] at H; exact H
               cases kj59 with
               | zero => exact absurd H (by simp [laws_FnExactTellAll.j2])
               | succ k_ => (simp only [laws_FnExactTellAll.j2, if_pos] at H; exact absurd (Option.some.inj H) (by rw [HQ_.out]; simp))
             ·replace c122 := Bool.eq_false_iff.mpr c122
              subst c122
              replace H : (laws_FnExactTellAll.j2 kj59 t919 t918 true t882 t916 t917 t889 t890 t891) = some r := by rw [if_neg (show ¬ (false = true) by decide)] at H; exact H
              cases kj59 with
              | zero => exact absurd H (by simp [laws_FnExactTellAll.j2])
              | succ k_ => (simp only [laws_FnExactTellAll.j2, if_pos] at H; exact absurd (Option.some.inj H) (by rw [HQ_.out]; simp))
            case rest =>
             clear HC96
             try clear c1
             try clear c2
             try clear p2
             try clear c3
             try clear c3b0
             try clear c4
             try clear c5
             try clear c6
             try clear c7
             try clear c8
             try clear c9
             try clear c10
             try clear c11
             try clear c12
             try clear c13
             try clear c19
             try clear c21
             try clear c23
             try clear c28
             try clear c29
             try clear c32
             try clear c33
             try clear c35
             try clear c36
             try clear c37
             try clear c38
             try clear c42
             try clear c44
             try clear c45
             try clear c46
             try clear c47
             try clear c49
             try clear c50
             try clear c55
             try clear c58
             try clear c66
             try clear c67
             try clear c68
             try clear c71
             try clear c71b0
             try clear c73
             try clear c75
             try clear c76
             try clear c77
             try clear c78
             try clear c80
             try clear c81
             try clear c86
             try clear c90
             try clear c90b0
             try clear c92
             try clear c92b0
             try clear c93
             try clear c93b0
             try clear c93b1
             try clear c97
             try clear c98
             try clear c99
             try clear c106
             try clear c107
             try clear c114
             try clear c115
             try clear c116
             try clear c117
             try clear c122
             try clear c124
             try clear c125
             try clear c126
             try clear c127
             try clear c128
             try clear c130
             try clear c131
             try clear c132
             try clear hcz100_0
             try clear hcz100_1
             try clear hcz100_2
             try clear hcz100_3
             try clear hcz100_4
             try clear hcz100_5
             try clear hcz104_0
             try clear hcz104_1
             try clear hcz104_2
             try clear hcz104_3
             try clear hcz104_4
             try clear hcz104_5
             try clear hcz108_0
             try clear hcz108_1
             try clear hcz108_2
             try clear hcz108_3
             try clear hcz108_4
             try clear hcz108_5
             try clear hcz118_0
             try clear hcz118_1
             try clear hcz118_2
             try clear hcz118_3
             try clear hcz118_4
             try clear hcz118_5
             try clear hcz129_0
             try clear hcz129_1
             try clear hcz129_2
             try clear hcz129_3
             try clear hcz129_4
             try clear hcz129_5
             try clear hcz133_0
             try clear hcz133_1
             try clear hcz133_2
             try clear hcz133_3
             try clear hcz133_4
             try clear hcz133_5
             try clear hcz13_0
             try clear hcz13_1
             try clear hcz13_2
             try clear hcz13_3
             try clear hcz13_4
             try clear hcz13_5
             try clear hcz15_0
             try clear hcz15_1
             try clear hcz15_2
             try clear hcz15_3
             try clear hcz15_4
             try clear hcz15_5
             try clear hcz22_0
             try clear hcz22_1
             try clear hcz22_2
             try clear hcz22_3
             try clear hcz22_4
             try clear hcz22_5
             try clear hcz25_0
             try clear hcz25_1
             try clear hcz25_2
             try clear hcz25_3
             try clear hcz25_4
             try clear hcz25_5
             try clear hcz30_0
             try clear hcz30_1
             try clear hcz30_2
             try clear hcz30_3
             try clear hcz30_4
             try clear hcz30_5
             try clear hcz38_0
             try clear hcz38_1
             try clear hcz38_2
             try clear hcz38_3
             try clear hcz38_4
             try clear hcz38_5
             try clear hcz48_0
             try clear hcz48_1
             try clear hcz48_2
             try clear hcz48_3
             try clear hcz48_4
             try clear hcz48_5
             try clear hcz51_0
             try clear hcz51_1
             try clear hcz51_2
             try clear hcz51_3
             try clear hcz51_4
             try clear hcz51_5
             try clear hcz5_0
             try clear hcz5_1
             try clear hcz5_2
             try clear hcz5_3
             try clear hcz5_4
             try clear hcz5_5
             try clear hcz69_0
             try clear hcz69_1
             try clear hcz69_2
             try clear hcz69_3
             try clear hcz69_4
             try clear hcz69_5
             try clear hcz79_0
             try clear hcz79_1
             try clear hcz79_2
             try clear hcz79_3
             try clear hcz79_4
             try clear hcz79_5
             try clear hcz82_0
             try clear hcz82_1
             try clear hcz82_2
             try clear hcz82_3
             try clear hcz82_4
             try clear hcz82_5
             try clear hfz100_0
             try clear hfz100_1
             try clear hfz100_2
             try clear hfz100_3
             try clear hfz100_4
             try clear hfz100_5
             try clear hfz104_0
             try clear hfz104_1
             try clear hfz104_2
             try clear hfz104_3
             try clear hfz104_4
             try clear hfz104_5
             try clear hfz108_0
             try clear hfz108_1
             try clear hfz108_2
             try clear hfz108_3
             try clear hfz108_4
             try clear hfz108_5
             try clear hfz118_0
             try clear hfz118_1
             try clear hfz118_2
             try clear hfz118_3
             try clear hfz118_4
             try clear hfz118_5
             try clear hfz129_0
             try clear hfz129_1
             try clear hfz129_2
             try clear hfz129_3
             try clear hfz129_4
             try clear hfz129_5
             try clear hfz133_0
             try clear hfz133_1
             try clear hfz133_2
             try clear hfz133_3
             try clear hfz133_4
             try clear hfz133_5
             try clear hfz13_0
             try clear hfz13_1
             try clear hfz13_2
             try clear hfz13_3
             try clear hfz13_4
             try clear hfz13_5
             try clear hfz15_0
             try clear hfz15_1
             try clear hfz15_2
             try clear hfz15_3
             try clear hfz15_4
             try clear hfz15_5
             try clear hfz22_0
             try clear hfz22_1
             try clear hfz22_2
             try clear hfz22_3
             try clear hfz22_4
             try clear hfz22_5
             try clear hfz25_0
             try clear hfz25_1
             try clear hfz25_2
             try clear hfz25_3
             try clear hfz25_4
             try clear hfz25_5
             try clear hfz30_0
             try clear hfz30_1
             try clear hfz30_2
             try clear hfz30_3
             try clear hfz30_4
             try clear hfz30_5
             try clear hfz38_0
             try clear hfz38_1
             try clear hfz38_2
             try clear hfz38_3
             try clear hfz38_4
             try clear hfz38_5
             try clear hfz48_0
             try clear hfz48_1
             try clear hfz48_2
             try clear hfz48_3
             try clear hfz48_4
             try clear hfz48_5
             try clear hfz51_0
             try clear hfz51_1
             try clear hfz51_2
             try clear hfz51_3
             try clear hfz51_4
             try clear hfz51_5
             try clear hfz5_0
             try clear hfz5_1
             try clear hfz5_2
             try clear hfz5_3
             try clear hfz5_4
             try clear hfz5_5
             try clear hfz69_0
             try clear hfz69_1
             try clear hfz69_2
             try clear hfz69_3
             try clear hfz69_4
             try clear hfz69_5
             try clear hfz79_0
             try clear hfz79_1
             try clear hfz79_2
             try clear hfz79_3
             try clear hfz79_4
             try clear hfz79_5
             try clear hfz82_0
             try clear hfz82_1
             try clear hfz82_2
             try clear hfz82_3
             try clear hfz82_4
             try clear hfz82_5
             try clear p2
             obtain ⟨kq, x119_95, rfl, HA, HJ95, HO_9, HO_871001, HO_871002, HO_882001, HO_882002, HO_897001, HO_897002, HO_947001, HO_947002, BK844, BK870, BK881, BK896, BK946, HB⟩ := hcut
             have hl9_95 := (Kd.Q_reads' HO_9.out).1
             rw [hl9_95] at HO_9
             (try simp only [hl9_95])
             (try simp only [hl9_95] at BK844)
             (try simp only [hl9_95] at BK870)
             (try simp only [hl9_95] at BK881)
             (try simp only [hl9_95] at BK896)
             (try simp only [hl9_95] at BK946)
             (try simp only [hl9_95] at HO_871001)
             (try simp only [hl9_95] at HO_871002)
             (try simp only [hl9_95] at HO_882001)
             (try simp only [hl9_95] at HO_882002)
             (try simp only [hl9_95] at HO_897001)
             (try simp only [hl9_95] at HO_897002)
             (try simp only [hl9_95] at HO_947001)
             (try simp only [hl9_95] at HO_947002)
             have hl897001_95 := (Kd.Q_reads' HO_897001.out).1
             rw [hl897001_95] at HO_897001
             (try simp only [hl897001_95])
             (try simp only [hl897001_95] at BK844)
             (try simp only [hl897001_95] at BK870)
             (try simp only [hl897001_95] at BK881)
             (try simp only [hl897001_95] at BK896)
             (try simp only [hl897001_95] at BK946)
             (try simp only [hl897001_95] at HO_9)
             (try simp only [hl897001_95] at HO_871001)
             (try simp only [hl897001_95] at HO_871002)
             (try simp only [hl897001_95] at HO_882001)
             (try simp only [hl897001_95] at HO_882002)
             (try simp only [hl897001_95] at HO_897002)
             (try simp only [hl897001_95] at HO_947001)
             (try simp only [hl897001_95] at HO_947002)
             have hl897002_95 := (Kd.R_reads' HO_897002.out).1
             rw [hl897002_95] at HO_897002
             (try simp only [hl897002_95])
             (try simp only [hl897002_95] at BK844)
             (try simp only [hl897002_95] at BK870)
             (try simp only [hl897002_95] at BK881)
             (try simp only [hl897002_95] at BK896)
             (try simp only [hl897002_95] at BK946)
             (try simp only [hl897002_95] at HO_9)
             (try simp only [hl897002_95] at HO_871001)
             (try simp only [hl897002_95] at HO_871002)
             (try simp only [hl897002_95] at HO_882001)
             (try simp only [hl897002_95] at HO_882002)
             (try simp only [hl897002_95] at HO_897001)
             (try simp only [hl897002_95] at HO_947001)
             (try simp only [hl897002_95] at HO_947002)
             cases kq with
             | zero => exact absurd HA.out (by simp [laws_FnExactTellAll.j2])
             | succ kj95 =>
              have H := HA.out
              clear HA
              simp only [laws_FnExactTellAll.j2] at H
              by_cases c137 : x119_95 = true
              ·subst c137
               replace H : (some false) = some r := by rw [if_pos rfl] at H; exact H
               exact absurd (Option.some.inj H) (by rw [HQ_.out]; simp)
              ·replace c137 := Bool.eq_false_iff.mpr c137
               subst c137
               replace H : ((laws_heldNotify.f kj95 t882 t916 t917 t889 t890 t891 1).bind fun t949 => (if t949 < 0 then (some false) else ((laws_heldIntS.f kj95 t919 t949).bind fun t950 => (if t950 < 0 then (some false) else (if t950 = t918 then (some true) else (some false)))))) = some r := by rw [if_neg (show ¬ (false = true) by decide)] at H; exact H
               replace H := Option.bind_eq_some_iff.mp H
               obtain ⟨t949, A1380, H⟩ := H
               replace H : (if t949 < 0 then (some false) else ((laws_heldIntS.f kj95 t919 t949).bind fun t950 => (if t950 < 0 then (some false) else (if t950 = t918 then (some true) else (some false))))) = some r := H
               have A138 := am A1380
               clear A1380
               by_cases c139 : t949 < 0
               ·rw [if_pos c139] at H
                have c139b0 : decide (t949 < 0) = true := decide_eq_true c139
                clear c139
                exact absurd (Option.some.inj H) (by rw [HQ_.out]; simp)
               ·rw [if_neg c139] at H
                have c139b0 : decide (t949 < 0) = false := decide_eq_false c139
                clear c139
                replace H := Option.bind_eq_some_iff.mp H
                obtain ⟨t950, A1400, H⟩ := H
                replace H : (if t950 < 0 then (some false) else (if t950 = t918 then (some true) else (some false))) = some r := H
                have A140 := am A1400
                clear A1400
                by_cases c141 : t950 < 0
                ·rw [if_pos c141] at H
                 have c141b0 : decide (t950 < 0) = true := decide_eq_true c141
                 clear c141
                 exact absurd (Option.some.inj H) (by rw [HQ_.out]; simp)
                ·rw [if_neg c141] at H
                 have c141b0 : decide (t950 < 0) = false := decide_eq_false c141
                 clear c141
                 by_cases c142 : t950 = t918
                 ·rw [if_pos c142] at H
                  have c142b0 : (t950 == t918) = true := beq_iff_eq.mpr c142
                  have c142b1 : (t950 != t918) = false := bne_eq_false_iff_eq.mpr c142
                  clear c142
                  obtain rfl := Option.some.inj H
                  have hnb143 := NB896_844.out
                  have hnc143 := NB844_896.out
                  have hnb144 := NB896_870.out
                  have hnc144 := NB870_896.out
                  have hnb145 := NB896_881.out
                  have hnc145 := NB881_896.out
                  have hnb146 := NB896_946.out
                  have hnc146 := NB946_896.out
                  obtain ⟨hcz147_0, hcz147_1, hcz147_2, hcz147_3, hcz147_4, hcz147_5, hfz147_0, hfz147_1, hfz147_2, hfz147_3, hfz147_4, hfz147_5⟩ := bk6 BK896.out
                  go_wp2_with (first | ((with_reducible refine gate_callee (f := 37) rfl ?_); refine goesL_ (some 122) rfl rfl Try.func37 (by kernel_rfl) rfl #[.agg #[.bool t882, .slice Ao39 t916.length co39, .slice Ao40 t917.length co40, .int .i64 t889, .int .i64 t890, .int .i64 t891], .int .i64 1] rfl mpx ?_; (with_reducible refine (laws_heldNotify.calls kj95 t882 _ _ t916 _ _ t917 t889 t890 t891 1 t949 _ ?side1 ?side2 ?side3 ?side4 A138.out).mono ?_); (case side1 => repeat (first | exact (Kd.Q_reads' HO_897001.out).2.2 | (with_reducible refine Kd.C_alloc ?_ _) | (with_reducible refine Kd.C_drewN ?_ _) | (with_reducible refine Kd.C_drew ?_))); (case side2 => exact (Kd.Q_reads' HO_897001.out).2.1); (case side3 => exact pkC (Kd.R_reads' HO_897002.out).2.2); (case side4 => exact (Kd.R_reads' HO_897002.out).2.1); rintro e w148 ⟨rfl, hb⟩; refine ⟨_, rfl, ?_⟩; replace HO_9 := am (Kd.Q_below (pkQ HO_9.out) hb); replace HO_871001 := am (Kd.R_below (pkR HO_871001.out) hb); replace HO_871002 := am (Kd.R_below (pkR HO_871002.out) hb); replace HO_882001 := am (Kd.Q_below (pkQ HO_882001.out) hb); replace HO_882002 := am (Kd.R_below (pkR HO_882002.out) hb); replace HO_897001 := am (Kd.Q_below (pkQ HO_897001.out) hb); replace HO_897002 := am (Kd.R_below (pkR HO_897002.out) hb); replace HO_947001 := am (Kd.R_below (pkR HO_947001.out) hb); replace HO_947002 := am (Kd.R_below (pkR HO_947002.out) hb); replace BK844 := am (blk_below (pkK BK844.out) hb); replace BK870 := am (blk_below (pkK BK870.out) hb); replace BK881 := am (blk_below (pkK BK881.out) hb); replace BK896 := am (blk_below (pkK BK896.out) hb); replace BK946 := am (blk_below (pkK BK946.out) hb); replace HB := am (below_step (pkW HB.out) hb); (try clear hb)) | ((with_reducible refine gate_callee (f := 38) rfl ?_); refine goesL_ (some 127) rfl rfl Try.func38 (by kernel_rfl) rfl #[.slice Ao102 t919.length co102, .int .i64 t949] rfl mpx ?_; (with_reducible refine (laws_heldIntS.calls kj95 _ _ t919 t949 t950 _ ?side1 ?side2 A140.out).mono ?_); (case side1 => repeat (first | exact (Kd.Q_reads' HO_9.out).2.2 | (with_reducible refine Kd.C_alloc ?_ _) | (with_reducible refine Kd.C_drewN ?_ _) | (with_reducible refine Kd.C_drew ?_))); (case side2 => exact (Kd.Q_reads' HO_9.out).2.1); rintro e w' ⟨rfl, ⟨nd, rfl⟩⟩; refine ⟨_, rfl, ?_⟩))
                  go_ret
                  exact ⟨rfe, pkW HB.out⟩
                 ·rw [if_neg c142] at H
                  have c142b0 : (t950 == t918) = false := beq_eq_false_iff_ne.mpr c142
                  have c142b1 : (t950 != t918) = true := bne_iff_ne.mpr c142
                  exact absurd (Option.some.inj H) (by rw [HQ_.out]; simp)
           ·rw [if_neg c93] at H
            have c93b0 : (t921 == t918) = false := beq_eq_false_iff_ne.mpr c93
            have c93b1 : (t921 != t918) = true := bne_iff_ne.mpr c93
            exact absurd (Option.some.inj H) (by rw [HQ_.out]; simp)
     ·replace c58 := Bool.eq_false_iff.mpr c58
      subst c58
      replace H : (some false) = some r := by rw [if_neg (show ¬ (false = true) by decide)] at H; exact H
      exact absurd (Option.some.inj H) (by rw [HQ_.out]; simp)
end Go.Proofs.Ytdagpmnadapbjaa.Z
