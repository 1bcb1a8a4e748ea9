import Derived.Test.YtffcphplnilokaaZx0
import Derived.Test.YtffcphplnilokaaZx11
import Derived.Test.YtffcphplnilokaaZx25
import Derived.Test.YtffcphplnilokaaZx26
import Derived.Test.YtffcphplnilokaaZx27
import Derived.Test.YtffcphplnilokaaZx38
import Derived.Test.YtffcphplnilokaaZx39
namespace Go.Proofs.Ytffcphplnilokaa.Z
open Go.RowKit Go.Proofs.YtffcphplnilokaaW.PrintWords Go.Proofs.YtffcphplnilokaaW.PrintLast Go.Proofs.YtffcphplnilokaaW.PrintMore
attribute [local go_sem] max2_int min2_int max_two min_two max_three min_three max_four min_four   -- for this text's walks alone
set_option linter.unusedVariables false
set_option linter.unusedSimpArgs false
mutual
def laws_FnExactWatch.j0 : Nat → Int → Int → Int → Int → Bool → Int → Int → ByteArray → Int → Bool → List Int → List Int → Int → Int → ByteArray → Int → Bool → List Int → List Int → Int → Int → ByteArray → Int → Bool → List Int → List Int → Int → Int → ByteArray → Int → Bool → List Int → List Int → Option (Bool)
  | 0, _, _, _, _, _, _, _, _, _, _, _, _, _, _, _, _, _, _, _, _, _, _, _, _, _, _, _, _, _, _, _, _, _ => none
  | k + 1, x1, x2, x9, x12, x48, x909000, x909001, x909002, x909003, x909004, x909005, x909006, x934000, x934001, x934002, x934003, x934004, x934005, x934006, x946000, x946001, x946002, x946003, x946004, x946005, x946006, x959000, x959001, x959002, x959003, x959004, x959005, x959006 => if x48 = true then (some false) else ((laws_toCell.f k x909000 x909001 x909002 x909003 x909004 x909005 x909006).bind fun bt960 => ((laws_eqCell.f k x946000 x946001 x946002 x946003 x946004 x946005 x946006 bt960.1 bt960.2.1 bt960.2.2.1 bt960.2.2.2.1 bt960.2.2.2.2.1 bt960.2.2.2.2.2.1 bt960.2.2.2.2.2.2).bind fun t971 => (if t971 = true then ((laws_markCell.f k x946000 x946001 x946002 x946003 x946004 x946005 x946006 1).bind fun bt972 => (if bt972.1 < 0 then (laws_FnExactWatch.j1 k x1 x2 x9 true x909000 x909001 x909002 x909003 x909004 x909005 x909006 x934000 x934001 x934002 x934003 x934004 x934005 x934006 x959000 x959001 x959002 x959003 x959004 x959005 x959006) else ((laws_eqCell.f k x959000 x959001 x959002 x959003 x959004 x959005 x959006 x934000 x934001 x934002 x934003 x934004 x934005 x934006).bind fun t975 => (if t975 = true then (laws_FnExactWatch.j1 k x1 x2 x9 (x12 != x9) x909000 x909001 x909002 x909003 x909004 x909005 x909006 x934000 x934001 x934002 x934003 x934004 x934005 x934006 x959000 x959001 x959002 x959003 x959004 x959005 x959006) else (laws_FnExactWatch.j1 k x1 x2 x9 true x909000 x909001 x909002 x909003 x909004 x909005 x909006 x934000 x934001 x934002 x934003 x934004 x934005 x934006 x959000 x959001 x959002 x959003 x959004 x959005 x959006))))) else (some false))))
def laws_FnExactWatch.j1 : Nat → Int → Int → Int → Bool → Int → Int → ByteArray → Int → Bool → List Int → List Int → Int → Int → ByteArray → Int → Bool → List Int → List Int → Int → Int → ByteArray → Int → Bool → List Int → List Int → Option (Bool)
  | 0, _, _, _, _, _, _, _, _, _, _, _, _, _, _, _, _, _, _, _, _, _, _, _, _, _ => none
  | k + 1, x1, x2, x9, x69, x909000, x909001, x909002, x909003, x909004, x909005, x909006, x934000, x934001, x934002, x934003, x934004, x934005, x934006, x959000, x959001, x959002, x959003, x959004, x959005, x959006 => if x69 = true then (some false) else ((laws_markCell.f k x959000 x959001 x959002 x959003 x959004 x959005 x959006 1).bind fun bt976 => ((laws_heldCell.f k x959000 x959001 x959002 x959003 x959004 bt976.2.1 bt976.2.2 1).bind fun t979 => (if t979 < 0 then (some false) else (if t979 = bt976.1 then ((laws_toCell.f k x909000 x909001 x909002 x909003 x909004 x909005 x909006).bind fun bt980 => ((impl_Watch.f k bt980.1 bt980.2.1 bt980.2.2.1 bt980.2.2.2.1 bt980.2.2.2.2.1 bt980.2.2.2.2.2.1 bt980.2.2.2.2.2.2 x1 x2).bind fun bt991 => ((laws_eqCell.f k bt991.1 bt991.2.1 bt991.2.2.1 bt991.2.2.2.1 bt991.2.2.2.2.1 bt991.2.2.2.2.2.1 bt991.2.2.2.2.2.2.1 x934000 x934001 x934002 x934003 x934004 x934005 x934006).bind fun t1004 => (if t1004 = true then (laws_FnExactWatch.j2 k bt976.1 (bt991.2.2.2.2.2.2.2 != x9) x959000 x959001 x959002 x959003 x959004 bt976.2.1 bt976.2.2) else (laws_FnExactWatch.j2 k bt976.1 true x959000 x959001 x959002 x959003 x959004 bt976.2.1 bt976.2.2))))) else (some false)))))
def laws_FnExactWatch.j2 : Nat → Int → Bool → Int → Int → ByteArray → Int → Bool → List Int → List Int → Option (Bool)
  | 0, _, _, _, _, _, _, _, _, _ => none
  | k + 1, x14, x97, x959000, x959001, x959002, x959003, x959004, x959005, x959006 => if x97 = true then (some false) else ((laws_heldCell.f k x959000 x959001 x959002 x959003 x959004 x959005 x959006 1).bind fun t1005 => (if t1005 < 0 then (some false) else (if t1005 = x14 then (some true) else (some false))))
end
def laws_FnExactWatch.f (k : Nat) (a0_0 : Int) (a0_1 : Int) (a0_2 : ByteArray) (a0_3 : Int) (a0_4 : Bool) (l0_5 : List Int) (l0_6 : List Int) (a1 : Int) (a2 : Int) : Option (Bool) := (laws_szCell.f a0_0 a0_1 a0_2 a0_3 a0_4 l0_5 l0_6 1048576).bind fun t909 => (if t909 < 0 then (some true) else ((laws_toCell.f k a0_0 a0_1 a0_2 a0_3 a0_4 l0_5 l0_6).bind fun bt910 => ((spec_Watch.f k bt910.1 bt910.2.1 bt910.2.2.1 bt910.2.2.2.1 bt910.2.2.2.2.1 bt910.2.2.2.2.2.1 bt910.2.2.2.2.2.2 a1 a2).bind fun bt921 => ((laws_toCell.f k a0_0 a0_1 a0_2 a0_3 a0_4 l0_5 l0_6).bind fun bt934 => ((impl_Watch.f k bt934.1 bt934.2.1 bt934.2.2.1 bt934.2.2.2.1 bt934.2.2.2.2.1 bt934.2.2.2.2.2.1 bt934.2.2.2.2.2.2 a1 a2).bind fun bt946 => ((laws_eqCell.f k bt946.1 bt946.2.1 bt946.2.2.1 bt946.2.2.2.1 bt946.2.2.2.2.1 bt946.2.2.2.2.2.1 bt946.2.2.2.2.2.2.1 bt921.1 bt921.2.1 bt921.2.2.1 bt921.2.2.2.1 bt921.2.2.2.2.1 bt921.2.2.2.2.2.1 bt921.2.2.2.2.2.2.1).bind fun t959 => (if t959 = true then (laws_FnExactWatch.j0 k a1 a2 bt921.2.2.2.2.2.2.2 bt946.2.2.2.2.2.2.2 (bt946.2.2.2.2.2.2.2 != bt921.2.2.2.2.2.2.2) a0_0 a0_1 a0_2 a0_3 a0_4 l0_5 l0_6 bt921.1 bt921.2.1 bt921.2.2.1 bt921.2.2.2.1 bt921.2.2.2.2.1 bt921.2.2.2.2.2.1 bt921.2.2.2.2.2.2.1 bt934.1 bt934.2.1 bt934.2.2.1 bt934.2.2.2.1 bt934.2.2.2.2.1 bt934.2.2.2.2.2.1 bt934.2.2.2.2.2.2 bt946.1 bt946.2.1 bt946.2.2.1 bt946.2.2.2.1 bt946.2.2.2.2.1 bt946.2.2.2.2.2.1 bt946.2.2.2.2.2.2.1) else (laws_FnExactWatch.j0 k a1 a2 bt921.2.2.2.2.2.2.2 bt946.2.2.2.2.2.2.2 true a0_0 a0_1 a0_2 a0_3 a0_4 l0_5 l0_6 bt921.1 bt921.2.1 bt921.2.2.1 bt921.2.2.2.1 bt921.2.2.2.2.1 bt921.2.2.2.2.2.1 bt921.2.2.2.2.2.2.1 bt934.1 bt934.2.1 bt934.2.2.1 bt934.2.2.2.1 bt934.2.2.2.2.1 bt934.2.2.2.2.2.1 bt934.2.2.2.2.2.2 bt946.1 bt946.2.1 bt946.2.2.1 bt946.2.2.2.1 bt946.2.2.2.2.1 bt946.2.2.2.2.2.1 bt946.2.2.2.2.2.2.1))))))))
theorem laws_FnExactWatch.mono_l : ∀ k, (∀ y0 y1 y2 y3 y4 y5 y6 y7 y8 y9 y10 y11 y12 y13 y14 y15 y16 y17 y18 y19 y20 y21 y22 y23 y24 y25 y26 y27 y28 y29 y30 y31 y32, LeO (laws_FnExactWatch.j0 k y0 y1 y2 y3 y4 y5 y6 y7 y8 y9 y10 y11 y12 y13 y14 y15 y16 y17 y18 y19 y20 y21 y22 y23 y24 y25 y26 y27 y28 y29 y30 y31 y32) (laws_FnExactWatch.j0 (k + 1) y0 y1 y2 y3 y4 y5 y6 y7 y8 y9 y10 y11 y12 y13 y14 y15 y16 y17 y18 y19 y20 y21 y22 y23 y24 y25 y26 y27 y28 y29 y30 y31 y32)) ∧ (∀ y0 y1 y2 y3 y4 y5 y6 y7 y8 y9 y10 y11 y12 y13 y14 y15 y16 y17 y18 y19 y20 y21 y22 y23 y24, LeO (laws_FnExactWatch.j1 k y0 y1 y2 y3 y4 y5 y6 y7 y8 y9 y10 y11 y12 y13 y14 y15 y16 y17 y18 y19 y20 y21 y22 y23 y24) (laws_FnExactWatch.j1 (k + 1) y0 y1 y2 y3 y4 y5 y6 y7 y8 y9 y10 y11 y12 y13 y14 y15 y16 y17 y18 y19 y20 y21 y22 y23 y24)) ∧ (∀ y0 y1 y2 y3 y4 y5 y6 y7 y8, LeO (laws_FnExactWatch.j2 k y0 y1 y2 y3 y4 y5 y6 y7 y8) (laws_FnExactWatch.j2 (k + 1) y0 y1 y2 y3 y4 y5 y6 y7 y8))
  | 0 => ⟨fun _ _ _ _ _ _ _ _ _ _ _ _ _ _ _ _ _ _ _ _ _ _ _ _ _ _ _ _ _ _ _ _ _ r h => by simp [laws_FnExactWatch.j0] at h, fun _ _ _ _ _ _ _ _ _ _ _ _ _ _ _ _ _ _ _ _ _ _ _ _ _ r h => by simp [laws_FnExactWatch.j1] at h, fun _ _ _ _ _ _ _ _ _ r h => by simp [laws_FnExactWatch.j2] at h⟩
  | k + 1 => by
    obtain ⟨ih0, ih1, ih2⟩ := laws_FnExactWatch.mono_l k
    refine ⟨?_, ?_, ?_⟩
    · intro y0 y1 y2 y3 y4 y5 y6 y7 y8 y9 y10 y11 y12 y13 y14 y15 y16 y17 y18 y19 y20 y21 y22 y23 y24 y25 y26 y27 y28 y29 y30 y31 y32
      unfold laws_FnExactWatch.j0
      repeat' first
      | (with_reducible exact ih0 _ _ _ _ _ _ _ _ _ _ _ _ _ _ _ _ _ _ _ _ _ _ _ _ _ _ _ _ _ _ _ _ _)
      | (with_reducible exact ih1 _ _ _ _ _ _ _ _ _ _ _ _ _ _ _ _ _ _ _ _ _ _ _ _ _)
      | (with_reducible exact ih2 _ _ _ _ _ _ _ _ _)
      | (with_reducible exact impl_Watch.mono _ _ _ _ _ _ _ _ _ _)
      | (with_reducible exact laws_eqCell.mono _ _ _ _ _ _ _ _ _ _ _ _ _ _ _)
      | (with_reducible exact laws_heldCell.mono _ _ _ _ _ _ _ _ _)
      | (with_reducible exact laws_markCell.mono _ _ _ _ _ _ _ _ _)
      | (with_reducible exact laws_toCell.mono _ _ _ _ _ _ _ _)
      | (with_reducible exact spec_Watch.mono _ _ _ _ _ _ _ _ _ _)
      | (with_reducible exact LeO.refl _)
      | (with_reducible exact LeO.none _)
      | (with_reducible refine LeO.ite ?_ ?_)
      | (with_reducible refine LeO.bind ?_ (fun _ => ?_))
      | exact ih0 _ _ _ _ _ _ _ _ _ _ _ _ _ _ _ _ _ _ _ _ _ _ _ _ _ _ _ _ _ _ _ _ _
      | exact ih1 _ _ _ _ _ _ _ _ _ _ _ _ _ _ _ _ _ _ _ _ _ _ _ _ _
      | exact ih2 _ _ _ _ _ _ _ _ _
      | exact impl_Watch.mono _ _ _ _ _ _ _ _ _ _
      | exact laws_eqCell.mono _ _ _ _ _ _ _ _ _ _ _ _ _ _ _
      | exact laws_heldCell.mono _ _ _ _ _ _ _ _ _
      | exact laws_markCell.mono _ _ _ _ _ _ _ _ _
      | exact laws_toCell.mono _ _ _ _ _ _ _ _
      | exact spec_Watch.mono _ _ _ _ _ _ _ _ _ _
      | exact LeO.none _
      | refine LeO.ite ?_ ?_
      | refine LeO.bind ?_ (fun _ => ?_)
    · intro y0 y1 y2 y3 y4 y5 y6 y7 y8 y9 y10 y11 y12 y13 y14 y15 y16 y17 y18 y19 y20 y21 y22 y23 y24
      unfold laws_FnExactWatch.j1
      repeat' first
      | (with_reducible exact ih0 _ _ _ _ _ _ _ _ _ _ _ _ _ _ _ _ _ _ _ _ _ _ _ _ _ _ _ _ _ _ _ _ _)
      | (with_reducible exact ih1 _ _ _ _ _ _ _ _ _ _ _ _ _ _ _ _ _ _ _ _ _ _ _ _ _)
      | (with_reducible exact ih2 _ _ _ _ _ _ _ _ _)
      | (with_reducible exact impl_Watch.mono _ _ _ _ _ _ _ _ _ _)
      | (with_reducible exact laws_eqCell.mono _ _ _ _ _ _ _ _ _ _ _ _ _ _ _)
      | (with_reducible exact laws_heldCell.mono _ _ _ _ _ _ _ _ _)
      | (with_reducible exact laws_markCell.mono _ _ _ _ _ _ _ _ _)
      | (with_reducible exact laws_toCell.mono _ _ _ _ _ _ _ _)
      | (with_reducible exact spec_Watch.mono _ _ _ _ _ _ _ _ _ _)
      | (with_reducible exact LeO.refl _)
      | (with_reducible exact LeO.none _)
      | (with_reducible refine LeO.ite ?_ ?_)
      | (with_reducible refine LeO.bind ?_ (fun _ => ?_))
      | exact ih0 _ _ _ _ _ _ _ _ _ _ _ _ _ _ _ _ _ _ _ _ _ _ _ _ _ _ _ _ _ _ _ _ _
      | exact ih1 _ _ _ _ _ _ _ _ _ _ _ _ _ _ _ _ _ _ _ _ _ _ _ _ _
      | exact ih2 _ _ _ _ _ _ _ _ _
      | exact impl_Watch.mono _ _ _ _ _ _ _ _ _ _
      | exact laws_eqCell.mono _ _ _ _ _ _ _ _ _ _ _ _ _ _ _
      | exact laws_heldCell.mono _ _ _ _ _ _ _ _ _
      | exact laws_markCell.mono _ _ _ _ _ _ _ _ _
      | exact laws_toCell.mono _ _ _ _ _ _ _ _
      | exact spec_Watch.mono _ _ _ _ _ _ _ _ _ _
      | exact LeO.none _
      | refine LeO.ite ?_ ?_
      | refine LeO.bind ?_ (fun _ => ?_)
    · intro y0 y1 y2 y3 y4 y5 y6 y7 y8
      unfold laws_FnExactWatch.j2
      repeat' first
      | (with_reducible exact ih0 _ _ _ _ _ _ _ _ _ _ _ _ _ _ _ _ _ _ _ _ _ _ _ _ _ _ _ _ _ _ _ _ _)
      | (with_reducible exact ih1 _ _ _ _ _ _ _ _ _ _ _ _ _ _ _ _ _ _ _ _ _ _ _ _ _)
      | (with_reducible exact ih2 _ _ _ _ _ _ _ _ _)
      | (with_reducible exact impl_Watch.mono _ _ _ _ _ _ _ _ _ _)
      | (with_reducible exact laws_eqCell.mono _ _ _ _ _ _ _ _ _ _ _ _ _ _ _)
      | (with_reducible exact laws_heldCell.mono _ _ _ _ _ _ _ _ _)
      | (with_reducible exact laws_markCell.mono _ _ _ _ _ _ _ _ _)
      | (with_reducible exact laws_toCell.mono _ _ _ _ _ _ _ _)
      | (with_reducible exact spec_Watch.mono _ _ _ _ _ _ _ _ _ _)
      | (with_reducible exact LeO.refl _)
      | (with_reducible exact LeO.none _)
      | (with_reducible refine LeO.ite ?_ ?_)
      | (with_reducible refine LeO.bind ?_ (fun _ => ?_))
      | exact ih0 _ _ _ _ _ _ _ _ _ _ _ _ _ _ _ _ _ _ _ _ _ _ _ _ _ _ _ _ _ _ _ _ _
      | exact ih1 _ _ _ _ _ _ _ _ _ _ _ _ _ _ _ _ _ _ _ _ _ _ _ _ _
      | exact ih2 _ _ _ _ _ _ _ _ _
      | exact impl_Watch.mono _ _ _ _ _ _ _ _ _ _
      | exact laws_eqCell.mono _ _ _ _ _ _ _ _ _ _ _ _ _ _ _
      | exact laws_heldCell.mono _ _ _ _ _ _ _ _ _
      | exact laws_markCell.mono _ _ _ _ _ _ _ _ _
      | exact laws_toCell.mono _ _ _ _ _ _ _ _
      | exact spec_Watch.mono _ _ _ _ _ _ _ _ _ _
      | exact LeO.none _
      | refine LeO.ite ?_ ?_
      | refine LeO.bind ?_ (fun _ => ?_)
theorem laws_FnExactWatch.mono : ∀ a0 a1 a2 a3 a4 a5 a6 a7 a8 k, LeO (laws_FnExactWatch.f k a0 a1 a2 a3 a4 a5 a6 a7 a8) (laws_FnExactWatch.f (k + 1) a0 a1 a2 a3 a4 a5 a6 a7 a8) := by
  intro a0 a1 a2 a3 a4 a5 a6 a7 a8 k
  obtain ⟨ih0, ih1, ih2⟩ := laws_FnExactWatch.mono_l k
  unfold laws_FnExactWatch.f
  repeat' first
      | (with_reducible exact ih0 _ _ _ _ _ _ _ _ _ _ _ _ _ _ _ _ _ _ _ _ _ _ _ _ _ _ _ _ _ _ _ _ _)
      | (with_reducible exact ih1 _ _ _ _ _ _ _ _ _ _ _ _ _ _ _ _ _ _ _ _ _ _ _ _ _)
      | (with_reducible exact ih2 _ _ _ _ _ _ _ _ _)
      | (with_reducible exact impl_Watch.mono _ _ _ _ _ _ _ _ _ _)
      | (with_reducible exact laws_eqCell.mono _ _ _ _ _ _ _ _ _ _ _ _ _ _ _)
      | (with_reducible exact laws_heldCell.mono _ _ _ _ _ _ _ _ _)
      | (with_reducible exact laws_markCell.mono _ _ _ _ _ _ _ _ _)
      | (with_reducible exact laws_toCell.mono _ _ _ _ _ _ _ _)
      | (with_reducible exact spec_Watch.mono _ _ _ _ _ _ _ _ _ _)
      | (with_reducible exact LeO.refl _)
      | (with_reducible exact LeO.none _)
      | (with_reducible refine LeO.ite ?_ ?_)
      | (with_reducible refine LeO.bind ?_ (fun _ => ?_))
      | exact ih0 _ _ _ _ _ _ _ _ _ _ _ _ _ _ _ _ _ _ _ _ _ _ _ _ _ _ _ _ _ _ _ _ _
      | exact ih1 _ _ _ _ _ _ _ _ _ _ _ _ _ _ _ _ _ _ _ _ _ _ _ _ _
      | exact ih2 _ _ _ _ _ _ _ _ _
      | exact impl_Watch.mono _ _ _ _ _ _ _ _ _ _
      | exact laws_eqCell.mono _ _ _ _ _ _ _ _ _ _ _ _ _ _ _
      | exact laws_heldCell.mono _ _ _ _ _ _ _ _ _
      | exact laws_markCell.mono _ _ _ _ _ _ _ _ _
      | exact laws_toCell.mono _ _ _ _ _ _ _ _
      | exact spec_Watch.mono _ _ _ _ _ _ _ _ _ _
      | exact LeO.none _
      | refine LeO.ite ?_ ?_
      | refine LeO.bind ?_ (fun _ => ?_)
set_option maxHeartbeats 8000000 in
set_option maxRecDepth 100000 in
theorem laws_FnExactWatch.calls (k : Nat) (a0_0 : Int) (a0_1 : Int) (a0_2 : ByteArray) (a0_3 : Int) (a0_4 : Bool) (A0_5 : Option Addr) (c0_5 : Nat) (l0_5 : List Int) (A0_6 : Option Addr) (c0_6 : Nat) (l0_6 : List Int) (a1 : Int) (a2 : Int) (r : Bool) (w : World) (hr0_5 : Kd.C (Kd.int .i64) w A0_5 l0_5.length l0_5) (hc0_5 : l0_5.length ≤ c0_5) (hr0_6 : Kd.C (Kd.int .i64) w A0_6 l0_6.length l0_6) (hc0_6 : l0_6.length ≤ c0_6) (HQ_ : Aside0 (r = true)) (h : laws_FnExactWatch.f k a0_0 a0_1 a0_2 a0_3 a0_4 l0_5 l0_6 a1 a2 = some r) :
    Calls Try.prog 12 #[.agg #[.int .i64 a0_0, .int .i64 a0_1, .string a0_2, .int .i64 a0_3, .bool a0_4, .slice A0_5 l0_5.length c0_5, .slice A0_6 l0_6.length c0_6], .int .i64 a1, .int .i64 a2] w fun e w' => e = .returned (.bool r) ∧ Below w.heap.size w w' := by
  have hu56 := Try.underlying56
  have hu29 := Try.underlying29
  have HR0_5 := Aside0.mk hr0_5
  have HC0_5 := Aside0.mk hc0_5
  clear hr0_5 hc0_5
  have HR0_6 := Aside0.mk hr0_6
  have HC0_6 := Aside0.mk hc0_6
  clear hr0_6 hc0_6
  have HB := Aside0.mk (Below.refl w.heap.size w)
  have H : ((laws_szCell.f a0_0 a0_1 a0_2 a0_3 a0_4 l0_5 l0_6 1048576).bind fun t909 => (if t909 < 0 then (some true) else ((laws_toCell.f k a0_0 a0_1 a0_2 a0_3 a0_4 l0_5 l0_6).bind fun bt910 => ((spec_Watch.f k bt910.1 bt910.2.1 bt910.2.2.1 bt910.2.2.2.1 bt910.2.2.2.2.1 bt910.2.2.2.2.2.1 bt910.2.2.2.2.2.2 a1 a2).bind fun bt921 => ((laws_toCell.f k a0_0 a0_1 a0_2 a0_3 a0_4 l0_5 l0_6).bind fun bt934 => ((impl_Watch.f k bt934.1 bt934.2.1 bt934.2.2.1 bt934.2.2.2.1 bt934.2.2.2.2.1 bt934.2.2.2.2.2.1 bt934.2.2.2.2.2.2 a1 a2).bind fun bt946 => ((laws_eqCell.f k bt946.1 bt946.2.1 bt946.2.2.1 bt946.2.2.2.1 bt946.2.2.2.2.1 bt946.2.2.2.2.2.1 bt946.2.2.2.2.2.2.1 bt921.1 bt921.2.1 bt921.2.2.1 bt921.2.2.2.1 bt921.2.2.2.2.1 bt921.2.2.2.2.2.1 bt921.2.2.2.2.2.2.1).bind fun t959 => (if t959 = true then (laws_FnExactWatch.j0 k a1 a2 bt921.2.2.2.2.2.2.2 bt946.2.2.2.2.2.2.2 (bt946.2.2.2.2.2.2.2 != bt921.2.2.2.2.2.2.2) a0_0 a0_1 a0_2 a0_3 a0_4 l0_5 l0_6 bt921.1 bt921.2.1 bt921.2.2.1 bt921.2.2.2.1 bt921.2.2.2.2.1 bt921.2.2.2.2.2.1 bt921.2.2.2.2.2.2.1 bt934.1 bt934.2.1 bt934.2.2.1 bt934.2.2.2.1 bt934.2.2.2.2.1 bt934.2.2.2.2.2.1 bt934.2.2.2.2.2.2 bt946.1 bt946.2.1 bt946.2.2.1 bt946.2.2.2.1 bt946.2.2.2.2.1 bt946.2.2.2.2.2.1 bt946.2.2.2.2.2.2.1) else (laws_FnExactWatch.j0 k a1 a2 bt921.2.2.2.2.2.2.2 bt946.2.2.2.2.2.2.2 true a0_0 a0_1 a0_2 a0_3 a0_4 l0_5 l0_6 bt921.1 bt921.2.1 bt921.2.2.1 bt921.2.2.2.1 bt921.2.2.2.2.1 bt921.2.2.2.2.2.1 bt921.2.2.2.2.2.2.1 bt934.1 bt934.2.1 bt934.2.2.1 bt934.2.2.2.1 bt934.2.2.2.2.1 bt934.2.2.2.2.2.1 bt934.2.2.2.2.2.2 bt946.1 bt946.2.1 bt946.2.2.1 bt946.2.2.2.1 bt946.2.2.2.2.1 bt946.2.2.2.2.2.1 bt946.2.2.2.2.2.2.1))))))))) = some r := h
  clear h
  replace H := Option.bind_eq_some_iff.mp H
  obtain ⟨t909, A40, H⟩ := H
  replace H : (if t909 < 0 then (some true) else ((laws_toCell.f k a0_0 a0_1 a0_2 a0_3 a0_4 l0_5 l0_6).bind fun bt910 => ((spec_Watch.f k bt910.1 bt910.2.1 bt910.2.2.1 bt910.2.2.2.1 bt910.2.2.2.2.1 bt910.2.2.2.2.2.1 bt910.2.2.2.2.2.2 a1 a2).bind fun bt921 => ((laws_toCell.f k a0_0 a0_1 a0_2 a0_3 a0_4 l0_5 l0_6).bind fun bt934 => ((impl_Watch.f k bt934.1 bt934.2.1 bt934.2.2.1 bt934.2.2.2.1 bt934.2.2.2.2.1 bt934.2.2.2.2.2.1 bt934.2.2.2.2.2.2 a1 a2).bind fun bt946 => ((laws_eqCell.f k bt946.1 bt946.2.1 bt946.2.2.1 bt946.2.2.2.1 bt946.2.2.2.2.1 bt946.2.2.2.2.2.1 bt946.2.2.2.2.2.2.1 bt921.1 bt921.2.1 bt921.2.2.1 bt921.2.2.2.1 bt921.2.2.2.2.1 bt921.2.2.2.2.2.1 bt921.2.2.2.2.2.2.1).bind fun t959 => (if t959 = true then (laws_FnExactWatch.j0 k a1 a2 bt921.2.2.2.2.2.2.2 bt946.2.2.2.2.2.2.2 (bt946.2.2.2.2.2.2.2 != bt921.2.2.2.2.2.2.2) a0_0 a0_1 a0_2 a0_3 a0_4 l0_5 l0_6 bt921.1 bt921.2.1 bt921.2.2.1 bt921.2.2.2.1 bt921.2.2.2.2.1 bt921.2.2.2.2.2.1 bt921.2.2.2.2.2.2.1 bt934.1 bt934.2.1 bt934.2.2.1 bt934.2.2.2.1 bt934.2.2.2.2.1 bt934.2.2.2.2.2.1 bt934.2.2.2.2.2.2 bt946.1 bt946.2.1 bt946.2.2.1 bt946.2.2.2.1 bt946.2.2.2.2.1 bt946.2.2.2.2.2.1 bt946.2.2.2.2.2.2.1) else (laws_FnExactWatch.j0 k a1 a2 bt921.2.2.2.2.2.2.2 bt946.2.2.2.2.2.2.2 true a0_0 a0_1 a0_2 a0_3 a0_4 l0_5 l0_6 bt921.1 bt921.2.1 bt921.2.2.1 bt921.2.2.2.1 bt921.2.2.2.2.1 bt921.2.2.2.2.2.1 bt921.2.2.2.2.2.2.1 bt934.1 bt934.2.1 bt934.2.2.1 bt934.2.2.2.1 bt934.2.2.2.2.1 bt934.2.2.2.2.2.1 bt934.2.2.2.2.2.2 bt946.1 bt946.2.1 bt946.2.2.1 bt946.2.2.2.1 bt946.2.2.2.2.1 bt946.2.2.2.2.2.1 bt946.2.2.2.2.2.2.1)))))))) = some r := H
  have A4 := Aside0.mk A40
  clear A40
  by_cases c5 : t909 < 0
  · rw [if_pos c5] at H
    have c5b0 : decide (t909 < 0) = true := decide_eq_true c5
    clear c5
    obtain rfl := Option.some.inj H
    go_enter Try.func12, Try.ntmps12
    go_wp2_with (first | ((with_reducible refine gate_dst (N := 3) rfl ?_); refine box_event ?hg (N := 3) ?hd (cs := #[.int .i64 a0_0, .int .i64 a0_1, .string a0_2, .int .i64 a0_3, .bool a0_4, .slice A0_5 l0_5.length c0_5, .slice A0_6 l0_6.length c0_6]) (t := 56) ?hr ?_; (case hd => rfl); (case hg => rfl); (case hr => first | (go_simp; done) | (go_simp; rfl)); intro gb908 hg w6 hbox hb; have n0_ := Aside0.mk (below_step (pkB HB.out) hb); have n1_ := Aside0.mk (hbox); have n2_ := Aside0.mk ((by rw [hg]; exact (below_size (pkB HB.out)) : w.heap.size ≤ gb908)); have n3_ := Aside0.mk ((by rw [hg]; exact (below_size (pkB HB.out)) : w.heap.size ≤ gb908)); clear HB; have HB := n0_; have BK908 := n1_; have GW908 := n2_; have GE908 := n3_; clear n0_ n1_ n2_ n3_; clear hb hbox hg; have hcz7_0 : w6.cell? ⟨gb908, 0, none⟩ = some (.int .i64 a0_0) := (blk_cell BK908.out 0).trans rfl; have hcz7_1 : w6.cell? ⟨gb908, 1, none⟩ = some (.int .i64 a0_1) := (blk_cell BK908.out 1).trans rfl; have hcz7_2 : w6.cell? ⟨gb908, 2, none⟩ = some (.string a0_2) := (blk_cell BK908.out 2).trans rfl; have hcz7_3 : w6.cell? ⟨gb908, 3, none⟩ = some (.int .i64 a0_3) := (blk_cell BK908.out 3).trans rfl; have hcz7_4 : w6.cell? ⟨gb908, 4, none⟩ = some (.bool a0_4) := (blk_cell BK908.out 4).trans rfl; have hcz7_5 : w6.cell? ⟨gb908, 5, none⟩ = some (.slice A0_5 l0_5.length c0_5) := (blk_cell BK908.out 5).trans rfl; have hcz7_6 : w6.cell? ⟨gb908, 6, none⟩ = some (.slice A0_6 l0_6.length c0_6) := (blk_cell BK908.out 6).trans rfl; have hfz7_0 := blk_frozen BK908.out 0; have hfz7_1 := blk_frozen BK908.out 1; have hfz7_2 := blk_frozen BK908.out 2; have hfz7_3 := blk_frozen BK908.out 3; have hfz7_4 := blk_frozen BK908.out 4; have hfz7_5 := blk_frozen BK908.out 5; have hfz7_6 := blk_frozen BK908.out 6) | ((with_reducible refine gate_callee (f := 31) rfl ?_); refine goesL_ (some 20) rfl rfl Try.func31 (by kernel_rfl) rfl #[.agg #[.int .i64 a0_0, .int .i64 a0_1, .string a0_2, .int .i64 a0_3, .bool a0_4, .slice A0_5 l0_5.length c0_5, .slice A0_6 l0_6.length c0_6], .int .i64 1048576] rfl (by (try simp only [List.map_toArray, List.map_cons, List.map_nil]); first | done | rfl | (simp only [List.length_drop, List.length_take]; rfl) | (go_simp; done) | (simp [*]; done)) ?_; (with_reducible refine (laws_szCell.calls a0_0 a0_1 a0_2 a0_3 a0_4 _ _ l0_5 _ _ l0_6 1048576 t909 _ ?side1 ?side2 ?side3 ?side4 A4.out).mono ?_); (case side1 => exact pkC (Kd.C_below HR0_5.out HB.out)); (case side2 => exact HC0_5.out); (case side3 => exact pkC (Kd.C_below HR0_6.out HB.out)); (case side4 => exact HC0_6.out); rintro e w8 ⟨rfl, hb⟩; refine ⟨_, rfl, ?_⟩; have n0_ := Aside0.mk (blk_below (g := gb908) (o := .cells #[.int .i64 a0_0, .int .i64 a0_1, .string a0_2, .int .i64 a0_3, .bool a0_4, .slice A0_5 l0_5.length c0_5, .slice A0_6 l0_6.length c0_6] 56 (0, 0)) (pkK BK908.out) hb); have n1_ := Aside0.mk (below_step (by repeat (first | (with_reducible first | exact HB.out | apply below_alloc | apply pw_below_drewN | apply below_drew1 | refine below_set ?_ GE908.out) | exact HB.out)) hb); clear BK908 HB; have BK908 := n0_; have HB := n1_; clear n0_ n1_; (try clear hb); (try clear hb2); (try clear hk); (try clear hi)))
    go_ret
    exact ⟨by first | rfl | (simp [errW_none, errW_some] <;> rfl) | (simp [*, errW_none, errW_some] <;> rfl), by repeat (first | (with_reducible first | exact HB.out | apply below_alloc | apply pw_below_drewN | apply below_drew1 | refine below_set ?_ GE908.out) | exact HB.out)⟩
  · rw [if_neg c5] at H
    have c5b0 : decide (t909 < 0) = false := decide_eq_false c5
    clear c5
    replace H := Option.bind_eq_some_iff.mp H
    obtain ⟨⟨t910, t911, t912, t913, t914, t915, t918⟩, A90, H⟩ := H
    replace H : ((spec_Watch.f k t910 t911 t912 t913 t914 t915 t918 a1 a2).bind fun bt921 => ((laws_toCell.f k a0_0 a0_1 a0_2 a0_3 a0_4 l0_5 l0_6).bind fun bt934 => ((impl_Watch.f k bt934.1 bt934.2.1 bt934.2.2.1 bt934.2.2.2.1 bt934.2.2.2.2.1 bt934.2.2.2.2.2.1 bt934.2.2.2.2.2.2 a1 a2).bind fun bt946 => ((laws_eqCell.f k bt946.1 bt946.2.1 bt946.2.2.1 bt946.2.2.2.1 bt946.2.2.2.2.1 bt946.2.2.2.2.2.1 bt946.2.2.2.2.2.2.1 bt921.1 bt921.2.1 bt921.2.2.1 bt921.2.2.2.1 bt921.2.2.2.2.1 bt921.2.2.2.2.2.1 bt921.2.2.2.2.2.2.1).bind fun t959 => (if t959 = true then (laws_FnExactWatch.j0 k a1 a2 bt921.2.2.2.2.2.2.2 bt946.2.2.2.2.2.2.2 (bt946.2.2.2.2.2.2.2 != bt921.2.2.2.2.2.2.2) a0_0 a0_1 a0_2 a0_3 a0_4 l0_5 l0_6 bt921.1 bt921.2.1 bt921.2.2.1 bt921.2.2.2.1 bt921.2.2.2.2.1 bt921.2.2.2.2.2.1 bt921.2.2.2.2.2.2.1 bt934.1 bt934.2.1 bt934.2.2.1 bt934.2.2.2.1 bt934.2.2.2.2.1 bt934.2.2.2.2.2.1 bt934.2.2.2.2.2.2 bt946.1 bt946.2.1 bt946.2.2.1 bt946.2.2.2.1 bt946.2.2.2.2.1 bt946.2.2.2.2.2.1 bt946.2.2.2.2.2.2.1) else (laws_FnExactWatch.j0 k a1 a2 bt921.2.2.2.2.2.2.2 bt946.2.2.2.2.2.2.2 true a0_0 a0_1 a0_2 a0_3 a0_4 l0_5 l0_6 bt921.1 bt921.2.1 bt921.2.2.1 bt921.2.2.2.1 bt921.2.2.2.2.1 bt921.2.2.2.2.2.1 bt921.2.2.2.2.2.2.1 bt934.1 bt934.2.1 bt934.2.2.1 bt934.2.2.2.1 bt934.2.2.2.2.1 bt934.2.2.2.2.2.1 bt934.2.2.2.2.2.2 bt946.1 bt946.2.1 bt946.2.2.1 bt946.2.2.2.1 bt946.2.2.2.2.1 bt946.2.2.2.2.2.1 bt946.2.2.2.2.2.2.1)))))) = some r := H
    have A9 := Aside0.mk A90
    clear A90
    replace H := Option.bind_eq_some_iff.mp H
    obtain ⟨⟨t921, t922, t923, t924, t925, t926, t929, t932⟩, A100, H⟩ := H
    replace H : ((laws_toCell.f k a0_0 a0_1 a0_2 a0_3 a0_4 l0_5 l0_6).bind fun bt934 => ((impl_Watch.f k bt934.1 bt934.2.1 bt934.2.2.1 bt934.2.2.2.1 bt934.2.2.2.2.1 bt934.2.2.2.2.2.1 bt934.2.2.2.2.2.2 a1 a2).bind fun bt946 => ((laws_eqCell.f k bt946.1 bt946.2.1 bt946.2.2.1 bt946.2.2.2.1 bt946.2.2.2.2.1 bt946.2.2.2.2.2.1 bt946.2.2.2.2.2.2.1 t921 t922 t923 t924 t925 t926 t929).bind fun t959 => (if t959 = true then (laws_FnExactWatch.j0 k a1 a2 t932 bt946.2.2.2.2.2.2.2 (bt946.2.2.2.2.2.2.2 != t932) a0_0 a0_1 a0_2 a0_3 a0_4 l0_5 l0_6 t921 t922 t923 t924 t925 t926 t929 bt934.1 bt934.2.1 bt934.2.2.1 bt934.2.2.2.1 bt934.2.2.2.2.1 bt934.2.2.2.2.2.1 bt934.2.2.2.2.2.2 bt946.1 bt946.2.1 bt946.2.2.1 bt946.2.2.2.1 bt946.2.2.2.2.1 bt946.2.2.2.2.2.1 bt946.2.2.2.2.2.2.1) else (laws_FnExactWatch.j0 k a1 a2 t932 bt946.2.2.2.2.2.2.2 true a0_0 a0_1 a0_2 a0_3 a0_4 l0_5 l0_6 t921 t922 t923 t924 t925 t926 t929 bt934.1 bt934.2.1 bt934.2.2.1 bt934.2.2.2.1 bt934.2.2.2.2.1 bt934.2.2.2.2.2.1 bt934.2.2.2.2.2.2 bt946.1 bt946.2.1 bt946.2.2.1 bt946.2.2.2.1 bt946.2.2.2.2.1 bt946.2.2.2.2.2.1 bt946.2.2.2.2.2.2.1))))) = some r := H
    have A10 := Aside0.mk A100
    clear A100
    replace H := Option.bind_eq_some_iff.mp H
    obtain ⟨⟨t934, t935, t936, t937, t938, t939, t942⟩, A110, H⟩ := H
    replace H : ((impl_Watch.f k t934 t935 t936 t937 t938 t939 t942 a1 a2).bind fun bt946 => ((laws_eqCell.f k bt946.1 bt946.2.1 bt946.2.2.1 bt946.2.2.2.1 bt946.2.2.2.2.1 bt946.2.2.2.2.2.1 bt946.2.2.2.2.2.2.1 t921 t922 t923 t924 t925 t926 t929).bind fun t959 => (if t959 = true then (laws_FnExactWatch.j0 k a1 a2 t932 bt946.2.2.2.2.2.2.2 (bt946.2.2.2.2.2.2.2 != t932) a0_0 a0_1 a0_2 a0_3 a0_4 l0_5 l0_6 t921 t922 t923 t924 t925 t926 t929 t934 t935 t936 t937 t938 t939 t942 bt946.1 bt946.2.1 bt946.2.2.1 bt946.2.2.2.1 bt946.2.2.2.2.1 bt946.2.2.2.2.2.1 bt946.2.2.2.2.2.2.1) else (laws_FnExactWatch.j0 k a1 a2 t932 bt946.2.2.2.2.2.2.2 true a0_0 a0_1 a0_2 a0_3 a0_4 l0_5 l0_6 t921 t922 t923 t924 t925 t926 t929 t934 t935 t936 t937 t938 t939 t942 bt946.1 bt946.2.1 bt946.2.2.1 bt946.2.2.2.1 bt946.2.2.2.2.1 bt946.2.2.2.2.2.1 bt946.2.2.2.2.2.2.1)))) = some r := H
    have A11 := Aside0.mk A110
    clear A110
    replace H := Option.bind_eq_some_iff.mp H
    obtain ⟨⟨t946, t947, t948, t949, t950, t951, t954, t957⟩, A120, H⟩ := H
    replace H : ((laws_eqCell.f k t946 t947 t948 t949 t950 t951 t954 t921 t922 t923 t924 t925 t926 t929).bind fun t959 => (if t959 = true then (laws_FnExactWatch.j0 k a1 a2 t932 t957 (t957 != t932) a0_0 a0_1 a0_2 a0_3 a0_4 l0_5 l0_6 t921 t922 t923 t924 t925 t926 t929 t934 t935 t936 t937 t938 t939 t942 t946 t947 t948 t949 t950 t951 t954) else (laws_FnExactWatch.j0 k a1 a2 t932 t957 true a0_0 a0_1 a0_2 a0_3 a0_4 l0_5 l0_6 t921 t922 t923 t924 t925 t926 t929 t934 t935 t936 t937 t938 t939 t942 t946 t947 t948 t949 t950 t951 t954))) = some r := H
    have A12 := Aside0.mk A120
    clear A120
    have HC13 := Aside0.mk H
    clear H
    go_enter Try.func12, Try.ntmps12
    go_upto_region 8 with (first | ((with_reducible refine gate_dst (N := 3) rfl ?_); refine box_event ?hg (N := 3) ?hd (cs := #[.int .i64 a0_0, .int .i64 a0_1, .string a0_2, .int .i64 a0_3, .bool a0_4, .slice A0_5 l0_5.length c0_5, .slice A0_6 l0_6.length c0_6]) (t := 56) ?hr ?_; (case hd => rfl); (case hg => rfl); (case hr => first | (go_simp; done) | (go_simp; rfl)); intro gb908 hg w14 hbox hb; have n0_ := Aside0.mk (below_step (pkB HB.out) hb); have n1_ := Aside0.mk (hbox); have n2_ := Aside0.mk ((by rw [hg]; exact (below_size (pkB HB.out)) : w.heap.size ≤ gb908)); have n3_ := Aside0.mk ((by rw [hg]; exact (below_size (pkB HB.out)) : w.heap.size ≤ gb908)); clear HB; have HB := n0_; have BK908 := n1_; have GW908 := n2_; have GE908 := n3_; clear n0_ n1_ n2_ n3_; clear hb hbox hg; have hcz15_0 : w14.cell? ⟨gb908, 0, none⟩ = some (.int .i64 a0_0) := (blk_cell BK908.out 0).trans rfl; have hcz15_1 : w14.cell? ⟨gb908, 1, none⟩ = some (.int .i64 a0_1) := (blk_cell BK908.out 1).trans rfl; have hcz15_2 : w14.cell? ⟨gb908, 2, none⟩ = some (.string a0_2) := (blk_cell BK908.out 2).trans rfl; have hcz15_3 : w14.cell? ⟨gb908, 3, none⟩ = some (.int .i64 a0_3) := (blk_cell BK908.out 3).trans rfl; have hcz15_4 : w14.cell? ⟨gb908, 4, none⟩ = some (.bool a0_4) := (blk_cell BK908.out 4).trans rfl; have hcz15_5 : w14.cell? ⟨gb908, 5, none⟩ = some (.slice A0_5 l0_5.length c0_5) := (blk_cell BK908.out 5).trans rfl; have hcz15_6 : w14.cell? ⟨gb908, 6, none⟩ = some (.slice A0_6 l0_6.length c0_6) := (blk_cell BK908.out 6).trans rfl; have hfz15_0 := blk_frozen BK908.out 0; have hfz15_1 := blk_frozen BK908.out 1; have hfz15_2 := blk_frozen BK908.out 2; have hfz15_3 := blk_frozen BK908.out 3; have hfz15_4 := blk_frozen BK908.out 4; have hfz15_5 := blk_frozen BK908.out 5; have hfz15_6 := blk_frozen BK908.out 6) | ((with_reducible refine gate_callee (f := 31) rfl ?_); refine goesL_ (some 20) rfl rfl Try.func31 (by kernel_rfl) rfl #[.agg #[.int .i64 a0_0, .int .i64 a0_1, .string a0_2, .int .i64 a0_3, .bool a0_4, .slice A0_5 l0_5.length c0_5, .slice A0_6 l0_6.length c0_6], .int .i64 1048576] rfl (by (try simp only [List.map_toArray, List.map_cons, List.map_nil]); first | done | rfl | (simp only [List.length_drop, List.length_take]; rfl) | (go_simp; done) | (simp [*]; done)) ?_; (with_reducible refine (laws_szCell.calls a0_0 a0_1 a0_2 a0_3 a0_4 _ _ l0_5 _ _ l0_6 1048576 t909 _ ?side1 ?side2 ?side3 ?side4 A4.out).mono ?_); (case side1 => exact pkC (Kd.C_below HR0_5.out HB.out)); (case side2 => exact HC0_5.out); (case side3 => exact pkC (Kd.C_below HR0_6.out HB.out)); (case side4 => exact HC0_6.out); rintro e w16 ⟨rfl, hb⟩; refine ⟨_, rfl, ?_⟩; have n0_ := Aside0.mk (blk_below (g := gb908) (o := .cells #[.int .i64 a0_0, .int .i64 a0_1, .string a0_2, .int .i64 a0_3, .bool a0_4, .slice A0_5 l0_5.length c0_5, .slice A0_6 l0_6.length c0_6] 56 (0, 0)) (pkK BK908.out) hb); have n1_ := Aside0.mk (below_step (by repeat (first | (with_reducible first | exact HB.out | apply below_alloc | apply pw_below_drewN | apply below_drew1 | refine below_set ?_ GE908.out) | exact HB.out)) hb); clear BK908 HB; have BK908 := n0_; have HB := n1_; clear n0_ n1_; (try clear hb); (try clear hb2); (try clear hk); (try clear hi); have hcz17_0 : w16.cell? ⟨gb908, 0, none⟩ = some (.int .i64 a0_0) := (blk_cell BK908.out 0).trans rfl; have hcz17_1 : w16.cell? ⟨gb908, 1, none⟩ = some (.int .i64 a0_1) := (blk_cell BK908.out 1).trans rfl; have hcz17_2 : w16.cell? ⟨gb908, 2, none⟩ = some (.string a0_2) := (blk_cell BK908.out 2).trans rfl; have hcz17_3 : w16.cell? ⟨gb908, 3, none⟩ = some (.int .i64 a0_3) := (blk_cell BK908.out 3).trans rfl; have hcz17_4 : w16.cell? ⟨gb908, 4, none⟩ = some (.bool a0_4) := (blk_cell BK908.out 4).trans rfl; have hcz17_5 : w16.cell? ⟨gb908, 5, none⟩ = some (.slice A0_5 l0_5.length c0_5) := (blk_cell BK908.out 5).trans rfl; have hcz17_6 : w16.cell? ⟨gb908, 6, none⟩ = some (.slice A0_6 l0_6.length c0_6) := (blk_cell BK908.out 6).trans rfl; have hfz17_0 := blk_frozen BK908.out 0; have hfz17_1 := blk_frozen BK908.out 1; have hfz17_2 := blk_frozen BK908.out 2; have hfz17_3 := blk_frozen BK908.out 3; have hfz17_4 := blk_frozen BK908.out 4; have hfz17_5 := blk_frozen BK908.out 5; have hfz17_6 := blk_frozen BK908.out 6) | ((with_reducible refine gate_callee (f := 32) rfl ?_); refine goesL_ (some 25) rfl rfl Try.func32 (by kernel_rfl) rfl #[.agg #[.int .i64 a0_0, .int .i64 a0_1, .string a0_2, .int .i64 a0_3, .bool a0_4, .slice A0_5 l0_5.length c0_5, .slice A0_6 l0_6.length c0_6]] rfl (by (try simp only [List.map_toArray, List.map_cons, List.map_nil]); first | done | rfl | (simp only [List.length_drop, List.length_take]; rfl) | (go_simp; done) | (simp [*]; done)) ?_; (with_reducible refine (laws_toCell.calls k a0_0 a0_1 a0_2 a0_3 a0_4 _ _ l0_5 _ _ l0_6 t910 t911 t912 t913 t914 t915 t918 _ ?side1 ?side2 ?side3 ?side4 A9.out).mono ?_); (case side1 => exact pkC (Kd.C_below HR0_5.out HB.out)); (case side2 => exact HC0_5.out); (case side3 => exact pkC (Kd.C_below HR0_6.out HB.out)); (case side4 => exact HC0_6.out); rintro e w18 ⟨v916, v919, rfl, ho0, ho1, hb⟩; refine ⟨_, rfl, ?_⟩; have n0_ := Aside0.mk (Kd.R_lower ho0 (below_size (by repeat (first | (with_reducible first | exact HB.out | apply below_alloc | apply pw_below_drewN | apply below_drew1 | refine below_set ?_ GE908.out) | exact HB.out)))); have n1_ := Aside0.mk (Kd.R_lower ho1 (below_size (by repeat (first | (with_reducible first | exact HB.out | apply below_alloc | apply pw_below_drewN | apply below_drew1 | refine below_set ?_ GE908.out) | exact HB.out)))); have n2_ := Aside0.mk (blk_below (g := gb908) (o := .cells #[.int .i64 a0_0, .int .i64 a0_1, .string a0_2, .int .i64 a0_3, .bool a0_4, .slice A0_5 l0_5.length c0_5, .slice A0_6 l0_6.length c0_6] 56 (0, 0)) (pkK BK908.out) hb); have n3_ := Aside0.mk (below_step (by repeat (first | (with_reducible first | exact HB.out | apply below_alloc | apply pw_below_drewN | apply below_drew1 | refine below_set ?_ GE908.out) | exact HB.out)) hb); clear BK908 HB; have HO917 := n0_; have HO920 := n1_; have BK908 := n2_; have HB := n3_; clear n0_ n1_ n2_ n3_; (try clear hb); (try clear hb2); (try clear hk); (try clear hi); (try clear ho0); (try clear ho1); obtain ⟨Ao19, co19, eo19⟩ := Kd.R_slice HO917.out; subst eo19; obtain ⟨Ao20, co20, eo20⟩ := Kd.R_slice HO920.out; subst eo20) | ((with_reducible refine gate_callee (f := 47) rfl ?_); refine goesL_ (some 28) rfl rfl Try.func47 (by kernel_rfl) rfl #[.agg #[.int .i64 t910, .int .i64 t911, .string t912, .int .i64 t913, .bool t914, .slice Ao19 t915.length co19, .slice Ao20 t918.length co20], .int .i64 a1, .int .i64 a2] rfl (by (try simp only [List.map_toArray, List.map_cons, List.map_nil]); first | done | rfl | (simp only [List.length_drop, List.length_take]; rfl) | (go_simp; done) | (simp [*]; done)) ?_; (with_reducible refine (spec_Watch.calls k t910 t911 t912 t913 t914 _ _ t915 _ _ t918 a1 a2 t921 t922 t923 t924 t925 t926 t929 t932 _ ?side1 ?side2 ?side3 ?side4 A10.out).mono ?_); (case side1 => exact pkC (Kd.R_reads' HO917.out).2.2); (case side2 => exact (Kd.R_reads' HO917.out).2.1); (case side3 => exact pkC (Kd.R_reads' HO920.out).2.2); (case side4 => exact (Kd.R_reads' HO920.out).2.1); rintro e w21 ⟨v927, v930, rfl, ho0, ho1, hb⟩; refine ⟨_, rfl, ?_⟩; have n0_ := Aside0.mk (Kd.R_mono (Kd.R_told (Kd.R_told (Kd.R_old (pkR HO917.out) hb) (Kd.R_base ho0)) (Kd.R_base ho1)) (fun _ h_ => h_.1)); have n1_ := Aside0.mk (Kd.R_mono (Kd.R_told (Kd.R_told (Kd.R_old (pkR HO920.out) hb) (Kd.R_base ho0)) (Kd.R_base ho1)) (fun _ h_ => h_.1)); have n2_ := Aside0.mk (Kd.R_lower (Kd.R_new' (Kd.R_new' ho0 (Kd.R_lt (pkR HO917.out))) (Kd.R_lt (pkR HO920.out))) (below_size (by repeat (first | (with_reducible first | exact HB.out | apply below_alloc | apply pw_below_drewN | apply below_drew1 | refine below_set ?_ GE908.out) | exact HB.out)))); have n3_ := Aside0.mk (Kd.R_lower (Kd.R_new' (Kd.R_new' ho1 (Kd.R_lt (pkR HO917.out))) (Kd.R_lt (pkR HO920.out))) (below_size (by repeat (first | (with_reducible first | exact HB.out | apply below_alloc | apply pw_below_drewN | apply below_drew1 | refine below_set ?_ GE908.out) | exact HB.out)))); have n4_ := Aside0.mk (blk_below (g := gb908) (o := .cells #[.int .i64 a0_0, .int .i64 a0_1, .string a0_2, .int .i64 a0_3, .bool a0_4, .slice A0_5 l0_5.length c0_5, .slice A0_6 l0_6.length c0_6] 56 (0, 0)) (pkK BK908.out) hb); have n5_ := Aside0.mk (below_step (by repeat (first | (with_reducible first | exact HB.out | apply below_alloc | apply pw_below_drewN | apply below_drew1 | refine below_set ?_ GE908.out) | exact HB.out)) hb); clear HO917 HO920 BK908 HB; have HO917 := n0_; have HO920 := n1_; have HO928 := n2_; have HO931 := n3_; have BK908 := n4_; have HB := n5_; clear n0_ n1_ n2_ n3_ n4_ n5_; (try clear hb); (try clear hb2); (try clear hk); (try clear hi); (try clear ho0); (try clear ho1)) | ((with_reducible refine gate_dst (N := 8) rfl ?_); refine box_event ?hg (N := 8) ?hd (cs := #[.int .i64 0, .int .i64 0, .string (⟨#[]⟩ : ByteArray), .int .i64 0, .bool false, .slice none 0 0, .slice none 0 0]) (t := 29) ?hr ?_; (case hd => rfl); (case hg => rfl); (case hr => first | (go_simp; done) | (go_simp; rfl)); intro gb933 hg w22 hbox hb; have n0_ := Aside0.mk (Kd.R_below (pkR HO917.out) hb); have n1_ := Aside0.mk (Kd.R_below (pkR HO920.out) hb); have n2_ := Aside0.mk (Kd.R_below (pkR HO928.out) hb); have n3_ := Aside0.mk (Kd.R_below (pkR HO931.out) hb); have n4_ := Aside0.mk (blk_below (g := gb908) (o := .cells #[.int .i64 a0_0, .int .i64 a0_1, .string a0_2, .int .i64 a0_3, .bool a0_4, .slice A0_5 l0_5.length c0_5, .slice A0_6 l0_6.length c0_6] 56 (0, 0)) (pkK BK908.out) hb); have n5_ := Aside0.mk (below_step (by repeat (first | (with_reducible first | exact HB.out | apply below_alloc | apply pw_below_drewN | apply below_drew1 | refine below_set ?_ GE908.out) | exact HB.out)) hb); have n6_ := Aside0.mk (hbox); have n7_ := Aside0.mk ((by rw [hg]; exact (below_size (by repeat (first | (with_reducible first | exact HB.out | apply below_alloc | apply pw_below_drewN | apply below_drew1 | refine below_set ?_ GE908.out) | exact HB.out))) : w.heap.size ≤ gb933)); have n8_ := Aside0.mk ((by rw [hg]; exact (below_size (by repeat (first | (with_reducible first | exact HB.out | apply below_alloc | apply pw_below_drewN | apply below_drew1 | refine below_set ?_ GE908.out) | exact HB.out))) : w.heap.size ≤ gb933)); have n9_ := Aside0.mk ((by rw [hg]; exact Nat.ne_of_lt (blk_lt (g := gb908) (o := .cells #[.int .i64 a0_0, .int .i64 a0_1, .string a0_2, .int .i64 a0_3, .bool a0_4, .slice A0_5 l0_5.length c0_5, .slice A0_6 l0_6.length c0_6] 56 (0, 0)) (pkK BK908.out)) : gb908 ≠ gb933)); have n10_ := Aside0.mk ((by rw [hg]; exact Nat.ne_of_gt (blk_lt (g := gb908) (o := .cells #[.int .i64 a0_0, .int .i64 a0_1, .string a0_2, .int .i64 a0_3, .bool a0_4, .slice A0_5 l0_5.length c0_5, .slice A0_6 l0_6.length c0_6] 56 (0, 0)) (pkK BK908.out)) : gb933 ≠ gb908)); clear HO917 HO920 HO928 HO931 BK908 HB; have HO917 := n0_; have HO920 := n1_; have HO928 := n2_; have HO931 := n3_; have BK908 := n4_; have HB := n5_; have BK933 := n6_; have GW933 := n7_; have GE933 := n8_; have NB908_933 := n9_; have NB933_908 := n10_; clear n0_ n1_ n2_ n3_ n4_ n5_ n6_ n7_ n8_ n9_ n10_; clear hb hbox hg; have hnb23 := NB933_908.out; have hnc23 := NB908_933.out; have hcz24_0 : w22.cell? ⟨gb933, 0, none⟩ = some (.int .i64 0) := (blk_cell BK933.out 0).trans rfl; have hcz24_1 : w22.cell? ⟨gb933, 1, none⟩ = some (.int .i64 0) := (blk_cell BK933.out 1).trans rfl; have hcz24_2 : w22.cell? ⟨gb933, 2, none⟩ = some (.string (⟨#[]⟩ : ByteArray)) := (blk_cell BK933.out 2).trans rfl; have hcz24_3 : w22.cell? ⟨gb933, 3, none⟩ = some (.int .i64 0) := (blk_cell BK933.out 3).trans rfl; have hcz24_4 : w22.cell? ⟨gb933, 4, none⟩ = some (.bool false) := (blk_cell BK933.out 4).trans rfl; have hcz24_5 : w22.cell? ⟨gb933, 5, none⟩ = some (.slice none 0 0) := (blk_cell BK933.out 5).trans rfl; have hcz24_6 : w22.cell? ⟨gb933, 6, none⟩ = some (.slice none 0 0) := (blk_cell BK933.out 6).trans rfl; have hfz24_0 := blk_frozen BK933.out 0; have hfz24_1 := blk_frozen BK933.out 1; have hfz24_2 := blk_frozen BK933.out 2; have hfz24_3 := blk_frozen BK933.out 3; have hfz24_4 := blk_frozen BK933.out 4; have hfz24_5 := blk_frozen BK933.out 5; have hfz24_6 := blk_frozen BK933.out 6; obtain ⟨Ao25, co25, eo25⟩ := Kd.R_slice HO928.out; subst eo25; obtain ⟨Ao26, co26, eo26⟩ := Kd.R_slice HO931.out; subst eo26; have hcz27_0 : w22.cell? ⟨gb908, 0, none⟩ = some (.int .i64 a0_0) := (blk_cell BK908.out 0).trans rfl; have hcz27_1 : w22.cell? ⟨gb908, 1, none⟩ = some (.int .i64 a0_1) := (blk_cell BK908.out 1).trans rfl; have hcz27_2 : w22.cell? ⟨gb908, 2, none⟩ = some (.string a0_2) := (blk_cell BK908.out 2).trans rfl; have hcz27_3 : w22.cell? ⟨gb908, 3, none⟩ = some (.int .i64 a0_3) := (blk_cell BK908.out 3).trans rfl; have hcz27_4 : w22.cell? ⟨gb908, 4, none⟩ = some (.bool a0_4) := (blk_cell BK908.out 4).trans rfl; have hcz27_5 : w22.cell? ⟨gb908, 5, none⟩ = some (.slice A0_5 l0_5.length c0_5) := (blk_cell BK908.out 5).trans rfl; have hcz27_6 : w22.cell? ⟨gb908, 6, none⟩ = some (.slice A0_6 l0_6.length c0_6) := (blk_cell BK908.out 6).trans rfl; have hfz27_0 := blk_frozen BK908.out 0; have hfz27_1 := blk_frozen BK908.out 1; have hfz27_2 := blk_frozen BK908.out 2; have hfz27_3 := blk_frozen BK908.out 3; have hfz27_4 := blk_frozen BK908.out 4; have hfz27_5 := blk_frozen BK908.out 5; have hfz27_6 := blk_frozen BK908.out 6) | ((with_reducible refine gate_callee (f := 32) rfl ?_); refine goesL_ (some 32) rfl rfl Try.func32 (by kernel_rfl) rfl #[.agg #[.int .i64 a0_0, .int .i64 a0_1, .string a0_2, .int .i64 a0_3, .bool a0_4, .slice A0_5 l0_5.length c0_5, .slice A0_6 l0_6.length c0_6]] rfl (by (try simp only [List.map_toArray, List.map_cons, List.map_nil]); first | done | rfl | (simp only [List.length_drop, List.length_take]; rfl) | (go_simp; done) | (simp [*]; done)) ?_; (with_reducible refine (laws_toCell.calls k a0_0 a0_1 a0_2 a0_3 a0_4 _ _ l0_5 _ _ l0_6 t934 t935 t936 t937 t938 t939 t942 _ ?side1 ?side2 ?side3 ?side4 A11.out).mono ?_); (case side1 => exact Kd.C_below HR0_5.out (by repeat (first | (with_reducible first | exact HB.out | apply below_alloc | apply pw_below_drewN | apply below_drew1 | refine below_set ?_ GE908.out | refine below_set ?_ GE933.out) | exact HB.out))); (case side2 => exact HC0_5.out); (case side3 => exact Kd.C_below HR0_6.out (by repeat (first | (with_reducible first | exact HB.out | apply below_alloc | apply pw_below_drewN | apply below_drew1 | refine below_set ?_ GE908.out | refine below_set ?_ GE933.out) | exact HB.out))); (case side4 => exact HC0_6.out); rintro e w28 ⟨v940, v943, rfl, ho0, ho1, hb⟩; refine ⟨_, rfl, ?_⟩; have n0_ := Aside0.mk (Kd.R_mono (Kd.R_told (Kd.R_told (Kd.R_old (by (with_reducible repeat (first | apply Kd.R_alloc | apply Kd.R_drewN | apply Kd.R_drew)); exact (Kd.R_mono (Kd.R_far (p := ⟨gb933, 6, none⟩) (Kd.R_far (p := ⟨gb933, 5, none⟩) (Kd.R_far (p := ⟨gb933, 4, none⟩) (Kd.R_far (p := ⟨gb933, 3, none⟩) (Kd.R_far (p := ⟨gb933, 2, none⟩) (Kd.R_far (p := ⟨gb933, 1, none⟩) (Kd.R_far (p := ⟨gb933, 0, none⟩) (Kd.R_types HO917.out BK933.out (by decide)) (fun _ hk => hk.2) (.int .i64 t921)) (fun _ hk => hk.2) (.int .i64 t922)) (fun _ hk => hk.2) (.string t923)) (fun _ hk => hk.2) (.int .i64 t924)) (fun _ hk => hk.2) (.bool t925)) (fun _ hk => hk.2) (.slice Ao25 t926.length co25)) (fun _ hk => hk.2) (.slice Ao26 t929.length co26)) (fun _ h_ => h_.1))) hb) (Kd.R_base ho0)) (Kd.R_base ho1)) (fun _ h_ => h_.1)); have n1_ := Aside0.mk (Kd.R_mono (Kd.R_told (Kd.R_told (Kd.R_old (by (with_reducible repeat (first | apply Kd.R_alloc | apply Kd.R_drewN | apply Kd.R_drew)); exact (Kd.R_mono (Kd.R_far (p := ⟨gb933, 6, none⟩) (Kd.R_far (p := ⟨gb933, 5, none⟩) (Kd.R_far (p := ⟨gb933, 4, none⟩) (Kd.R_far (p := ⟨gb933, 3, none⟩) (Kd.R_far (p := ⟨gb933, 2, none⟩) (Kd.R_far (p := ⟨gb933, 1, none⟩) (Kd.R_far (p := ⟨gb933, 0, none⟩) (Kd.R_types HO920.out BK933.out (by decide)) (fun _ hk => hk.2) (.int .i64 t921)) (fun _ hk => hk.2) (.int .i64 t922)) (fun _ hk => hk.2) (.string t923)) (fun _ hk => hk.2) (.int .i64 t924)) (fun _ hk => hk.2) (.bool t925)) (fun _ hk => hk.2) (.slice Ao25 t926.length co25)) (fun _ hk => hk.2) (.slice Ao26 t929.length co26)) (fun _ h_ => h_.1))) hb) (Kd.R_base ho0)) (Kd.R_base ho1)) (fun _ h_ => h_.1)); have n2_ := Aside0.mk (Kd.R_mono (Kd.R_told (Kd.R_told (Kd.R_old (by (with_reducible repeat (first | apply Kd.R_alloc | apply Kd.R_drewN | apply Kd.R_drew)); exact (Kd.R_mono (Kd.R_far (p := ⟨gb933, 6, none⟩) (Kd.R_far (p := ⟨gb933, 5, none⟩) (Kd.R_far (p := ⟨gb933, 4, none⟩) (Kd.R_far (p := ⟨gb933, 3, none⟩) (Kd.R_far (p := ⟨gb933, 2, none⟩) (Kd.R_far (p := ⟨gb933, 1, none⟩) (Kd.R_far (p := ⟨gb933, 0, none⟩) (Kd.R_types HO928.out BK933.out (by decide)) (fun _ hk => hk.2) (.int .i64 t921)) (fun _ hk => hk.2) (.int .i64 t922)) (fun _ hk => hk.2) (.string t923)) (fun _ hk => hk.2) (.int .i64 t924)) (fun _ hk => hk.2) (.bool t925)) (fun _ hk => hk.2) (.slice Ao25 t926.length co25)) (fun _ hk => hk.2) (.slice Ao26 t929.length co26)) (fun _ h_ => h_.1))) hb) (Kd.R_base ho0)) (Kd.R_base ho1)) (fun _ h_ => h_.1)); have n3_ := Aside0.mk (Kd.R_mono (Kd.R_told (Kd.R_told (Kd.R_old (by (with_reducible repeat (first | apply Kd.R_alloc | apply Kd.R_drewN | apply Kd.R_drew)); exact (Kd.R_mono (Kd.R_far (p := ⟨gb933, 6, none⟩) (Kd.R_far (p := ⟨gb933, 5, none⟩) (Kd.R_far (p := ⟨gb933, 4, none⟩) (Kd.R_far (p := ⟨gb933, 3, none⟩) (Kd.R_far (p := ⟨gb933, 2, none⟩) (Kd.R_far (p := ⟨gb933, 1, none⟩) (Kd.R_far (p := ⟨gb933, 0, none⟩) (Kd.R_types HO931.out BK933.out (by decide)) (fun _ hk => hk.2) (.int .i64 t921)) (fun _ hk => hk.2) (.int .i64 t922)) (fun _ hk => hk.2) (.string t923)) (fun _ hk => hk.2) (.int .i64 t924)) (fun _ hk => hk.2) (.bool t925)) (fun _ hk => hk.2) (.slice Ao25 t926.length co25)) (fun _ hk => hk.2) (.slice Ao26 t929.length co26)) (fun _ h_ => h_.1))) hb) (Kd.R_base ho0)) (Kd.R_base ho1)) (fun _ h_ => h_.1)); have n4_ := Aside0.mk (Kd.R_lower (Kd.R_new' (Kd.R_new' (Kd.R_new' (Kd.R_new' ho0 (Kd.R_lt (by (with_reducible repeat (first | apply Kd.R_alloc | apply Kd.R_drewN | apply Kd.R_drew)); exact (Kd.R_mono (Kd.R_far (p := ⟨gb933, 6, none⟩) (Kd.R_far (p := ⟨gb933, 5, none⟩) (Kd.R_far (p := ⟨gb933, 4, none⟩) (Kd.R_far (p := ⟨gb933, 3, none⟩) (Kd.R_far (p := ⟨gb933, 2, none⟩) (Kd.R_far (p := ⟨gb933, 1, none⟩) (Kd.R_far (p := ⟨gb933, 0, none⟩) (Kd.R_types HO917.out BK933.out (by decide)) (fun _ hk => hk.2) (.int .i64 t921)) (fun _ hk => hk.2) (.int .i64 t922)) (fun _ hk => hk.2) (.string t923)) (fun _ hk => hk.2) (.int .i64 t924)) (fun _ hk => hk.2) (.bool t925)) (fun _ hk => hk.2) (.slice Ao25 t926.length co25)) (fun _ hk => hk.2) (.slice Ao26 t929.length co26)) (fun _ h_ => h_.1))))) (Kd.R_lt (by (with_reducible repeat (first | apply Kd.R_alloc | apply Kd.R_drewN | apply Kd.R_drew)); exact (Kd.R_mono (Kd.R_far (p := ⟨gb933, 6, none⟩) (Kd.R_far (p := ⟨gb933, 5, none⟩) (Kd.R_far (p := ⟨gb933, 4, none⟩) (Kd.R_far (p := ⟨gb933, 3, none⟩) (Kd.R_far (p := ⟨gb933, 2, none⟩) (Kd.R_far (p := ⟨gb933, 1, none⟩) (Kd.R_far (p := ⟨gb933, 0, none⟩) (Kd.R_types HO920.out BK933.out (by decide)) (fun _ hk => hk.2) (.int .i64 t921)) (fun _ hk => hk.2) (.int .i64 t922)) (fun _ hk => hk.2) (.string t923)) (fun _ hk => hk.2) (.int .i64 t924)) (fun _ hk => hk.2) (.bool t925)) (fun _ hk => hk.2) (.slice Ao25 t926.length co25)) (fun _ hk => hk.2) (.slice Ao26 t929.length co26)) (fun _ h_ => h_.1))))) (Kd.R_lt (by (with_reducible repeat (first | apply Kd.R_alloc | apply Kd.R_drewN | apply Kd.R_drew)); exact (Kd.R_mono (Kd.R_far (p := ⟨gb933, 6, none⟩) (Kd.R_far (p := ⟨gb933, 5, none⟩) (Kd.R_far (p := ⟨gb933, 4, none⟩) (Kd.R_far (p := ⟨gb933, 3, none⟩) (Kd.R_far (p := ⟨gb933, 2, none⟩) (Kd.R_far (p := ⟨gb933, 1, none⟩) (Kd.R_far (p := ⟨gb933, 0, none⟩) (Kd.R_types HO928.out BK933.out (by decide)) (fun _ hk => hk.2) (.int .i64 t921)) (fun _ hk => hk.2) (.int .i64 t922)) (fun _ hk => hk.2) (.string t923)) (fun _ hk => hk.2) (.int .i64 t924)) (fun _ hk => hk.2) (.bool t925)) (fun _ hk => hk.2) (.slice Ao25 t926.length co25)) (fun _ hk => hk.2) (.slice Ao26 t929.length co26)) (fun _ h_ => h_.1))))) (Kd.R_lt (by (with_reducible repeat (first | apply Kd.R_alloc | apply Kd.R_drewN | apply Kd.R_drew)); exact (Kd.R_mono (Kd.R_far (p := ⟨gb933, 6, none⟩) (Kd.R_far (p := ⟨gb933, 5, none⟩) (Kd.R_far (p := ⟨gb933, 4, none⟩) (Kd.R_far (p := ⟨gb933, 3, none⟩) (Kd.R_far (p := ⟨gb933, 2, none⟩) (Kd.R_far (p := ⟨gb933, 1, none⟩) (Kd.R_far (p := ⟨gb933, 0, none⟩) (Kd.R_types HO931.out BK933.out (by decide)) (fun _ hk => hk.2) (.int .i64 t921)) (fun _ hk => hk.2) (.int .i64 t922)) (fun _ hk => hk.2) (.string t923)) (fun _ hk => hk.2) (.int .i64 t924)) (fun _ hk => hk.2) (.bool t925)) (fun _ hk => hk.2) (.slice Ao25 t926.length co25)) (fun _ hk => hk.2) (.slice Ao26 t929.length co26)) (fun _ h_ => h_.1))))) (below_size (by repeat (first | (with_reducible first | exact HB.out | apply below_alloc | apply pw_below_drewN | apply below_drew1 | refine below_set ?_ GE908.out | refine below_set ?_ GE933.out) | exact HB.out)))); have n5_ := Aside0.mk (Kd.R_lower (Kd.R_new' (Kd.R_new' (Kd.R_new' (Kd.R_new' ho1 (Kd.R_lt (by (with_reducible repeat (first | apply Kd.R_alloc | apply Kd.R_drewN | apply Kd.R_drew)); exact (Kd.R_mono (Kd.R_far (p := ⟨gb933, 6, none⟩) (Kd.R_far (p := ⟨gb933, 5, none⟩) (Kd.R_far (p := ⟨gb933, 4, none⟩) (Kd.R_far (p := ⟨gb933, 3, none⟩) (Kd.R_far (p := ⟨gb933, 2, none⟩) (Kd.R_far (p := ⟨gb933, 1, none⟩) (Kd.R_far (p := ⟨gb933, 0, none⟩) (Kd.R_types HO917.out BK933.out (by decide)) (fun _ hk => hk.2) (.int .i64 t921)) (fun _ hk => hk.2) (.int .i64 t922)) (fun _ hk => hk.2) (.string t923)) (fun _ hk => hk.2) (.int .i64 t924)) (fun _ hk => hk.2) (.bool t925)) (fun _ hk => hk.2) (.slice Ao25 t926.length co25)) (fun _ hk => hk.2) (.slice Ao26 t929.length co26)) (fun _ h_ => h_.1))))) (Kd.R_lt (by (with_reducible repeat (first | apply Kd.R_alloc | apply Kd.R_drewN | apply Kd.R_drew)); exact (Kd.R_mono (Kd.R_far (p := ⟨gb933, 6, none⟩) (Kd.R_far (p := ⟨gb933, 5, none⟩) (Kd.R_far (p := ⟨gb933, 4, none⟩) (Kd.R_far (p := ⟨gb933, 3, none⟩) (Kd.R_far (p := ⟨gb933, 2, none⟩) (Kd.R_far (p := ⟨gb933, 1, none⟩) (Kd.R_far (p := ⟨gb933, 0, none⟩) (Kd.R_types HO920.out BK933.out (by decide)) (fun _ hk => hk.2) (.int .i64 t921)) (fun _ hk => hk.2) (.int .i64 t922)) (fun _ hk => hk.2) (.string t923)) (fun _ hk => hk.2) (.int .i64 t924)) (fun _ hk => hk.2) (.bool t925)) (fun _ hk => hk.2) (.slice Ao25 t926.length co25)) (fun _ hk => hk.2) (.slice Ao26 t929.length co26)) (fun _ h_ => h_.1))))) (Kd.R_lt (by (with_reducible repeat (first | apply Kd.R_alloc | apply Kd.R_drewN | apply Kd.R_drew)); exact (Kd.R_mono (Kd.R_far (p := ⟨gb933, 6, none⟩) (Kd.R_far (p := ⟨gb933, 5, none⟩) (Kd.R_far (p := ⟨gb933, 4, none⟩) (Kd.R_far (p := ⟨gb933, 3, none⟩) (Kd.R_far (p := ⟨gb933, 2, none⟩) (Kd.R_far (p := ⟨gb933, 1, none⟩) (Kd.R_far (p := ⟨gb933, 0, none⟩) (Kd.R_types HO928.out BK933.out (by decide)) (fun _ hk => hk.2) (.int .i64 t921)) (fun _ hk => hk.2) (.int .i64 t922)) (fun _ hk => hk.2) (.string t923)) (fun _ hk => hk.2) (.int .i64 t924)) (fun _ hk => hk.2) (.bool t925)) (fun _ hk => hk.2) (.slice Ao25 t926.length co25)) (fun _ hk => hk.2) (.slice Ao26 t929.length co26)) (fun _ h_ => h_.1))))) (Kd.R_lt (by (with_reducible repeat (first | apply Kd.R_alloc | apply Kd.R_drewN | apply Kd.R_drew)); exact (Kd.R_mono (Kd.R_far (p := ⟨gb933, 6, none⟩) (Kd.R_far (p := ⟨gb933, 5, none⟩) (Kd.R_far (p := ⟨gb933, 4, none⟩) (Kd.R_far (p := ⟨gb933, 3, none⟩) (Kd.R_far (p := ⟨gb933, 2, none⟩) (Kd.R_far (p := ⟨gb933, 1, none⟩) (Kd.R_far (p := ⟨gb933, 0, none⟩) (Kd.R_types HO931.out BK933.out (by decide)) (fun _ hk => hk.2) (.int .i64 t921)) (fun _ hk => hk.2) (.int .i64 t922)) (fun _ hk => hk.2) (.string t923)) (fun _ hk => hk.2) (.int .i64 t924)) (fun _ hk => hk.2) (.bool t925)) (fun _ hk => hk.2) (.slice Ao25 t926.length co25)) (fun _ hk => hk.2) (.slice Ao26 t929.length co26)) (fun _ h_ => h_.1))))) (below_size (by repeat (first | (with_reducible first | exact HB.out | apply below_alloc | apply pw_below_drewN | apply below_drew1 | refine below_set ?_ GE908.out | refine below_set ?_ GE933.out) | exact HB.out)))); have n6_ := Aside0.mk (blk_below (g := gb908) (o := .cells #[.int .i64 a0_0, .int .i64 a0_1, .string a0_2, .int .i64 a0_3, .bool a0_4, .slice A0_5 l0_5.length c0_5, .slice A0_6 l0_6.length c0_6] 56 (0, 0)) (by (with_reducible repeat (first | refine blk_drewN ?_ _ | refine blk_drew ?_ | refine blk_alloc ?_ _)); refine blk_far ?_ NB908_933.out _; (with_reducible repeat (first | refine blk_drewN ?_ _ | refine blk_drew ?_ | refine blk_alloc ?_ _)); refine blk_far ?_ NB908_933.out _; (with_reducible repeat (first | refine blk_drewN ?_ _ | refine blk_drew ?_ | refine blk_alloc ?_ _)); refine blk_far ?_ NB908_933.out _; (with_reducible repeat (first | refine blk_drewN ?_ _ | refine blk_drew ?_ | refine blk_alloc ?_ _)); refine blk_far ?_ NB908_933.out _; (with_reducible repeat (first | refine blk_drewN ?_ _ | refine blk_drew ?_ | refine blk_alloc ?_ _)); refine blk_far ?_ NB908_933.out _; (with_reducible repeat (first | refine blk_drewN ?_ _ | refine blk_drew ?_ | refine blk_alloc ?_ _)); refine blk_far ?_ NB908_933.out _; (with_reducible repeat (first | refine blk_drewN ?_ _ | refine blk_drew ?_ | refine blk_alloc ?_ _)); refine blk_far ?_ NB908_933.out _; (with_reducible repeat (first | refine blk_drewN ?_ _ | refine blk_drew ?_ | refine blk_alloc ?_ _)); exact BK908.out) hb); have n7_ := Aside0.mk (blk_below (g := gb933) (o := .cells #[.int .i64 t921, .int .i64 t922, .string t923, .int .i64 t924, .bool t925, .slice Ao25 t926.length co25, .slice Ao26 t929.length co26] 29 (0, 0)) (by (with_reducible repeat (first | refine blk_drewN ?_ _ | refine blk_drew ?_ | refine blk_alloc ?_ _)); refine blk_put (cs := #[.int .i64 t921, .int .i64 t922, .string t923, .int .i64 t924, .bool t925, .slice Ao25 t926.length co25, .slice none 0 0]) ?_ 6 _ rfl; (with_reducible repeat (first | refine blk_drewN ?_ _ | refine blk_drew ?_ | refine blk_alloc ?_ _)); refine blk_put (cs := #[.int .i64 t921, .int .i64 t922, .string t923, .int .i64 t924, .bool t925, .slice none 0 0, .slice none 0 0]) ?_ 5 _ rfl; (with_reducible repeat (first | refine blk_drewN ?_ _ | refine blk_drew ?_ | refine blk_alloc ?_ _)); refine blk_put (cs := #[.int .i64 t921, .int .i64 t922, .string t923, .int .i64 t924, .bool false, .slice none 0 0, .slice none 0 0]) ?_ 4 _ rfl; (with_reducible repeat (first | refine blk_drewN ?_ _ | refine blk_drew ?_ | refine blk_alloc ?_ _)); refine blk_put (cs := #[.int .i64 t921, .int .i64 t922, .string t923, .int .i64 0, .bool false, .slice none 0 0, .slice none 0 0]) ?_ 3 _ rfl; (with_reducible repeat (first | refine blk_drewN ?_ _ | refine blk_drew ?_ | refine blk_alloc ?_ _)); refine blk_put (cs := #[.int .i64 t921, .int .i64 t922, .string (⟨#[]⟩ : ByteArray), .int .i64 0, .bool false, .slice none 0 0, .slice none 0 0]) ?_ 2 _ rfl; (with_reducible repeat (first | refine blk_drewN ?_ _ | refine blk_drew ?_ | refine blk_alloc ?_ _)); refine blk_put (cs := #[.int .i64 t921, .int .i64 0, .string (⟨#[]⟩ : ByteArray), .int .i64 0, .bool false, .slice none 0 0, .slice none 0 0]) ?_ 1 _ rfl; (with_reducible repeat (first | refine blk_drewN ?_ _ | refine blk_drew ?_ | refine blk_alloc ?_ _)); refine blk_put (cs := #[.int .i64 0, .int .i64 0, .string (⟨#[]⟩ : ByteArray), .int .i64 0, .bool false, .slice none 0 0, .slice none 0 0]) ?_ 0 _ rfl; (with_reducible repeat (first | refine blk_drewN ?_ _ | refine blk_drew ?_ | refine blk_alloc ?_ _)); exact BK933.out) hb); have n8_ := Aside0.mk (below_step (by repeat (first | (with_reducible first | exact HB.out | apply below_alloc | apply pw_below_drewN | apply below_drew1 | refine below_set ?_ GE908.out | refine below_set ?_ GE933.out) | exact HB.out)) hb); clear HO917 HO920 HO928 HO931 BK908 BK933 HB; have HO917 := n0_; have HO920 := n1_; have HO928 := n2_; have HO931 := n3_; have HO941 := n4_; have HO944 := n5_; have BK908 := n6_; have BK933 := n7_; have HB := n8_; clear n0_ n1_ n2_ n3_ n4_ n5_ n6_ n7_ n8_; (try clear hb); (try clear hb2); (try clear hk); (try clear hi); (try clear ho0); (try clear ho1)) | ((with_reducible refine gate_dst (N := 10) rfl ?_); refine box_event ?hg (N := 10) ?hd (cs := #[.int .i64 0, .int .i64 0, .string (⟨#[]⟩ : ByteArray), .int .i64 0, .bool false, .slice none 0 0, .slice none 0 0]) (t := 29) ?hr ?_; (case hd => rfl); (case hg => rfl); (case hr => first | (go_simp; done) | (go_simp; rfl)); intro gb945 hg w29 hbox hb; have n0_ := Aside0.mk (Kd.R_below (pkR HO917.out) hb); have n1_ := Aside0.mk (Kd.R_below (pkR HO920.out) hb); have n2_ := Aside0.mk (Kd.R_below (pkR HO928.out) hb); have n3_ := Aside0.mk (Kd.R_below (pkR HO931.out) hb); have n4_ := Aside0.mk (Kd.R_below (pkR HO941.out) hb); have n5_ := Aside0.mk (Kd.R_below (pkR HO944.out) hb); have n6_ := Aside0.mk (blk_below (g := gb908) (o := .cells #[.int .i64 a0_0, .int .i64 a0_1, .string a0_2, .int .i64 a0_3, .bool a0_4, .slice A0_5 l0_5.length c0_5, .slice A0_6 l0_6.length c0_6] 56 (0, 0)) (pkK BK908.out) hb); have n7_ := Aside0.mk (blk_below (g := gb933) (o := .cells #[.int .i64 t921, .int .i64 t922, .string t923, .int .i64 t924, .bool t925, .slice Ao25 t926.length co25, .slice Ao26 t929.length co26] 29 (0, 0)) (pkK BK933.out) hb); have n8_ := Aside0.mk (below_step (by repeat (first | (with_reducible first | exact HB.out | apply below_alloc | apply pw_below_drewN | apply below_drew1 | refine below_set ?_ GE908.out | refine below_set ?_ GE933.out) | exact HB.out)) hb); have n9_ := Aside0.mk (hbox); have n10_ := Aside0.mk ((by rw [hg]; exact (below_size (by repeat (first | (with_reducible first | exact HB.out | apply below_alloc | apply pw_below_drewN | apply below_drew1 | refine below_set ?_ GE908.out | refine below_set ?_ GE933.out) | exact HB.out))) : w.heap.size ≤ gb945)); have n11_ := Aside0.mk ((by rw [hg]; exact (below_size (by repeat (first | (with_reducible first | exact HB.out | apply below_alloc | apply pw_below_drewN | apply below_drew1 | refine below_set ?_ GE908.out | refine below_set ?_ GE933.out) | exact HB.out))) : w.heap.size ≤ gb945)); have n12_ := Aside0.mk ((by rw [hg]; exact Nat.ne_of_lt (blk_lt (g := gb908) (o := .cells #[.int .i64 a0_0, .int .i64 a0_1, .string a0_2, .int .i64 a0_3, .bool a0_4, .slice A0_5 l0_5.length c0_5, .slice A0_6 l0_6.length c0_6] 56 (0, 0)) (pkK BK908.out)) : gb908 ≠ gb945)); have n13_ := Aside0.mk ((by rw [hg]; exact Nat.ne_of_gt (blk_lt (g := gb908) (o := .cells #[.int .i64 a0_0, .int .i64 a0_1, .string a0_2, .int .i64 a0_3, .bool a0_4, .slice A0_5 l0_5.length c0_5, .slice A0_6 l0_6.length c0_6] 56 (0, 0)) (pkK BK908.out)) : gb945 ≠ gb908)); have n14_ := Aside0.mk ((by rw [hg]; exact Nat.ne_of_lt (blk_lt (g := gb933) (o := .cells #[.int .i64 t921, .int .i64 t922, .string t923, .int .i64 t924, .bool t925, .slice Ao25 t926.length co25, .slice Ao26 t929.length co26] 29 (0, 0)) (pkK BK933.out)) : gb933 ≠ gb945)); have n15_ := Aside0.mk ((by rw [hg]; exact Nat.ne_of_gt (blk_lt (g := gb933) (o := .cells #[.int .i64 t921, .int .i64 t922, .string t923, .int .i64 t924, .bool t925, .slice Ao25 t926.length co25, .slice Ao26 t929.length co26] 29 (0, 0)) (pkK BK933.out)) : gb945 ≠ gb933)); clear HO917 HO920 HO928 HO931 HO941 HO944 BK908 BK933 HB; have HO917 := n0_; have HO920 := n1_; have HO928 := n2_; have HO931 := n3_; have HO941 := n4_; have HO944 := n5_; have BK908 := n6_; have BK933 := n7_; have HB := n8_; have BK945 := n9_; have GW945 := n10_; have GE945 := n11_; have NB908_945 := n12_; have NB945_908 := n13_; have NB933_945 := n14_; have NB945_933 := n15_; clear n0_ n1_ n2_ n3_ n4_ n5_ n6_ n7_ n8_ n9_ n10_ n11_ n12_ n13_ n14_ n15_; clear hb hbox hg; have hnb30 := NB945_908.out; have hnc30 := NB908_945.out; have hnb31 := NB945_933.out; have hnc31 := NB933_945.out; have hcz32_0 : w29.cell? ⟨gb945, 0, none⟩ = some (.int .i64 0) := (blk_cell BK945.out 0).trans rfl; have hcz32_1 : w29.cell? ⟨gb945, 1, none⟩ = some (.int .i64 0) := (blk_cell BK945.out 1).trans rfl; have hcz32_2 : w29.cell? ⟨gb945, 2, none⟩ = some (.string (⟨#[]⟩ : ByteArray)) := (blk_cell BK945.out 2).trans rfl; have hcz32_3 : w29.cell? ⟨gb945, 3, none⟩ = some (.int .i64 0) := (blk_cell BK945.out 3).trans rfl; have hcz32_4 : w29.cell? ⟨gb945, 4, none⟩ = some (.bool false) := (blk_cell BK945.out 4).trans rfl; have hcz32_5 : w29.cell? ⟨gb945, 5, none⟩ = some (.slice none 0 0) := (blk_cell BK945.out 5).trans rfl; have hcz32_6 : w29.cell? ⟨gb945, 6, none⟩ = some (.slice none 0 0) := (blk_cell BK945.out 6).trans rfl; have hfz32_0 := blk_frozen BK945.out 0; have hfz32_1 := blk_frozen BK945.out 1; have hfz32_2 := blk_frozen BK945.out 2; have hfz32_3 := blk_frozen BK945.out 3; have hfz32_4 := blk_frozen BK945.out 4; have hfz32_5 := blk_frozen BK945.out 5; have hfz32_6 := blk_frozen BK945.out 6; obtain ⟨Ao33, co33, eo33⟩ := Kd.R_slice HO941.out; subst eo33; obtain ⟨Ao34, co34, eo34⟩ := Kd.R_slice HO944.out; subst eo34) | ((with_reducible refine gate_callee (f := 20) rfl ?_); refine goesL_ (some 37) rfl rfl Try.func20 (by kernel_rfl) rfl #[.agg #[.int .i64 t934, .int .i64 t935, .string t936, .int .i64 t937, .bool t938, .slice Ao33 t939.length co33, .slice Ao34 t942.length co34], .int .i64 a1, .int .i64 a2] rfl (by (try simp only [List.map_toArray, List.map_cons, List.map_nil]); first | done | rfl | (simp only [List.length_drop, List.length_take]; rfl) | (go_simp; done) | (simp [*]; done)) ?_; (with_reducible refine (impl_Watch.calls k t934 t935 t936 t937 t938 _ _ t939 _ _ t942 a1 a2 t946 t947 t948 t949 t950 t951 t954 t957 _ ?side1 ?side2 ?side3 ?side4 A12.out).mono ?_); (case side1 => refine (Kd.R_reads' (e := 3) (base := w.heap.size) (ok := fun k_ => ((((some k_ ≠ (.slice Ao34 t942.length co34 : Value).ownBlock ∧ some k_ ≠ (.slice Ao19 t915.length co19 : Value).ownBlock) ∧ some k_ ≠ (.slice Ao20 t918.length co20 : Value).ownBlock) ∧ some k_ ≠ (.slice Ao25 t926.length co25 : Value).ownBlock) ∧ some k_ ≠ (.slice Ao26 t929.length co26 : Value).ownBlock)) (n := t939.length) (c := co33) ?_).2.2; exact (by (with_reducible repeat (first | apply Kd.R_alloc | apply Kd.R_drewN | apply Kd.R_drew)); exact (Kd.R_mono (Kd.R_far (p := ⟨gb945, 6, none⟩) (Kd.R_far (p := ⟨gb945, 5, none⟩) (Kd.R_far (p := ⟨gb945, 4, none⟩) (Kd.R_far (p := ⟨gb945, 3, none⟩) (Kd.R_far (p := ⟨gb945, 2, none⟩) (Kd.R_far (p := ⟨gb945, 1, none⟩) (Kd.R_far (p := ⟨gb945, 0, none⟩) (Kd.R_types HO941.out BK945.out (by decide)) (fun _ hk => hk.2) (.int .i64 t934)) (fun _ hk => hk.2) (.int .i64 t935)) (fun _ hk => hk.2) (.string t936)) (fun _ hk => hk.2) (.int .i64 t937)) (fun _ hk => hk.2) (.bool t938)) (fun _ hk => hk.2) (.slice Ao33 t939.length co33)) (fun _ hk => hk.2) (.slice Ao34 t942.length co34)) (fun _ h_ => h_.1)))); (case side2 => exact (Kd.R_reads' HO941.out).2.1); (case side3 => refine (Kd.R_reads' (e := 3) (base := w.heap.size) (ok := fun k_ => ((((some k_ ≠ (.slice Ao33 t939.length co33 : Value).ownBlock ∧ some k_ ≠ (.slice Ao19 t915.length co19 : Value).ownBlock) ∧ some k_ ≠ (.slice Ao20 t918.length co20 : Value).ownBlock) ∧ some k_ ≠ (.slice Ao25 t926.length co25 : Value).ownBlock) ∧ some k_ ≠ (.slice Ao26 t929.length co26 : Value).ownBlock)) (n := t942.length) (c := co34) ?_).2.2; exact (by (with_reducible repeat (first | apply Kd.R_alloc | apply Kd.R_drewN | apply Kd.R_drew)); exact (Kd.R_mono (Kd.R_far (p := ⟨gb945, 6, none⟩) (Kd.R_far (p := ⟨gb945, 5, none⟩) (Kd.R_far (p := ⟨gb945, 4, none⟩) (Kd.R_far (p := ⟨gb945, 3, none⟩) (Kd.R_far (p := ⟨gb945, 2, none⟩) (Kd.R_far (p := ⟨gb945, 1, none⟩) (Kd.R_far (p := ⟨gb945, 0, none⟩) (Kd.R_types HO944.out BK945.out (by decide)) (fun _ hk => hk.2) (.int .i64 t934)) (fun _ hk => hk.2) (.int .i64 t935)) (fun _ hk => hk.2) (.string t936)) (fun _ hk => hk.2) (.int .i64 t937)) (fun _ hk => hk.2) (.bool t938)) (fun _ hk => hk.2) (.slice Ao33 t939.length co33)) (fun _ hk => hk.2) (.slice Ao34 t942.length co34)) (fun _ h_ => h_.1)))); (case side4 => exact (Kd.R_reads' HO944.out).2.1); rintro e w35 ⟨v952, v955, rfl, ho0, ho1, hb⟩; refine ⟨_, rfl, ?_⟩; have n0_ := Aside0.mk (Kd.R_mono (Kd.R_told (Kd.R_told (Kd.R_old (by (with_reducible repeat (first | apply Kd.R_alloc | apply Kd.R_drewN | apply Kd.R_drew)); exact (Kd.R_mono (Kd.R_far (p := ⟨gb945, 6, none⟩) (Kd.R_far (p := ⟨gb945, 5, none⟩) (Kd.R_far (p := ⟨gb945, 4, none⟩) (Kd.R_far (p := ⟨gb945, 3, none⟩) (Kd.R_far (p := ⟨gb945, 2, none⟩) (Kd.R_far (p := ⟨gb945, 1, none⟩) (Kd.R_far (p := ⟨gb945, 0, none⟩) (Kd.R_types HO917.out BK945.out (by decide)) (fun _ hk => hk.2) (.int .i64 t934)) (fun _ hk => hk.2) (.int .i64 t935)) (fun _ hk => hk.2) (.string t936)) (fun _ hk => hk.2) (.int .i64 t937)) (fun _ hk => hk.2) (.bool t938)) (fun _ hk => hk.2) (.slice Ao33 t939.length co33)) (fun _ hk => hk.2) (.slice Ao34 t942.length co34)) (fun _ h_ => h_.1))) hb) (Kd.R_base ho0)) (Kd.R_base ho1)) (fun _ h_ => h_.1)); have n1_ := Aside0.mk (Kd.R_mono (Kd.R_told (Kd.R_told (Kd.R_old (by (with_reducible repeat (first | apply Kd.R_alloc | apply Kd.R_drewN | apply Kd.R_drew)); exact (Kd.R_mono (Kd.R_far (p := ⟨gb945, 6, none⟩) (Kd.R_far (p := ⟨gb945, 5, none⟩) (Kd.R_far (p := ⟨gb945, 4, none⟩) (Kd.R_far (p := ⟨gb945, 3, none⟩) (Kd.R_far (p := ⟨gb945, 2, none⟩) (Kd.R_far (p := ⟨gb945, 1, none⟩) (Kd.R_far (p := ⟨gb945, 0, none⟩) (Kd.R_types HO920.out BK945.out (by decide)) (fun _ hk => hk.2) (.int .i64 t934)) (fun _ hk => hk.2) (.int .i64 t935)) (fun _ hk => hk.2) (.string t936)) (fun _ hk => hk.2) (.int .i64 t937)) (fun _ hk => hk.2) (.bool t938)) (fun _ hk => hk.2) (.slice Ao33 t939.length co33)) (fun _ hk => hk.2) (.slice Ao34 t942.length co34)) (fun _ h_ => h_.1))) hb) (Kd.R_base ho0)) (Kd.R_base ho1)) (fun _ h_ => h_.1)); have n2_ := Aside0.mk (Kd.R_mono (Kd.R_told (Kd.R_told (Kd.R_old (by (with_reducible repeat (first | apply Kd.R_alloc | apply Kd.R_drewN | apply Kd.R_drew)); exact (Kd.R_mono (Kd.R_far (p := ⟨gb945, 6, none⟩) (Kd.R_far (p := ⟨gb945, 5, none⟩) (Kd.R_far (p := ⟨gb945, 4, none⟩) (Kd.R_far (p := ⟨gb945, 3, none⟩) (Kd.R_far (p := ⟨gb945, 2, none⟩) (Kd.R_far (p := ⟨gb945, 1, none⟩) (Kd.R_far (p := ⟨gb945, 0, none⟩) (Kd.R_types HO928.out BK945.out (by decide)) (fun _ hk => hk.2) (.int .i64 t934)) (fun _ hk => hk.2) (.int .i64 t935)) (fun _ hk => hk.2) (.string t936)) (fun _ hk => hk.2) (.int .i64 t937)) (fun _ hk => hk.2) (.bool t938)) (fun _ hk => hk.2) (.slice Ao33 t939.length co33)) (fun _ hk => hk.2) (.slice Ao34 t942.length co34)) (fun _ h_ => h_.1))) hb) (Kd.R_base ho0)) (Kd.R_base ho1)) (fun _ h_ => h_.1)); have n3_ := Aside0.mk (Kd.R_mono (Kd.R_told (Kd.R_told (Kd.R_old (by (with_reducible repeat (first | apply Kd.R_alloc | apply Kd.R_drewN | apply Kd.R_drew)); exact (Kd.R_mono (Kd.R_far (p := ⟨gb945, 6, none⟩) (Kd.R_far (p := ⟨gb945, 5, none⟩) (Kd.R_far (p := ⟨gb945, 4, none⟩) (Kd.R_far (p := ⟨gb945, 3, none⟩) (Kd.R_far (p := ⟨gb945, 2, none⟩) (Kd.R_far (p := ⟨gb945, 1, none⟩) (Kd.R_far (p := ⟨gb945, 0, none⟩) (Kd.R_types HO931.out BK945.out (by decide)) (fun _ hk => hk.2) (.int .i64 t934)) (fun _ hk => hk.2) (.int .i64 t935)) (fun _ hk => hk.2) (.string t936)) (fun _ hk => hk.2) (.int .i64 t937)) (fun _ hk => hk.2) (.bool t938)) (fun _ hk => hk.2) (.slice Ao33 t939.length co33)) (fun _ hk => hk.2) (.slice Ao34 t942.length co34)) (fun _ h_ => h_.1))) hb) (Kd.R_base ho0)) (Kd.R_base ho1)) (fun _ h_ => h_.1)); have n4_ := Aside0.mk (Kd.R_mono (Kd.R_told (Kd.R_told (Kd.R_old (by (with_reducible repeat (first | apply Kd.R_alloc | apply Kd.R_drewN | apply Kd.R_drew)); exact (Kd.R_mono (Kd.R_far (p := ⟨gb945, 6, none⟩) (Kd.R_far (p := ⟨gb945, 5, none⟩) (Kd.R_far (p := ⟨gb945, 4, none⟩) (Kd.R_far (p := ⟨gb945, 3, none⟩) (Kd.R_far (p := ⟨gb945, 2, none⟩) (Kd.R_far (p := ⟨gb945, 1, none⟩) (Kd.R_far (p := ⟨gb945, 0, none⟩) (Kd.R_types HO941.out BK945.out (by decide)) (fun _ hk => hk.2) (.int .i64 t934)) (fun _ hk => hk.2) (.int .i64 t935)) (fun _ hk => hk.2) (.string t936)) (fun _ hk => hk.2) (.int .i64 t937)) (fun _ hk => hk.2) (.bool t938)) (fun _ hk => hk.2) (.slice Ao33 t939.length co33)) (fun _ hk => hk.2) (.slice Ao34 t942.length co34)) (fun _ h_ => h_.1))) hb) (Kd.R_base ho0)) (Kd.R_base ho1)) (fun _ h_ => h_.1)); have n5_ := Aside0.mk (Kd.R_mono (Kd.R_told (Kd.R_told (Kd.R_old (by (with_reducible repeat (first | apply Kd.R_alloc | apply Kd.R_drewN | apply Kd.R_drew)); exact (Kd.R_mono (Kd.R_far (p := ⟨gb945, 6, none⟩) (Kd.R_far (p := ⟨gb945, 5, none⟩) (Kd.R_far (p := ⟨gb945, 4, none⟩) (Kd.R_far (p := ⟨gb945, 3, none⟩) (Kd.R_far (p := ⟨gb945, 2, none⟩) (Kd.R_far (p := ⟨gb945, 1, none⟩) (Kd.R_far (p := ⟨gb945, 0, none⟩) (Kd.R_types HO944.out BK945.out (by decide)) (fun _ hk => hk.2) (.int .i64 t934)) (fun _ hk => hk.2) (.int .i64 t935)) (fun _ hk => hk.2) (.string t936)) (fun _ hk => hk.2) (.int .i64 t937)) (fun _ hk => hk.2) (.bool t938)) (fun _ hk => hk.2) (.slice Ao33 t939.length co33)) (fun _ hk => hk.2) (.slice Ao34 t942.length co34)) (fun _ h_ => h_.1))) hb) (Kd.R_base ho0)) (Kd.R_base ho1)) (fun _ h_ => h_.1)); have n6_ := Aside0.mk (Kd.R_lower (Kd.R_new' (Kd.R_new' (Kd.R_new' (Kd.R_new' (Kd.R_new' (Kd.R_new' ho0 (Kd.R_lt (by (with_reducible repeat (first | apply Kd.R_alloc | apply Kd.R_drewN | apply Kd.R_drew)); exact (Kd.R_mono (Kd.R_far (p := ⟨gb945, 6, none⟩) (Kd.R_far (p := ⟨gb945, 5, none⟩) (Kd.R_far (p := ⟨gb945, 4, none⟩) (Kd.R_far (p := ⟨gb945, 3, none⟩) (Kd.R_far (p := ⟨gb945, 2, none⟩) (Kd.R_far (p := ⟨gb945, 1, none⟩) (Kd.R_far (p := ⟨gb945, 0, none⟩) (Kd.R_types HO917.out BK945.out (by decide)) (fun _ hk => hk.2) (.int .i64 t934)) (fun _ hk => hk.2) (.int .i64 t935)) (fun _ hk => hk.2) (.string t936)) (fun _ hk => hk.2) (.int .i64 t937)) (fun _ hk => hk.2) (.bool t938)) (fun _ hk => hk.2) (.slice Ao33 t939.length co33)) (fun _ hk => hk.2) (.slice Ao34 t942.length co34)) (fun _ h_ => h_.1))))) (Kd.R_lt (by (with_reducible repeat (first | apply Kd.R_alloc | apply Kd.R_drewN | apply Kd.R_drew)); exact (Kd.R_mono (Kd.R_far (p := ⟨gb945, 6, none⟩) (Kd.R_far (p := ⟨gb945, 5, none⟩) (Kd.R_far (p := ⟨gb945, 4, none⟩) (Kd.R_far (p := ⟨gb945, 3, none⟩) (Kd.R_far (p := ⟨gb945, 2, none⟩) (Kd.R_far (p := ⟨gb945, 1, none⟩) (Kd.R_far (p := ⟨gb945, 0, none⟩) (Kd.R_types HO920.out BK945.out (by decide)) (fun _ hk => hk.2) (.int .i64 t934)) (fun _ hk => hk.2) (.int .i64 t935)) (fun _ hk => hk.2) (.string t936)) (fun _ hk => hk.2) (.int .i64 t937)) (fun _ hk => hk.2) (.bool t938)) (fun _ hk => hk.2) (.slice Ao33 t939.length co33)) (fun _ hk => hk.2) (.slice Ao34 t942.length co34)) (fun _ h_ => h_.1))))) (Kd.R_lt (by (with_reducible repeat (first | apply Kd.R_alloc | apply Kd.R_drewN | apply Kd.R_drew)); exact (Kd.R_mono (Kd.R_far (p := ⟨gb945, 6, none⟩) (Kd.R_far (p := ⟨gb945, 5, none⟩) (Kd.R_far (p := ⟨gb945, 4, none⟩) (Kd.R_far (p := ⟨gb945, 3, none⟩) (Kd.R_far (p := ⟨gb945, 2, none⟩) (Kd.R_far (p := ⟨gb945, 1, none⟩) (Kd.R_far (p := ⟨gb945, 0, none⟩) (Kd.R_types HO928.out BK945.out (by decide)) (fun _ hk => hk.2) (.int .i64 t934)) (fun _ hk => hk.2) (.int .i64 t935)) (fun _ hk => hk.2) (.string t936)) (fun _ hk => hk.2) (.int .i64 t937)) (fun _ hk => hk.2) (.bool t938)) (fun _ hk => hk.2) (.slice Ao33 t939.length co33)) (fun _ hk => hk.2) (.slice Ao34 t942.length co34)) (fun _ h_ => h_.1))))) (Kd.R_lt (by (with_reducible repeat (first | apply Kd.R_alloc | apply Kd.R_drewN | apply Kd.R_drew)); exact (Kd.R_mono (Kd.R_far (p := ⟨gb945, 6, none⟩) (Kd.R_far (p := ⟨gb945, 5, none⟩) (Kd.R_far (p := ⟨gb945, 4, none⟩) (Kd.R_far (p := ⟨gb945, 3, none⟩) (Kd.R_far (p := ⟨gb945, 2, none⟩) (Kd.R_far (p := ⟨gb945, 1, none⟩) (Kd.R_far (p := ⟨gb945, 0, none⟩) (Kd.R_types HO931.out BK945.out (by decide)) (fun _ hk => hk.2) (.int .i64 t934)) (fun _ hk => hk.2) (.int .i64 t935)) (fun _ hk => hk.2) (.string t936)) (fun _ hk => hk.2) (.int .i64 t937)) (fun _ hk => hk.2) (.bool t938)) (fun _ hk => hk.2) (.slice Ao33 t939.length co33)) (fun _ hk => hk.2) (.slice Ao34 t942.length co34)) (fun _ h_ => h_.1))))) (Kd.R_lt (by (with_reducible repeat (first | apply Kd.R_alloc | apply Kd.R_drewN | apply Kd.R_drew)); exact (Kd.R_mono (Kd.R_far (p := ⟨gb945, 6, none⟩) (Kd.R_far (p := ⟨gb945, 5, none⟩) (Kd.R_far (p := ⟨gb945, 4, none⟩) (Kd.R_far (p := ⟨gb945, 3, none⟩) (Kd.R_far (p := ⟨gb945, 2, none⟩) (Kd.R_far (p := ⟨gb945, 1, none⟩) (Kd.R_far (p := ⟨gb945, 0, none⟩) (Kd.R_types HO941.out BK945.out (by decide)) (fun _ hk => hk.2) (.int .i64 t934)) (fun _ hk => hk.2) (.int .i64 t935)) (fun _ hk => hk.2) (.string t936)) (fun _ hk => hk.2) (.int .i64 t937)) (fun _ hk => hk.2) (.bool t938)) (fun _ hk => hk.2) (.slice Ao33 t939.length co33)) (fun _ hk => hk.2) (.slice Ao34 t942.length co34)) (fun _ h_ => h_.1))))) (Kd.R_lt (by (with_reducible repeat (first | apply Kd.R_alloc | apply Kd.R_drewN | apply Kd.R_drew)); exact (Kd.R_mono (Kd.R_far (p := ⟨gb945, 6, none⟩) (Kd.R_far (p := ⟨gb945, 5, none⟩) (Kd.R_far (p := ⟨gb945, 4, none⟩) (Kd.R_far (p := ⟨gb945, 3, none⟩) (Kd.R_far (p := ⟨gb945, 2, none⟩) (Kd.R_far (p := ⟨gb945, 1, none⟩) (Kd.R_far (p := ⟨gb945, 0, none⟩) (Kd.R_types HO944.out BK945.out (by decide)) (fun _ hk => hk.2) (.int .i64 t934)) (fun _ hk => hk.2) (.int .i64 t935)) (fun _ hk => hk.2) (.string t936)) (fun _ hk => hk.2) (.int .i64 t937)) (fun _ hk => hk.2) (.bool t938)) (fun _ hk => hk.2) (.slice Ao33 t939.length co33)) (fun _ hk => hk.2) (.slice Ao34 t942.length co34)) (fun _ h_ => h_.1))))) (below_size (by repeat (first | (with_reducible first | exact HB.out | apply below_alloc | apply pw_below_drewN | apply below_drew1 | refine below_set ?_ GE908.out | refine below_set ?_ GE933.out | refine below_set ?_ GE945.out) | exact HB.out)))); have n7_ := Aside0.mk (Kd.R_lower (Kd.R_new' (Kd.R_new' (Kd.R_new' (Kd.R_new' (Kd.R_new' (Kd.R_new' ho1 (Kd.R_lt (by (with_reducible repeat (first | apply Kd.R_alloc | apply Kd.R_drewN | apply Kd.R_drew)); exact (Kd.R_mono (Kd.R_far (p := ⟨gb945, 6, none⟩) (Kd.R_far (p := ⟨gb945, 5, none⟩) (Kd.R_far (p := ⟨gb945, 4, none⟩) (Kd.R_far (p := ⟨gb945, 3, none⟩) (Kd.R_far (p := ⟨gb945, 2, none⟩) (Kd.R_far (p := ⟨gb945, 1, none⟩) (Kd.R_far (p := ⟨gb945, 0, none⟩) (Kd.R_types HO917.out BK945.out (by decide)) (fun _ hk => hk.2) (.int .i64 t934)) (fun _ hk => hk.2) (.int .i64 t935)) (fun _ hk => hk.2) (.string t936)) (fun _ hk => hk.2) (.int .i64 t937)) (fun _ hk => hk.2) (.bool t938)) (fun _ hk => hk.2) (.slice Ao33 t939.length co33)) (fun _ hk => hk.2) (.slice Ao34 t942.length co34)) (fun _ h_ => h_.1))))) (Kd.R_lt (by (with_reducible repeat (first | apply Kd.R_alloc | apply Kd.R_drewN | apply Kd.R_drew)); exact (Kd.R_mono (Kd.R_far (p := ⟨gb945, 6, none⟩) (Kd.R_far (p := ⟨gb945, 5, none⟩) (Kd.R_far (p := ⟨gb945, 4, none⟩) (Kd.R_far (p := ⟨gb945, 3, none⟩) (Kd.R_far (p := ⟨gb945, 2, none⟩) (Kd.R_far (p := ⟨gb945, 1, none⟩) (Kd.R_far (p := ⟨gb945, 0, none⟩) (Kd.R_types HO920.out BK945.out (by decide)) (fun _ hk => hk.2) (.int .i64 t934)) (fun _ hk => hk.2) (.int .i64 t935)) (fun _ hk => hk.2) (.string t936)) (fun _ hk => hk.2) (.int .i64 t937)) (fun _ hk => hk.2) (.bool t938)) (fun _ hk => hk.2) (.slice Ao33 t939.length co33)) (fun _ hk => hk.2) (.slice Ao34 t942.length co34)) (fun _ h_ => h_.1))))) (Kd.R_lt (by (with_reducible repeat (first | apply Kd.R_alloc | apply Kd.R_drewN | apply Kd.R_drew)); exact (Kd.R_mono (Kd.R_far (p := ⟨gb945, 6, none⟩) (Kd.R_far (p := ⟨gb945, 5, none⟩) (Kd.R_far (p := ⟨gb945, 4, none⟩) (Kd.R_far (p := ⟨gb945, 3, none⟩) (Kd.R_far (p := ⟨gb945, 2, none⟩) (Kd.R_far (p := ⟨gb945, 1, none⟩) (Kd.R_far (p := ⟨gb945, 0, none⟩) (Kd.R_types HO928.out BK945.out (by decide)) (fun _ hk => hk.2) (.int .i64 t934)) (fun _ hk => hk.2) (.int .i64 t935)) (fun _ hk => hk.2) (.string t936)) (fun _ hk => hk.2) (.int .i64 t937)) (fun _ hk => hk.2) (.bool t938)) (fun _ hk => hk.2) (.slice Ao33 t939.length co33)) (fun _ hk => hk.2) (.slice Ao34 t942.length co34)) (fun _ h_ => h_.1))))) (Kd.R_lt (by (with_reducible repeat (first | apply Kd.R_alloc | apply Kd.R_drewN | apply Kd.R_drew)); exact (Kd.R_mono (Kd.R_far (p := ⟨gb945, 6, none⟩) (Kd.R_far (p := ⟨gb945, 5, none⟩) (Kd.R_far (p := ⟨gb945, 4, none⟩) (Kd.R_far (p := ⟨gb945, 3, none⟩) (Kd.R_far (p := ⟨gb945, 2, none⟩) (Kd.R_far (p := ⟨gb945, 1, none⟩) (Kd.R_far (p := ⟨gb945, 0, none⟩) (Kd.R_types HO931.out BK945.out (by decide)) (fun _ hk => hk.2) (.int .i64 t934)) (fun _ hk => hk.2) (.int .i64 t935)) (fun _ hk => hk.2) (.string t936)) (fun _ hk => hk.2) (.int .i64 t937)) (fun _ hk => hk.2) (.bool t938)) (fun _ hk => hk.2) (.slice Ao33 t939.length co33)) (fun _ hk => hk.2) (.slice Ao34 t942.length co34)) (fun _ h_ => h_.1))))) (Kd.R_lt (by (with_reducible repeat (first | apply Kd.R_alloc | apply Kd.R_drewN | apply Kd.R_drew)); exact (Kd.R_mono (Kd.R_far (p := ⟨gb945, 6, none⟩) (Kd.R_far (p := ⟨gb945, 5, none⟩) (Kd.R_far (p := ⟨gb945, 4, none⟩) (Kd.R_far (p := ⟨gb945, 3, none⟩) (Kd.R_far (p := ⟨gb945, 2, none⟩) (Kd.R_far (p := ⟨gb945, 1, none⟩) (Kd.R_far (p := ⟨gb945, 0, none⟩) (Kd.R_types HO941.out BK945.out (by decide)) (fun _ hk => hk.2) (.int .i64 t934)) (fun _ hk => hk.2) (.int .i64 t935)) (fun _ hk => hk.2) (.string t936)) (fun _ hk => hk.2) (.int .i64 t937)) (fun _ hk => hk.2) (.bool t938)) (fun _ hk => hk.2) (.slice Ao33 t939.length co33)) (fun _ hk => hk.2) (.slice Ao34 t942.length co34)) (fun _ h_ => h_.1))))) (Kd.R_lt (by (with_reducible repeat (first | apply Kd.R_alloc | apply Kd.R_drewN | apply Kd.R_drew)); exact (Kd.R_mono (Kd.R_far (p := ⟨gb945, 6, none⟩) (Kd.R_far (p := ⟨gb945, 5, none⟩) (Kd.R_far (p := ⟨gb945, 4, none⟩) (Kd.R_far (p := ⟨gb945, 3, none⟩) (Kd.R_far (p := ⟨gb945, 2, none⟩) (Kd.R_far (p := ⟨gb945, 1, none⟩) (Kd.R_far (p := ⟨gb945, 0, none⟩) (Kd.R_types HO944.out BK945.out (by decide)) (fun _ hk => hk.2) (.int .i64 t934)) (fun _ hk => hk.2) (.int .i64 t935)) (fun _ hk => hk.2) (.string t936)) (fun _ hk => hk.2) (.int .i64 t937)) (fun _ hk => hk.2) (.bool t938)) (fun _ hk => hk.2) (.slice Ao33 t939.length co33)) (fun _ hk => hk.2) (.slice Ao34 t942.length co34)) (fun _ h_ => h_.1))))) (below_size (by repeat (first | (with_reducible first | exact HB.out | apply below_alloc | apply pw_below_drewN | apply below_drew1 | refine below_set ?_ GE908.out | refine below_set ?_ GE933.out | refine below_set ?_ GE945.out) | exact HB.out)))); have n8_ := Aside0.mk (blk_below (g := gb908) (o := .cells #[.int .i64 a0_0, .int .i64 a0_1, .string a0_2, .int .i64 a0_3, .bool a0_4, .slice A0_5 l0_5.length c0_5, .slice A0_6 l0_6.length c0_6] 56 (0, 0)) (by (with_reducible repeat (first | refine blk_drewN ?_ _ | refine blk_drew ?_ | refine blk_alloc ?_ _)); refine blk_far ?_ NB908_945.out _; (with_reducible repeat (first | refine blk_drewN ?_ _ | refine blk_drew ?_ | refine blk_alloc ?_ _)); refine blk_far ?_ NB908_945.out _; (with_reducible repeat (first | refine blk_drewN ?_ _ | refine blk_drew ?_ | refine blk_alloc ?_ _)); refine blk_far ?_ NB908_945.out _; (with_reducible repeat (first | refine blk_drewN ?_ _ | refine blk_drew ?_ | refine blk_alloc ?_ _)); refine blk_far ?_ NB908_945.out _; (with_reducible repeat (first | refine blk_drewN ?_ _ | refine blk_drew ?_ | refine blk_alloc ?_ _)); refine blk_far ?_ NB908_945.out _; (with_reducible repeat (first | refine blk_drewN ?_ _ | refine blk_drew ?_ | refine blk_alloc ?_ _)); refine blk_far ?_ NB908_945.out _; (with_reducible repeat (first | refine blk_drewN ?_ _ | refine blk_drew ?_ | refine blk_alloc ?_ _)); refine blk_far ?_ NB908_945.out _; (with_reducible repeat (first | refine blk_drewN ?_ _ | refine blk_drew ?_ | refine blk_alloc ?_ _)); exact BK908.out) hb); have n9_ := Aside0.mk (blk_below (g := gb933) (o := .cells #[.int .i64 t921, .int .i64 t922, .string t923, .int .i64 t924, .bool t925, .slice Ao25 t926.length co25, .slice Ao26 t929.length co26] 29 (0, 0)) (by (with_reducible repeat (first | refine blk_drewN ?_ _ | refine blk_drew ?_ | refine blk_alloc ?_ _)); refine blk_far ?_ NB933_945.out _; (with_reducible repeat (first | refine blk_drewN ?_ _ | refine blk_drew ?_ | refine blk_alloc ?_ _)); refine blk_far ?_ NB933_945.out _; (with_reducible repeat (first | refine blk_drewN ?_ _ | refine blk_drew ?_ | refine blk_alloc ?_ _)); refine blk_far ?_ NB933_945.out _; (with_reducible repeat (first | refine blk_drewN ?_ _ | refine blk_drew ?_ | refine blk_alloc ?_ _)); refine blk_far ?_ NB933_945.out _; (with_reducible repeat (first | refine blk_drewN ?_ _ | refine blk_drew ?_ | refine blk_alloc ?_ _)); refine blk_far ?_ NB933_945.out _; (with_reducible repeat (first | refine blk_drewN ?_ _ | refine blk_drew ?_ | refine blk_alloc ?_ _)); refine blk_far ?_ NB933_945.out _; (with_reducible repeat (first | refine blk_drewN ?_ _ | refine blk_drew ?_ | refine blk_alloc ?_ _)); refine blk_far ?_ NB933_945.out _; (with_reducible repeat (first | refine blk_drewN ?_ _ | refine blk_drew ?_ | refine blk_alloc ?_ _)); exact BK933.out) hb); have n10_ := Aside0.mk (blk_below (g := gb945) (o := .cells #[.int .i64 t934, .int .i64 t935, .string t936, .int .i64 t937, .bool t938, .slice Ao33 t939.length co33, .slice Ao34 t942.length co34] 29 (0, 0)) (by (with_reducible repeat (first | refine blk_drewN ?_ _ | refine blk_drew ?_ | refine blk_alloc ?_ _)); refine blk_put (cs := #[.int .i64 t934, .int .i64 t935, .string t936, .int .i64 t937, .bool t938, .slice Ao33 t939.length co33, .slice none 0 0]) ?_ 6 _ rfl; (with_reducible repeat (first | refine blk_drewN ?_ _ | refine blk_drew ?_ | refine blk_alloc ?_ _)); refine blk_put (cs := #[.int .i64 t934, .int .i64 t935, .string t936, .int .i64 t937, .bool t938, .slice none 0 0, .slice none 0 0]) ?_ 5 _ rfl; (with_reducible repeat (first | refine blk_drewN ?_ _ | refine blk_drew ?_ | refine blk_alloc ?_ _)); refine blk_put (cs := #[.int .i64 t934, .int .i64 t935, .string t936, .int .i64 t937, .bool false, .slice none 0 0, .slice none 0 0]) ?_ 4 _ rfl; (with_reducible repeat (first | refine blk_drewN ?_ _ | refine blk_drew ?_ | refine blk_alloc ?_ _)); refine blk_put (cs := #[.int .i64 t934, .int .i64 t935, .string t936, .int .i64 0, .bool false, .slice none 0 0, .slice none 0 0]) ?_ 3 _ rfl; (with_reducible repeat (first | refine blk_drewN ?_ _ | refine blk_drew ?_ | refine blk_alloc ?_ _)); refine blk_put (cs := #[.int .i64 t934, .int .i64 t935, .string (⟨#[]⟩ : ByteArray), .int .i64 0, .bool false, .slice none 0 0, .slice none 0 0]) ?_ 2 _ rfl; (with_reducible repeat (first | refine blk_drewN ?_ _ | refine blk_drew ?_ | refine blk_alloc ?_ _)); refine blk_put (cs := #[.int .i64 t934, .int .i64 0, .string (⟨#[]⟩ : ByteArray), .int .i64 0, .bool false, .slice none 0 0, .slice none 0 0]) ?_ 1 _ rfl; (with_reducible repeat (first | refine blk_drewN ?_ _ | refine blk_drew ?_ | refine blk_alloc ?_ _)); refine blk_put (cs := #[.int .i64 0, .int .i64 0, .string (⟨#[]⟩ : ByteArray), .int .i64 0, .bool false, .slice none 0 0, .slice none 0 0]) ?_ 0 _ rfl; (with_reducible repeat (first | refine blk_drewN ?_ _ | refine blk_drew ?_ | refine blk_alloc ?_ _)); exact BK945.out) hb); have n11_ := Aside0.mk (below_step (by repeat (first | (with_reducible first | exact HB.out | apply below_alloc | apply pw_below_drewN | apply below_drew1 | refine below_set ?_ GE908.out | refine below_set ?_ GE933.out | refine below_set ?_ GE945.out) | exact HB.out)) hb); clear HO917 HO920 HO928 HO931 HO941 HO944 BK908 BK933 BK945 HB; have HO917 := n0_; have HO920 := n1_; have HO928 := n2_; have HO931 := n3_; have HO941 := n4_; have HO944 := n5_; have HO953 := n6_; have HO956 := n7_; have BK908 := n8_; have BK933 := n9_; have BK945 := n10_; have HB := n11_; clear n0_ n1_ n2_ n3_ n4_ n5_ n6_ n7_ n8_ n9_ n10_ n11_; (try clear hb); (try clear hb2); (try clear hk); (try clear hi); (try clear ho0); (try clear ho1)) | ((with_reducible refine gate_dst (N := 11) rfl ?_); refine box_event ?hg (N := 11) ?hd (cs := #[.int .i64 0, .int .i64 0, .string (⟨#[]⟩ : ByteArray), .int .i64 0, .bool false, .slice none 0 0, .slice none 0 0]) (t := 29) ?hr ?_; (case hd => rfl); (case hg => rfl); (case hr => first | (go_simp; done) | (go_simp; rfl)); intro gb958 hg w36 hbox hb; have n0_ := Aside0.mk (Kd.R_below (pkR HO917.out) hb); have n1_ := Aside0.mk (Kd.R_below (pkR HO920.out) hb); have n2_ := Aside0.mk (Kd.R_below (pkR HO928.out) hb); have n3_ := Aside0.mk (Kd.R_below (pkR HO931.out) hb); have n4_ := Aside0.mk (Kd.R_below (pkR HO941.out) hb); have n5_ := Aside0.mk (Kd.R_below (pkR HO944.out) hb); have n6_ := Aside0.mk (Kd.R_below (pkR HO953.out) hb); have n7_ := Aside0.mk (Kd.R_below (pkR HO956.out) hb); have n8_ := Aside0.mk (blk_below (g := gb908) (o := .cells #[.int .i64 a0_0, .int .i64 a0_1, .string a0_2, .int .i64 a0_3, .bool a0_4, .slice A0_5 l0_5.length c0_5, .slice A0_6 l0_6.length c0_6] 56 (0, 0)) (pkK BK908.out) hb); have n9_ := Aside0.mk (blk_below (g := gb933) (o := .cells #[.int .i64 t921, .int .i64 t922, .string t923, .int .i64 t924, .bool t925, .slice Ao25 t926.length co25, .slice Ao26 t929.length co26] 29 (0, 0)) (pkK BK933.out) hb); have n10_ := Aside0.mk (blk_below (g := gb945) (o := .cells #[.int .i64 t934, .int .i64 t935, .string t936, .int .i64 t937, .bool t938, .slice Ao33 t939.length co33, .slice Ao34 t942.length co34] 29 (0, 0)) (pkK BK945.out) hb); have n11_ := Aside0.mk (below_step (by repeat (first | (with_reducible first | exact HB.out | apply below_alloc | apply pw_below_drewN | apply below_drew1 | refine below_set ?_ GE908.out | refine below_set ?_ GE933.out | refine below_set ?_ GE945.out) | exact HB.out)) hb); have n12_ := Aside0.mk (hbox); have n13_ := Aside0.mk ((by rw [hg]; exact (below_size (by repeat (first | (with_reducible first | exact HB.out | apply below_alloc | apply pw_below_drewN | apply below_drew1 | refine below_set ?_ GE908.out | refine below_set ?_ GE933.out | refine below_set ?_ GE945.out) | exact HB.out))) : w.heap.size ≤ gb958)); have n14_ := Aside0.mk ((by rw [hg]; exact (below_size (by repeat (first | (with_reducible first | exact HB.out | apply below_alloc | apply pw_below_drewN | apply below_drew1 | refine below_set ?_ GE908.out | refine below_set ?_ GE933.out | refine below_set ?_ GE945.out) | exact HB.out))) : w.heap.size ≤ gb958)); have n15_ := Aside0.mk ((by rw [hg]; exact Nat.ne_of_lt (blk_lt (g := gb908) (o := .cells #[.int .i64 a0_0, .int .i64 a0_1, .string a0_2, .int .i64 a0_3, .bool a0_4, .slice A0_5 l0_5.length c0_5, .slice A0_6 l0_6.length c0_6] 56 (0, 0)) (pkK BK908.out)) : gb908 ≠ gb958)); have n16_ := Aside0.mk ((by rw [hg]; exact Nat.ne_of_gt (blk_lt (g := gb908) (o := .cells #[.int .i64 a0_0, .int .i64 a0_1, .string a0_2, .int .i64 a0_3, .bool a0_4, .slice A0_5 l0_5.length c0_5, .slice A0_6 l0_6.length c0_6] 56 (0, 0)) (pkK BK908.out)) : gb958 ≠ gb908)); have n17_ := Aside0.mk ((by rw [hg]; exact Nat.ne_of_lt (blk_lt (g := gb933) (o := .cells #[.int .i64 t921, .int .i64 t922, .string t923, .int .i64 t924, .bool t925, .slice Ao25 t926.length co25, .slice Ao26 t929.length co26] 29 (0, 0)) (pkK BK933.out)) : gb933 ≠ gb958)); have n18_ := Aside0.mk ((by rw [hg]; exact Nat.ne_of_gt (blk_lt (g := gb933) (o := .cells #[.int .i64 t921, .int .i64 t922, .string t923, .int .i64 t924, .bool t925, .slice Ao25 t926.length co25, .slice Ao26 t929.length co26] 29 (0, 0)) (pkK BK933.out)) : gb958 ≠ gb933)); have n19_ := Aside0.mk ((by rw [hg]; exact Nat.ne_of_lt (blk_lt (g := gb945) (o := .cells #[.int .i64 t934, .int .i64 t935, .string t936, .int .i64 t937, .bool t938, .slice Ao33 t939.length co33, .slice Ao34 t942.length co34] 29 (0, 0)) (pkK BK945.out)) : gb945 ≠ gb958)); have n20_ := Aside0.mk ((by rw [hg]; exact Nat.ne_of_gt (blk_lt (g := gb945) (o := .cells #[.int .i64 t934, .int .i64 t935, .string t936, .int .i64 t937, .bool t938, .slice Ao33 t939.length co33, .slice Ao34 t942.length co34] 29 (0, 0)) (pkK BK945.out)) : gb958 ≠ gb945)); clear HO917 HO920 HO928 HO931 HO941 HO944 HO953 HO956 BK908 BK933 BK945 HB; have HO917 := n0_; have HO920 := n1_; have HO928 := n2_; have HO931 := n3_; have HO941 := n4_; have HO944 := n5_; have HO953 := n6_; have HO956 := n7_; have BK908 := n8_; have BK933 := n9_; have BK945 := n10_; have HB := n11_; have BK958 := n12_; have GW958 := n13_; have GE958 := n14_; have NB908_958 := n15_; have NB958_908 := n16_; have NB933_958 := n17_; have NB958_933 := n18_; have NB945_958 := n19_; have NB958_945 := n20_; clear n0_ n1_ n2_ n3_ n4_ n5_ n6_ n7_ n8_ n9_ n10_ n11_ n12_ n13_ n14_ n15_ n16_ n17_ n18_ n19_ n20_; clear hb hbox hg; have hnb37 := NB958_908.out; have hnc37 := NB908_958.out; have hnb38 := NB958_933.out; have hnc38 := NB933_958.out; have hnb39 := NB958_945.out; have hnc39 := NB945_958.out; have hcz40_0 : w36.cell? ⟨gb958, 0, none⟩ = some (.int .i64 0) := (blk_cell BK958.out 0).trans rfl; have hcz40_1 : w36.cell? ⟨gb958, 1, none⟩ = some (.int .i64 0) := (blk_cell BK958.out 1).trans rfl; have hcz40_2 : w36.cell? ⟨gb958, 2, none⟩ = some (.string (⟨#[]⟩ : ByteArray)) := (blk_cell BK958.out 2).trans rfl; have hcz40_3 : w36.cell? ⟨gb958, 3, none⟩ = some (.int .i64 0) := (blk_cell BK958.out 3).trans rfl; have hcz40_4 : w36.cell? ⟨gb958, 4, none⟩ = some (.bool false) := (blk_cell BK958.out 4).trans rfl; have hcz40_5 : w36.cell? ⟨gb958, 5, none⟩ = some (.slice none 0 0) := (blk_cell BK958.out 5).trans rfl; have hcz40_6 : w36.cell? ⟨gb958, 6, none⟩ = some (.slice none 0 0) := (blk_cell BK958.out 6).trans rfl; have hfz40_0 := blk_frozen BK958.out 0; have hfz40_1 := blk_frozen BK958.out 1; have hfz40_2 := blk_frozen BK958.out 2; have hfz40_3 := blk_frozen BK958.out 3; have hfz40_4 := blk_frozen BK958.out 4; have hfz40_5 := blk_frozen BK958.out 5; have hfz40_6 := blk_frozen BK958.out 6; obtain ⟨Ao41, co41, eo41⟩ := Kd.R_slice HO953.out; subst eo41; obtain ⟨Ao42, co42, eo42⟩ := Kd.R_slice HO956.out; subst eo42))
    (try simp only [Act.put, List.setIfInBounds_toArray, List.set_cons_zero, List.set_cons_succ])
    go_cut [48] (fun v48 wc => ∃ (kq : Nat) (x48_12 : Bool), v48 = .bool x48_12 ∧ Aside0 (laws_FnExactWatch.j0 kq a1 a2 t932 t957 x48_12 a0_0 a0_1 a0_2 a0_3 a0_4 l0_5 l0_6 t921 t922 t923 t924 t925 t926 t929 t934 t935 t936 t937 t938 t939 t942 t946 t947 t948 t949 t950 t951 t954 = some r) ∧ Aside0 (kq ≤ k) ∧ Aside0 (Kd.R (Kd.int .i64) 3 wc w.heap.size (fun k_ => some k_ ≠ ((.slice Ao26 t929.length co26) : Value).ownBlock ∧ some k_ ≠ ((.slice Ao33 t939.length co33) : Value).ownBlock ∧ some k_ ≠ ((.slice Ao34 t942.length co34) : Value).ownBlock ∧ some k_ ≠ ((.slice Ao41 t951.length co41) : Value).ownBlock ∧ some k_ ≠ ((.slice Ao42 t954.length co42) : Value).ownBlock) (.slice Ao25 t926.length co25) t926) ∧ Aside0 (Kd.R (Kd.int .i64) 3 wc w.heap.size (fun k_ => some k_ ≠ ((.slice Ao25 t926.length co25) : Value).ownBlock ∧ some k_ ≠ ((.slice Ao33 t939.length co33) : Value).ownBlock ∧ some k_ ≠ ((.slice Ao34 t942.length co34) : Value).ownBlock ∧ some k_ ≠ ((.slice Ao41 t951.length co41) : Value).ownBlock ∧ some k_ ≠ ((.slice Ao42 t954.length co42) : Value).ownBlock) (.slice Ao26 t929.length co26) t929) ∧ Aside0 (Kd.R (Kd.int .i64) 3 wc w.heap.size (fun k_ => some k_ ≠ ((.slice Ao25 t926.length co25) : Value).ownBlock ∧ some k_ ≠ ((.slice Ao26 t929.length co26) : Value).ownBlock ∧ some k_ ≠ ((.slice Ao34 t942.length co34) : Value).ownBlock ∧ some k_ ≠ ((.slice Ao41 t951.length co41) : Value).ownBlock ∧ some k_ ≠ ((.slice Ao42 t954.length co42) : Value).ownBlock) (.slice Ao33 t939.length co33) t939) ∧ Aside0 (Kd.R (Kd.int .i64) 3 wc w.heap.size (fun k_ => some k_ ≠ ((.slice Ao25 t926.length co25) : Value).ownBlock ∧ some k_ ≠ ((.slice Ao26 t929.length co26) : Value).ownBlock ∧ some k_ ≠ ((.slice Ao33 t939.length co33) : Value).ownBlock ∧ some k_ ≠ ((.slice Ao41 t951.length co41) : Value).ownBlock ∧ some k_ ≠ ((.slice Ao42 t954.length co42) : Value).ownBlock) (.slice Ao34 t942.length co34) t942) ∧ Aside0 (Kd.R (Kd.int .i64) 3 wc w.heap.size (fun k_ => some k_ ≠ ((.slice Ao25 t926.length co25) : Value).ownBlock ∧ some k_ ≠ ((.slice Ao26 t929.length co26) : Value).ownBlock ∧ some k_ ≠ ((.slice Ao33 t939.length co33) : Value).ownBlock ∧ some k_ ≠ ((.slice Ao34 t942.length co34) : Value).ownBlock ∧ some k_ ≠ ((.slice Ao42 t954.length co42) : Value).ownBlock) (.slice Ao41 t951.length co41) t951) ∧ Aside0 (Kd.R (Kd.int .i64) 3 wc w.heap.size (fun k_ => some k_ ≠ ((.slice Ao25 t926.length co25) : Value).ownBlock ∧ some k_ ≠ ((.slice Ao26 t929.length co26) : Value).ownBlock ∧ some k_ ≠ ((.slice Ao33 t939.length co33) : Value).ownBlock ∧ some k_ ≠ ((.slice Ao34 t942.length co34) : Value).ownBlock ∧ some k_ ≠ ((.slice Ao41 t951.length co41) : Value).ownBlock) (.slice Ao42 t954.length co42) t954) ∧ Aside0 (wc.heap[gb908]? = some (.cells #[.int .i64 a0_0, .int .i64 a0_1, .string a0_2, .int .i64 a0_3, .bool a0_4, (.slice A0_5 l0_5.length c0_5), (.slice A0_6 l0_6.length c0_6)] 56 (0, 0))) ∧ Aside0 (wc.heap[gb933]? = some (.cells #[.int .i64 t921, .int .i64 t922, .string t923, .int .i64 t924, .bool t925, (.slice Ao25 t926.length co25), (.slice Ao26 t929.length co26)] 29 (0, 0))) ∧ Aside0 (wc.heap[gb945]? = some (.cells #[.int .i64 t934, .int .i64 t935, .string t936, .int .i64 t937, .bool t938, (.slice Ao33 t939.length co33), (.slice Ao34 t942.length co34)] 29 (0, 0))) ∧ Aside0 (wc.heap[gb958]? = some (.cells #[.int .i64 t946, .int .i64 t947, .string t948, .int .i64 t949, .bool t950, (.slice Ao41 t951.length co41), (.slice Ao42 t954.length co42)] 29 (0, 0))) ∧ Aside0 (Below w.heap.size w wc))
    case first =>
      have H := HC13.out
      clear HC13
      replace H := Option.bind_eq_some_iff.mp H
      obtain ⟨t959, A430, H⟩ := H
      replace H : (if t959 = true then (laws_FnExactWatch.j0 k a1 a2 t932 t957 (t957 != t932) a0_0 a0_1 a0_2 a0_3 a0_4 l0_5 l0_6 t921 t922 t923 t924 t925 t926 t929 t934 t935 t936 t937 t938 t939 t942 t946 t947 t948 t949 t950 t951 t954) else (laws_FnExactWatch.j0 k a1 a2 t932 t957 true a0_0 a0_1 a0_2 a0_3 a0_4 l0_5 l0_6 t921 t922 t923 t924 t925 t926 t929 t934 t935 t936 t937 t938 t939 t942 t946 t947 t948 t949 t950 t951 t954)) = some r := H
      have A43 := Aside0.mk A430
      clear A430
      by_cases c44 : t959 = true
      · subst c44
        have H1 : (laws_FnExactWatch.j0 k a1 a2 t932 t957 (t957 != t932) a0_0 a0_1 a0_2 a0_3 a0_4 l0_5 l0_6 t921 t922 t923 t924 t925 t926 t929 t934 t935 t936 t937 t938 t939 t942 t946 t947 t948 t949 t950 t951 t954) = some r := by rw [if_pos rfl] at H; exact H
        clear H
        have H := H1
        clear H1
        have H' := Aside0.mk H
        clear H
        have hnb45 := NB958_908.out
        have hnc45 := NB908_958.out
        have hnb46 := NB958_933.out
        have hnc46 := NB933_958.out
        have hnb47 := NB958_945.out
        have hnc47 := NB945_958.out
        have hcz48_0 : w36.cell? ⟨gb958, 0, none⟩ = some (.int .i64 0) := (blk_cell BK958.out 0).trans rfl
        have hcz48_1 : w36.cell? ⟨gb958, 1, none⟩ = some (.int .i64 0) := (blk_cell BK958.out 1).trans rfl
        have hcz48_2 : w36.cell? ⟨gb958, 2, none⟩ = some (.string (⟨#[]⟩ : ByteArray)) := (blk_cell BK958.out 2).trans rfl
        have hcz48_3 : w36.cell? ⟨gb958, 3, none⟩ = some (.int .i64 0) := (blk_cell BK958.out 3).trans rfl
        have hcz48_4 : w36.cell? ⟨gb958, 4, none⟩ = some (.bool false) := (blk_cell BK958.out 4).trans rfl
        have hcz48_5 : w36.cell? ⟨gb958, 5, none⟩ = some (.slice none 0 0) := (blk_cell BK958.out 5).trans rfl
        have hcz48_6 : w36.cell? ⟨gb958, 6, none⟩ = some (.slice none 0 0) := (blk_cell BK958.out 6).trans rfl
        have hfz48_0 := blk_frozen BK958.out 0
        have hfz48_1 := blk_frozen BK958.out 1
        have hfz48_2 := blk_frozen BK958.out 2
        have hfz48_3 := blk_frozen BK958.out 3
        have hfz48_4 := blk_frozen BK958.out 4
        have hfz48_5 := blk_frozen BK958.out 5
        have hfz48_6 := blk_frozen BK958.out 6
        have hnb49 := NB933_908.out
        have hnc49 := NB908_933.out
        have hnb50 := NB933_945.out
        have hnc50 := NB945_933.out
        have hcz51_0 : w36.cell? ⟨gb933, 0, none⟩ = some (.int .i64 t921) := (blk_cell BK933.out 0).trans rfl
        have hcz51_1 : w36.cell? ⟨gb933, 1, none⟩ = some (.int .i64 t922) := (blk_cell BK933.out 1).trans rfl
        have hcz51_2 : w36.cell? ⟨gb933, 2, none⟩ = some (.string t923) := (blk_cell BK933.out 2).trans rfl
        have hcz51_3 : w36.cell? ⟨gb933, 3, none⟩ = some (.int .i64 t924) := (blk_cell BK933.out 3).trans rfl
        have hcz51_4 : w36.cell? ⟨gb933, 4, none⟩ = some (.bool t925) := (blk_cell BK933.out 4).trans rfl
        have hcz51_5 : w36.cell? ⟨gb933, 5, none⟩ = some (.slice Ao25 t926.length co25) := (blk_cell BK933.out 5).trans rfl
        have hcz51_6 : w36.cell? ⟨gb933, 6, none⟩ = some (.slice Ao26 t929.length co26) := (blk_cell BK933.out 6).trans rfl
        have hfz51_0 := blk_frozen BK933.out 0
        have hfz51_1 := blk_frozen BK933.out 1
        have hfz51_2 := blk_frozen BK933.out 2
        have hfz51_3 := blk_frozen BK933.out 3
        have hfz51_4 := blk_frozen BK933.out 4
        have hfz51_5 := blk_frozen BK933.out 5
        have hfz51_6 := blk_frozen BK933.out 6
        go_wp2_with (first | ((with_reducible refine gate_callee (f := 34) rfl ?_); refine goesL_ (some 42) rfl rfl Try.func34 (by kernel_rfl) rfl #[.agg #[.int .i64 t946, .int .i64 t947, .string t948, .int .i64 t949, .bool t950, .slice Ao41 t951.length co41, .slice Ao42 t954.length co42], .agg #[.int .i64 t921, .int .i64 t922, .string t923, .int .i64 t924, .bool t925, .slice Ao25 t926.length co25, .slice Ao26 t929.length co26]] rfl (by (try simp only [List.map_toArray, List.map_cons, List.map_nil]); first | done | rfl | (simp only [List.length_drop, List.length_take]; rfl) | (go_simp; done) | (simp [*]; done)) ?_; (with_reducible refine (laws_eqCell.calls k t946 t947 t948 t949 t950 _ _ t951 _ _ t954 t921 t922 t923 t924 t925 _ _ t926 _ _ t929 true _ ?side1 ?side2 ?side3 ?side4 ?side5 ?side6 ?side7 ?side8 A43.out).mono ?_); (case side1 => refine (Kd.R_reads' (e := 3) (base := w.heap.size) (ok := fun k_ => ((((((some k_ ≠ (.slice Ao42 t954.length co42 : Value).ownBlock ∧ some k_ ≠ (.slice Ao19 t915.length co19 : Value).ownBlock) ∧ some k_ ≠ (.slice Ao20 t918.length co20 : Value).ownBlock) ∧ some k_ ≠ (.slice Ao25 t926.length co25 : Value).ownBlock) ∧ some k_ ≠ (.slice Ao26 t929.length co26 : Value).ownBlock) ∧ some k_ ≠ (.slice Ao33 t939.length co33 : Value).ownBlock) ∧ some k_ ≠ (.slice Ao34 t942.length co34 : Value).ownBlock)) (n := t951.length) (c := co41) ?_).2.2; exact (by (with_reducible repeat (first | apply Kd.R_alloc | apply Kd.R_drewN | apply Kd.R_drew)); exact (Kd.R_mono (Kd.R_far (p := ⟨gb958, 6, none⟩) (Kd.R_far (p := ⟨gb958, 5, none⟩) (Kd.R_far (p := ⟨gb958, 4, none⟩) (Kd.R_far (p := ⟨gb958, 3, none⟩) (Kd.R_far (p := ⟨gb958, 2, none⟩) (Kd.R_far (p := ⟨gb958, 1, none⟩) (Kd.R_far (p := ⟨gb958, 0, none⟩) (Kd.R_types HO953.out BK958.out (by decide)) (fun _ hk => hk.2) (.int .i64 t946)) (fun _ hk => hk.2) (.int .i64 t947)) (fun _ hk => hk.2) (.string t948)) (fun _ hk => hk.2) (.int .i64 t949)) (fun _ hk => hk.2) (.bool t950)) (fun _ hk => hk.2) (.slice Ao41 t951.length co41)) (fun _ hk => hk.2) (.slice Ao42 t954.length co42)) (fun _ h_ => h_.1)))); (case side2 => exact (Kd.R_reads' HO953.out).2.1); (case side3 => refine (Kd.R_reads' (e := 3) (base := w.heap.size) (ok := fun k_ => ((((((some k_ ≠ (.slice Ao41 t951.length co41 : Value).ownBlock ∧ some k_ ≠ (.slice Ao19 t915.length co19 : Value).ownBlock) ∧ some k_ ≠ (.slice Ao20 t918.length co20 : Value).ownBlock) ∧ some k_ ≠ (.slice Ao25 t926.length co25 : Value).ownBlock) ∧ some k_ ≠ (.slice Ao26 t929.length co26 : Value).ownBlock) ∧ some k_ ≠ (.slice Ao33 t939.length co33 : Value).ownBlock) ∧ some k_ ≠ (.slice Ao34 t942.length co34 : Value).ownBlock)) (n := t954.length) (c := co42) ?_).2.2; exact (by (with_reducible repeat (first | apply Kd.R_alloc | apply Kd.R_drewN | apply Kd.R_drew)); exact (Kd.R_mono (Kd.R_far (p := ⟨gb958, 6, none⟩) (Kd.R_far (p := ⟨gb958, 5, none⟩) (Kd.R_far (p := ⟨gb958, 4, none⟩) (Kd.R_far (p := ⟨gb958, 3, none⟩) (Kd.R_far (p := ⟨gb958, 2, none⟩) (Kd.R_far (p := ⟨gb958, 1, none⟩) (Kd.R_far (p := ⟨gb958, 0, none⟩) (Kd.R_types HO956.out BK958.out (by decide)) (fun _ hk => hk.2) (.int .i64 t946)) (fun _ hk => hk.2) (.int .i64 t947)) (fun _ hk => hk.2) (.string t948)) (fun _ hk => hk.2) (.int .i64 t949)) (fun _ hk => hk.2) (.bool t950)) (fun _ hk => hk.2) (.slice Ao41 t951.length co41)) (fun _ hk => hk.2) (.slice Ao42 t954.length co42)) (fun _ h_ => h_.1)))); (case side4 => exact (Kd.R_reads' HO956.out).2.1); (case side5 => refine (Kd.R_reads' (e := 3) (base := w.heap.size) (ok := fun k_ => ((((((some k_ ≠ (.slice Ao26 t929.length co26 : Value).ownBlock ∧ some k_ ≠ (.slice Ao19 t915.length co19 : Value).ownBlock) ∧ some k_ ≠ (.slice Ao20 t918.length co20 : Value).ownBlock) ∧ some k_ ≠ (.slice Ao33 t939.length co33 : Value).ownBlock) ∧ some k_ ≠ (.slice Ao34 t942.length co34 : Value).ownBlock) ∧ some k_ ≠ (.slice Ao41 t951.length co41 : Value).ownBlock) ∧ some k_ ≠ (.slice Ao42 t954.length co42 : Value).ownBlock)) (n := t926.length) (c := co25) ?_).2.2; exact (by (with_reducible repeat (first | apply Kd.R_alloc | apply Kd.R_drewN | apply Kd.R_drew)); exact (Kd.R_mono (Kd.R_far (p := ⟨gb958, 6, none⟩) (Kd.R_far (p := ⟨gb958, 5, none⟩) (Kd.R_far (p := ⟨gb958, 4, none⟩) (Kd.R_far (p := ⟨gb958, 3, none⟩) (Kd.R_far (p := ⟨gb958, 2, none⟩) (Kd.R_far (p := ⟨gb958, 1, none⟩) (Kd.R_far (p := ⟨gb958, 0, none⟩) (Kd.R_types HO928.out BK958.out (by decide)) (fun _ hk => hk.2) (.int .i64 t946)) (fun _ hk => hk.2) (.int .i64 t947)) (fun _ hk => hk.2) (.string t948)) (fun _ hk => hk.2) (.int .i64 t949)) (fun _ hk => hk.2) (.bool t950)) (fun _ hk => hk.2) (.slice Ao41 t951.length co41)) (fun _ hk => hk.2) (.slice Ao42 t954.length co42)) (fun _ h_ => h_.1)))); (case side6 => exact (Kd.R_reads' HO928.out).2.1); (case side7 => refine (Kd.R_reads' (e := 3) (base := w.heap.size) (ok := fun k_ => ((((((some k_ ≠ (.slice Ao25 t926.length co25 : Value).ownBlock ∧ some k_ ≠ (.slice Ao19 t915.length co19 : Value).ownBlock) ∧ some k_ ≠ (.slice Ao20 t918.length co20 : Value).ownBlock) ∧ some k_ ≠ (.slice Ao33 t939.length co33 : Value).ownBlock) ∧ some k_ ≠ (.slice Ao34 t942.length co34 : Value).ownBlock) ∧ some k_ ≠ (.slice Ao41 t951.length co41 : Value).ownBlock) ∧ some k_ ≠ (.slice Ao42 t954.length co42 : Value).ownBlock)) (n := t929.length) (c := co26) ?_).2.2; exact (by (with_reducible repeat (first | apply Kd.R_alloc | apply Kd.R_drewN | apply Kd.R_drew)); exact (Kd.R_mono (Kd.R_far (p := ⟨gb958, 6, none⟩) (Kd.R_far (p := ⟨gb958, 5, none⟩) (Kd.R_far (p := ⟨gb958, 4, none⟩) (Kd.R_far (p := ⟨gb958, 3, none⟩) (Kd.R_far (p := ⟨gb958, 2, none⟩) (Kd.R_far (p := ⟨gb958, 1, none⟩) (Kd.R_far (p := ⟨gb958, 0, none⟩) (Kd.R_types HO931.out BK958.out (by decide)) (fun _ hk => hk.2) (.int .i64 t946)) (fun _ hk => hk.2) (.int .i64 t947)) (fun _ hk => hk.2) (.string t948)) (fun _ hk => hk.2) (.int .i64 t949)) (fun _ hk => hk.2) (.bool t950)) (fun _ hk => hk.2) (.slice Ao41 t951.length co41)) (fun _ hk => hk.2) (.slice Ao42 t954.length co42)) (fun _ h_ => h_.1)))); (case side8 => exact (Kd.R_reads' HO931.out).2.1); rintro e w52 ⟨rfl, hb⟩; refine ⟨_, rfl, ?_⟩; have n0_ := Aside0.mk (Kd.R_below (by (with_reducible repeat (first | apply Kd.R_alloc | apply Kd.R_drewN | apply Kd.R_drew)); exact (Kd.R_mono (Kd.R_far (p := ⟨gb958, 6, none⟩) (Kd.R_far (p := ⟨gb958, 5, none⟩) (Kd.R_far (p := ⟨gb958, 4, none⟩) (Kd.R_far (p := ⟨gb958, 3, none⟩) (Kd.R_far (p := ⟨gb958, 2, none⟩) (Kd.R_far (p := ⟨gb958, 1, none⟩) (Kd.R_far (p := ⟨gb958, 0, none⟩) (Kd.R_types HO917.out BK958.out (by decide)) (fun _ hk => hk.2) (.int .i64 t946)) (fun _ hk => hk.2) (.int .i64 t947)) (fun _ hk => hk.2) (.string t948)) (fun _ hk => hk.2) (.int .i64 t949)) (fun _ hk => hk.2) (.bool t950)) (fun _ hk => hk.2) (.slice Ao41 t951.length co41)) (fun _ hk => hk.2) (.slice Ao42 t954.length co42)) (fun _ h_ => h_.1))) hb); have n1_ := Aside0.mk (Kd.R_below (by (with_reducible repeat (first | apply Kd.R_alloc | apply Kd.R_drewN | apply Kd.R_drew)); exact (Kd.R_mono (Kd.R_far (p := ⟨gb958, 6, none⟩) (Kd.R_far (p := ⟨gb958, 5, none⟩) (Kd.R_far (p := ⟨gb958, 4, none⟩) (Kd.R_far (p := ⟨gb958, 3, none⟩) (Kd.R_far (p := ⟨gb958, 2, none⟩) (Kd.R_far (p := ⟨gb958, 1, none⟩) (Kd.R_far (p := ⟨gb958, 0, none⟩) (Kd.R_types HO920.out BK958.out (by decide)) (fun _ hk => hk.2) (.int .i64 t946)) (fun _ hk => hk.2) (.int .i64 t947)) (fun _ hk => hk.2) (.string t948)) (fun _ hk => hk.2) (.int .i64 t949)) (fun _ hk => hk.2) (.bool t950)) (fun _ hk => hk.2) (.slice Ao41 t951.length co41)) (fun _ hk => hk.2) (.slice Ao42 t954.length co42)) (fun _ h_ => h_.1))) hb); have n2_ := Aside0.mk (Kd.R_below (by (with_reducible repeat (first | apply Kd.R_alloc | apply Kd.R_drewN | apply Kd.R_drew)); exact (Kd.R_mono (Kd.R_far (p := ⟨gb958, 6, none⟩) (Kd.R_far (p := ⟨gb958, 5, none⟩) (Kd.R_far (p := ⟨gb958, 4, none⟩) (Kd.R_far (p := ⟨gb958, 3, none⟩) (Kd.R_far (p := ⟨gb958, 2, none⟩) (Kd.R_far (p := ⟨gb958, 1, none⟩) (Kd.R_far (p := ⟨gb958, 0, none⟩) (Kd.R_types HO928.out BK958.out (by decide)) (fun _ hk => hk.2) (.int .i64 t946)) (fun _ hk => hk.2) (.int .i64 t947)) (fun _ hk => hk.2) (.string t948)) (fun _ hk => hk.2) (.int .i64 t949)) (fun _ hk => hk.2) (.bool t950)) (fun _ hk => hk.2) (.slice Ao41 t951.length co41)) (fun _ hk => hk.2) (.slice Ao42 t954.length co42)) (fun _ h_ => h_.1))) hb); have n3_ := Aside0.mk (Kd.R_below (by (with_reducible repeat (first | apply Kd.R_alloc | apply Kd.R_drewN | apply Kd.R_drew)); exact (Kd.R_mono (Kd.R_far (p := ⟨gb958, 6, none⟩) (Kd.R_far (p := ⟨gb958, 5, none⟩) (Kd.R_far (p := ⟨gb958, 4, none⟩) (Kd.R_far (p := ⟨gb958, 3, none⟩) (Kd.R_far (p := ⟨gb958, 2, none⟩) (Kd.R_far (p := ⟨gb958, 1, none⟩) (Kd.R_far (p := ⟨gb958, 0, none⟩) (Kd.R_types HO931.out BK958.out (by decide)) (fun _ hk => hk.2) (.int .i64 t946)) (fun _ hk => hk.2) (.int .i64 t947)) (fun _ hk => hk.2) (.string t948)) (fun _ hk => hk.2) (.int .i64 t949)) (fun _ hk => hk.2) (.bool t950)) (fun _ hk => hk.2) (.slice Ao41 t951.length co41)) (fun _ hk => hk.2) (.slice Ao42 t954.length co42)) (fun _ h_ => h_.1))) hb); have n4_ := Aside0.mk (Kd.R_below (by (with_reducible repeat (first | apply Kd.R_alloc | apply Kd.R_drewN | apply Kd.R_drew)); exact (Kd.R_mono (Kd.R_far (p := ⟨gb958, 6, none⟩) (Kd.R_far (p := ⟨gb958, 5, none⟩) (Kd.R_far (p := ⟨gb958, 4, none⟩) (Kd.R_far (p := ⟨gb958, 3, none⟩) (Kd.R_far (p := ⟨gb958, 2, none⟩) (Kd.R_far (p := ⟨gb958, 1, none⟩) (Kd.R_far (p := ⟨gb958, 0, none⟩) (Kd.R_types HO941.out BK958.out (by decide)) (fun _ hk => hk.2) (.int .i64 t946)) (fun _ hk => hk.2) (.int .i64 t947)) (fun _ hk => hk.2) (.string t948)) (fun _ hk => hk.2) (.int .i64 t949)) (fun _ hk => hk.2) (.bool t950)) (fun _ hk => hk.2) (.slice Ao41 t951.length co41)) (fun _ hk => hk.2) (.slice Ao42 t954.length co42)) (fun _ h_ => h_.1))) hb); have n5_ := Aside0.mk (Kd.R_below (by (with_reducible repeat (first | apply Kd.R_alloc | apply Kd.R_drewN | apply Kd.R_drew)); exact (Kd.R_mono (Kd.R_far (p := ⟨gb958, 6, none⟩) (Kd.R_far (p := ⟨gb958, 5, none⟩) (Kd.R_far (p := ⟨gb958, 4, none⟩) (Kd.R_far (p := ⟨gb958, 3, none⟩) (Kd.R_far (p := ⟨gb958, 2, none⟩) (Kd.R_far (p := ⟨gb958, 1, none⟩) (Kd.R_far (p := ⟨gb958, 0, none⟩) (Kd.R_types HO944.out BK958.out (by decide)) (fun _ hk => hk.2) (.int .i64 t946)) (fun _ hk => hk.2) (.int .i64 t947)) (fun _ hk => hk.2) (.string t948)) (fun _ hk => hk.2) (.int .i64 t949)) (fun _ hk => hk.2) (.bool t950)) (fun _ hk => hk.2) (.slice Ao41 t951.length co41)) (fun _ hk => hk.2) (.slice Ao42 t954.length co42)) (fun _ h_ => h_.1))) hb); have n6_ := Aside0.mk (Kd.R_below (by (with_reducible repeat (first | apply Kd.R_alloc | apply Kd.R_drewN | apply Kd.R_drew)); exact (Kd.R_mono (Kd.R_far (p := ⟨gb958, 6, none⟩) (Kd.R_far (p := ⟨gb958, 5, none⟩) (Kd.R_far (p := ⟨gb958, 4, none⟩) (Kd.R_far (p := ⟨gb958, 3, none⟩) (Kd.R_far (p := ⟨gb958, 2, none⟩) (Kd.R_far (p := ⟨gb958, 1, none⟩) (Kd.R_far (p := ⟨gb958, 0, none⟩) (Kd.R_types HO953.out BK958.out (by decide)) (fun _ hk => hk.2) (.int .i64 t946)) (fun _ hk => hk.2) (.int .i64 t947)) (fun _ hk => hk.2) (.string t948)) (fun _ hk => hk.2) (.int .i64 t949)) (fun _ hk => hk.2) (.bool t950)) (fun _ hk => hk.2) (.slice Ao41 t951.length co41)) (fun _ hk => hk.2) (.slice Ao42 t954.length co42)) (fun _ h_ => h_.1))) hb); have n7_ := Aside0.mk (Kd.R_below (by (with_reducible repeat (first | apply Kd.R_alloc | apply Kd.R_drewN | apply Kd.R_drew)); exact (Kd.R_mono (Kd.R_far (p := ⟨gb958, 6, none⟩) (Kd.R_far (p := ⟨gb958, 5, none⟩) (Kd.R_far (p := ⟨gb958, 4, none⟩) (Kd.R_far (p := ⟨gb958, 3, none⟩) (Kd.R_far (p := ⟨gb958, 2, none⟩) (Kd.R_far (p := ⟨gb958, 1, none⟩) (Kd.R_far (p := ⟨gb958, 0, none⟩) (Kd.R_types HO956.out BK958.out (by decide)) (fun _ hk => hk.2) (.int .i64 t946)) (fun _ hk => hk.2) (.int .i64 t947)) (fun _ hk => hk.2) (.string t948)) (fun _ hk => hk.2) (.int .i64 t949)) (fun _ hk => hk.2) (.bool t950)) (fun _ hk => hk.2) (.slice Ao41 t951.length co41)) (fun _ hk => hk.2) (.slice Ao42 t954.length co42)) (fun _ h_ => h_.1))) hb); have n8_ := Aside0.mk (blk_below (g := gb908) (o := .cells #[.int .i64 a0_0, .int .i64 a0_1, .string a0_2, .int .i64 a0_3, .bool a0_4, .slice A0_5 l0_5.length c0_5, .slice A0_6 l0_6.length c0_6] 56 (0, 0)) (by (with_reducible repeat (first | refine blk_drewN ?_ _ | refine blk_drew ?_ | refine blk_alloc ?_ _)); refine blk_far ?_ NB908_958.out _; (with_reducible repeat (first | refine blk_drewN ?_ _ | refine blk_drew ?_ | refine blk_alloc ?_ _)); refine blk_far ?_ NB908_958.out _; (with_reducible repeat (first | refine blk_drewN ?_ _ | refine blk_drew ?_ | refine blk_alloc ?_ _)); refine blk_far ?_ NB908_958.out _; (with_reducible repeat (first | refine blk_drewN ?_ _ | refine blk_drew ?_ | refine blk_alloc ?_ _)); refine blk_far ?_ NB908_958.out _; (with_reducible repeat (first | refine blk_drewN ?_ _ | refine blk_drew ?_ | refine blk_alloc ?_ _)); refine blk_far ?_ NB908_958.out _; (with_reducible repeat (first | refine blk_drewN ?_ _ | refine blk_drew ?_ | refine blk_alloc ?_ _)); refine blk_far ?_ NB908_958.out _; (with_reducible repeat (first | refine blk_drewN ?_ _ | refine blk_drew ?_ | refine blk_alloc ?_ _)); refine blk_far ?_ NB908_958.out _; (with_reducible repeat (first | refine blk_drewN ?_ _ | refine blk_drew ?_ | refine blk_alloc ?_ _)); exact BK908.out) hb); have n9_ := Aside0.mk (blk_below (g := gb933) (o := .cells #[.int .i64 t921, .int .i64 t922, .string t923, .int .i64 t924, .bool t925, .slice Ao25 t926.length co25, .slice Ao26 t929.length co26] 29 (0, 0)) (by (with_reducible repeat (first | refine blk_drewN ?_ _ | refine blk_drew ?_ | refine blk_alloc ?_ _)); refine blk_far ?_ NB933_958.out _; (with_reducible repeat (first | refine blk_drewN ?_ _ | refine blk_drew ?_ | refine blk_alloc ?_ _)); refine blk_far ?_ NB933_958.out _; (with_reducible repeat (first | refine blk_drewN ?_ _ | refine blk_drew ?_ | refine blk_alloc ?_ _)); refine blk_far ?_ NB933_958.out _; (with_reducible repeat (first | refine blk_drewN ?_ _ | refine blk_drew ?_ | refine blk_alloc ?_ _)); refine blk_far ?_ NB933_958.out _; (with_reducible repeat (first | refine blk_drewN ?_ _ | refine blk_drew ?_ | refine blk_alloc ?_ _)); refine blk_far ?_ NB933_958.out _; (with_reducible repeat (first | refine blk_drewN ?_ _ | refine blk_drew ?_ | refine blk_alloc ?_ _)); refine blk_far ?_ NB933_958.out _; (with_reducible repeat (first | refine blk_drewN ?_ _ | refine blk_drew ?_ | refine blk_alloc ?_ _)); refine blk_far ?_ NB933_958.out _; (with_reducible repeat (first | refine blk_drewN ?_ _ | refine blk_drew ?_ | refine blk_alloc ?_ _)); exact BK933.out) hb); have n10_ := Aside0.mk (blk_below (g := gb945) (o := .cells #[.int .i64 t934, .int .i64 t935, .string t936, .int .i64 t937, .bool t938, .slice Ao33 t939.length co33, .slice Ao34 t942.length co34] 29 (0, 0)) (by (with_reducible repeat (first | refine blk_drewN ?_ _ | refine blk_drew ?_ | refine blk_alloc ?_ _)); refine blk_far ?_ NB945_958.out _; (with_reducible repeat (first | refine blk_drewN ?_ _ | refine blk_drew ?_ | refine blk_alloc ?_ _)); refine blk_far ?_ NB945_958.out _; (with_reducible repeat (first | refine blk_drewN ?_ _ | refine blk_drew ?_ | refine blk_alloc ?_ _)); refine blk_far ?_ NB945_958.out _; (with_reducible repeat (first | refine blk_drewN ?_ _ | refine blk_drew ?_ | refine blk_alloc ?_ _)); refine blk_far ?_ NB945_958.out _; (with_reducible repeat (first | refine blk_drewN ?_ _ | refine blk_drew ?_ | refine blk_alloc ?_ _)); refine blk_far ?_ NB945_958.out _; (with_reducible repeat (first | refine blk_drewN ?_ _ | refine blk_drew ?_ | refine blk_alloc ?_ _)); refine blk_far ?_ NB945_958.out _; (with_reducible repeat (first | refine blk_drewN ?_ _ | refine blk_drew ?_ | refine blk_alloc ?_ _)); refine blk_far ?_ NB945_958.out _; (with_reducible repeat (first | refine blk_drewN ?_ _ | refine blk_drew ?_ | refine blk_alloc ?_ _)); exact BK945.out) hb); have n11_ := Aside0.mk (blk_below (g := gb958) (o := .cells #[.int .i64 t946, .int .i64 t947, .string t948, .int .i64 t949, .bool t950, .slice Ao41 t951.length co41, .slice Ao42 t954.length co42] 29 (0, 0)) (by (with_reducible repeat (first | refine blk_drewN ?_ _ | refine blk_drew ?_ | refine blk_alloc ?_ _)); refine blk_put (cs := #[.int .i64 t946, .int .i64 t947, .string t948, .int .i64 t949, .bool t950, .slice Ao41 t951.length co41, .slice none 0 0]) ?_ 6 _ rfl; (with_reducible repeat (first | refine blk_drewN ?_ _ | refine blk_drew ?_ | refine blk_alloc ?_ _)); refine blk_put (cs := #[.int .i64 t946, .int .i64 t947, .string t948, .int .i64 t949, .bool t950, .slice none 0 0, .slice none 0 0]) ?_ 5 _ rfl; (with_reducible repeat (first | refine blk_drewN ?_ _ | refine blk_drew ?_ | refine blk_alloc ?_ _)); refine blk_put (cs := #[.int .i64 t946, .int .i64 t947, .string t948, .int .i64 t949, .bool false, .slice none 0 0, .slice none 0 0]) ?_ 4 _ rfl; (with_reducible repeat (first | refine blk_drewN ?_ _ | refine blk_drew ?_ | refine blk_alloc ?_ _)); refine blk_put (cs := #[.int .i64 t946, .int .i64 t947, .string t948, .int .i64 0, .bool false, .slice none 0 0, .slice none 0 0]) ?_ 3 _ rfl; (with_reducible repeat (first | refine blk_drewN ?_ _ | refine blk_drew ?_ | refine blk_alloc ?_ _)); refine blk_put (cs := #[.int .i64 t946, .int .i64 t947, .string (⟨#[]⟩ : ByteArray), .int .i64 0, .bool false, .slice none 0 0, .slice none 0 0]) ?_ 2 _ rfl; (with_reducible repeat (first | refine blk_drewN ?_ _ | refine blk_drew ?_ | refine blk_alloc ?_ _)); refine blk_put (cs := #[.int .i64 t946, .int .i64 0, .string (⟨#[]⟩ : ByteArray), .int .i64 0, .bool false, .slice none 0 0, .slice none 0 0]) ?_ 1 _ rfl; (with_reducible repeat (first | refine blk_drewN ?_ _ | refine blk_drew ?_ | refine blk_alloc ?_ _)); refine blk_put (cs := #[.int .i64 0, .int .i64 0, .string (⟨#[]⟩ : ByteArray), .int .i64 0, .bool false, .slice none 0 0, .slice none 0 0]) ?_ 0 _ rfl; (with_reducible repeat (first | refine blk_drewN ?_ _ | refine blk_drew ?_ | refine blk_alloc ?_ _)); exact BK958.out) hb); have n12_ := Aside0.mk (below_step (by repeat (first | (with_reducible first | exact HB.out | apply below_alloc | apply pw_below_drewN | apply below_drew1 | refine below_set ?_ GE908.out | refine below_set ?_ GE933.out | refine below_set ?_ GE945.out | refine below_set ?_ GE958.out) | exact HB.out)) hb); clear HO917 HO920 HO928 HO931 HO941 HO944 HO953 HO956 BK908 BK933 BK945 BK958 HB; have HO917 := n0_; have HO920 := n1_; have HO928 := n2_; have HO931 := n3_; have HO941 := n4_; have HO944 := n5_; have HO953 := n6_; have HO956 := n7_; have BK908 := n8_; have BK933 := n9_; have BK945 := n10_; have BK958 := n11_; have HB := n12_; clear n0_ n1_ n2_ n3_ n4_ n5_ n6_ n7_ n8_ n9_ n10_ n11_ n12_; (try clear hb); (try clear hb2); (try clear hk); (try clear hi)))
        go_meet
        case rel => exact ⟨_, ((t957 != t932)), (by first | rfl | (simp; done) | (simp [*]; done)), H', ⟨by first | omega | exact Nat.le_refl _⟩, ⟨by (with_reducible repeat (first | apply Kd.R_alloc | apply Kd.R_drewN | apply Kd.R_drew)); exact Kd.R_mono HO928.out (fun _ hk => ⟨hk.1.1.1.1.1.1, ⟨hk.1.1.1.2, ⟨hk.1.1.2, ⟨hk.1.2, hk.2⟩⟩⟩⟩)⟩, ⟨by (with_reducible repeat (first | apply Kd.R_alloc | apply Kd.R_drewN | apply Kd.R_drew)); exact Kd.R_mono HO931.out (fun _ hk => ⟨hk.1.1.1.1.1.1, ⟨hk.1.1.1.2, ⟨hk.1.1.2, ⟨hk.1.2, hk.2⟩⟩⟩⟩)⟩, ⟨by (with_reducible repeat (first | apply Kd.R_alloc | apply Kd.R_drewN | apply Kd.R_drew)); exact Kd.R_mono HO941.out (fun _ hk => ⟨hk.1.1.1.2, ⟨hk.1.1.2, ⟨hk.1.1.1.1.1.1, ⟨hk.1.2, hk.2⟩⟩⟩⟩)⟩, ⟨by (with_reducible repeat (first | apply Kd.R_alloc | apply Kd.R_drewN | apply Kd.R_drew)); exact Kd.R_mono HO944.out (fun _ hk => ⟨hk.1.1.1.2, ⟨hk.1.1.2, ⟨hk.1.1.1.1.1.1, ⟨hk.1.2, hk.2⟩⟩⟩⟩)⟩, ⟨by (with_reducible repeat (first | apply Kd.R_alloc | apply Kd.R_drewN | apply Kd.R_drew)); exact Kd.R_mono HO953.out (fun _ hk => ⟨hk.1.1.1.2, ⟨hk.1.1.2, ⟨hk.1.2, ⟨hk.2, hk.1.1.1.1.1.1⟩⟩⟩⟩)⟩, ⟨by (with_reducible repeat (first | apply Kd.R_alloc | apply Kd.R_drewN | apply Kd.R_drew)); exact Kd.R_mono HO956.out (fun _ hk => ⟨hk.1.1.1.2, ⟨hk.1.1.2, ⟨hk.1.2, ⟨hk.2, hk.1.1.1.1.1.1⟩⟩⟩⟩)⟩, ⟨pkK BK908.out⟩, ⟨pkK BK933.out⟩, ⟨pkK BK945.out⟩, ⟨pkK BK958.out⟩, ⟨by repeat (first | (with_reducible first | exact HB.out | apply below_alloc | apply pw_below_drewN | apply below_drew1 | refine below_set ?_ GE908.out | refine below_set ?_ GE933.out | refine below_set ?_ GE945.out | refine below_set ?_ GE958.out) | exact HB.out)⟩⟩
      · replace c44 := Bool.eq_false_iff.mpr c44
        subst c44
        have H1 : (laws_FnExactWatch.j0 k a1 a2 t932 t957 true a0_0 a0_1 a0_2 a0_3 a0_4 l0_5 l0_6 t921 t922 t923 t924 t925 t926 t929 t934 t935 t936 t937 t938 t939 t942 t946 t947 t948 t949 t950 t951 t954) = some r := by rw [if_neg (show ¬ (false = true) by decide)] at H; exact H
        clear H
        have H := H1
        clear H1
        cases k with
        | zero => exact absurd H (by simp [laws_FnExactWatch.j0])
        | succ k_ => (simp only [laws_FnExactWatch.j0, if_pos] at H; exact absurd (Option.some.inj H) (by rw [HQ_.out]; simp))
    case rest =>
      clear HC13
      try clear c1
      try clear c2
      try clear p2
      try clear c3
      try clear c4
      try clear c5
      try clear c5b0
      try clear c12
      try clear c20
      try clear c23
      try clear c30
      try clear c31
      try clear c32
      try clear c34
      try clear c37
      try clear c38
      try clear c39
      try clear c44
      try clear c45
      try clear c46
      try clear c47
      try clear c49
      try clear c50
      try clear hcz15_0
      try clear hcz15_1
      try clear hcz15_2
      try clear hcz15_3
      try clear hcz15_4
      try clear hcz15_5
      try clear hcz15_6
      try clear hcz17_0
      try clear hcz17_1
      try clear hcz17_2
      try clear hcz17_3
      try clear hcz17_4
      try clear hcz17_5
      try clear hcz17_6
      try clear hcz24_0
      try clear hcz24_1
      try clear hcz24_2
      try clear hcz24_3
      try clear hcz24_4
      try clear hcz24_5
      try clear hcz24_6
      try clear hcz27_0
      try clear hcz27_1
      try clear hcz27_2
      try clear hcz27_3
      try clear hcz27_4
      try clear hcz27_5
      try clear hcz27_6
      try clear hcz32_0
      try clear hcz32_1
      try clear hcz32_2
      try clear hcz32_3
      try clear hcz32_4
      try clear hcz32_5
      try clear hcz32_6
      try clear hcz40_0
      try clear hcz40_1
      try clear hcz40_2
      try clear hcz40_3
      try clear hcz40_4
      try clear hcz40_5
      try clear hcz40_6
      try clear hcz48_0
      try clear hcz48_1
      try clear hcz48_2
      try clear hcz48_3
      try clear hcz48_4
      try clear hcz48_5
      try clear hcz48_6
      try clear hcz51_0
      try clear hcz51_1
      try clear hcz51_2
      try clear hcz51_3
      try clear hcz51_4
      try clear hcz51_5
      try clear hcz51_6
      try clear hcz7_0
      try clear hcz7_1
      try clear hcz7_2
      try clear hcz7_3
      try clear hcz7_4
      try clear hcz7_5
      try clear hcz7_6
      try clear hfz15_0
      try clear hfz15_1
      try clear hfz15_2
      try clear hfz15_3
      try clear hfz15_4
      try clear hfz15_5
      try clear hfz15_6
      try clear hfz17_0
      try clear hfz17_1
      try clear hfz17_2
      try clear hfz17_3
      try clear hfz17_4
      try clear hfz17_5
      try clear hfz17_6
      try clear hfz24_0
      try clear hfz24_1
      try clear hfz24_2
      try clear hfz24_3
      try clear hfz24_4
      try clear hfz24_5
      try clear hfz24_6
      try clear hfz27_0
      try clear hfz27_1
      try clear hfz27_2
      try clear hfz27_3
      try clear hfz27_4
      try clear hfz27_5
      try clear hfz27_6
      try clear hfz32_0
      try clear hfz32_1
      try clear hfz32_2
      try clear hfz32_3
      try clear hfz32_4
      try clear hfz32_5
      try clear hfz32_6
      try clear hfz40_0
      try clear hfz40_1
      try clear hfz40_2
      try clear hfz40_3
      try clear hfz40_4
      try clear hfz40_5
      try clear hfz40_6
      try clear hfz48_0
      try clear hfz48_1
      try clear hfz48_2
      try clear hfz48_3
      try clear hfz48_4
      try clear hfz48_5
      try clear hfz48_6
      try clear hfz51_0
      try clear hfz51_1
      try clear hfz51_2
      try clear hfz51_3
      try clear hfz51_4
      try clear hfz51_5
      try clear hfz51_6
      try clear hfz7_0
      try clear hfz7_1
      try clear hfz7_2
      try clear hfz7_3
      try clear hfz7_4
      try clear hfz7_5
      try clear hfz7_6
      obtain ⟨kq, x48_12, rfl, HA, HJ12, HO_934005, HO_934006, HO_946005, HO_946006, HO_959005, HO_959006, BK908, BK933, BK945, BK958, HB⟩ := hcut
      cases kq with
      | zero => exact absurd HA.out (by simp [laws_FnExactWatch.j0])
      | succ kj12 =>
        have H := HA.out
        clear HA
        simp only [laws_FnExactWatch.j0] at H
        by_cases c53 : x48_12 = true
        · subst c53
          have H1 : (some false) = some r := by rw [if_pos rfl] at H; exact H
          clear H
          have H := H1
          clear H1
          exact absurd (Option.some.inj H) (by rw [HQ_.out]; simp)
        · replace c53 := Bool.eq_false_iff.mpr c53
          subst c53
          have H1 : ((laws_toCell.f kj12 a0_0 a0_1 a0_2 a0_3 a0_4 l0_5 l0_6).bind fun bt960 => ((laws_eqCell.f kj12 t934 t935 t936 t937 t938 t939 t942 bt960.1 bt960.2.1 bt960.2.2.1 bt960.2.2.2.1 bt960.2.2.2.2.1 bt960.2.2.2.2.2.1 bt960.2.2.2.2.2.2).bind fun t971 => (if t971 = true then ((laws_markCell.f kj12 t934 t935 t936 t937 t938 t939 t942 1).bind fun bt972 => (if bt972.1 < 0 then (laws_FnExactWatch.j1 kj12 a1 a2 t932 true a0_0 a0_1 a0_2 a0_3 a0_4 l0_5 l0_6 t921 t922 t923 t924 t925 t926 t929 t946 t947 t948 t949 t950 t951 t954) else ((laws_eqCell.f kj12 t946 t947 t948 t949 t950 t951 t954 t921 t922 t923 t924 t925 t926 t929).bind fun t975 => (if t975 = true then (laws_FnExactWatch.j1 kj12 a1 a2 t932 (t957 != t932) a0_0 a0_1 a0_2 a0_3 a0_4 l0_5 l0_6 t921 t922 t923 t924 t925 t926 t929 t946 t947 t948 t949 t950 t951 t954) else (laws_FnExactWatch.j1 kj12 a1 a2 t932 true a0_0 a0_1 a0_2 a0_3 a0_4 l0_5 l0_6 t921 t922 t923 t924 t925 t926 t929 t946 t947 t948 t949 t950 t951 t954))))) else (some false)))) = some r := by rw [if_neg (show ¬ (false = true) by decide)] at H; exact H
          clear H
          have H := H1
          clear H1
          replace H := Option.bind_eq_some_iff.mp H
          obtain ⟨⟨t960, t961, t962, t963, t964, t965, t968⟩, A540, H⟩ := H
          replace H : ((laws_eqCell.f kj12 t934 t935 t936 t937 t938 t939 t942 t960 t961 t962 t963 t964 t965 t968).bind fun t971 => (if t971 = true then ((laws_markCell.f kj12 t934 t935 t936 t937 t938 t939 t942 1).bind fun bt972 => (if bt972.1 < 0 then (laws_FnExactWatch.j1 kj12 a1 a2 t932 true a0_0 a0_1 a0_2 a0_3 a0_4 l0_5 l0_6 t921 t922 t923 t924 t925 t926 t929 t946 t947 t948 t949 t950 t951 t954) else ((laws_eqCell.f kj12 t946 t947 t948 t949 t950 t951 t954 t921 t922 t923 t924 t925 t926 t929).bind fun t975 => (if t975 = true then (laws_FnExactWatch.j1 kj12 a1 a2 t932 (t957 != t932) a0_0 a0_1 a0_2 a0_3 a0_4 l0_5 l0_6 t921 t922 t923 t924 t925 t926 t929 t946 t947 t948 t949 t950 t951 t954) else (laws_FnExactWatch.j1 kj12 a1 a2 t932 true a0_0 a0_1 a0_2 a0_3 a0_4 l0_5 l0_6 t921 t922 t923 t924 t925 t926 t929 t946 t947 t948 t949 t950 t951 t954))))) else (some false))) = some r := H
          have A54 := Aside0.mk A540
          clear A540
          replace H := Option.bind_eq_some_iff.mp H
          obtain ⟨t971, A550, H⟩ := H
          replace H : (if t971 = true then ((laws_markCell.f kj12 t934 t935 t936 t937 t938 t939 t942 1).bind fun bt972 => (if bt972.1 < 0 then (laws_FnExactWatch.j1 kj12 a1 a2 t932 true a0_0 a0_1 a0_2 a0_3 a0_4 l0_5 l0_6 t921 t922 t923 t924 t925 t926 t929 t946 t947 t948 t949 t950 t951 t954) else ((laws_eqCell.f kj12 t946 t947 t948 t949 t950 t951 t954 t921 t922 t923 t924 t925 t926 t929).bind fun t975 => (if t975 = true then (laws_FnExactWatch.j1 kj12 a1 a2 t932 (t957 != t932) a0_0 a0_1 a0_2 a0_3 a0_4 l0_5 l0_6 t921 t922 t923 t924 t925 t926 t929 t946 t947 t948 t949 t950 t951 t954) else (laws_FnExactWatch.j1 kj12 a1 a2 t932 true a0_0 a0_1 a0_2 a0_3 a0_4 l0_5 l0_6 t921 t922 t923 t924 t925 t926 t929 t946 t947 t948 t949 t950 t951 t954))))) else (some false)) = some r := H
          have A55 := Aside0.mk A550
          clear A550
          by_cases c56 : t971 = true
          · subst c56
            have H1 : ((laws_markCell.f kj12 t934 t935 t936 t937 t938 t939 t942 1).bind fun bt972 => (if bt972.1 < 0 then (laws_FnExactWatch.j1 kj12 a1 a2 t932 true a0_0 a0_1 a0_2 a0_3 a0_4 l0_5 l0_6 t921 t922 t923 t924 t925 t926 t929 t946 t947 t948 t949 t950 t951 t954) else ((laws_eqCell.f kj12 t946 t947 t948 t949 t950 t951 t954 t921 t922 t923 t924 t925 t926 t929).bind fun t975 => (if t975 = true then (laws_FnExactWatch.j1 kj12 a1 a2 t932 (t957 != t932) a0_0 a0_1 a0_2 a0_3 a0_4 l0_5 l0_6 t921 t922 t923 t924 t925 t926 t929 t946 t947 t948 t949 t950 t951 t954) else (laws_FnExactWatch.j1 kj12 a1 a2 t932 true a0_0 a0_1 a0_2 a0_3 a0_4 l0_5 l0_6 t921 t922 t923 t924 t925 t926 t929 t946 t947 t948 t949 t950 t951 t954))))) = some r := by rw [if_pos rfl] at H; exact H
            clear H
            have H := H1
            clear H1
            replace H := Option.bind_eq_some_iff.mp H
            obtain ⟨⟨t972, t973, t974⟩, A570, H⟩ := H
            replace H : (if t972 < 0 then (laws_FnExactWatch.j1 kj12 a1 a2 t932 true a0_0 a0_1 a0_2 a0_3 a0_4 l0_5 l0_6 t921 t922 t923 t924 t925 t926 t929 t946 t947 t948 t949 t950 t951 t954) else ((laws_eqCell.f kj12 t946 t947 t948 t949 t950 t951 t954 t921 t922 t923 t924 t925 t926 t929).bind fun t975 => (if t975 = true then (laws_FnExactWatch.j1 kj12 a1 a2 t932 (t957 != t932) a0_0 a0_1 a0_2 a0_3 a0_4 l0_5 l0_6 t921 t922 t923 t924 t925 t926 t929 t946 t947 t948 t949 t950 t951 t954) else (laws_FnExactWatch.j1 kj12 a1 a2 t932 true a0_0 a0_1 a0_2 a0_3 a0_4 l0_5 l0_6 t921 t922 t923 t924 t925 t926 t929 t946 t947 t948 t949 t950 t951 t954)))) = some r := H
            have A57 := Aside0.mk A570
            clear A570
            have HC58 := Aside0.mk H
            clear H
            try go_wp2
            have n0_ := Aside0.mk (Kd.R_drew HO_934005.out)
            have n1_ := Aside0.mk (Kd.R_drew HO_934006.out)
            have n2_ := Aside0.mk (Kd.R_drew HO_946005.out)
            have n3_ := Aside0.mk (Kd.R_drew HO_946006.out)
            have n4_ := Aside0.mk (Kd.R_drew HO_959005.out)
            have n5_ := Aside0.mk (Kd.R_drew HO_959006.out)
            have n6_ := Aside0.mk (blk_drew BK908.out)
            have n7_ := Aside0.mk (blk_drew BK933.out)
            have n8_ := Aside0.mk (blk_drew BK945.out)
            have n9_ := Aside0.mk (blk_drew BK958.out)
            have n10_ := Aside0.mk (below_drew1 HB.out)
            clear HO_934005 HO_934006 HO_946005 HO_946006 HO_959005 HO_959006 BK908 BK933 BK945 BK958 HB
            have HO_934005 := n0_; have HO_934006 := n1_; have HO_946005 := n2_; have HO_946006 := n3_; have HO_959005 := n4_; have HO_959006 := n5_; have BK908 := n6_; have BK933 := n7_; have BK945 := n8_; have BK958 := n9_; have HB := n10_
            clear n0_ n1_ n2_ n3_ n4_ n5_ n6_ n7_ n8_ n9_ n10_
            refine start_ (n := 5) (S := fun w' => w'.cell? ⟨gb945, 0, none⟩ = some (.int .i64 t934) ∧ w'.cell? ⟨gb945, 1, none⟩ = some (.int .i64 t935) ∧ w'.cell? ⟨gb945, 2, none⟩ = some (.string t936) ∧ w'.cell? ⟨gb945, 3, none⟩ = some (.int .i64 t937) ∧ w'.cell? ⟨gb945, 4, none⟩ = some (.bool t938) ∧ w'.cell? ⟨gb945, 5, none⟩ = some (.slice Ao33 t939.length co33) ∧ w'.cell? ⟨gb945, 6, none⟩ = some (.slice Ao34 t942.length co34) ∧ w'.cell? ⟨gb908, 0, none⟩ = some (.int .i64 a0_0) ∧ w'.cell? ⟨gb908, 1, none⟩ = some (.int .i64 a0_1) ∧ w'.cell? ⟨gb908, 2, none⟩ = some (.string a0_2) ∧ w'.cell? ⟨gb908, 3, none⟩ = some (.int .i64 a0_3) ∧ w'.cell? ⟨gb908, 4, none⟩ = some (.bool a0_4) ∧ w'.cell? ⟨gb908, 5, none⟩ = some (.slice A0_5 l0_5.length c0_5) ∧ w'.cell? ⟨gb908, 6, none⟩ = some (.slice A0_6 l0_6.length c0_6)) (ds := []) #[false, false, false, false, false] (by kernel_rfl) rfl rfl ⟨(blk_cell BK945.out 0).trans rfl, (blk_cell BK945.out 1).trans rfl, (blk_cell BK945.out 2).trans rfl, (blk_cell BK945.out 3).trans rfl, (blk_cell BK945.out 4).trans rfl, (blk_cell BK945.out 5).trans rfl, (blk_cell BK945.out 6).trans rfl, (blk_cell BK908.out 0).trans rfl, (blk_cell BK908.out 1).trans rfl, (blk_cell BK908.out 2).trans rfl, (blk_cell BK908.out 3).trans rfl, (blk_cell BK908.out 4).trans rfl, (blk_cell BK908.out 5).trans rfl, (blk_cell BK908.out 6).trans rfl⟩ (fun hHeld => ?_)
            generalize wc.drew = w59 at HO_934005 HO_934006 HO_946005 HO_946006 HO_959005 HO_959006 BK908 BK933 BK945 BK958 HB hHeld ⊢
            refine take_ (i := 0) (N := some 49) (v := ?_) (a' := ?_) #[true, false, false, false, false] rfl rfl (by kernel_rfl) (fun _ _ _ h => h) (Or.inl ⟨by rfl, ?_⟩) hHeld ?_ ?_
            rotate_left
            · rintro w' ⟨s0, s1, s2, s3, s4, s5, s6, s7, s8, s9, s10, s11, s12, s13⟩
              go_simp
              with_reducible rfl
            rotate_left
            · simp only [Act.put, List.setIfInBounds_toArray, List.set_cons_zero, List.set_cons_succ, i64_w, i32_w]
              rfl
            refine take_ (i := 1) (N := some 50) (v := ?_) (a' := ?_) #[true, true, false, false, false] rfl rfl (by kernel_rfl) (fun _ _ _ h => h) (Or.inl ⟨by rfl, ?_⟩) hHeld ?_ ?_
            rotate_left
            · rintro w' ⟨s0, s1, s2, s3, s4, s5, s6, s7, s8, s9, s10, s11, s12, s13⟩
              go_simp
              with_reducible rfl
            rotate_left
            · simp only [Act.put, List.setIfInBounds_toArray, List.set_cons_zero, List.set_cons_succ, i64_w, i32_w]
              rfl
            refine one_ (i := 2) (N := some 51) #[true, true, true, false, false] rfl rfl (by kernel_rfl) (by decide) (fun K hK => ?_)
            refine goes_ Try.func32 (by kernel_rfl) rfl #[.agg #[.int .i64 a0_0, .int .i64 a0_1, .string a0_2, .int .i64 a0_3, .bool a0_4, .slice A0_5 l0_5.length c0_5, .slice A0_6 l0_6.length c0_6]] (by rfl) rfl rfl (by (try simp only [List.map_toArray, List.map_cons, List.map_nil]); first | done | rfl | (simp only [List.length_drop, List.length_take]; rfl) | (go_simp; done) | (simp [*]; done)) ?_
            with_reducible refine (laws_toCell.calls kj12 a0_0 a0_1 a0_2 a0_3 a0_4 _ _ l0_5 _ _ l0_6 t960 t961 t962 t963 t964 t965 t968 _ ?side1 ?side2 ?side3 ?side4 A54.out).mono ?_
            (case side1 => exact pkC (Kd.C_below HR0_5.out HB.out))
            (case side2 => exact HC0_5.out)
            (case side3 => exact pkC (Kd.C_below HR0_6.out HB.out))
            (case side4 => exact HC0_6.out)
            rintro e w60 ⟨v966, v969, rfl, ho0, ho1, hb⟩
            refine ⟨_, rfl, ?_⟩
            have n0_ := Aside0.mk (Kd.R_mono (Kd.R_told (Kd.R_told (Kd.R_old (pkR HO_934005.out) hb) (Kd.R_base ho0)) (Kd.R_base ho1)) (fun _ h_ => h_.1))
            have n1_ := Aside0.mk (Kd.R_mono (Kd.R_told (Kd.R_told (Kd.R_old (pkR HO_934006.out) hb) (Kd.R_base ho0)) (Kd.R_base ho1)) (fun _ h_ => h_.1))
            have n2_ := Aside0.mk (Kd.R_mono (Kd.R_told (Kd.R_told (Kd.R_old (pkR HO_946005.out) hb) (Kd.R_base ho0)) (Kd.R_base ho1)) (fun _ h_ => h_.1))
            have n3_ := Aside0.mk (Kd.R_mono (Kd.R_told (Kd.R_told (Kd.R_old (pkR HO_946006.out) hb) (Kd.R_base ho0)) (Kd.R_base ho1)) (fun _ h_ => h_.1))
            have n4_ := Aside0.mk (Kd.R_mono (Kd.R_told (Kd.R_told (Kd.R_old (pkR HO_959005.out) hb) (Kd.R_base ho0)) (Kd.R_base ho1)) (fun _ h_ => h_.1))
            have n5_ := Aside0.mk (Kd.R_mono (Kd.R_told (Kd.R_told (Kd.R_old (pkR HO_959006.out) hb) (Kd.R_base ho0)) (Kd.R_base ho1)) (fun _ h_ => h_.1))
            have n6_ := Aside0.mk (Kd.R_lower (Kd.R_new' (Kd.R_new' (Kd.R_new' (Kd.R_new' (Kd.R_new' (Kd.R_new' ho0 (Kd.R_lt (pkR HO_934005.out))) (Kd.R_lt (pkR HO_934006.out))) (Kd.R_lt (pkR HO_946005.out))) (Kd.R_lt (pkR HO_946006.out))) (Kd.R_lt (pkR HO_959005.out))) (Kd.R_lt (pkR HO_959006.out))) (below_size (by repeat (first | (with_reducible first | exact HB.out | apply below_alloc | apply pw_below_drewN | apply below_drew1 | refine below_set ?_ GE908.out | refine below_set ?_ GE933.out | refine below_set ?_ GE945.out | refine below_set ?_ GE958.out) | exact HB.out))))
            have n7_ := Aside0.mk (Kd.R_lower (Kd.R_new' (Kd.R_new' (Kd.R_new' (Kd.R_new' (Kd.R_new' (Kd.R_new' ho1 (Kd.R_lt (pkR HO_934005.out))) (Kd.R_lt (pkR HO_934006.out))) (Kd.R_lt (pkR HO_946005.out))) (Kd.R_lt (pkR HO_946006.out))) (Kd.R_lt (pkR HO_959005.out))) (Kd.R_lt (pkR HO_959006.out))) (below_size (by repeat (first | (with_reducible first | exact HB.out | apply below_alloc | apply pw_below_drewN | apply below_drew1 | refine below_set ?_ GE908.out | refine below_set ?_ GE933.out | refine below_set ?_ GE945.out | refine below_set ?_ GE958.out) | exact HB.out))))
            have n8_ := Aside0.mk (blk_below (g := gb908) (o := .cells #[.int .i64 a0_0, .int .i64 a0_1, .string a0_2, .int .i64 a0_3, .bool a0_4, .slice A0_5 l0_5.length c0_5, .slice A0_6 l0_6.length c0_6] 56 (0, 0)) (pkK BK908.out) hb)
            have n9_ := Aside0.mk (blk_below (g := gb933) (o := .cells #[.int .i64 t921, .int .i64 t922, .string t923, .int .i64 t924, .bool t925, .slice Ao25 t926.length co25, .slice Ao26 t929.length co26] 29 (0, 0)) (pkK BK933.out) hb)
            have n10_ := Aside0.mk (blk_below (g := gb945) (o := .cells #[.int .i64 t934, .int .i64 t935, .string t936, .int .i64 t937, .bool t938, .slice Ao33 t939.length co33, .slice Ao34 t942.length co34] 29 (0, 0)) (pkK BK945.out) hb)
            have n11_ := Aside0.mk (blk_below (g := gb958) (o := .cells #[.int .i64 t946, .int .i64 t947, .string t948, .int .i64 t949, .bool t950, .slice Ao41 t951.length co41, .slice Ao42 t954.length co42] 29 (0, 0)) (pkK BK958.out) hb)
            have n12_ := Aside0.mk (below_step (by repeat (first | (with_reducible first | exact HB.out | apply below_alloc | apply pw_below_drewN | apply below_drew1 | refine below_set ?_ GE908.out | refine below_set ?_ GE933.out | refine below_set ?_ GE945.out | refine below_set ?_ GE958.out) | exact HB.out)) hb)
            clear HO_934005 HO_934006 HO_946005 HO_946006 HO_959005 HO_959006 BK908 BK933 BK945 BK958 HB
            have HO_934005 := n0_; have HO_934006 := n1_; have HO_946005 := n2_; have HO_946006 := n3_; have HO_959005 := n4_; have HO_959006 := n5_; have HO967 := n6_; have HO970 := n7_; have BK908 := n8_; have BK933 := n9_; have BK945 := n10_; have BK958 := n11_; have HB := n12_
            clear n0_ n1_ n2_ n3_ n4_ n5_ n6_ n7_ n8_ n9_ n10_ n11_ n12_
            (try clear hb); (try clear hb2); (try clear hk); (try clear hi); (try clear ho0); (try clear ho1)
            obtain ⟨Ao61, co61, eo61⟩ := Kd.R_slice HO967.out
            (first | subst eo61 | (injection eo61 with f1_ f2_ f3_; have f4_ := f1_.symm; have f5_ := f3_.symm; clear f1_ f2_ f3_; subst f4_; subst f5_))
            obtain ⟨Ao62, co62, eo62⟩ := Kd.R_slice HO970.out
            (first | subst eo62 | (injection eo62 with f1_ f2_ f3_; have f4_ := f1_.symm; have f5_ := f3_.symm; clear f1_ f2_ f3_; subst f4_; subst f5_))
            refine hK.out _ _ ⟨(blk_cell BK945.out 0).trans rfl, (blk_cell BK945.out 1).trans rfl, (blk_cell BK945.out 2).trans rfl, (blk_cell BK945.out 3).trans rfl, (blk_cell BK945.out 4).trans rfl, (blk_cell BK945.out 5).trans rfl, (blk_cell BK945.out 6).trans rfl, (blk_cell BK908.out 0).trans rfl, (blk_cell BK908.out 1).trans rfl, (blk_cell BK908.out 2).trans rfl, (blk_cell BK908.out 3).trans rfl, (blk_cell BK908.out 4).trans rfl, (blk_cell BK908.out 5).trans rfl, (blk_cell BK908.out 6).trans rfl⟩ (fun hHeld => ?_)
            clear hK K
            refine norm_ (a' := ?_) ?_ ?_
            rotate_left
            · show Act.put _ (some 51) _ = _
              simp only [Act.put, List.setIfInBounds_toArray, List.set_cons_zero, List.set_cons_succ, i64_w, i32_w]
              rfl
            refine one_ (i := 3) (N := some 52) #[true, true, true, true, false] rfl rfl (by kernel_rfl) (by decide) (fun K hK => ?_)
            refine goes_ Try.func34 (by kernel_rfl) rfl #[.agg #[.int .i64 t934, .int .i64 t935, .string t936, .int .i64 t937, .bool t938, .slice Ao33 t939.length co33, .slice Ao34 t942.length co34], .agg #[.int .i64 t960, .int .i64 t961, .string t962, .int .i64 t963, .bool t964, .slice Ao61 t965.length co61, .slice Ao62 t968.length co62]] (by rfl) rfl rfl (by (try simp only [List.map_toArray, List.map_cons, List.map_nil]); first | done | rfl | (simp only [List.length_drop, List.length_take]; rfl) | (go_simp; done) | (simp [*]; done)) ?_
            with_reducible refine (laws_eqCell.calls kj12 t934 t935 t936 t937 t938 _ _ t939 _ _ t942 t960 t961 t962 t963 t964 _ _ t965 _ _ t968 true _ ?side1 ?side2 ?side3 ?side4 ?side5 ?side6 ?side7 ?side8 A55.out).mono ?_
            (case side1 => exact pkC (Kd.R_reads' HO_946005.out).2.2)
            (case side2 => exact (Kd.R_reads' HO_946005.out).2.1)
            (case side3 => exact pkC (Kd.R_reads' HO_946006.out).2.2)
            (case side4 => exact (Kd.R_reads' HO_946006.out).2.1)
            (case side5 => exact pkC (Kd.R_reads' HO967.out).2.2)
            (case side6 => exact (Kd.R_reads' HO967.out).2.1)
            (case side7 => exact pkC (Kd.R_reads' HO970.out).2.2)
            (case side8 => exact (Kd.R_reads' HO970.out).2.1)
            rintro e w63 ⟨rfl, hb⟩
            refine ⟨_, rfl, ?_⟩
            have n0_ := Aside0.mk (Kd.R_below (pkR HO_934005.out) hb)
            have n1_ := Aside0.mk (Kd.R_below (pkR HO_934006.out) hb)
            have n2_ := Aside0.mk (Kd.R_below (pkR HO_946005.out) hb)
            have n3_ := Aside0.mk (Kd.R_below (pkR HO_946006.out) hb)
            have n4_ := Aside0.mk (Kd.R_below (pkR HO_959005.out) hb)
            have n5_ := Aside0.mk (Kd.R_below (pkR HO_959006.out) hb)
            have n6_ := Aside0.mk (Kd.R_below (pkR HO967.out) hb)
            have n7_ := Aside0.mk (Kd.R_below (pkR HO970.out) hb)
            have n8_ := Aside0.mk (blk_below (g := gb908) (o := .cells #[.int .i64 a0_0, .int .i64 a0_1, .string a0_2, .int .i64 a0_3, .bool a0_4, .slice A0_5 l0_5.length c0_5, .slice A0_6 l0_6.length c0_6] 56 (0, 0)) (pkK BK908.out) hb)
            have n9_ := Aside0.mk (blk_below (g := gb933) (o := .cells #[.int .i64 t921, .int .i64 t922, .string t923, .int .i64 t924, .bool t925, .slice Ao25 t926.length co25, .slice Ao26 t929.length co26] 29 (0, 0)) (pkK BK933.out) hb)
            have n10_ := Aside0.mk (blk_below (g := gb945) (o := .cells #[.int .i64 t934, .int .i64 t935, .string t936, .int .i64 t937, .bool t938, .slice Ao33 t939.length co33, .slice Ao34 t942.length co34] 29 (0, 0)) (pkK BK945.out) hb)
            have n11_ := Aside0.mk (blk_below (g := gb958) (o := .cells #[.int .i64 t946, .int .i64 t947, .string t948, .int .i64 t949, .bool t950, .slice Ao41 t951.length co41, .slice Ao42 t954.length co42] 29 (0, 0)) (pkK BK958.out) hb)
            have n12_ := Aside0.mk (below_step (by repeat (first | (with_reducible first | exact HB.out | apply below_alloc | apply pw_below_drewN | apply below_drew1 | refine below_set ?_ GE908.out | refine below_set ?_ GE933.out | refine below_set ?_ GE945.out | refine below_set ?_ GE958.out) | exact HB.out)) hb)
            clear HO_934005 HO_934006 HO_946005 HO_946006 HO_959005 HO_959006 HO967 HO970 BK908 BK933 BK945 BK958 HB
            have HO_934005 := n0_; have HO_934006 := n1_; have HO_946005 := n2_; have HO_946006 := n3_; have HO_959005 := n4_; have HO_959006 := n5_; have HO967 := n6_; have HO970 := n7_; have BK908 := n8_; have BK933 := n9_; have BK945 := n10_; have BK958 := n11_; have HB := n12_
            clear n0_ n1_ n2_ n3_ n4_ n5_ n6_ n7_ n8_ n9_ n10_ n11_ n12_
            (try clear hb); (try clear hb2); (try clear hk); (try clear hi)
            refine hK.out _ _ ⟨(blk_cell BK945.out 0).trans rfl, (blk_cell BK945.out 1).trans rfl, (blk_cell BK945.out 2).trans rfl, (blk_cell BK945.out 3).trans rfl, (blk_cell BK945.out 4).trans rfl, (blk_cell BK945.out 5).trans rfl, (blk_cell BK945.out 6).trans rfl, (blk_cell BK908.out 0).trans rfl, (blk_cell BK908.out 1).trans rfl, (blk_cell BK908.out 2).trans rfl, (blk_cell BK908.out 3).trans rfl, (blk_cell BK908.out 4).trans rfl, (blk_cell BK908.out 5).trans rfl, (blk_cell BK908.out 6).trans rfl⟩ (fun hHeld => ?_)
            clear hK K
            refine norm_ (a' := ?_) ?_ ?_
            rotate_left
            · show Act.put _ (some 52) _ = _
              simp only [Act.put, List.setIfInBounds_toArray, List.set_cons_zero, List.set_cons_succ, i64_w, i32_w]
              rfl
            refine pure_ (i := 4) (N := some 53) (v := ?_) (a' := ?_) #[true, true, true, true, true] rfl rfl (by kernel_rfl) (fun _ _ _ h => h) (Or.inl ⟨by rfl, ?_⟩) ?_ ?_
            rotate_left
            · intro w'
              go_simp
              with_reducible rfl
            rotate_left
            · simp only [Act.put, List.setIfInBounds_toArray, List.set_cons_zero, List.set_cons_succ, i64_w, i32_w]
              rfl
            refine done_ (by kernel_rfl) ?_
            have hnb64 := NB945_908.out
            have hnc64 := NB908_945.out
            have hnb65 := NB945_933.out
            have hnc65 := NB933_945.out
            have hnb66 := NB945_958.out
            have hnc66 := NB958_945.out
            have hcz67_0 : w63.cell? ⟨gb945, 0, none⟩ = some (.int .i64 t934) := (blk_cell BK945.out 0).trans rfl
            have hcz67_1 : w63.cell? ⟨gb945, 1, none⟩ = some (.int .i64 t935) := (blk_cell BK945.out 1).trans rfl
            have hcz67_2 : w63.cell? ⟨gb945, 2, none⟩ = some (.string t936) := (blk_cell BK945.out 2).trans rfl
            have hcz67_3 : w63.cell? ⟨gb945, 3, none⟩ = some (.int .i64 t937) := (blk_cell BK945.out 3).trans rfl
            have hcz67_4 : w63.cell? ⟨gb945, 4, none⟩ = some (.bool t938) := (blk_cell BK945.out 4).trans rfl
            have hcz67_5 : w63.cell? ⟨gb945, 5, none⟩ = some (.slice Ao33 t939.length co33) := (blk_cell BK945.out 5).trans rfl
            have hcz67_6 : w63.cell? ⟨gb945, 6, none⟩ = some (.slice Ao34 t942.length co34) := (blk_cell BK945.out 6).trans rfl
            have hfz67_0 := blk_frozen BK945.out 0
            have hfz67_1 := blk_frozen BK945.out 1
            have hfz67_2 := blk_frozen BK945.out 2
            have hfz67_3 := blk_frozen BK945.out 3
            have hfz67_4 := blk_frozen BK945.out 4
            have hfz67_5 := blk_frozen BK945.out 5
            have hfz67_6 := blk_frozen BK945.out 6
            go_upto_region 14 with (first | ((with_reducible refine gate_callee (f := 48) rfl ?_); refine goesL_ (some 56) rfl rfl Try.func48 (by kernel_rfl) rfl #[.agg #[.int .i64 t934, .int .i64 t935, .string t936, .int .i64 t937, .bool t938, .slice Ao33 t939.length co33, .slice Ao34 t942.length co34], .int .i64 1] rfl (by (try simp only [List.map_toArray, List.map_cons, List.map_nil]); first | done | rfl | (simp only [List.length_drop, List.length_take]; rfl) | (go_simp; done) | (simp [*]; done)) ?_; (with_reducible refine (laws_markCell.calls kj12 t934 t935 t936 t937 t938 (fun k_ => some k_ = (.slice Ao33 t939.length co33 : Value).ownBlock) (.slice Ao33 t939.length co33) t939 (fun k_ => some k_ = (.slice Ao34 t942.length co34 : Value).ownBlock) (.slice Ao34 t942.length co34) t942 1 t972 t973 t974 w _ ?side1 ?side2 ?side3 ?side4 ?side5 A57.out).mono ?_); (case side1 => repeat (first | (with_reducible first | exact HB.out | apply below_alloc | apply pw_below_drewN | apply below_drew1 | refine below_set ?_ GE908.out | refine below_set ?_ GE933.out | refine below_set ?_ GE945.out | refine below_set ?_ GE958.out) | exact HB.out)); (case side2 => exact Kd.R_tight rfl HO_946005.out); (case side3 => exact fun k_ e_ => (HO_946005.out.1 k_ e_.symm).1.1.2.2.1); (case side4 => exact Kd.R_tight rfl HO_946006.out); (case side5 => exact fun k_ e_ => (HO_946006.out.1 k_ e_.symm).1.1.2.2.1); rintro e w68 ⟨rfl, hy0, hy1, hb, hkp⟩; refine ⟨_, rfl, ?_⟩; have n0_ := Aside0.mk (Kd.R_mono (ok' := fun k_ => some k_ ≠ (.slice Ao26 t929.length co26 : Value).ownBlock ∧ some k_ ≠ (.slice Ao33 t939.length co33 : Value).ownBlock ∧ some k_ ≠ (.slice Ao34 t942.length co34 : Value).ownBlock ∧ some k_ ≠ (.slice Ao41 t951.length co41 : Value).ownBlock ∧ some k_ ≠ (.slice Ao42 t954.length co42 : Value).ownBlock ∧ some k_ ≠ (.slice Ao61 t965.length co61 : Value).ownBlock ∧ some k_ ≠ (.slice Ao62 t968.length co62 : Value).ownBlock) (Kd.R_keptB (HO_934005.out) hkp (fun k_ hk_ hs_ => Or.elim hs_ (fun e_ => (hk_.1.1.2.1) e_) (fun e_ => (hk_.1.1.2.2.1) e_))) (fun k_ hk_ => ⟨hk_.1.1.1.1, hk_.1.1.1.2.1, hk_.1.1.1.2.2.1, hk_.1.1.1.2.2.2.1, hk_.1.1.1.2.2.2.2, hk_.1.1.2, hk_.1.2⟩)); have n1_ := Aside0.mk (Kd.R_mono (ok' := fun k_ => some k_ ≠ (.slice Ao25 t926.length co25 : Value).ownBlock ∧ some k_ ≠ (.slice Ao33 t939.length co33 : Value).ownBlock ∧ some k_ ≠ (.slice Ao34 t942.length co34 : Value).ownBlock ∧ some k_ ≠ (.slice Ao41 t951.length co41 : Value).ownBlock ∧ some k_ ≠ (.slice Ao42 t954.length co42 : Value).ownBlock ∧ some k_ ≠ (.slice Ao61 t965.length co61 : Value).ownBlock ∧ some k_ ≠ (.slice Ao62 t968.length co62 : Value).ownBlock) (Kd.R_keptB (HO_934006.out) hkp (fun k_ hk_ hs_ => Or.elim hs_ (fun e_ => (hk_.1.1.2.1) e_) (fun e_ => (hk_.1.1.2.2.1) e_))) (fun k_ hk_ => ⟨hk_.1.1.1.1, hk_.1.1.1.2.1, hk_.1.1.1.2.2.1, hk_.1.1.1.2.2.2.1, hk_.1.1.1.2.2.2.2, hk_.1.1.2, hk_.1.2⟩)); have n2_ := Aside0.mk (Kd.R_reok rfl hy0 (fun k_ e_ => HO_946005.out.1 k_ e_)); have n3_ := Aside0.mk (Kd.R_reok rfl hy1 (fun k_ e_ => HO_946006.out.1 k_ e_)); have n4_ := Aside0.mk (Kd.R_mono (ok' := fun k_ => some k_ ≠ (.slice Ao25 t926.length co25 : Value).ownBlock ∧ some k_ ≠ (.slice Ao26 t929.length co26 : Value).ownBlock ∧ some k_ ≠ (.slice Ao33 t939.length co33 : Value).ownBlock ∧ some k_ ≠ (.slice Ao34 t942.length co34 : Value).ownBlock ∧ some k_ ≠ (.slice Ao42 t954.length co42 : Value).ownBlock ∧ some k_ ≠ (.slice Ao61 t965.length co61 : Value).ownBlock ∧ some k_ ≠ (.slice Ao62 t968.length co62 : Value).ownBlock) (Kd.R_keptB (HO_959005.out) hkp (fun k_ hk_ hs_ => Or.elim hs_ (fun e_ => (hk_.1.1.2.2.1) e_) (fun e_ => (hk_.1.1.2.2.2.1) e_))) (fun k_ hk_ => ⟨hk_.1.1.1.1, hk_.1.1.1.2.1, hk_.1.1.1.2.2.1, hk_.1.1.1.2.2.2.1, hk_.1.1.1.2.2.2.2, hk_.1.1.2, hk_.1.2⟩)); have n5_ := Aside0.mk (Kd.R_mono (ok' := fun k_ => some k_ ≠ (.slice Ao25 t926.length co25 : Value).ownBlock ∧ some k_ ≠ (.slice Ao26 t929.length co26 : Value).ownBlock ∧ some k_ ≠ (.slice Ao33 t939.length co33 : Value).ownBlock ∧ some k_ ≠ (.slice Ao34 t942.length co34 : Value).ownBlock ∧ some k_ ≠ (.slice Ao41 t951.length co41 : Value).ownBlock ∧ some k_ ≠ (.slice Ao61 t965.length co61 : Value).ownBlock ∧ some k_ ≠ (.slice Ao62 t968.length co62 : Value).ownBlock) (Kd.R_keptB (HO_959006.out) hkp (fun k_ hk_ hs_ => Or.elim hs_ (fun e_ => (hk_.1.1.2.2.1) e_) (fun e_ => (hk_.1.1.2.2.2.1) e_))) (fun k_ hk_ => ⟨hk_.1.1.1.1, hk_.1.1.1.2.1, hk_.1.1.1.2.2.1, hk_.1.1.1.2.2.2.1, hk_.1.1.1.2.2.2.2, hk_.1.1.2, hk_.1.2⟩)); have n6_ := Aside0.mk (blk_kept (pkK BK908.out) hkp (fun hs_ => Or.elim hs_ (fun e_ => (fun e_ => (Kd.R_ne HO_946005.out BK908.out (by decide)) e_) e_) (fun e_ => (fun e_ => (Kd.R_ne HO_946006.out BK908.out (by decide)) e_) e_))); have n7_ := Aside0.mk (blk_kept (pkK BK933.out) hkp (fun hs_ => Or.elim hs_ (fun e_ => (fun e_ => (Kd.R_ne HO_946005.out BK933.out (by decide)) e_) e_) (fun e_ => (fun e_ => (Kd.R_ne HO_946006.out BK933.out (by decide)) e_) e_))); have n8_ := Aside0.mk (blk_kept (pkK BK945.out) hkp (fun hs_ => Or.elim hs_ (fun e_ => (fun e_ => (Kd.R_ne HO_946005.out BK945.out (by decide)) e_) e_) (fun e_ => (fun e_ => (Kd.R_ne HO_946006.out BK945.out (by decide)) e_) e_))); have n9_ := Aside0.mk (blk_kept (pkK BK958.out) hkp (fun hs_ => Or.elim hs_ (fun e_ => (fun e_ => (Kd.R_ne HO_946005.out BK958.out (by decide)) e_) e_) (fun e_ => (fun e_ => (Kd.R_ne HO_946006.out BK958.out (by decide)) e_) e_))); have n10_ := Aside0.mk (Kd.R_mono (ok' := fun k_ => some k_ ≠ (.slice Ao25 t926.length co25 : Value).ownBlock ∧ some k_ ≠ (.slice Ao26 t929.length co26 : Value).ownBlock ∧ some k_ ≠ (.slice Ao33 t939.length co33 : Value).ownBlock ∧ some k_ ≠ (.slice Ao34 t942.length co34 : Value).ownBlock ∧ some k_ ≠ (.slice Ao41 t951.length co41 : Value).ownBlock ∧ some k_ ≠ (.slice Ao42 t954.length co42 : Value).ownBlock ∧ some k_ ≠ (.slice Ao62 t968.length co62 : Value).ownBlock) (Kd.R_keptB (HO967.out) hkp (fun k_ hk_ hs_ => Or.elim hs_ (fun e_ => (hk_.1.1.1.2) e_) (fun e_ => (hk_.1.1.2) e_))) (fun k_ hk_ => ⟨hk_.1.1.1.1.1.1.2, hk_.1.1.1.1.1.2, hk_.1.1.1.1.2, hk_.1.1.1.2, hk_.1.1.2, hk_.1.2, hk_.1.1.1.1.1.1.1⟩)); have n11_ := Aside0.mk (Kd.R_mono (ok' := fun k_ => some k_ ≠ (.slice Ao25 t926.length co25 : Value).ownBlock ∧ some k_ ≠ (.slice Ao26 t929.length co26 : Value).ownBlock ∧ some k_ ≠ (.slice Ao33 t939.length co33 : Value).ownBlock ∧ some k_ ≠ (.slice Ao34 t942.length co34 : Value).ownBlock ∧ some k_ ≠ (.slice Ao41 t951.length co41 : Value).ownBlock ∧ some k_ ≠ (.slice Ao42 t954.length co42 : Value).ownBlock ∧ some k_ ≠ (.slice Ao61 t965.length co61 : Value).ownBlock) (Kd.R_keptB (HO970.out) hkp (fun k_ hk_ hs_ => Or.elim hs_ (fun e_ => (hk_.1.1.1.2) e_) (fun e_ => (hk_.1.1.2) e_))) (fun k_ hk_ => ⟨hk_.1.1.1.1.1.1.2, hk_.1.1.1.1.1.2, hk_.1.1.1.1.2, hk_.1.1.1.2, hk_.1.1.2, hk_.1.2, hk_.1.1.1.1.1.1.1⟩)); have n12_ := Aside0.mk (hb); clear HO_934005 HO_934006 HO_946005 HO_946006 HO_959005 HO_959006 BK908 BK933 BK945 BK958 HO967 HO970 HB; have HO_934005 := n0_; have HO_934006 := n1_; have HO_946005 := n2_; have HO_946006 := n3_; have HO_959005 := n4_; have HO_959006 := n5_; have BK908 := n6_; have BK933 := n7_; have BK945 := n8_; have BK958 := n9_; have HO967 := n10_; have HO970 := n11_; have HB := n12_; clear n0_ n1_ n2_ n3_ n4_ n5_ n6_ n7_ n8_ n9_ n10_ n11_ n12_; (try clear hb); (try clear hkp); (try clear hy0); (try clear hy1)))
            (try simp only [Act.put, List.setIfInBounds_toArray, List.set_cons_zero, List.set_cons_succ])
            go_cut [69] (fun v69 wc => ∃ (kq : Nat) (x69_57 : Bool), v69 = .bool x69_57 ∧ Aside0 (laws_FnExactWatch.j1 kq a1 a2 t932 x69_57 a0_0 a0_1 a0_2 a0_3 a0_4 l0_5 l0_6 t921 t922 t923 t924 t925 t926 t929 t946 t947 t948 t949 t950 t951 t954 = some r) ∧ Aside0 (kq ≤ kj12) ∧ Aside0 (Kd.R (Kd.int .i64) 3 wc w.heap.size (fun k_ => some k_ ≠ ((.slice Ao26 t929.length co26) : Value).ownBlock ∧ some k_ ≠ ((.slice Ao33 t939.length co33) : Value).ownBlock ∧ some k_ ≠ ((.slice Ao34 t942.length co34) : Value).ownBlock ∧ some k_ ≠ ((.slice Ao41 t951.length co41) : Value).ownBlock ∧ some k_ ≠ ((.slice Ao42 t954.length co42) : Value).ownBlock) (.slice Ao25 t926.length co25) t926) ∧ Aside0 (Kd.R (Kd.int .i64) 3 wc w.heap.size (fun k_ => some k_ ≠ ((.slice Ao25 t926.length co25) : Value).ownBlock ∧ some k_ ≠ ((.slice Ao33 t939.length co33) : Value).ownBlock ∧ some k_ ≠ ((.slice Ao34 t942.length co34) : Value).ownBlock ∧ some k_ ≠ ((.slice Ao41 t951.length co41) : Value).ownBlock ∧ some k_ ≠ ((.slice Ao42 t954.length co42) : Value).ownBlock) (.slice Ao26 t929.length co26) t929) ∧ Aside0 (Kd.R (Kd.int .i64) 3 wc w.heap.size (fun k_ => some k_ ≠ ((.slice Ao25 t926.length co25) : Value).ownBlock ∧ some k_ ≠ ((.slice Ao26 t929.length co26) : Value).ownBlock ∧ some k_ ≠ ((.slice Ao34 t942.length co34) : Value).ownBlock ∧ some k_ ≠ ((.slice Ao41 t951.length co41) : Value).ownBlock ∧ some k_ ≠ ((.slice Ao42 t954.length co42) : Value).ownBlock) (.slice Ao33 t939.length co33) t973) ∧ Aside0 (Kd.R (Kd.int .i64) 3 wc w.heap.size (fun k_ => some k_ ≠ ((.slice Ao25 t926.length co25) : Value).ownBlock ∧ some k_ ≠ ((.slice Ao26 t929.length co26) : Value).ownBlock ∧ some k_ ≠ ((.slice Ao33 t939.length co33) : Value).ownBlock ∧ some k_ ≠ ((.slice Ao41 t951.length co41) : Value).ownBlock ∧ some k_ ≠ ((.slice Ao42 t954.length co42) : Value).ownBlock) (.slice Ao34 t942.length co34) t974) ∧ Aside0 (Kd.R (Kd.int .i64) 3 wc w.heap.size (fun k_ => some k_ ≠ ((.slice Ao25 t926.length co25) : Value).ownBlock ∧ some k_ ≠ ((.slice Ao26 t929.length co26) : Value).ownBlock ∧ some k_ ≠ ((.slice Ao33 t939.length co33) : Value).ownBlock ∧ some k_ ≠ ((.slice Ao34 t942.length co34) : Value).ownBlock ∧ some k_ ≠ ((.slice Ao42 t954.length co42) : Value).ownBlock) (.slice Ao41 t951.length co41) t951) ∧ Aside0 (Kd.R (Kd.int .i64) 3 wc w.heap.size (fun k_ => some k_ ≠ ((.slice Ao25 t926.length co25) : Value).ownBlock ∧ some k_ ≠ ((.slice Ao26 t929.length co26) : Value).ownBlock ∧ some k_ ≠ ((.slice Ao33 t939.length co33) : Value).ownBlock ∧ some k_ ≠ ((.slice Ao34 t942.length co34) : Value).ownBlock ∧ some k_ ≠ ((.slice Ao41 t951.length co41) : Value).ownBlock) (.slice Ao42 t954.length co42) t954) ∧ Aside0 (wc.heap[gb908]? = some (.cells #[.int .i64 a0_0, .int .i64 a0_1, .string a0_2, .int .i64 a0_3, .bool a0_4, (.slice A0_5 l0_5.length c0_5), (.slice A0_6 l0_6.length c0_6)] 56 (0, 0))) ∧ Aside0 (wc.heap[gb933]? = some (.cells #[.int .i64 t921, .int .i64 t922, .string t923, .int .i64 t924, .bool t925, (.slice Ao25 t926.length co25), (.slice Ao26 t929.length co26)] 29 (0, 0))) ∧ Aside0 (wc.heap[gb945]? = some (.cells #[.int .i64 t934, .int .i64 t935, .string t936, .int .i64 t937, .bool t938, (.slice Ao33 t939.length co33), (.slice Ao34 t942.length co34)] 29 (0, 0))) ∧ Aside0 (wc.heap[gb958]? = some (.cells #[.int .i64 t946, .int .i64 t947, .string t948, .int .i64 t949, .bool t950, (.slice Ao41 t951.length co41), (.slice Ao42 t954.length co42)] 29 (0, 0))) ∧ Aside0 (Below w.heap.size w wc))
            case first =>
              have H := HC58.out
              clear HC58
              by_cases c69 : t972 < 0
              · rw [if_pos c69] at H
                have c69b0 : decide (t972 < 0) = true := decide_eq_true c69
                clear c69
                (first | rw [c69b0] | (simp only [i64_w, i32_w]; rw [c69b0]) | skip)
                cases kj12 with
                | zero => exact absurd H (by simp [laws_FnExactWatch.j1])
                | succ k_ => (simp only [laws_FnExactWatch.j1, if_pos] at H; exact absurd (Option.some.inj H) (by rw [HQ_.out]; simp))
              · rw [if_neg c69] at H
                have c69b0 : decide (t972 < 0) = false := decide_eq_false c69
                clear c69
                (first | rw [c69b0] | (simp only [i64_w, i32_w]; rw [c69b0]) | skip)
                replace H := Option.bind_eq_some_iff.mp H
                obtain ⟨t975, A700, H⟩ := H
                replace H : (if t975 = true then (laws_FnExactWatch.j1 kj12 a1 a2 t932 (t957 != t932) a0_0 a0_1 a0_2 a0_3 a0_4 l0_5 l0_6 t921 t922 t923 t924 t925 t926 t929 t946 t947 t948 t949 t950 t951 t954) else (laws_FnExactWatch.j1 kj12 a1 a2 t932 true a0_0 a0_1 a0_2 a0_3 a0_4 l0_5 l0_6 t921 t922 t923 t924 t925 t926 t929 t946 t947 t948 t949 t950 t951 t954)) = some r := H
                have A70 := Aside0.mk A700
                clear A700
                by_cases c71 : t975 = true
                · subst c71
                  have H1 : (laws_FnExactWatch.j1 kj12 a1 a2 t932 (t957 != t932) a0_0 a0_1 a0_2 a0_3 a0_4 l0_5 l0_6 t921 t922 t923 t924 t925 t926 t929 t946 t947 t948 t949 t950 t951 t954) = some r := by rw [if_pos rfl] at H; exact H
                  clear H
                  have H := H1
                  clear H1
                  have H' := Aside0.mk H
                  clear H
                  have hnb72 := NB958_908.out
                  have hnc72 := NB908_958.out
                  have hnb73 := NB958_933.out
                  have hnc73 := NB933_958.out
                  have hnb74 := NB958_945.out
                  have hnc74 := NB945_958.out
                  have hcz75_0 : w68.cell? ⟨gb958, 0, none⟩ = some (.int .i64 t946) := (blk_cell BK958.out 0).trans rfl
                  have hcz75_1 : w68.cell? ⟨gb958, 1, none⟩ = some (.int .i64 t947) := (blk_cell BK958.out 1).trans rfl
                  have hcz75_2 : w68.cell? ⟨gb958, 2, none⟩ = some (.string t948) := (blk_cell BK958.out 2).trans rfl
                  have hcz75_3 : w68.cell? ⟨gb958, 3, none⟩ = some (.int .i64 t949) := (blk_cell BK958.out 3).trans rfl
                  have hcz75_4 : w68.cell? ⟨gb958, 4, none⟩ = some (.bool t950) := (blk_cell BK958.out 4).trans rfl
                  have hcz75_5 : w68.cell? ⟨gb958, 5, none⟩ = some (.slice Ao41 t951.length co41) := (blk_cell BK958.out 5).trans rfl
                  have hcz75_6 : w68.cell? ⟨gb958, 6, none⟩ = some (.slice Ao42 t954.length co42) := (blk_cell BK958.out 6).trans rfl
                  have hfz75_0 := blk_frozen BK958.out 0
                  have hfz75_1 := blk_frozen BK958.out 1
                  have hfz75_2 := blk_frozen BK958.out 2
                  have hfz75_3 := blk_frozen BK958.out 3
                  have hfz75_4 := blk_frozen BK958.out 4
                  have hfz75_5 := blk_frozen BK958.out 5
                  have hfz75_6 := blk_frozen BK958.out 6
                  have hnb76 := NB933_908.out
                  have hnc76 := NB908_933.out
                  have hnb77 := NB933_945.out
                  have hnc77 := NB945_933.out
                  have hcz78_0 : w68.cell? ⟨gb933, 0, none⟩ = some (.int .i64 t921) := (blk_cell BK933.out 0).trans rfl
                  have hcz78_1 : w68.cell? ⟨gb933, 1, none⟩ = some (.int .i64 t922) := (blk_cell BK933.out 1).trans rfl
                  have hcz78_2 : w68.cell? ⟨gb933, 2, none⟩ = some (.string t923) := (blk_cell BK933.out 2).trans rfl
                  have hcz78_3 : w68.cell? ⟨gb933, 3, none⟩ = some (.int .i64 t924) := (blk_cell BK933.out 3).trans rfl
                  have hcz78_4 : w68.cell? ⟨gb933, 4, none⟩ = some (.bool t925) := (blk_cell BK933.out 4).trans rfl
                  have hcz78_5 : w68.cell? ⟨gb933, 5, none⟩ = some (.slice Ao25 t926.length co25) := (blk_cell BK933.out 5).trans rfl
                  have hcz78_6 : w68.cell? ⟨gb933, 6, none⟩ = some (.slice Ao26 t929.length co26) := (blk_cell BK933.out 6).trans rfl
                  have hfz78_0 := blk_frozen BK933.out 0
                  have hfz78_1 := blk_frozen BK933.out 1
                  have hfz78_2 := blk_frozen BK933.out 2
                  have hfz78_3 := blk_frozen BK933.out 3
                  have hfz78_4 := blk_frozen BK933.out 4
                  have hfz78_5 := blk_frozen BK933.out 5
                  have hfz78_6 := blk_frozen BK933.out 6
                  go_wp2_with (first | (go_at_call 34; (with_reducible refine (laws_eqCell.calls kj12 t946 t947 t948 t949 t950 _ _ t951 _ _ t954 t921 t922 t923 t924 t925 _ _ t926 _ _ t929 true _ ?side1 ?side2 ?side3 ?side4 ?side5 ?side6 ?side7 ?side8 A70.out).mono ?_); (case side1 => exact pkC (Kd.R_reads' HO_959005.out).2.2); (case side2 => exact (Kd.R_reads' HO_959005.out).2.1); (case side3 => exact pkC (Kd.R_reads' HO_959006.out).2.2); (case side4 => exact (Kd.R_reads' HO_959006.out).2.1); (case side5 => exact pkC (Kd.R_reads' HO_934005.out).2.2); (case side6 => exact (Kd.R_reads' HO_934005.out).2.1); (case side7 => exact pkC (Kd.R_reads' HO_934006.out).2.2); (case side8 => exact (Kd.R_reads' HO_934006.out).2.1); rintro e w79 ⟨rfl, hb⟩; have n0_ := Aside0.mk (Kd.R_below (pkR HO_934005.out) hb); have n1_ := Aside0.mk (Kd.R_below (pkR HO_934006.out) hb); have n2_ := Aside0.mk (Kd.R_below (pkR HO_946005.out) hb); have n3_ := Aside0.mk (Kd.R_below (pkR HO_946006.out) hb); have n4_ := Aside0.mk (Kd.R_below (pkR HO_959005.out) hb); have n5_ := Aside0.mk (Kd.R_below (pkR HO_959006.out) hb); have n6_ := Aside0.mk (Kd.R_below (pkR HO967.out) hb); have n7_ := Aside0.mk (Kd.R_below (pkR HO970.out) hb); have n8_ := Aside0.mk (blk_below (g := gb908) (o := .cells #[.int .i64 a0_0, .int .i64 a0_1, .string a0_2, .int .i64 a0_3, .bool a0_4, .slice A0_5 l0_5.length c0_5, .slice A0_6 l0_6.length c0_6] 56 (0, 0)) (pkK BK908.out) hb); have n9_ := Aside0.mk (blk_below (g := gb933) (o := .cells #[.int .i64 t921, .int .i64 t922, .string t923, .int .i64 t924, .bool t925, .slice Ao25 t926.length co25, .slice Ao26 t929.length co26] 29 (0, 0)) (pkK BK933.out) hb); have n10_ := Aside0.mk (blk_below (g := gb945) (o := .cells #[.int .i64 t934, .int .i64 t935, .string t936, .int .i64 t937, .bool t938, .slice Ao33 t939.length co33, .slice Ao34 t942.length co34] 29 (0, 0)) (pkK BK945.out) hb); have n11_ := Aside0.mk (blk_below (g := gb958) (o := .cells #[.int .i64 t946, .int .i64 t947, .string t948, .int .i64 t949, .bool t950, .slice Ao41 t951.length co41, .slice Ao42 t954.length co42] 29 (0, 0)) (pkK BK958.out) hb); have n12_ := Aside0.mk (below_step (by repeat (first | (with_reducible first | exact HB.out | apply below_alloc | apply pw_below_drewN | apply below_drew1 | refine below_set ?_ GE908.out | refine below_set ?_ GE933.out | refine below_set ?_ GE945.out | refine below_set ?_ GE958.out) | exact HB.out)) hb); clear HO_934005 HO_934006 HO_946005 HO_946006 HO_959005 HO_959006 HO967 HO970 BK908 BK933 BK945 BK958 HB; have HO_934005 := n0_; have HO_934006 := n1_; have HO_946005 := n2_; have HO_946006 := n3_; have HO_959005 := n4_; have HO_959006 := n5_; have HO967 := n6_; have HO970 := n7_; have BK908 := n8_; have BK933 := n9_; have BK945 := n10_; have BK958 := n11_; have HB := n12_; clear n0_ n1_ n2_ n3_ n4_ n5_ n6_ n7_ n8_ n9_ n10_ n11_ n12_; (try clear hb); (try clear hb2); (try clear hk); (try clear hi)))
                  go_meet
                  case rel => exact ⟨_, ((t957 != t932)), (by first | rfl | (simp; done) | (simp [*]; done)), H', ⟨by have := HJ12.out; first | omega | exact Nat.le_refl _⟩, ⟨by (with_reducible repeat (first | apply Kd.R_alloc | apply Kd.R_drewN | apply Kd.R_drew)); exact Kd.R_mono HO_934005.out (fun _ hk => ⟨hk.1, ⟨hk.2.1, ⟨hk.2.2.1, ⟨hk.2.2.2.1, hk.2.2.2.2.1⟩⟩⟩⟩)⟩, ⟨by (with_reducible repeat (first | apply Kd.R_alloc | apply Kd.R_drewN | apply Kd.R_drew)); exact Kd.R_mono HO_934006.out (fun _ hk => ⟨hk.1, ⟨hk.2.1, ⟨hk.2.2.1, ⟨hk.2.2.2.1, hk.2.2.2.2.1⟩⟩⟩⟩)⟩, ⟨by (with_reducible repeat (first | apply Kd.R_alloc | apply Kd.R_drewN | apply Kd.R_drew)); exact Kd.R_mono HO_946005.out (fun _ hk => ⟨hk.1.1.1, ⟨hk.1.1.2.1, ⟨hk.1.1.2.2.1, ⟨hk.1.1.2.2.2.1, hk.1.1.2.2.2.2⟩⟩⟩⟩)⟩, ⟨by (with_reducible repeat (first | apply Kd.R_alloc | apply Kd.R_drewN | apply Kd.R_drew)); exact Kd.R_mono HO_946006.out (fun _ hk => ⟨hk.1.1.1, ⟨hk.1.1.2.1, ⟨hk.1.1.2.2.1, ⟨hk.1.1.2.2.2.1, hk.1.1.2.2.2.2⟩⟩⟩⟩)⟩, ⟨by (with_reducible repeat (first | apply Kd.R_alloc | apply Kd.R_drewN | apply Kd.R_drew)); exact Kd.R_mono HO_959005.out (fun _ hk => ⟨hk.1, ⟨hk.2.1, ⟨hk.2.2.1, ⟨hk.2.2.2.1, hk.2.2.2.2.1⟩⟩⟩⟩)⟩, ⟨by (with_reducible repeat (first | apply Kd.R_alloc | apply Kd.R_drewN | apply Kd.R_drew)); exact Kd.R_mono HO_959006.out (fun _ hk => ⟨hk.1, ⟨hk.2.1, ⟨hk.2.2.1, ⟨hk.2.2.2.1, hk.2.2.2.2.1⟩⟩⟩⟩)⟩, ⟨pkK BK908.out⟩, ⟨pkK BK933.out⟩, ⟨pkK BK945.out⟩, ⟨pkK BK958.out⟩, ⟨by repeat (first | (with_reducible first | exact HB.out | apply below_alloc | apply pw_below_drewN | apply below_drew1 | refine below_set ?_ GE908.out | refine below_set ?_ GE933.out | refine below_set ?_ GE945.out | refine below_set ?_ GE958.out) | exact HB.out)⟩⟩
                · replace c71 := Bool.eq_false_iff.mpr c71
                  subst c71
                  have H1 : (laws_FnExactWatch.j1 kj12 a1 a2 t932 true a0_0 a0_1 a0_2 a0_3 a0_4 l0_5 l0_6 t921 t922 t923 t924 t925 t926 t929 t946 t947 t948 t949 t950 t951 t954) = some r := by rw [if_neg (show ¬ (false = true) by decide)] at H; exact H
                  clear H
                  have H := H1
                  clear H1
                  cases kj12 with
                  | zero => exact absurd H (by simp [laws_FnExactWatch.j1])
                  | succ k_ => (simp only [laws_FnExactWatch.j1, if_pos] at H; exact absurd (Option.some.inj H) (by rw [HQ_.out]; simp))
            case rest =>
              clear HC58
              try clear c1
              try clear c2
              try clear p2
              try clear c3
              try clear c4
              try clear c5
              try clear c5b0
              try clear c6
              try clear c7
              try clear c12
              try clear c20
              try clear c23
              try clear c30
              try clear c31
              try clear c32
              try clear c34
              try clear c37
              try clear c38
              try clear c39
              try clear c44
              try clear c45
              try clear c46
              try clear c47
              try clear c48
              try clear c49
              try clear c50
              try clear c53
              try clear c56
              try clear c64
              try clear c65
              try clear c66
              try clear c69
              try clear c69b0
              try clear c71
              try clear c72
              try clear c73
              try clear c74
              try clear c76
              try clear c77
              try clear hcz15_0
              try clear hcz15_1
              try clear hcz15_2
              try clear hcz15_3
              try clear hcz15_4
              try clear hcz15_5
              try clear hcz15_6
              try clear hcz17_0
              try clear hcz17_1
              try clear hcz17_2
              try clear hcz17_3
              try clear hcz17_4
              try clear hcz17_5
              try clear hcz17_6
              try clear hcz24_0
              try clear hcz24_1
              try clear hcz24_2
              try clear hcz24_3
              try clear hcz24_4
              try clear hcz24_5
              try clear hcz24_6
              try clear hcz27_0
              try clear hcz27_1
              try clear hcz27_2
              try clear hcz27_3
              try clear hcz27_4
              try clear hcz27_5
              try clear hcz27_6
              try clear hcz32_0
              try clear hcz32_1
              try clear hcz32_2
              try clear hcz32_3
              try clear hcz32_4
              try clear hcz32_5
              try clear hcz32_6
              try clear hcz40_0
              try clear hcz40_1
              try clear hcz40_2
              try clear hcz40_3
              try clear hcz40_4
              try clear hcz40_5
              try clear hcz40_6
              try clear hcz48_0
              try clear hcz48_1
              try clear hcz48_2
              try clear hcz48_3
              try clear hcz48_4
              try clear hcz48_5
              try clear hcz48_6
              try clear hcz51_0
              try clear hcz51_1
              try clear hcz51_2
              try clear hcz51_3
              try clear hcz51_4
              try clear hcz51_5
              try clear hcz51_6
              try clear hcz67_0
              try clear hcz67_1
              try clear hcz67_2
              try clear hcz67_3
              try clear hcz67_4
              try clear hcz67_5
              try clear hcz67_6
              try clear hcz75_0
              try clear hcz75_1
              try clear hcz75_2
              try clear hcz75_3
              try clear hcz75_4
              try clear hcz75_5
              try clear hcz75_6
              try clear hcz78_0
              try clear hcz78_1
              try clear hcz78_2
              try clear hcz78_3
              try clear hcz78_4
              try clear hcz78_5
              try clear hcz78_6
              try clear hcz7_0
              try clear hcz7_1
              try clear hcz7_2
              try clear hcz7_3
              try clear hcz7_4
              try clear hcz7_5
              try clear hcz7_6
              try clear hfz15_0
              try clear hfz15_1
              try clear hfz15_2
              try clear hfz15_3
              try clear hfz15_4
              try clear hfz15_5
              try clear hfz15_6
              try clear hfz17_0
              try clear hfz17_1
              try clear hfz17_2
              try clear hfz17_3
              try clear hfz17_4
              try clear hfz17_5
              try clear hfz17_6
              try clear hfz24_0
              try clear hfz24_1
              try clear hfz24_2
              try clear hfz24_3
              try clear hfz24_4
              try clear hfz24_5
              try clear hfz24_6
              try clear hfz27_0
              try clear hfz27_1
              try clear hfz27_2
              try clear hfz27_3
              try clear hfz27_4
              try clear hfz27_5
              try clear hfz27_6
              try clear hfz32_0
              try clear hfz32_1
              try clear hfz32_2
              try clear hfz32_3
              try clear hfz32_4
              try clear hfz32_5
              try clear hfz32_6
              try clear hfz40_0
              try clear hfz40_1
              try clear hfz40_2
              try clear hfz40_3
              try clear hfz40_4
              try clear hfz40_5
              try clear hfz40_6
              try clear hfz48_0
              try clear hfz48_1
              try clear hfz48_2
              try clear hfz48_3
              try clear hfz48_4
              try clear hfz48_5
              try clear hfz48_6
              try clear hfz51_0
              try clear hfz51_1
              try clear hfz51_2
              try clear hfz51_3
              try clear hfz51_4
              try clear hfz51_5
              try clear hfz51_6
              try clear hfz67_0
              try clear hfz67_1
              try clear hfz67_2
              try clear hfz67_3
              try clear hfz67_4
              try clear hfz67_5
              try clear hfz67_6
              try clear hfz75_0
              try clear hfz75_1
              try clear hfz75_2
              try clear hfz75_3
              try clear hfz75_4
              try clear hfz75_5
              try clear hfz75_6
              try clear hfz78_0
              try clear hfz78_1
              try clear hfz78_2
              try clear hfz78_3
              try clear hfz78_4
              try clear hfz78_5
              try clear hfz78_6
              try clear hfz7_0
              try clear hfz7_1
              try clear hfz7_2
              try clear hfz7_3
              try clear hfz7_4
              try clear hfz7_5
              try clear hfz7_6
              try clear p2
              obtain ⟨kq, x69_57, rfl, HA, HJ57, HO_934005, HO_934006, HO_946005, HO_946006, HO_959005, HO_959006, BK908, BK933, BK945, BK958, HB⟩ := hcut
              have hl946005_57 := (Kd.R_reads' HO_946005.out).1
              rw [hl946005_57] at HO_946005
              (try simp only [hl946005_57])
              (try simp only [hl946005_57] at BK908)
              (try simp only [hl946005_57] at BK933)
              (try simp only [hl946005_57] at BK945)
              (try simp only [hl946005_57] at BK958)
              (try simp only [hl946005_57] at HO_934005)
              (try simp only [hl946005_57] at HO_934006)
              (try simp only [hl946005_57] at HO_946006)
              (try simp only [hl946005_57] at HO_959005)
              (try simp only [hl946005_57] at HO_959006)
              have hl946006_57 := (Kd.R_reads' HO_946006.out).1
              rw [hl946006_57] at HO_946006
              (try simp only [hl946006_57])
              (try simp only [hl946006_57] at BK908)
              (try simp only [hl946006_57] at BK933)
              (try simp only [hl946006_57] at BK945)
              (try simp only [hl946006_57] at BK958)
              (try simp only [hl946006_57] at HO_934005)
              (try simp only [hl946006_57] at HO_934006)
              (try simp only [hl946006_57] at HO_946005)
              (try simp only [hl946006_57] at HO_959005)
              (try simp only [hl946006_57] at HO_959006)
              cases kq with
              | zero => exact absurd HA.out (by simp [laws_FnExactWatch.j1])
              | succ kj57 =>
                have H := HA.out
                clear HA
                simp only [laws_FnExactWatch.j1] at H
                by_cases c80 : x69_57 = true
                · subst c80
                  have H1 : (some false) = some r := by rw [if_pos rfl] at H; exact H
                  clear H
                  have H := H1
                  clear H1
                  exact absurd (Option.some.inj H) (by rw [HQ_.out]; simp)
                · replace c80 := Bool.eq_false_iff.mpr c80
                  subst c80
                  have H1 : ((laws_markCell.f kj57 t946 t947 t948 t949 t950 t951 t954 1).bind fun bt976 => ((laws_heldCell.f kj57 t946 t947 t948 t949 t950 bt976.2.1 bt976.2.2 1).bind fun t979 => (if t979 < 0 then (some false) else (if t979 = bt976.1 then ((laws_toCell.f kj57 a0_0 a0_1 a0_2 a0_3 a0_4 l0_5 l0_6).bind fun bt980 => ((impl_Watch.f kj57 bt980.1 bt980.2.1 bt980.2.2.1 bt980.2.2.2.1 bt980.2.2.2.2.1 bt980.2.2.2.2.2.1 bt980.2.2.2.2.2.2 a1 a2).bind fun bt991 => ((laws_eqCell.f kj57 bt991.1 bt991.2.1 bt991.2.2.1 bt991.2.2.2.1 bt991.2.2.2.2.1 bt991.2.2.2.2.2.1 bt991.2.2.2.2.2.2.1 t921 t922 t923 t924 t925 t926 t929).bind fun t1004 => (if t1004 = true then (laws_FnExactWatch.j2 kj57 bt976.1 (bt991.2.2.2.2.2.2.2 != t932) t946 t947 t948 t949 t950 bt976.2.1 bt976.2.2) else (laws_FnExactWatch.j2 kj57 bt976.1 true t946 t947 t948 t949 t950 bt976.2.1 bt976.2.2))))) else (some false))))) = some r := by rw [if_neg (show ¬ (false = true) by decide)] at H; exact H
                  clear H
                  have H := H1
                  clear H1
                  replace H := Option.bind_eq_some_iff.mp H
                  obtain ⟨⟨t976, t977, t978⟩, A810, H⟩ := H
                  replace H : ((laws_heldCell.f kj57 t946 t947 t948 t949 t950 t977 t978 1).bind fun t979 => (if t979 < 0 then (some false) else (if t979 = t976 then ((laws_toCell.f kj57 a0_0 a0_1 a0_2 a0_3 a0_4 l0_5 l0_6).bind fun bt980 => ((impl_Watch.f kj57 bt980.1 bt980.2.1 bt980.2.2.1 bt980.2.2.2.1 bt980.2.2.2.2.1 bt980.2.2.2.2.2.1 bt980.2.2.2.2.2.2 a1 a2).bind fun bt991 => ((laws_eqCell.f kj57 bt991.1 bt991.2.1 bt991.2.2.1 bt991.2.2.2.1 bt991.2.2.2.2.1 bt991.2.2.2.2.2.1 bt991.2.2.2.2.2.2.1 t921 t922 t923 t924 t925 t926 t929).bind fun t1004 => (if t1004 = true then (laws_FnExactWatch.j2 kj57 t976 (bt991.2.2.2.2.2.2.2 != t932) t946 t947 t948 t949 t950 t977 t978) else (laws_FnExactWatch.j2 kj57 t976 true t946 t947 t948 t949 t950 t977 t978))))) else (some false)))) = some r := H
                  have A81 := Aside0.mk A810
                  clear A810
                  replace H := Option.bind_eq_some_iff.mp H
                  obtain ⟨t979, A820, H⟩ := H
                  replace H : (if t979 < 0 then (some false) else (if t979 = t976 then ((laws_toCell.f kj57 a0_0 a0_1 a0_2 a0_3 a0_4 l0_5 l0_6).bind fun bt980 => ((impl_Watch.f kj57 bt980.1 bt980.2.1 bt980.2.2.1 bt980.2.2.2.1 bt980.2.2.2.2.1 bt980.2.2.2.2.2.1 bt980.2.2.2.2.2.2 a1 a2).bind fun bt991 => ((laws_eqCell.f kj57 bt991.1 bt991.2.1 bt991.2.2.1 bt991.2.2.2.1 bt991.2.2.2.2.1 bt991.2.2.2.2.2.1 bt991.2.2.2.2.2.2.1 t921 t922 t923 t924 t925 t926 t929).bind fun t1004 => (if t1004 = true then (laws_FnExactWatch.j2 kj57 t976 (bt991.2.2.2.2.2.2.2 != t932) t946 t947 t948 t949 t950 t977 t978) else (laws_FnExactWatch.j2 kj57 t976 true t946 t947 t948 t949 t950 t977 t978))))) else (some false))) = some r := H
                  have A82 := Aside0.mk A820
                  clear A820
                  by_cases c83 : t979 < 0
                  · rw [if_pos c83] at H
                    have c83b0 : decide (t979 < 0) = true := decide_eq_true c83
                    clear c83
                    exact absurd (Option.some.inj H) (by rw [HQ_.out]; simp)
                  · rw [if_neg c83] at H
                    have c83b0 : decide (t979 < 0) = false := decide_eq_false c83
                    clear c83
                    by_cases c84 : t979 = t976
                    · rw [if_pos c84] at H
                      have c84b0 : (t979 == t976) = true := beq_iff_eq.mpr c84
                      have c84b1 : (t979 != t976) = false := bne_eq_false_iff_eq.mpr c84
                      clear c84
                      replace H := Option.bind_eq_some_iff.mp H
                      obtain ⟨⟨t980, t981, t982, t983, t984, t985, t988⟩, A850, H⟩ := H
                      replace H : ((impl_Watch.f kj57 t980 t981 t982 t983 t984 t985 t988 a1 a2).bind fun bt991 => ((laws_eqCell.f kj57 bt991.1 bt991.2.1 bt991.2.2.1 bt991.2.2.2.1 bt991.2.2.2.2.1 bt991.2.2.2.2.2.1 bt991.2.2.2.2.2.2.1 t921 t922 t923 t924 t925 t926 t929).bind fun t1004 => (if t1004 = true then (laws_FnExactWatch.j2 kj57 t976 (bt991.2.2.2.2.2.2.2 != t932) t946 t947 t948 t949 t950 t977 t978) else (laws_FnExactWatch.j2 kj57 t976 true t946 t947 t948 t949 t950 t977 t978)))) = some r := H
                      have A85 := Aside0.mk A850
                      clear A850
                      replace H := Option.bind_eq_some_iff.mp H
                      obtain ⟨⟨t991, t992, t993, t994, t995, t996, t999, t1002⟩, A860, H⟩ := H
                      replace H : ((laws_eqCell.f kj57 t991 t992 t993 t994 t995 t996 t999 t921 t922 t923 t924 t925 t926 t929).bind fun t1004 => (if t1004 = true then (laws_FnExactWatch.j2 kj57 t976 (t1002 != t932) t946 t947 t948 t949 t950 t977 t978) else (laws_FnExactWatch.j2 kj57 t976 true t946 t947 t948 t949 t950 t977 t978))) = some r := H
                      have A86 := Aside0.mk A860
                      clear A860
                      have HC87 := Aside0.mk H
                      clear H
                      have hnb88 := NB958_908.out
                      have hnc88 := NB908_958.out
                      have hnb89 := NB958_933.out
                      have hnc89 := NB933_958.out
                      have hnb90 := NB958_945.out
                      have hnc90 := NB945_958.out
                      have hcz91_0 : wc.cell? ⟨gb958, 0, none⟩ = some (.int .i64 t946) := (blk_cell BK958.out 0).trans rfl
                      have hcz91_1 : wc.cell? ⟨gb958, 1, none⟩ = some (.int .i64 t947) := (blk_cell BK958.out 1).trans rfl
                      have hcz91_2 : wc.cell? ⟨gb958, 2, none⟩ = some (.string t948) := (blk_cell BK958.out 2).trans rfl
                      have hcz91_3 : wc.cell? ⟨gb958, 3, none⟩ = some (.int .i64 t949) := (blk_cell BK958.out 3).trans rfl
                      have hcz91_4 : wc.cell? ⟨gb958, 4, none⟩ = some (.bool t950) := (blk_cell BK958.out 4).trans rfl
                      have hcz91_5 : wc.cell? ⟨gb958, 5, none⟩ = some (.slice Ao41 t951.length co41) := (blk_cell BK958.out 5).trans rfl
                      have hcz91_6 : wc.cell? ⟨gb958, 6, none⟩ = some (.slice Ao42 t954.length co42) := (blk_cell BK958.out 6).trans rfl
                      have hfz91_0 := blk_frozen BK958.out 0
                      have hfz91_1 := blk_frozen BK958.out 1
                      have hfz91_2 := blk_frozen BK958.out 2
                      have hfz91_3 := blk_frozen BK958.out 3
                      have hfz91_4 := blk_frozen BK958.out 4
                      have hfz91_5 := blk_frozen BK958.out 5
                      have hfz91_6 := blk_frozen BK958.out 6
                      go_upto_region 25 with (first | ((with_reducible refine gate_callee (f := 48) rfl ?_); refine goesL_ (some 72) rfl rfl Try.func48 (by kernel_rfl) rfl #[.agg #[.int .i64 t946, .int .i64 t947, .string t948, .int .i64 t949, .bool t950, .slice Ao41 t951.length co41, .slice Ao42 t954.length co42], .int .i64 1] rfl (by (try simp only [List.map_toArray, List.map_cons, List.map_nil]); first | done | rfl | (simp only [List.length_drop, List.length_take]; rfl) | (go_simp; done) | (simp [*]; done)) ?_; (with_reducible refine (laws_markCell.calls kj57 t946 t947 t948 t949 t950 (fun k_ => some k_ = (.slice Ao41 t951.length co41 : Value).ownBlock) (.slice Ao41 t951.length co41) t951 (fun k_ => some k_ = (.slice Ao42 t954.length co42 : Value).ownBlock) (.slice Ao42 t954.length co42) t954 1 t976 t977 t978 w _ ?side1 ?side2 ?side3 ?side4 ?side5 A81.out).mono ?_); (case side1 => repeat (first | (with_reducible first | exact HB.out | apply below_alloc | apply pw_below_drewN | apply below_drew1 | refine below_set ?_ GE908.out | refine below_set ?_ GE933.out | refine below_set ?_ GE945.out | refine below_set ?_ GE958.out) | exact HB.out)); (case side2 => exact Kd.R_tight rfl HO_959005.out); (case side3 => exact fun k_ e_ => (HO_959005.out.1 k_ e_.symm).2.2.2.2); (case side4 => exact Kd.R_tight rfl HO_959006.out); (case side5 => exact fun k_ e_ => (HO_959006.out.1 k_ e_.symm).2.2.2.2); rintro e w92 ⟨rfl, hy0, hy1, hb, hkp⟩; refine ⟨_, rfl, ?_⟩; have n0_ := Aside0.mk (Kd.R_mono (ok' := fun k_ => some k_ ≠ (.slice Ao26 t929.length co26 : Value).ownBlock ∧ some k_ ≠ (.slice Ao33 t973.length co33 : Value).ownBlock ∧ some k_ ≠ (.slice Ao34 t974.length co34 : Value).ownBlock ∧ some k_ ≠ (.slice Ao41 t951.length co41 : Value).ownBlock ∧ some k_ ≠ (.slice Ao42 t954.length co42 : Value).ownBlock) (Kd.R_keptB (HO_934005.out) hkp (fun k_ hk_ hs_ => Or.elim hs_ (fun e_ => (hk_.2.2.2.1) e_) (fun e_ => (hk_.2.2.2.2) e_))) (fun k_ hk_ => ⟨hk_.1.1, hk_.1.2.1, hk_.1.2.2.1, hk_.1.2.2.2.1, hk_.1.2.2.2.2⟩)); have n1_ := Aside0.mk (Kd.R_mono (ok' := fun k_ => some k_ ≠ (.slice Ao25 t926.length co25 : Value).ownBlock ∧ some k_ ≠ (.slice Ao33 t973.length co33 : Value).ownBlock ∧ some k_ ≠ (.slice Ao34 t974.length co34 : Value).ownBlock ∧ some k_ ≠ (.slice Ao41 t951.length co41 : Value).ownBlock ∧ some k_ ≠ (.slice Ao42 t954.length co42 : Value).ownBlock) (Kd.R_keptB (HO_934006.out) hkp (fun k_ hk_ hs_ => Or.elim hs_ (fun e_ => (hk_.2.2.2.1) e_) (fun e_ => (hk_.2.2.2.2) e_))) (fun k_ hk_ => ⟨hk_.1.1, hk_.1.2.1, hk_.1.2.2.1, hk_.1.2.2.2.1, hk_.1.2.2.2.2⟩)); have n2_ := Aside0.mk (Kd.R_mono (ok' := fun k_ => some k_ ≠ (.slice Ao25 t926.length co25 : Value).ownBlock ∧ some k_ ≠ (.slice Ao26 t929.length co26 : Value).ownBlock ∧ some k_ ≠ (.slice Ao34 t974.length co34 : Value).ownBlock ∧ some k_ ≠ (.slice Ao41 t951.length co41 : Value).ownBlock ∧ some k_ ≠ (.slice Ao42 t954.length co42 : Value).ownBlock) (Kd.R_keptB (HO_946005.out) hkp (fun k_ hk_ hs_ => Or.elim hs_ (fun e_ => (hk_.2.2.2.1) e_) (fun e_ => (hk_.2.2.2.2) e_))) (fun k_ hk_ => ⟨hk_.1.1, hk_.1.2.1, hk_.1.2.2.1, hk_.1.2.2.2.1, hk_.1.2.2.2.2⟩)); have n3_ := Aside0.mk (Kd.R_mono (ok' := fun k_ => some k_ ≠ (.slice Ao25 t926.length co25 : Value).ownBlock ∧ some k_ ≠ (.slice Ao26 t929.length co26 : Value).ownBlock ∧ some k_ ≠ (.slice Ao33 t973.length co33 : Value).ownBlock ∧ some k_ ≠ (.slice Ao41 t951.length co41 : Value).ownBlock ∧ some k_ ≠ (.slice Ao42 t954.length co42 : Value).ownBlock) (Kd.R_keptB (HO_946006.out) hkp (fun k_ hk_ hs_ => Or.elim hs_ (fun e_ => (hk_.2.2.2.1) e_) (fun e_ => (hk_.2.2.2.2) e_))) (fun k_ hk_ => ⟨hk_.1.1, hk_.1.2.1, hk_.1.2.2.1, hk_.1.2.2.2.1, hk_.1.2.2.2.2⟩)); have n4_ := Aside0.mk (Kd.R_reok rfl hy0 (fun k_ e_ => HO_959005.out.1 k_ e_)); have n5_ := Aside0.mk (Kd.R_reok rfl hy1 (fun k_ e_ => HO_959006.out.1 k_ e_)); have n6_ := Aside0.mk (blk_kept (pkK BK908.out) hkp (fun hs_ => Or.elim hs_ (fun e_ => (fun e_ => (Kd.R_ne HO_959005.out BK908.out (by decide)) e_) e_) (fun e_ => (fun e_ => (Kd.R_ne HO_959006.out BK908.out (by decide)) e_) e_))); have n7_ := Aside0.mk (blk_kept (pkK BK933.out) hkp (fun hs_ => Or.elim hs_ (fun e_ => (fun e_ => (Kd.R_ne HO_959005.out BK933.out (by decide)) e_) e_) (fun e_ => (fun e_ => (Kd.R_ne HO_959006.out BK933.out (by decide)) e_) e_))); have n8_ := Aside0.mk (blk_kept (pkK BK945.out) hkp (fun hs_ => Or.elim hs_ (fun e_ => (fun e_ => (Kd.R_ne HO_959005.out BK945.out (by decide)) e_) e_) (fun e_ => (fun e_ => (Kd.R_ne HO_959006.out BK945.out (by decide)) e_) e_))); have n9_ := Aside0.mk (blk_kept (pkK BK958.out) hkp (fun hs_ => Or.elim hs_ (fun e_ => (fun e_ => (Kd.R_ne HO_959005.out BK958.out (by decide)) e_) e_) (fun e_ => (fun e_ => (Kd.R_ne HO_959006.out BK958.out (by decide)) e_) e_))); have n10_ := Aside0.mk (hb); clear HO_934005 HO_934006 HO_946005 HO_946006 HO_959005 HO_959006 BK908 BK933 BK945 BK958 HB; have HO_934005 := n0_; have HO_934006 := n1_; have HO_946005 := n2_; have HO_946006 := n3_; have HO_959005 := n4_; have HO_959006 := n5_; have BK908 := n6_; have BK933 := n7_; have BK945 := n8_; have BK958 := n9_; have HB := n10_; clear n0_ n1_ n2_ n3_ n4_ n5_ n6_ n7_ n8_ n9_ n10_; (try clear hb); (try clear hkp); (try clear hy0); (try clear hy1); have hcz93_0 : w92.cell? ⟨gb958, 0, none⟩ = some (.int .i64 t946) := (blk_cell BK958.out 0).trans rfl; have hcz93_1 : w92.cell? ⟨gb958, 1, none⟩ = some (.int .i64 t947) := (blk_cell BK958.out 1).trans rfl; have hcz93_2 : w92.cell? ⟨gb958, 2, none⟩ = some (.string t948) := (blk_cell BK958.out 2).trans rfl; have hcz93_3 : w92.cell? ⟨gb958, 3, none⟩ = some (.int .i64 t949) := (blk_cell BK958.out 3).trans rfl; have hcz93_4 : w92.cell? ⟨gb958, 4, none⟩ = some (.bool t950) := (blk_cell BK958.out 4).trans rfl; have hcz93_5 : w92.cell? ⟨gb958, 5, none⟩ = some (.slice Ao41 t951.length co41) := (blk_cell BK958.out 5).trans rfl; have hcz93_6 : w92.cell? ⟨gb958, 6, none⟩ = some (.slice Ao42 t954.length co42) := (blk_cell BK958.out 6).trans rfl; have hfz93_0 := blk_frozen BK958.out 0; have hfz93_1 := blk_frozen BK958.out 1; have hfz93_2 := blk_frozen BK958.out 2; have hfz93_3 := blk_frozen BK958.out 3; have hfz93_4 := blk_frozen BK958.out 4; have hfz93_5 := blk_frozen BK958.out 5; have hfz93_6 := blk_frozen BK958.out 6) | ((with_reducible refine gate_callee (f := 49) rfl ?_); refine goesL_ (some 75) rfl rfl Try.func49 (by kernel_rfl) rfl #[.agg #[.int .i64 t946, .int .i64 t947, .string t948, .int .i64 t949, .bool t950, .slice Ao41 t977.length co41, .slice Ao42 t978.length co42], .int .i64 1] rfl (by (try simp only [List.map_toArray, List.map_cons, List.map_nil]); first | done | (rw [show t977.length = t951.length from (Kd.R_reads' HO_959005.out).1.symm, show t978.length = t954.length from (Kd.R_reads' HO_959006.out).1.symm] <;> rfl) | rfl | (simp only [List.length_drop, List.length_take]; rfl) | (go_simp; done) | (simp [*]; done)) ?_; (with_reducible refine (laws_heldCell.calls kj57 t946 t947 t948 t949 t950 _ _ t977 _ _ t978 1 t979 _ ?side1 ?side2 ?side3 ?side4 A82.out).mono ?_); (case side1 => exact pkC (Kd.R_reads' HO_959005.out).2.2); (case side2 => rw [show t977.length = t951.length from (Kd.R_reads' HO_959005.out).1.symm]; exact (Kd.R_reads' HO_959005.out).2.1); (case side3 => exact pkC (Kd.R_reads' HO_959006.out).2.2); (case side4 => rw [show t978.length = t954.length from (Kd.R_reads' HO_959006.out).1.symm]; exact (Kd.R_reads' HO_959006.out).2.1); rintro e w94 ⟨rfl, hb⟩; refine ⟨_, rfl, ?_⟩; have n0_ := Aside0.mk (Kd.R_below (pkR HO_934005.out) hb); have n1_ := Aside0.mk (Kd.R_below (pkR HO_934006.out) hb); have n2_ := Aside0.mk (Kd.R_below (pkR HO_946005.out) hb); have n3_ := Aside0.mk (Kd.R_below (pkR HO_946006.out) hb); have n4_ := Aside0.mk (Kd.R_below (pkR HO_959005.out) hb); have n5_ := Aside0.mk (Kd.R_below (pkR HO_959006.out) hb); have n6_ := Aside0.mk (blk_below (g := gb908) (o := .cells #[.int .i64 a0_0, .int .i64 a0_1, .string a0_2, .int .i64 a0_3, .bool a0_4, .slice A0_5 l0_5.length c0_5, .slice A0_6 l0_6.length c0_6] 56 (0, 0)) (pkK BK908.out) hb); have n7_ := Aside0.mk (blk_below (g := gb933) (o := .cells #[.int .i64 t921, .int .i64 t922, .string t923, .int .i64 t924, .bool t925, .slice Ao25 t926.length co25, .slice Ao26 t929.length co26] 29 (0, 0)) (pkK BK933.out) hb); have n8_ := Aside0.mk (blk_below (g := gb945) (o := .cells #[.int .i64 t934, .int .i64 t935, .string t936, .int .i64 t937, .bool t938, .slice Ao33 t973.length co33, .slice Ao34 t974.length co34] 29 (0, 0)) (pkK BK945.out) hb); have n9_ := Aside0.mk (blk_below (g := gb958) (o := .cells #[.int .i64 t946, .int .i64 t947, .string t948, .int .i64 t949, .bool t950, .slice Ao41 t951.length co41, .slice Ao42 t954.length co42] 29 (0, 0)) (pkK BK958.out) hb); have n10_ := Aside0.mk (below_step (by repeat (first | (with_reducible first | exact HB.out | apply below_alloc | apply pw_below_drewN | apply below_drew1 | refine below_set ?_ GE908.out | refine below_set ?_ GE933.out | refine below_set ?_ GE945.out | refine below_set ?_ GE958.out) | exact HB.out)) hb); clear HO_934005 HO_934006 HO_946005 HO_946006 HO_959005 HO_959006 BK908 BK933 BK945 BK958 HB; have HO_934005 := n0_; have HO_934006 := n1_; have HO_946005 := n2_; have HO_946006 := n3_; have HO_959005 := n4_; have HO_959006 := n5_; have BK908 := n6_; have BK933 := n7_; have BK945 := n8_; have BK958 := n9_; have HB := n10_; clear n0_ n1_ n2_ n3_ n4_ n5_ n6_ n7_ n8_ n9_ n10_; (try clear hb); (try clear hb2); (try clear hk); (try clear hi); have hnb95 := NB908_933.out; have hnc95 := NB933_908.out; have hnb96 := NB908_945.out; have hnc96 := NB945_908.out; have hcz97_0 : w94.cell? ⟨gb908, 0, none⟩ = some (.int .i64 a0_0) := (blk_cell BK908.out 0).trans rfl; have hcz97_1 : w94.cell? ⟨gb908, 1, none⟩ = some (.int .i64 a0_1) := (blk_cell BK908.out 1).trans rfl; have hcz97_2 : w94.cell? ⟨gb908, 2, none⟩ = some (.string a0_2) := (blk_cell BK908.out 2).trans rfl; have hcz97_3 : w94.cell? ⟨gb908, 3, none⟩ = some (.int .i64 a0_3) := (blk_cell BK908.out 3).trans rfl; have hcz97_4 : w94.cell? ⟨gb908, 4, none⟩ = some (.bool a0_4) := (blk_cell BK908.out 4).trans rfl; have hcz97_5 : w94.cell? ⟨gb908, 5, none⟩ = some (.slice A0_5 l0_5.length c0_5) := (blk_cell BK908.out 5).trans rfl; have hcz97_6 : w94.cell? ⟨gb908, 6, none⟩ = some (.slice A0_6 l0_6.length c0_6) := (blk_cell BK908.out 6).trans rfl; have hfz97_0 := blk_frozen BK908.out 0; have hfz97_1 := blk_frozen BK908.out 1; have hfz97_2 := blk_frozen BK908.out 2; have hfz97_3 := blk_frozen BK908.out 3; have hfz97_4 := blk_frozen BK908.out 4; have hfz97_5 := blk_frozen BK908.out 5; have hfz97_6 := blk_frozen BK908.out 6) | ((with_reducible refine gate_callee (f := 32) rfl ?_); refine goesL_ (some 83) rfl rfl Try.func32 (by kernel_rfl) rfl #[.agg #[.int .i64 a0_0, .int .i64 a0_1, .string a0_2, .int .i64 a0_3, .bool a0_4, .slice A0_5 l0_5.length c0_5, .slice A0_6 l0_6.length c0_6]] rfl (by (try simp only [List.map_toArray, List.map_cons, List.map_nil]); first | done | rfl | (simp only [List.length_drop, List.length_take]; rfl) | (go_simp; done) | (simp [*]; done)) ?_; (with_reducible refine (laws_toCell.calls kj57 a0_0 a0_1 a0_2 a0_3 a0_4 _ _ l0_5 _ _ l0_6 t980 t981 t982 t983 t984 t985 t988 _ ?side1 ?side2 ?side3 ?side4 A85.out).mono ?_); (case side1 => exact pkC (Kd.C_below HR0_5.out HB.out)); (case side2 => exact HC0_5.out); (case side3 => exact pkC (Kd.C_below HR0_6.out HB.out)); (case side4 => exact HC0_6.out); rintro e w98 ⟨v986, v989, rfl, ho0, ho1, hb⟩; refine ⟨_, rfl, ?_⟩; have n0_ := Aside0.mk (Kd.R_mono (Kd.R_told (Kd.R_told (Kd.R_old (pkR HO_934005.out) hb) (Kd.R_base ho0)) (Kd.R_base ho1)) (fun _ h_ => h_.1)); have n1_ := Aside0.mk (Kd.R_mono (Kd.R_told (Kd.R_told (Kd.R_old (pkR HO_934006.out) hb) (Kd.R_base ho0)) (Kd.R_base ho1)) (fun _ h_ => h_.1)); have n2_ := Aside0.mk (Kd.R_mono (Kd.R_told (Kd.R_told (Kd.R_old (pkR HO_946005.out) hb) (Kd.R_base ho0)) (Kd.R_base ho1)) (fun _ h_ => h_.1)); have n3_ := Aside0.mk (Kd.R_mono (Kd.R_told (Kd.R_told (Kd.R_old (pkR HO_946006.out) hb) (Kd.R_base ho0)) (Kd.R_base ho1)) (fun _ h_ => h_.1)); have n4_ := Aside0.mk (Kd.R_mono (Kd.R_told (Kd.R_told (Kd.R_old (pkR HO_959005.out) hb) (Kd.R_base ho0)) (Kd.R_base ho1)) (fun _ h_ => h_.1)); have n5_ := Aside0.mk (Kd.R_mono (Kd.R_told (Kd.R_told (Kd.R_old (pkR HO_959006.out) hb) (Kd.R_base ho0)) (Kd.R_base ho1)) (fun _ h_ => h_.1)); have n6_ := Aside0.mk (Kd.R_lower (Kd.R_new' (Kd.R_new' (Kd.R_new' (Kd.R_new' (Kd.R_new' (Kd.R_new' ho0 (Kd.R_lt (pkR HO_934005.out))) (Kd.R_lt (pkR HO_934006.out))) (Kd.R_lt (pkR HO_946005.out))) (Kd.R_lt (pkR HO_946006.out))) (Kd.R_lt (pkR HO_959005.out))) (Kd.R_lt (pkR HO_959006.out))) (below_size (by repeat (first | (with_reducible first | exact HB.out | apply below_alloc | apply pw_below_drewN | apply below_drew1 | refine below_set ?_ GE908.out | refine below_set ?_ GE933.out | refine below_set ?_ GE945.out | refine below_set ?_ GE958.out) | exact HB.out)))); have n7_ := Aside0.mk (Kd.R_lower (Kd.R_new' (Kd.R_new' (Kd.R_new' (Kd.R_new' (Kd.R_new' (Kd.R_new' ho1 (Kd.R_lt (pkR HO_934005.out))) (Kd.R_lt (pkR HO_934006.out))) (Kd.R_lt (pkR HO_946005.out))) (Kd.R_lt (pkR HO_946006.out))) (Kd.R_lt (pkR HO_959005.out))) (Kd.R_lt (pkR HO_959006.out))) (below_size (by repeat (first | (with_reducible first | exact HB.out | apply below_alloc | apply pw_below_drewN | apply below_drew1 | refine below_set ?_ GE908.out | refine below_set ?_ GE933.out | refine below_set ?_ GE945.out | refine below_set ?_ GE958.out) | exact HB.out)))); have n8_ := Aside0.mk (blk_below (g := gb908) (o := .cells #[.int .i64 a0_0, .int .i64 a0_1, .string a0_2, .int .i64 a0_3, .bool a0_4, .slice A0_5 l0_5.length c0_5, .slice A0_6 l0_6.length c0_6] 56 (0, 0)) (pkK BK908.out) hb); have n9_ := Aside0.mk (blk_below (g := gb933) (o := .cells #[.int .i64 t921, .int .i64 t922, .string t923, .int .i64 t924, .bool t925, .slice Ao25 t926.length co25, .slice Ao26 t929.length co26] 29 (0, 0)) (pkK BK933.out) hb); have n10_ := Aside0.mk (blk_below (g := gb945) (o := .cells #[.int .i64 t934, .int .i64 t935, .string t936, .int .i64 t937, .bool t938, .slice Ao33 t973.length co33, .slice Ao34 t974.length co34] 29 (0, 0)) (pkK BK945.out) hb); have n11_ := Aside0.mk (blk_below (g := gb958) (o := .cells #[.int .i64 t946, .int .i64 t947, .string t948, .int .i64 t949, .bool t950, .slice Ao41 t951.length co41, .slice Ao42 t954.length co42] 29 (0, 0)) (pkK BK958.out) hb); have n12_ := Aside0.mk (below_step (by repeat (first | (with_reducible first | exact HB.out | apply below_alloc | apply pw_below_drewN | apply below_drew1 | refine below_set ?_ GE908.out | refine below_set ?_ GE933.out | refine below_set ?_ GE945.out | refine below_set ?_ GE958.out) | exact HB.out)) hb); clear HO_934005 HO_934006 HO_946005 HO_946006 HO_959005 HO_959006 BK908 BK933 BK945 BK958 HB; have HO_934005 := n0_; have HO_934006 := n1_; have HO_946005 := n2_; have HO_946006 := n3_; have HO_959005 := n4_; have HO_959006 := n5_; have HO987 := n6_; have HO990 := n7_; have BK908 := n8_; have BK933 := n9_; have BK945 := n10_; have BK958 := n11_; have HB := n12_; clear n0_ n1_ n2_ n3_ n4_ n5_ n6_ n7_ n8_ n9_ n10_ n11_ n12_; (try clear hb); (try clear hb2); (try clear hk); (try clear hi); (try clear ho0); (try clear ho1); obtain ⟨Ao99, co99, eo99⟩ := Kd.R_slice HO987.out; subst eo99; obtain ⟨Ao100, co100, eo100⟩ := Kd.R_slice HO990.out; subst eo100) | ((with_reducible refine gate_callee (f := 20) rfl ?_); refine goesL_ (some 86) rfl rfl Try.func20 (by kernel_rfl) rfl #[.agg #[.int .i64 t980, .int .i64 t981, .string t982, .int .i64 t983, .bool t984, .slice Ao99 t985.length co99, .slice Ao100 t988.length co100], .int .i64 a1, .int .i64 a2] rfl (by (try simp only [List.map_toArray, List.map_cons, List.map_nil]); first | done | rfl | (simp only [List.length_drop, List.length_take]; rfl) | (go_simp; done) | (simp [*]; done)) ?_; (with_reducible refine (impl_Watch.calls kj57 t980 t981 t982 t983 t984 _ _ t985 _ _ t988 a1 a2 t991 t992 t993 t994 t995 t996 t999 t1002 _ ?side1 ?side2 ?side3 ?side4 A86.out).mono ?_); (case side1 => exact pkC (Kd.R_reads' HO987.out).2.2); (case side2 => exact (Kd.R_reads' HO987.out).2.1); (case side3 => exact pkC (Kd.R_reads' HO990.out).2.2); (case side4 => exact (Kd.R_reads' HO990.out).2.1); rintro e w101 ⟨v997, v1000, rfl, ho0, ho1, hb⟩; refine ⟨_, rfl, ?_⟩; have n0_ := Aside0.mk (Kd.R_mono (Kd.R_told (Kd.R_told (Kd.R_old (pkR HO_934005.out) hb) (Kd.R_base ho0)) (Kd.R_base ho1)) (fun _ h_ => h_.1)); have n1_ := Aside0.mk (Kd.R_mono (Kd.R_told (Kd.R_told (Kd.R_old (pkR HO_934006.out) hb) (Kd.R_base ho0)) (Kd.R_base ho1)) (fun _ h_ => h_.1)); have n2_ := Aside0.mk (Kd.R_mono (Kd.R_told (Kd.R_told (Kd.R_old (pkR HO_946005.out) hb) (Kd.R_base ho0)) (Kd.R_base ho1)) (fun _ h_ => h_.1)); have n3_ := Aside0.mk (Kd.R_mono (Kd.R_told (Kd.R_told (Kd.R_old (pkR HO_946006.out) hb) (Kd.R_base ho0)) (Kd.R_base ho1)) (fun _ h_ => h_.1)); have n4_ := Aside0.mk (Kd.R_mono (Kd.R_told (Kd.R_told (Kd.R_old (pkR HO_959005.out) hb) (Kd.R_base ho0)) (Kd.R_base ho1)) (fun _ h_ => h_.1)); have n5_ := Aside0.mk (Kd.R_mono (Kd.R_told (Kd.R_told (Kd.R_old (pkR HO_959006.out) hb) (Kd.R_base ho0)) (Kd.R_base ho1)) (fun _ h_ => h_.1)); have n6_ := Aside0.mk (Kd.R_mono (Kd.R_told (Kd.R_told (Kd.R_old (pkR HO987.out) hb) (Kd.R_base ho0)) (Kd.R_base ho1)) (fun _ h_ => h_.1)); have n7_ := Aside0.mk (Kd.R_mono (Kd.R_told (Kd.R_told (Kd.R_old (pkR HO990.out) hb) (Kd.R_base ho0)) (Kd.R_base ho1)) (fun _ h_ => h_.1)); have n8_ := Aside0.mk (Kd.R_lower (Kd.R_new' (Kd.R_new' (Kd.R_new' (Kd.R_new' (Kd.R_new' (Kd.R_new' (Kd.R_new' (Kd.R_new' ho0 (Kd.R_lt (pkR HO_934005.out))) (Kd.R_lt (pkR HO_934006.out))) (Kd.R_lt (pkR HO_946005.out))) (Kd.R_lt (pkR HO_946006.out))) (Kd.R_lt (pkR HO_959005.out))) (Kd.R_lt (pkR HO_959006.out))) (Kd.R_lt (pkR HO987.out))) (Kd.R_lt (pkR HO990.out))) (below_size (by repeat (first | (with_reducible first | exact HB.out | apply below_alloc | apply pw_below_drewN | apply below_drew1 | refine below_set ?_ GE908.out | refine below_set ?_ GE933.out | refine below_set ?_ GE945.out | refine below_set ?_ GE958.out) | exact HB.out)))); have n9_ := Aside0.mk (Kd.R_lower (Kd.R_new' (Kd.R_new' (Kd.R_new' (Kd.R_new' (Kd.R_new' (Kd.R_new' (Kd.R_new' (Kd.R_new' ho1 (Kd.R_lt (pkR HO_934005.out))) (Kd.R_lt (pkR HO_934006.out))) (Kd.R_lt (pkR HO_946005.out))) (Kd.R_lt (pkR HO_946006.out))) (Kd.R_lt (pkR HO_959005.out))) (Kd.R_lt (pkR HO_959006.out))) (Kd.R_lt (pkR HO987.out))) (Kd.R_lt (pkR HO990.out))) (below_size (by repeat (first | (with_reducible first | exact HB.out | apply below_alloc | apply pw_below_drewN | apply below_drew1 | refine below_set ?_ GE908.out | refine below_set ?_ GE933.out | refine below_set ?_ GE945.out | refine below_set ?_ GE958.out) | exact HB.out)))); have n10_ := Aside0.mk (blk_below (g := gb908) (o := .cells #[.int .i64 a0_0, .int .i64 a0_1, .string a0_2, .int .i64 a0_3, .bool a0_4, .slice A0_5 l0_5.length c0_5, .slice A0_6 l0_6.length c0_6] 56 (0, 0)) (pkK BK908.out) hb); have n11_ := Aside0.mk (blk_below (g := gb933) (o := .cells #[.int .i64 t921, .int .i64 t922, .string t923, .int .i64 t924, .bool t925, .slice Ao25 t926.length co25, .slice Ao26 t929.length co26] 29 (0, 0)) (pkK BK933.out) hb); have n12_ := Aside0.mk (blk_below (g := gb945) (o := .cells #[.int .i64 t934, .int .i64 t935, .string t936, .int .i64 t937, .bool t938, .slice Ao33 t973.length co33, .slice Ao34 t974.length co34] 29 (0, 0)) (pkK BK945.out) hb); have n13_ := Aside0.mk (blk_below (g := gb958) (o := .cells #[.int .i64 t946, .int .i64 t947, .string t948, .int .i64 t949, .bool t950, .slice Ao41 t951.length co41, .slice Ao42 t954.length co42] 29 (0, 0)) (pkK BK958.out) hb); have n14_ := Aside0.mk (below_step (by repeat (first | (with_reducible first | exact HB.out | apply below_alloc | apply pw_below_drewN | apply below_drew1 | refine below_set ?_ GE908.out | refine below_set ?_ GE933.out | refine below_set ?_ GE945.out | refine below_set ?_ GE958.out) | exact HB.out)) hb); clear HO_934005 HO_934006 HO_946005 HO_946006 HO_959005 HO_959006 HO987 HO990 BK908 BK933 BK945 BK958 HB; have HO_934005 := n0_; have HO_934006 := n1_; have HO_946005 := n2_; have HO_946006 := n3_; have HO_959005 := n4_; have HO_959006 := n5_; have HO987 := n6_; have HO990 := n7_; have HO998 := n8_; have HO1001 := n9_; have BK908 := n10_; have BK933 := n11_; have BK945 := n12_; have BK958 := n13_; have HB := n14_; clear n0_ n1_ n2_ n3_ n4_ n5_ n6_ n7_ n8_ n9_ n10_ n11_ n12_ n13_ n14_; (try clear hb); (try clear hb2); (try clear hk); (try clear hi); (try clear ho0); (try clear ho1)) | ((with_reducible refine gate_dst (N := 16) rfl ?_); refine box_event ?hg (N := 16) ?hd (cs := #[.int .i64 0, .int .i64 0, .string (⟨#[]⟩ : ByteArray), .int .i64 0, .bool false, .slice none 0 0, .slice none 0 0]) (t := 29) ?hr ?_; (case hd => rfl); (case hg => rfl); (case hr => first | (go_simp; done) | (go_simp; rfl)); intro gb1003 hg w102 hbox hb; have n0_ := Aside0.mk (Kd.R_below (pkR HO_934005.out) hb); have n1_ := Aside0.mk (Kd.R_below (pkR HO_934006.out) hb); have n2_ := Aside0.mk (Kd.R_below (pkR HO_946005.out) hb); have n3_ := Aside0.mk (Kd.R_below (pkR HO_946006.out) hb); have n4_ := Aside0.mk (Kd.R_below (pkR HO_959005.out) hb); have n5_ := Aside0.mk (Kd.R_below (pkR HO_959006.out) hb); have n6_ := Aside0.mk (Kd.R_below (pkR HO987.out) hb); have n7_ := Aside0.mk (Kd.R_below (pkR HO990.out) hb); have n8_ := Aside0.mk (Kd.R_below (pkR HO998.out) hb); have n9_ := Aside0.mk (Kd.R_below (pkR HO1001.out) hb); have n10_ := Aside0.mk (blk_below (g := gb908) (o := .cells #[.int .i64 a0_0, .int .i64 a0_1, .string a0_2, .int .i64 a0_3, .bool a0_4, .slice A0_5 l0_5.length c0_5, .slice A0_6 l0_6.length c0_6] 56 (0, 0)) (pkK BK908.out) hb); have n11_ := Aside0.mk (blk_below (g := gb933) (o := .cells #[.int .i64 t921, .int .i64 t922, .string t923, .int .i64 t924, .bool t925, .slice Ao25 t926.length co25, .slice Ao26 t929.length co26] 29 (0, 0)) (pkK BK933.out) hb); have n12_ := Aside0.mk (blk_below (g := gb945) (o := .cells #[.int .i64 t934, .int .i64 t935, .string t936, .int .i64 t937, .bool t938, .slice Ao33 t973.length co33, .slice Ao34 t974.length co34] 29 (0, 0)) (pkK BK945.out) hb); have n13_ := Aside0.mk (blk_below (g := gb958) (o := .cells #[.int .i64 t946, .int .i64 t947, .string t948, .int .i64 t949, .bool t950, .slice Ao41 t951.length co41, .slice Ao42 t954.length co42] 29 (0, 0)) (pkK BK958.out) hb); have n14_ := Aside0.mk (below_step (by repeat (first | (with_reducible first | exact HB.out | apply below_alloc | apply pw_below_drewN | apply below_drew1 | refine below_set ?_ GE908.out | refine below_set ?_ GE933.out | refine below_set ?_ GE945.out | refine below_set ?_ GE958.out) | exact HB.out)) hb); have n15_ := Aside0.mk (hbox); have n16_ := Aside0.mk ((by rw [hg]; exact (below_size (by repeat (first | (with_reducible first | exact HB.out | apply below_alloc | apply pw_below_drewN | apply below_drew1 | refine below_set ?_ GE908.out | refine below_set ?_ GE933.out | refine below_set ?_ GE945.out | refine below_set ?_ GE958.out) | exact HB.out))) : w.heap.size ≤ gb1003)); have n17_ := Aside0.mk ((by rw [hg]; exact (below_size (by repeat (first | (with_reducible first | exact HB.out | apply below_alloc | apply pw_below_drewN | apply below_drew1 | refine below_set ?_ GE908.out | refine below_set ?_ GE933.out | refine below_set ?_ GE945.out | refine below_set ?_ GE958.out) | exact HB.out))) : w.heap.size ≤ gb1003)); have n18_ := Aside0.mk ((by rw [hg]; exact Nat.ne_of_lt (blk_lt (g := gb908) (o := .cells #[.int .i64 a0_0, .int .i64 a0_1, .string a0_2, .int .i64 a0_3, .bool a0_4, .slice A0_5 l0_5.length c0_5, .slice A0_6 l0_6.length c0_6] 56 (0, 0)) (pkK BK908.out)) : gb908 ≠ gb1003)); have n19_ := Aside0.mk ((by rw [hg]; exact Nat.ne_of_gt (blk_lt (g := gb908) (o := .cells #[.int .i64 a0_0, .int .i64 a0_1, .string a0_2, .int .i64 a0_3, .bool a0_4, .slice A0_5 l0_5.length c0_5, .slice A0_6 l0_6.length c0_6] 56 (0, 0)) (pkK BK908.out)) : gb1003 ≠ gb908)); have n20_ := Aside0.mk ((by rw [hg]; exact Nat.ne_of_lt (blk_lt (g := gb933) (o := .cells #[.int .i64 t921, .int .i64 t922, .string t923, .int .i64 t924, .bool t925, .slice Ao25 t926.length co25, .slice Ao26 t929.length co26] 29 (0, 0)) (pkK BK933.out)) : gb933 ≠ gb1003)); have n21_ := Aside0.mk ((by rw [hg]; exact Nat.ne_of_gt (blk_lt (g := gb933) (o := .cells #[.int .i64 t921, .int .i64 t922, .string t923, .int .i64 t924, .bool t925, .slice Ao25 t926.length co25, .slice Ao26 t929.length co26] 29 (0, 0)) (pkK BK933.out)) : gb1003 ≠ gb933)); have n22_ := Aside0.mk ((by rw [hg]; exact Nat.ne_of_lt (blk_lt (g := gb945) (o := .cells #[.int .i64 t934, .int .i64 t935, .string t936, .int .i64 t937, .bool t938, .slice Ao33 t973.length co33, .slice Ao34 t974.length co34] 29 (0, 0)) (pkK BK945.out)) : gb945 ≠ gb1003)); have n23_ := Aside0.mk ((by rw [hg]; exact Nat.ne_of_gt (blk_lt (g := gb945) (o := .cells #[.int .i64 t934, .int .i64 t935, .string t936, .int .i64 t937, .bool t938, .slice Ao33 t973.length co33, .slice Ao34 t974.length co34] 29 (0, 0)) (pkK BK945.out)) : gb1003 ≠ gb945)); have n24_ := Aside0.mk ((by rw [hg]; exact Nat.ne_of_lt (blk_lt (g := gb958) (o := .cells #[.int .i64 t946, .int .i64 t947, .string t948, .int .i64 t949, .bool t950, .slice Ao41 t951.length co41, .slice Ao42 t954.length co42] 29 (0, 0)) (pkK BK958.out)) : gb958 ≠ gb1003)); have n25_ := Aside0.mk ((by rw [hg]; exact Nat.ne_of_gt (blk_lt (g := gb958) (o := .cells #[.int .i64 t946, .int .i64 t947, .string t948, .int .i64 t949, .bool t950, .slice Ao41 t951.length co41, .slice Ao42 t954.length co42] 29 (0, 0)) (pkK BK958.out)) : gb1003 ≠ gb958)); clear HO_934005 HO_934006 HO_946005 HO_946006 HO_959005 HO_959006 HO987 HO990 HO998 HO1001 BK908 BK933 BK945 BK958 HB; have HO_934005 := n0_; have HO_934006 := n1_; have HO_946005 := n2_; have HO_946006 := n3_; have HO_959005 := n4_; have HO_959006 := n5_; have HO987 := n6_; have HO990 := n7_; have HO998 := n8_; have HO1001 := n9_; have BK908 := n10_; have BK933 := n11_; have BK945 := n12_; have BK958 := n13_; have HB := n14_; have BK1003 := n15_; have GW1003 := n16_; have GE1003 := n17_; have NB908_1003 := n18_; have NB1003_908 := n19_; have NB933_1003 := n20_; have NB1003_933 := n21_; have NB945_1003 := n22_; have NB1003_945 := n23_; have NB958_1003 := n24_; have NB1003_958 := n25_; clear n0_ n1_ n2_ n3_ n4_ n5_ n6_ n7_ n8_ n9_ n10_ n11_ n12_ n13_ n14_ n15_ n16_ n17_ n18_ n19_ n20_ n21_ n22_ n23_ n24_ n25_; clear hb hbox hg; have hnb103 := NB1003_908.out; have hnc103 := NB908_1003.out; have hnb104 := NB1003_933.out; have hnc104 := NB933_1003.out; have hnb105 := NB1003_945.out; have hnc105 := NB945_1003.out; have hnb106 := NB1003_958.out; have hnc106 := NB958_1003.out; have hcz107_0 : w102.cell? ⟨gb1003, 0, none⟩ = some (.int .i64 0) := (blk_cell BK1003.out 0).trans rfl; have hcz107_1 : w102.cell? ⟨gb1003, 1, none⟩ = some (.int .i64 0) := (blk_cell BK1003.out 1).trans rfl; have hcz107_2 : w102.cell? ⟨gb1003, 2, none⟩ = some (.string (⟨#[]⟩ : ByteArray)) := (blk_cell BK1003.out 2).trans rfl; have hcz107_3 : w102.cell? ⟨gb1003, 3, none⟩ = some (.int .i64 0) := (blk_cell BK1003.out 3).trans rfl; have hcz107_4 : w102.cell? ⟨gb1003, 4, none⟩ = some (.bool false) := (blk_cell BK1003.out 4).trans rfl; have hcz107_5 : w102.cell? ⟨gb1003, 5, none⟩ = some (.slice none 0 0) := (blk_cell BK1003.out 5).trans rfl; have hcz107_6 : w102.cell? ⟨gb1003, 6, none⟩ = some (.slice none 0 0) := (blk_cell BK1003.out 6).trans rfl; have hfz107_0 := blk_frozen BK1003.out 0; have hfz107_1 := blk_frozen BK1003.out 1; have hfz107_2 := blk_frozen BK1003.out 2; have hfz107_3 := blk_frozen BK1003.out 3; have hfz107_4 := blk_frozen BK1003.out 4; have hfz107_5 := blk_frozen BK1003.out 5; have hfz107_6 := blk_frozen BK1003.out 6; obtain ⟨Ao108, co108, eo108⟩ := Kd.R_slice HO998.out; subst eo108; obtain ⟨Ao109, co109, eo109⟩ := Kd.R_slice HO1001.out; subst eo109))
                      (try simp only [Act.put, List.setIfInBounds_toArray, List.set_cons_zero, List.set_cons_succ])
                      go_cut [97] (fun v97 wc => ∃ (kq : Nat) (x97_86 : Bool), v97 = .bool x97_86 ∧ Aside0 (laws_FnExactWatch.j2 kq t976 x97_86 t946 t947 t948 t949 t950 t977 t978 = some r) ∧ Aside0 (kq ≤ kj57) ∧ Aside0 (Kd.R (Kd.int .i64) 3 wc w.heap.size (fun k_ => some k_ ≠ ((.slice Ao26 t929.length co26) : Value).ownBlock ∧ some k_ ≠ ((.slice Ao33 t973.length co33) : Value).ownBlock ∧ some k_ ≠ ((.slice Ao34 t974.length co34) : Value).ownBlock ∧ some k_ ≠ ((.slice Ao41 t951.length co41) : Value).ownBlock ∧ some k_ ≠ ((.slice Ao42 t954.length co42) : Value).ownBlock ∧ some k_ ≠ ((.slice Ao108 t996.length co108) : Value).ownBlock ∧ some k_ ≠ ((.slice Ao109 t999.length co109) : Value).ownBlock) (.slice Ao25 t926.length co25) t926) ∧ Aside0 (Kd.R (Kd.int .i64) 3 wc w.heap.size (fun k_ => some k_ ≠ ((.slice Ao25 t926.length co25) : Value).ownBlock ∧ some k_ ≠ ((.slice Ao33 t973.length co33) : Value).ownBlock ∧ some k_ ≠ ((.slice Ao34 t974.length co34) : Value).ownBlock ∧ some k_ ≠ ((.slice Ao41 t951.length co41) : Value).ownBlock ∧ some k_ ≠ ((.slice Ao42 t954.length co42) : Value).ownBlock ∧ some k_ ≠ ((.slice Ao108 t996.length co108) : Value).ownBlock ∧ some k_ ≠ ((.slice Ao109 t999.length co109) : Value).ownBlock) (.slice Ao26 t929.length co26) t929) ∧ Aside0 (Kd.R (Kd.int .i64) 3 wc w.heap.size (fun k_ => some k_ ≠ ((.slice Ao25 t926.length co25) : Value).ownBlock ∧ some k_ ≠ ((.slice Ao26 t929.length co26) : Value).ownBlock ∧ some k_ ≠ ((.slice Ao34 t974.length co34) : Value).ownBlock ∧ some k_ ≠ ((.slice Ao41 t951.length co41) : Value).ownBlock ∧ some k_ ≠ ((.slice Ao42 t954.length co42) : Value).ownBlock ∧ some k_ ≠ ((.slice Ao108 t996.length co108) : Value).ownBlock ∧ some k_ ≠ ((.slice Ao109 t999.length co109) : Value).ownBlock) (.slice Ao33 t973.length co33) t973) ∧ Aside0 (Kd.R (Kd.int .i64) 3 wc w.heap.size (fun k_ => some k_ ≠ ((.slice Ao25 t926.length co25) : Value).ownBlock ∧ some k_ ≠ ((.slice Ao26 t929.length co26) : Value).ownBlock ∧ some k_ ≠ ((.slice Ao33 t973.length co33) : Value).ownBlock ∧ some k_ ≠ ((.slice Ao41 t951.length co41) : Value).ownBlock ∧ some k_ ≠ ((.slice Ao42 t954.length co42) : Value).ownBlock ∧ some k_ ≠ ((.slice Ao108 t996.length co108) : Value).ownBlock ∧ some k_ ≠ ((.slice Ao109 t999.length co109) : Value).ownBlock) (.slice Ao34 t974.length co34) t974) ∧ Aside0 (Kd.R (Kd.int .i64) 3 wc w.heap.size (fun k_ => some k_ ≠ ((.slice Ao25 t926.length co25) : Value).ownBlock ∧ some k_ ≠ ((.slice Ao26 t929.length co26) : Value).ownBlock ∧ some k_ ≠ ((.slice Ao33 t973.length co33) : Value).ownBlock ∧ some k_ ≠ ((.slice Ao34 t974.length co34) : Value).ownBlock ∧ some k_ ≠ ((.slice Ao42 t954.length co42) : Value).ownBlock ∧ some k_ ≠ ((.slice Ao108 t996.length co108) : Value).ownBlock ∧ some k_ ≠ ((.slice Ao109 t999.length co109) : Value).ownBlock) (.slice Ao41 t951.length co41) t977) ∧ Aside0 (Kd.R (Kd.int .i64) 3 wc w.heap.size (fun k_ => some k_ ≠ ((.slice Ao25 t926.length co25) : Value).ownBlock ∧ some k_ ≠ ((.slice Ao26 t929.length co26) : Value).ownBlock ∧ some k_ ≠ ((.slice Ao33 t973.length co33) : Value).ownBlock ∧ some k_ ≠ ((.slice Ao34 t974.length co34) : Value).ownBlock ∧ some k_ ≠ ((.slice Ao41 t951.length co41) : Value).ownBlock ∧ some k_ ≠ ((.slice Ao108 t996.length co108) : Value).ownBlock ∧ some k_ ≠ ((.slice Ao109 t999.length co109) : Value).ownBlock) (.slice Ao42 t954.length co42) t978) ∧ Aside0 (Kd.R (Kd.int .i64) 3 wc w.heap.size (fun k_ => some k_ ≠ ((.slice Ao25 t926.length co25) : Value).ownBlock ∧ some k_ ≠ ((.slice Ao26 t929.length co26) : Value).ownBlock ∧ some k_ ≠ ((.slice Ao33 t973.length co33) : Value).ownBlock ∧ some k_ ≠ ((.slice Ao34 t974.length co34) : Value).ownBlock ∧ some k_ ≠ ((.slice Ao41 t951.length co41) : Value).ownBlock ∧ some k_ ≠ ((.slice Ao42 t954.length co42) : Value).ownBlock ∧ some k_ ≠ ((.slice Ao109 t999.length co109) : Value).ownBlock) (.slice Ao108 t996.length co108) t996) ∧ Aside0 (Kd.R (Kd.int .i64) 3 wc w.heap.size (fun k_ => some k_ ≠ ((.slice Ao25 t926.length co25) : Value).ownBlock ∧ some k_ ≠ ((.slice Ao26 t929.length co26) : Value).ownBlock ∧ some k_ ≠ ((.slice Ao33 t973.length co33) : Value).ownBlock ∧ some k_ ≠ ((.slice Ao34 t974.length co34) : Value).ownBlock ∧ some k_ ≠ ((.slice Ao41 t951.length co41) : Value).ownBlock ∧ some k_ ≠ ((.slice Ao42 t954.length co42) : Value).ownBlock ∧ some k_ ≠ ((.slice Ao108 t996.length co108) : Value).ownBlock) (.slice Ao109 t999.length co109) t999) ∧ Aside0 (wc.heap[gb908]? = some (.cells #[.int .i64 a0_0, .int .i64 a0_1, .string a0_2, .int .i64 a0_3, .bool a0_4, (.slice A0_5 l0_5.length c0_5), (.slice A0_6 l0_6.length c0_6)] 56 (0, 0))) ∧ Aside0 (wc.heap[gb933]? = some (.cells #[.int .i64 t921, .int .i64 t922, .string t923, .int .i64 t924, .bool t925, (.slice Ao25 t926.length co25), (.slice Ao26 t929.length co26)] 29 (0, 0))) ∧ Aside0 (wc.heap[gb945]? = some (.cells #[.int .i64 t934, .int .i64 t935, .string t936, .int .i64 t937, .bool t938, (.slice Ao33 t973.length co33), (.slice Ao34 t974.length co34)] 29 (0, 0))) ∧ Aside0 (wc.heap[gb958]? = some (.cells #[.int .i64 t946, .int .i64 t947, .string t948, .int .i64 t949, .bool t950, (.slice Ao41 t951.length co41), (.slice Ao42 t954.length co42)] 29 (0, 0))) ∧ Aside0 (wc.heap[gb1003]? = some (.cells #[.int .i64 t991, .int .i64 t992, .string t993, .int .i64 t994, .bool t995, (.slice Ao108 t996.length co108), (.slice Ao109 t999.length co109)] 29 (0, 0))) ∧ Aside0 (Below w.heap.size w wc))
                      case first =>
                        have H := HC87.out
                        clear HC87
                        replace H := Option.bind_eq_some_iff.mp H
                        obtain ⟨t1004, A1100, H⟩ := H
                        replace H : (if t1004 = true then (laws_FnExactWatch.j2 kj57 t976 (t1002 != t932) t946 t947 t948 t949 t950 t977 t978) else (laws_FnExactWatch.j2 kj57 t976 true t946 t947 t948 t949 t950 t977 t978)) = some r := H
                        have A110 := Aside0.mk A1100
                        clear A1100
                        by_cases c111 : t1004 = true
                        · subst c111
                          have H1 : (laws_FnExactWatch.j2 kj57 t976 (t1002 != t932) t946 t947 t948 t949 t950 t977 t978) = some r := by rw [if_pos rfl] at H; exact H
                          clear H
                          have H := H1
                          clear H1
                          have H' := Aside0.mk H
                          clear H
                          have hnb112 := NB1003_908.out
                          have hnc112 := NB908_1003.out
                          have hnb113 := NB1003_933.out
                          have hnc113 := NB933_1003.out
                          have hnb114 := NB1003_945.out
                          have hnc114 := NB945_1003.out
                          have hnb115 := NB1003_958.out
                          have hnc115 := NB958_1003.out
                          have hcz116_0 : w102.cell? ⟨gb1003, 0, none⟩ = some (.int .i64 0) := (blk_cell BK1003.out 0).trans rfl
                          have hcz116_1 : w102.cell? ⟨gb1003, 1, none⟩ = some (.int .i64 0) := (blk_cell BK1003.out 1).trans rfl
                          have hcz116_2 : w102.cell? ⟨gb1003, 2, none⟩ = some (.string (⟨#[]⟩ : ByteArray)) := (blk_cell BK1003.out 2).trans rfl
                          have hcz116_3 : w102.cell? ⟨gb1003, 3, none⟩ = some (.int .i64 0) := (blk_cell BK1003.out 3).trans rfl
                          have hcz116_4 : w102.cell? ⟨gb1003, 4, none⟩ = some (.bool false) := (blk_cell BK1003.out 4).trans rfl
                          have hcz116_5 : w102.cell? ⟨gb1003, 5, none⟩ = some (.slice none 0 0) := (blk_cell BK1003.out 5).trans rfl
                          have hcz116_6 : w102.cell? ⟨gb1003, 6, none⟩ = some (.slice none 0 0) := (blk_cell BK1003.out 6).trans rfl
                          have hfz116_0 := blk_frozen BK1003.out 0
                          have hfz116_1 := blk_frozen BK1003.out 1
                          have hfz116_2 := blk_frozen BK1003.out 2
                          have hfz116_3 := blk_frozen BK1003.out 3
                          have hfz116_4 := blk_frozen BK1003.out 4
                          have hfz116_5 := blk_frozen BK1003.out 5
                          have hfz116_6 := blk_frozen BK1003.out 6
                          have hnb117 := NB933_908.out
                          have hnc117 := NB908_933.out
                          have hnb118 := NB933_945.out
                          have hnc118 := NB945_933.out
                          have hnb119 := NB933_958.out
                          have hnc119 := NB958_933.out
                          have hcz120_0 : w102.cell? ⟨gb933, 0, none⟩ = some (.int .i64 t921) := (blk_cell BK933.out 0).trans rfl
                          have hcz120_1 : w102.cell? ⟨gb933, 1, none⟩ = some (.int .i64 t922) := (blk_cell BK933.out 1).trans rfl
                          have hcz120_2 : w102.cell? ⟨gb933, 2, none⟩ = some (.string t923) := (blk_cell BK933.out 2).trans rfl
                          have hcz120_3 : w102.cell? ⟨gb933, 3, none⟩ = some (.int .i64 t924) := (blk_cell BK933.out 3).trans rfl
                          have hcz120_4 : w102.cell? ⟨gb933, 4, none⟩ = some (.bool t925) := (blk_cell BK933.out 4).trans rfl
                          have hcz120_5 : w102.cell? ⟨gb933, 5, none⟩ = some (.slice Ao25 t926.length co25) := (blk_cell BK933.out 5).trans rfl
                          have hcz120_6 : w102.cell? ⟨gb933, 6, none⟩ = some (.slice Ao26 t929.length co26) := (blk_cell BK933.out 6).trans rfl
                          have hfz120_0 := blk_frozen BK933.out 0
                          have hfz120_1 := blk_frozen BK933.out 1
                          have hfz120_2 := blk_frozen BK933.out 2
                          have hfz120_3 := blk_frozen BK933.out 3
                          have hfz120_4 := blk_frozen BK933.out 4
                          have hfz120_5 := blk_frozen BK933.out 5
                          have hfz120_6 := blk_frozen BK933.out 6
                          go_wp2_with (first | ((with_reducible refine gate_callee (f := 34) rfl ?_); refine goesL_ (some 91) rfl rfl Try.func34 (by kernel_rfl) rfl #[.agg #[.int .i64 t991, .int .i64 t992, .string t993, .int .i64 t994, .bool t995, .slice Ao108 t996.length co108, .slice Ao109 t999.length co109], .agg #[.int .i64 t921, .int .i64 t922, .string t923, .int .i64 t924, .bool t925, .slice Ao25 t926.length co25, .slice Ao26 t929.length co26]] rfl (by (try simp only [List.map_toArray, List.map_cons, List.map_nil]); first | done | rfl | (simp only [List.length_drop, List.length_take]; rfl) | (go_simp; done) | (simp [*]; done)) ?_; (with_reducible refine (laws_eqCell.calls kj57 t991 t992 t993 t994 t995 _ _ t996 _ _ t999 t921 t922 t923 t924 t925 _ _ t926 _ _ t929 true _ ?side1 ?side2 ?side3 ?side4 ?side5 ?side6 ?side7 ?side8 A110.out).mono ?_); (case side1 => refine (Kd.R_reads' (e := 3) (base := w.heap.size) (ok := fun k_ => ((((((((some k_ ≠ (.slice Ao109 t999.length co109 : Value).ownBlock ∧ some k_ ≠ (.slice Ao25 t926.length co25 : Value).ownBlock) ∧ some k_ ≠ (.slice Ao26 t929.length co26 : Value).ownBlock) ∧ some k_ ≠ (.slice Ao33 t973.length co33 : Value).ownBlock) ∧ some k_ ≠ (.slice Ao34 t974.length co34 : Value).ownBlock) ∧ some k_ ≠ (.slice Ao41 t951.length co41 : Value).ownBlock) ∧ some k_ ≠ (.slice Ao42 t954.length co42 : Value).ownBlock) ∧ some k_ ≠ (.slice Ao99 t985.length co99 : Value).ownBlock) ∧ some k_ ≠ (.slice Ao100 t988.length co100 : Value).ownBlock)) (n := t996.length) (c := co108) ?_).2.2; exact (by (with_reducible repeat (first | apply Kd.R_alloc | apply Kd.R_drewN | apply Kd.R_drew)); exact (Kd.R_mono (Kd.R_far (p := ⟨gb1003, 6, none⟩) (Kd.R_far (p := ⟨gb1003, 5, none⟩) (Kd.R_far (p := ⟨gb1003, 4, none⟩) (Kd.R_far (p := ⟨gb1003, 3, none⟩) (Kd.R_far (p := ⟨gb1003, 2, none⟩) (Kd.R_far (p := ⟨gb1003, 1, none⟩) (Kd.R_far (p := ⟨gb1003, 0, none⟩) (Kd.R_types HO998.out BK1003.out (by decide)) (fun _ hk => hk.2) (.int .i64 t991)) (fun _ hk => hk.2) (.int .i64 t992)) (fun _ hk => hk.2) (.string t993)) (fun _ hk => hk.2) (.int .i64 t994)) (fun _ hk => hk.2) (.bool t995)) (fun _ hk => hk.2) (.slice Ao108 t996.length co108)) (fun _ hk => hk.2) (.slice Ao109 t999.length co109)) (fun _ h_ => h_.1)))); (case side2 => exact (Kd.R_reads' HO998.out).2.1); (case side3 => refine (Kd.R_reads' (e := 3) (base := w.heap.size) (ok := fun k_ => ((((((((some k_ ≠ (.slice Ao108 t996.length co108 : Value).ownBlock ∧ some k_ ≠ (.slice Ao25 t926.length co25 : Value).ownBlock) ∧ some k_ ≠ (.slice Ao26 t929.length co26 : Value).ownBlock) ∧ some k_ ≠ (.slice Ao33 t973.length co33 : Value).ownBlock) ∧ some k_ ≠ (.slice Ao34 t974.length co34 : Value).ownBlock) ∧ some k_ ≠ (.slice Ao41 t951.length co41 : Value).ownBlock) ∧ some k_ ≠ (.slice Ao42 t954.length co42 : Value).ownBlock) ∧ some k_ ≠ (.slice Ao99 t985.length co99 : Value).ownBlock) ∧ some k_ ≠ (.slice Ao100 t988.length co100 : Value).ownBlock)) (n := t999.length) (c := co109) ?_).2.2; exact (by (with_reducible repeat (first | apply Kd.R_alloc | apply Kd.R_drewN | apply Kd.R_drew)); exact (Kd.R_mono (Kd.R_far (p := ⟨gb1003, 6, none⟩) (Kd.R_far (p := ⟨gb1003, 5, none⟩) (Kd.R_far (p := ⟨gb1003, 4, none⟩) (Kd.R_far (p := ⟨gb1003, 3, none⟩) (Kd.R_far (p := ⟨gb1003, 2, none⟩) (Kd.R_far (p := ⟨gb1003, 1, none⟩) (Kd.R_far (p := ⟨gb1003, 0, none⟩) (Kd.R_types HO1001.out BK1003.out (by decide)) (fun _ hk => hk.2) (.int .i64 t991)) (fun _ hk => hk.2) (.int .i64 t992)) (fun _ hk => hk.2) (.string t993)) (fun _ hk => hk.2) (.int .i64 t994)) (fun _ hk => hk.2) (.bool t995)) (fun _ hk => hk.2) (.slice Ao108 t996.length co108)) (fun _ hk => hk.2) (.slice Ao109 t999.length co109)) (fun _ h_ => h_.1)))); (case side4 => exact (Kd.R_reads' HO1001.out).2.1); (case side5 => refine (Kd.R_reads' (e := 3) (base := w.heap.size) (ok := fun k_ => (((((some k_ ≠ (.slice Ao26 t929.length co26 : Value).ownBlock ∧ (some k_ ≠ (.slice Ao33 t973.length co33 : Value).ownBlock ∧ (some k_ ≠ (.slice Ao34 t974.length co34 : Value).ownBlock ∧ (some k_ ≠ (.slice Ao41 t951.length co41 : Value).ownBlock ∧ some k_ ≠ (.slice Ao42 t954.length co42 : Value).ownBlock)))) ∧ some k_ ≠ (.slice Ao99 t985.length co99 : Value).ownBlock) ∧ some k_ ≠ (.slice Ao100 t988.length co100 : Value).ownBlock) ∧ some k_ ≠ (.slice Ao108 t996.length co108 : Value).ownBlock) ∧ some k_ ≠ (.slice Ao109 t999.length co109 : Value).ownBlock)) (n := t926.length) (c := co25) ?_).2.2; exact (by (with_reducible repeat (first | apply Kd.R_alloc | apply Kd.R_drewN | apply Kd.R_drew)); exact (Kd.R_mono (Kd.R_far (p := ⟨gb1003, 6, none⟩) (Kd.R_far (p := ⟨gb1003, 5, none⟩) (Kd.R_far (p := ⟨gb1003, 4, none⟩) (Kd.R_far (p := ⟨gb1003, 3, none⟩) (Kd.R_far (p := ⟨gb1003, 2, none⟩) (Kd.R_far (p := ⟨gb1003, 1, none⟩) (Kd.R_far (p := ⟨gb1003, 0, none⟩) (Kd.R_types HO_934005.out BK1003.out (by decide)) (fun _ hk => hk.2) (.int .i64 t991)) (fun _ hk => hk.2) (.int .i64 t992)) (fun _ hk => hk.2) (.string t993)) (fun _ hk => hk.2) (.int .i64 t994)) (fun _ hk => hk.2) (.bool t995)) (fun _ hk => hk.2) (.slice Ao108 t996.length co108)) (fun _ hk => hk.2) (.slice Ao109 t999.length co109)) (fun _ h_ => h_.1)))); (case side6 => exact (Kd.R_reads' HO_934005.out).2.1); (case side7 => refine (Kd.R_reads' (e := 3) (base := w.heap.size) (ok := fun k_ => (((((some k_ ≠ (.slice Ao25 t926.length co25 : Value).ownBlock ∧ (some k_ ≠ (.slice Ao33 t973.length co33 : Value).ownBlock ∧ (some k_ ≠ (.slice Ao34 t974.length co34 : Value).ownBlock ∧ (some k_ ≠ (.slice Ao41 t951.length co41 : Value).ownBlock ∧ some k_ ≠ (.slice Ao42 t954.length co42 : Value).ownBlock)))) ∧ some k_ ≠ (.slice Ao99 t985.length co99 : Value).ownBlock) ∧ some k_ ≠ (.slice Ao100 t988.length co100 : Value).ownBlock) ∧ some k_ ≠ (.slice Ao108 t996.length co108 : Value).ownBlock) ∧ some k_ ≠ (.slice Ao109 t999.length co109 : Value).ownBlock)) (n := t929.length) (c := co26) ?_).2.2; exact (by (with_reducible repeat (first | apply Kd.R_alloc | apply Kd.R_drewN | apply Kd.R_drew)); exact (Kd.R_mono (Kd.R_far (p := ⟨gb1003, 6, none⟩) (Kd.R_far (p := ⟨gb1003, 5, none⟩) (Kd.R_far (p := ⟨gb1003, 4, none⟩) (Kd.R_far (p := ⟨gb1003, 3, none⟩) (Kd.R_far (p := ⟨gb1003, 2, none⟩) (Kd.R_far (p := ⟨gb1003, 1, none⟩) (Kd.R_far (p := ⟨gb1003, 0, none⟩) (Kd.R_types HO_934006.out BK1003.out (by decide)) (fun _ hk => hk.2) (.int .i64 t991)) (fun _ hk => hk.2) (.int .i64 t992)) (fun _ hk => hk.2) (.string t993)) (fun _ hk => hk.2) (.int .i64 t994)) (fun _ hk => hk.2) (.bool t995)) (fun _ hk => hk.2) (.slice Ao108 t996.length co108)) (fun _ hk => hk.2) (.slice Ao109 t999.length co109)) (fun _ h_ => h_.1)))); (case side8 => exact (Kd.R_reads' HO_934006.out).2.1); rintro e w121 ⟨rfl, hb⟩; refine ⟨_, rfl, ?_⟩; have n0_ := Aside0.mk (Kd.R_below (by (with_reducible repeat (first | apply Kd.R_alloc | apply Kd.R_drewN | apply Kd.R_drew)); exact (Kd.R_mono (Kd.R_far (p := ⟨gb1003, 6, none⟩) (Kd.R_far (p := ⟨gb1003, 5, none⟩) (Kd.R_far (p := ⟨gb1003, 4, none⟩) (Kd.R_far (p := ⟨gb1003, 3, none⟩) (Kd.R_far (p := ⟨gb1003, 2, none⟩) (Kd.R_far (p := ⟨gb1003, 1, none⟩) (Kd.R_far (p := ⟨gb1003, 0, none⟩) (Kd.R_types HO_934005.out BK1003.out (by decide)) (fun _ hk => hk.2) (.int .i64 t991)) (fun _ hk => hk.2) (.int .i64 t992)) (fun _ hk => hk.2) (.string t993)) (fun _ hk => hk.2) (.int .i64 t994)) (fun _ hk => hk.2) (.bool t995)) (fun _ hk => hk.2) (.slice Ao108 t996.length co108)) (fun _ hk => hk.2) (.slice Ao109 t999.length co109)) (fun _ h_ => h_.1))) hb); have n1_ := Aside0.mk (Kd.R_below (by (with_reducible repeat (first | apply Kd.R_alloc | apply Kd.R_drewN | apply Kd.R_drew)); exact (Kd.R_mono (Kd.R_far (p := ⟨gb1003, 6, none⟩) (Kd.R_far (p := ⟨gb1003, 5, none⟩) (Kd.R_far (p := ⟨gb1003, 4, none⟩) (Kd.R_far (p := ⟨gb1003, 3, none⟩) (Kd.R_far (p := ⟨gb1003, 2, none⟩) (Kd.R_far (p := ⟨gb1003, 1, none⟩) (Kd.R_far (p := ⟨gb1003, 0, none⟩) (Kd.R_types HO_934006.out BK1003.out (by decide)) (fun _ hk => hk.2) (.int .i64 t991)) (fun _ hk => hk.2) (.int .i64 t992)) (fun _ hk => hk.2) (.string t993)) (fun _ hk => hk.2) (.int .i64 t994)) (fun _ hk => hk.2) (.bool t995)) (fun _ hk => hk.2) (.slice Ao108 t996.length co108)) (fun _ hk => hk.2) (.slice Ao109 t999.length co109)) (fun _ h_ => h_.1))) hb); have n2_ := Aside0.mk (Kd.R_below (by (with_reducible repeat (first | apply Kd.R_alloc | apply Kd.R_drewN | apply Kd.R_drew)); exact (Kd.R_mono (Kd.R_far (p := ⟨gb1003, 6, none⟩) (Kd.R_far (p := ⟨gb1003, 5, none⟩) (Kd.R_far (p := ⟨gb1003, 4, none⟩) (Kd.R_far (p := ⟨gb1003, 3, none⟩) (Kd.R_far (p := ⟨gb1003, 2, none⟩) (Kd.R_far (p := ⟨gb1003, 1, none⟩) (Kd.R_far (p := ⟨gb1003, 0, none⟩) (Kd.R_types HO_946005.out BK1003.out (by decide)) (fun _ hk => hk.2) (.int .i64 t991)) (fun _ hk => hk.2) (.int .i64 t992)) (fun _ hk => hk.2) (.string t993)) (fun _ hk => hk.2) (.int .i64 t994)) (fun _ hk => hk.2) (.bool t995)) (fun _ hk => hk.2) (.slice Ao108 t996.length co108)) (fun _ hk => hk.2) (.slice Ao109 t999.length co109)) (fun _ h_ => h_.1))) hb); have n3_ := Aside0.mk (Kd.R_below (by (with_reducible repeat (first | apply Kd.R_alloc | apply Kd.R_drewN | apply Kd.R_drew)); exact (Kd.R_mono (Kd.R_far (p := ⟨gb1003, 6, none⟩) (Kd.R_far (p := ⟨gb1003, 5, none⟩) (Kd.R_far (p := ⟨gb1003, 4, none⟩) (Kd.R_far (p := ⟨gb1003, 3, none⟩) (Kd.R_far (p := ⟨gb1003, 2, none⟩) (Kd.R_far (p := ⟨gb1003, 1, none⟩) (Kd.R_far (p := ⟨gb1003, 0, none⟩) (Kd.R_types HO_946006.out BK1003.out (by decide)) (fun _ hk => hk.2) (.int .i64 t991)) (fun _ hk => hk.2) (.int .i64 t992)) (fun _ hk => hk.2) (.string t993)) (fun _ hk => hk.2) (.int .i64 t994)) (fun _ hk => hk.2) (.bool t995)) (fun _ hk => hk.2) (.slice Ao108 t996.length co108)) (fun _ hk => hk.2) (.slice Ao109 t999.length co109)) (fun _ h_ => h_.1))) hb); have n4_ := Aside0.mk (Kd.R_below (by (with_reducible repeat (first | apply Kd.R_alloc | apply Kd.R_drewN | apply Kd.R_drew)); exact (Kd.R_mono (Kd.R_far (p := ⟨gb1003, 6, none⟩) (Kd.R_far (p := ⟨gb1003, 5, none⟩) (Kd.R_far (p := ⟨gb1003, 4, none⟩) (Kd.R_far (p := ⟨gb1003, 3, none⟩) (Kd.R_far (p := ⟨gb1003, 2, none⟩) (Kd.R_far (p := ⟨gb1003, 1, none⟩) (Kd.R_far (p := ⟨gb1003, 0, none⟩) (Kd.R_types HO_959005.out BK1003.out (by decide)) (fun _ hk => hk.2) (.int .i64 t991)) (fun _ hk => hk.2) (.int .i64 t992)) (fun _ hk => hk.2) (.string t993)) (fun _ hk => hk.2) (.int .i64 t994)) (fun _ hk => hk.2) (.bool t995)) (fun _ hk => hk.2) (.slice Ao108 t996.length co108)) (fun _ hk => hk.2) (.slice Ao109 t999.length co109)) (fun _ h_ => h_.1))) hb); have n5_ := Aside0.mk (Kd.R_below (by (with_reducible repeat (first | apply Kd.R_alloc | apply Kd.R_drewN | apply Kd.R_drew)); exact (Kd.R_mono (Kd.R_far (p := ⟨gb1003, 6, none⟩) (Kd.R_far (p := ⟨gb1003, 5, none⟩) (Kd.R_far (p := ⟨gb1003, 4, none⟩) (Kd.R_far (p := ⟨gb1003, 3, none⟩) (Kd.R_far (p := ⟨gb1003, 2, none⟩) (Kd.R_far (p := ⟨gb1003, 1, none⟩) (Kd.R_far (p := ⟨gb1003, 0, none⟩) (Kd.R_types HO_959006.out BK1003.out (by decide)) (fun _ hk => hk.2) (.int .i64 t991)) (fun _ hk => hk.2) (.int .i64 t992)) (fun _ hk => hk.2) (.string t993)) (fun _ hk => hk.2) (.int .i64 t994)) (fun _ hk => hk.2) (.bool t995)) (fun _ hk => hk.2) (.slice Ao108 t996.length co108)) (fun _ hk => hk.2) (.slice Ao109 t999.length co109)) (fun _ h_ => h_.1))) hb); have n6_ := Aside0.mk (Kd.R_below (by (with_reducible repeat (first | apply Kd.R_alloc | apply Kd.R_drewN | apply Kd.R_drew)); exact (Kd.R_mono (Kd.R_far (p := ⟨gb1003, 6, none⟩) (Kd.R_far (p := ⟨gb1003, 5, none⟩) (Kd.R_far (p := ⟨gb1003, 4, none⟩) (Kd.R_far (p := ⟨gb1003, 3, none⟩) (Kd.R_far (p := ⟨gb1003, 2, none⟩) (Kd.R_far (p := ⟨gb1003, 1, none⟩) (Kd.R_far (p := ⟨gb1003, 0, none⟩) (Kd.R_types HO987.out BK1003.out (by decide)) (fun _ hk => hk.2) (.int .i64 t991)) (fun _ hk => hk.2) (.int .i64 t992)) (fun _ hk => hk.2) (.string t993)) (fun _ hk => hk.2) (.int .i64 t994)) (fun _ hk => hk.2) (.bool t995)) (fun _ hk => hk.2) (.slice Ao108 t996.length co108)) (fun _ hk => hk.2) (.slice Ao109 t999.length co109)) (fun _ h_ => h_.1))) hb); have n7_ := Aside0.mk (Kd.R_below (by (with_reducible repeat (first | apply Kd.R_alloc | apply Kd.R_drewN | apply Kd.R_drew)); exact (Kd.R_mono (Kd.R_far (p := ⟨gb1003, 6, none⟩) (Kd.R_far (p := ⟨gb1003, 5, none⟩) (Kd.R_far (p := ⟨gb1003, 4, none⟩) (Kd.R_far (p := ⟨gb1003, 3, none⟩) (Kd.R_far (p := ⟨gb1003, 2, none⟩) (Kd.R_far (p := ⟨gb1003, 1, none⟩) (Kd.R_far (p := ⟨gb1003, 0, none⟩) (Kd.R_types HO990.out BK1003.out (by decide)) (fun _ hk => hk.2) (.int .i64 t991)) (fun _ hk => hk.2) (.int .i64 t992)) (fun _ hk => hk.2) (.string t993)) (fun _ hk => hk.2) (.int .i64 t994)) (fun _ hk => hk.2) (.bool t995)) (fun _ hk => hk.2) (.slice Ao108 t996.length co108)) (fun _ hk => hk.2) (.slice Ao109 t999.length co109)) (fun _ h_ => h_.1))) hb); have n8_ := Aside0.mk (Kd.R_below (by (with_reducible repeat (first | apply Kd.R_alloc | apply Kd.R_drewN | apply Kd.R_drew)); exact (Kd.R_mono (Kd.R_far (p := ⟨gb1003, 6, none⟩) (Kd.R_far (p := ⟨gb1003, 5, none⟩) (Kd.R_far (p := ⟨gb1003, 4, none⟩) (Kd.R_far (p := ⟨gb1003, 3, none⟩) (Kd.R_far (p := ⟨gb1003, 2, none⟩) (Kd.R_far (p := ⟨gb1003, 1, none⟩) (Kd.R_far (p := ⟨gb1003, 0, none⟩) (Kd.R_types HO998.out BK1003.out (by decide)) (fun _ hk => hk.2) (.int .i64 t991)) (fun _ hk => hk.2) (.int .i64 t992)) (fun _ hk => hk.2) (.string t993)) (fun _ hk => hk.2) (.int .i64 t994)) (fun _ hk => hk.2) (.bool t995)) (fun _ hk => hk.2) (.slice Ao108 t996.length co108)) (fun _ hk => hk.2) (.slice Ao109 t999.length co109)) (fun _ h_ => h_.1))) hb); have n9_ := Aside0.mk (Kd.R_below (by (with_reducible repeat (first | apply Kd.R_alloc | apply Kd.R_drewN | apply Kd.R_drew)); exact (Kd.R_mono (Kd.R_far (p := ⟨gb1003, 6, none⟩) (Kd.R_far (p := ⟨gb1003, 5, none⟩) (Kd.R_far (p := ⟨gb1003, 4, none⟩) (Kd.R_far (p := ⟨gb1003, 3, none⟩) (Kd.R_far (p := ⟨gb1003, 2, none⟩) (Kd.R_far (p := ⟨gb1003, 1, none⟩) (Kd.R_far (p := ⟨gb1003, 0, none⟩) (Kd.R_types HO1001.out BK1003.out (by decide)) (fun _ hk => hk.2) (.int .i64 t991)) (fun _ hk => hk.2) (.int .i64 t992)) (fun _ hk => hk.2) (.string t993)) (fun _ hk => hk.2) (.int .i64 t994)) (fun _ hk => hk.2) (.bool t995)) (fun _ hk => hk.2) (.slice Ao108 t996.length co108)) (fun _ hk => hk.2) (.slice Ao109 t999.length co109)) (fun _ h_ => h_.1))) hb); have n10_ := Aside0.mk (blk_below (g := gb908) (o := .cells #[.int .i64 a0_0, .int .i64 a0_1, .string a0_2, .int .i64 a0_3, .bool a0_4, .slice A0_5 l0_5.length c0_5, .slice A0_6 l0_6.length c0_6] 56 (0, 0)) (by (with_reducible repeat (first | refine blk_drewN ?_ _ | refine blk_drew ?_ | refine blk_alloc ?_ _)); refine blk_far ?_ NB908_1003.out _; (with_reducible repeat (first | refine blk_drewN ?_ _ | refine blk_drew ?_ | refine blk_alloc ?_ _)); refine blk_far ?_ NB908_1003.out _; (with_reducible repeat (first | refine blk_drewN ?_ _ | refine blk_drew ?_ | refine blk_alloc ?_ _)); refine blk_far ?_ NB908_1003.out _; (with_reducible repeat (first | refine blk_drewN ?_ _ | refine blk_drew ?_ | refine blk_alloc ?_ _)); refine blk_far ?_ NB908_1003.out _; (with_reducible repeat (first | refine blk_drewN ?_ _ | refine blk_drew ?_ | refine blk_alloc ?_ _)); refine blk_far ?_ NB908_1003.out _; (with_reducible repeat (first | refine blk_drewN ?_ _ | refine blk_drew ?_ | refine blk_alloc ?_ _)); refine blk_far ?_ NB908_1003.out _; (with_reducible repeat (first | refine blk_drewN ?_ _ | refine blk_drew ?_ | refine blk_alloc ?_ _)); refine blk_far ?_ NB908_1003.out _; (with_reducible repeat (first | refine blk_drewN ?_ _ | refine blk_drew ?_ | refine blk_alloc ?_ _)); exact BK908.out) hb); have n11_ := Aside0.mk (blk_below (g := gb933) (o := .cells #[.int .i64 t921, .int .i64 t922, .string t923, .int .i64 t924, .bool t925, .slice Ao25 t926.length co25, .slice Ao26 t929.length co26] 29 (0, 0)) (by (with_reducible repeat (first | refine blk_drewN ?_ _ | refine blk_drew ?_ | refine blk_alloc ?_ _)); refine blk_far ?_ NB933_1003.out _; (with_reducible repeat (first | refine blk_drewN ?_ _ | refine blk_drew ?_ | refine blk_alloc ?_ _)); refine blk_far ?_ NB933_1003.out _; (with_reducible repeat (first | refine blk_drewN ?_ _ | refine blk_drew ?_ | refine blk_alloc ?_ _)); refine blk_far ?_ NB933_1003.out _; (with_reducible repeat (first | refine blk_drewN ?_ _ | refine blk_drew ?_ | refine blk_alloc ?_ _)); refine blk_far ?_ NB933_1003.out _; (with_reducible repeat (first | refine blk_drewN ?_ _ | refine blk_drew ?_ | refine blk_alloc ?_ _)); refine blk_far ?_ NB933_1003.out _; (with_reducible repeat (first | refine blk_drewN ?_ _ | refine blk_drew ?_ | refine blk_alloc ?_ _)); refine blk_far ?_ NB933_1003.out _; (with_reducible repeat (first | refine blk_drewN ?_ _ | refine blk_drew ?_ | refine blk_alloc ?_ _)); refine blk_far ?_ NB933_1003.out _; (with_reducible repeat (first | refine blk_drewN ?_ _ | refine blk_drew ?_ | refine blk_alloc ?_ _)); exact BK933.out) hb); have n12_ := Aside0.mk (blk_below (g := gb945) (o := .cells #[.int .i64 t934, .int .i64 t935, .string t936, .int .i64 t937, .bool t938, .slice Ao33 t973.length co33, .slice Ao34 t974.length co34] 29 (0, 0)) (by (with_reducible repeat (first | refine blk_drewN ?_ _ | refine blk_drew ?_ | refine blk_alloc ?_ _)); refine blk_far ?_ NB945_1003.out _; (with_reducible repeat (first | refine blk_drewN ?_ _ | refine blk_drew ?_ | refine blk_alloc ?_ _)); refine blk_far ?_ NB945_1003.out _; (with_reducible repeat (first | refine blk_drewN ?_ _ | refine blk_drew ?_ | refine blk_alloc ?_ _)); refine blk_far ?_ NB945_1003.out _; (with_reducible repeat (first | refine blk_drewN ?_ _ | refine blk_drew ?_ | refine blk_alloc ?_ _)); refine blk_far ?_ NB945_1003.out _; (with_reducible repeat (first | refine blk_drewN ?_ _ | refine blk_drew ?_ | refine blk_alloc ?_ _)); refine blk_far ?_ NB945_1003.out _; (with_reducible repeat (first | refine blk_drewN ?_ _ | refine blk_drew ?_ | refine blk_alloc ?_ _)); refine blk_far ?_ NB945_1003.out _; (with_reducible repeat (first | refine blk_drewN ?_ _ | refine blk_drew ?_ | refine blk_alloc ?_ _)); refine blk_far ?_ NB945_1003.out _; (with_reducible repeat (first | refine blk_drewN ?_ _ | refine blk_drew ?_ | refine blk_alloc ?_ _)); exact BK945.out) hb); have n13_ := Aside0.mk (blk_below (g := gb958) (o := .cells #[.int .i64 t946, .int .i64 t947, .string t948, .int .i64 t949, .bool t950, .slice Ao41 t951.length co41, .slice Ao42 t954.length co42] 29 (0, 0)) (by (with_reducible repeat (first | refine blk_drewN ?_ _ | refine blk_drew ?_ | refine blk_alloc ?_ _)); refine blk_far ?_ NB958_1003.out _; (with_reducible repeat (first | refine blk_drewN ?_ _ | refine blk_drew ?_ | refine blk_alloc ?_ _)); refine blk_far ?_ NB958_1003.out _; (with_reducible repeat (first | refine blk_drewN ?_ _ | refine blk_drew ?_ | refine blk_alloc ?_ _)); refine blk_far ?_ NB958_1003.out _; (with_reducible repeat (first | refine blk_drewN ?_ _ | refine blk_drew ?_ | refine blk_alloc ?_ _)); refine blk_far ?_ NB958_1003.out _; (with_reducible repeat (first | refine blk_drewN ?_ _ | refine blk_drew ?_ | refine blk_alloc ?_ _)); refine blk_far ?_ NB958_1003.out _; (with_reducible repeat (first | refine blk_drewN ?_ _ | refine blk_drew ?_ | refine blk_alloc ?_ _)); refine blk_far ?_ NB958_1003.out _; (with_reducible repeat (first | refine blk_drewN ?_ _ | refine blk_drew ?_ | refine blk_alloc ?_ _)); refine blk_far ?_ NB958_1003.out _; (with_reducible repeat (first | refine blk_drewN ?_ _ | refine blk_drew ?_ | refine blk_alloc ?_ _)); exact BK958.out) hb); have n14_ := Aside0.mk (blk_below (g := gb1003) (o := .cells #[.int .i64 t991, .int .i64 t992, .string t993, .int .i64 t994, .bool t995, .slice Ao108 t996.length co108, .slice Ao109 t999.length co109] 29 (0, 0)) (by (with_reducible repeat (first | refine blk_drewN ?_ _ | refine blk_drew ?_ | refine blk_alloc ?_ _)); refine blk_put (cs := #[.int .i64 t991, .int .i64 t992, .string t993, .int .i64 t994, .bool t995, .slice Ao108 t996.length co108, .slice none 0 0]) ?_ 6 _ rfl; (with_reducible repeat (first | refine blk_drewN ?_ _ | refine blk_drew ?_ | refine blk_alloc ?_ _)); refine blk_put (cs := #[.int .i64 t991, .int .i64 t992, .string t993, .int .i64 t994, .bool t995, .slice none 0 0, .slice none 0 0]) ?_ 5 _ rfl; (with_reducible repeat (first | refine blk_drewN ?_ _ | refine blk_drew ?_ | refine blk_alloc ?_ _)); refine blk_put (cs := #[.int .i64 t991, .int .i64 t992, .string t993, .int .i64 t994, .bool false, .slice none 0 0, .slice none 0 0]) ?_ 4 _ rfl; (with_reducible repeat (first | refine blk_drewN ?_ _ | refine blk_drew ?_ | refine blk_alloc ?_ _)); refine blk_put (cs := #[.int .i64 t991, .int .i64 t992, .string t993, .int .i64 0, .bool false, .slice none 0 0, .slice none 0 0]) ?_ 3 _ rfl; (with_reducible repeat (first | refine blk_drewN ?_ _ | refine blk_drew ?_ | refine blk_alloc ?_ _)); refine blk_put (cs := #[.int .i64 t991, .int .i64 t992, .string (⟨#[]⟩ : ByteArray), .int .i64 0, .bool false, .slice none 0 0, .slice none 0 0]) ?_ 2 _ rfl; (with_reducible repeat (first | refine blk_drewN ?_ _ | refine blk_drew ?_ | refine blk_alloc ?_ _)); refine blk_put (cs := #[.int .i64 t991, .int .i64 0, .string (⟨#[]⟩ : ByteArray), .int .i64 0, .bool false, .slice none 0 0, .slice none 0 0]) ?_ 1 _ rfl; (with_reducible repeat (first | refine blk_drewN ?_ _ | refine blk_drew ?_ | refine blk_alloc ?_ _)); refine blk_put (cs := #[.int .i64 0, .int .i64 0, .string (⟨#[]⟩ : ByteArray), .int .i64 0, .bool false, .slice none 0 0, .slice none 0 0]) ?_ 0 _ rfl; (with_reducible repeat (first | refine blk_drewN ?_ _ | refine blk_drew ?_ | refine blk_alloc ?_ _)); exact BK1003.out) hb); have n15_ := Aside0.mk (below_step (by repeat (first | (with_reducible first | exact HB.out | apply below_alloc | apply pw_below_drewN | apply below_drew1 | refine below_set ?_ GE908.out | refine below_set ?_ GE933.out | refine below_set ?_ GE945.out | refine below_set ?_ GE958.out | refine below_set ?_ GE1003.out) | exact HB.out)) hb); clear HO_934005 HO_934006 HO_946005 HO_946006 HO_959005 HO_959006 HO987 HO990 HO998 HO1001 BK908 BK933 BK945 BK958 BK1003 HB; have HO_934005 := n0_; have HO_934006 := n1_; have HO_946005 := n2_; have HO_946006 := n3_; have HO_959005 := n4_; have HO_959006 := n5_; have HO987 := n6_; have HO990 := n7_; have HO998 := n8_; have HO1001 := n9_; have BK908 := n10_; have BK933 := n11_; have BK945 := n12_; have BK958 := n13_; have BK1003 := n14_; have HB := n15_; clear n0_ n1_ n2_ n3_ n4_ n5_ n6_ n7_ n8_ n9_ n10_ n11_ n12_ n13_ n14_ n15_; (try clear hb); (try clear hb2); (try clear hk); (try clear hi)))
                          go_meet
                          case rel => exact ⟨_, ((t1002 != t932)), (by first | rfl | (simp; done) | (simp [*]; done)), H', ⟨by have := HJ12.out; have := HJ57.out; first | omega | exact Nat.le_refl _⟩, ⟨by (try simp only [hl946005_57]); (try simp only [hl946006_57]); (with_reducible repeat (first | apply Kd.R_alloc | apply Kd.R_drewN | apply Kd.R_drew)); exact Kd.R_mono HO_934005.out (fun _ hk => ⟨hk.1.1.1.1.1, ⟨hk.1.1.1.1.2.1, ⟨hk.1.1.1.1.2.2.1, ⟨hk.1.1.1.1.2.2.2.1, ⟨hk.1.1.1.1.2.2.2.2, ⟨hk.1.2, hk.2⟩⟩⟩⟩⟩⟩)⟩, ⟨by (try simp only [hl946005_57]); (try simp only [hl946006_57]); (with_reducible repeat (first | apply Kd.R_alloc | apply Kd.R_drewN | apply Kd.R_drew)); exact Kd.R_mono HO_934006.out (fun _ hk => ⟨hk.1.1.1.1.1, ⟨hk.1.1.1.1.2.1, ⟨hk.1.1.1.1.2.2.1, ⟨hk.1.1.1.1.2.2.2.1, ⟨hk.1.1.1.1.2.2.2.2, ⟨hk.1.2, hk.2⟩⟩⟩⟩⟩⟩)⟩, ⟨by (try simp only [hl946005_57]); (try simp only [hl946006_57]); (with_reducible repeat (first | apply Kd.R_alloc | apply Kd.R_drewN | apply Kd.R_drew)); exact Kd.R_mono HO_946005.out (fun _ hk => ⟨hk.1.1.1.1.1, ⟨hk.1.1.1.1.2.1, ⟨hk.1.1.1.1.2.2.1, ⟨hk.1.1.1.1.2.2.2.1, ⟨hk.1.1.1.1.2.2.2.2, ⟨hk.1.2, hk.2⟩⟩⟩⟩⟩⟩)⟩, ⟨by (try simp only [hl946005_57]); (try simp only [hl946006_57]); (with_reducible repeat (first | apply Kd.R_alloc | apply Kd.R_drewN | apply Kd.R_drew)); exact Kd.R_mono HO_946006.out (fun _ hk => ⟨hk.1.1.1.1.1, ⟨hk.1.1.1.1.2.1, ⟨hk.1.1.1.1.2.2.1, ⟨hk.1.1.1.1.2.2.2.1, ⟨hk.1.1.1.1.2.2.2.2, ⟨hk.1.2, hk.2⟩⟩⟩⟩⟩⟩)⟩, ⟨by (try simp only [hl946005_57]); (try simp only [hl946006_57]); (with_reducible repeat (first | apply Kd.R_alloc | apply Kd.R_drewN | apply Kd.R_drew)); exact Kd.R_mono HO_959005.out (fun _ hk => ⟨hk.1.1.1.1.1, ⟨hk.1.1.1.1.2.1, ⟨hk.1.1.1.1.2.2.1, ⟨hk.1.1.1.1.2.2.2.1, ⟨hk.1.1.1.1.2.2.2.2, ⟨hk.1.2, hk.2⟩⟩⟩⟩⟩⟩)⟩, ⟨by (try simp only [hl946005_57]); (try simp only [hl946006_57]); (with_reducible repeat (first | apply Kd.R_alloc | apply Kd.R_drewN | apply Kd.R_drew)); exact Kd.R_mono HO_959006.out (fun _ hk => ⟨hk.1.1.1.1.1, ⟨hk.1.1.1.1.2.1, ⟨hk.1.1.1.1.2.2.1, ⟨hk.1.1.1.1.2.2.2.1, ⟨hk.1.1.1.1.2.2.2.2, ⟨hk.1.2, hk.2⟩⟩⟩⟩⟩⟩)⟩, ⟨by (try simp only [hl946005_57]); (try simp only [hl946006_57]); (with_reducible repeat (first | apply Kd.R_alloc | apply Kd.R_drewN | apply Kd.R_drew)); exact Kd.R_mono HO998.out (fun _ hk => ⟨hk.1.1.1.1.1.1.1.2, ⟨hk.1.1.1.1.1.1.2, ⟨hk.1.1.1.1.1.2, ⟨hk.1.1.1.1.2, ⟨hk.1.1.1.2, ⟨hk.1.1.2, hk.1.1.1.1.1.1.1.1⟩⟩⟩⟩⟩⟩)⟩, ⟨by (try simp only [hl946005_57]); (try simp only [hl946006_57]); (with_reducible repeat (first | apply Kd.R_alloc | apply Kd.R_drewN | apply Kd.R_drew)); exact Kd.R_mono HO1001.out (fun _ hk => ⟨hk.1.1.1.1.1.1.1.2, ⟨hk.1.1.1.1.1.1.2, ⟨hk.1.1.1.1.1.2, ⟨hk.1.1.1.1.2, ⟨hk.1.1.1.2, ⟨hk.1.1.2, hk.1.1.1.1.1.1.1.1⟩⟩⟩⟩⟩⟩)⟩, ⟨by (try simp only [hl946005_57]); (try simp only [hl946006_57]); (with_reducible repeat (first | refine blk_drewN ?_ _ | refine blk_drew ?_ | refine blk_alloc ?_ _)); exact BK908.out⟩, ⟨by (try simp only [hl946005_57]); (try simp only [hl946006_57]); (with_reducible repeat (first | refine blk_drewN ?_ _ | refine blk_drew ?_ | refine blk_alloc ?_ _)); exact BK933.out⟩, ⟨by (try simp only [hl946005_57]); (try simp only [hl946006_57]); (with_reducible repeat (first | refine blk_drewN ?_ _ | refine blk_drew ?_ | refine blk_alloc ?_ _)); exact BK945.out⟩, ⟨by (try simp only [hl946005_57]); (try simp only [hl946006_57]); (with_reducible repeat (first | refine blk_drewN ?_ _ | refine blk_drew ?_ | refine blk_alloc ?_ _)); exact BK958.out⟩, ⟨by (try simp only [hl946005_57]); (try simp only [hl946006_57]); (with_reducible repeat (first | refine blk_drewN ?_ _ | refine blk_drew ?_ | refine blk_alloc ?_ _)); exact BK1003.out⟩, ⟨by repeat (first | (with_reducible first | exact HB.out | apply below_alloc | apply pw_below_drewN | apply below_drew1 | refine below_set ?_ GE908.out | refine below_set ?_ GE933.out | refine below_set ?_ GE945.out | refine below_set ?_ GE958.out | refine below_set ?_ GE1003.out) | exact HB.out)⟩⟩
                        · replace c111 := Bool.eq_false_iff.mpr c111
                          subst c111
                          have H1 : (laws_FnExactWatch.j2 kj57 t976 true t946 t947 t948 t949 t950 t977 t978) = some r := by rw [if_neg (show ¬ (false = true) by decide)] at H; exact H
                          clear H
                          have H := H1
                          clear H1
                          cases kj57 with
                          | zero => exact absurd H (by simp [laws_FnExactWatch.j2])
                          | succ k_ => (simp only [laws_FnExactWatch.j2, if_pos] at H; exact absurd (Option.some.inj H) (by rw [HQ_.out]; simp))
                      case rest =>
                        clear HC87
                        try clear c1
                        try clear c2
                        try clear p2
                        try clear c3
                        try clear c4
                        try clear c5
                        try clear c5b0
                        try clear c6
                        try clear c7
                        try clear c8
                        try clear c9
                        try clear c10
                        try clear c11
                        try clear c12
                        try clear c20
                        try clear c23
                        try clear c30
                        try clear c31
                        try clear c32
                        try clear c34
                        try clear c37
                        try clear c38
                        try clear c39
                        try clear c44
                        try clear c45
                        try clear c46
                        try clear c47
                        try clear c48
                        try clear c49
                        try clear c50
                        try clear c53
                        try clear c56
                        try clear c64
                        try clear c65
                        try clear c66
                        try clear c69
                        try clear c69b0
                        try clear c71
                        try clear c72
                        try clear c73
                        try clear c74
                        try clear c76
                        try clear c77
                        try clear c80
                        try clear c83
                        try clear c83b0
                        try clear c84
                        try clear c84b0
                        try clear c84b1
                        try clear c88
                        try clear c89
                        try clear c90
                        try clear c95
                        try clear c96
                        try clear c103
                        try clear c104
                        try clear c105
                        try clear c106
                        try clear c111
                        try clear c112
                        try clear c113
                        try clear c114
                        try clear c115
                        try clear c117
                        try clear c118
                        try clear c119
                        try clear hcz107_0
                        try clear hcz107_1
                        try clear hcz107_2
                        try clear hcz107_3
                        try clear hcz107_4
                        try clear hcz107_5
                        try clear hcz107_6
                        try clear hcz116_0
                        try clear hcz116_1
                        try clear hcz116_2
                        try clear hcz116_3
                        try clear hcz116_4
                        try clear hcz116_5
                        try clear hcz116_6
                        try clear hcz120_0
                        try clear hcz120_1
                        try clear hcz120_2
                        try clear hcz120_3
                        try clear hcz120_4
                        try clear hcz120_5
                        try clear hcz120_6
                        try clear hcz15_0
                        try clear hcz15_1
                        try clear hcz15_2
                        try clear hcz15_3
                        try clear hcz15_4
                        try clear hcz15_5
                        try clear hcz15_6
                        try clear hcz17_0
                        try clear hcz17_1
                        try clear hcz17_2
                        try clear hcz17_3
                        try clear hcz17_4
                        try clear hcz17_5
                        try clear hcz17_6
                        try clear hcz24_0
                        try clear hcz24_1
                        try clear hcz24_2
                        try clear hcz24_3
                        try clear hcz24_4
                        try clear hcz24_5
                        try clear hcz24_6
                        try clear hcz27_0
                        try clear hcz27_1
                        try clear hcz27_2
                        try clear hcz27_3
                        try clear hcz27_4
                        try clear hcz27_5
                        try clear hcz27_6
                        try clear hcz32_0
                        try clear hcz32_1
                        try clear hcz32_2
                        try clear hcz32_3
                        try clear hcz32_4
                        try clear hcz32_5
                        try clear hcz32_6
                        try clear hcz40_0
                        try clear hcz40_1
                        try clear hcz40_2
                        try clear hcz40_3
                        try clear hcz40_4
                        try clear hcz40_5
                        try clear hcz40_6
                        try clear hcz48_0
                        try clear hcz48_1
                        try clear hcz48_2
                        try clear hcz48_3
                        try clear hcz48_4
                        try clear hcz48_5
                        try clear hcz48_6
                        try clear hcz51_0
                        try clear hcz51_1
                        try clear hcz51_2
                        try clear hcz51_3
                        try clear hcz51_4
                        try clear hcz51_5
                        try clear hcz51_6
                        try clear hcz67_0
                        try clear hcz67_1
                        try clear hcz67_2
                        try clear hcz67_3
                        try clear hcz67_4
                        try clear hcz67_5
                        try clear hcz67_6
                        try clear hcz75_0
                        try clear hcz75_1
                        try clear hcz75_2
                        try clear hcz75_3
                        try clear hcz75_4
                        try clear hcz75_5
                        try clear hcz75_6
                        try clear hcz78_0
                        try clear hcz78_1
                        try clear hcz78_2
                        try clear hcz78_3
                        try clear hcz78_4
                        try clear hcz78_5
                        try clear hcz78_6
                        try clear hcz7_0
                        try clear hcz7_1
                        try clear hcz7_2
                        try clear hcz7_3
                        try clear hcz7_4
                        try clear hcz7_5
                        try clear hcz7_6
                        try clear hcz91_0
                        try clear hcz91_1
                        try clear hcz91_2
                        try clear hcz91_3
                        try clear hcz91_4
                        try clear hcz91_5
                        try clear hcz91_6
                        try clear hcz93_0
                        try clear hcz93_1
                        try clear hcz93_2
                        try clear hcz93_3
                        try clear hcz93_4
                        try clear hcz93_5
                        try clear hcz93_6
                        try clear hcz97_0
                        try clear hcz97_1
                        try clear hcz97_2
                        try clear hcz97_3
                        try clear hcz97_4
                        try clear hcz97_5
                        try clear hcz97_6
                        try clear hfz107_0
                        try clear hfz107_1
                        try clear hfz107_2
                        try clear hfz107_3
                        try clear hfz107_4
                        try clear hfz107_5
                        try clear hfz107_6
                        try clear hfz116_0
                        try clear hfz116_1
                        try clear hfz116_2
                        try clear hfz116_3
                        try clear hfz116_4
                        try clear hfz116_5
                        try clear hfz116_6
                        try clear hfz120_0
                        try clear hfz120_1
                        try clear hfz120_2
                        try clear hfz120_3
                        try clear hfz120_4
                        try clear hfz120_5
                        try clear hfz120_6
                        try clear hfz15_0
                        try clear hfz15_1
                        try clear hfz15_2
                        try clear hfz15_3
                        try clear hfz15_4
                        try clear hfz15_5
                        try clear hfz15_6
                        try clear hfz17_0
                        try clear hfz17_1
                        try clear hfz17_2
                        try clear hfz17_3
                        try clear hfz17_4
                        try clear hfz17_5
                        try clear hfz17_6
                        try clear hfz24_0
                        try clear hfz24_1
                        try clear hfz24_2
                        try clear hfz24_3
                        try clear hfz24_4
                        try clear hfz24_5
                        try clear hfz24_6
                        try clear hfz27_0
                        try clear hfz27_1
                        try clear hfz27_2
                        try clear hfz27_3
                        try clear hfz27_4
                        try clear hfz27_5
                        try clear hfz27_6
                        try clear hfz32_0
                        try clear hfz32_1
                        try clear hfz32_2
                        try clear hfz32_3
                        try clear hfz32_4
                        try clear hfz32_5
                        try clear hfz32_6
                        try clear hfz40_0
                        try clear hfz40_1
                        try clear hfz40_2
                        try clear hfz40_3
                        try clear hfz40_4
                        try clear hfz40_5
                        try clear hfz40_6
                        try clear hfz48_0
                        try clear hfz48_1
                        try clear hfz48_2
                        try clear hfz48_3
                        try clear hfz48_4
                        try clear hfz48_5
                        try clear hfz48_6
                        try clear hfz51_0
                        try clear hfz51_1
                        try clear hfz51_2
                        try clear hfz51_3
                        try clear hfz51_4
                        try clear hfz51_5
                        try clear hfz51_6
                        try clear hfz67_0
                        try clear hfz67_1
                        try clear hfz67_2
                        try clear hfz67_3
                        try clear hfz67_4
                        try clear hfz67_5
                        try clear hfz67_6
                        try clear hfz75_0
                        try clear hfz75_1
                        try clear hfz75_2
                        try clear hfz75_3
                        try clear hfz75_4
                        try clear hfz75_5
                        try clear hfz75_6
                        try clear hfz78_0
                        try clear hfz78_1
                        try clear hfz78_2
                        try clear hfz78_3
                        try clear hfz78_4
                        try clear hfz78_5
                        try clear hfz78_6
                        try clear hfz7_0
                        try clear hfz7_1
                        try clear hfz7_2
                        try clear hfz7_3
                        try clear hfz7_4
                        try clear hfz7_5
                        try clear hfz7_6
                        try clear hfz91_0
                        try clear hfz91_1
                        try clear hfz91_2
                        try clear hfz91_3
                        try clear hfz91_4
                        try clear hfz91_5
                        try clear hfz91_6
                        try clear hfz93_0
                        try clear hfz93_1
                        try clear hfz93_2
                        try clear hfz93_3
                        try clear hfz93_4
                        try clear hfz93_5
                        try clear hfz93_6
                        try clear hfz97_0
                        try clear hfz97_1
                        try clear hfz97_2
                        try clear hfz97_3
                        try clear hfz97_4
                        try clear hfz97_5
                        try clear hfz97_6
                        try clear p2
                        obtain ⟨kq, x97_86, rfl, HA, HJ86, HO_934005, HO_934006, HO_946005, HO_946006, HO_959005, HO_959006, HO_1004005, HO_1004006, BK908, BK933, BK945, BK958, BK1003, HB⟩ := hcut
                        have hl959005_86 := (Kd.R_reads' HO_959005.out).1
                        rw [hl959005_86] at HO_959005
                        (try simp only [hl959005_86])
                        (try simp only [hl959005_86] at BK908)
                        (try simp only [hl959005_86] at BK933)
                        (try simp only [hl959005_86] at BK945)
                        (try simp only [hl959005_86] at BK958)
                        (try simp only [hl959005_86] at BK1003)
                        (try simp only [hl959005_86] at HO_934005)
                        (try simp only [hl959005_86] at HO_934006)
                        (try simp only [hl959005_86] at HO_946005)
                        (try simp only [hl959005_86] at HO_946006)
                        (try simp only [hl959005_86] at HO_959006)
                        (try simp only [hl959005_86] at HO_1004005)
                        (try simp only [hl959005_86] at HO_1004006)
                        have hl959006_86 := (Kd.R_reads' HO_959006.out).1
                        rw [hl959006_86] at HO_959006
                        (try simp only [hl959006_86])
                        (try simp only [hl959006_86] at BK908)
                        (try simp only [hl959006_86] at BK933)
                        (try simp only [hl959006_86] at BK945)
                        (try simp only [hl959006_86] at BK958)
                        (try simp only [hl959006_86] at BK1003)
                        (try simp only [hl959006_86] at HO_934005)
                        (try simp only [hl959006_86] at HO_934006)
                        (try simp only [hl959006_86] at HO_946005)
                        (try simp only [hl959006_86] at HO_946006)
                        (try simp only [hl959006_86] at HO_959005)
                        (try simp only [hl959006_86] at HO_1004005)
                        (try simp only [hl959006_86] at HO_1004006)
                        cases kq with
                        | zero => exact absurd HA.out (by simp [laws_FnExactWatch.j2])
                        | succ kj86 =>
                          have H := HA.out
                          clear HA
                          simp only [laws_FnExactWatch.j2] at H
                          by_cases c122 : x97_86 = true
                          · subst c122
                            have H1 : (some false) = some r := by rw [if_pos rfl] at H; exact H
                            clear H
                            have H := H1
                            clear H1
                            exact absurd (Option.some.inj H) (by rw [HQ_.out]; simp)
                          · replace c122 := Bool.eq_false_iff.mpr c122
                            subst c122
                            have H1 : ((laws_heldCell.f kj86 t946 t947 t948 t949 t950 t977 t978 1).bind fun t1005 => (if t1005 < 0 then (some false) else (if t1005 = t976 then (some true) else (some false)))) = some r := by rw [if_neg (show ¬ (false = true) by decide)] at H; exact H
                            clear H
                            have H := H1
                            clear H1
                            replace H := Option.bind_eq_some_iff.mp H
                            obtain ⟨t1005, A1230, H⟩ := H
                            replace H : (if t1005 < 0 then (some false) else (if t1005 = t976 then (some true) else (some false))) = some r := H
                            have A123 := Aside0.mk A1230
                            clear A1230
                            by_cases c124 : t1005 < 0
                            · rw [if_pos c124] at H
                              have c124b0 : decide (t1005 < 0) = true := decide_eq_true c124
                              clear c124
                              exact absurd (Option.some.inj H) (by rw [HQ_.out]; simp)
                            · rw [if_neg c124] at H
                              have c124b0 : decide (t1005 < 0) = false := decide_eq_false c124
                              clear c124
                              by_cases c125 : t1005 = t976
                              · rw [if_pos c125] at H
                                have c125b0 : (t1005 == t976) = true := beq_iff_eq.mpr c125
                                have c125b1 : (t1005 != t976) = false := bne_eq_false_iff_eq.mpr c125
                                clear c125
                                obtain rfl := Option.some.inj H
                                have hnb126 := NB958_908.out
                                have hnc126 := NB908_958.out
                                have hnb127 := NB958_933.out
                                have hnc127 := NB933_958.out
                                have hnb128 := NB958_945.out
                                have hnc128 := NB945_958.out
                                have hnb129 := NB958_1003.out
                                have hnc129 := NB1003_958.out
                                have hcz130_0 : wc.cell? ⟨gb958, 0, none⟩ = some (.int .i64 t946) := (blk_cell BK958.out 0).trans rfl
                                have hcz130_1 : wc.cell? ⟨gb958, 1, none⟩ = some (.int .i64 t947) := (blk_cell BK958.out 1).trans rfl
                                have hcz130_2 : wc.cell? ⟨gb958, 2, none⟩ = some (.string t948) := (blk_cell BK958.out 2).trans rfl
                                have hcz130_3 : wc.cell? ⟨gb958, 3, none⟩ = some (.int .i64 t949) := (blk_cell BK958.out 3).trans rfl
                                have hcz130_4 : wc.cell? ⟨gb958, 4, none⟩ = some (.bool t950) := (blk_cell BK958.out 4).trans rfl
                                have hcz130_5 : wc.cell? ⟨gb958, 5, none⟩ = some (.slice Ao41 t977.length co41) := (blk_cell BK958.out 5).trans rfl
                                have hcz130_6 : wc.cell? ⟨gb958, 6, none⟩ = some (.slice Ao42 t978.length co42) := (blk_cell BK958.out 6).trans rfl
                                have hfz130_0 := blk_frozen BK958.out 0
                                have hfz130_1 := blk_frozen BK958.out 1
                                have hfz130_2 := blk_frozen BK958.out 2
                                have hfz130_3 := blk_frozen BK958.out 3
                                have hfz130_4 := blk_frozen BK958.out 4
                                have hfz130_5 := blk_frozen BK958.out 5
                                have hfz130_6 := blk_frozen BK958.out 6
                                go_wp2_with (first | ((with_reducible refine gate_callee (f := 49) rfl ?_); refine goesL_ (some 100) rfl rfl Try.func49 (by kernel_rfl) rfl #[.agg #[.int .i64 t946, .int .i64 t947, .string t948, .int .i64 t949, .bool t950, .slice Ao41 t977.length co41, .slice Ao42 t978.length co42], .int .i64 1] rfl (by (try simp only [List.map_toArray, List.map_cons, List.map_nil]); first | done | rfl | (simp only [List.length_drop, List.length_take]; rfl) | (go_simp; done) | (simp [*]; done)) ?_; (with_reducible refine (laws_heldCell.calls kj86 t946 t947 t948 t949 t950 _ _ t977 _ _ t978 1 t1005 _ ?side1 ?side2 ?side3 ?side4 A123.out).mono ?_); (case side1 => exact pkC (Kd.R_reads' HO_959005.out).2.2); (case side2 => exact (Kd.R_reads' HO_959005.out).2.1); (case side3 => exact pkC (Kd.R_reads' HO_959006.out).2.2); (case side4 => exact (Kd.R_reads' HO_959006.out).2.1); rintro e w131 ⟨rfl, hb⟩; refine ⟨_, rfl, ?_⟩; have n0_ := Aside0.mk (Kd.R_below (pkR HO_934005.out) hb); have n1_ := Aside0.mk (Kd.R_below (pkR HO_934006.out) hb); have n2_ := Aside0.mk (Kd.R_below (pkR HO_946005.out) hb); have n3_ := Aside0.mk (Kd.R_below (pkR HO_946006.out) hb); have n4_ := Aside0.mk (Kd.R_below (pkR HO_959005.out) hb); have n5_ := Aside0.mk (Kd.R_below (pkR HO_959006.out) hb); have n6_ := Aside0.mk (Kd.R_below (pkR HO_1004005.out) hb); have n7_ := Aside0.mk (Kd.R_below (pkR HO_1004006.out) hb); have n8_ := Aside0.mk (blk_below (g := gb908) (o := .cells #[.int .i64 a0_0, .int .i64 a0_1, .string a0_2, .int .i64 a0_3, .bool a0_4, .slice A0_5 l0_5.length c0_5, .slice A0_6 l0_6.length c0_6] 56 (0, 0)) (pkK BK908.out) hb); have n9_ := Aside0.mk (blk_below (g := gb933) (o := .cells #[.int .i64 t921, .int .i64 t922, .string t923, .int .i64 t924, .bool t925, .slice Ao25 t926.length co25, .slice Ao26 t929.length co26] 29 (0, 0)) (pkK BK933.out) hb); have n10_ := Aside0.mk (blk_below (g := gb945) (o := .cells #[.int .i64 t934, .int .i64 t935, .string t936, .int .i64 t937, .bool t938, .slice Ao33 t973.length co33, .slice Ao34 t974.length co34] 29 (0, 0)) (pkK BK945.out) hb); have n11_ := Aside0.mk (blk_below (g := gb958) (o := .cells #[.int .i64 t946, .int .i64 t947, .string t948, .int .i64 t949, .bool t950, .slice Ao41 t977.length co41, .slice Ao42 t978.length co42] 29 (0, 0)) (pkK BK958.out) hb); have n12_ := Aside0.mk (blk_below (g := gb1003) (o := .cells #[.int .i64 t991, .int .i64 t992, .string t993, .int .i64 t994, .bool t995, .slice Ao108 t996.length co108, .slice Ao109 t999.length co109] 29 (0, 0)) (pkK BK1003.out) hb); have n13_ := Aside0.mk (below_step (by repeat (first | (with_reducible first | exact HB.out | apply below_alloc | apply pw_below_drewN | apply below_drew1 | refine below_set ?_ GE908.out | refine below_set ?_ GE933.out | refine below_set ?_ GE945.out | refine below_set ?_ GE958.out | refine below_set ?_ GE1003.out) | exact HB.out)) hb); clear HO_934005 HO_934006 HO_946005 HO_946006 HO_959005 HO_959006 HO_1004005 HO_1004006 BK908 BK933 BK945 BK958 BK1003 HB; have HO_934005 := n0_; have HO_934006 := n1_; have HO_946005 := n2_; have HO_946006 := n3_; have HO_959005 := n4_; have HO_959006 := n5_; have HO_1004005 := n6_; have HO_1004006 := n7_; have BK908 := n8_; have BK933 := n9_; have BK945 := n10_; have BK958 := n11_; have BK1003 := n12_; have HB := n13_; clear n0_ n1_ n2_ n3_ n4_ n5_ n6_ n7_ n8_ n9_ n10_ n11_ n12_ n13_; (try clear hb); (try clear hb2); (try clear hk); (try clear hi)))
                                go_ret
                                exact ⟨by first | rfl | (simp [errW_none, errW_some] <;> rfl) | (simp [*, errW_none, errW_some] <;> rfl), by repeat (first | (with_reducible first | exact HB.out | apply below_alloc | apply pw_below_drewN | apply below_drew1 | refine below_set ?_ GE908.out | refine below_set ?_ GE933.out | refine below_set ?_ GE945.out | refine below_set ?_ GE958.out | refine below_set ?_ GE1003.out) | exact HB.out)⟩
                              · rw [if_neg c125] at H
                                have c125b0 : (t1005 == t976) = false := beq_eq_false_iff_ne.mpr c125
                                have c125b1 : (t1005 != t976) = true := bne_iff_ne.mpr c125
                                exact absurd (Option.some.inj H) (by rw [HQ_.out]; simp)
                    · rw [if_neg c84] at H
                      have c84b0 : (t979 == t976) = false := beq_eq_false_iff_ne.mpr c84
                      have c84b1 : (t979 != t976) = true := bne_iff_ne.mpr c84
                      exact absurd (Option.some.inj H) (by rw [HQ_.out]; simp)
          · replace c56 := Bool.eq_false_iff.mpr c56
            subst c56
            have H1 : (some false) = some r := by rw [if_neg (show ¬ (false = true) by decide)] at H; exact H
            clear H
            have H := H1
            clear H1
            exact absurd (Option.some.inj H) (by rw [HQ_.out]; simp)
end Go.Proofs.Ytffcphplnilokaa.Z
