/- The Go functions laws_FnExactWatch as Lean functions, each with a proof that its code comes to just these answers; conditions: those of each theorem. -/
import Derived.Test.YtffcphplnilokaaZx0
import Derived.Test.YtffcphplnilokaaZx14
import Derived.Test.YtffcphplnilokaaZx28
import Derived.Test.YtffcphplnilokaaZx29
import Derived.Test.YtffcphplnilokaaZx41
import Derived.Test.YtffcphplnilokaaZx42
namespace Go.Proofs.Ytffcphplnilokaa.Z
open Go.RowKit Go.Proofs.YtffcphplnilokaaW.PrintWords Go.Proofs.YtffcphplnilokaaW.PrintLast Go.Proofs.YtffcphplnilokaaW.PrintMore
attribute [local go_sem] max2_int min2_int max_two min_two max_three min_three max_four min_four   -- for this text's walks alone
set_option linter.unusedVariables false
set_option linter.unusedSimpArgs false
mutual
def laws_FnExactWatch.j0 : Nat → Int → Int → Int → Int → Bool → Int → Int → ByteArray → Int → Bool → List Int → List Int → Int → Int → ByteArray → Int → Bool → List Int → List Int → Int → Int → ByteArray → Int → Bool → List Int → List Int → Int → Int → ByteArray → Int → Bool → List Int → List Int → Option (Bool)
 | 0, _, _, _, _, _, _, _, _, _, _, _, _, _, _, _, _, _, _, _, _, _, _, _, _, _, _, _, _, _, _, _, _, _ => none
 | k + 1, x1, x2, x9, x12, x48, x1116000, x1116001, x1116002, x1116003, x1116004, x1116005, x1116006, x1141000, x1141001, x1141002, x1141003, x1141004, x1141005, x1141006, x1153000, x1153001, x1153002, x1153003, x1153004, x1153005, x1153006, x1166000, x1166001, x1166002, x1166003, x1166004, x1166005, x1166006 => if x48 = true then (some false) else ((laws_toCell.f k x1116000 x1116001 x1116002 x1116003 x1116004 x1116005 x1116006).bind fun bt1167 => ((laws_eqCell.f k x1153000 x1153001 x1153002 x1153003 x1153004 x1153005 x1153006 bt1167.1 bt1167.2.1 bt1167.2.2.1 bt1167.2.2.2.1 bt1167.2.2.2.2.1 bt1167.2.2.2.2.2.1 bt1167.2.2.2.2.2.2).bind fun t1178 => (if t1178 = true then ((laws_markCell.f k x1153000 x1153001 x1153002 x1153003 x1153004 x1153005 x1153006 1).bind fun bt1179 => (if bt1179.1 < 0 then (laws_FnExactWatch.j1 k x1 x2 x9 true x1116000 x1116001 x1116002 x1116003 x1116004 x1116005 x1116006 x1141000 x1141001 x1141002 x1141003 x1141004 x1141005 x1141006 x1166000 x1166001 x1166002 x1166003 x1166004 x1166005 x1166006) else ((laws_eqCell.f k x1166000 x1166001 x1166002 x1166003 x1166004 x1166005 x1166006 x1141000 x1141001 x1141002 x1141003 x1141004 x1141005 x1141006).bind fun t1182 => (if t1182 = true then (laws_FnExactWatch.j1 k x1 x2 x9 (x12 != x9) x1116000 x1116001 x1116002 x1116003 x1116004 x1116005 x1116006 x1141000 x1141001 x1141002 x1141003 x1141004 x1141005 x1141006 x1166000 x1166001 x1166002 x1166003 x1166004 x1166005 x1166006) else (laws_FnExactWatch.j1 k x1 x2 x9 true x1116000 x1116001 x1116002 x1116003 x1116004 x1116005 x1116006 x1141000 x1141001 x1141002 x1141003 x1141004 x1141005 x1141006 x1166000 x1166001 x1166002 x1166003 x1166004 x1166005 x1166006))))) else (some false))))
def laws_FnExactWatch.j1 : Nat → Int → Int → Int → Bool → Int → Int → ByteArray → Int → Bool → List Int → List Int → Int → Int → ByteArray → Int → Bool → List Int → List Int → Int → Int → ByteArray → Int → Bool → List Int → List Int → Option (Bool)
 | 0, _, _, _, _, _, _, _, _, _, _, _, _, _, _, _, _, _, _, _, _, _, _, _, _, _ => none
 | k + 1, x1, x2, x9, x69, x1116000, x1116001, x1116002, x1116003, x1116004, x1116005, x1116006, x1141000, x1141001, x1141002, x1141003, x1141004, x1141005, x1141006, x1166000, x1166001, x1166002, x1166003, x1166004, x1166005, x1166006 => if x69 = true then (some false) else ((laws_markCell.f k x1166000 x1166001 x1166002 x1166003 x1166004 x1166005 x1166006 1).bind fun bt1183 => ((laws_heldCell.f k x1166000 x1166001 x1166002 x1166003 x1166004 bt1183.2.1 bt1183.2.2 1).bind fun t1186 => (if t1186 < 0 then (some false) else (if t1186 = bt1183.1 then ((laws_toCell.f k x1116000 x1116001 x1116002 x1116003 x1116004 x1116005 x1116006).bind fun bt1187 => ((impl_Watch.f k bt1187.1 bt1187.2.1 bt1187.2.2.1 bt1187.2.2.2.1 bt1187.2.2.2.2.1 bt1187.2.2.2.2.2.1 bt1187.2.2.2.2.2.2 x1 x2).bind fun bt1198 => ((laws_eqCell.f k bt1198.1 bt1198.2.1 bt1198.2.2.1 bt1198.2.2.2.1 bt1198.2.2.2.2.1 bt1198.2.2.2.2.2.1 bt1198.2.2.2.2.2.2.1 x1141000 x1141001 x1141002 x1141003 x1141004 x1141005 x1141006).bind fun t1211 => (if t1211 = true then (laws_FnExactWatch.j2 k bt1183.1 (bt1198.2.2.2.2.2.2.2 != x9) x1166000 x1166001 x1166002 x1166003 x1166004 bt1183.2.1 bt1183.2.2) else (laws_FnExactWatch.j2 k bt1183.1 true x1166000 x1166001 x1166002 x1166003 x1166004 bt1183.2.1 bt1183.2.2))))) else (some false)))))
def laws_FnExactWatch.j2 : Nat → Int → Bool → Int → Int → ByteArray → Int → Bool → List Int → List Int → Option (Bool)
 | 0, _, _, _, _, _, _, _, _, _ => none
 | k + 1, x14, x97, x1166000, x1166001, x1166002, x1166003, x1166004, x1166005, x1166006 => if x97 = true then (some false) else ((laws_heldCell.f k x1166000 x1166001 x1166002 x1166003 x1166004 x1166005 x1166006 1).bind fun t1212 => (if t1212 < 0 then (some false) else (if t1212 = x14 then (some true) else (some false))))
end
def laws_FnExactWatch.f (k : Nat) (a0_0 : Int) (a0_1 : Int) (a0_2 : ByteArray) (a0_3 : Int) (a0_4 : Bool) (l0_5 : List Int) (l0_6 : List Int) (a1 : Int) (a2 : Int) : Option (Bool) := (laws_szCell.f a0_0 a0_1 a0_2 a0_3 a0_4 l0_5 l0_6 1048576).bind fun t1116 => (if t1116 < 0 then (some true) else ((laws_toCell.f k a0_0 a0_1 a0_2 a0_3 a0_4 l0_5 l0_6).bind fun bt1117 => ((spec_Watch.f k bt1117.1 bt1117.2.1 bt1117.2.2.1 bt1117.2.2.2.1 bt1117.2.2.2.2.1 bt1117.2.2.2.2.2.1 bt1117.2.2.2.2.2.2 a1 a2).bind fun bt1128 => ((laws_toCell.f k a0_0 a0_1 a0_2 a0_3 a0_4 l0_5 l0_6).bind fun bt1141 => ((impl_Watch.f k bt1141.1 bt1141.2.1 bt1141.2.2.1 bt1141.2.2.2.1 bt1141.2.2.2.2.1 bt1141.2.2.2.2.2.1 bt1141.2.2.2.2.2.2 a1 a2).bind fun bt1153 => ((laws_eqCell.f k bt1153.1 bt1153.2.1 bt1153.2.2.1 bt1153.2.2.2.1 bt1153.2.2.2.2.1 bt1153.2.2.2.2.2.1 bt1153.2.2.2.2.2.2.1 bt1128.1 bt1128.2.1 bt1128.2.2.1 bt1128.2.2.2.1 bt1128.2.2.2.2.1 bt1128.2.2.2.2.2.1 bt1128.2.2.2.2.2.2.1).bind fun t1166 => (if t1166 = true then (laws_FnExactWatch.j0 k a1 a2 bt1128.2.2.2.2.2.2.2 bt1153.2.2.2.2.2.2.2 (bt1153.2.2.2.2.2.2.2 != bt1128.2.2.2.2.2.2.2) a0_0 a0_1 a0_2 a0_3 a0_4 l0_5 l0_6 bt1128.1 bt1128.2.1 bt1128.2.2.1 bt1128.2.2.2.1 bt1128.2.2.2.2.1 bt1128.2.2.2.2.2.1 bt1128.2.2.2.2.2.2.1 bt1141.1 bt1141.2.1 bt1141.2.2.1 bt1141.2.2.2.1 bt1141.2.2.2.2.1 bt1141.2.2.2.2.2.1 bt1141.2.2.2.2.2.2 bt1153.1 bt1153.2.1 bt1153.2.2.1 bt1153.2.2.2.1 bt1153.2.2.2.2.1 bt1153.2.2.2.2.2.1 bt1153.2.2.2.2.2.2.1) else (laws_FnExactWatch.j0 k a1 a2 bt1128.2.2.2.2.2.2.2 bt1153.2.2.2.2.2.2.2 true a0_0 a0_1 a0_2 a0_3 a0_4 l0_5 l0_6 bt1128.1 bt1128.2.1 bt1128.2.2.1 bt1128.2.2.2.1 bt1128.2.2.2.2.1 bt1128.2.2.2.2.2.1 bt1128.2.2.2.2.2.2.1 bt1141.1 bt1141.2.1 bt1141.2.2.1 bt1141.2.2.2.1 bt1141.2.2.2.2.1 bt1141.2.2.2.2.2.1 bt1141.2.2.2.2.2.2 bt1153.1 bt1153.2.1 bt1153.2.2.1 bt1153.2.2.2.1 bt1153.2.2.2.2.1 bt1153.2.2.2.2.2.1 bt1153.2.2.2.2.2.2.1))))))))
theorem laws_FnExactWatch.mono_l : ∀ k, (∀ y0 y1 y2 y3 y4 y5 y6 y7 y8 y9 y10 y11 y12 y13 y14 y15 y16 y17 y18 y19 y20 y21 y22 y23 y24 y25 y26 y27 y28 y29 y30 y31 y32, LeO (laws_FnExactWatch.j0 k y0 y1 y2 y3 y4 y5 y6 y7 y8 y9 y10 y11 y12 y13 y14 y15 y16 y17 y18 y19 y20 y21 y22 y23 y24 y25 y26 y27 y28 y29 y30 y31 y32) (laws_FnExactWatch.j0 (k + 1) y0 y1 y2 y3 y4 y5 y6 y7 y8 y9 y10 y11 y12 y13 y14 y15 y16 y17 y18 y19 y20 y21 y22 y23 y24 y25 y26 y27 y28 y29 y30 y31 y32)) ∧ (∀ y0 y1 y2 y3 y4 y5 y6 y7 y8 y9 y10 y11 y12 y13 y14 y15 y16 y17 y18 y19 y20 y21 y22 y23 y24, LeO (laws_FnExactWatch.j1 k y0 y1 y2 y3 y4 y5 y6 y7 y8 y9 y10 y11 y12 y13 y14 y15 y16 y17 y18 y19 y20 y21 y22 y23 y24) (laws_FnExactWatch.j1 (k + 1) y0 y1 y2 y3 y4 y5 y6 y7 y8 y9 y10 y11 y12 y13 y14 y15 y16 y17 y18 y19 y20 y21 y22 y23 y24)) ∧ (∀ y0 y1 y2 y3 y4 y5 y6 y7 y8, LeO (laws_FnExactWatch.j2 k y0 y1 y2 y3 y4 y5 y6 y7 y8) (laws_FnExactWatch.j2 (k + 1) y0 y1 y2 y3 y4 y5 y6 y7 y8))
 | 0 => ⟨fun _ _ _ _ _ _ _ _ _ _ _ _ _ _ _ _ _ _ _ _ _ _ _ _ _ _ _ _ _ _ _ _ _ r h => by simp [laws_FnExactWatch.j0] at h, fun _ _ _ _ _ _ _ _ _ _ _ _ _ _ _ _ _ _ _ _ _ _ _ _ _ r h => by simp [laws_FnExactWatch.j1] at h, fun _ _ _ _ _ _ _ _ _ r h => by simp [laws_FnExactWatch.j2] at h⟩
 | k + 1 => by
  obtain ⟨ih0, ih1, ih2⟩ := laws_FnExactWatch.mono_l k
  refine ⟨?_, ?_, ?_⟩
  ·intro y0 y1 y2 y3 y4 y5 y6 y7 y8 y9 y10 y11 y12 y13 y14 y15 y16 y17 y18 y19 y20 y21 y22 y23 y24 y25 y26 y27 y28 y29 y30 y31 y32
   unfold laws_FnExactWatch.j0
   repeat' first
   | (with_reducible exact ih0 _ _ _ _ _ _ _ _ _ _ _ _ _ _ _ _ _ _ _ _ _ _ _ _ _ _ _ _ _ _ _ _ _)
   | (with_reducible exact ih1 _ _ _ _ _ _ _ _ _ _ _ _ _ _ _ _ _ _ _ _ _ _ _ _ _)
   | (with_reducible exact ih2 _ _ _ _ _ _ _ _ _)
   | (with_reducible exact impl_Watch.mono _ _ _ _ _ _ _ _ _ _)
   | (with_reducible exact laws_eqCell.mono _ _ _ _ _ _ _ _ _ _ _ _ _ _ _)
   | (with_reducible exact laws_heldCell.mono _ _ _ _ _ _ _ _ _)
   | (with_reducible exact laws_markCell.mono _ _ _ _ _ _ _ _ _)
   | (with_reducible exact laws_toCell.mono _ _ _ _ _ _ _ _)
   | (with_reducible exact spec_Watch.mono _ _ _ _ _ _ _ _ _ _)
   | (with_reducible exact LeO.refl _)
   | (with_reducible exact LeO.none _)
   | (with_reducible refine LeO.ite ?_ ?_)
   | (with_reducible refine LeO.bind ?_ (fun _ => ?_))
  ·intro y0 y1 y2 y3 y4 y5 y6 y7 y8 y9 y10 y11 y12 y13 y14 y15 y16 y17 y18 y19 y20 y21 y22 y23 y24
   unfold laws_FnExactWatch.j1
   repeat' first
   | (with_reducible exact ih0 _ _ _ _ _ _ _ _ _ _ _ _ _ _ _ _ _ _ _ _ _ _ _ _ _ _ _ _ _ _ _ _ _)
   | (with_reducible exact ih1 _ _ _ _ _ _ _ _ _ _ _ _ _ _ _ _ _ _ _ _ _ _ _ _ _)
   | (with_reducible exact ih2 _ _ _ _ _ _ _ _ _)
   | (with_reducible exact impl_Watch.mono _ _ _ _ _ _ _ _ _ _)
   | (with_reducible exact laws_eqCell.mono _ _ _ _ _ _ _ _ _ _ _ _ _ _ _)
   | (with_reducible exact laws_heldCell.mono _ _ _ _ _ _ _ _ _)
   | (with_reducible exact laws_markCell.mono _ _ _ _ _ _ _ _ _)
   | (with_reducible exact laws_toCell.mono _ _ _ _ _ _ _ _)
   | (with_reducible exact spec_Watch.mono _ _ _ _ _ _ _ _ _ _)
   | (with_reducible exact LeO.refl _)
   | (with_reducible exact LeO.none _)
   | (with_reducible refine LeO.ite ?_ ?_)
   | (with_reducible refine LeO.bind ?_ (fun _ => ?_))
  ·intro y0 y1 y2 y3 y4 y5 y6 y7 y8
   unfold laws_FnExactWatch.j2
   repeat' first
   | (with_reducible exact ih0 _ _ _ _ _ _ _ _ _ _ _ _ _ _ _ _ _ _ _ _ _ _ _ _ _ _ _ _ _ _ _ _ _)
   | (with_reducible exact ih1 _ _ _ _ _ _ _ _ _ _ _ _ _ _ _ _ _ _ _ _ _ _ _ _ _)
   | (with_reducible exact ih2 _ _ _ _ _ _ _ _ _)
   | (with_reducible exact impl_Watch.mono _ _ _ _ _ _ _ _ _ _)
   | (with_reducible exact laws_eqCell.mono _ _ _ _ _ _ _ _ _ _ _ _ _ _ _)
   | (with_reducible exact laws_heldCell.mono _ _ _ _ _ _ _ _ _)
   | (with_reducible exact laws_markCell.mono _ _ _ _ _ _ _ _ _)
   | (with_reducible exact laws_toCell.mono _ _ _ _ _ _ _ _)
   | (with_reducible exact spec_Watch.mono _ _ _ _ _ _ _ _ _ _)
   | (with_reducible exact LeO.refl _)
   | (with_reducible exact LeO.none _)
   | (with_reducible refine LeO.ite ?_ ?_)
   | (with_reducible refine LeO.bind ?_ (fun _ => ?_))
theorem laws_FnExactWatch.mono : ∀ a0 a1 a2 a3 a4 a5 a6 a7 a8 k, LeO (laws_FnExactWatch.f k a0 a1 a2 a3 a4 a5 a6 a7 a8) (laws_FnExactWatch.f (k + 1) a0 a1 a2 a3 a4 a5 a6 a7 a8) := by
 intro a0 a1 a2 a3 a4 a5 a6 a7 a8 k
 obtain ⟨ih0, ih1, ih2⟩ := laws_FnExactWatch.mono_l k
 unfold laws_FnExactWatch.f
 repeat' first
   | (with_reducible exact ih0 _ _ _ _ _ _ _ _ _ _ _ _ _ _ _ _ _ _ _ _ _ _ _ _ _ _ _ _ _ _ _ _ _)
   | (with_reducible exact ih1 _ _ _ _ _ _ _ _ _ _ _ _ _ _ _ _ _ _ _ _ _ _ _ _ _)
   | (with_reducible exact ih2 _ _ _ _ _ _ _ _ _)
   | (with_reducible exact impl_Watch.mono _ _ _ _ _ _ _ _ _ _)
   | (with_reducible exact laws_eqCell.mono _ _ _ _ _ _ _ _ _ _ _ _ _ _ _)
   | (with_reducible exact laws_heldCell.mono _ _ _ _ _ _ _ _ _)
   | (with_reducible exact laws_markCell.mono _ _ _ _ _ _ _ _ _)
   | (with_reducible exact laws_toCell.mono _ _ _ _ _ _ _ _)
   | (with_reducible exact spec_Watch.mono _ _ _ _ _ _ _ _ _ _)
   | (with_reducible exact LeO.refl _)
   | (with_reducible exact LeO.none _)
   | (with_reducible refine LeO.ite ?_ ?_)
   | (with_reducible refine LeO.bind ?_ (fun _ => ?_))
set_option maxHeartbeats 8000000 in
set_option maxRecDepth 100000 in
theorem laws_FnExactWatch.calls (k : Nat) (a0_0 : Int) (a0_1 : Int) (a0_2 : ByteArray) (a0_3 : Int) (a0_4 : Bool) (A0_5 : Option Addr) (c0_5 : Nat) (l0_5 : List Int) (A0_6 : Option Addr) (c0_6 : Nat) (l0_6 : List Int) (a1 : Int) (a2 : Int) (r : Bool) (w : World) (hr0_5 : Kd.C (Kd.int .i64) w A0_5 l0_5.length l0_5) (hc0_5 : l0_5.length ≤ c0_5) (hr0_6 : Kd.C (Kd.int .i64) w A0_6 l0_6.length l0_6) (hc0_6 : l0_6.length ≤ c0_6) (HQ_ : Aside0 (r = true)) (h : laws_FnExactWatch.f k a0_0 a0_1 a0_2 a0_3 a0_4 l0_5 l0_6 a1 a2 = some r) :
  Calls Try.prog 12 #[.agg #[.int .i64 a0_0, .int .i64 a0_1, .string a0_2, .int .i64 a0_3, .bool a0_4, .slice A0_5 l0_5.length c0_5, .slice A0_6 l0_6.length c0_6], .int .i64 a1, .int .i64 a2] w fun e w' => e = .returned (.bool r) ∧ Below w.heap.size w w' := by
 have hu56 := Try.underlying56
 have hu29 := Try.underlying29
 have HR0_5 := am hr0_5
 have HC0_5 := am hc0_5
 clear hr0_5 hc0_5
 have HR0_6 := am hr0_6
 have HC0_6 := am hc0_6
 clear hr0_6 hc0_6
 have HB := am (Below.refl w.heap.size w)
 have H : ((laws_szCell.f a0_0 a0_1 a0_2 a0_3 a0_4 l0_5 l0_6 1048576).bind fun t1116 => (if t1116 < 0 then (some true) else ((laws_toCell.f k a0_0 a0_1 a0_2 a0_3 a0_4 l0_5 l0_6).bind fun bt1117 => ((spec_Watch.f k bt1117.1 bt1117.2.1 bt1117.2.2.1 bt1117.2.2.2.1 bt1117.2.2.2.2.1 bt1117.2.2.2.2.2.1 bt1117.2.2.2.2.2.2 a1 a2).bind fun bt1128 => ((laws_toCell.f k a0_0 a0_1 a0_2 a0_3 a0_4 l0_5 l0_6).bind fun bt1141 => ((impl_Watch.f k bt1141.1 bt1141.2.1 bt1141.2.2.1 bt1141.2.2.2.1 bt1141.2.2.2.2.1 bt1141.2.2.2.2.2.1 bt1141.2.2.2.2.2.2 a1 a2).bind fun bt1153 => ((laws_eqCell.f k bt1153.1 bt1153.2.1 bt1153.2.2.1 bt1153.2.2.2.1 bt1153.2.2.2.2.1 bt1153.2.2.2.2.2.1 bt1153.2.2.2.2.2.2.1 bt1128.1 bt1128.2.1 bt1128.2.2.1 bt1128.2.2.2.1 bt1128.2.2.2.2.1 bt1128.2.2.2.2.2.1 bt1128.2.2.2.2.2.2.1).bind fun t1166 => (if t1166 = true then (laws_FnExactWatch.j0 k a1 a2 bt1128.2.2.2.2.2.2.2 bt1153.2.2.2.2.2.2.2 (bt1153.2.2.2.2.2.2.2 != bt1128.2.2.2.2.2.2.2) a0_0 a0_1 a0_2 a0_3 a0_4 l0_5 l0_6 bt1128.1 bt1128.2.1 bt1128.2.2.1 bt1128.2.2.2.1 bt1128.2.2.2.2.1 bt1128.2.2.2.2.2.1 bt1128.2.2.2.2.2.2.1 bt1141.1 bt1141.2.1 bt1141.2.2.1 bt1141.2.2.2.1 bt1141.2.2.2.2.1 bt1141.2.2.2.2.2.1 bt1141.2.2.2.2.2.2 bt1153.1 bt1153.2.1 bt1153.2.2.1 bt1153.2.2.2.1 bt1153.2.2.2.2.1 bt1153.2.2.2.2.2.1 bt1153.2.2.2.2.2.2.1) else (laws_FnExactWatch.j0 k a1 a2 bt1128.2.2.2.2.2.2.2 bt1153.2.2.2.2.2.2.2 true a0_0 a0_1 a0_2 a0_3 a0_4 l0_5 l0_6 bt1128.1 bt1128.2.1 bt1128.2.2.1 bt1128.2.2.2.1 bt1128.2.2.2.2.1 bt1128.2.2.2.2.2.1 bt1128.2.2.2.2.2.2.1 bt1141.1 bt1141.2.1 bt1141.2.2.1 bt1141.2.2.2.1 bt1141.2.2.2.2.1 bt1141.2.2.2.2.2.1 bt1141.2.2.2.2.2.2 bt1153.1 bt1153.2.1 bt1153.2.2.1 bt1153.2.2.2.1 bt1153.2.2.2.2.1 bt1153.2.2.2.2.2.1 bt1153.2.2.2.2.2.2.1))))))))) = some r := h
 clear h
 replace H := Option.bind_eq_some_iff.mp H
 obtain ⟨t1116, A40, H⟩ := H
 replace H : (if t1116 < 0 then (some true) else ((laws_toCell.f k a0_0 a0_1 a0_2 a0_3 a0_4 l0_5 l0_6).bind fun bt1117 => ((spec_Watch.f k bt1117.1 bt1117.2.1 bt1117.2.2.1 bt1117.2.2.2.1 bt1117.2.2.2.2.1 bt1117.2.2.2.2.2.1 bt1117.2.2.2.2.2.2 a1 a2).bind fun bt1128 => ((laws_toCell.f k a0_0 a0_1 a0_2 a0_3 a0_4 l0_5 l0_6).bind fun bt1141 => ((impl_Watch.f k bt1141.1 bt1141.2.1 bt1141.2.2.1 bt1141.2.2.2.1 bt1141.2.2.2.2.1 bt1141.2.2.2.2.2.1 bt1141.2.2.2.2.2.2 a1 a2).bind fun bt1153 => ((laws_eqCell.f k bt1153.1 bt1153.2.1 bt1153.2.2.1 bt1153.2.2.2.1 bt1153.2.2.2.2.1 bt1153.2.2.2.2.2.1 bt1153.2.2.2.2.2.2.1 bt1128.1 bt1128.2.1 bt1128.2.2.1 bt1128.2.2.2.1 bt1128.2.2.2.2.1 bt1128.2.2.2.2.2.1 bt1128.2.2.2.2.2.2.1).bind fun t1166 => (if t1166 = true then (laws_FnExactWatch.j0 k a1 a2 bt1128.2.2.2.2.2.2.2 bt1153.2.2.2.2.2.2.2 (bt1153.2.2.2.2.2.2.2 != bt1128.2.2.2.2.2.2.2) a0_0 a0_1 a0_2 a0_3 a0_4 l0_5 l0_6 bt1128.1 bt1128.2.1 bt1128.2.2.1 bt1128.2.2.2.1 bt1128.2.2.2.2.1 bt1128.2.2.2.2.2.1 bt1128.2.2.2.2.2.2.1 bt1141.1 bt1141.2.1 bt1141.2.2.1 bt1141.2.2.2.1 bt1141.2.2.2.2.1 bt1141.2.2.2.2.2.1 bt1141.2.2.2.2.2.2 bt1153.1 bt1153.2.1 bt1153.2.2.1 bt1153.2.2.2.1 bt1153.2.2.2.2.1 bt1153.2.2.2.2.2.1 bt1153.2.2.2.2.2.2.1) else (laws_FnExactWatch.j0 k a1 a2 bt1128.2.2.2.2.2.2.2 bt1153.2.2.2.2.2.2.2 true a0_0 a0_1 a0_2 a0_3 a0_4 l0_5 l0_6 bt1128.1 bt1128.2.1 bt1128.2.2.1 bt1128.2.2.2.1 bt1128.2.2.2.2.1 bt1128.2.2.2.2.2.1 bt1128.2.2.2.2.2.2.1 bt1141.1 bt1141.2.1 bt1141.2.2.1 bt1141.2.2.2.1 bt1141.2.2.2.2.1 bt1141.2.2.2.2.2.1 bt1141.2.2.2.2.2.2 bt1153.1 bt1153.2.1 bt1153.2.2.1 bt1153.2.2.2.1 bt1153.2.2.2.2.1 bt1153.2.2.2.2.2.1 bt1153.2.2.2.2.2.2.1)))))))) = some r := H
 have A4 := am A40
 clear A40
 by_cases c5 : t1116 < 0
 ·rw [if_pos c5] at H
  have c5b0 : decide (t1116 < 0) = true := decide_eq_true c5
  clear c5
  obtain rfl := Option.some.inj H
  go_enter Try.func12, Try.ntmps12
  go_wp2_with (first | ((with_reducible refine gate_dst (N := 3) rfl ?_); refine box_event ?hg (N := 3) ?hd (cs := #[.int .i64 a0_0, .int .i64 a0_1, .string a0_2, .int .i64 a0_3, .bool a0_4, .slice A0_5 l0_5.length c0_5, .slice A0_6 l0_6.length c0_6]) (t := 56) ?hr ?_; (case hd => rfl); (case hg => rfl); (case hr => first | (go_simp; done) | (go_simp; rfl)); intro gb1115 hg w6 hbox hb; have BK1115 := am (hbox); have GW1115 := am ((by rw [hg]; exact (below_size (pkB HB.out)) : w.heap.size ≤ gb1115)); have GE1115 := am ((by rw [hg]; exact (below_size (pkB HB.out)) : w.heap.size ≤ gb1115)); replace HB := am (below_step (pkB HB.out) hb); clear hb hbox hg; obtain ⟨hcz7_0, hcz7_1, hcz7_2, hcz7_3, hcz7_4, hcz7_5, hcz7_6, hfz7_0, hfz7_1, hfz7_2, hfz7_3, hfz7_4, hfz7_5, hfz7_6⟩ := bk7 BK1115.out) | ((with_reducible refine gate_callee (f := 31) rfl ?_); refine goesL_ (some 20) rfl rfl Try.func31 (by kernel_rfl) rfl #[.agg #[.int .i64 a0_0, .int .i64 a0_1, .string a0_2, .int .i64 a0_3, .bool a0_4, .slice A0_5 l0_5.length c0_5, .slice A0_6 l0_6.length c0_6], .int .i64 1048576] rfl mpx ?_; (with_reducible refine (laws_szCell.calls a0_0 a0_1 a0_2 a0_3 a0_4 _ _ l0_5 _ _ l0_6 1048576 t1116 _ ?side1 ?side2 ?side3 ?side4 A4.out).mono ?_); (case side1 => exact pkC (Kd.C_below HR0_5.out HB.out)); (case side2 => exact HC0_5.out); (case side3 => exact pkC (Kd.C_below HR0_6.out HB.out)); (case side4 => exact HC0_6.out); rintro e w8 ⟨rfl, hb⟩; refine ⟨_, rfl, ?_⟩; replace BK1115 := am (blk_below (pkK BK1115.out) hb); replace HB := am (below_step (pkW HB.out) hb); (try clear hb)))
  go_ret
  exact ⟨rfe, pkW HB.out⟩
 ·rw [if_neg c5] at H
  have c5b0 : decide (t1116 < 0) = false := decide_eq_false c5
  clear c5
  replace H := Option.bind_eq_some_iff.mp H
  obtain ⟨⟨t1117, t1118, t1119, t1120, t1121, t1122, t1125⟩, A90, H⟩ := H
  replace H : ((spec_Watch.f k t1117 t1118 t1119 t1120 t1121 t1122 t1125 a1 a2).bind fun bt1128 => ((laws_toCell.f k a0_0 a0_1 a0_2 a0_3 a0_4 l0_5 l0_6).bind fun bt1141 => ((impl_Watch.f k bt1141.1 bt1141.2.1 bt1141.2.2.1 bt1141.2.2.2.1 bt1141.2.2.2.2.1 bt1141.2.2.2.2.2.1 bt1141.2.2.2.2.2.2 a1 a2).bind fun bt1153 => ((laws_eqCell.f k bt1153.1 bt1153.2.1 bt1153.2.2.1 bt1153.2.2.2.1 bt1153.2.2.2.2.1 bt1153.2.2.2.2.2.1 bt1153.2.2.2.2.2.2.1 bt1128.1 bt1128.2.1 bt1128.2.2.1 bt1128.2.2.2.1 bt1128.2.2.2.2.1 bt1128.2.2.2.2.2.1 bt1128.2.2.2.2.2.2.1).bind fun t1166 => (if t1166 = true then (laws_FnExactWatch.j0 k a1 a2 bt1128.2.2.2.2.2.2.2 bt1153.2.2.2.2.2.2.2 (bt1153.2.2.2.2.2.2.2 != bt1128.2.2.2.2.2.2.2) a0_0 a0_1 a0_2 a0_3 a0_4 l0_5 l0_6 bt1128.1 bt1128.2.1 bt1128.2.2.1 bt1128.2.2.2.1 bt1128.2.2.2.2.1 bt1128.2.2.2.2.2.1 bt1128.2.2.2.2.2.2.1 bt1141.1 bt1141.2.1 bt1141.2.2.1 bt1141.2.2.2.1 bt1141.2.2.2.2.1 bt1141.2.2.2.2.2.1 bt1141.2.2.2.2.2.2 bt1153.1 bt1153.2.1 bt1153.2.2.1 bt1153.2.2.2.1 bt1153.2.2.2.2.1 bt1153.2.2.2.2.2.1 bt1153.2.2.2.2.2.2.1) else (laws_FnExactWatch.j0 k a1 a2 bt1128.2.2.2.2.2.2.2 bt1153.2.2.2.2.2.2.2 true a0_0 a0_1 a0_2 a0_3 a0_4 l0_5 l0_6 bt1128.1 bt1128.2.1 bt1128.2.2.1 bt1128.2.2.2.1 bt1128.2.2.2.2.1 bt1128.2.2.2.2.2.1 bt1128.2.2.2.2.2.2.1 bt1141.1 bt1141.2.1 bt1141.2.2.1 bt1141.2.2.2.1 bt1141.2.2.2.2.1 bt1141.2.2.2.2.2.1 bt1141.2.2.2.2.2.2 bt1153.1 bt1153.2.1 bt1153.2.2.1 bt1153.2.2.2.1 bt1153.2.2.2.2.1 bt1153.2.2.2.2.2.1 bt1153.2.2.2.2.2.2.1)))))) = some r := H
  have A9 := am A90
  clear A90
  replace H := Option.bind_eq_some_iff.mp H
  obtain ⟨⟨t1128, t1129, t1130, t1131, t1132, t1133, t1136, t1139⟩, A100, H⟩ := H
  replace H : ((laws_toCell.f k a0_0 a0_1 a0_2 a0_3 a0_4 l0_5 l0_6).bind fun bt1141 => ((impl_Watch.f k bt1141.1 bt1141.2.1 bt1141.2.2.1 bt1141.2.2.2.1 bt1141.2.2.2.2.1 bt1141.2.2.2.2.2.1 bt1141.2.2.2.2.2.2 a1 a2).bind fun bt1153 => ((laws_eqCell.f k bt1153.1 bt1153.2.1 bt1153.2.2.1 bt1153.2.2.2.1 bt1153.2.2.2.2.1 bt1153.2.2.2.2.2.1 bt1153.2.2.2.2.2.2.1 t1128 t1129 t1130 t1131 t1132 t1133 t1136).bind fun t1166 => (if t1166 = true then (laws_FnExactWatch.j0 k a1 a2 t1139 bt1153.2.2.2.2.2.2.2 (bt1153.2.2.2.2.2.2.2 != t1139) a0_0 a0_1 a0_2 a0_3 a0_4 l0_5 l0_6 t1128 t1129 t1130 t1131 t1132 t1133 t1136 bt1141.1 bt1141.2.1 bt1141.2.2.1 bt1141.2.2.2.1 bt1141.2.2.2.2.1 bt1141.2.2.2.2.2.1 bt1141.2.2.2.2.2.2 bt1153.1 bt1153.2.1 bt1153.2.2.1 bt1153.2.2.2.1 bt1153.2.2.2.2.1 bt1153.2.2.2.2.2.1 bt1153.2.2.2.2.2.2.1) else (laws_FnExactWatch.j0 k a1 a2 t1139 bt1153.2.2.2.2.2.2.2 true a0_0 a0_1 a0_2 a0_3 a0_4 l0_5 l0_6 t1128 t1129 t1130 t1131 t1132 t1133 t1136 bt1141.1 bt1141.2.1 bt1141.2.2.1 bt1141.2.2.2.1 bt1141.2.2.2.2.1 bt1141.2.2.2.2.2.1 bt1141.2.2.2.2.2.2 bt1153.1 bt1153.2.1 bt1153.2.2.1 bt1153.2.2.2.1 bt1153.2.2.2.2.1 bt1153.2.2.2.2.2.1 bt1153.2.2.2.2.2.2.1))))) = some r := H
  have A10 := am A100
  clear A100
  replace H := Option.bind_eq_some_iff.mp H
  obtain ⟨⟨t1141, t1142, t1143, t1144, t1145, t1146, t1149⟩, A110, H⟩ := H
  replace H : ((impl_Watch.f k t1141 t1142 t1143 t1144 t1145 t1146 t1149 a1 a2).bind fun bt1153 => ((laws_eqCell.f k bt1153.1 bt1153.2.1 bt1153.2.2.1 bt1153.2.2.2.1 bt1153.2.2.2.2.1 bt1153.2.2.2.2.2.1 bt1153.2.2.2.2.2.2.1 t1128 t1129 t1130 t1131 t1132 t1133 t1136).bind fun t1166 => (if t1166 = true then (laws_FnExactWatch.j0 k a1 a2 t1139 bt1153.2.2.2.2.2.2.2 (bt1153.2.2.2.2.2.2.2 != t1139) a0_0 a0_1 a0_2 a0_3 a0_4 l0_5 l0_6 t1128 t1129 t1130 t1131 t1132 t1133 t1136 t1141 t1142 t1143 t1144 t1145 t1146 t1149 bt1153.1 bt1153.2.1 bt1153.2.2.1 bt1153.2.2.2.1 bt1153.2.2.2.2.1 bt1153.2.2.2.2.2.1 bt1153.2.2.2.2.2.2.1) else (laws_FnExactWatch.j0 k a1 a2 t1139 bt1153.2.2.2.2.2.2.2 true a0_0 a0_1 a0_2 a0_3 a0_4 l0_5 l0_6 t1128 t1129 t1130 t1131 t1132 t1133 t1136 t1141 t1142 t1143 t1144 t1145 t1146 t1149 bt1153.1 bt1153.2.1 bt1153.2.2.1 bt1153.2.2.2.1 bt1153.2.2.2.2.1 bt1153.2.2.2.2.2.1 bt1153.2.2.2.2.2.2.1)))) = some r := H
  have A11 := am A110
  clear A110
  replace H := Option.bind_eq_some_iff.mp H
  obtain ⟨⟨t1153, t1154, t1155, t1156, t1157, t1158, t1161, t1164⟩, A120, H⟩ := H
  replace H : ((laws_eqCell.f k t1153 t1154 t1155 t1156 t1157 t1158 t1161 t1128 t1129 t1130 t1131 t1132 t1133 t1136).bind fun t1166 => (if t1166 = true then (laws_FnExactWatch.j0 k a1 a2 t1139 t1164 (t1164 != t1139) a0_0 a0_1 a0_2 a0_3 a0_4 l0_5 l0_6 t1128 t1129 t1130 t1131 t1132 t1133 t1136 t1141 t1142 t1143 t1144 t1145 t1146 t1149 t1153 t1154 t1155 t1156 t1157 t1158 t1161) else (laws_FnExactWatch.j0 k a1 a2 t1139 t1164 true a0_0 a0_1 a0_2 a0_3 a0_4 l0_5 l0_6 t1128 t1129 t1130 t1131 t1132 t1133 t1136 t1141 t1142 t1143 t1144 t1145 t1146 t1149 t1153 t1154 t1155 t1156 t1157 t1158 t1161))) = some r := H
  have A12 := am A120
  clear A120
  have HC13 := am H
  clear H
  go_enter Try.func12, Try.ntmps12
  go_upto_region 8 with (first | ((with_reducible refine gate_dst (N := 3) rfl ?_); refine box_event ?hg (N := 3) ?hd (cs := #[.int .i64 a0_0, .int .i64 a0_1, .string a0_2, .int .i64 a0_3, .bool a0_4, .slice A0_5 l0_5.length c0_5, .slice A0_6 l0_6.length c0_6]) (t := 56) ?hr ?_; (case hd => rfl); (case hg => rfl); (case hr => first | (go_simp; done) | (go_simp; rfl)); intro gb1115 hg w14 hbox hb; have BK1115 := am (hbox); have GW1115 := am ((by rw [hg]; exact (below_size (pkB HB.out)) : w.heap.size ≤ gb1115)); have GE1115 := am ((by rw [hg]; exact (below_size (pkB HB.out)) : w.heap.size ≤ gb1115)); replace HB := am (below_step (pkB HB.out) hb); clear hb hbox hg; obtain ⟨hcz15_0, hcz15_1, hcz15_2, hcz15_3, hcz15_4, hcz15_5, hcz15_6, hfz15_0, hfz15_1, hfz15_2, hfz15_3, hfz15_4, hfz15_5, hfz15_6⟩ := bk7 BK1115.out) | ((with_reducible refine gate_callee (f := 31) rfl ?_); refine goesL_ (some 20) rfl rfl Try.func31 (by kernel_rfl) rfl #[.agg #[.int .i64 a0_0, .int .i64 a0_1, .string a0_2, .int .i64 a0_3, .bool a0_4, .slice A0_5 l0_5.length c0_5, .slice A0_6 l0_6.length c0_6], .int .i64 1048576] rfl mpx ?_; (with_reducible refine (laws_szCell.calls a0_0 a0_1 a0_2 a0_3 a0_4 _ _ l0_5 _ _ l0_6 1048576 t1116 _ ?side1 ?side2 ?side3 ?side4 A4.out).mono ?_); (case side1 => exact pkC (Kd.C_below HR0_5.out HB.out)); (case side2 => exact HC0_5.out); (case side3 => exact pkC (Kd.C_below HR0_6.out HB.out)); (case side4 => exact HC0_6.out); rintro e w16 ⟨rfl, hb⟩; refine ⟨_, rfl, ?_⟩; replace BK1115 := am (blk_below (pkK BK1115.out) hb); replace HB := am (below_step (pkW HB.out) hb); (try clear hb); obtain ⟨hcz17_0, hcz17_1, hcz17_2, hcz17_3, hcz17_4, hcz17_5, hcz17_6, hfz17_0, hfz17_1, hfz17_2, hfz17_3, hfz17_4, hfz17_5, hfz17_6⟩ := bk7 BK1115.out) | ((with_reducible refine gate_callee (f := 32) rfl ?_); refine goesL_ (some 25) rfl rfl Try.func32 (by kernel_rfl) rfl #[.agg #[.int .i64 a0_0, .int .i64 a0_1, .string a0_2, .int .i64 a0_3, .bool a0_4, .slice A0_5 l0_5.length c0_5, .slice A0_6 l0_6.length c0_6]] rfl mpx ?_; (with_reducible refine (laws_toCell.calls k a0_0 a0_1 a0_2 a0_3 a0_4 _ _ l0_5 _ _ l0_6 t1117 t1118 t1119 t1120 t1121 t1122 t1125 _ ?side1 ?side2 ?side3 ?side4 A9.out).mono ?_); (case side1 => exact pkC (Kd.C_below HR0_5.out HB.out)); (case side2 => exact HC0_5.out); (case side3 => exact pkC (Kd.C_below HR0_6.out HB.out)); (case side4 => exact HC0_6.out); rintro e w18 ⟨v1123, v1126, rfl, ho0, ho1, hb⟩; refine ⟨_, rfl, ?_⟩; have HO1124 := am (Kd.R_lower ho0 (below_size (pkW HB.out))); have HO1127 := am (Kd.R_lower ho1 (below_size (pkW HB.out))); replace BK1115 := am (blk_below (pkK BK1115.out) hb); replace HB := am (below_step (pkW HB.out) hb); (try clear hb ho0 ho1); obtain ⟨Ao19, co19, eo19⟩ := Kd.R_slice HO1124.out; subst eo19; obtain ⟨Ao20, co20, eo20⟩ := Kd.R_slice HO1127.out; subst eo20) | ((with_reducible refine gate_callee (f := 47) rfl ?_); refine goesL_ (some 28) rfl rfl Try.func47 (by kernel_rfl) rfl #[.agg #[.int .i64 t1117, .int .i64 t1118, .string t1119, .int .i64 t1120, .bool t1121, .slice Ao19 t1122.length co19, .slice Ao20 t1125.length co20], .int .i64 a1, .int .i64 a2] rfl mpx ?_; (with_reducible refine (spec_Watch.calls k t1117 t1118 t1119 t1120 t1121 _ _ t1122 _ _ t1125 a1 a2 t1128 t1129 t1130 t1131 t1132 t1133 t1136 t1139 _ ?side1 ?side2 ?side3 ?side4 A10.out).mono ?_); (case side1 => exact pkC (Kd.R_reads' HO1124.out).2.2); (case side2 => exact (Kd.R_reads' HO1124.out).2.1); (case side3 => exact pkC (Kd.R_reads' HO1127.out).2.2); (case side4 => exact (Kd.R_reads' HO1127.out).2.1); rintro e w21 ⟨v1134, v1137, rfl, ho0, ho1, hb⟩; refine ⟨_, rfl, ?_⟩; have HO1135 := am (Kd.R_lower (Kd.R_new' (Kd.R_new' ho0 (Kd.R_lt (pkR HO1124.out))) (Kd.R_lt (pkR HO1127.out))) (below_size (pkW HB.out))); have HO1138 := am (Kd.R_lower (Kd.R_new' (Kd.R_new' ho1 (Kd.R_lt (pkR HO1124.out))) (Kd.R_lt (pkR HO1127.out))) (below_size (pkW HB.out))); replace HO1124 := am (Kd.R_mono (Kd.R_told (Kd.R_told (Kd.R_old (pkR HO1124.out) hb) (Kd.R_base ho0)) (Kd.R_base ho1)) (fun _ h_ => h_.1)); replace HO1127 := am (Kd.R_mono (Kd.R_told (Kd.R_told (Kd.R_old (pkR HO1127.out) hb) (Kd.R_base ho0)) (Kd.R_base ho1)) (fun _ h_ => h_.1)); replace BK1115 := am (blk_below (pkK BK1115.out) hb); replace HB := am (below_step (pkW HB.out) hb); (try clear hb ho0 ho1)) | ((with_reducible refine gate_dst (N := 8) rfl ?_); refine box_event ?hg (N := 8) ?hd (cs := #[.int .i64 0, .int .i64 0, .string (⟨#[]⟩ : ByteArray), .int .i64 0, .bool false, .slice none 0 0, .slice none 0 0]) (t := 29) ?hr ?_; (case hd => rfl); (case hg => rfl); (case hr => first | (go_simp; done) | (go_simp; rfl)); intro gb1140 hg w22 hbox hb; replace HO1124 := am (Kd.R_below (pkR HO1124.out) hb); replace HO1127 := am (Kd.R_below (pkR HO1127.out) hb); replace HO1135 := am (Kd.R_below (pkR HO1135.out) hb); replace HO1138 := am (Kd.R_below (pkR HO1138.out) hb); have BK1140 := am (hbox); have GW1140 := am ((by rw [hg]; exact (below_size (pkW HB.out)) : w.heap.size ≤ gb1140)); have GE1140 := am ((by rw [hg]; exact (below_size (pkW HB.out)) : w.heap.size ≤ gb1140)); replace HB := am (below_step (pkW HB.out) hb); have NB1115_1140 := am ((by rw [hg]; exact Nat.ne_of_lt (blk_lt (g := gb1115) (o := .cells #[.int .i64 a0_0, .int .i64 a0_1, .string a0_2, .int .i64 a0_3, .bool a0_4, .slice A0_5 l0_5.length c0_5, .slice A0_6 l0_6.length c0_6] 56 (0, 0)) (pkK BK1115.out)) : gb1115 ≠ gb1140)); have NB1140_1115 := am ((by rw [hg]; exact Nat.ne_of_gt (blk_lt (g := gb1115) (o := .cells #[.int .i64 a0_0, .int .i64 a0_1, .string a0_2, .int .i64 a0_3, .bool a0_4, .slice A0_5 l0_5.length c0_5, .slice A0_6 l0_6.length c0_6] 56 (0, 0)) (pkK BK1115.out)) : gb1140 ≠ gb1115)); replace BK1115 := am (blk_below (pkK BK1115.out) hb); clear hb hbox hg; have hnb23 := NB1140_1115.out; have hnc23 := NB1115_1140.out; obtain ⟨hcz24_0, hcz24_1, hcz24_2, hcz24_3, hcz24_4, hcz24_5, hcz24_6, hfz24_0, hfz24_1, hfz24_2, hfz24_3, hfz24_4, hfz24_5, hfz24_6⟩ := bk7 BK1140.out; obtain ⟨Ao25, co25, eo25⟩ := Kd.R_slice HO1135.out; subst eo25; obtain ⟨Ao26, co26, eo26⟩ := Kd.R_slice HO1138.out; subst eo26; obtain ⟨hcz27_0, hcz27_1, hcz27_2, hcz27_3, hcz27_4, hcz27_5, hcz27_6, hfz27_0, hfz27_1, hfz27_2, hfz27_3, hfz27_4, hfz27_5, hfz27_6⟩ := bk7 BK1115.out) | ((with_reducible refine gate_callee (f := 32) rfl ?_); refine goesL_ (some 32) rfl rfl Try.func32 (by kernel_rfl) rfl #[.agg #[.int .i64 a0_0, .int .i64 a0_1, .string a0_2, .int .i64 a0_3, .bool a0_4, .slice A0_5 l0_5.length c0_5, .slice A0_6 l0_6.length c0_6]] rfl mpx ?_; (with_reducible refine (laws_toCell.calls k a0_0 a0_1 a0_2 a0_3 a0_4 _ _ l0_5 _ _ l0_6 t1141 t1142 t1143 t1144 t1145 t1146 t1149 _ ?side1 ?side2 ?side3 ?side4 A11.out).mono ?_); (case side1 => exact Kd.C_below HR0_5.out (pkW HB.out)); (case side2 => exact HC0_5.out); (case side3 => exact Kd.C_below HR0_6.out (pkW HB.out)); (case side4 => exact HC0_6.out); rintro e w28 ⟨v1147, v1150, rfl, ho0, ho1, hb⟩; refine ⟨_, rfl, ?_⟩; have HO1148 := am (Kd.R_lower (Kd.R_new' (Kd.R_new' (Kd.R_new' (Kd.R_new' ho0 (Kd.R_lt (by (with_reducible repeat (first | apply Kd.R_alloc | apply Kd.R_drewN | apply Kd.R_drew)); exact (Kd.R_mono (Kd.R_far (p := ⟨gb1140, 6, none⟩) (Kd.R_far (p := ⟨gb1140, 5, none⟩) (Kd.R_far (p := ⟨gb1140, 4, none⟩) (Kd.R_far (p := ⟨gb1140, 3, none⟩) (Kd.R_far (p := ⟨gb1140, 2, none⟩) (Kd.R_far (p := ⟨gb1140, 1, none⟩) (Kd.R_far (p := ⟨gb1140, 0, none⟩) (Kd.R_types HO1124.out BK1140.out (by decide)) (fun _ hk => hk.2) (.int .i64 t1128)) (fun _ hk => hk.2) (.int .i64 t1129)) (fun _ hk => hk.2) (.string t1130)) (fun _ hk => hk.2) (.int .i64 t1131)) (fun _ hk => hk.2) (.bool t1132)) (fun _ hk => hk.2) (.slice Ao25 t1133.length co25)) (fun _ hk => hk.2) (.slice Ao26 t1136.length co26)) (fun _ h_ => h_.1))))) (Kd.R_lt (by (with_reducible repeat (first | apply Kd.R_alloc | apply Kd.R_drewN | apply Kd.R_drew)); exact (Kd.R_mono (Kd.R_far (p := ⟨gb1140, 6, none⟩) (Kd.R_far (p := ⟨gb1140, 5, none⟩) (Kd.R_far (p := ⟨gb1140, 4, none⟩) (Kd.R_far (p := ⟨gb1140, 3, none⟩) (Kd.R_far (p := ⟨gb1140, 2, none⟩) (Kd.R_far (p := ⟨gb1140, 1, none⟩) (Kd.R_far (p := ⟨gb1140, 0, none⟩) (Kd.R_types HO1127.out BK1140.out (by decide)) (fun _ hk => hk.2) (.int .i64 t1128)) (fun _ hk => hk.2) (.int .i64 t1129)) (fun _ hk => hk.2) (.string t1130)) (fun _ hk => hk.2) (.int .i64 t1131)) (fun _ hk => hk.2) (.bool t1132)) (fun _ hk => hk.2) (.slice Ao25 t1133.length co25)) (fun _ hk => hk.2) (.slice Ao26 t1136.length co26)) (fun _ h_ => h_.1))))) (Kd.R_lt (by (with_reducible repeat (first | apply Kd.R_alloc | apply Kd.R_drewN | apply Kd.R_drew)); exact (Kd.R_mono (Kd.R_far (p := ⟨gb1140, 6, none⟩) (Kd.R_far (p := ⟨gb1140, 5, none⟩) (Kd.R_far (p := ⟨gb1140, 4, none⟩) (Kd.R_far (p := ⟨gb1140, 3, none⟩) (Kd.R_far (p := ⟨gb1140, 2, none⟩) (Kd.R_far (p := ⟨gb1140, 1, none⟩) (Kd.R_far (p := ⟨gb1140, 0, none⟩) (Kd.R_types HO1135.out BK1140.out (by decide)) (fun _ hk => hk.2) (.int .i64 t1128)) (fun _ hk => hk.2) (.int .i64 t1129)) (fun _ hk => hk.2) (.string t1130)) (fun _ hk => hk.2) (.int .i64 t1131)) (fun _ hk => hk.2) (.bool t1132)) (fun _ hk => hk.2) (.slice Ao25 t1133.length co25)) (fun _ hk => hk.2) (.slice Ao26 t1136.length co26)) (fun _ h_ => h_.1))))) (Kd.R_lt (by (with_reducible repeat (first | apply Kd.R_alloc | apply Kd.R_drewN | apply Kd.R_drew)); exact (Kd.R_mono (Kd.R_far (p := ⟨gb1140, 6, none⟩) (Kd.R_far (p := ⟨gb1140, 5, none⟩) (Kd.R_far (p := ⟨gb1140, 4, none⟩) (Kd.R_far (p := ⟨gb1140, 3, none⟩) (Kd.R_far (p := ⟨gb1140, 2, none⟩) (Kd.R_far (p := ⟨gb1140, 1, none⟩) (Kd.R_far (p := ⟨gb1140, 0, none⟩) (Kd.R_types HO1138.out BK1140.out (by decide)) (fun _ hk => hk.2) (.int .i64 t1128)) (fun _ hk => hk.2) (.int .i64 t1129)) (fun _ hk => hk.2) (.string t1130)) (fun _ hk => hk.2) (.int .i64 t1131)) (fun _ hk => hk.2) (.bool t1132)) (fun _ hk => hk.2) (.slice Ao25 t1133.length co25)) (fun _ hk => hk.2) (.slice Ao26 t1136.length co26)) (fun _ h_ => h_.1))))) (below_size (pkW HB.out))); have HO1151 := am (Kd.R_lower (Kd.R_new' (Kd.R_new' (Kd.R_new' (Kd.R_new' ho1 (Kd.R_lt (by (with_reducible repeat (first | apply Kd.R_alloc | apply Kd.R_drewN | apply Kd.R_drew)); exact (Kd.R_mono (Kd.R_far (p := ⟨gb1140, 6, none⟩) (Kd.R_far (p := ⟨gb1140, 5, none⟩) (Kd.R_far (p := ⟨gb1140, 4, none⟩) (Kd.R_far (p := ⟨gb1140, 3, none⟩) (Kd.R_far (p := ⟨gb1140, 2, none⟩) (Kd.R_far (p := ⟨gb1140, 1, none⟩) (Kd.R_far (p := ⟨gb1140, 0, none⟩) (Kd.R_types HO1124.out BK1140.out (by decide)) (fun _ hk => hk.2) (.int .i64 t1128)) (fun _ hk => hk.2) (.int .i64 t1129)) (fun _ hk => hk.2) (.string t1130)) (fun _ hk => hk.2) (.int .i64 t1131)) (fun _ hk => hk.2) (.bool t1132)) (fun _ hk => hk.2) (.slice Ao25 t1133.length co25)) (fun _ hk => hk.2) (.slice Ao26 t1136.length co26)) (fun _ h_ => h_.1))))) (Kd.R_lt (by (with_reducible repeat (first | apply Kd.R_alloc | apply Kd.R_drewN | apply Kd.R_drew)); exact (Kd.R_mono (Kd.R_far (p := ⟨gb1140, 6, none⟩) (Kd.R_far (p := ⟨gb1140, 5, none⟩) (Kd.R_far (p := ⟨gb1140, 4, none⟩) (Kd.R_far (p := ⟨gb1140, 3, none⟩) (Kd.R_far (p := ⟨gb1140, 2, none⟩) (Kd.R_far (p := ⟨gb1140, 1, none⟩) (Kd.R_far (p := ⟨gb1140, 0, none⟩) (Kd.R_types HO1127.out BK1140.out (by decide)) (fun _ hk => hk.2) (.int .i64 t1128)) (fun _ hk => hk.2) (.int .i64 t1129)) (fun _ hk => hk.2) (.string t1130)) (fun _ hk => hk.2) (.int .i64 t1131)) (fun _ hk => hk.2) (.bool t1132)) (fun _ hk => hk.2) (.slice Ao25 t1133.length co25)) (fun _ hk => hk.2) (.slice Ao26 t1136.length co26)) (fun _ h_ => h_.1))))) (Kd.R_lt (by (with_reducible repeat (first | apply Kd.R_alloc | apply Kd.R_drewN | apply Kd.R_drew)); exact (Kd.R_mono (Kd.R_far (p := ⟨gb1140, 6, none⟩) (Kd.R_far (p := ⟨gb1140, 5, none⟩) (Kd.R_far (p := ⟨gb1140, 4, none⟩) (Kd.R_far (p := ⟨gb1140, 3, none⟩) (Kd.R_far (p := ⟨gb1140, 2, none⟩) (Kd.R_far (p := ⟨gb1140, 1, none⟩) (Kd.R_far (p := ⟨gb1140, 0, none⟩) (Kd.R_types HO1135.out BK1140.out (by decide)) (fun _ hk => hk.2) (.int .i64 t1128)) (fun _ hk => hk.2) (.int .i64 t1129)) (fun _ hk => hk.2) (.string t1130)) (fun _ hk => hk.2) (.int .i64 t1131)) (fun _ hk => hk.2) (.bool t1132)) (fun _ hk => hk.2) (.slice Ao25 t1133.length co25)) (fun _ hk => hk.2) (.slice Ao26 t1136.length co26)) (fun _ h_ => h_.1))))) (Kd.R_lt (by (with_reducible repeat (first | apply Kd.R_alloc | apply Kd.R_drewN | apply Kd.R_drew)); exact (Kd.R_mono (Kd.R_far (p := ⟨gb1140, 6, none⟩) (Kd.R_far (p := ⟨gb1140, 5, none⟩) (Kd.R_far (p := ⟨gb1140, 4, none⟩) (Kd.R_far (p := ⟨gb1140, 3, none⟩) (Kd.R_far (p := ⟨gb1140, 2, none⟩) (Kd.R_far (p := ⟨gb1140, 1, none⟩) (Kd.R_far (p := ⟨gb1140, 0, none⟩) (Kd.R_types HO1138.out BK1140.out (by decide)) (fun _ hk => hk.2) (.int .i64 t1128)) (fun _ hk => hk.2) (.int .i64 t1129)) (fun _ hk => hk.2) (.string t1130)) (fun _ hk => hk.2) (.int .i64 t1131)) (fun _ hk => hk.2) (.bool t1132)) (fun _ hk => hk.2) (.slice Ao25 t1133.length co25)) (fun _ hk => hk.2) (.slice Ao26 t1136.length co26)) (fun _ h_ => h_.1))))) (below_size (pkW HB.out))); replace HO1124 := am (Kd.R_mono (Kd.R_told (Kd.R_told (Kd.R_old (by (with_reducible repeat (first | apply Kd.R_alloc | apply Kd.R_drewN | apply Kd.R_drew)); exact (Kd.R_mono (Kd.R_far (p := ⟨gb1140, 6, none⟩) (Kd.R_far (p := ⟨gb1140, 5, none⟩) (Kd.R_far (p := ⟨gb1140, 4, none⟩) (Kd.R_far (p := ⟨gb1140, 3, none⟩) (Kd.R_far (p := ⟨gb1140, 2, none⟩) (Kd.R_far (p := ⟨gb1140, 1, none⟩) (Kd.R_far (p := ⟨gb1140, 0, none⟩) (Kd.R_types HO1124.out BK1140.out (by decide)) (fun _ hk => hk.2) (.int .i64 t1128)) (fun _ hk => hk.2) (.int .i64 t1129)) (fun _ hk => hk.2) (.string t1130)) (fun _ hk => hk.2) (.int .i64 t1131)) (fun _ hk => hk.2) (.bool t1132)) (fun _ hk => hk.2) (.slice Ao25 t1133.length co25)) (fun _ hk => hk.2) (.slice Ao26 t1136.length co26)) (fun _ h_ => h_.1))) hb) (Kd.R_base ho0)) (Kd.R_base ho1)) (fun _ h_ => h_.1)); replace HO1127 := am (Kd.R_mono (Kd.R_told (Kd.R_told (Kd.R_old (by (with_reducible repeat (first | apply Kd.R_alloc | apply Kd.R_drewN | apply Kd.R_drew)); exact (Kd.R_mono (Kd.R_far (p := ⟨gb1140, 6, none⟩) (Kd.R_far (p := ⟨gb1140, 5, none⟩) (Kd.R_far (p := ⟨gb1140, 4, none⟩) (Kd.R_far (p := ⟨gb1140, 3, none⟩) (Kd.R_far (p := ⟨gb1140, 2, none⟩) (Kd.R_far (p := ⟨gb1140, 1, none⟩) (Kd.R_far (p := ⟨gb1140, 0, none⟩) (Kd.R_types HO1127.out BK1140.out (by decide)) (fun _ hk => hk.2) (.int .i64 t1128)) (fun _ hk => hk.2) (.int .i64 t1129)) (fun _ hk => hk.2) (.string t1130)) (fun _ hk => hk.2) (.int .i64 t1131)) (fun _ hk => hk.2) (.bool t1132)) (fun _ hk => hk.2) (.slice Ao25 t1133.length co25)) (fun _ hk => hk.2) (.slice Ao26 t1136.length co26)) (fun _ h_ => h_.1))) hb) (Kd.R_base ho0)) (Kd.R_base ho1)) (fun _ h_ => h_.1)); replace HO1135 := am (Kd.R_mono (Kd.R_told (Kd.R_told (Kd.R_old (by (with_reducible repeat (first | apply Kd.R_alloc | apply Kd.R_drewN | apply Kd.R_drew)); exact (Kd.R_mono (Kd.R_far (p := ⟨gb1140, 6, none⟩) (Kd.R_far (p := ⟨gb1140, 5, none⟩) (Kd.R_far (p := ⟨gb1140, 4, none⟩) (Kd.R_far (p := ⟨gb1140, 3, none⟩) (Kd.R_far (p := ⟨gb1140, 2, none⟩) (Kd.R_far (p := ⟨gb1140, 1, none⟩) (Kd.R_far (p := ⟨gb1140, 0, none⟩) (Kd.R_types HO1135.out BK1140.out (by decide)) (fun _ hk => hk.2) (.int .i64 t1128)) (fun _ hk => hk.2) (.int .i64 t1129)) (fun _ hk => hk.2) (.string t1130)) (fun _ hk => hk.2) (.int .i64 t1131)) (fun _ hk => hk.2) (.bool t1132)) (fun _ hk => hk.2) (.slice Ao25 t1133.length co25)) (fun _ hk => hk.2) (.slice Ao26 t1136.length co26)) (fun _ h_ => h_.1))) hb) (Kd.R_base ho0)) (Kd.R_base ho1)) (fun _ h_ => h_.1)); replace HO1138 := am (Kd.R_mono (Kd.R_told (Kd.R_told (Kd.R_old (by (with_reducible repeat (first | apply Kd.R_alloc | apply Kd.R_drewN | apply Kd.R_drew)); exact (Kd.R_mono (Kd.R_far (p := ⟨gb1140, 6, none⟩) (Kd.R_far (p := ⟨gb1140, 5, none⟩) (Kd.R_far (p := ⟨gb1140, 4, none⟩) (Kd.R_far (p := ⟨gb1140, 3, none⟩) (Kd.R_far (p := ⟨gb1140, 2, none⟩) (Kd.R_far (p := ⟨gb1140, 1, none⟩) (Kd.R_far (p := ⟨gb1140, 0, none⟩) (Kd.R_types HO1138.out BK1140.out (by decide)) (fun _ hk => hk.2) (.int .i64 t1128)) (fun _ hk => hk.2) (.int .i64 t1129)) (fun _ hk => hk.2) (.string t1130)) (fun _ hk => hk.2) (.int .i64 t1131)) (fun _ hk => hk.2) (.bool t1132)) (fun _ hk => hk.2) (.slice Ao25 t1133.length co25)) (fun _ hk => hk.2) (.slice Ao26 t1136.length co26)) (fun _ h_ => h_.1))) hb) (Kd.R_base ho0)) (Kd.R_base ho1)) (fun _ h_ => h_.1)); replace BK1115 := am (blk_below (g := gb1115) (o := .cells #[.int .i64 a0_0, .int .i64 a0_1, .string a0_2, .int .i64 a0_3, .bool a0_4, .slice A0_5 l0_5.length c0_5, .slice A0_6 l0_6.length c0_6] 56 (0, 0)) (by (with_reducible repeat (first | refine blk_drewN ?_ _ | refine blk_drew ?_ | refine blk_alloc ?_ _)); refine blk_far ?_ NB1115_1140.out _; (with_reducible repeat (first | refine blk_drewN ?_ _ | refine blk_drew ?_ | refine blk_alloc ?_ _)); refine blk_far ?_ NB1115_1140.out _; (with_reducible repeat (first | refine blk_drewN ?_ _ | refine blk_drew ?_ | refine blk_alloc ?_ _)); refine blk_far ?_ NB1115_1140.out _; (with_reducible repeat (first | refine blk_drewN ?_ _ | refine blk_drew ?_ | refine blk_alloc ?_ _)); refine blk_far ?_ NB1115_1140.out _; (with_reducible repeat (first | refine blk_drewN ?_ _ | refine blk_drew ?_ | refine blk_alloc ?_ _)); refine blk_far ?_ NB1115_1140.out _; (with_reducible repeat (first | refine blk_drewN ?_ _ | refine blk_drew ?_ | refine blk_alloc ?_ _)); refine blk_far ?_ NB1115_1140.out _; (with_reducible repeat (first | refine blk_drewN ?_ _ | refine blk_drew ?_ | refine blk_alloc ?_ _)); refine blk_far ?_ NB1115_1140.out _; exact pkK BK1115.out) hb); replace BK1140 := am (blk_below (g := gb1140) (o := .cells #[.int .i64 t1128, .int .i64 t1129, .string t1130, .int .i64 t1131, .bool t1132, .slice Ao25 t1133.length co25, .slice Ao26 t1136.length co26] 29 (0, 0)) (by (with_reducible repeat (first | refine blk_drewN ?_ _ | refine blk_drew ?_ | refine blk_alloc ?_ _)); refine blk_put (cs := #[.int .i64 t1128, .int .i64 t1129, .string t1130, .int .i64 t1131, .bool t1132, .slice Ao25 t1133.length co25, .slice none 0 0]) ?_ 6 _ rfl; (with_reducible repeat (first | refine blk_drewN ?_ _ | refine blk_drew ?_ | refine blk_alloc ?_ _)); refine blk_put (cs := #[.int .i64 t1128, .int .i64 t1129, .string t1130, .int .i64 t1131, .bool t1132, .slice none 0 0, .slice none 0 0]) ?_ 5 _ rfl; (with_reducible repeat (first | refine blk_drewN ?_ _ | refine blk_drew ?_ | refine blk_alloc ?_ _)); refine blk_put (cs := #[.int .i64 t1128, .int .i64 t1129, .string t1130, .int .i64 t1131, .bool false, .slice none 0 0, .slice none 0 0]) ?_ 4 _ rfl; (with_reducible repeat (first | refine blk_drewN ?_ _ | refine blk_drew ?_ | refine blk_alloc ?_ _)); refine blk_put (cs := #[.int .i64 t1128, .int .i64 t1129, .string t1130, .int .i64 0, .bool false, .slice none 0 0, .slice none 0 0]) ?_ 3 _ rfl; (with_reducible repeat (first | refine blk_drewN ?_ _ | refine blk_drew ?_ | refine blk_alloc ?_ _)); refine blk_put (cs := #[.int .i64 t1128, .int .i64 t1129, .string (⟨#[]⟩ : ByteArray), .int .i64 0, .bool false, .slice none 0 0, .slice none 0 0]) ?_ 2 _ rfl; (with_reducible repeat (first | refine blk_drewN ?_ _ | refine blk_drew ?_ | refine blk_alloc ?_ _)); refine blk_put (cs := #[.int .i64 t1128, .int .i64 0, .string (⟨#[]⟩ : ByteArray), .int .i64 0, .bool false, .slice none 0 0, .slice none 0 0]) ?_ 1 _ rfl; (with_reducible repeat (first | refine blk_drewN ?_ _ | refine blk_drew ?_ | refine blk_alloc ?_ _)); refine blk_put (cs := #[.int .i64 0, .int .i64 0, .string (⟨#[]⟩ : ByteArray), .int .i64 0, .bool false, .slice none 0 0, .slice none 0 0]) ?_ 0 _ rfl; exact pkK BK1140.out) hb); replace HB := am (below_step (pkW HB.out) hb); (try clear hb ho0 ho1)) | ((with_reducible refine gate_dst (N := 10) rfl ?_); refine box_event ?hg (N := 10) ?hd (cs := #[.int .i64 0, .int .i64 0, .string (⟨#[]⟩ : ByteArray), .int .i64 0, .bool false, .slice none 0 0, .slice none 0 0]) (t := 29) ?hr ?_; (case hd => rfl); (case hg => rfl); (case hr => first | (go_simp; done) | (go_simp; rfl)); intro gb1152 hg w29 hbox hb; replace HO1124 := am (Kd.R_below (pkR HO1124.out) hb); replace HO1127 := am (Kd.R_below (pkR HO1127.out) hb); replace HO1135 := am (Kd.R_below (pkR HO1135.out) hb); replace HO1138 := am (Kd.R_below (pkR HO1138.out) hb); replace HO1148 := am (Kd.R_below (pkR HO1148.out) hb); replace HO1151 := am (Kd.R_below (pkR HO1151.out) hb); have BK1152 := am (hbox); have GW1152 := am ((by rw [hg]; exact (below_size (pkW HB.out)) : w.heap.size ≤ gb1152)); have GE1152 := am ((by rw [hg]; exact (below_size (pkW HB.out)) : w.heap.size ≤ gb1152)); replace HB := am (below_step (pkW HB.out) hb); have NB1115_1152 := am ((by rw [hg]; exact Nat.ne_of_lt (blk_lt (g := gb1115) (o := .cells #[.int .i64 a0_0, .int .i64 a0_1, .string a0_2, .int .i64 a0_3, .bool a0_4, .slice A0_5 l0_5.length c0_5, .slice A0_6 l0_6.length c0_6] 56 (0, 0)) (pkK BK1115.out)) : gb1115 ≠ gb1152)); have NB1152_1115 := am ((by rw [hg]; exact Nat.ne_of_gt (blk_lt (g := gb1115) (o := .cells #[.int .i64 a0_0, .int .i64 a0_1, .string a0_2, .int .i64 a0_3, .bool a0_4, .slice A0_5 l0_5.length c0_5, .slice A0_6 l0_6.length c0_6] 56 (0, 0)) (pkK BK1115.out)) : gb1152 ≠ gb1115)); replace BK1115 := am (blk_below (pkK BK1115.out) hb); have NB1140_1152 := am ((by rw [hg]; exact Nat.ne_of_lt (blk_lt (g := gb1140) (o := .cells #[.int .i64 t1128, .int .i64 t1129, .string t1130, .int .i64 t1131, .bool t1132, .slice Ao25 t1133.length co25, .slice Ao26 t1136.length co26] 29 (0, 0)) (pkK BK1140.out)) : gb1140 ≠ gb1152)); have NB1152_1140 := am ((by rw [hg]; exact Nat.ne_of_gt (blk_lt (g := gb1140) (o := .cells #[.int .i64 t1128, .int .i64 t1129, .string t1130, .int .i64 t1131, .bool t1132, .slice Ao25 t1133.length co25, .slice Ao26 t1136.length co26] 29 (0, 0)) (pkK BK1140.out)) : gb1152 ≠ gb1140)); replace BK1140 := am (blk_below (pkK BK1140.out) hb); clear hb hbox hg; have hnb30 := NB1152_1115.out; have hnc30 := NB1115_1152.out; have hnb31 := NB1152_1140.out; have hnc31 := NB1140_1152.out; obtain ⟨hcz32_0, hcz32_1, hcz32_2, hcz32_3, hcz32_4, hcz32_5, hcz32_6, hfz32_0, hfz32_1, hfz32_2, hfz32_3, hfz32_4, hfz32_5, hfz32_6⟩ := bk7 BK1152.out; obtain ⟨Ao33, co33, eo33⟩ := Kd.R_slice HO1148.out; subst eo33; obtain ⟨Ao34, co34, eo34⟩ := Kd.R_slice HO1151.out; subst eo34) | ((with_reducible refine gate_callee (f := 20) rfl ?_); refine goesL_ (some 37) rfl rfl Try.func20 (by kernel_rfl) rfl #[.agg #[.int .i64 t1141, .int .i64 t1142, .string t1143, .int .i64 t1144, .bool t1145, .slice Ao33 t1146.length co33, .slice Ao34 t1149.length co34], .int .i64 a1, .int .i64 a2] rfl mpx ?_; (with_reducible refine (impl_Watch.calls k t1141 t1142 t1143 t1144 t1145 _ _ t1146 _ _ t1149 a1 a2 t1153 t1154 t1155 t1156 t1157 t1158 t1161 t1164 _ ?side1 ?side2 ?side3 ?side4 A12.out).mono ?_); (case side1 => refine (Kd.R_reads' (e := 3) (base := w.heap.size) (ok := fun k_ => ((((some k_ ≠ (.slice Ao34 t1149.length co34 : Value).ownBlock ∧ some k_ ≠ (.slice Ao19 t1122.length co19 : Value).ownBlock) ∧ some k_ ≠ (.slice Ao20 t1125.length co20 : Value).ownBlock) ∧ some k_ ≠ (.slice Ao25 t1133.length co25 : Value).ownBlock) ∧ some k_ ≠ (.slice Ao26 t1136.length co26 : Value).ownBlock)) (n := t1146.length) (c := co33) ?_).2.2; exact (by (with_reducible repeat (first | apply Kd.R_alloc | apply Kd.R_drewN | apply Kd.R_drew)); exact (Kd.R_mono (Kd.R_far (p := ⟨gb1152, 6, none⟩) (Kd.R_far (p := ⟨gb1152, 5, none⟩) (Kd.R_far (p := ⟨gb1152, 4, none⟩) (Kd.R_far (p := ⟨gb1152, 3, none⟩) (Kd.R_far (p := ⟨gb1152, 2, none⟩) (Kd.R_far (p := ⟨gb1152, 1, none⟩) (Kd.R_far (p := ⟨gb1152, 0, none⟩) (Kd.R_types HO1148.out BK1152.out (by decide)) (fun _ hk => hk.2) (.int .i64 t1141)) (fun _ hk => hk.2) (.int .i64 t1142)) (fun _ hk => hk.2) (.string t1143)) (fun _ hk => hk.2) (.int .i64 t1144)) (fun _ hk => hk.2) (.bool t1145)) (fun _ hk => hk.2) (.slice Ao33 t1146.length co33)) (fun _ hk => hk.2) (.slice Ao34 t1149.length co34)) (fun _ h_ => h_.1)))); (case side2 => exact (Kd.R_reads' HO1148.out).2.1); (case side3 => refine (Kd.R_reads' (e := 3) (base := w.heap.size) (ok := fun k_ => ((((some k_ ≠ (.slice Ao33 t1146.length co33 : Value).ownBlock ∧ some k_ ≠ (.slice Ao19 t1122.length co19 : Value).ownBlock) ∧ some k_ ≠ (.slice Ao20 t1125.length co20 : Value).ownBlock) ∧ some k_ ≠ (.slice Ao25 t1133.length co25 : Value).ownBlock) ∧ some k_ ≠ (.slice Ao26 t1136.length co26 : Value).ownBlock)) (n := t1149.length) (c := co34) ?_).2.2; exact (by (with_reducible repeat (first | apply Kd.R_alloc | apply Kd.R_drewN | apply Kd.R_drew)); exact (Kd.R_mono (Kd.R_far (p := ⟨gb1152, 6, none⟩) (Kd.R_far (p := ⟨gb1152, 5, none⟩) (Kd.R_far (p := ⟨gb1152, 4, none⟩) (Kd.R_far (p := ⟨gb1152, 3, none⟩) (Kd.R_far (p := ⟨gb1152, 2, none⟩) (Kd.R_far (p := ⟨gb1152, 1, none⟩) (Kd.R_far (p := ⟨gb1152, 0, none⟩) (Kd.R_types HO1151.out BK1152.out (by decide)) (fun _ hk => hk.2) (.int .i64 t1141)) (fun _ hk => hk.2) (.int .i64 t1142)) (fun _ hk => hk.2) (.string t1143)) (fun _ hk => hk.2) (.int .i64 t1144)) (fun _ hk => hk.2) (.bool t1145)) (fun _ hk => hk.2) (.slice Ao33 t1146.length co33)) (fun _ hk => hk.2) (.slice Ao34 t1149.length co34)) (fun _ h_ => h_.1)))); (case side4 => exact (Kd.R_reads' HO1151.out).2.1); rintro e w35 ⟨v1159, v1162, rfl, ho0, ho1, hb⟩; refine ⟨_, rfl, ?_⟩; have HO1160 := am (Kd.R_lower (Kd.R_new' (Kd.R_new' (Kd.R_new' (Kd.R_new' (Kd.R_new' (Kd.R_new' ho0 (Kd.R_lt (by (with_reducible repeat (first | apply Kd.R_alloc | apply Kd.R_drewN | apply Kd.R_drew)); exact (Kd.R_mono (Kd.R_far (p := ⟨gb1152, 6, none⟩) (Kd.R_far (p := ⟨gb1152, 5, none⟩) (Kd.R_far (p := ⟨gb1152, 4, none⟩) (Kd.R_far (p := ⟨gb1152, 3, none⟩) (Kd.R_far (p := ⟨gb1152, 2, none⟩) (Kd.R_far (p := ⟨gb1152, 1, none⟩) (Kd.R_far (p := ⟨gb1152, 0, none⟩) (Kd.R_types HO1124.out BK1152.out (by decide)) (fun _ hk => hk.2) (.int .i64 t1141)) (fun _ hk => hk.2) (.int .i64 t1142)) (fun _ hk => hk.2) (.string t1143)) (fun _ hk => hk.2) (.int .i64 t1144)) (fun _ hk => hk.2) (.bool t1145)) (fun _ hk => hk.2) (.slice Ao33 t1146.length co33)) (fun _ hk => hk.2) (.slice Ao34 t1149.length co34)) (fun _ h_ => h_.1))))) (Kd.R_lt (by (with_reducible repeat (first | apply Kd.R_alloc | apply Kd.R_drewN | apply Kd.R_drew)); exact (Kd.R_mono (Kd.R_far (p := ⟨gb1152, 6, none⟩) (Kd.R_far (p := ⟨gb1152, 5, none⟩) (Kd.R_far (p := ⟨gb1152, 4, none⟩) (Kd.R_far (p := ⟨gb1152, 3, none⟩) (Kd.R_far (p := ⟨gb1152, 2, none⟩) (Kd.R_far (p := ⟨gb1152, 1, none⟩) (Kd.R_far (p := ⟨gb1152, 0, none⟩) (Kd.R_types HO1127.out BK1152.out (by decide)) (fun _ hk => hk.2) (.int .i64 t1141)) (fun _ hk => hk.2) (.int .i64 t1142)) (fun _ hk => hk.2) (.string t1143)) (fun _ hk => hk.2) (.int .i64 t1144)) (fun _ hk => hk.2) (.bool t1145)) (fun _ hk => hk.2) (.slice Ao33 t1146.length co33)) (fun _ hk => hk.2) (.slice Ao34 t1149.length co34)) (fun _ h_ => h_.1))))) (Kd.R_lt (by (with_reducible repeat (first | apply Kd.R_alloc | apply Kd.R_drewN | apply Kd.R_drew)); exact (Kd.R_mono (Kd.R_far (p := ⟨gb1152, 6, none⟩) (Kd.R_far (p := ⟨gb1152, 5, none⟩) (Kd.R_far (p := ⟨gb1152, 4, none⟩) (Kd.R_far (p := ⟨gb1152, 3, none⟩) (Kd.R_far (p := ⟨gb1152, 2, none⟩) (Kd.R_far (p := ⟨gb1152, 1, none⟩) (Kd.R_far (p := ⟨gb1152, 0, none⟩) (Kd.R_types HO1135.out BK1152.out (by decide)) (fun _ hk => hk.2) (.int .i64 t1141)) (fun _ hk => hk.2) (.int .i64 t1142)) (fun _ hk => hk.2) (.string t1143)) (fun _ hk => hk.2) (.int .i64 t1144)) (fun _ hk => hk.2) (.bool t1145)) (fun _ hk => hk.2) (.slice Ao33 t1146.length co33)) (fun _ hk => hk.2) (.slice Ao34 t1149.length co34)) (fun _ h_ => h_.1))))) (Kd.R_lt (by (with_reducible repeat (first | apply Kd.R_alloc | apply Kd.R_drewN | apply Kd.R_drew)); exact (Kd.R_mono (Kd.R_far (p := ⟨gb1152, 6, none⟩) (Kd.R_far (p := ⟨gb1152, 5, none⟩) (Kd.R_far (p := ⟨gb1152, 4, none⟩) (Kd.R_far (p := ⟨gb1152, 3, none⟩) (Kd.R_far (p := ⟨gb1152, 2, none⟩) (Kd.R_far (p := ⟨gb1152, 1, none⟩) (Kd.R_far (p := ⟨gb1152, 0, none⟩) (Kd.R_types HO1138.out BK1152.out (by decide)) (fun _ hk => hk.2) (.int .i64 t1141)) (fun _ hk => hk.2) (.int .i64 t1142)) (fun _ hk => hk.2) (.string t1143)) (fun _ hk => hk.2) (.int .i64 t1144)) (fun _ hk => hk.2) (.bool t1145)) (fun _ hk => hk.2) (.slice Ao33 t1146.length co33)) (fun _ hk => hk.2) (.slice Ao34 t1149.length co34)) (fun _ h_ => h_.1))))) (Kd.R_lt (by (with_reducible repeat (first | apply Kd.R_alloc | apply Kd.R_drewN | apply Kd.R_drew)); exact (Kd.R_mono (Kd.R_far (p := ⟨gb1152, 6, none⟩) (Kd.R_far (p := ⟨gb1152, 5, none⟩) (Kd.R_far (p := ⟨gb1152, 4, none⟩) (Kd.R_far (p := ⟨gb1152, 3, none⟩) (Kd.R_far (p := ⟨gb1152, 2, none⟩) (Kd.R_far (p := ⟨gb1152, 1, none⟩) (Kd.R_far (p := ⟨gb1152, 0, none⟩) (Kd.R_types HO1148.out BK1152.out (by decide)) (fun _ hk => hk.2) (.int .i64 t1141)) (fun _ hk => hk.2) (.int .i64 t1142)) (fun _ hk => hk.2) (.string t1143)) (fun _ hk => hk.2) (.int .i64 t1144)) (fun _ hk => hk.2) (.bool t1145)) (fun _ hk => hk.2) (.slice Ao33 t1146.length co33)) (fun _ hk => hk.2) (.slice Ao34 t1149.length co34)) (fun _ h_ => h_.1))))) (Kd.R_lt (by (with_reducible repeat (first | apply Kd.R_alloc | apply Kd.R_drewN | apply Kd.R_drew)); exact (Kd.R_mono (Kd.R_far (p := ⟨gb1152, 6, none⟩) (Kd.R_far (p := ⟨gb1152, 5, none⟩) (Kd.R_far (p := ⟨gb1152, 4, none⟩) (Kd.R_far (p := ⟨gb1152, 3, none⟩) (Kd.R_far (p := ⟨gb1152, 2, none⟩) (Kd.R_far (p := ⟨gb1152, 1, none⟩) (Kd.R_far (p := ⟨gb1152, 0, none⟩) (Kd.R_types HO1151.out BK1152.out (by decide)) (fun _ hk => hk.2) (.int .i64 t1141)) (fun _ hk => hk.2) (.int .i64 t1142)) (fun _ hk => hk.2) (.string t1143)) (fun _ hk => hk.2) (.int .i64 t1144)) (fun _ hk => hk.2) (.bool t1145)) (fun _ hk => hk.2) (.slice Ao33 t1146.length co33)) (fun _ hk => hk.2) (.slice Ao34 t1149.length co34)) (fun _ h_ => h_.1))))) (below_size (pkW HB.out))); have HO1163 := am (Kd.R_lower (Kd.R_new' (Kd.R_new' (Kd.R_new' (Kd.R_new' (Kd.R_new' (Kd.R_new' ho1 (Kd.R_lt (by (with_reducible repeat (first | apply Kd.R_alloc | apply Kd.R_drewN | apply Kd.R_drew)); exact (Kd.R_mono (Kd.R_far (p := ⟨gb1152, 6, none⟩) (Kd.R_far (p := ⟨gb1152, 5, none⟩) (Kd.R_far (p := ⟨gb1152, 4, none⟩) (Kd.R_far (p := ⟨gb1152, 3, none⟩) (Kd.R_far (p := ⟨gb1152, 2, none⟩) (Kd.R_far (p := ⟨gb1152, 1, none⟩) (Kd.R_far (p := ⟨gb1152, 0, none⟩) (Kd.R_types HO1124.out BK1152.out (by decide)) (fun _ hk => hk.2) (.int .i64 t1141)) (fun _ hk => hk.2) (.int .i64 t1142)) (fun _ hk => hk.2) (.string t1143)) (fun _ hk => hk.2) (.int .i64 t1144)) (fun _ hk => hk.2) (.bool t1145)) (fun _ hk => hk.2) (.slice Ao33 t1146.length co33)) (fun _ hk => hk.2) (.slice Ao34 t1149.length co34)) (fun _ h_ => h_.1))))) (Kd.R_lt (by (with_reducible repeat (first | apply Kd.R_alloc | apply Kd.R_drewN | apply Kd.R_drew)); exact (Kd.R_mono (Kd.R_far (p := ⟨gb1152, 6, none⟩) (Kd.R_far (p := ⟨gb1152, 5, none⟩) (Kd.R_far (p := ⟨gb1152, 4, none⟩) (Kd.R_far (p := ⟨gb1152, 3, none⟩) (Kd.R_far (p := ⟨gb1152, 2, none⟩) (Kd.R_far (p := ⟨gb1152, 1, none⟩) (Kd.R_far (p := ⟨gb1152, 0, none⟩) (Kd.R_types HO1127.out BK1152.out (by decide)) (fun _ hk => hk.2) (.int .i64 t1141)) (fun _ hk => hk.2) (.int .i64 t1142)) (fun _ hk => hk.2) (.string t1143)) (fun _ hk => hk.2) (.int .i64 t1144)) (fun _ hk => hk.2) (.bool t1145)) (fun _ hk => hk.2) (.slice Ao33 t1146.length co33)) (fun _ hk => hk.2) (.slice Ao34 t1149.length co34)) (fun _ h_ => h_.1))))) (Kd.R_lt (by (with_reducible repeat (first | apply Kd.R_alloc | apply Kd.R_drewN | apply Kd.R_drew)); exact (Kd.R_mono (Kd.R_far (p := ⟨gb1152, 6, none⟩) (Kd.R_far (p := ⟨gb1152, 5, none⟩) (Kd.R_far (p := ⟨gb1152, 4, none⟩) (Kd.R_far (p := ⟨gb1152, 3, none⟩) (Kd.R_far (p := ⟨gb1152, 2, none⟩) (Kd.R_far (p := ⟨gb1152, 1, none⟩) (Kd.R_far (p := ⟨gb1152, 0, none⟩) (Kd.R_types HO1135.out BK1152.out (by decide)) (fun _ hk => hk.2) (.int .i64 t1141)) (fun _ hk => hk.2) (.int .i64 t1142)) (fun _ hk => hk.2) (.string t1143)) (fun _ hk => hk.2) (.int .i64 t1144)) (fun _ hk => hk.2) (.bool t1145)) (fun _ hk => hk.2) (.slice Ao33 t1146.length co33)) (fun _ hk => hk.2) (.slice Ao34 t1149.length co34)) (fun _ h_ => h_.1))))) (Kd.R_lt (by (with_reducible repeat (first | apply Kd.R_alloc | apply Kd.R_drewN | apply Kd.R_drew)); exact (Kd.R_mono (Kd.R_far (p := ⟨gb1152, 6, none⟩) (Kd.R_far (p := ⟨gb1152, 5, none⟩) (Kd.R_far (p := ⟨gb1152, 4, none⟩) (Kd.R_far (p := ⟨gb1152, 3, none⟩) (Kd.R_far (p := ⟨gb1152, 2, none⟩) (Kd.R_far (p := ⟨gb1152, 1, none⟩) (Kd.R_far (p := ⟨gb1152, 0, none⟩) (Kd.R_types HO1138.out BK1152.out (by decide)) (fun _ hk => hk.2) (.int .i64 t1141)) (fun _ hk => hk.2) (.int .i64 t1142)) (fun _ hk => hk.2) (.string t1143)) (fun _ hk => hk.2) (.int .i64 t1144)) (fun _ hk => hk.2) (.bool t1145)) (fun _ hk => hk.2) (.slice Ao33 t1146.length co33)) (fun _ hk => hk.2) (.slice Ao34 t1149.length co34)) (fun _ h_ => h_.1))))) (Kd.R_lt (by (with_reducible repeat (first | apply Kd.R_alloc | apply Kd.R_drewN | apply Kd.R_drew)); exact (Kd.R_mono (Kd.R_far (p := ⟨gb1152, 6, none⟩) (Kd.R_far (p := ⟨gb1152, 5, none⟩) (Kd.R_far (p := ⟨gb1152, 4, none⟩) (Kd.R_far (p := ⟨gb1152, 3, none⟩) (Kd.R_far (p := ⟨gb1152, 2, none⟩) (Kd.R_far (p := ⟨gb1152, 1, none⟩) (Kd.R_far (p := ⟨gb1152, 0, none⟩) (Kd.R_types HO1148.out BK1152.out (by decide)) (fun _ hk => hk.2) (.int .i64 t1141)) (fun _ hk => hk.2) (.int .i64 t1142)) (fun _ hk => hk.2) (.string t1143)) (fun _ hk => hk.2) (.int .i64 t1144)) (fun _ hk => hk.2) (.bool t1145)) (fun _ hk => hk.2) (.slice Ao33 t1146.length co33)) (fun _ hk => hk.2) (.slice Ao34 t1149.length co34)) (fun _ h_ => h_.1))))) (Kd.R_lt (by (with_reducible repeat (first | apply Kd.R_alloc | apply Kd.R_drewN | apply Kd.R_drew)); exact (Kd.R_mono (Kd.R_far (p := ⟨gb1152, 6, none⟩) (Kd.R_far (p := ⟨gb1152, 5, none⟩) (Kd.R_far (p := ⟨gb1152, 4, none⟩) (Kd.R_far (p := ⟨gb1152, 3, none⟩) (Kd.R_far (p := ⟨gb1152, 2, none⟩) (Kd.R_far (p := ⟨gb1152, 1, none⟩) (Kd.R_far (p := ⟨gb1152, 0, none⟩) (Kd.R_types HO1151.out BK1152.out (by decide)) (fun _ hk => hk.2) (.int .i64 t1141)) (fun _ hk => hk.2) (.int .i64 t1142)) (fun _ hk => hk.2) (.string t1143)) (fun _ hk => hk.2) (.int .i64 t1144)) (fun _ hk => hk.2) (.bool t1145)) (fun _ hk => hk.2) (.slice Ao33 t1146.length co33)) (fun _ hk => hk.2) (.slice Ao34 t1149.length co34)) (fun _ h_ => h_.1))))) (below_size (pkW HB.out))); replace HO1124 := am (Kd.R_mono (Kd.R_told (Kd.R_told (Kd.R_old (by (with_reducible repeat (first | apply Kd.R_alloc | apply Kd.R_drewN | apply Kd.R_drew)); exact (Kd.R_mono (Kd.R_far (p := ⟨gb1152, 6, none⟩) (Kd.R_far (p := ⟨gb1152, 5, none⟩) (Kd.R_far (p := ⟨gb1152, 4, none⟩) (Kd.R_far (p := ⟨gb1152, 3, none⟩) (Kd.R_far (p := ⟨gb1152, 2, none⟩) (Kd.R_far (p := ⟨gb1152, 1, none⟩) (Kd.R_far (p := ⟨gb1152, 0, none⟩) (Kd.R_types HO1124.out BK1152.out (by decide)) (fun _ hk => hk.2) (.int .i64 t1141)) (fun _ hk => hk.2) (.int .i64 t1142)) (fun _ hk => hk.2) (.string t1143)) (fun _ hk => hk.2) (.int .i64 t1144)) (fun _ hk => hk.2) (.bool t1145)) (fun _ hk => hk.2) (.slice Ao33 t1146.length co33)) (fun _ hk => hk.2) (.slice Ao34 t1149.length co34)) (fun _ h_ => h_.1))) hb) (Kd.R_base ho0)) (Kd.R_base ho1)) (fun _ h_ => h_.1)); replace HO1127 := am (Kd.R_mono (Kd.R_told (Kd.R_told (Kd.R_old (by (with_reducible repeat (first | apply Kd.R_alloc | apply Kd.R_drewN | apply Kd.R_drew)); exact (Kd.R_mono (Kd.R_far (p := ⟨gb1152, 6, none⟩) (Kd.R_far (p := ⟨gb1152, 5, none⟩) (Kd.R_far (p := ⟨gb1152, 4, none⟩) (Kd.R_far (p := ⟨gb1152, 3, none⟩) (Kd.R_far (p := ⟨gb1152, 2, none⟩) (Kd.R_far (p := ⟨gb1152, 1, none⟩) (Kd.R_far (p := ⟨gb1152, 0, none⟩) (Kd.R_types HO1127.out BK1152.out (by decide)) (fun _ hk => hk.2) (.int .i64 t1141)) (fun _ hk => hk.2) (.int .i64 t1142)) (fun _ hk => hk.2) (.string t1143)) (fun _ hk => hk.2) (.int .i64 t1144)) (fun _ hk => hk.2) (.bool t1145)) (fun _ hk => hk.2) (.slice Ao33 t1146.length co33)) (fun _ hk => hk.2) (.slice Ao34 t1149.length co34)) (fun _ h_ => h_.1))) hb) (Kd.R_base ho0)) (Kd.R_base ho1)) (fun _ h_ => h_.1)); replace HO1135 := am (Kd.R_mono (Kd.R_told (Kd.R_told (Kd.R_old (by (with_reducible repeat (first | apply Kd.R_alloc | apply Kd.R_drewN | apply Kd.R_drew)); exact (Kd.R_mono (Kd.R_far (p := ⟨gb1152, 6, none⟩) (Kd.R_far (p := ⟨gb1152, 5, none⟩) (Kd.R_far (p := ⟨gb1152, 4, none⟩) (Kd.R_far (p := ⟨gb1152, 3, none⟩) (Kd.R_far (p := ⟨gb1152, 2, none⟩) (Kd.R_far (p := ⟨gb1152, 1, none⟩) (Kd.R_far (p := ⟨gb1152, 0, none⟩) (Kd.R_types HO1135.out BK1152.out (by decide)) (fun _ hk => hk.2) (.int .i64 t1141)) (fun _ hk => hk.2) (.int .i64 t1142)) (fun _ hk => hk.2) (.string t1143)) (fun _ hk => hk.2) (.int .i64 t1144)) (fun _ hk => hk.2) (.bool t1145)) (fun _ hk => hk.2) (.slice Ao33 t1146.length co33)) (fun _ hk => hk.2) (.slice Ao34 t1149.length co34)) (fun _ h_ => h_.1))) hb) (Kd.R_base ho0)) (Kd.R_base ho1)) (fun _ h_ => h_.1)); replace HO1138 := am (Kd.R_mono (Kd.R_told (Kd.R_told (Kd.R_old (by (with_reducible repeat (first | apply Kd.R_alloc | apply Kd.R_drewN | apply Kd.R_drew)); exact (Kd.R_mono (Kd.R_far (p := ⟨gb1152, 6, none⟩) (Kd.R_far (p := ⟨gb1152, 5, none⟩) (Kd.R_far (p := ⟨gb1152, 4, none⟩) (Kd.R_far (p := ⟨gb1152, 3, none⟩) (Kd.R_far (p := ⟨gb1152, 2, none⟩) (Kd.R_far (p := ⟨gb1152, 1, none⟩) (Kd.R_far (p := ⟨gb1152, 0, none⟩) (Kd.R_types HO1138.out BK1152.out (by decide)) (fun _ hk => hk.2) (.int .i64 t1141)) (fun _ hk => hk.2) (.int .i64 t1142)) (fun _ hk => hk.2) (.string t1143)) (fun _ hk => hk.2) (.int .i64 t1144)) (fun _ hk => hk.2) (.bool t1145)) (fun _ hk => hk.2) (.slice Ao33 t1146.length co33)) (fun _ hk => hk.2) (.slice Ao34 t1149.length co34)) (fun _ h_ => h_.1))) hb) (Kd.R_base ho0)) (Kd.R_base ho1)) (fun _ h_ => h_.1)); replace HO1148 := am (Kd.R_mono (Kd.R_told (Kd.R_told (Kd.R_old (by (with_reducible repeat (first | apply Kd.R_alloc | apply Kd.R_drewN | apply Kd.R_drew)); exact (Kd.R_mono (Kd.R_far (p := ⟨gb1152, 6, none⟩) (Kd.R_far (p := ⟨gb1152, 5, none⟩) (Kd.R_far (p := ⟨gb1152, 4, none⟩) (Kd.R_far (p := ⟨gb1152, 3, none⟩) (Kd.R_far (p := ⟨gb1152, 2, none⟩) (Kd.R_far (p := ⟨gb1152, 1, none⟩) (Kd.R_far (p := ⟨gb1152, 0, none⟩) (Kd.R_types HO1148.out BK1152.out (by decide)) (fun _ hk => hk.2) (.int .i64 t1141)) (fun _ hk => hk.2) (.int .i64 t1142)) (fun _ hk => hk.2) (.string t1143)) (fun _ hk => hk.2) (.int .i64 t1144)) (fun _ hk => hk.2) (.bool t1145)) (fun _ hk => hk.2) (.slice Ao33 t1146.length co33)) (fun _ hk => hk.2) (.slice Ao34 t1149.length co34)) (fun _ h_ => h_.1))) hb) (Kd.R_base ho0)) (Kd.R_base ho1)) (fun _ h_ => h_.1)); replace HO1151 := am (Kd.R_mono (Kd.R_told (Kd.R_told (Kd.R_old (by (with_reducible repeat (first | apply Kd.R_alloc | apply Kd.R_drewN | apply Kd.R_drew)); exact (Kd.R_mono (Kd.R_far (p := ⟨gb1152, 6, none⟩) (Kd.R_far (p := ⟨gb1152, 5, none⟩) (Kd.R_far (p := ⟨gb1152, 4, none⟩) (Kd.R_far (p := ⟨gb1152, 3, none⟩) (Kd.R_far (p := ⟨gb1152, 2, none⟩) (Kd.R_far (p := ⟨gb1152, 1, none⟩) (Kd.R_far (p := ⟨gb1152, 0, none⟩) (Kd.R_types HO1151.out BK1152.out (by decide)) (fun _ hk => hk.2) (.int .i64 t1141)) (fun _ hk => hk.2) (.int .i64 t1142)) (fun _ hk => hk.2) (.string t1143)) (fun _ hk => hk.2) (.int .i64 t1144)) (fun _ hk => hk.2) (.bool t1145)) (fun _ hk => hk.2) (.slice Ao33 t1146.length co33)) (fun _ hk => hk.2) (.slice Ao34 t1149.length co34)) (fun _ h_ => h_.1))) hb) (Kd.R_base ho0)) (Kd.R_base ho1)) (fun _ h_ => h_.1)); replace BK1115 := am (blk_below (g := gb1115) (o := .cells #[.int .i64 a0_0, .int .i64 a0_1, .string a0_2, .int .i64 a0_3, .bool a0_4, .slice A0_5 l0_5.length c0_5, .slice A0_6 l0_6.length c0_6] 56 (0, 0)) (by (with_reducible repeat (first | refine blk_drewN ?_ _ | refine blk_drew ?_ | refine blk_alloc ?_ _)); refine blk_far ?_ NB1115_1152.out _; (with_reducible repeat (first | refine blk_drewN ?_ _ | refine blk_drew ?_ | refine blk_alloc ?_ _)); refine blk_far ?_ NB1115_1152.out _; (with_reducible repeat (first | refine blk_drewN ?_ _ | refine blk_drew ?_ | refine blk_alloc ?_ _)); refine blk_far ?_ NB1115_1152.out _; (with_reducible repeat (first | refine blk_drewN ?_ _ | refine blk_drew ?_ | refine blk_alloc ?_ _)); refine blk_far ?_ NB1115_1152.out _; (with_reducible repeat (first | refine blk_drewN ?_ _ | refine blk_drew ?_ | refine blk_alloc ?_ _)); refine blk_far ?_ NB1115_1152.out _; (with_reducible repeat (first | refine blk_drewN ?_ _ | refine blk_drew ?_ | refine blk_alloc ?_ _)); refine blk_far ?_ NB1115_1152.out _; (with_reducible repeat (first | refine blk_drewN ?_ _ | refine blk_drew ?_ | refine blk_alloc ?_ _)); refine blk_far ?_ NB1115_1152.out _; exact pkK BK1115.out) hb); replace BK1140 := am (blk_below (g := gb1140) (o := .cells #[.int .i64 t1128, .int .i64 t1129, .string t1130, .int .i64 t1131, .bool t1132, .slice Ao25 t1133.length co25, .slice Ao26 t1136.length co26] 29 (0, 0)) (by (with_reducible repeat (first | refine blk_drewN ?_ _ | refine blk_drew ?_ | refine blk_alloc ?_ _)); refine blk_far ?_ NB1140_1152.out _; (with_reducible repeat (first | refine blk_drewN ?_ _ | refine blk_drew ?_ | refine blk_alloc ?_ _)); refine blk_far ?_ NB1140_1152.out _; (with_reducible repeat (first | refine blk_drewN ?_ _ | refine blk_drew ?_ | refine blk_alloc ?_ _)); refine blk_far ?_ NB1140_1152.out _; (with_reducible repeat (first | refine blk_drewN ?_ _ | refine blk_drew ?_ | refine blk_alloc ?_ _)); refine blk_far ?_ NB1140_1152.out _; (with_reducible repeat (first | refine blk_drewN ?_ _ | refine blk_drew ?_ | refine blk_alloc ?_ _)); refine blk_far ?_ NB1140_1152.out _; (with_reducible repeat (first | refine blk_drewN ?_ _ | refine blk_drew ?_ | refine blk_alloc ?_ _)); refine blk_far ?_ NB1140_1152.out _; (with_reducible repeat (first | refine blk_drewN ?_ _ | refine blk_drew ?_ | refine blk_alloc ?_ _)); refine blk_far ?_ NB1140_1152.out _; exact pkK BK1140.out) hb); replace BK1152 := am (blk_below (g := gb1152) (o := .cells #[.int .i64 t1141, .int .i64 t1142, .string t1143, .int .i64 t1144, .bool t1145, .slice Ao33 t1146.length co33, .slice Ao34 t1149.length co34] 29 (0, 0)) (by (with_reducible repeat (first | refine blk_drewN ?_ _ | refine blk_drew ?_ | refine blk_alloc ?_ _)); refine blk_put (cs := #[.int .i64 t1141, .int .i64 t1142, .string t1143, .int .i64 t1144, .bool t1145, .slice Ao33 t1146.length co33, .slice none 0 0]) ?_ 6 _ rfl; (with_reducible repeat (first | refine blk_drewN ?_ _ | refine blk_drew ?_ | refine blk_alloc ?_ _)); refine blk_put (cs := #[.int .i64 t1141, .int .i64 t1142, .string t1143, .int .i64 t1144, .bool t1145, .slice none 0 0, .slice none 0 0]) ?_ 5 _ rfl; (with_reducible repeat (first | refine blk_drewN ?_ _ | refine blk_drew ?_ | refine blk_alloc ?_ _)); refine blk_put (cs := #[.int .i64 t1141, .int .i64 t1142, .string t1143, .int .i64 t1144, .bool false, .slice none 0 0, .slice none 0 0]) ?_ 4 _ rfl; (with_reducible repeat (first | refine blk_drewN ?_ _ | refine blk_drew ?_ | refine blk_alloc ?_ _)); refine blk_put (cs := #[.int .i64 t1141, .int .i64 t1142, .string t1143, .int .i64 0, .bool false, .slice none 0 0, .slice none 0 0]) ?_ 3 _ rfl; (with_reducible repeat (first | refine blk_drewN ?_ _ | refine blk_drew ?_ | refine blk_alloc ?_ _)); refine blk_put (cs := #[.int .i64 t1141, .int .i64 t1142, .string (⟨#[]⟩ : ByteArray), .int .i64 0, .bool false, .slice none 0 0, .slice none 0 0]) ?_ 2 _ rfl; (with_reducible repeat (first | refine blk_drewN ?_ _ | refine blk_drew ?_ | refine blk_alloc ?_ _)); refine blk_put (cs := #[.int .i64 t1141, .int .i64 0, .string (⟨#[]⟩ : ByteArray), .int .i64 0, .bool false, .slice none 0 0, .slice none 0 0]) ?_ 1 _ rfl; (with_reducible repeat (first | refine blk_drewN ?_ _ | refine blk_drew ?_ | refine blk_alloc ?_ _)); refine blk_put (cs := #[.int .i64 0, .int .i64 0, .string (⟨#[]⟩ : ByteArray), .int .i64 0, .bool false, .slice none 0 0, .slice none 0 0]) ?_ 0 _ rfl; exact pkK BK1152.out) hb); replace HB := am (below_step (pkW HB.out) hb); (try clear hb ho0 ho1)) | ((with_reducible refine gate_dst (N := 11) rfl ?_); refine box_event ?hg (N := 11) ?hd (cs := #[.int .i64 0, .int .i64 0, .string (⟨#[]⟩ : ByteArray), .int .i64 0, .bool false, .slice none 0 0, .slice none 0 0]) (t := 29) ?hr ?_; (case hd => rfl); (case hg => rfl); (case hr => first | (go_simp; done) | (go_simp; rfl)); intro gb1165 hg w36 hbox hb; replace HO1124 := am (Kd.R_below (pkR HO1124.out) hb); replace HO1127 := am (Kd.R_below (pkR HO1127.out) hb); replace HO1135 := am (Kd.R_below (pkR HO1135.out) hb); replace HO1138 := am (Kd.R_below (pkR HO1138.out) hb); replace HO1148 := am (Kd.R_below (pkR HO1148.out) hb); replace HO1151 := am (Kd.R_below (pkR HO1151.out) hb); replace HO1160 := am (Kd.R_below (pkR HO1160.out) hb); replace HO1163 := am (Kd.R_below (pkR HO1163.out) hb); have BK1165 := am (hbox); have GW1165 := am ((by rw [hg]; exact (below_size (pkW HB.out)) : w.heap.size ≤ gb1165)); have GE1165 := am ((by rw [hg]; exact (below_size (pkW HB.out)) : w.heap.size ≤ gb1165)); replace HB := am (below_step (pkW HB.out) hb); have NB1115_1165 := am ((by rw [hg]; exact Nat.ne_of_lt (blk_lt (g := gb1115) (o := .cells #[.int .i64 a0_0, .int .i64 a0_1, .string a0_2, .int .i64 a0_3, .bool a0_4, .slice A0_5 l0_5.length c0_5, .slice A0_6 l0_6.length c0_6] 56 (0, 0)) (pkK BK1115.out)) : gb1115 ≠ gb1165)); have NB1165_1115 := am ((by rw [hg]; exact Nat.ne_of_gt (blk_lt (g := gb1115) (o := .cells #[.int .i64 a0_0, .int .i64 a0_1, .string a0_2, .int .i64 a0_3, .bool a0_4, .slice A0_5 l0_5.length c0_5, .slice A0_6 l0_6.length c0_6] 56 (0, 0)) (pkK BK1115.out)) : gb1165 ≠ gb1115)); replace BK1115 := am (blk_below (pkK BK1115.out) hb); have NB1140_1165 := am ((by rw [hg]; exact Nat.ne_of_lt (blk_lt (g := gb1140) (o := .cells #[.int .i64 t1128, .int .i64 t1129, .string t1130, .int .i64 t1131, .bool t1132, .slice Ao25 t1133.length co25, .slice Ao26 t1136.length co26] 29 (0, 0)) (pkK BK1140.out)) : gb1140 ≠ gb1165)); have NB1165_1140 := am ((by rw [hg]; exact Nat.ne_of_gt (blk_lt (g := gb1140) (o := .cells #[.int .i64 t1128, .int .i64 t1129, .string t1130, .int .i64 t1131, .bool t1132, .slice Ao25 t1133.length co25, .slice Ao26 t1136.length co26] 29 (0, 0)) (pkK BK1140.out)) : gb1165 ≠ gb1140)); replace BK1140 := am (blk_below (pkK BK1140.out) hb); have NB1152_1165 := am ((by rw [hg]; exact Nat.ne_of_lt (blk_lt (g := gb1152) (o := .cells #[.int .i64 t1141, .int .i64 t1142, .string t1143, .int .i64 t1144, .bool t1145, .slice Ao33 t1146.length co33, .slice Ao34 t1149.length co34] 29 (0, 0)) (pkK BK1152.out)) : gb1152 ≠ gb1165)); have NB1165_1152 := am ((by rw [hg]; exact Nat.ne_of_gt (blk_lt (g := gb1152) (o := .cells #[.int .i64 t1141, .int .i64 t1142, .string t1143, .int .i64 t1144, .bool t1145, .slice Ao33 t1146.length co33, .slice Ao34 t1149.length co34] 29 (0, 0)) (pkK BK1152.out)) : gb1165 ≠ gb1152)); replace BK1152 := am (blk_below (pkK BK1152.out) hb); clear hb hbox hg; have hnb37 := NB1165_1115.out; have hnc37 := NB1115_1165.out; have hnb38 := NB1165_1140.out; have hnc38 := NB1140_1165.out; have hnb39 := NB1165_1152.out; have hnc39 := NB1152_1165.out; obtain ⟨hcz40_0, hcz40_1, hcz40_2, hcz40_3, hcz40_4, hcz40_5, hcz40_6, hfz40_0, hfz40_1, hfz40_2, hfz40_3, hfz40_4, hfz40_5, hfz40_6⟩ := bk7 BK1165.out; obtain ⟨Ao41, co41, eo41⟩ := Kd.R_slice HO1160.out; subst eo41; obtain ⟨Ao42, co42, eo42⟩ := Kd.R_slice HO1163.out; subst eo42))
  (try simp only [Act.put, List.setIfInBounds_toArray, List.set_cons_zero, List.set_cons_succ])
  go_cut [48] (fun v48 wc => ∃ (kq : Nat) (x48_12 : Bool), v48 = .bool x48_12 ∧ Aside0 (laws_FnExactWatch.j0 kq a1 a2 t1139 t1164 x48_12 a0_0 a0_1 a0_2 a0_3 a0_4 l0_5 l0_6 t1128 t1129 t1130 t1131 t1132 t1133 t1136 t1141 t1142 t1143 t1144 t1145 t1146 t1149 t1153 t1154 t1155 t1156 t1157 t1158 t1161 = some r) ∧ Aside0 (kq ≤ k) ∧ Aside0 (Kd.R (Kd.int .i64) 3 wc w.heap.size (fun k_ => some k_ ≠ ((.slice Ao26 t1136.length co26) : Value).ownBlock ∧ some k_ ≠ ((.slice Ao33 t1146.length co33) : Value).ownBlock ∧ some k_ ≠ ((.slice Ao34 t1149.length co34) : Value).ownBlock ∧ some k_ ≠ ((.slice Ao41 t1158.length co41) : Value).ownBlock ∧ some k_ ≠ ((.slice Ao42 t1161.length co42) : Value).ownBlock) (.slice Ao25 t1133.length co25) t1133) ∧ Aside0 (Kd.R (Kd.int .i64) 3 wc w.heap.size (fun k_ => some k_ ≠ ((.slice Ao25 t1133.length co25) : Value).ownBlock ∧ some k_ ≠ ((.slice Ao33 t1146.length co33) : Value).ownBlock ∧ some k_ ≠ ((.slice Ao34 t1149.length co34) : Value).ownBlock ∧ some k_ ≠ ((.slice Ao41 t1158.length co41) : Value).ownBlock ∧ some k_ ≠ ((.slice Ao42 t1161.length co42) : Value).ownBlock) (.slice Ao26 t1136.length co26) t1136) ∧ Aside0 (Kd.R (Kd.int .i64) 3 wc w.heap.size (fun k_ => some k_ ≠ ((.slice Ao25 t1133.length co25) : Value).ownBlock ∧ some k_ ≠ ((.slice Ao26 t1136.length co26) : Value).ownBlock ∧ some k_ ≠ ((.slice Ao34 t1149.length co34) : Value).ownBlock ∧ some k_ ≠ ((.slice Ao41 t1158.length co41) : Value).ownBlock ∧ some k_ ≠ ((.slice Ao42 t1161.length co42) : Value).ownBlock) (.slice Ao33 t1146.length co33) t1146) ∧ Aside0 (Kd.R (Kd.int .i64) 3 wc w.heap.size (fun k_ => some k_ ≠ ((.slice Ao25 t1133.length co25) : Value).ownBlock ∧ some k_ ≠ ((.slice Ao26 t1136.length co26) : Value).ownBlock ∧ some k_ ≠ ((.slice Ao33 t1146.length co33) : Value).ownBlock ∧ some k_ ≠ ((.slice Ao41 t1158.length co41) : Value).ownBlock ∧ some k_ ≠ ((.slice Ao42 t1161.length co42) : Value).ownBlock) (.slice Ao34 t1149.length co34) t1149) ∧ Aside0 (Kd.R (Kd.int .i64) 3 wc w.heap.size (fun k_ => some k_ ≠ ((.slice Ao25 t1133.length co25) : Value).ownBlock ∧ some k_ ≠ ((.slice Ao26 t1136.length co26) : Value).ownBlock ∧ some k_ ≠ ((.slice Ao33 t1146.length co33) : Value).ownBlock ∧ some k_ ≠ ((.slice Ao34 t1149.length co34) : Value).ownBlock ∧ some k_ ≠ ((.slice Ao42 t1161.length co42) : Value).ownBlock) (.slice Ao41 t1158.length co41) t1158) ∧ Aside0 (Kd.R (Kd.int .i64) 3 wc w.heap.size (fun k_ => some k_ ≠ ((.slice Ao25 t1133.length co25) : Value).ownBlock ∧ some k_ ≠ ((.slice Ao26 t1136.length co26) : Value).ownBlock ∧ some k_ ≠ ((.slice Ao33 t1146.length co33) : Value).ownBlock ∧ some k_ ≠ ((.slice Ao34 t1149.length co34) : Value).ownBlock ∧ some k_ ≠ ((.slice Ao41 t1158.length co41) : Value).ownBlock) (.slice Ao42 t1161.length co42) t1161) ∧ Aside0 (wc.heap[gb1115]? = some (.cells #[.int .i64 a0_0, .int .i64 a0_1, .string a0_2, .int .i64 a0_3, .bool a0_4, (.slice A0_5 l0_5.length c0_5), (.slice A0_6 l0_6.length c0_6)] 56 (0, 0))) ∧ Aside0 (wc.heap[gb1140]? = some (.cells #[.int .i64 t1128, .int .i64 t1129, .string t1130, .int .i64 t1131, .bool t1132, (.slice Ao25 t1133.length co25), (.slice Ao26 t1136.length co26)] 29 (0, 0))) ∧ Aside0 (wc.heap[gb1152]? = some (.cells #[.int .i64 t1141, .int .i64 t1142, .string t1143, .int .i64 t1144, .bool t1145, (.slice Ao33 t1146.length co33), (.slice Ao34 t1149.length co34)] 29 (0, 0))) ∧ Aside0 (wc.heap[gb1165]? = some (.cells #[.int .i64 t1153, .int .i64 t1154, .string t1155, .int .i64 t1156, .bool t1157, (.slice Ao41 t1158.length co41), (.slice Ao42 t1161.length co42)] 29 (0, 0))) ∧ Aside0 (Below w.heap.size w wc))
  case first =>
   have H := HC13.out
   clear HC13
   replace H := Option.bind_eq_some_iff.mp H
   obtain ⟨t1166, A430, H⟩ := H
   replace H : (if t1166 = true then (laws_FnExactWatch.j0 k a1 a2 t1139 t1164 (t1164 != t1139) a0_0 a0_1 a0_2 a0_3 a0_4 l0_5 l0_6 t1128 t1129 t1130 t1131 t1132 t1133 t1136 t1141 t1142 t1143 t1144 t1145 t1146 t1149 t1153 t1154 t1155 t1156 t1157 t1158 t1161) else (laws_FnExactWatch.j0 k a1 a2 t1139 t1164 true a0_0 a0_1 a0_2 a0_3 a0_4 l0_5 l0_6 t1128 t1129 t1130 t1131 t1132 t1133 t1136 t1141 t1142 t1143 t1144 t1145 t1146 t1149 t1153 t1154 t1155 t1156 t1157 t1158 t1161)) = some r := H
   have A43 := am A430
   clear A430
   by_cases c44 : t1166 = true
   ·subst c44
    replace H : (laws_FnExactWatch.j0 k a1 a2 t1139 t1164 (t1164 != t1139) a0_0 a0_1 a0_2 a0_3 a0_4 l0_5 l0_6 t1128 t1129 t1130 t1131 t1132 t1133 t1136 t1141 t1142 t1143 t1144 t1145 t1146 t1149 t1153 t1154 t1155 t1156 t1157 t1158 t1161) = some r := by rw [if_pos rfl] at H; exact H
    have H' := am H
    clear H
    have hnb45 := NB1165_1115.out
    have hnc45 := NB1115_1165.out
    have hnb46 := NB1165_1140.out
    have hnc46 := NB1140_1165.out
    have hnb47 := NB1165_1152.out
    have hnc47 := NB1152_1165.out
    obtain ⟨hcz48_0, hcz48_1, hcz48_2, hcz48_3, hcz48_4, hcz48_5, hcz48_6, hfz48_0, hfz48_1, hfz48_2, hfz48_3, hfz48_4, hfz48_5, hfz48_6⟩ := bk7 BK1165.out
    have hnb49 := NB1140_1115.out
    have hnc49 := NB1115_1140.out
    have hnb50 := NB1140_1152.out
    have hnc50 := NB1152_1140.out
    obtain ⟨hcz51_0, hcz51_1, hcz51_2, hcz51_3, hcz51_4, hcz51_5, hcz51_6, hfz51_0, hfz51_1, hfz51_2, hfz51_3, hfz51_4, hfz51_5, hfz51_6⟩ := bk7 BK1140.out
    go_wp2_with (first | ((with_reducible refine gate_callee (f := 34) rfl ?_); refine goesL_ (some 42) rfl rfl Try.func34 (by kernel_rfl) rfl #[.agg #[.int .i64 t1153, .int .i64 t1154, .string t1155, .int .i64 t1156, .bool t1157, .slice Ao41 t1158.length co41, .slice Ao42 t1161.length co42], .agg #[.int .i64 t1128, .int .i64 t1129, .string t1130, .int .i64 t1131, .bool t1132, .slice Ao25 t1133.length co25, .slice Ao26 t1136.length co26]] rfl mpx ?_; (with_reducible refine (laws_eqCell.calls k t1153 t1154 t1155 t1156 t1157 _ _ t1158 _ _ t1161 t1128 t1129 t1130 t1131 t1132 _ _ t1133 _ _ t1136 true _ ?side1 ?side2 ?side3 ?side4 ?side5 ?side6 ?side7 ?side8 A43.out).mono ?_); (case side1 => refine (Kd.R_reads' (e := 3) (base := w.heap.size) (ok := fun k_ => ((((((some k_ ≠ (.slice Ao42 t1161.length co42 : Value).ownBlock ∧ some k_ ≠ (.slice Ao19 t1122.length co19 : Value).ownBlock) ∧ some k_ ≠ (.slice Ao20 t1125.length co20 : Value).ownBlock) ∧ some k_ ≠ (.slice Ao25 t1133.length co25 : Value).ownBlock) ∧ some k_ ≠ (.slice Ao26 t1136.length co26 : Value).ownBlock) ∧ some k_ ≠ (.slice Ao33 t1146.length co33 : Value).ownBlock) ∧ some k_ ≠ (.slice Ao34 t1149.length co34 : Value).ownBlock)) (n := t1158.length) (c := co41) ?_).2.2; exact (by (with_reducible repeat (first | apply Kd.R_alloc | apply Kd.R_drewN | apply Kd.R_drew)); exact (Kd.R_mono (Kd.R_far (p := ⟨gb1165, 6, none⟩) (Kd.R_far (p := ⟨gb1165, 5, none⟩) (Kd.R_far (p := ⟨gb1165, 4, none⟩) (Kd.R_far (p := ⟨gb1165, 3, none⟩) (Kd.R_far (p := ⟨gb1165, 2, none⟩) (Kd.R_far (p := ⟨gb1165, 1, none⟩) (Kd.R_far (p := ⟨gb1165, 0, none⟩) (Kd.R_types HO1160.out BK1165.out (by decide)) (fun _ hk => hk.2) (.int .i64 t1153)) (fun _ hk => hk.2) (.int .i64 t1154)) (fun _ hk => hk.2) (.string t1155)) (fun _ hk => hk.2) (.int .i64 t1156)) (fun _ hk => hk.2) (.bool t1157)) (fun _ hk => hk.2) (.slice Ao41 t1158.length co41)) (fun _ hk => hk.2) (.slice Ao42 t1161.length co42)) (fun _ h_ => h_.1)))); (case side2 => exact (Kd.R_reads' HO1160.out).2.1); (case side3 => refine (Kd.R_reads' (e := 3) (base := w.heap.size) (ok := fun k_ => ((((((some k_ ≠ (.slice Ao41 t1158.length co41 : Value).ownBlock ∧ some k_ ≠ (.slice Ao19 t1122.length co19 : Value).ownBlock) ∧ some k_ ≠ (.slice Ao20 t1125.length co20 : Value).ownBlock) ∧ some k_ ≠ (.slice Ao25 t1133.length co25 : Value).ownBlock) ∧ some k_ ≠ (.slice Ao26 t1136.length co26 : Value).ownBlock) ∧ some k_ ≠ (.slice Ao33 t1146.length co33 : Value).ownBlock) ∧ some k_ ≠ (.slice Ao34 t1149.length co34 : Value).ownBlock)) (n := t1161.length) (c := co42) ?_).2.2; exact (by (with_reducible repeat (first | apply Kd.R_alloc | apply Kd.R_drewN | apply Kd.R_drew)); exact (Kd.R_mono (Kd.R_far (p := ⟨gb1165, 6, none⟩) (Kd.R_far (p := ⟨gb1165, 5, none⟩) (Kd.R_far (p := ⟨gb1165, 4, none⟩) (Kd.R_far (p := ⟨gb1165, 3, none⟩) (Kd.R_far (p := ⟨gb1165, 2, none⟩) (Kd.R_far (p := ⟨gb1165, 1, none⟩) (Kd.R_far (p := ⟨gb1165, 0, none⟩) (Kd.R_types HO1163.out BK1165.out (by decide)) (fun _ hk => hk.2) (.int .i64 t1153)) (fun _ hk => hk.2) (.int .i64 t1154)) (fun _ hk => hk.2) (.string t1155)) (fun _ hk => hk.2) (.int .i64 t1156)) (fun _ hk => hk.2) (.bool t1157)) (fun _ hk => hk.2) (.slice Ao41 t1158.length co41)) (fun _ hk => hk.2) (.slice Ao42 t1161.length co42)) (fun _ h_ => h_.1)))); (case side4 => exact (Kd.R_reads' HO1163.out).2.1); (case side5 => refine (Kd.R_reads' (e := 3) (base := w.heap.size) (ok := fun k_ => ((((((some k_ ≠ (.slice Ao26 t1136.length co26 : Value).ownBlock ∧ some k_ ≠ (.slice Ao19 t1122.length co19 : Value).ownBlock) ∧ some k_ ≠ (.slice Ao20 t1125.length co20 : Value).ownBlock) ∧ some k_ ≠ (.slice Ao33 t1146.length co33 : Value).ownBlock) ∧ some k_ ≠ (.slice Ao34 t1149.length co34 : Value).ownBlock) ∧ some k_ ≠ (.slice Ao41 t1158.length co41 : Value).ownBlock) ∧ some k_ ≠ (.slice Ao42 t1161.length co42 : Value).ownBlock)) (n := t1133.length) (c := co25) ?_).2.2; exact (by (with_reducible repeat (first | apply Kd.R_alloc | apply Kd.R_drewN | apply Kd.R_drew)); exact (Kd.R_mono (Kd.R_far (p := ⟨gb1165, 6, none⟩) (Kd.R_far (p := ⟨gb1165, 5, none⟩) (Kd.R_far (p := ⟨gb1165, 4, none⟩) (Kd.R_far (p := ⟨gb1165, 3, none⟩) (Kd.R_far (p := ⟨gb1165, 2, none⟩) (Kd.R_far (p := ⟨gb1165, 1, none⟩) (Kd.R_far (p := ⟨gb1165, 0, none⟩) (Kd.R_types HO1135.out BK1165.out (by decide)) (fun _ hk => hk.2) (.int .i64 t1153)) (fun _ hk => hk.2) (.int .i64 t1154)) (fun _ hk => hk.2) (.string t1155)) (fun _ hk => hk.2) (.int .i64 t1156)) (fun _ hk => hk.2) (.bool t1157)) (fun _ hk => hk.2) (.slice Ao41 t1158.length co41)) (fun _ hk => hk.2) (.slice Ao42 t1161.length co42)) (fun _ h_ => h_.1)))); (case side6 => exact (Kd.R_reads' HO1135.out).2.1); (case side7 => refine (Kd.R_reads' (e := 3) (base := w.heap.size) (ok := fun k_ => ((((((some k_ ≠ (.slice Ao25 t1133.length co25 : Value).ownBlock ∧ some k_ ≠ (.slice Ao19 t1122.length co19 : Value).ownBlock) ∧ some k_ ≠ (.slice Ao20 t1125.length co20 : Value).ownBlock) ∧ some k_ ≠ (.slice Ao33 t1146.length co33 : Value).ownBlock) ∧ some k_ ≠ (.slice Ao34 t1149.length co34 : Value).ownBlock) ∧ some k_ ≠ (.slice Ao41 t1158.length co41 : Value).ownBlock) ∧ some k_ ≠ (.slice Ao42 t1161.length co42 : Value).ownBlock)) (n := t1136.length) (c := co26) ?_).2.2; exact (by (with_reducible repeat (first | apply Kd.R_alloc | apply Kd.R_drewN | apply Kd.R_drew)); exact (Kd.R_mono (Kd.R_far (p := ⟨gb1165, 6, none⟩) (Kd.R_far (p := ⟨gb1165, 5, none⟩) (Kd.R_far (p := ⟨gb1165, 4, none⟩) (Kd.R_far (p := ⟨gb1165, 3, none⟩) (Kd.R_far (p := ⟨gb1165, 2, none⟩) (Kd.R_far (p := ⟨gb1165, 1, none⟩) (Kd.R_far (p := ⟨gb1165, 0, none⟩) (Kd.R_types HO1138.out BK1165.out (by decide)) (fun _ hk => hk.2) (.int .i64 t1153)) (fun _ hk => hk.2) (.int .i64 t1154)) (fun _ hk => hk.2) (.string t1155)) (fun _ hk => hk.2) (.int .i64 t1156)) (fun _ hk => hk.2) (.bool t1157)) (fun _ hk => hk.2) (.slice Ao41 t1158.length co41)) (fun _ hk => hk.2) (.slice Ao42 t1161.length co42)) (fun _ h_ => h_.1)))); (case side8 => exact (Kd.R_reads' HO1138.out).2.1); rintro e w52 ⟨rfl, hb⟩; refine ⟨_, rfl, ?_⟩; replace HO1124 := am (Kd.R_below (by (with_reducible repeat (first | apply Kd.R_alloc | apply Kd.R_drewN | apply Kd.R_drew)); exact (Kd.R_mono (Kd.R_far (p := ⟨gb1165, 6, none⟩) (Kd.R_far (p := ⟨gb1165, 5, none⟩) (Kd.R_far (p := ⟨gb1165, 4, none⟩) (Kd.R_far (p := ⟨gb1165, 3, none⟩) (Kd.R_far (p := ⟨gb1165, 2, none⟩) (Kd.R_far (p := ⟨gb1165, 1, none⟩) (Kd.R_far (p := ⟨gb1165, 0, none⟩) (Kd.R_types HO1124.out BK1165.out (by decide)) (fun _ hk => hk.2) (.int .i64 t1153)) (fun _ hk => hk.2) (.int .i64 t1154)) (fun _ hk => hk.2) (.string t1155)) (fun _ hk => hk.2) (.int .i64 t1156)) (fun _ hk => hk.2) (.bool t1157)) (fun _ hk => hk.2) (.slice Ao41 t1158.length co41)) (fun _ hk => hk.2) (.slice Ao42 t1161.length co42)) (fun _ h_ => h_.1))) hb); replace HO1127 := am (Kd.R_below (by (with_reducible repeat (first | apply Kd.R_alloc | apply Kd.R_drewN | apply Kd.R_drew)); exact (Kd.R_mono (Kd.R_far (p := ⟨gb1165, 6, none⟩) (Kd.R_far (p := ⟨gb1165, 5, none⟩) (Kd.R_far (p := ⟨gb1165, 4, none⟩) (Kd.R_far (p := ⟨gb1165, 3, none⟩) (Kd.R_far (p := ⟨gb1165, 2, none⟩) (Kd.R_far (p := ⟨gb1165, 1, none⟩) (Kd.R_far (p := ⟨gb1165, 0, none⟩) (Kd.R_types HO1127.out BK1165.out (by decide)) (fun _ hk => hk.2) (.int .i64 t1153)) (fun _ hk => hk.2) (.int .i64 t1154)) (fun _ hk => hk.2) (.string t1155)) (fun _ hk => hk.2) (.int .i64 t1156)) (fun _ hk => hk.2) (.bool t1157)) (fun _ hk => hk.2) (.slice Ao41 t1158.length co41)) (fun _ hk => hk.2) (.slice Ao42 t1161.length co42)) (fun _ h_ => h_.1))) hb); replace HO1135 := am (Kd.R_below (by (with_reducible repeat (first | apply Kd.R_alloc | apply Kd.R_drewN | apply Kd.R_drew)); exact (Kd.R_mono (Kd.R_far (p := ⟨gb1165, 6, none⟩) (Kd.R_far (p := ⟨gb1165, 5, none⟩) (Kd.R_far (p := ⟨gb1165, 4, none⟩) (Kd.R_far (p := ⟨gb1165, 3, none⟩) (Kd.R_far (p := ⟨gb1165, 2, none⟩) (Kd.R_far (p := ⟨gb1165, 1, none⟩) (Kd.R_far (p := ⟨gb1165, 0, none⟩) (Kd.R_types HO1135.out BK1165.out (by decide)) (fun _ hk => hk.2) (.int .i64 t1153)) (fun _ hk => hk.2) (.int .i64 t1154)) (fun _ hk => hk.2) (.string t1155)) (fun _ hk => hk.2) (.int .i64 t1156)) (fun _ hk => hk.2) (.bool t1157)) (fun _ hk => hk.2) (.slice Ao41 t1158.length co41)) (fun _ hk => hk.2) (.slice Ao42 t1161.length co42)) (fun _ h_ => h_.1))) hb); replace HO1138 := am (Kd.R_below (by (with_reducible repeat (first | apply Kd.R_alloc | apply Kd.R_drewN | apply Kd.R_drew)); exact (Kd.R_mono (Kd.R_far (p := ⟨gb1165, 6, none⟩) (Kd.R_far (p := ⟨gb1165, 5, none⟩) (Kd.R_far (p := ⟨gb1165, 4, none⟩) (Kd.R_far (p := ⟨gb1165, 3, none⟩) (Kd.R_far (p := ⟨gb1165, 2, none⟩) (Kd.R_far (p := ⟨gb1165, 1, none⟩) (Kd.R_far (p := ⟨gb1165, 0, none⟩) (Kd.R_types HO1138.out BK1165.out (by decide)) (fun _ hk => hk.2) (.int .i64 t1153)) (fun _ hk => hk.2) (.int .i64 t1154)) (fun _ hk => hk.2) (.string t1155)) (fun _ hk => hk.2) (.int .i64 t1156)) (fun _ hk => hk.2) (.bool t1157)) (fun _ hk => hk.2) (.slice Ao41 t1158.length co41)) (fun _ hk => hk.2) (.slice Ao42 t1161.length co42)) (fun _ h_ => h_.1))) hb); replace HO1148 := am (Kd.R_below (by (with_reducible repeat (first | apply Kd.R_alloc | apply Kd.R_drewN | apply Kd.R_drew)); exact (Kd.R_mono (Kd.R_far (p := ⟨gb1165, 6, none⟩) (Kd.R_far (p := ⟨gb1165, 5, none⟩) (Kd.R_far (p := ⟨gb1165, 4, none⟩) (Kd.R_far (p := ⟨gb1165, 3, none⟩) (Kd.R_far (p := ⟨gb1165, 2, none⟩) (Kd.R_far (p := ⟨gb1165, 1, none⟩) (Kd.R_far (p := ⟨gb1165, 0, none⟩) (Kd.R_types HO1148.out BK1165.out (by decide)) (fun _ hk => hk.2) (.int .i64 t1153)) (fun _ hk => hk.2) (.int .i64 t1154)) (fun _ hk => hk.2) (.string t1155)) (fun _ hk => hk.2) (.int .i64 t1156)) (fun _ hk => hk.2) (.bool t1157)) (fun _ hk => hk.2) (.slice Ao41 t1158.length co41)) (fun _ hk => hk.2) (.slice Ao42 t1161.length co42)) (fun _ h_ => h_.1))) hb); replace HO1151 := am (Kd.R_below (by (with_reducible repeat (first | apply Kd.R_alloc | apply Kd.R_drewN | apply Kd.R_drew)); exact (Kd.R_mono (Kd.R_far (p := ⟨gb1165, 6, none⟩) (Kd.R_far (p := ⟨gb1165, 5, none⟩) (Kd.R_far (p := ⟨gb1165, 4, none⟩) (Kd.R_far (p := ⟨gb1165, 3, none⟩) (Kd.R_far (p := ⟨gb1165, 2, none⟩) (Kd.R_far (p := ⟨gb1165, 1, none⟩) (Kd.R_far (p := ⟨gb1165, 0, none⟩) (Kd.R_types HO1151.out BK1165.out (by decide)) (fun _ hk => hk.2) (.int .i64 t1153)) (fun _ hk => hk.2) (.int .i64 t1154)) (fun _ hk => hk.2) (.string t1155)) (fun _ hk => hk.2) (.int .i64 t1156)) (fun _ hk => hk.2) (.bool t1157)) (fun _ hk => hk.2) (.slice Ao41 t1158.length co41)) (fun _ hk => hk.2) (.slice Ao42 t1161.length co42)) (fun _ h_ => h_.1))) hb); replace HO1160 := am (Kd.R_below (by (with_reducible repeat (first | apply Kd.R_alloc | apply Kd.R_drewN | apply Kd.R_drew)); exact (Kd.R_mono (Kd.R_far (p := ⟨gb1165, 6, none⟩) (Kd.R_far (p := ⟨gb1165, 5, none⟩) (Kd.R_far (p := ⟨gb1165, 4, none⟩) (Kd.R_far (p := ⟨gb1165, 3, none⟩) (Kd.R_far (p := ⟨gb1165, 2, none⟩) (Kd.R_far (p := ⟨gb1165, 1, none⟩) (Kd.R_far (p := ⟨gb1165, 0, none⟩) (Kd.R_types HO1160.out BK1165.out (by decide)) (fun _ hk => hk.2) (.int .i64 t1153)) (fun _ hk => hk.2) (.int .i64 t1154)) (fun _ hk => hk.2) (.string t1155)) (fun _ hk => hk.2) (.int .i64 t1156)) (fun _ hk => hk.2) (.bool t1157)) (fun _ hk => hk.2) (.slice Ao41 t1158.length co41)) (fun _ hk => hk.2) (.slice Ao42 t1161.length co42)) (fun _ h_ => h_.1))) hb); replace HO1163 := am (Kd.R_below (by (with_reducible repeat (first | apply Kd.R_alloc | apply Kd.R_drewN | apply Kd.R_drew)); exact (Kd.R_mono (Kd.R_far (p := ⟨gb1165, 6, none⟩) (Kd.R_far (p := ⟨gb1165, 5, none⟩) (Kd.R_far (p := ⟨gb1165, 4, none⟩) (Kd.R_far (p := ⟨gb1165, 3, none⟩) (Kd.R_far (p := ⟨gb1165, 2, none⟩) (Kd.R_far (p := ⟨gb1165, 1, none⟩) (Kd.R_far (p := ⟨gb1165, 0, none⟩) (Kd.R_types HO1163.out BK1165.out (by decide)) (fun _ hk => hk.2) (.int .i64 t1153)) (fun _ hk => hk.2) (.int .i64 t1154)) (fun _ hk => hk.2) (.string t1155)) (fun _ hk => hk.2) (.int .i64 t1156)) (fun _ hk => hk.2) (.bool t1157)) (fun _ hk => hk.2) (.slice Ao41 t1158.length co41)) (fun _ hk => hk.2) (.slice Ao42 t1161.length co42)) (fun _ h_ => h_.1))) hb); replace BK1115 := am (blk_below (g := gb1115) (o := .cells #[.int .i64 a0_0, .int .i64 a0_1, .string a0_2, .int .i64 a0_3, .bool a0_4, .slice A0_5 l0_5.length c0_5, .slice A0_6 l0_6.length c0_6] 56 (0, 0)) (by (with_reducible repeat (first | refine blk_drewN ?_ _ | refine blk_drew ?_ | refine blk_alloc ?_ _)); refine blk_far ?_ NB1115_1165.out _; (with_reducible repeat (first | refine blk_drewN ?_ _ | refine blk_drew ?_ | refine blk_alloc ?_ _)); refine blk_far ?_ NB1115_1165.out _; (with_reducible repeat (first | refine blk_drewN ?_ _ | refine blk_drew ?_ | refine blk_alloc ?_ _)); refine blk_far ?_ NB1115_1165.out _; (with_reducible repeat (first | refine blk_drewN ?_ _ | refine blk_drew ?_ | refine blk_alloc ?_ _)); refine blk_far ?_ NB1115_1165.out _; (with_reducible repeat (first | refine blk_drewN ?_ _ | refine blk_drew ?_ | refine blk_alloc ?_ _)); refine blk_far ?_ NB1115_1165.out _; (with_reducible repeat (first | refine blk_drewN ?_ _ | refine blk_drew ?_ | refine blk_alloc ?_ _)); refine blk_far ?_ NB1115_1165.out _; (with_reducible repeat (first | refine blk_drewN ?_ _ | refine blk_drew ?_ | refine blk_alloc ?_ _)); refine blk_far ?_ NB1115_1165.out _; exact pkK BK1115.out) hb); replace BK1140 := am (blk_below (g := gb1140) (o := .cells #[.int .i64 t1128, .int .i64 t1129, .string t1130, .int .i64 t1131, .bool t1132, .slice Ao25 t1133.length co25, .slice Ao26 t1136.length co26] 29 (0, 0)) (by (with_reducible repeat (first | refine blk_drewN ?_ _ | refine blk_drew ?_ | refine blk_alloc ?_ _)); refine blk_far ?_ NB1140_1165.out _; (with_reducible repeat (first | refine blk_drewN ?_ _ | refine blk_drew ?_ | refine blk_alloc ?_ _)); refine blk_far ?_ NB1140_1165.out _; (with_reducible repeat (first | refine blk_drewN ?_ _ | refine blk_drew ?_ | refine blk_alloc ?_ _)); refine blk_far ?_ NB1140_1165.out _; (with_reducible repeat (first | refine blk_drewN ?_ _ | refine blk_drew ?_ | refine blk_alloc ?_ _)); refine blk_far ?_ NB1140_1165.out _; (with_reducible repeat (first | refine blk_drewN ?_ _ | refine blk_drew ?_ | refine blk_alloc ?_ _)); refine blk_far ?_ NB1140_1165.out _; (with_reducible repeat (first | refine blk_drewN ?_ _ | refine blk_drew ?_ | refine blk_alloc ?_ _)); refine blk_far ?_ NB1140_1165.out _; (with_reducible repeat (first | refine blk_drewN ?_ _ | refine blk_drew ?_ | refine blk_alloc ?_ _)); refine blk_far ?_ NB1140_1165.out _; exact pkK BK1140.out) hb); replace BK1152 := am (blk_below (g := gb1152) (o := .cells #[.int .i64 t1141, .int .i64 t1142, .string t1143, .int .i64 t1144, .bool t1145, .slice Ao33 t1146.length co33, .slice Ao34 t1149.length co34] 29 (0, 0)) (by (with_reducible repeat (first | refine blk_drewN ?_ _ | refine blk_drew ?_ | refine blk_alloc ?_ _)); refine blk_far ?_ NB1152_1165.out _; (with_reducible repeat (first | refine blk_drewN ?_ _ | refine blk_drew ?_ | refine blk_alloc ?_ _)); refine blk_far ?_ NB1152_1165.out _; (with_reducible repeat (first | refine blk_drewN ?_ _ | refine blk_drew ?_ | refine blk_alloc ?_ _)); refine blk_far ?_ NB1152_1165.out _; (with_reducible repeat (first | refine blk_drewN ?_ _ | refine blk_drew ?_ | refine blk_alloc ?_ _)); refine blk_far ?_ NB1152_1165.out _; (with_reducible repeat (first | refine blk_drewN ?_ _ | refine blk_drew ?_ | refine blk_alloc ?_ _)); refine blk_far ?_ NB1152_1165.out _; (with_reducible repeat (first | refine blk_drewN ?_ _ | refine blk_drew ?_ | refine blk_alloc ?_ _)); refine blk_far ?_ NB1152_1165.out _; (with_reducible repeat (first | refine blk_drewN ?_ _ | refine blk_drew ?_ | refine blk_alloc ?_ _)); refine blk_far ?_ NB1152_1165.out _; exact pkK BK1152.out) hb); replace BK1165 := am (blk_below (g := gb1165) (o := .cells #[.int .i64 t1153, .int .i64 t1154, .string t1155, .int .i64 t1156, .bool t1157, .slice Ao41 t1158.length co41, .slice Ao42 t1161.length co42] 29 (0, 0)) (by (with_reducible repeat (first | refine blk_drewN ?_ _ | refine blk_drew ?_ | refine blk_alloc ?_ _)); refine blk_put (cs := #[.int .i64 t1153, .int .i64 t1154, .string t1155, .int .i64 t1156, .bool t1157, .slice Ao41 t1158.length co41, .slice none 0 0]) ?_ 6 _ rfl; (with_reducible repeat (first | refine blk_drewN ?_ _ | refine blk_drew ?_ | refine blk_alloc ?_ _)); refine blk_put (cs := #[.int .i64 t1153, .int .i64 t1154, .string t1155, .int .i64 t1156, .bool t1157, .slice none 0 0, .slice none 0 0]) ?_ 5 _ rfl; (with_reducible repeat (first | refine blk_drewN ?_ _ | refine blk_drew ?_ | refine blk_alloc ?_ _)); refine blk_put (cs := #[.int .i64 t1153, .int .i64 t1154, .string t1155, .int .i64 t1156, .bool false, .slice none 0 0, .slice none 0 0]) ?_ 4 _ rfl; (with_reducible repeat (first | refine blk_drewN ?_ _ | refine blk_drew ?_ | refine blk_alloc ?_ _)); refine blk_put (cs := #[.int .i64 t1153, .int .i64 t1154, .string t1155, .int .i64 0, .bool false, .slice none 0 0, .slice none 0 0]) ?_ 3 _ rfl; (with_reducible repeat (first | refine blk_drewN ?_ _ | refine blk_drew ?_ | refine blk_alloc ?_ _)); refine blk_put (cs := #[.int .i64 t1153, .int .i64 t1154, .string (⟨#[]⟩ : ByteArray), .int .i64 0, .bool false, .slice none 0 0, .slice none 0 0]) ?_ 2 _ rfl; (with_reducible repeat (first | refine blk_drewN ?_ _ | refine blk_drew ?_ | refine blk_alloc ?_ _)); refine blk_put (cs := #[.int .i64 t1153, .int .i64 0, .string (⟨#[]⟩ : ByteArray), .int .i64 0, .bool false, .slice none 0 0, .slice none 0 0]) ?_ 1 _ rfl; (with_reducible repeat (first | refine blk_drewN ?_ _ | refine blk_drew ?_ | refine blk_alloc ?_ _)); refine blk_put (cs := #[.int .i64 0, .int .i64 0, .string (⟨#[]⟩ : ByteArray), .int .i64 0, .bool false, .slice none 0 0, .slice none 0 0]) ?_ 0 _ rfl; exact pkK BK1165.out) hb); replace HB := am (below_step (pkW HB.out) hb); (try clear hb)))
    go_meet
    case rel => exact ⟨_, ((t1164 != t1139)), rfx, H', ⟨by first | omega | exact Nat.le_refl _⟩, ⟨by (with_reducible repeat (first | apply Kd.R_alloc | apply Kd.R_drewN | apply Kd.R_drew)); exact Kd.R_mono HO1135.out (fun _ hk => ⟨hk.1.1.1.1.1.1, ⟨hk.1.1.1.2, ⟨hk.1.1.2, ⟨hk.1.2, hk.2⟩⟩⟩⟩)⟩, ⟨by (with_reducible repeat (first | apply Kd.R_alloc | apply Kd.R_drewN | apply Kd.R_drew)); exact Kd.R_mono HO1138.out (fun _ hk => ⟨hk.1.1.1.1.1.1, ⟨hk.1.1.1.2, ⟨hk.1.1.2, ⟨hk.1.2, hk.2⟩⟩⟩⟩)⟩, ⟨by (with_reducible repeat (first | apply Kd.R_alloc | apply Kd.R_drewN | apply Kd.R_drew)); exact Kd.R_mono HO1148.out (fun _ hk => ⟨hk.1.1.1.2, ⟨hk.1.1.2, ⟨hk.1.1.1.1.1.1, ⟨hk.1.2, hk.2⟩⟩⟩⟩)⟩, ⟨by (with_reducible repeat (first | apply Kd.R_alloc | apply Kd.R_drewN | apply Kd.R_drew)); exact Kd.R_mono HO1151.out (fun _ hk => ⟨hk.1.1.1.2, ⟨hk.1.1.2, ⟨hk.1.1.1.1.1.1, ⟨hk.1.2, hk.2⟩⟩⟩⟩)⟩, ⟨by (with_reducible repeat (first | apply Kd.R_alloc | apply Kd.R_drewN | apply Kd.R_drew)); exact Kd.R_mono HO1160.out (fun _ hk => ⟨hk.1.1.1.2, ⟨hk.1.1.2, ⟨hk.1.2, ⟨hk.2, hk.1.1.1.1.1.1⟩⟩⟩⟩)⟩, ⟨by (with_reducible repeat (first | apply Kd.R_alloc | apply Kd.R_drewN | apply Kd.R_drew)); exact Kd.R_mono HO1163.out (fun _ hk => ⟨hk.1.1.1.2, ⟨hk.1.1.2, ⟨hk.1.2, ⟨hk.2, hk.1.1.1.1.1.1⟩⟩⟩⟩)⟩, ⟨pkK BK1115.out⟩, ⟨pkK BK1140.out⟩, ⟨pkK BK1152.out⟩, ⟨pkK BK1165.out⟩, ⟨pkW HB.out⟩⟩
   ·replace c44 := Bool.eq_false_iff.mpr c44
    subst c44
    replace H : (laws_FnExactWatch.j0 k a1 a2 t1139 t1164 true a0_0 a0_1 a0_2 a0_3 a0_4 l0_5 l0_6 t1128 t1129 t1130 t1131 t1132 t1133 t1136 t1141 t1142 t1143 t1144 t1145 t1146 t1149 t1153 t1154 t1155 t1156 t1157 t1158 t1161) = some r := by rw [if_neg (show ¬ (false = true) by decide)] at H; exact H
    cases k with
    | zero => exact absurd H (by simp [laws_FnExactWatch.j0])
    | succ k_ => (simp only [laws_FnExactWatch.j0, if_pos] at H; exact absurd (Option.some.inj H) (by rw [HQ_.out]; simp))
  case rest =>
   clear HC13
   try clear c1
   try clear c2
   try clear p2
   try clear c3
   try clear c4
   try clear c5
   try clear c5b0
   try clear c12
   try clear c20
   try clear c23
   try clear c30
   try clear c31
   try clear c32
   try clear c34
   try clear c37
   try clear c38
   try clear c39
   try clear c44
   try clear c45
   try clear c46
   try clear c47
   try clear c49
   try clear c50
   try clear hcz15_0
   try clear hcz15_1
   try clear hcz15_2
   try clear hcz15_3
   try clear hcz15_4
   try clear hcz15_5
   try clear hcz15_6
   try clear hcz17_0
   try clear hcz17_1
   try clear hcz17_2
   try clear hcz17_3
   try clear hcz17_4
   try clear hcz17_5
   try clear hcz17_6
   try clear hcz24_0
   try clear hcz24_1
   try clear hcz24_2
   try clear hcz24_3
   try clear hcz24_4
   try clear hcz24_5
   try clear hcz24_6
   try clear hcz27_0
   try clear hcz27_1
   try clear hcz27_2
   try clear hcz27_3
   try clear hcz27_4
   try clear hcz27_5
   try clear hcz27_6
   try clear hcz32_0
   try clear hcz32_1
   try clear hcz32_2
   try clear hcz32_3
   try clear hcz32_4
   try clear hcz32_5
   try clear hcz32_6
   try clear hcz40_0
   try clear hcz40_1
   try clear hcz40_2
   try clear hcz40_3
   try clear hcz40_4
   try clear hcz40_5
   try clear hcz40_6
   try clear hcz48_0
   try clear hcz48_1
   try clear hcz48_2
   try clear hcz48_3
   try clear hcz48_4
   try clear hcz48_5
   try clear hcz48_6
   try clear hcz51_0
   try clear hcz51_1
   try clear hcz51_2
   try clear hcz51_3
   try clear hcz51_4
   try clear hcz51_5
   try clear hcz51_6
   try clear hcz7_0
   try clear hcz7_1
   try clear hcz7_2
   try clear hcz7_3
   try clear hcz7_4
   try clear hcz7_5
   try clear hcz7_6
   try clear hfz15_0
   try clear hfz15_1
   try clear hfz15_2
   try clear hfz15_3
   try clear hfz15_4
   try clear hfz15_5
   try clear hfz15_6
   try clear hfz17_0
   try clear hfz17_1
   try clear hfz17_2
   try clear hfz17_3
   try clear hfz17_4
   try clear hfz17_5
   try clear hfz17_6
   try clear hfz24_0
   try clear hfz24_1
   try clear hfz24_2
   try clear hfz24_3
   try clear hfz24_4
   try clear hfz24_5
   try clear hfz24_6
   try clear hfz27_0
   try clear hfz27_1
   try clear hfz27_2
   try clear hfz27_3
   try clear hfz27_4
   try clear hfz27_5
   try clear hfz27_6
   try clear hfz32_0
   try clear hfz32_1
   try clear hfz32_2
   try clear hfz32_3
   try clear hfz32_4
   try clear hfz32_5
   try clear hfz32_6
   try clear hfz40_0
   try clear hfz40_1
   try clear hfz40_2
   try clear hfz40_3
   try clear hfz40_4
   try clear hfz40_5
   try clear hfz40_6
   try clear hfz48_0
   try clear hfz48_1
   try clear hfz48_2
   try clear hfz48_3
   try clear hfz48_4
   try clear hfz48_5
   try clear hfz48_6
   try clear hfz51_0
   try clear hfz51_1
   try clear hfz51_2
   try clear hfz51_3
   try clear hfz51_4
   try clear hfz51_5
   try clear hfz51_6
   try clear hfz7_0
   try clear hfz7_1
   try clear hfz7_2
   try clear hfz7_3
   try clear hfz7_4
   try clear hfz7_5
   try clear hfz7_6
   obtain ⟨kq, x48_12, rfl, HA, HJ12, HO_1141005, HO_1141006, HO_1153005, HO_1153006, HO_1166005, HO_1166006, BK1115, BK1140, BK1152, BK1165, HB⟩ := hcut
   cases kq with
   | zero => exact absurd HA.out (by simp [laws_FnExactWatch.j0])
   | succ kj12 =>
    have H := HA.out
    clear HA
    simp only [laws_FnExactWatch.j0] at H
    by_cases c53 : x48_12 = true
    ·subst c53
     replace H : (some false) = some r := by rw [if_pos rfl] at H; exact H
     exact absurd (Option.some.inj H) (by rw [HQ_.out]; simp)
    ·replace c53 := Bool.eq_false_iff.mpr c53
     subst c53
     replace H : ((laws_toCell.f kj12 a0_0 a0_1 a0_2 a0_3 a0_4 l0_5 l0_6).bind fun bt1167 => ((laws_eqCell.f kj12 t1141 t1142 t1143 t1144 t1145 t1146 t1149 bt1167.1 bt1167.2.1 bt1167.2.2.1 bt1167.2.2.2.1 bt1167.2.2.2.2.1 bt1167.2.2.2.2.2.1 bt1167.2.2.2.2.2.2).bind fun t1178 => (if t1178 = true then ((laws_markCell.f kj12 t1141 t1142 t1143 t1144 t1145 t1146 t1149 1).bind fun bt1179 => (if bt1179.1 < 0 then (laws_FnExactWatch.j1 kj12 a1 a2 t1139 true a0_0 a0_1 a0_2 a0_3 a0_4 l0_5 l0_6 t1128 t1129 t1130 t1131 t1132 t1133 t1136 t1153 t1154 t1155 t1156 t1157 t1158 t1161) else ((laws_eqCell.f kj12 t1153 t1154 t1155 t1156 t1157 t1158 t1161 t1128 t1129 t1130 t1131 t1132 t1133 t1136).bind fun t1182 => (if t1182 = true then (laws_FnExactWatch.j1 kj12 a1 a2 t1139 (t1164 != t1139) a0_0 a0_1 a0_2 a0_3 a0_4 l0_5 l0_6 t1128 t1129 t1130 t1131 t1132 t1133 t1136 t1153 t1154 t1155 t1156 t1157 t1158 t1161) else (laws_FnExactWatch.j1 kj12 a1 a2 t1139 true a0_0 a0_1 a0_2 a0_3 a0_4 l0_5 l0_6 t1128 t1129 t1130 t1131 t1132 t1133 t1136 t1153 t1154 t1155 t1156 t1157 t1158 t1161))))) else (some false)))) = some r := by rw [if_neg (show ¬ (false = true) by decide)] at H; exact H
     replace H := Option.bind_eq_some_iff.mp H
     obtain ⟨⟨t1167, t1168, t1169, t1170, t1171, t1172, t1175⟩, A540, H⟩ := H
     replace H : ((laws_eqCell.f kj12 t1141 t1142 t1143 t1144 t1145 t1146 t1149 t1167 t1168 t1169 t1170 t1171 t1172 t1175).bind fun t1178 => (if t1178 = true then ((laws_markCell.f kj12 t1141 t1142 t1143 t1144 t1145 t1146 t1149 1).bind fun bt1179 => (if bt1179.1 < 0 then (laws_FnExactWatch.j1 kj12 a1 a2 t1139 true a0_0 a0_1 a0_2 a0_3 a0_4 l0_5 l0_6 t1128 t1129 t1130 t1131 t1132 t1133 t1136 t1153 t1154 t1155 t1156 t1157 t1158 t1161) else ((laws_eqCell.f kj12 t1153 t1154 t1155 t1156 t1157 t1158 t1161 t1128 t1129 t1130 t1131 t1132 t1133 t1136).bind fun t1182 => (if t1182 = true then (laws_FnExactWatch.j1 kj12 a1 a2 t1139 (t1164 != t1139) a0_0 a0_1 a0_2 a0_3 a0_4 l0_5 l0_6 t1128 t1129 t1130 t1131 t1132 t1133 t1136 t1153 t1154 t1155 t1156 t1157 t1158 t1161) else (laws_FnExactWatch.j1 kj12 a1 a2 t1139 true a0_0 a0_1 a0_2 a0_3 a0_4 l0_5 l0_6 t1128 t1129 t1130 t1131 t1132 t1133 t1136 t1153 t1154 t1155 t1156 t1157 t1158 t1161))))) else (some false))) = some r := H
     have A54 := am A540
     clear A540
     replace H := Option.bind_eq_some_iff.mp H
     obtain ⟨t1178, A550, H⟩ := H
     replace H : (if t1178 = true then ((laws_markCell.f kj12 t1141 t1142 t1143 t1144 t1145 t1146 t1149 1).bind fun bt1179 => (if bt1179.1 < 0 then (laws_FnExactWatch.j1 kj12 a1 a2 t1139 true a0_0 a0_1 a0_2 a0_3 a0_4 l0_5 l0_6 t1128 t1129 t1130 t1131 t1132 t1133 t1136 t1153 t1154 t1155 t1156 t1157 t1158 t1161) else ((laws_eqCell.f kj12 t1153 t1154 t1155 t1156 t1157 t1158 t1161 t1128 t1129 t1130 t1131 t1132 t1133 t1136).bind fun t1182 => (if t1182 = true then (laws_FnExactWatch.j1 kj12 a1 a2 t1139 (t1164 != t1139) a0_0 a0_1 a0_2 a0_3 a0_4 l0_5 l0_6 t1128 t1129 t1130 t1131 t1132 t1133 t1136 t1153 t1154 t1155 t1156 t1157 t1158 t1161) else (laws_FnExactWatch.j1 kj12 a1 a2 t1139 true a0_0 a0_1 a0_2 a0_3 a0_4 l0_5 l0_6 t1128 t1129 t1130 t1131 t1132 t1133 t1136 t1153 t1154 t1155 t1156 t1157 t1158 t1161))))) else (some false)) = some r := H
     have A55 := am A550
     clear A550
     by_cases c56 : t1178 = true
     ·subst c56
      replace H : ((laws_markCell.f kj12 t1141 t1142 t1143 t1144 t1145 t1146 t1149 1).bind fun bt1179 => (if bt1179.1 < 0 then (laws_FnExactWatch.j1 kj12 a1 a2 t1139 true a0_0 a0_1 a0_2 a0_3 a0_4 l0_5 l0_6 t1128 t1129 t1130 t1131 t1132 t1133 t1136 t1153 t1154 t1155 t1156 t1157 t1158 t1161) else ((laws_eqCell.f kj12 t1153 t1154 t1155 t1156 t1157 t1158 t1161 t1128 t1129 t1130 t1131 t1132 t1133 t1136).bind fun t1182 => (if t1182 = true then (laws_FnExactWatch.j1 kj12 a1 a2 t1139 (t1164 != t1139) a0_0 a0_1 a0_2 a0_3 a0_4 l0_5 l0_6 t1128 t1129 t1130 t1131 t1132 t1133 t1136 t1153 t1154 t1155 t1156 t1157 t1158 t1161) else (laws_FnExactWatch.j1 kj12 a1 a2 t1139 true a0_0 a0_1 a0_2 a0_3 a0_4 l0_5 l0_6 t1128 t1129 t1130 t1131 t1132 t1133 t1136 t1153 t1154 t1155 t1156 t1157 t1158 t1161))))) = some r := by rw [if_pos rfl] at H; exact H
      replace H := Option.bind_eq_some_iff.mp H
      obtain ⟨⟨t1179, t1180, t1181⟩, A570, H⟩ := H
      replace H : (if t1179 < 0 then (laws_FnExactWatch.j1 kj12 a1 a2 t1139 true a0_0 a0_1 a0_2 a0_3 a0_4 l0_5 l0_6 t1128 t1129 t1130 t1131 t1132 t1133 t1136 t1153 t1154 t1155 t1156 t1157 t1158 t1161) else ((laws_eqCell.f kj12 t1153 t1154 t1155 t1156 t1157 t1158 t1161 t1128 t1129 t1130 t1131 t1132 t1133 t1136).bind fun t1182 => (if t1182 = true then (laws_FnExactWatch.j1 kj12 a1 a2 t1139 (t1164 != t1139) a0_0 a0_1 a0_2 a0_3 a0_4 l0_5 l0_6 t1128 t1129 t1130 t1131 t1132 t1133 t1136 t1153 t1154 t1155 t1156 t1157 t1158 t1161) else (laws_FnExactWatch.j1 kj12 a1 a2 t1139 true a0_0 a0_1 a0_2 a0_3 a0_4 l0_5 l0_6 t1128 t1129 t1130 t1131 t1132 t1133 t1136 t1153 t1154 t1155 t1156 t1157 t1158 t1161)))) = some r := H
      have A57 := am A570
      clear A570
      have HC58 := am H
      clear H
      try go_wp2
      replace HO_1141005 := am (Kd.R_drew HO_1141005.out)
      replace HO_1141006 := am (Kd.R_drew HO_1141006.out)
      replace HO_1153005 := am (Kd.R_drew HO_1153005.out)
      replace HO_1153006 := am (Kd.R_drew HO_1153006.out)
      replace HO_1166005 := am (Kd.R_drew HO_1166005.out)
      replace HO_1166006 := am (Kd.R_drew HO_1166006.out)
      replace BK1115 := am (blk_drew BK1115.out)
      replace BK1140 := am (blk_drew BK1140.out)
      replace BK1152 := am (blk_drew BK1152.out)
      replace BK1165 := am (blk_drew BK1165.out)
      replace HB := am (below_drew1 HB.out)
      refine start_ (n := 5) (S := fun w' => w'.cell? ⟨gb1152, 0, none⟩ = some (.int .i64 t1141) ∧ w'.cell? ⟨gb1152, 1, none⟩ = some (.int .i64 t1142) ∧ w'.cell? ⟨gb1152, 2, none⟩ = some (.string t1143) ∧ w'.cell? ⟨gb1152, 3, none⟩ = some (.int .i64 t1144) ∧ w'.cell? ⟨gb1152, 4, none⟩ = some (.bool t1145) ∧ w'.cell? ⟨gb1152, 5, none⟩ = some (.slice Ao33 t1146.length co33) ∧ w'.cell? ⟨gb1152, 6, none⟩ = some (.slice Ao34 t1149.length co34) ∧ w'.cell? ⟨gb1115, 0, none⟩ = some (.int .i64 a0_0) ∧ w'.cell? ⟨gb1115, 1, none⟩ = some (.int .i64 a0_1) ∧ w'.cell? ⟨gb1115, 2, none⟩ = some (.string a0_2) ∧ w'.cell? ⟨gb1115, 3, none⟩ = some (.int .i64 a0_3) ∧ w'.cell? ⟨gb1115, 4, none⟩ = some (.bool a0_4) ∧ w'.cell? ⟨gb1115, 5, none⟩ = some (.slice A0_5 l0_5.length c0_5) ∧ w'.cell? ⟨gb1115, 6, none⟩ = some (.slice A0_6 l0_6.length c0_6)) (ds := []) #[false, false, false, false, false] (by kernel_rfl) rfl rfl ⟨(blk_cell BK1152.out 0).trans rfl, (blk_cell BK1152.out 1).trans rfl, (blk_cell BK1152.out 2).trans rfl, (blk_cell BK1152.out 3).trans rfl, (blk_cell BK1152.out 4).trans rfl, (blk_cell BK1152.out 5).trans rfl, (blk_cell BK1152.out 6).trans rfl, (blk_cell BK1115.out 0).trans rfl, (blk_cell BK1115.out 1).trans rfl, (blk_cell BK1115.out 2).trans rfl, (blk_cell BK1115.out 3).trans rfl, (blk_cell BK1115.out 4).trans rfl, (blk_cell BK1115.out 5).trans rfl, (blk_cell BK1115.out 6).trans rfl⟩ (fun hHeld => ?_)
      generalize wc.drew = w59 at HO_1141005 HO_1141006 HO_1153005 HO_1153006 HO_1166005 HO_1166006 BK1115 BK1140 BK1152 BK1165 HB hHeld ⊢
      refine take_ (i := 0) (N := some 49) (v := ?_) (a' := ?_) #[true, false, false, false, false] rfl rfl (by kernel_rfl) (fun _ _ _ h => h) (Or.inl ⟨by rfl, ?_⟩) hHeld ?_ ?_
      rotate_left
      ·rintro w' ⟨s0, s1, s2, s3, s4, s5, s6, s7, s8, s9, s10, s11, s12, s13⟩
       go_simp
       with_reducible rfl
      rotate_left
      ·simp only [Act.put, List.setIfInBounds_toArray, List.set_cons_zero, List.set_cons_succ, i64_w, i32_w]
       rfl
      refine take_ (i := 1) (N := some 50) (v := ?_) (a' := ?_) #[true, true, false, false, false] rfl rfl (by kernel_rfl) (fun _ _ _ h => h) (Or.inl ⟨by rfl, ?_⟩) hHeld ?_ ?_
      rotate_left
      ·rintro w' ⟨s0, s1, s2, s3, s4, s5, s6, s7, s8, s9, s10, s11, s12, s13⟩
       go_simp
       with_reducible rfl
      rotate_left
      ·simp only [Act.put, List.setIfInBounds_toArray, List.set_cons_zero, List.set_cons_succ, i64_w, i32_w]
       rfl
      refine one_ (i := 2) (N := some 51) #[true, true, true, false, false] rfl rfl (by kernel_rfl) (by decide) (fun K hK => ?_)
      refine goes_ Try.func32 (by kernel_rfl) rfl #[.agg #[.int .i64 a0_0, .int .i64 a0_1, .string a0_2, .int .i64 a0_3, .bool a0_4, .slice A0_5 l0_5.length c0_5, .slice A0_6 l0_6.length c0_6]] (by rfl) rfl rfl mpx ?_
      with_reducible refine (laws_toCell.calls kj12 a0_0 a0_1 a0_2 a0_3 a0_4 _ _ l0_5 _ _ l0_6 t1167 t1168 t1169 t1170 t1171 t1172 t1175 _ ?side1 ?side2 ?side3 ?side4 A54.out).mono ?_
      (case side1 => exact pkC (Kd.C_below HR0_5.out HB.out))
      (case side2 => exact HC0_5.out)
      (case side3 => exact pkC (Kd.C_below HR0_6.out HB.out))
      (case side4 => exact HC0_6.out)
      rintro e w60 ⟨v1173, v1176, rfl, ho0, ho1, hb⟩
      refine ⟨_, rfl, ?_⟩
      have HO1174 := am (Kd.R_lower (Kd.R_new' (Kd.R_new' (Kd.R_new' (Kd.R_new' (Kd.R_new' (Kd.R_new' ho0 (Kd.R_lt (pkR HO_1141005.out))) (Kd.R_lt (pkR HO_1141006.out))) (Kd.R_lt (pkR HO_1153005.out))) (Kd.R_lt (pkR HO_1153006.out))) (Kd.R_lt (pkR HO_1166005.out))) (Kd.R_lt (pkR HO_1166006.out))) (below_size (pkW HB.out)))
      have HO1177 := am (Kd.R_lower (Kd.R_new' (Kd.R_new' (Kd.R_new' (Kd.R_new' (Kd.R_new' (Kd.R_new' ho1 (Kd.R_lt (pkR HO_1141005.out))) (Kd.R_lt (pkR HO_1141006.out))) (Kd.R_lt (pkR HO_1153005.out))) (Kd.R_lt (pkR HO_1153006.out))) (Kd.R_lt (pkR HO_1166005.out))) (Kd.R_lt (pkR HO_1166006.out))) (below_size (pkW HB.out)))
      replace HO_1141005 := am (Kd.R_mono (Kd.R_told (Kd.R_told (Kd.R_old (pkR HO_1141005.out) hb) (Kd.R_base ho0)) (Kd.R_base ho1)) (fun _ h_ => h_.1))
      replace HO_1141006 := am (Kd.R_mono (Kd.R_told (Kd.R_told (Kd.R_old (pkR HO_1141006.out) hb) (Kd.R_base ho0)) (Kd.R_base ho1)) (fun _ h_ => h_.1))
      replace HO_1153005 := am (Kd.R_mono (Kd.R_told (Kd.R_told (Kd.R_old (pkR HO_1153005.out) hb) (Kd.R_base ho0)) (Kd.R_base ho1)) (fun _ h_ => h_.1))
      replace HO_1153006 := am (Kd.R_mono (Kd.R_told (Kd.R_told (Kd.R_old (pkR HO_1153006.out) hb) (Kd.R_base ho0)) (Kd.R_base ho1)) (fun _ h_ => h_.1))
      replace HO_1166005 := am (Kd.R_mono (Kd.R_told (Kd.R_told (Kd.R_old (pkR HO_1166005.out) hb) (Kd.R_base ho0)) (Kd.R_base ho1)) (fun _ h_ => h_.1))
      replace HO_1166006 := am (Kd.R_mono (Kd.R_told (Kd.R_told (Kd.R_old (pkR HO_1166006.out) hb) (Kd.R_base ho0)) (Kd.R_base ho1)) (fun _ h_ => h_.1))
      replace BK1115 := am (blk_below (pkK BK1115.out) hb)
      replace BK1140 := am (blk_below (pkK BK1140.out) hb)
      replace BK1152 := am (blk_below (pkK BK1152.out) hb)
      replace BK1165 := am (blk_below (pkK BK1165.out) hb)
      replace HB := am (below_step (pkW HB.out) hb)
      (try clear hb); (try clear ho0 ho1)
      obtain ⟨Ao61, co61, eo61⟩ := Kd.R_slice HO1174.out
      (first | subst eo61 | (injection eo61 with f1_ f2_ f3_; have f4_ := f1_.symm; have f5_ := f3_.symm; clear f1_ f2_ f3_; subst f4_; subst f5_))
      obtain ⟨Ao62, co62, eo62⟩ := Kd.R_slice HO1177.out
      (first | subst eo62 | (injection eo62 with f1_ f2_ f3_; have f4_ := f1_.symm; have f5_ := f3_.symm; clear f1_ f2_ f3_; subst f4_; subst f5_))
      refine hK.out _ _ ⟨(blk_cell BK1152.out 0).trans rfl, (blk_cell BK1152.out 1).trans rfl, (blk_cell BK1152.out 2).trans rfl, (blk_cell BK1152.out 3).trans rfl, (blk_cell BK1152.out 4).trans rfl, (blk_cell BK1152.out 5).trans rfl, (blk_cell BK1152.out 6).trans rfl, (blk_cell BK1115.out 0).trans rfl, (blk_cell BK1115.out 1).trans rfl, (blk_cell BK1115.out 2).trans rfl, (blk_cell BK1115.out 3).trans rfl, (blk_cell BK1115.out 4).trans rfl, (blk_cell BK1115.out 5).trans rfl, (blk_cell BK1115.out 6).trans rfl⟩ (fun hHeld => ?_)
      clear hK K
      refine norm_ (a' := ?_) ?_ ?_
      rotate_left
      ·show Act.put _ (some 51) _ = _
       simp only [Act.put, List.setIfInBounds_toArray, List.set_cons_zero, List.set_cons_succ, i64_w, i32_w]
       rfl
      refine one_ (i := 3) (N := some 52) #[true, true, true, true, false] rfl rfl (by kernel_rfl) (by decide) (fun K hK => ?_)
      refine goes_ Try.func34 (by kernel_rfl) rfl #[.agg #[.int .i64 t1141, .int .i64 t1142, .string t1143, .int .i64 t1144, .bool t1145, .slice Ao33 t1146.length co33, .slice Ao34 t1149.length co34], .agg #[.int .i64 t1167, .int .i64 t1168, .string t1169, .int .i64 t1170, .bool t1171, .slice Ao61 t1172.length co61, .slice Ao62 t1175.length co62]] (by rfl) rfl rfl mpx ?_
      with_reducible refine (laws_eqCell.calls kj12 t1141 t1142 t1143 t1144 t1145 _ _ t1146 _ _ t1149 t1167 t1168 t1169 t1170 t1171 _ _ t1172 _ _ t1175 true _ ?side1 ?side2 ?side3 ?side4 ?side5 ?side6 ?side7 ?side8 A55.out).mono ?_
      (case side1 => exact pkC (Kd.R_reads' HO_1153005.out).2.2)
      (case side2 => exact (Kd.R_reads' HO_1153005.out).2.1)
      (case side3 => exact pkC (Kd.R_reads' HO_1153006.out).2.2)
      (case side4 => exact (Kd.R_reads' HO_1153006.out).2.1)
      (case side5 => exact pkC (Kd.R_reads' HO1174.out).2.2)
      (case side6 => exact (Kd.R_reads' HO1174.out).2.1)
      (case side7 => exact pkC (Kd.R_reads' HO1177.out).2.2)
      (case side8 => exact (Kd.R_reads' HO1177.out).2.1)
      rintro e w63 ⟨rfl, hb⟩
      refine ⟨_, rfl, ?_⟩
      replace HO_1141005 := am (Kd.R_below (pkR HO_1141005.out) hb)
      replace HO_1141006 := am (Kd.R_below (pkR HO_1141006.out) hb)
      replace HO_1153005 := am (Kd.R_below (pkR HO_1153005.out) hb)
      replace HO_1153006 := am (Kd.R_below (pkR HO_1153006.out) hb)
      replace HO_1166005 := am (Kd.R_below (pkR HO_1166005.out) hb)
      replace HO_1166006 := am (Kd.R_below (pkR HO_1166006.out) hb)
      replace HO1174 := am (Kd.R_below (pkR HO1174.out) hb)
      replace HO1177 := am (Kd.R_below (pkR HO1177.out) hb)
      replace BK1115 := am (blk_below (pkK BK1115.out) hb)
      replace BK1140 := am (blk_below (pkK BK1140.out) hb)
      replace BK1152 := am (blk_below (pkK BK1152.out) hb)
      replace BK1165 := am (blk_below (pkK BK1165.out) hb)
      replace HB := am (below_step (pkW HB.out) hb)
      (try clear hb)
      refine hK.out _ _ ⟨(blk_cell BK1152.out 0).trans rfl, (blk_cell BK1152.out 1).trans rfl, (blk_cell BK1152.out 2).trans rfl, (blk_cell BK1152.out 3).trans rfl, (blk_cell BK1152.out 4).trans rfl, (blk_cell BK1152.out 5).trans rfl, (blk_cell BK1152.out 6).trans rfl, (blk_cell BK1115.out 0).trans rfl, (blk_cell BK1115.out 1).trans rfl, (blk_cell BK1115.out 2).trans rfl, (blk_cell BK1115.out 3).trans rfl, (blk_cell BK1115.out 4).trans rfl, (blk_cell BK1115.out 5).trans rfl, (blk_cell BK1115.out 6).trans rfl⟩ (fun hHeld => ?_)
      clear hK K
      refine norm_ (a' := ?_) ?_ ?_
      rotate_left
      ·show Act.put _ (some 52) _ = _
       simp only [Act.put, List.setIfInBounds_toArray, List.set_cons_zero, List.set_cons_succ, i64_w, i32_w]
       rfl
      refine pure_ (i := 4) (N := some 53) (v := ?_) (a' := ?_) #[true, true, true, true, true] rfl rfl (by kernel_rfl) (fun _ _ _ h => h) (Or.inl ⟨by rfl, ?_⟩) ?_ ?_
      rotate_left
      ·intro w'
       go_simp
       with_reducible rfl
      rotate_left
      ·simp only [Act.put, List.setIfInBounds_toArray, List.set_cons_zero, List.set_cons_succ, i64_w, i32_w]
       rfl
      refine done_ (by kernel_rfl) ?_
      have hnb64 := NB1152_1115.out
      have hnc64 := NB1115_1152.out
      have hnb65 := NB1152_1140.out
      have hnc65 := NB1140_1152.out
      have hnb66 := NB1152_1165.out
      have hnc66 := NB1165_1152.out
      obtain ⟨hcz67_0, hcz67_1, hcz67_2, hcz67_3, hcz67_4, hcz67_5, hcz67_6, hfz67_0, hfz67_1, hfz67_2, hfz67_3, hfz67_4, hfz67_5, hfz67_6⟩ := bk7 BK1152.out
      go_upto_region 14 with (first | ((with_reducible refine gate_callee (f := 48) rfl ?_); refine goesL_ (some 56) rfl rfl Try.func48 (by kernel_rfl) rfl #[.agg #[.int .i64 t1141, .int .i64 t1142, .string t1143, .int .i64 t1144, .bool t1145, .slice Ao33 t1146.length co33, .slice Ao34 t1149.length co34], .int .i64 1] rfl mpx ?_; (with_reducible refine (laws_markCell.calls kj12 t1141 t1142 t1143 t1144 t1145 (fun k_ => some k_ = (.slice Ao33 t1146.length co33 : Value).ownBlock) (.slice Ao33 t1146.length co33) t1146 (fun k_ => some k_ = (.slice Ao34 t1149.length co34 : Value).ownBlock) (.slice Ao34 t1149.length co34) t1149 1 t1179 t1180 t1181 w _ ?side1 ?side2 ?side3 ?side4 ?side5 A57.out).mono ?_); (case side1 => repeat (first | (with_reducible first | exact HB.out | apply below_alloc | apply pw_below_drewN | apply below_drew1 | refine below_set ?_ GE1115.out | refine below_set ?_ GE1140.out | refine below_set ?_ GE1152.out | refine below_set ?_ GE1165.out) | exact HB.out)); (case side2 => exact Kd.R_tight rfl HO_1153005.out); (case side3 => exact fun k_ e_ => (HO_1153005.out.1 k_ e_.symm).1.1.2.2.1); (case side4 => exact Kd.R_tight rfl HO_1153006.out); (case side5 => exact fun k_ e_ => (HO_1153006.out.1 k_ e_.symm).1.1.2.2.1); rintro e w68 ⟨rfl, hy0, hy1, hb, hkp⟩; refine ⟨_, rfl, ?_⟩; replace HO_1141005 := am (Kd.R_mono (ok' := fun k_ => some k_ ≠ (.slice Ao26 t1136.length co26 : Value).ownBlock ∧ some k_ ≠ (.slice Ao33 t1146.length co33 : Value).ownBlock ∧ some k_ ≠ (.slice Ao34 t1149.length co34 : Value).ownBlock ∧ some k_ ≠ (.slice Ao41 t1158.length co41 : Value).ownBlock ∧ some k_ ≠ (.slice Ao42 t1161.length co42 : Value).ownBlock ∧ some k_ ≠ (.slice Ao61 t1172.length co61 : Value).ownBlock ∧ some k_ ≠ (.slice Ao62 t1175.length co62 : Value).ownBlock) (Kd.R_keptB (HO_1141005.out) hkp (fun k_ hk_ hs_ => Or.elim hs_ (fun e_ => (hk_.1.1.2.1) e_) (fun e_ => (hk_.1.1.2.2.1) e_))) (fun k_ hk_ => ⟨hk_.1.1.1.1, hk_.1.1.1.2.1, hk_.1.1.1.2.2.1, hk_.1.1.1.2.2.2.1, hk_.1.1.1.2.2.2.2, hk_.1.1.2, hk_.1.2⟩)); replace HO_1141006 := am (Kd.R_mono (ok' := fun k_ => some k_ ≠ (.slice Ao25 t1133.length co25 : Value).ownBlock ∧ some k_ ≠ (.slice Ao33 t1146.length co33 : Value).ownBlock ∧ some k_ ≠ (.slice Ao34 t1149.length co34 : Value).ownBlock ∧ some k_ ≠ (.slice Ao41 t1158.length co41 : Value).ownBlock ∧ some k_ ≠ (.slice Ao42 t1161.length co42 : Value).ownBlock ∧ some k_ ≠ (.slice Ao61 t1172.length co61 : Value).ownBlock ∧ some k_ ≠ (.slice Ao62 t1175.length co62 : Value).ownBlock) (Kd.R_keptB (HO_1141006.out) hkp (fun k_ hk_ hs_ => Or.elim hs_ (fun e_ => (hk_.1.1.2.1) e_) (fun e_ => (hk_.1.1.2.2.1) e_))) (fun k_ hk_ => ⟨hk_.1.1.1.1, hk_.1.1.1.2.1, hk_.1.1.1.2.2.1, hk_.1.1.1.2.2.2.1, hk_.1.1.1.2.2.2.2, hk_.1.1.2, hk_.1.2⟩)); replace HO_1166005 := am (Kd.R_mono (ok' := fun k_ => some k_ ≠ (.slice Ao25 t1133.length co25 : Value).ownBlock ∧ some k_ ≠ (.slice Ao26 t1136.length co26 : Value).ownBlock ∧ some k_ ≠ (.slice Ao33 t1146.length co33 : Value).ownBlock ∧ some k_ ≠ (.slice Ao34 t1149.length co34 : Value).ownBlock ∧ some k_ ≠ (.slice Ao42 t1161.length co42 : Value).ownBlock ∧ some k_ ≠ (.slice Ao61 t1172.length co61 : Value).ownBlock ∧ some k_ ≠ (.slice Ao62 t1175.length co62 : Value).ownBlock) (Kd.R_keptB (HO_1166005.out) hkp (fun k_ hk_ hs_ => Or.elim hs_ (fun e_ => (hk_.1.1.2.2.1) e_) (fun e_ => (hk_.1.1.2.2.2.1) e_))) (fun k_ hk_ => ⟨hk_.1.1.1.1, hk_.1.1.1.2.1, hk_.1.1.1.2.2.1, hk_.1.1.1.2.2.2.1, hk_.1.1.1.2.2.2.2, hk_.1.1.2, hk_.1.2⟩)); replace HO_1166006 := am (Kd.R_mono (ok' := fun k_ => some k_ ≠ (.slice Ao25 t1133.length co25 : Value).ownBlock ∧ some k_ ≠ (.slice Ao26 t1136.length co26 : Value).ownBlock ∧ some k_ ≠ (.slice Ao33 t1146.length co33 : Value).ownBlock ∧ some k_ ≠ (.slice Ao34 t1149.length co34 : Value).ownBlock ∧ some k_ ≠ (.slice Ao41 t1158.length co41 : Value).ownBlock ∧ some k_ ≠ (.slice Ao61 t1172.length co61 : Value).ownBlock ∧ some k_ ≠ (.slice Ao62 t1175.length co62 : Value).ownBlock) (Kd.R_keptB (HO_1166006.out) hkp (fun k_ hk_ hs_ => Or.elim hs_ (fun e_ => (hk_.1.1.2.2.1) e_) (fun e_ => (hk_.1.1.2.2.2.1) e_))) (fun k_ hk_ => ⟨hk_.1.1.1.1, hk_.1.1.1.2.1, hk_.1.1.1.2.2.1, hk_.1.1.1.2.2.2.1, hk_.1.1.1.2.2.2.2, hk_.1.1.2, hk_.1.2⟩)); replace BK1115 := am (blk_kept (pkK BK1115.out) hkp (fun hs_ => Or.elim hs_ (fun e_ => (fun e_ => (Kd.R_ne HO_1153005.out BK1115.out (by decide)) e_) e_) (fun e_ => (fun e_ => (Kd.R_ne HO_1153006.out BK1115.out (by decide)) e_) e_))); replace BK1140 := am (blk_kept (pkK BK1140.out) hkp (fun hs_ => Or.elim hs_ (fun e_ => (fun e_ => (Kd.R_ne HO_1153005.out BK1140.out (by decide)) e_) e_) (fun e_ => (fun e_ => (Kd.R_ne HO_1153006.out BK1140.out (by decide)) e_) e_))); replace BK1152 := am (blk_kept (pkK BK1152.out) hkp (fun hs_ => Or.elim hs_ (fun e_ => (fun e_ => (Kd.R_ne HO_1153005.out BK1152.out (by decide)) e_) e_) (fun e_ => (fun e_ => (Kd.R_ne HO_1153006.out BK1152.out (by decide)) e_) e_))); replace BK1165 := am (blk_kept (pkK BK1165.out) hkp (fun hs_ => Or.elim hs_ (fun e_ => (fun e_ => (Kd.R_ne HO_1153005.out BK1165.out (by decide)) e_) e_) (fun e_ => (fun e_ => (Kd.R_ne HO_1153006.out BK1165.out (by decide)) e_) e_))); replace HO_1153005 := am (Kd.R_reok rfl hy0 (fun k_ e_ => HO_1153005.out.1 k_ e_)); replace HO_1153006 := am (Kd.R_reok rfl hy1 (fun k_ e_ => HO_1153006.out.1 k_ e_)); replace HO1174 := am (Kd.R_mono (ok' := fun k_ => some k_ ≠ (.slice Ao25 t1133.length co25 : Value).ownBlock ∧ some k_ ≠ (.slice Ao26 t1136.length co26 : Value).ownBlock ∧ some k_ ≠ (.slice Ao33 t1146.length co33 : Value).ownBlock ∧ some k_ ≠ (.slice Ao34 t1149.length co34 : Value).ownBlock ∧ some k_ ≠ (.slice Ao41 t1158.length co41 : Value).ownBlock ∧ some k_ ≠ (.slice Ao42 t1161.length co42 : Value).ownBlock ∧ some k_ ≠ (.slice Ao62 t1175.length co62 : Value).ownBlock) (Kd.R_keptB (HO1174.out) hkp (fun k_ hk_ hs_ => Or.elim hs_ (fun e_ => (hk_.1.1.1.2) e_) (fun e_ => (hk_.1.1.2) e_))) (fun k_ hk_ => ⟨hk_.1.1.1.1.1.1.2, hk_.1.1.1.1.1.2, hk_.1.1.1.1.2, hk_.1.1.1.2, hk_.1.1.2, hk_.1.2, hk_.1.1.1.1.1.1.1⟩)); replace HO1177 := am (Kd.R_mono (ok' := fun k_ => some k_ ≠ (.slice Ao25 t1133.length co25 : Value).ownBlock ∧ some k_ ≠ (.slice Ao26 t1136.length co26 : Value).ownBlock ∧ some k_ ≠ (.slice Ao33 t1146.length co33 : Value).ownBlock ∧ some k_ ≠ (.slice Ao34 t1149.length co34 : Value).ownBlock ∧ some k_ ≠ (.slice Ao41 t1158.length co41 : Value).ownBlock ∧ some k_ ≠ (.slice Ao42 t1161.length co42 : Value).ownBlock ∧ some k_ ≠ (.slice Ao61 t1172.length co61 : Value).ownBlock) (Kd.R_keptB (HO1177.out) hkp (fun k_ hk_ hs_ => Or.elim hs_ (fun e_ => (hk_.1.1.1.2) e_) (fun e_ => (hk_.1.1.2) e_))) (fun k_ hk_ => ⟨hk_.1.1.1.1.1.1.2, hk_.1.1.1.1.1.2, hk_.1.1.1.1.2, hk_.1.1.1.2, hk_.1.1.2, hk_.1.2, hk_.1.1.1.1.1.1.1⟩)); replace HB := am (hb); (try clear hb); (try clear hkp); (try clear hy0); (try clear hy1)))
      (try simp only [Act.put, List.setIfInBounds_toArray, List.set_cons_zero, List.set_cons_succ])
      go_cut [69] (fun v69 wc => ∃ (kq : Nat) (x69_57 : Bool), v69 = .bool x69_57 ∧ Aside0 (laws_FnExactWatch.j1 kq a1 a2 t1139 x69_57 a0_0 a0_1 a0_2 a0_3 a0_4 l0_5 l0_6 t1128 t1129 t1130 t1131 t1132 t1133 t1136 t1153 t1154 t1155 t1156 t1157 t1158 t1161 = some r) ∧ Aside0 (kq ≤ kj12) ∧ Aside0 (Kd.R (Kd.int .i64) 3 wc w.heap.size (fun k_ => some k_ ≠ ((.slice Ao26 t1136.length co26) : Value).ownBlock ∧ some k_ ≠ ((.slice Ao33 t1146.length co33) : Value).ownBlock ∧ some k_ ≠ ((.slice Ao34 t1149.length co34) : Value).ownBlock ∧ some k_ ≠ ((.slice Ao41 t1158.length co41) : Value).ownBlock ∧ some k_ ≠ ((.slice Ao42 t1161.length co42) : Value).ownBlock) (.slice Ao25 t1133.length co25) t1133) ∧ Aside0 (Kd.R (Kd.int .i64) 3 wc w.heap.size (fun k_ => some k_ ≠ ((.slice Ao25 t1133.length co25) : Value).ownBlock ∧ some k_ ≠ ((.slice Ao33 t1146.length co33) : Value).ownBlock ∧ some k_ ≠ ((.slice Ao34 t1149.length co34) : Value).ownBlock ∧ some k_ ≠ ((.slice Ao41 t1158.length co41) : Value).ownBlock ∧ some k_ ≠ ((.slice Ao42 t1161.length co42) : Value).ownBlock) (.slice Ao26 t1136.length co26) t1136) ∧ Aside0 (Kd.R (Kd.int .i64) 3 wc w.heap.size (fun k_ => some k_ ≠ ((.slice Ao25 t1133.length co25) : Value).ownBlock ∧ some k_ ≠ ((.slice Ao26 t1136.length co26) : Value).ownBlock ∧ some k_ ≠ ((.slice Ao34 t1149.length co34) : Value).ownBlock ∧ some k_ ≠ ((.slice Ao41 t1158.length co41) : Value).ownBlock ∧ some k_ ≠ ((.slice Ao42 t1161.length co42) : Value).ownBlock) (.slice Ao33 t1146.length co33) t1180) ∧ Aside0 (Kd.R (Kd.int .i64) 3 wc w.heap.size (fun k_ => some k_ ≠ ((.slice Ao25 t1133.length co25) : Value).ownBlock ∧ some k_ ≠ ((.slice Ao26 t1136.length co26) : Value).ownBlock ∧ some k_ ≠ ((.slice Ao33 t1146.length co33) : Value).ownBlock ∧ some k_ ≠ ((.slice Ao41 t1158.length co41) : Value).ownBlock ∧ some k_ ≠ ((.slice Ao42 t1161.length co42) : Value).ownBlock) (.slice Ao34 t1149.length co34) t1181) ∧ Aside0 (Kd.R (Kd.int .i64) 3 wc w.heap.size (fun k_ => some k_ ≠ ((.slice Ao25 t1133.length co25) : Value).ownBlock ∧ some k_ ≠ ((.slice Ao26 t1136.length co26) : Value).ownBlock ∧ some k_ ≠ ((.slice Ao33 t1146.length co33) : Value).ownBlock ∧ some k_ ≠ ((.slice Ao34 t1149.length co34) : Value).ownBlock ∧ some k_ ≠ ((.slice Ao42 t1161.length co42) : Value).ownBlock) (.slice Ao41 t1158.length co41) t1158) ∧ Aside0 (Kd.R (Kd.int .i64) 3 wc w.heap.size (fun k_ => some k_ ≠ ((.slice Ao25 t1133.length co25) : Value).ownBlock ∧ some k_ ≠ ((.slice Ao26 t1136.length co26) : Value).ownBlock ∧ some k_ ≠ ((.slice Ao33 t1146.length co33) : Value).ownBlock ∧ some k_ ≠ ((.slice Ao34 t1149.length co34) : Value).ownBlock ∧ some k_ ≠ ((.slice Ao41 t1158.length co41) : Value).ownBlock) (.slice Ao42 t1161.length co42) t1161) ∧ Aside0 (wc.heap[gb1115]? = some (.cells #[.int .i64 a0_0, .int .i64 a0_1, .string a0_2, .int .i64 a0_3, .bool a0_4, (.slice A0_5 l0_5.length c0_5), (.slice A0_6 l0_6.length c0_6)] 56 (0, 0))) ∧ Aside0 (wc.heap[gb1140]? = some (.cells #[.int .i64 t1128, .int .i64 t1129, .string t1130, .int .i64 t1131, .bool t1132, (.slice Ao25 t1133.length co25), (.slice Ao26 t1136.length co26)] 29 (0, 0))) ∧ Aside0 (wc.heap[gb1152]? = some (.cells #[.int .i64 t1141, .int .i64 t1142, .string t1143, .int .i64 t1144, .bool t1145, (.slice Ao33 t1146.length co33), (.slice Ao34 t1149.length co34)] 29 (0, 0))) ∧ Aside0 (wc.heap[gb1165]? = some (.cells #[.int .i64 t1153, .int .i64 t1154, .string t1155, .int .i64 t1156, .bool t1157, (.slice Ao41 t1158.length co41), (.slice Ao42 t1161.length co42)] 29 (0, 0))) ∧ Aside0 (Below w.heap.size w wc))
      case first =>
       have H := HC58.out
       clear HC58
       by_cases c69 : t1179 < 0
       ·rw [if_pos c69] at H
        have c69b0 : decide (t1179 < 0) = true := decide_eq_true c69
        clear c69
        (first | rw [c69b0] | (simp only [i64_w, i32_w]; rw [c69b0]) | skip)
        cases kj12 with
        | zero => exact absurd H (by simp [laws_FnExactWatch.j1])
        | succ k_ => (simp only [laws_FnExactWatch.j1, if_pos] at H; exact absurd (Option.some.inj H) (by rw [HQ_.out]; simp))
       ·rw [if_neg c69] at H
        have c69b0 : decide (t1179 < 0) = false := decide_eq_false c69
        clear c69
        (first | rw [c69b0] | (simp only [i64_w, i32_w]; rw [c69b0]) | skip)
        replace H := Option.bind_eq_some_iff.mp H
        obtain ⟨t1182, A700, H⟩ := H
        replace H : (if t1182 = true then (laws_FnExactWatch.j1 kj12 a1 a2 t1139 (t1164 != t1139) a0_0 a0_1 a0_2 a0_3 a0_4 l0_5 l0_6 t1128 t1129 t1130 t1131 t1132 t1133 t1136 t1153 t1154 t1155 t1156 t1157 t1158 t1161) else (laws_FnExactWatch.j1 kj12 a1 a2 t1139 true a0_0 a0_1 a0_2 a0_3 a0_4 l0_5 l0_6 t1128 t1129 t1130 t1131 t1132 t1133 t1136 t1153 t1154 t1155 t1156 t1157 t1158 t1161)) = some r := H
        have A70 := am A700
        clear A700
        by_cases c71 : t1182 = true
        ·subst c71
         replace H : (laws_FnExactWatch.j1 kj12 a1 a2 t1139 (t1164 != t1139) a0_0 a0_1 a0_2 a0_3 a0_4 l0_5 l0_6 t1128 t1129 t1130 t1131 t1132 t1133 t1136 t1153 t1154 t1155 t1156 t1157 t1158 t1161) = some r := by rw [if_pos rfl] at H; exact H
         have H' := am H
         clear H
         have hnb72 := NB1165_1115.out
         have hnc72 := NB1115_1165.out
         have hnb73 := NB1165_1140.out
         have hnc73 := NB1140_1165.out
         have hnb74 := NB1165_1152.out
         have hnc74 := NB1152_1165.out
         obtain ⟨hcz75_0, hcz75_1, hcz75_2, hcz75_3, hcz75_4, hcz75_5, hcz75_6, hfz75_0, hfz75_1, hfz75_2, hfz75_3, hfz75_4, hfz75_5, hfz75_6⟩ := bk7 BK1165.out
         have hnb76 := NB1140_1115.out
         have hnc76 := NB1115_1140.out
         have hnb77 := NB1140_1152.out
         have hnc77 := NB1152_1140.out
         obtain ⟨hcz78_0, hcz78_1, hcz78_2, hcz78_3, hcz78_4, hcz78_5, hcz78_6, hfz78_0, hfz78_1, hfz78_2, hfz78_3, hfz78_4, hfz78_5, hfz78_6⟩ := bk7 BK1140.out
         go_wp2_with (first | (go_at_call 34; (with_reducible refine (laws_eqCell.calls kj12 t1153 t1154 t1155 t1156 t1157 _ _ t1158 _ _ t1161 t1128 t1129 t1130 t1131 t1132 _ _ t1133 _ _ t1136 true _ ?side1 ?side2 ?side3 ?side4 ?side5 ?side6 ?side7 ?side8 A70.out).mono ?_); (case side1 => exact pkC (Kd.R_reads' HO_1166005.out).2.2); (case side2 => exact (Kd.R_reads' HO_1166005.out).2.1); (case side3 => exact pkC (Kd.R_reads' HO_1166006.out).2.2); (case side4 => exact (Kd.R_reads' HO_1166006.out).2.1); (case side5 => exact pkC (Kd.R_reads' HO_1141005.out).2.2); (case side6 => exact (Kd.R_reads' HO_1141005.out).2.1); (case side7 => exact pkC (Kd.R_reads' HO_1141006.out).2.2); (case side8 => exact (Kd.R_reads' HO_1141006.out).2.1); rintro e w79 ⟨rfl, hb⟩; replace HO_1141005 := am (Kd.R_below (pkR HO_1141005.out) hb); replace HO_1141006 := am (Kd.R_below (pkR HO_1141006.out) hb); replace HO_1153005 := am (Kd.R_below (pkR HO_1153005.out) hb); replace HO_1153006 := am (Kd.R_below (pkR HO_1153006.out) hb); replace HO_1166005 := am (Kd.R_below (pkR HO_1166005.out) hb); replace HO_1166006 := am (Kd.R_below (pkR HO_1166006.out) hb); replace HO1174 := am (Kd.R_below (pkR HO1174.out) hb); replace HO1177 := am (Kd.R_below (pkR HO1177.out) hb); replace BK1115 := am (blk_below (pkK BK1115.out) hb); replace BK1140 := am (blk_below (pkK BK1140.out) hb); replace BK1152 := am (blk_below (pkK BK1152.out) hb); replace BK1165 := am (blk_below (pkK BK1165.out) hb); replace HB := am (below_step (pkW HB.out) hb); (try clear hb)))
         go_meet
         case rel => exact ⟨_, ((t1164 != t1139)), rfx, H', ⟨by have := HJ12.out; first | omega | exact Nat.le_refl _⟩, ⟨by (with_reducible repeat (first | apply Kd.R_alloc | apply Kd.R_drewN | apply Kd.R_drew)); exact Kd.R_mono HO_1141005.out (fun _ hk => ⟨hk.1, ⟨hk.2.1, ⟨hk.2.2.1, ⟨hk.2.2.2.1, hk.2.2.2.2.1⟩⟩⟩⟩)⟩, ⟨by (with_reducible repeat (first | apply Kd.R_alloc | apply Kd.R_drewN | apply Kd.R_drew)); exact Kd.R_mono HO_1141006.out (fun _ hk => ⟨hk.1, ⟨hk.2.1, ⟨hk.2.2.1, ⟨hk.2.2.2.1, hk.2.2.2.2.1⟩⟩⟩⟩)⟩, ⟨by (with_reducible repeat (first | apply Kd.R_alloc | apply Kd.R_drewN | apply Kd.R_drew)); exact Kd.R_mono HO_1153005.out (fun _ hk => ⟨hk.1.1.1, ⟨hk.1.1.2.1, ⟨hk.1.1.2.2.1, ⟨hk.1.1.2.2.2.1, hk.1.1.2.2.2.2⟩⟩⟩⟩)⟩, ⟨by (with_reducible repeat (first | apply Kd.R_alloc | apply Kd.R_drewN | apply Kd.R_drew)); exact Kd.R_mono HO_1153006.out (fun _ hk => ⟨hk.1.1.1, ⟨hk.1.1.2.1, ⟨hk.1.1.2.2.1, ⟨hk.1.1.2.2.2.1, hk.1.1.2.2.2.2⟩⟩⟩⟩)⟩, ⟨by (with_reducible repeat (first | apply Kd.R_alloc | apply Kd.R_drewN | apply Kd.R_drew)); exact Kd.R_mono HO_1166005.out (fun _ hk => ⟨hk.1, ⟨hk.2.1, ⟨hk.2.2.1, ⟨hk.2.2.2.1, hk.2.2.2.2.1⟩⟩⟩⟩)⟩, ⟨by (with_reducible repeat (first | apply Kd.R_alloc | apply Kd.R_drewN | apply Kd.R_drew)); exact Kd.R_mono HO_1166006.out (fun _ hk => ⟨hk.1, ⟨hk.2.1, ⟨hk.2.2.1, ⟨hk.2.2.2.1, hk.2.2.2.2.1⟩⟩⟩⟩)⟩, ⟨pkK BK1115.out⟩, ⟨pkK BK1140.out⟩, ⟨pkK BK1152.out⟩, ⟨pkK BK1165.out⟩, ⟨pkW HB.out⟩⟩
        ·replace c71 := Bool.eq_false_iff.mpr c71
         subst c71
         replace H : (laws_FnExactWatch.j1 kj12 a1 a2 t1139 true a0_0 a0_1 a0_2 a0_3 a0_4 l0_5 l0_6 t1128 t1129 t1130 t1131 t1132 t1133 t1136 t1153 t1154 t1155 t1156 t1157 t1158 t1161) = some r := by rw [if_neg (show ¬ (false = true) by decide)] at H; exact H
         cases kj12 with
         | zero => exact absurd H (by simp [laws_FnExactWatch.j1])
         | succ k_ => (simp only [laws_FnExactWatch.j1, if_pos] at H; exact absurd (Option.some.inj H) (by rw [HQ_.out]; simp))
      case rest =>
       clear HC58
       try clear c1
       try clear c2
       try clear p2
       try clear c3
       try clear c4
       try clear c5
       try clear c5b0
       try clear c6
       try clear c7
       try clear c12
       try clear c20
       try clear c23
       try clear c30
       try clear c31
       try clear c32
       try clear c34
       try clear c37
       try clear c38
       try clear c39
       try clear c44
       try clear c45
       try clear c46
       try clear c47
       try clear c48
       try clear c49
       try clear c50
       try clear c53
       try clear c56
       try clear c64
       try clear c65
       try clear c66
       try clear c69
       try clear c69b0
       try clear c71
       try clear c72
       try clear c73
       try clear c74
       try clear c76
       try clear c77
       try clear hcz15_0
       try clear hcz15_1
       try clear hcz15_2
       try clear hcz15_3
       try clear hcz15_4
       try clear hcz15_5
       try clear hcz15_6
       try clear hcz17_0
       try clear hcz17_1
       try clear hcz17_2
       try clear hcz17_3
       try clear hcz17_4
       try clear hcz17_5
       try clear hcz17_6
       try clear hcz24_0
       try clear hcz24_1
       try clear hcz24_2
       try clear hcz24_3
       try clear hcz24_4
       try clear hcz24_5
       try clear hcz24_6
       try clear hcz27_0
       try clear hcz27_1
       try clear hcz27_2
       try clear hcz27_3
       try clear hcz27_4
       try clear hcz27_5
       try clear hcz27_6
       try clear hcz32_0
       try clear hcz32_1
       try clear hcz32_2
       try clear hcz32_3
       try clear hcz32_4
       try clear hcz32_5
       try clear hcz32_6
       try clear hcz40_0
       try clear hcz40_1
       try clear hcz40_2
       try clear hcz40_3
       try clear hcz40_4
       try clear hcz40_5
       try clear hcz40_6
       try clear hcz48_0
       try clear hcz48_1
       try clear hcz48_2
       try clear hcz48_3
       try clear hcz48_4
       try clear hcz48_5
       try clear hcz48_6
       try clear hcz51_0
       try clear hcz51_1
       try clear hcz51_2
       try clear hcz51_3
       try clear hcz51_4
       try clear hcz51_5
       try clear hcz51_6
       try clear hcz67_0
       try clear hcz67_1
       try clear hcz67_2
       try clear hcz67_3
       try clear hcz67_4
       try clear hcz67_5
       try clear hcz67_6
       try clear hcz75_0
       try clear hcz75_1
       try clear hcz75_2
       try clear hcz75_3
       try clear hcz75_4
       try clear hcz75_5
       try clear hcz75_6
       try clear hcz78_0
       try clear hcz78_1
       try clear hcz78_2
       try clear hcz78_3
       try clear hcz78_4
       try clear hcz78_5
       try clear hcz78_6
       try clear hcz7_0
       try clear hcz7_1
       try clear hcz7_2
       try clear hcz7_3
       try clear hcz7_4
       try clear hcz7_5
       try clear hcz7_6
       try clear hfz15_0
       try clear hfz15_1
       try clear hfz15_2
       try clear hfz15_3
       try clear hfz15_4
       try clear hfz15_5
       try clear hfz15_6
       try clear hfz17_0
       try clear hfz17_1
       try clear hfz17_2
       try clear hfz17_3
       try clear hfz17_4
       try clear hfz17_5
       try clear hfz17_6
       try clear hfz24_0
       try clear hfz24_1
       try clear hfz24_2
       try clear hfz24_3
       try clear hfz24_4
       try clear hfz24_5
       try clear hfz24_6
       try clear hfz27_0
       try clear hfz27_1
       try clear hfz27_2
       try clear hfz27_3
       try clear hfz27_4
       try clear hfz27_5
       try clear hfz27_6
       try clear hfz32_0
       try clear hfz32_1
       try clear hfz32_2
       try clear hfz32_3
       try clear hfz32_4
       try clear hfz32_5
       try clear hfz32_6
       try clear hfz40_0
       try clear hfz40_1
       try clear hfz40_2
       try clear hfz40_3
       try clear hfz40_4
       try clear hfz40_5
       try clear hfz40_6
       try clear hfz48_0
       try clear hfz48_1
       try clear hfz48_2
       try clear hfz48_3
       try clear hfz48_4
       try clear hfz48_5
       try clear hfz48_6
       try clear hfz51_0
       try clear hfz51_1
       try clear hfz51_2
       try clear hfz51_3
       try clear hfz51_4
       try clear hfz51_5
       try clear hfz51_6
       try clear hfz67_0
       try clear hfz67_1
       try clear hfz67_2
       try clear hfz67_3
       try clear hfz67_4
       try clear hfz67_5
       try clear hfz67_6
       try clear hfz75_0
       try clear hfz75_1
       try clear hfz75_2
       try clear hfz75_3
       try clear hfz75_4
       try clear hfz75_5
       try clear hfz75_6
       try clear hfz78_0
       try clear hfz78_1
       try clear hfz78_2
       try clear hfz78_3
       try clear hfz78_4
       try clear hfz78_5
       try clear hfz78_6
       try clear hfz7_0
       try clear hfz7_1
       try clear hfz7_2
       try clear hfz7_3
       try clear hfz7_4
       try clear hfz7_5
       try clear hfz7_6
       try clear p2
       obtain ⟨kq, x69_57, rfl, HA, HJ57, HO_1141005, HO_1141006, HO_1153005, HO_1153006, HO_1166005, HO_1166006, BK1115, BK1140, BK1152, BK1165, HB⟩ := hcut
       have hl1153005_57 := (Kd.R_reads' HO_1153005.out).1
       rw [hl1153005_57] at HO_1153005
       (try simp only [hl1153005_57])
       (try simp only [hl1153005_57] at BK1115)
       (try simp only [hl1153005_57] at BK1140)
       (try simp only [hl1153005_57] at BK1152)
       (try simp only [hl1153005_57] at BK1165)
       (try simp only [hl1153005_57] at HO_1141005)
       (try simp only [hl1153005_57] at HO_1141006)
       (try simp only [hl1153005_57] at HO_1153006)
       (try simp only [hl1153005_57] at HO_1166005)
       (try simp only [hl1153005_57] at HO_1166006)
       have hl1153006_57 := (Kd.R_reads' HO_1153006.out).1
       rw [hl1153006_57] at HO_1153006
       (try simp only [hl1153006_57])
       (try simp only [hl1153006_57] at BK1115)
       (try simp only [hl1153006_57] at BK1140)
       (try simp only [hl1153006_57] at BK1152)
       (try simp only [hl1153006_57] at BK1165)
       (try simp only [hl1153006_57] at HO_1141005)
       (try simp only [hl1153006_57] at HO_1141006)
       (try simp only [hl1153006_57] at HO_1153005)
       (try simp only [hl1153006_57] at HO_1166005)
       (try simp only [hl1153006_57] at HO_1166006)
       cases kq with
       | zero => exact absurd HA.out (by simp [laws_FnExactWatch.j1])
       | succ kj57 =>
        have H := HA.out
        clear HA
        simp only [laws_FnExactWatch.j1] at H
        by_cases c80 : x69_57 = true
        ·subst c80
         replace H : (some false) = some r := by rw [if_pos rfl] at H; exact H
         exact absurd (Option.some.inj H) (by rw [HQ_.out]; simp)
        ·replace c80 := Bool.eq_false_iff.mpr c80
         subst c80
         replace H : ((laws_markCell.f kj57 t1153 t1154 t1155 t1156 t1157 t1158 t1161 1).bind fun bt1183 => ((laws_heldCell.f kj57 t1153 t1154 t1155 t1156 t1157 bt1183.2.1 bt1183.2.2 1).bind fun t1186 => (if t1186 < 0 then (some false) else (if t1186 = bt1183.1 then ((laws_toCell.f kj57 a0_0 a0_1 a0_2 a0_3 a0_4 l0_5 l0_6).bind fun bt1187 => ((impl_Watch.f kj57 bt1187.1 bt1187.2.1 bt1187.2.2.1 bt1187.2.2.2.1 bt1187.2.2.2.2.1 bt1187.2.2.2.2.2.1 bt1187.2.2.2.2.2.2 a1 a2).bind fun bt1198 => ((laws_eqCell.f kj57 bt1198.1 bt1198.2.1 bt1198.2.2.1 bt1198.2.2.2.1 bt1198.2.2.2.2.1 bt1198.2.2.2.2.2.1 bt1198.2.2.2.2.2.2.1 t1128 t1129 t1130 t1131 t1132 t1133 t1136).bind fun t1211 => (if t1211 = true then (laws_FnExactWatch.j2 kj57 bt1183.1 (bt1198.2.2.2.2.2.2.2 != t1139) t1153 t1154 t1155 t1156 t1157 bt1183.2.1 bt1183.2.2) else (laws_FnExactWatch.j2 kj57 bt1183.1 true t1153 t1154 t1155 t1156 t1157 bt1183.2.1 bt1183.2.2))))) else (some false))))) = some r := by rw [if_neg (show ¬ (false = true) by decide)] at H; exact H
         replace H := Option.bind_eq_some_iff.mp H
         obtain ⟨⟨t1183, t1184, t1185⟩, A810, H⟩ := H
         replace H : ((laws_heldCell.f kj57 t1153 t1154 t1155 t1156 t1157 t1184 t1185 1).bind fun t1186 => (if t1186 < 0 then (some false) else (if t1186 = t1183 then ((laws_toCell.f kj57 a0_0 a0_1 a0_2 a0_3 a0_4 l0_5 l0_6).bind fun bt1187 => ((impl_Watch.f kj57 bt1187.1 bt1187.2.1 bt1187.2.2.1 bt1187.2.2.2.1 bt1187.2.2.2.2.1 bt1187.2.2.2.2.2.1 bt1187.2.2.2.2.2.2 a1 a2).bind fun bt1198 => ((laws_eqCell.f kj57 bt1198.1 bt1198.2.1 bt1198.2.2.1 bt1198.2.2.2.1 bt1198.2.2.2.2.1 bt1198.2.2.2.2.2.1 bt1198.2.2.2.2.2.2.1 t1128 t1129 t1130 t1131 t1132 t1133 t1136).bind fun t1211 => (if t1211 = true then (laws_FnExactWatch.j2 kj57 t1183 (bt1198.2.2.2.2.2.2.2 != t1139) t1153 t1154 t1155 t1156 t1157 t1184 t1185) else (laws_FnExactWatch.j2 kj57 t1183 true t1153 t1154 t1155 t1156 t1157 t1184 t1185))))) else (some false)))) = some r := H
         have A81 := am A810
         clear A810
         replace H := Option.bind_eq_some_iff.mp H
         obtain ⟨t1186, A820, H⟩ := H
         replace H : (if t1186 < 0 then (some false) else (if t1186 = t1183 then ((laws_toCell.f kj57 a0_0 a0_1 a0_2 a0_3 a0_4 l0_5 l0_6).bind fun bt1187 => ((impl_Watch.f kj57 bt1187.1 bt1187.2.1 bt1187.2.2.1 bt1187.2.2.2.1 bt1187.2.2.2.2.1 bt1187.2.2.2.2.2.1 bt1187.2.2.2.2.2.2 a1 a2).bind fun bt1198 => ((laws_eqCell.f kj57 bt1198.1 bt1198.2.1 bt1198.2.2.1 bt1198.2.2.2.1 bt1198.2.2.2.2.1 bt1198.2.2.2.2.2.1 bt1198.2.2.2.2.2.2.1 t1128 t1129 t1130 t1131 t1132 t1133 t1136).bind fun t1211 => (if t1211 = true then (laws_FnExactWatch.j2 kj57 t1183 (bt1198.2.2.2.2.2.2.2 != t1139) t1153 t1154 t1155 t1156 t1157 t1184 t1185) else (laws_FnExactWatch.j2 kj57 t1183 true t1153 t1154 t1155 t1156 t1157 t1184 t1185))))) else (some false))) = some r := H
         have A82 := am A820
         clear A820
         by_cases c83 : t1186 < 0
         ·rw [if_pos c83] at H
          have c83b0 : decide (t1186 < 0) = true := decide_eq_true c83
          clear c83
          exact absurd (Option.some.inj H) (by rw [HQ_.out]; simp)
         ·rw [if_neg c83] at H
          have c83b0 : decide (t1186 < 0) = false := decide_eq_false c83
          clear c83
          by_cases c84 : t1186 = t1183
          ·rw [if_pos c84] at H
           have c84b0 : (t1186 == t1183) = true := beq_iff_eq.mpr c84
           have c84b1 : (t1186 != t1183) = false := bne_eq_false_iff_eq.mpr c84
           clear c84
           replace H := Option.bind_eq_some_iff.mp H
           obtain ⟨⟨t1187, t1188, t1189, t1190, t1191, t1192, t1195⟩, A850, H⟩ := H
           replace H : ((impl_Watch.f kj57 t1187 t1188 t1189 t1190 t1191 t1192 t1195 a1 a2).bind fun bt1198 => ((laws_eqCell.f kj57 bt1198.1 bt1198.2.1 bt1198.2.2.1 bt1198.2.2.2.1 bt1198.2.2.2.2.1 bt1198.2.2.2.2.2.1 bt1198.2.2.2.2.2.2.1 t1128 t1129 t1130 t1131 t1132 t1133 t1136).bind fun t1211 => (if t1211 = true then (laws_FnExactWatch.j2 kj57 t1183 (bt1198.2.2.2.2.2.2.2 != t1139) t1153 t1154 t1155 t1156 t1157 t1184 t1185) else (laws_FnExactWatch.j2 kj57 t1183 true t1153 t1154 t1155 t1156 t1157 t1184 t1185)))) = some r := H
           have A85 := am A850
           clear A850
           replace H := Option.bind_eq_some_iff.mp H
           obtain ⟨⟨t1198, t1199, t1200, t1201, t1202, t1203, t1206, t1209⟩, A860, H⟩ := H
           replace H : ((laws_eqCell.f kj57 t1198 t1199 t1200 t1201 t1202 t1203 t1206 t1128 t1129 t1130 t1131 t1132 t1133 t1136).bind fun t1211 => (if t1211 = true then (laws_FnExactWatch.j2 kj57 t1183 (t1209 != t1139) t1153 t1154 t1155 t1156 t1157 t1184 t1185) else (laws_FnExactWatch.j2 kj57 t1183 true t1153 t1154 t1155 t1156 t1157 t1184 t1185))) = some r := H
           have A86 := am A860
           clear A860
           have HC87 := am H
           clear H
           have hnb88 := NB1165_1115.out
           have hnc88 := NB1115_1165.out
           have hnb89 := NB1165_1140.out
           have hnc89 := NB1140_1165.out
           have hnb90 := NB1165_1152.out
           have hnc90 := NB1152_1165.out
           obtain ⟨hcz91_0, hcz91_1, hcz91_2, hcz91_3, hcz91_4, hcz91_5, hcz91_6, hfz91_0, hfz91_1, hfz91_2, hfz91_3, hfz91_4, hfz91_5, hfz91_6⟩ := bk7 BK1165.out
           go_upto_region 25 with (first | ((with_reducible refine gate_callee (f := 48) rfl ?_); refine goesL_ (some 72) rfl rfl Try.func48 (by kernel_rfl) rfl #[.agg #[.int .i64 t1153, .int .i64 t1154, .string t1155, .int .i64 t1156, .bool t1157, .slice Ao41 t1158.length co41, .slice Ao42 t1161.length co42], .int .i64 1] rfl mpx ?_; (with_reducible refine (laws_markCell.calls kj57 t1153 t1154 t1155 t1156 t1157 (fun k_ => some k_ = (.slice Ao41 t1158.length co41 : Value).ownBlock) (.slice Ao41 t1158.length co41) t1158 (fun k_ => some k_ = (.slice Ao42 t1161.length co42 : Value).ownBlock) (.slice Ao42 t1161.length co42) t1161 1 t1183 t1184 t1185 w _ ?side1 ?side2 ?side3 ?side4 ?side5 A81.out).mono ?_); (case side1 => repeat (first | (with_reducible first | exact HB.out | apply below_alloc | apply pw_below_drewN | apply below_drew1 | refine below_set ?_ GE1115.out | refine below_set ?_ GE1140.out | refine below_set ?_ GE1152.out | refine below_set ?_ GE1165.out) | exact HB.out)); (case side2 => exact Kd.R_tight rfl HO_1166005.out); (case side3 => exact fun k_ e_ => (HO_1166005.out.1 k_ e_.symm).2.2.2.2); (case side4 => exact Kd.R_tight rfl HO_1166006.out); (case side5 => exact fun k_ e_ => (HO_1166006.out.1 k_ e_.symm).2.2.2.2); rintro e w92 ⟨rfl, hy0, hy1, hb, hkp⟩; refine ⟨_, rfl, ?_⟩; replace HO_1141005 := am (Kd.R_mono (ok' := fun k_ => some k_ ≠ (.slice Ao26 t1136.length co26 : Value).ownBlock ∧ some k_ ≠ (.slice Ao33 t1180.length co33 : Value).ownBlock ∧ some k_ ≠ (.slice Ao34 t1181.length co34 : Value).ownBlock ∧ some k_ ≠ (.slice Ao41 t1158.length co41 : Value).ownBlock ∧ some k_ ≠ (.slice Ao42 t1161.length co42 : Value).ownBlock) (Kd.R_keptB (HO_1141005.out) hkp (fun k_ hk_ hs_ => Or.elim hs_ (fun e_ => (hk_.2.2.2.1) e_) (fun e_ => (hk_.2.2.2.2) e_))) (fun k_ hk_ => ⟨hk_.1.1, hk_.1.2.1, hk_.1.2.2.1, hk_.1.2.2.2.1, hk_.1.2.2.2.2⟩)); replace HO_1141006 := am (Kd.R_mono (ok' := fun k_ => some k_ ≠ (.slice Ao25 t1133.length co25 : Value).ownBlock ∧ some k_ ≠ (.slice Ao33 t1180.length co33 : Value).ownBlock ∧ some k_ ≠ (.slice Ao34 t1181.length co34 : Value).ownBlock ∧ some k_ ≠ (.slice Ao41 t1158.length co41 : Value).ownBlock ∧ some k_ ≠ (.slice Ao42 t1161.length co42 : Value).ownBlock) (Kd.R_keptB (HO_1141006.out) hkp (fun k_ hk_ hs_ => Or.elim hs_ (fun e_ => (hk_.2.2.2.1) e_) (fun e_ => (hk_.2.2.2.2) e_))) (fun k_ hk_ => ⟨hk_.1.1, hk_.1.2.1, hk_.1.2.2.1, hk_.1.2.2.2.1, hk_.1.2.2.2.2⟩)); replace HO_1153005 := am (Kd.R_mono (ok' := fun k_ => some k_ ≠ (.slice Ao25 t1133.length co25 : Value).ownBlock ∧ some k_ ≠ (.slice Ao26 t1136.length co26 : Value).ownBlock ∧ some k_ ≠ (.slice Ao34 t1181.length co34 : Value).ownBlock ∧ some k_ ≠ (.slice Ao41 t1158.length co41 : Value).ownBlock ∧ some k_ ≠ (.slice Ao42 t1161.length co42 : Value).ownBlock) (Kd.R_keptB (HO_1153005.out) hkp (fun k_ hk_ hs_ => Or.elim hs_ (fun e_ => (hk_.2.2.2.1) e_) (fun e_ => (hk_.2.2.2.2) e_))) (fun k_ hk_ => ⟨hk_.1.1, hk_.1.2.1, hk_.1.2.2.1, hk_.1.2.2.2.1, hk_.1.2.2.2.2⟩)); replace HO_1153006 := am (Kd.R_mono (ok' := fun k_ => some k_ ≠ (.slice Ao25 t1133.length co25 : Value).ownBlock ∧ some k_ ≠ (.slice Ao26 t1136.length co26 : Value).ownBlock ∧ some k_ ≠ (.slice Ao33 t1180.length co33 : Value).ownBlock ∧ some k_ ≠ (.slice Ao41 t1158.length co41 : Value).ownBlock ∧ some k_ ≠ (.slice Ao42 t1161.length co42 : Value).ownBlock) (Kd.R_keptB (HO_1153006.out) hkp (fun k_ hk_ hs_ => Or.elim hs_ (fun e_ => (hk_.2.2.2.1) e_) (fun e_ => (hk_.2.2.2.2) e_))) (fun k_ hk_ => ⟨hk_.1.1, hk_.1.2.1, hk_.1.2.2.1, hk_.1.2.2.2.1, hk_.1.2.2.2.2⟩)); replace BK1115 := am (blk_kept (pkK BK1115.out) hkp (fun hs_ => Or.elim hs_ (fun e_ => (fun e_ => (Kd.R_ne HO_1166005.out BK1115.out (by decide)) e_) e_) (fun e_ => (fun e_ => (Kd.R_ne HO_1166006.out BK1115.out (by decide)) e_) e_))); replace BK1140 := am (blk_kept (pkK BK1140.out) hkp (fun hs_ => Or.elim hs_ (fun e_ => (fun e_ => (Kd.R_ne HO_1166005.out BK1140.out (by decide)) e_) e_) (fun e_ => (fun e_ => (Kd.R_ne HO_1166006.out BK1140.out (by decide)) e_) e_))); replace BK1152 := am (blk_kept (pkK BK1152.out) hkp (fun hs_ => Or.elim hs_ (fun e_ => (fun e_ => (Kd.R_ne HO_1166005.out BK1152.out (by decide)) e_) e_) (fun e_ => (fun e_ => (Kd.R_ne HO_1166006.out BK1152.out (by decide)) e_) e_))); replace BK1165 := am (blk_kept (pkK BK1165.out) hkp (fun hs_ => Or.elim hs_ (fun e_ => (fun e_ => (Kd.R_ne HO_1166005.out BK1165.out (by decide)) e_) e_) (fun e_ => (fun e_ => (Kd.R_ne HO_1166006.out BK1165.out (by decide)) e_) e_))); replace HO_1166005 := am (Kd.R_reok rfl hy0 (fun k_ e_ => HO_1166005.out.1 k_ e_)); replace HO_1166006 := am (Kd.R_reok rfl hy1 (fun k_ e_ => HO_1166006.out.1 k_ e_)); replace HB := am (hb); (try clear hb); (try clear hkp); (try clear hy0); (try clear hy1); obtain ⟨hcz93_0, hcz93_1, hcz93_2, hcz93_3, hcz93_4, hcz93_5, hcz93_6, hfz93_0, hfz93_1, hfz93_2, hfz93_3, hfz93_4, hfz93_5, hfz93_6⟩ := bk7 BK1165.out) | ((with_reducible refine gate_callee (f := 49) rfl ?_); refine goesL_ (some 75) rfl rfl Try.func49 (by kernel_rfl) rfl #[.agg #[.int .i64 t1153, .int .i64 t1154, .string t1155, .int .i64 t1156, .bool t1157, .slice Ao41 t1184.length co41, .slice Ao42 t1185.length co42], .int .i64 1] rfl (by (try simp only [List.map_toArray, List.map_cons, List.map_nil]); first | done | (rw [show t1184.length = t1158.length from (Kd.R_reads' HO_1166005.out).1.symm, show t1185.length = t1161.length from (Kd.R_reads' HO_1166006.out).1.symm] <;> rfl) | rfl | (simp only [List.length_drop, List.length_take]; rfl) | (go_simp; done) | (simp [*]; done)) ?_; (with_reducible refine (laws_heldCell.calls kj57 t1153 t1154 t1155 t1156 t1157 _ _ t1184 _ _ t1185 1 t1186 _ ?side1 ?side2 ?side3 ?side4 A82.out).mono ?_); (case side1 => exact pkC (Kd.R_reads' HO_1166005.out).2.2); (case side2 => rw [show t1184.length = t1158.length from (Kd.R_reads' HO_1166005.out).1.symm]; exact (Kd.R_reads' HO_1166005.out).2.1); (case side3 => exact pkC (Kd.R_reads' HO_1166006.out).2.2); (case side4 => rw [show t1185.length = t1161.length from (Kd.R_reads' HO_1166006.out).1.symm]; exact (Kd.R_reads' HO_1166006.out).2.1); rintro e w94 ⟨rfl, hb⟩; refine ⟨_, rfl, ?_⟩; replace HO_1141005 := am (Kd.R_below (pkR HO_1141005.out) hb); replace HO_1141006 := am (Kd.R_below (pkR HO_1141006.out) hb); replace HO_1153005 := am (Kd.R_below (pkR HO_1153005.out) hb); replace HO_1153006 := am (Kd.R_below (pkR HO_1153006.out) hb); replace HO_1166005 := am (Kd.R_below (pkR HO_1166005.out) hb); replace HO_1166006 := am (Kd.R_below (pkR HO_1166006.out) hb); replace BK1115 := am (blk_below (pkK BK1115.out) hb); replace BK1140 := am (blk_below (pkK BK1140.out) hb); replace BK1152 := am (blk_below (pkK BK1152.out) hb); replace BK1165 := am (blk_below (pkK BK1165.out) hb); replace HB := am (below_step (pkW HB.out) hb); (try clear hb); have hnb95 := NB1115_1140.out; have hnc95 := NB1140_1115.out; have hnb96 := NB1115_1152.out; have hnc96 := NB1152_1115.out; obtain ⟨hcz97_0, hcz97_1, hcz97_2, hcz97_3, hcz97_4, hcz97_5, hcz97_6, hfz97_0, hfz97_1, hfz97_2, hfz97_3, hfz97_4, hfz97_5, hfz97_6⟩ := bk7 BK1115.out) | ((with_reducible refine gate_callee (f := 32) rfl ?_); refine goesL_ (some 83) rfl rfl Try.func32 (by kernel_rfl) rfl #[.agg #[.int .i64 a0_0, .int .i64 a0_1, .string a0_2, .int .i64 a0_3, .bool a0_4, .slice A0_5 l0_5.length c0_5, .slice A0_6 l0_6.length c0_6]] rfl mpx ?_; (with_reducible refine (laws_toCell.calls kj57 a0_0 a0_1 a0_2 a0_3 a0_4 _ _ l0_5 _ _ l0_6 t1187 t1188 t1189 t1190 t1191 t1192 t1195 _ ?side1 ?side2 ?side3 ?side4 A85.out).mono ?_); (case side1 => exact pkC (Kd.C_below HR0_5.out HB.out)); (case side2 => exact HC0_5.out); (case side3 => exact pkC (Kd.C_below HR0_6.out HB.out)); (case side4 => exact HC0_6.out); rintro e w98 ⟨v1193, v1196, rfl, ho0, ho1, hb⟩; refine ⟨_, rfl, ?_⟩; have HO1194 := am (Kd.R_lower (Kd.R_new' (Kd.R_new' (Kd.R_new' (Kd.R_new' (Kd.R_new' (Kd.R_new' ho0 (Kd.R_lt (pkR HO_1141005.out))) (Kd.R_lt (pkR HO_1141006.out))) (Kd.R_lt (pkR HO_1153005.out))) (Kd.R_lt (pkR HO_1153006.out))) (Kd.R_lt (pkR HO_1166005.out))) (Kd.R_lt (pkR HO_1166006.out))) (below_size (pkW HB.out))); have HO1197 := am (Kd.R_lower (Kd.R_new' (Kd.R_new' (Kd.R_new' (Kd.R_new' (Kd.R_new' (Kd.R_new' ho1 (Kd.R_lt (pkR HO_1141005.out))) (Kd.R_lt (pkR HO_1141006.out))) (Kd.R_lt (pkR HO_1153005.out))) (Kd.R_lt (pkR HO_1153006.out))) (Kd.R_lt (pkR HO_1166005.out))) (Kd.R_lt (pkR HO_1166006.out))) (below_size (pkW HB.out))); replace HO_1141005 := am (Kd.R_mono (Kd.R_told (Kd.R_told (Kd.R_old (pkR HO_1141005.out) hb) (Kd.R_base ho0)) (Kd.R_base ho1)) (fun _ h_ => h_.1)); replace HO_1141006 := am (Kd.R_mono (Kd.R_told (Kd.R_told (Kd.R_old (pkR HO_1141006.out) hb) (Kd.R_base ho0)) (Kd.R_base ho1)) (fun _ h_ => h_.1)); replace HO_1153005 := am (Kd.R_mono (Kd.R_told (Kd.R_told (Kd.R_old (pkR HO_1153005.out) hb) (Kd.R_base ho0)) (Kd.R_base ho1)) (fun _ h_ => h_.1)); replace HO_1153006 := am (Kd.R_mono (Kd.R_told (Kd.R_told (Kd.R_old (pkR HO_1153006.out) hb) (Kd.R_base ho0)) (Kd.R_base ho1)) (fun _ h_ => h_.1)); replace HO_1166005 := am (Kd.R_mono (Kd.R_told (Kd.R_told (Kd.R_old (pkR HO_1166005.out) hb) (Kd.R_base ho0)) (Kd.R_base ho1)) (fun _ h_ => h_.1)); replace HO_1166006 := am (Kd.R_mono (Kd.R_told (Kd.R_told (Kd.R_old (pkR HO_1166006.out) hb) (Kd.R_base ho0)) (Kd.R_base ho1)) (fun _ h_ => h_.1)); replace BK1115 := am (blk_below (pkK BK1115.out) hb); replace BK1140 := am (blk_below (pkK BK1140.out) hb); replace BK1152 := am (blk_below (pkK BK1152.out) hb); replace BK1165 := am (blk_below (pkK BK1165.out) hb); replace HB := am (below_step (pkW HB.out) hb); (try clear hb ho0 ho1); obtain ⟨Ao99, co99, eo99⟩ := Kd.R_slice HO1194.out; subst eo99; obtain ⟨Ao100, co100, eo100⟩ := Kd.R_slice HO1197.out; subst eo100) | ((with_reducible refine gate_callee (f := 20) rfl ?_); refine goesL_ (some 86) rfl rfl Try.func20 (by kernel_rfl) rfl #[.agg #[.int .i64 t1187, .int .i64 t1188, .string t1189, .int .i64 t1190, .bool t1191, .slice Ao99 t1192.length co99, .slice Ao100 t1195.length co100], .int .i64 a1, .int .i64 a2] rfl mpx ?_; (with_reducible refine (impl_Watch.calls kj57 t1187 t1188 t1189 t1190 t1191 _ _ t1192 _ _ t1195 a1 a2 t1198 t1199 t1200 t1201 t1202 t1203 t1206 t1209 _ ?side1 ?side2 ?side3 ?side4 A86.out).mono ?_); (case side1 => exact pkC (Kd.R_reads' HO1194.out).2.2); (case side2 => exact (Kd.R_reads' HO1194.out).2.1); (case side3 => exact pkC (Kd.R_reads' HO1197.out).2.2); (case side4 => exact (Kd.R_reads' HO1197.out).2.1); rintro e w101 ⟨v1204, v1207, rfl, ho0, ho1, hb⟩; refine ⟨_, rfl, ?_⟩; have HO1205 := am (Kd.R_lower (Kd.R_new' (Kd.R_new' (Kd.R_new' (Kd.R_new' (Kd.R_new' (Kd.R_new' (Kd.R_new' (Kd.R_new' ho0 (Kd.R_lt (pkR HO_1141005.out))) (Kd.R_lt (pkR HO_1141006.out))) (Kd.R_lt (pkR HO_1153005.out))) (Kd.R_lt (pkR HO_1153006.out))) (Kd.R_lt (pkR HO_1166005.out))) (Kd.R_lt (pkR HO_1166006.out))) (Kd.R_lt (pkR HO1194.out))) (Kd.R_lt (pkR HO1197.out))) (below_size (pkW HB.out))); have HO1208 := am (Kd.R_lower (Kd.R_new' (Kd.R_new' (Kd.R_new' (Kd.R_new' (Kd.R_new' (Kd.R_new' (Kd.R_new' (Kd.R_new' ho1 (Kd.R_lt (pkR HO_1141005.out))) (Kd.R_lt (pkR HO_1141006.out))) (Kd.R_lt (pkR HO_1153005.out))) (Kd.R_lt (pkR HO_1153006.out))) (Kd.R_lt (pkR HO_1166005.out))) (Kd.R_lt (pkR HO_1166006.out))) (Kd.R_lt (pkR HO1194.out))) (Kd.R_lt (pkR HO1197.out))) (below_size (pkW HB.out))); replace HO_1141005 := am (Kd.R_mono (Kd.R_told (Kd.R_told (Kd.R_old (pkR HO_1141005.out) hb) (Kd.R_base ho0)) (Kd.R_base ho1)) (fun _ h_ => h_.1)); replace HO_1141006 := am (Kd.R_mono (Kd.R_told (Kd.R_told (Kd.R_old (pkR HO_1141006.out) hb) (Kd.R_base ho0)) (Kd.R_base ho1)) (fun _ h_ => h_.1)); replace HO_1153005 := am (Kd.R_mono (Kd.R_told (Kd.R_told (Kd.R_old (pkR HO_1153005.out) hb) (Kd.R_base ho0)) (Kd.R_base ho1)) (fun _ h_ => h_.1)); replace HO_1153006 := am (Kd.R_mono (Kd.R_told (Kd.R_told (Kd.R_old (pkR HO_1153006.out) hb) (Kd.R_base ho0)) (Kd.R_base ho1)) (fun _ h_ => h_.1)); replace HO_1166005 := am (Kd.R_mono (Kd.R_told (Kd.R_told (Kd.R_old (pkR HO_1166005.out) hb) (Kd.R_base ho0)) (Kd.R_base ho1)) (fun _ h_ => h_.1)); replace HO_1166006 := am (Kd.R_mono (Kd.R_told (Kd.R_told (Kd.R_old (pkR HO_1166006.out) hb) (Kd.R_base ho0)) (Kd.R_base ho1)) (fun _ h_ => h_.1)); replace HO1194 := am (Kd.R_mono (Kd.R_told (Kd.R_told (Kd.R_old (pkR HO1194.out) hb) (Kd.R_base ho0)) (Kd.R_base ho1)) (fun _ h_ => h_.1)); replace HO1197 := am (Kd.R_mono (Kd.R_told (Kd.R_told (Kd.R_old (pkR HO1197.out) hb) (Kd.R_base ho0)) (Kd.R_base ho1)) (fun _ h_ => h_.1)); replace BK1115 := am (blk_below (pkK BK1115.out) hb); replace BK1140 := am (blk_below (pkK BK1140.out) hb); replace BK1152 := am (blk_below (pkK BK1152.out) hb); replace BK1165 := am (blk_below (pkK BK1165.out) hb); replace HB := am (below_step (pkW HB.out) hb); (try clear hb ho0 ho1)) | ((with_reducible refine gate_dst (N := 16) rfl ?_); refine box_event ?hg (N := 16) ?hd (cs := #[.int .i64 0, .int .i64 0, .string (⟨#[]⟩ : ByteArray), .int .i64 0, .bool false, .slice none 0 0, .slice none 0 0]) (t := 29) ?hr ?_; (case hd => rfl); (case hg => rfl); (case hr => first | (go_simp; done) | (go_simp; rfl)); intro gb1210 hg w102 hbox hb; replace HO_1141005 := am (Kd.R_below (pkR HO_1141005.out) hb); replace HO_1141006 := am (Kd.R_below (pkR HO_1141006.out) hb); replace HO_1153005 := am (Kd.R_below (pkR HO_1153005.out) hb); replace HO_1153006 := am (Kd.R_below (pkR HO_1153006.out) hb); replace HO_1166005 := am (Kd.R_below (pkR HO_1166005.out) hb); replace HO_1166006 := am (Kd.R_below (pkR HO_1166006.out) hb); replace HO1194 := am (Kd.R_below (pkR HO1194.out) hb); replace HO1197 := am (Kd.R_below (pkR HO1197.out) hb); replace HO1205 := am (Kd.R_below (pkR HO1205.out) hb); replace HO1208 := am (Kd.R_below (pkR HO1208.out) hb); have BK1210 := am (hbox); have GW1210 := am ((by rw [hg]; exact (below_size (pkW HB.out)) : w.heap.size ≤ gb1210)); have GE1210 := am ((by rw [hg]; exact (below_size (pkW HB.out)) : w.heap.size ≤ gb1210)); replace HB := am (below_step (pkW HB.out) hb); have NB1115_1210 := am ((by rw [hg]; exact Nat.ne_of_lt (blk_lt (g := gb1115) (o := .cells #[.int .i64 a0_0, .int .i64 a0_1, .string a0_2, .int .i64 a0_3, .bool a0_4, .slice A0_5 l0_5.length c0_5, .slice A0_6 l0_6.length c0_6] 56 (0, 0)) (pkK BK1115.out)) : gb1115 ≠ gb1210)); have NB1210_1115 := am ((by rw [hg]; exact Nat.ne_of_gt (blk_lt (g := gb1115) (o := .cells #[.int .i64 a0_0, .int .i64 a0_1, .string a0_2, .int .i64 a0_3, .bool a0_4, .slice A0_5 l0_5.length c0_5, .slice A0_6 l0_6.length c0_6] 56 (0, 0)) (pkK BK1115.out)) : gb1210 ≠ gb1115)); replace BK1115 := am (blk_below (pkK BK1115.out) hb); have NB1140_1210 := am ((by rw [hg]; exact Nat.ne_of_lt (blk_lt (g := gb1140) (o := .cells #[.int .i64 t1128, .int .i64 t1129, .string t1130, .int .i64 t1131, .bool t1132, .slice Ao25 t1133.length co25, .slice Ao26 t1136.length co26] 29 (0, 0)) (pkK BK1140.out)) : gb1140 ≠ gb1210)); have NB1210_1140 := am ((by rw [hg]; exact Nat.ne_of_gt (blk_lt (g := gb1140) (o := .cells #[.int .i64 t1128, .int .i64 t1129, .string t1130, .int .i64 t1131, .bool t1132, .slice Ao25 t1133.length co25, .slice Ao26 t1136.length co26] 29 (0, 0)) (pkK BK1140.out)) : gb1210 ≠ gb1140)); replace BK1140 := am (blk_below (pkK BK1140.out) hb); have NB1152_1210 := am ((by rw [hg]; exact Nat.ne_of_lt (blk_lt (g := gb1152) (o := .cells #[.int .i64 t1141, .int .i64 t1142, .string t1143, .int .i64 t1144, .bool t1145, .slice Ao33 t1180.length co33, .slice Ao34 t1181.length co34] 29 (0, 0)) (pkK BK1152.out)) : gb1152 ≠ gb1210)); have NB1210_1152 := am ((by rw [hg]; exact Nat.ne_of_gt (blk_lt (g := gb1152) (o := .cells #[.int .i64 t1141, .int .i64 t1142, .string t1143, .int .i64 t1144, .bool t1145, .slice Ao33 t1180.length co33, .slice Ao34 t1181.length co34] 29 (0, 0)) (pkK BK1152.out)) : gb1210 ≠ gb1152)); replace BK1152 := am (blk_below (pkK BK1152.out) hb); have NB1165_1210 := am ((by rw [hg]; exact Nat.ne_of_lt (blk_lt (g := gb1165) (o := .cells #[.int .i64 t1153, .int .i64 t1154, .string t1155, .int .i64 t1156, .bool t1157, .slice Ao41 t1158.length co41, .slice Ao42 t1161.length co42] 29 (0, 0)) (pkK BK1165.out)) : gb1165 ≠ gb1210)); have NB1210_1165 := am ((by rw [hg]; exact Nat.ne_of_gt (blk_lt (g := gb1165) (o := .cells #[.int .i64 t1153, .int .i64 t1154, .string t1155, .int .i64 t1156, .bool t1157, .slice Ao41 t1158.length co41, .slice Ao42 t1161.length co42] 29 (0, 0)) (pkK BK1165.out)) : gb1210 ≠ gb1165)); replace BK1165 := am (blk_below (pkK BK1165.out) hb); clear hb hbox hg; have hnb103 := NB1210_1115.out; have hnc103 := NB1115_1210.out; have hnb104 := NB1210_1140.out; have hnc104 := NB1140_1210.out; have hnb105 := NB1210_1152.out; have hnc105 := NB1152_1210.out; have hnb106 := NB1210_1165.out; have hnc106 := NB1165_1210.out; obtain ⟨hcz107_0, hcz107_1, hcz107_2, hcz107_3, hcz107_4, hcz107_5, hcz107_6, hfz107_0, hfz107_1, hfz107_2, hfz107_3, hfz107_4, hfz107_5, hfz107_6⟩ := bk7 BK1210.out; obtain ⟨Ao108, co108, eo108⟩ := Kd.R_slice HO1205.out; subst eo108; obtain ⟨Ao109, co109, eo109⟩ := Kd.R_slice HO1208.out; subst eo109))
           (try simp only [Act.put, List.setIfInBounds_toArray, List.set_cons_zero, List.set_cons_succ])
           go_cut [97] (fun v97 wc => ∃ (kq : Nat) (x97_86 : Bool), v97 = .bool x97_86 ∧ Aside0 (laws_FnExactWatch.j2 kq t1183 x97_86 t1153 t1154 t1155 t1156 t1157 t1184 t1185 = some r) ∧ Aside0 (kq ≤ kj57) ∧ Aside0 (Kd.R (Kd.int .i64) 3 wc w.heap.size (fun k_ => some k_ ≠ ((.slice Ao26 t1136.length co26) : Value).ownBlock ∧ some k_ ≠ ((.slice Ao33 t1180.length co33) : Value).ownBlock ∧ some k_ ≠ ((.slice Ao34 t1181.length co34) : Value).ownBlock ∧ some k_ ≠ ((.slice Ao41 t1158.length co41) : Value).ownBlock ∧ some k_ ≠ ((.slice Ao42 t1161.length co42) : Value).ownBlock ∧ some k_ ≠ ((.slice Ao108 t1203.length co108) : Value).ownBlock ∧ some k_ ≠ ((.slice Ao109 t1206.length co109) : Value).ownBlock) (.slice Ao25 t1133.length co25) t1133) ∧ Aside0 (Kd.R (Kd.int .i64) 3 wc w.heap.size (fun k_ => some k_ ≠ ((.slice Ao25 t1133.length co25) : Value).ownBlock ∧ some k_ ≠ ((.slice Ao33 t1180.length co33) : Value).ownBlock ∧ some k_ ≠ ((.slice Ao34 t1181.length co34) : Value).ownBlock ∧ some k_ ≠ ((.slice Ao41 t1158.length co41) : Value).ownBlock ∧ some k_ ≠ ((.slice Ao42 t1161.length co42) : Value).ownBlock ∧ some k_ ≠ ((.slice Ao108 t1203.length co108) : Value).ownBlock ∧ some k_ ≠ ((.slice Ao109 t1206.length co109) : Value).ownBlock) (.slice Ao26 t1136.length co26) t1136) ∧ Aside0 (Kd.R (Kd.int .i64) 3 wc w.heap.size (fun k_ => some k_ ≠ ((.slice Ao25 t1133.length co25) : Value).ownBlock ∧ some k_ ≠ ((.slice Ao26 t1136.length co26) : Value).ownBlock ∧ some k_ ≠ ((.slice Ao34 t1181.length co34) : Value).ownBlock ∧ some k_ ≠ ((.slice Ao41 t1158.length co41) : Value).ownBlock ∧ some k_ ≠ ((.slice Ao42 t1161.length co42) : Value).ownBlock ∧ some k_ ≠ ((.slice Ao108 t1203.length co108) : Value).ownBlock ∧ some k_ ≠ ((.slice Ao109 t1206.length co109) : Value).ownBlock) (.slice Ao33 t1180.length co33) t1180) ∧ Aside0 (Kd.R (Kd.int .i64) 3 wc w.heap.size (fun k_ => some k_ ≠ ((.slice Ao25 t1133.length co25) : Value).ownBlock ∧ some k_ ≠ ((.slice Ao26 t1136.length co26) : Value).ownBlock ∧ some k_ ≠ ((.slice Ao33 t1180.length co33) : Value).ownBlock ∧ some k_ ≠ ((.slice Ao41 t1158.length co41) : Value).ownBlock ∧ some k_ ≠ ((.slice Ao42 t1161.length co42) : Value).ownBlock ∧ some k_ ≠ ((.slice Ao108 t1203.length co108) : Value).ownBlock ∧ some k_ ≠ ((.slice Ao109 t1206.length co109) : Value).ownBlock) (.slice Ao34 t1181.length co34) t1181) ∧ Aside0 (Kd.R (Kd.int .i64) 3 wc w.heap.size (fun k_ => some k_ ≠ ((.slice Ao25 t1133.length co25) : Value).ownBlock ∧ some k_ ≠ ((.slice Ao26 t1136.length co26) : Value).ownBlock ∧ some k_ ≠ ((.slice Ao33 t1180.length co33) : Value).ownBlock ∧ some k_ ≠ ((.slice Ao34 t1181.length co34) : Value).ownBlock ∧ some k_ ≠ ((.slice Ao42 t1161.length co42) : Value).ownBlock ∧ some k_ ≠ ((.slice Ao108 t1203.length co108) : Value).ownBlock ∧ some k_ ≠ ((.slice Ao109 t1206.length co109) : Value).ownBlock) (.slice Ao41 t1158.length co41) t1184) ∧ Aside0 (Kd.R (Kd.int .i64) 3 wc w.heap.size (fun k_ => some k_ ≠ ((.slice Ao25 t1133.length co25) : Value).ownBlock ∧ some k_ ≠ ((.slice Ao26 t1136.length co26) : Value).ownBlock ∧ some k_ ≠ ((.slice Ao33 t1180.length co33) : Value).ownBlock ∧ some k_ ≠ ((.slice Ao34 t1181.length co34) : Value).ownBlock ∧ some k_ ≠ ((.slice Ao41 t1158.length co41) : Value).ownBlock ∧ some k_ ≠ ((.slice Ao108 t1203.length co108) : Value).ownBlock ∧ some k_ ≠ ((.slice Ao109 t1206.length co109) : Value).ownBlock) (.slice Ao42 t1161.length co42) t1185) ∧ Aside0 (Kd.R (Kd.int .i64) 3 wc w.heap.size (fun k_ => some k_ ≠ ((.slice Ao25 t1133.length co25) : Value).ownBlock ∧ some k_ ≠ ((.slice Ao26 t1136.length co26) : Value).ownBlock ∧ some k_ ≠ ((.slice Ao33 t1180.length co33) : Value).ownBlock ∧ some k_ ≠ ((.slice Ao34 t1181.length co34) : Value).ownBlock ∧ some k_ ≠ ((.slice Ao41 t1158.length co41) : Value).ownBlock ∧ some k_ ≠ ((.slice Ao42 t1161.length co42) : Value).ownBlock ∧ some k_ ≠ ((.slice Ao109 t1206.length co109) : Value).ownBlock) (.slice Ao108 t1203.length co108) t1203) ∧ Aside0 (Kd.R (Kd.int .i64) 3 wc w.heap.size (fun k_ => some k_ ≠ ((.slice Ao25 t1133.length co25) : Value).ownBlock ∧ some k_ ≠ ((.slice Ao26 t1136.length co26) : Value).ownBlock ∧ some k_ ≠ ((.slice Ao33 t1180.length co33) : Value).ownBlock ∧ some k_ ≠ ((.slice Ao34 t1181.length co34) : Value).ownBlock ∧ some k_ ≠ ((.slice Ao41 t1158.length co41) : Value).ownBlock ∧ some k_ ≠ ((.slice Ao42 t1161.length co42) : Value).ownBlock ∧ some k_ ≠ ((.slice Ao108 t1203.length co108) : Value).ownBlock) (.slice Ao109 t1206.length co109) t1206) ∧ Aside0 (wc.heap[gb1115]? = some (.cells #[.int .i64 a0_0, .int .i64 a0_1, .string a0_2, .int .i64 a0_3, .bool a0_4, (.slice A0_5 l0_5.length c0_5), (.slice A0_6 l0_6.length c0_6)] 56 (0, 0))) ∧ Aside0 (wc.heap[gb1140]? = some (.cells #[.int .i64 t1128, .int .i64 t1129, .string t1130, .int .i64 t1131, .bool t1132, (.slice Ao25 t1133.length co25), (.slice Ao26 t1136.length co26)] 29 (0, 0))) ∧ Aside0 (wc.heap[gb1152]? = some (.cells #[.int .i64 t1141, .int .i64 t1142, .string t1143, .int .i64 t1144, .bool t1145, (.slice Ao33 t1180.length co33), (.slice Ao34 t1181.length co34)] 29 (0, 0))) ∧ Aside0 (wc.heap[gb1165]? = some (.cells #[.int .i64 t1153, .int .i64 t1154, .string t1155, .int .i64 t1156, .bool t1157, (.slice Ao41 t1158.length co41), (.slice Ao42 t1161.length co42)] 29 (0, 0))) ∧ Aside0 (wc.heap[gb1210]? = some (.cells #[.int .i64 t1198, .int .i64 t1199, .string t1200, .int .i64 t1201, .bool t1202, (.slice Ao108 t1203.length co108), (.slice Ao109 t1206.length co109)] 29 (0, 0))) ∧ Aside0 (Below w.heap.size w wc))
           case first =>
            have H := HC87.out
            clear HC87
            replace H := Option.bind_eq_some_iff.mp H
            obtain ⟨t1211, A1100, H⟩ := H
            replace H : (if t1211 = true then (laws_FnExactWatch.j2 kj57 t1183 (t1209 != t1139) t1153 t1154 t1155 t1156 t1157 t1184 t1185) else (laws_FnExactWatch.j2 kj57 t1183 true t1153 t1154 t1155 t1156 t1157 t1184 t1185)) = some r := H
            have A110 := am A1100
            clear A1100
            by_cases c111 : t1211 = true
            ·subst c111
             replace H : (laws_FnExactWatch.j2 kj57 t1183 (t1209 != t1139) t1153 t1154 t1155 t1156 t1157 t1184 t1185) = some r := by rw [if_pos rfl] at H; exact H
             have H' := am H
             clear H
             have hnb112 := NB1210_1115.out
             have hnc112 := NB1115_1210.out
             have hnb113 := NB1210_1140.out
             have hnc113 := NB1140_1210.out
             have hnb114 := NB1210_1152.out
             have hnc114 := NB1152_1210.out
             have hnb115 := NB1210_1165.out
             have hnc115 := NB1165_1210.out
             obtain ⟨hcz116_0, hcz116_1, hcz116_2, hcz116_3, hcz116_4, hcz116_5, hcz116_6, hfz116_0, hfz116_1, hfz116_2, hfz116_3, hfz116_4, hfz116_5, hfz116_6⟩ := bk7 BK1210.out
             have hnb117 := NB1140_1115.out
             have hnc117 := NB1115_1140.out
             have hnb118 := NB1140_1152.out
             have hnc118 := NB1152_1140.out
             have hnb119 := NB1140_1165.out
             have hnc119 := NB1165_1140.out
             obtain ⟨hcz120_0, hcz120_1, hcz120_2, hcz120_3, hcz120_4, hcz120_5, hcz120_6, hfz120_0, hfz120_1, hfz120_2, hfz120_3, hfz120_4, hfz120_5, hfz120_6⟩ := bk7 BK1140.out
             go_wp2_with (first | ((with_reducible refine gate_callee (f := 34) rfl ?_); refine goesL_ (some 91) rfl rfl Try.func34 (by kernel_rfl) rfl #[.agg #[.int .i64 t1198, .int .i64 t1199, .string t1200, .int .i64 t1201, .bool t1202, .slice Ao108 t1203.length co108, .slice Ao109 t1206.length co109], .agg #[.int .i64 t1128, .int .i64 t1129, .string t1130, .int .i64 t1131, .bool t1132, .slice Ao25 t1133.length co25, .slice Ao26 t1136.length co26]] rfl mpx ?_; (with_reducible refine (laws_eqCell.calls kj57 t1198 t1199 t1200 t1201 t1202 _ _ t1203 _ _ t1206 t1128 t1129 t1130 t1131 t1132 _ _ t1133 _ _ t1136 true _ ?side1 ?side2 ?side3 ?side4 ?side5 ?side6 ?side7 ?side8 A110.out).mono ?_); (case side1 => refine (Kd.R_reads' (e := 3) (base := w.heap.size) (ok := fun k_ => ((((((((some k_ ≠ (.slice Ao109 t1206.length co109 : Value).ownBlock ∧ some k_ ≠ (.slice Ao25 t1133.length co25 : Value).ownBlock) ∧ some k_ ≠ (.slice Ao26 t1136.length co26 : Value).ownBlock) ∧ some k_ ≠ (.slice Ao33 t1180.length co33 : Value).ownBlock) ∧ some k_ ≠ (.slice Ao34 t1181.length co34 : Value).ownBlock) ∧ some k_ ≠ (.slice Ao41 t1158.length co41 : Value).ownBlock) ∧ some k_ ≠ (.slice Ao42 t1161.length co42 : Value).ownBlock) ∧ some k_ ≠ (.slice Ao99 t1192.length co99 : Value).ownBlock) ∧ some k_ ≠ (.slice Ao100 t1195.length co100 : Value).ownBlock)) (n := t1203.length) (c := co108) ?_).2.2; exact (by (with_reducible repeat (first | apply Kd.R_alloc | apply Kd.R_drewN | apply Kd.R_drew)); exact (Kd.R_mono (Kd.R_far (p := ⟨gb1210, 6, none⟩) (Kd.R_far (p := ⟨gb1210, 5, none⟩) (Kd.R_far (p := ⟨gb1210, 4, none⟩) (Kd.R_far (p := ⟨gb1210, 3, none⟩) (Kd.R_far (p := ⟨gb1210, 2, none⟩) (Kd.R_far (p := ⟨gb1210, 1, none⟩) (Kd.R_far (p := ⟨gb1210, 0, none⟩) (Kd.R_types HO1205.out BK1210.out (by decide)) (fun _ hk => hk.2) (.int .i64 t1198)) (fun _ hk => hk.2) (.int .i64 t1199)) (fun _ hk => hk.2) (.string t1200)) (fun _ hk => hk.2) (.int .i64 t1201)) (fun _ hk => hk.2) (.bool t1202)) (fun _ hk => hk.2) (.slice Ao108 t1203.length co108)) (fun _ hk => hk.2) (.slice Ao109 t1206.length co109)) (fun _ h_ => h_.1)))); (case side2 => exact (Kd.R_reads' HO1205.out).2.1); (case side3 => refine (Kd.R_reads' (e := 3) (base := w.heap.size) (ok := fun k_ => ((((((((some k_ ≠ (.slice Ao108 t1203.length co108 : Value).ownBlock ∧ some k_ ≠ (.slice Ao25 t1133.length co25 : Value).ownBlock) ∧ some k_ ≠ (.slice Ao26 t1136.length co26 : Value).ownBlock) ∧ some k_ ≠ (.slice Ao33 t1180.length co33 : Value).ownBlock) ∧ some k_ ≠ (.slice Ao34 t1181.length co34 : Value).ownBlock) ∧ some k_ ≠ (.slice Ao41 t1158.length co41 : Value).ownBlock) ∧ some k_ ≠ (.slice Ao42 t1161.length co42 : Value).ownBlock) ∧ some k_ ≠ (.slice Ao99 t1192.length co99 : Value).ownBlock) ∧ some k_ ≠ (.slice Ao100 t1195.length co100 : Value).ownBlock)) (n := t1206.length) (c := co109) ?_).2.2; exact (by (with_reducible repeat (first | apply Kd.R_alloc | apply Kd.R_drewN | apply Kd.R_drew)); exact (Kd.R_mono (Kd.R_far (p := ⟨gb1210, 6, none⟩) (Kd.R_far (p := ⟨gb1210, 5, none⟩) (Kd.R_far (p := ⟨gb1210, 4, none⟩) (Kd.R_far (p := ⟨gb1210, 3, none⟩) (Kd.R_far (p := ⟨gb1210, 2, none⟩) (Kd.R_far (p := ⟨gb1210, 1, none⟩) (Kd.R_far (p := ⟨gb1210, 0, none⟩) (Kd.R_types HO1208.out BK1210.out (by decide)) (fun _ hk => hk.2) (.int .i64 t1198)) (fun _ hk => hk.2) (.int .i64 t1199)) (fun _ hk => hk.2) (.string t1200)) (fun _ hk => hk.2) (.int .i64 t1201)) (fun _ hk => hk.2) (.bool t1202)) (fun _ hk => hk.2) (.slice Ao108 t1203.length co108)) (fun _ hk => hk.2) (.slice Ao109 t1206.length co109)) (fun _ h_ => h_.1)))); (case side4 => exact (Kd.R_reads' HO1208.out).2.1); (case side5 => refine (Kd.R_reads' (e := 3) (base := w.heap.size) (ok := fun k_ => (((((some k_ ≠ (.slice Ao26 t1136.length co26 : Value).ownBlock ∧ (some k_ ≠ (.slice Ao33 t1180.length co33 : Value).ownBlock ∧ (some k_ ≠ (.slice Ao34 t1181.length co34 : Value).ownBlock ∧ (some k_ ≠ (.slice Ao41 t1158.length co41 : Value).ownBlock ∧ some k_ ≠ (.slice Ao42 t1161.length co42 : Value).ownBlock)))) ∧ some k_ ≠ (.slice Ao99 t1192.length co99 : Value).ownBlock) ∧ some k_ ≠ (.slice Ao100 t1195.length co100 : Value).ownBlock) ∧ some k_ ≠ (.slice Ao108 t1203.length co108 : Value).ownBlock) ∧ some k_ ≠ (.slice Ao109 t1206.length co109 : Value).ownBlock)) (n := t1133.length) (c := co25) ?_).2.2; exact (by (with_reducible repeat (first | apply Kd.R_alloc | apply Kd.R_drewN | apply Kd.R_drew)); exact (Kd.R_mono (Kd.R_far (p := ⟨gb1210, 6, none⟩) (Kd.R_far (p := ⟨gb1210, 5, none⟩) (Kd.R_far (p := ⟨gb1210, 4, none⟩) (Kd.R_far (p := ⟨gb1210, 3, none⟩) (Kd.R_far (p := ⟨gb1210, 2, none⟩) (Kd.R_far (p := ⟨gb1210, 1, none⟩) (Kd.R_far (p := ⟨gb1210, 0, none⟩) (Kd.R_types HO_1141005.out BK1210.out (by decide)) (fun _ hk => hk.2) (.int .i64 t1198)) (fun _ hk => hk.2) (.int .i64 t1199)) (fun _ hk => hk.2) (.string t1200)) (fun _ hk => hk.2) (.int .i64 t1201)) (fun _ hk => hk.2) (.bool t1202)) (fun _ hk => hk.2) (.slice Ao108 t1203.length co108)) (fun _ hk => hk.2) (.slice Ao109 t1206.length co109)) (fun _ h_ => h_.1)))); (case side6 => exact (Kd.R_reads' HO_1141005.out).2.1); (case side7 => refine (Kd.R_reads' (e := 3) (base := w.heap.size) (ok := fun k_ => (((((some k_ ≠ (.slice Ao25 t1133.length co25 : Value).ownBlock ∧ (some k_ ≠ (.slice Ao33 t1180.length co33 : Value).ownBlock ∧ (some k_ ≠ (.slice Ao34 t1181.length co34 : Value).ownBlock ∧ (some k_ ≠ (.slice Ao41 t1158.length co41 : Value).ownBlock ∧ some k_ ≠ (.slice Ao42 t1161.length co42 : Value).ownBlock)))) ∧ some k_ ≠ (.slice Ao99 t1192.length co99 : Value).ownBlock) ∧ some k_ ≠ (.slice Ao100 t1195.length co100 : Value).ownBlock) ∧ some k_ ≠ (.slice Ao108 t1203.length co108 : Value).ownBlock) ∧ some k_ ≠ (.slice Ao109 t1206.length co109 : Value).ownBlock)) (n := t1136.length) (c := co26) ?_).2.2; exact (by (with_reducible repeat (first | apply Kd.R_alloc | apply Kd.R_drewN | apply Kd.R_drew)); exact (Kd.R_mono (Kd.R_far (p := ⟨gb1210, 6, none⟩) (Kd.R_far (p := ⟨gb1210, 5, none⟩) (Kd.R_far (p := ⟨gb1210, 4, none⟩) (Kd.R_far (p := ⟨gb1210, 3, none⟩) (Kd.R_far (p := ⟨gb1210, 2, none⟩) (Kd.R_far (p := ⟨gb1210, 1, none⟩) (Kd.R_far (p := ⟨gb1210, 0, none⟩) (Kd.R_types HO_1141006.out BK1210.out (by decide)) (fun _ hk => hk.2) (.int .i64 t1198)) (fun _ hk => hk.2) (.int .i64 t1199)) (fun _ hk => hk.2) (.string t1200)) (fun _ hk => hk.2) (.int .i64 t1201)) (fun _ hk => hk.2) (.bool t1202)) (fun _ hk => hk.2) (.slice Ao108 t1203.length co108)) (fun _ hk => hk.2) (.slice Ao109 t1206.length co109)) (fun _ h_ => h_.1)))); (case side8 => exact (Kd.R_reads' HO_1141006.out).2.1); rintro e w121 ⟨rfl, hb⟩; refine ⟨_, rfl, ?_⟩; replace HO_1141005 := am (Kd.R_below (by (with_reducible repeat (first | apply Kd.R_alloc | apply Kd.R_drewN | apply Kd.R_drew)); exact (Kd.R_mono (Kd.R_far (p := ⟨gb1210, 6, none⟩) (Kd.R_far (p := ⟨gb1210, 5, none⟩) (Kd.R_far (p := ⟨gb1210, 4, none⟩) (Kd.R_far (p := ⟨gb1210, 3, none⟩) (Kd.R_far (p := ⟨gb1210, 2, none⟩) (Kd.R_far (p := ⟨gb1210, 1, none⟩) (Kd.R_far (p := ⟨gb1210, 0, none⟩) (Kd.R_types HO_1141005.out BK1210.out (by decide)) (fun _ hk => hk.2) (.int .i64 t1198)) (fun _ hk => hk.2) (.int .i64 t1199)) (fun _ hk => hk.2) (.string t1200)) (fun _ hk => hk.2) (.int .i64 t1201)) (fun _ hk => hk.2) (.bool t1202)) (fun _ hk => hk.2) (.slice Ao108 t1203.length co108)) (fun _ hk => hk.2) (.slice Ao109 t1206.length co109)) (fun _ h_ => h_.1))) hb); replace HO_1141006 := am (Kd.R_below (by (with_reducible repeat (first | apply Kd.R_alloc | apply Kd.R_drewN | apply Kd.R_drew)); exact (Kd.R_mono (Kd.R_far (p := ⟨gb1210, 6, none⟩) (Kd.R_far (p := ⟨gb1210, 5, none⟩) (Kd.R_far (p := ⟨gb1210, 4, none⟩) (Kd.R_far (p := ⟨gb1210, 3, none⟩) (Kd.R_far (p := ⟨gb1210, 2, none⟩) (Kd.R_far (p := ⟨gb1210, 1, none⟩) (Kd.R_far (p := ⟨gb1210, 0, none⟩) (Kd.R_types HO_1141006.out BK1210.out (by decide)) (fun _ hk => hk.2) (.int .i64 t1198)) (fun _ hk => hk.2) (.int .i64 t1199)) (fun _ hk => hk.2) (.string t1200)) (fun _ hk => hk.2) (.int .i64 t1201)) (fun _ hk => hk.2) (.bool t1202)) (fun _ hk => hk.2) (.slice Ao108 t1203.length co108)) (fun _ hk => hk.2) (.slice Ao109 t1206.length co109)) (fun _ h_ => h_.1))) hb); replace HO_1153005 := am (Kd.R_below (by (with_reducible repeat (first | apply Kd.R_alloc | apply Kd.R_drewN | apply Kd.R_drew)); exact (Kd.R_mono (Kd.R_far (p := ⟨gb1210, 6, none⟩) (Kd.R_far (p := ⟨gb1210, 5, none⟩) (Kd.R_far (p := ⟨gb1210, 4, none⟩) (Kd.R_far (p := ⟨gb1210, 3, none⟩) (Kd.R_far (p := ⟨gb1210, 2, none⟩) (Kd.R_far (p := ⟨gb1210, 1, none⟩) (Kd.R_far (p := ⟨gb1210, 0, none⟩) (Kd.R_types HO_1153005.out BK1210.out (by decide)) (fun _ hk => hk.2) (.int .i64 t1198)) (fun _ hk => hk.2) (.int .i64 t1199)) (fun _ hk => hk.2) (.string t1200)) (fun _ hk => hk.2) (.int .i64 t1201)) (fun _ hk => hk.2) (.bool t1202)) (fun _ hk => hk.2) (.slice Ao108 t1203.length co108)) (fun _ hk => hk.2) (.slice Ao109 t1206.length co109)) (fun _ h_ => h_.1))) hb); replace HO_1153006 := am (Kd.R_below (by (with_reducible repeat (first | apply Kd.R_alloc | apply Kd.R_drewN | apply Kd.R_drew)); exact (Kd.R_mono (Kd.R_far (p := ⟨gb1210, 6, none⟩) (Kd.R_far (p := ⟨gb1210, 5, none⟩) (Kd.R_far (p := ⟨gb1210, 4, none⟩) (Kd.R_far (p := ⟨gb1210, 3, none⟩) (Kd.R_far (p := ⟨gb1210, 2, none⟩) (Kd.R_far (p := ⟨gb1210, 1, none⟩) (Kd.R_far (p := ⟨gb1210, 0, none⟩) (Kd.R_types HO_1153006.out BK1210.out (by decide)) (fun _ hk => hk.2) (.int .i64 t1198)) (fun _ hk => hk.2) (.int .i64 t1199)) (fun _ hk => hk.2) (.string t1200)) (fun _ hk => hk.2) (.int .i64 t1201)) (fun _ hk => hk.2) (.bool t1202)) (fun _ hk => hk.2) (.slice Ao108 t1203.length co108)) (fun _ hk => hk.2) (.slice Ao109 t1206.length co109)) (fun _ h_ => h_.1))) hb); replace HO_1166005 := am (Kd.R_below (by (with_reducible repeat (first | apply Kd.R_alloc | apply Kd.R_drewN | apply Kd.R_drew)); exact (Kd.R_mono (Kd.R_far (p := ⟨gb1210, 6, none⟩) (Kd.R_far (p := ⟨gb1210, 5, none⟩) (Kd.R_far (p := ⟨gb1210, 4, none⟩) (Kd.R_far (p := ⟨gb1210, 3, none⟩) (Kd.R_far (p := ⟨gb1210, 2, none⟩) (Kd.R_far (p := ⟨gb1210, 1, none⟩) (Kd.R_far (p := ⟨gb1210, 0, none⟩) (Kd.R_types HO_1166005.out BK1210.out (by decide)) (fun _ hk => hk.2) (.int .i64 t1198)) (fun _ hk => hk.2) (.int .i64 t1199)) (fun _ hk => hk.2) (.string t1200)) (fun _ hk => hk.2) (.int .i64 t1201)) (fun _ hk => hk.2) (.bool t1202)) (fun _ hk => hk.2) (.slice Ao108 t1203.length co108)) (fun _ hk => hk.2) (.slice Ao109 t1206.length co109)) (fun _ h_ => h_.1))) hb); replace HO_1166006 := am (Kd.R_below (by (with_reducible repeat (first | apply Kd.R_alloc | apply Kd.R_drewN | apply Kd.R_drew)); exact (Kd.R_mono (Kd.R_far (p := ⟨gb1210, 6, none⟩) (Kd.R_far (p := ⟨gb1210, 5, none⟩) (Kd.R_far (p := ⟨gb1210, 4, none⟩) (Kd.R_far (p := ⟨gb1210, 3, none⟩) (Kd.R_far (p := ⟨gb1210, 2, none⟩) (Kd.R_far (p := ⟨gb1210, 1, none⟩) (Kd.R_far (p := ⟨gb1210, 0, none⟩) (Kd.R_types HO_1166006.out BK1210.out (by decide)) (fun _ hk => hk.2) (.int .i64 t1198)) (fun _ hk => hk.2) (.int .i64 t1199)) (fun _ hk => hk.2) (.string t1200)) (fun _ hk => hk.2) (.int .i64 t1201)) (fun _ hk => hk.2) (.bool t1202)) (fun _ hk => hk.2) (.slice Ao108 t1203.length co108)) (fun _ hk => hk.2) (.slice Ao109 t1206.length co109)) (fun _ h_ => h_.1))) hb); replace HO1194 := am (Kd.R_below (by (with_reducible repeat (first | apply Kd.R_alloc | apply Kd.R_drewN | apply Kd.R_drew)); exact (Kd.R_mono (Kd.R_far (p := ⟨gb1210, 6, none⟩) (Kd.R_far (p := ⟨gb1210, 5, none⟩) (Kd.R_far (p := ⟨gb1210, 4, none⟩) (Kd.R_far (p := ⟨gb1210, 3, none⟩) (Kd.R_far (p := ⟨gb1210, 2, none⟩) (Kd.R_far (p := ⟨gb1210, 1, none⟩) (Kd.R_far (p := ⟨gb1210, 0, none⟩) (Kd.R_types HO1194.out BK1210.out (by decide)) (fun _ hk => hk.2) (.int .i64 t1198)) (fun _ hk => hk.2) (.int .i64 t1199)) (fun _ hk => hk.2) (.string t1200)) (fun _ hk => hk.2) (.int .i64 t1201)) (fun _ hk => hk.2) (.bool t1202)) (fun _ hk => hk.2) (.slice Ao108 t1203.length co108)) (fun _ hk => hk.2) (.slice Ao109 t1206.length co109)) (fun _ h_ => h_.1))) hb); replace HO1197 := am (Kd.R_below (by (with_reducible repeat (first | apply Kd.R_alloc | apply Kd.R_drewN | apply Kd.R_drew)); exact (Kd.R_mono (Kd.R_far (p := ⟨gb1210, 6, none⟩) (Kd.R_far (p := ⟨gb1210, 5, none⟩) (Kd.R_far (p := ⟨gb1210, 4, none⟩) (Kd.R_far (p := ⟨gb1210, 3, none⟩) (Kd.R_far (p := ⟨gb1210, 2, none⟩) (Kd.R_far (p := ⟨gb1210, 1, none⟩) (Kd.R_far (p := ⟨gb1210, 0, none⟩) (Kd.R_types HO1197.out BK1210.out (by decide)) (fun _ hk => hk.2) (.int .i64 t1198)) (fun _ hk => hk.2) (.int .i64 t1199)) (fun _ hk => hk.2) (.string t1200)) (fun _ hk => hk.2) (.int .i64 t1201)) (fun _ hk => hk.2) (.bool t1202)) (fun _ hk => hk.2) (.slice Ao108 t1203.length co108)) (fun _ hk => hk.2) (.slice Ao109 t1206.length co109)) (fun _ h_ => h_.1))) hb); replace HO1205 := am (Kd.R_below (by (with_reducible repeat (first | apply Kd.R_alloc | apply Kd.R_drewN | apply Kd.R_drew)); exact (Kd.R_mono (Kd.R_far (p := ⟨gb1210, 6, none⟩) (Kd.R_far (p := ⟨gb1210, 5, none⟩) (Kd.R_far (p := ⟨gb1210, 4, none⟩) (Kd.R_far (p := ⟨gb1210, 3, none⟩) (Kd.R_far (p := ⟨gb1210, 2, none⟩) (Kd.R_far (p := ⟨gb1210, 1, none⟩) (Kd.R_far (p := ⟨gb1210, 0, none⟩) (Kd.R_types HO1205.out BK1210.out (by decide)) (fun _ hk => hk.2) (.int .i64 t1198)) (fun _ hk => hk.2) (.int .i64 t1199)) (fun _ hk => hk.2) (.string t1200)) (fun _ hk => hk.2) (.int .i64 t1201)) (fun _ hk => hk.2) (.bool t1202)) (fun _ hk => hk.2) (.slice Ao108 t1203.length co108)) (fun _ hk => hk.2) (.slice Ao109 t1206.length co109)) (fun _ h_ => h_.1))) hb); replace HO1208 := am (Kd.R_below (by (with_reducible repeat (first | apply Kd.R_alloc | apply Kd.R_drewN | apply Kd.R_drew)); exact (Kd.R_mono (Kd.R_far (p := ⟨gb1210, 6, none⟩) (Kd.R_far (p := ⟨gb1210, 5, none⟩) (Kd.R_far (p := ⟨gb1210, 4, none⟩) (Kd.R_far (p := ⟨gb1210, 3, none⟩) (Kd.R_far (p := ⟨gb1210, 2, none⟩) (Kd.R_far (p := ⟨gb1210, 1, none⟩) (Kd.R_far (p := ⟨gb1210, 0, none⟩) (Kd.R_types HO1208.out BK1210.out (by decide)) (fun _ hk => hk.2) (.int .i64 t1198)) (fun _ hk => hk.2) (.int .i64 t1199)) (fun _ hk => hk.2) (.string t1200)) (fun _ hk => hk.2) (.int .i64 t1201)) (fun _ hk => hk.2) (.bool t1202)) (fun _ hk => hk.2) (.slice Ao108 t1203.length co108)) (fun _ hk => hk.2) (.slice Ao109 t1206.length co109)) (fun _ h_ => h_.1))) hb); replace BK1115 := am (blk_below (g := gb1115) (o := .cells #[.int .i64 a0_0, .int .i64 a0_1, .string a0_2, .int .i64 a0_3, .bool a0_4, .slice A0_5 l0_5.length c0_5, .slice A0_6 l0_6.length c0_6] 56 (0, 0)) (by (with_reducible repeat (first | refine blk_drewN ?_ _ | refine blk_drew ?_ | refine blk_alloc ?_ _)); refine blk_far ?_ NB1115_1210.out _; (with_reducible repeat (first | refine blk_drewN ?_ _ | refine blk_drew ?_ | refine blk_alloc ?_ _)); refine blk_far ?_ NB1115_1210.out _; (with_reducible repeat (first | refine blk_drewN ?_ _ | refine blk_drew ?_ | refine blk_alloc ?_ _)); refine blk_far ?_ NB1115_1210.out _; (with_reducible repeat (first | refine blk_drewN ?_ _ | refine blk_drew ?_ | refine blk_alloc ?_ _)); refine blk_far ?_ NB1115_1210.out _; (with_reducible repeat (first | refine blk_drewN ?_ _ | refine blk_drew ?_ | refine blk_alloc ?_ _)); refine blk_far ?_ NB1115_1210.out _; (with_reducible repeat (first | refine blk_drewN ?_ _ | refine blk_drew ?_ | refine blk_alloc ?_ _)); refine blk_far ?_ NB1115_1210.out _; (with_reducible repeat (first | refine blk_drewN ?_ _ | refine blk_drew ?_ | refine blk_alloc ?_ _)); refine blk_far ?_ NB1115_1210.out _; exact pkK BK1115.out) hb); replace BK1140 := am (blk_below (g := gb1140) (o := .cells #[.int .i64 t1128, .int .i64 t1129, .string t1130, .int .i64 t1131, .bool t1132, .slice Ao25 t1133.length co25, .slice Ao26 t1136.length co26] 29 (0, 0)) (by (with_reducible repeat (first | refine blk_drewN ?_ _ | refine blk_drew ?_ | refine blk_alloc ?_ _)); refine blk_far ?_ NB1140_1210.out _; (with_reducible repeat (first | refine blk_drewN ?_ _ | refine blk_drew ?_ | refine blk_alloc ?_ _)); refine blk_far ?_ NB1140_1210.out _; (with_reducible repeat (first | refine blk_drewN ?_ _ | refine blk_drew ?_ | refine blk_alloc ?_ _)); refine blk_far ?_ NB1140_1210.out _; (with_reducible repeat (first | refine blk_drewN ?_ _ | refine blk_drew ?_ | refine blk_alloc ?_ _)); refine blk_far ?_ NB1140_1210.out _; (with_reducible repeat (first | refine blk_drewN ?_ _ | refine blk_drew ?_ | refine blk_alloc ?_ _)); refine blk_far ?_ NB1140_1210.out _; (with_reducible repeat (first | refine blk_drewN ?_ _ | refine blk_drew ?_ | refine blk_alloc ?_ _)); refine blk_far ?_ NB1140_1210.out _; (with_reducible repeat (first | refine blk_drewN ?_ _ | refine blk_drew ?_ | refine blk_alloc ?_ _)); refine blk_far ?_ NB1140_1210.out _; exact pkK BK1140.out) hb); replace BK1152 := am (blk_below (g := gb1152) (o := .cells #[.int .i64 t1141, .int .i64 t1142, .string t1143, .int .i64 t1144, .bool t1145, .slice Ao33 t1180.length co33, .slice Ao34 t1181.length co34] 29 (0, 0)) (by (with_reducible repeat (first | refine blk_drewN ?_ _ | refine blk_drew ?_ | refine blk_alloc ?_ _)); refine blk_far ?_ NB1152_1210.out _; (with_reducible repeat (first | refine blk_drewN ?_ _ | refine blk_drew ?_ | refine blk_alloc ?_ _)); refine blk_far ?_ NB1152_1210.out _; (with_reducible repeat (first | refine blk_drewN ?_ _ | refine blk_drew ?_ | refine blk_alloc ?_ _)); refine blk_far ?_ NB1152_1210.out _; (with_reducible repeat (first | refine blk_drewN ?_ _ | refine blk_drew ?_ | refine blk_alloc ?_ _)); refine blk_far ?_ NB1152_1210.out _; (with_reducible repeat (first | refine blk_drewN ?_ _ | refine blk_drew ?_ | refine blk_alloc ?_ _)); refine blk_far ?_ NB1152_1210.out _; (with_reducible repeat (first | refine blk_drewN ?_ _ | refine blk_drew ?_ | refine blk_alloc ?_ _)); refine blk_far ?_ NB1152_1210.out _; (with_reducible repeat (first | refine blk_drewN ?_ _ | refine blk_drew ?_ | refine blk_alloc ?_ _)); refine blk_far ?_ NB1152_1210.out _; exact pkK BK1152.out) hb); replace BK1165 := am (blk_below (g := gb1165) (o := .cells #[.int .i64 t1153, .int .i64 t1154, .string t1155, .int .i64 t1156, .bool t1157, .slice Ao41 t1158.length co41, .slice Ao42 t1161.length co42] 29 (0, 0)) (by (with_reducible repeat (first | refine blk_drewN ?_ _ | refine blk_drew ?_ | refine blk_alloc ?_ _)); refine blk_far ?_ NB1165_1210.out _; (with_reducible repeat (first | refine blk_drewN ?_ _ | refine blk_drew ?_ | refine blk_alloc ?_ _)); refine blk_far ?_ NB1165_1210.out _; (with_reducible repeat (first | refine blk_drewN ?_ _ | refine blk_drew ?_ | refine blk_alloc ?_ _)); refine blk_far ?_ NB1165_1210.out _; (with_reducible repeat (first | refine blk_drewN ?_ _ | refine blk_drew ?_ | refine blk_alloc ?_ _)); refine blk_far ?_ NB1165_1210.out _; (with_reducible repeat (first | refine blk_drewN ?_ _ | refine blk_drew ?_ | refine blk_alloc ?_ _)); refine blk_far ?_ NB1165_1210.out _; (with_reducible repeat (first | refine blk_drewN ?_ _ | refine blk_drew ?_ | refine blk_alloc ?_ _)); refine blk_far ?_ NB1165_1210.out _; (with_reducible repeat (first | refine blk_drewN ?_ _ | refine blk_drew ?_ | refine blk_alloc ?_ _)); refine blk_far ?_ NB1165_1210.out _; exact pkK BK1165.out) hb); replace BK1210 := am (blk_below (g := gb1210) (o := .cells #[.int .i64 t1198, .int .i64 t1199, .string t1200, .int .i64 t1201, .bool t1202, .slice Ao108 t1203.length co108, .slice Ao109 t1206.length co109] 29 (0, 0)) (by (with_reducible repeat (first | refine blk_drewN ?_ _ | refine blk_drew ?_ | refine blk_alloc ?_ _)); refine blk_put (cs := #[.int .i64 t1198, .int .i64 t1199, .string t1200, .int .i64 t1201, .bool t1202, .slice Ao108 t1203.length co108, .slice none 0 0]) ?_ 6 _ rfl; (with_reducible repeat (first | refine blk_drewN ?_ _ | refine blk_drew ?_ | refine blk_alloc ?_ _)); refine blk_put (cs := #[.int .i64 t1198, .int .i64 t1199, .string t1200, .int .i64 t1201, .bool t1202, .slice none 0 0, .slice none 0 0]) ?_ 5 _ rfl; (with_reducible repeat (first | refine blk_drewN ?_ _ | refine blk_drew ?_ | refine blk_alloc ?_ _)); refine blk_put (cs := #[.int .i64 t1198, .int .i64 t1199, .string t1200, .int .i64 t1201, .bool false, .slice none 0 0, .slice none 0 0]) ?_ 4 _ rfl; (with_reducible repeat (first | refine blk_drewN ?_ _ | refine blk_drew ?_ | refine blk_alloc ?_ _)); refine blk_put (cs := #[.int .i64 t1198, .int .i64 t1199, .string t1200, .int .i64 0, .bool false, .slice none 0 0, .slice none 0 0]) ?_ 3 _ rfl; (with_reducible repeat (first | refine blk_drewN ?_ _ | refine blk_drew ?_ | refine blk_alloc ?_ _)); refine blk_put (cs := #[.int .i64 t1198, .int .i64 t1199, .string (⟨#[]⟩ : ByteArray), .int .i64 0, .bool false, .slice none 0 0, .slice none 0 0]) ?_ 2 _ rfl; (with_reducible repeat (first | refine blk_drewN ?_ _ | refine blk_drew ?_ | refine blk_alloc ?_ _)); refine blk_put (cs := #[.int .i64 t1198, .int .i64 0, .string (⟨#[]⟩ : ByteArray), .int .i64 0, .bool false, .slice none 0 0, .slice none 0 0]) ?_ 1 _ rfl; (with_reducible repeat (first | refine blk_drewN ?_ _ | refine blk_drew ?_ | refine blk_alloc ?_ _)); refine blk_put (cs := #[.int .i64 0, .int .i64 0, .string (⟨#[]⟩ : ByteArray), .int .i64 0, .bool false, .slice none 0 0, .slice none 0 0]) ?_ 0 _ rfl; exact pkK BK1210.out) hb); replace HB := am (below_step (pkW HB.out) hb); (try clear hb)))
             go_meet
             case rel => exact ⟨_, ((t1209 != t1139)), rfx, H', ⟨by have := HJ12.out; have := HJ57.out; first | omega | exact Nat.le_refl _⟩, ⟨by (try simp only [hl1153005_57]); (try simp only [hl1153006_57]); (with_reducible repeat (first | apply Kd.R_alloc | apply Kd.R_drewN | apply Kd.R_drew)); exact Kd.R_mono HO_1141005.out (fun _ hk => ⟨hk.1.1.1.1.1, ⟨hk.1.1.1.1.2.1, ⟨hk.1.1.1.1.2.2.1, ⟨hk.1.1.1.1.2.2.2.1, ⟨hk.1.1.1.1.2.2.2.2, ⟨hk.1.2, hk.2⟩⟩⟩⟩⟩⟩)⟩, ⟨by (try simp only [hl1153005_57]); (try simp only [hl1153006_57]); (with_reducible repeat (first | apply Kd.R_alloc | apply Kd.R_drewN | apply Kd.R_drew)); exact Kd.R_mono HO_1141006.out (fun _ hk => ⟨hk.1.1.1.1.1, ⟨hk.1.1.1.1.2.1, ⟨hk.1.1.1.1.2.2.1, ⟨hk.1.1.1.1.2.2.2.1, ⟨hk.1.1.1.1.2.2.2.2, ⟨hk.1.2, hk.2⟩⟩⟩⟩⟩⟩)⟩, ⟨by (try simp only [hl1153005_57]); (try simp only [hl1153006_57]); (with_reducible repeat (first | apply Kd.R_alloc | apply Kd.R_drewN | apply Kd.R_drew)); exact Kd.R_mono HO_1153005.out (fun _ hk => ⟨hk.1.1.1.1.1, ⟨hk.1.1.1.1.2.1, ⟨hk.1.1.1.1.2.2.1, ⟨hk.1.1.1.1.2.2.2.1, ⟨hk.1.1.1.1.2.2.2.2, ⟨hk.1.2, hk.2⟩⟩⟩⟩⟩⟩)⟩, ⟨by (try simp only [hl1153005_57]); (try simp only [hl1153006_57]); (with_reducible repeat (first | apply Kd.R_alloc | apply Kd.R_drewN | apply Kd.R_drew)); exact Kd.R_mono HO_1153006.out (fun _ hk => ⟨hk.1.1.1.1.1, ⟨hk.1.1.1.1.2.1, ⟨hk.1.1.1.1.2.2.1, ⟨hk.1.1.1.1.2.2.2.1, ⟨hk.1.1.1.1.2.2.2.2, ⟨hk.1.2, hk.2⟩⟩⟩⟩⟩⟩)⟩, ⟨by (try simp only [hl1153005_57]); (try simp only [hl1153006_57]); (with_reducible repeat (first | apply Kd.R_alloc | apply Kd.R_drewN | apply Kd.R_drew)); exact Kd.R_mono HO_1166005.out (fun _ hk => ⟨hk.1.1.1.1.1, ⟨hk.1.1.1.1.2.1, ⟨hk.1.1.1.1.2.2.1, ⟨hk.1.1.1.1.2.2.2.1, ⟨hk.1.1.1.1.2.2.2.2, ⟨hk.1.2, hk.2⟩⟩⟩⟩⟩⟩)⟩, ⟨by (try simp only [hl1153005_57]); (try simp only [hl1153006_57]); (with_reducible repeat (first | apply Kd.R_alloc | apply Kd.R_drewN | apply Kd.R_drew)); exact Kd.R_mono HO_1166006.out (fun _ hk => ⟨hk.1.1.1.1.1, ⟨hk.1.1.1.1.2.1, ⟨hk.1.1.1.1.2.2.1, ⟨hk.1.1.1.1.2.2.2.1, ⟨hk.1.1.1.1.2.2.2.2, ⟨hk.1.2, hk.2⟩⟩⟩⟩⟩⟩)⟩, ⟨by (try simp only [hl1153005_57]); (try simp only [hl1153006_57]); (with_reducible repeat (first | apply Kd.R_alloc | apply Kd.R_drewN | apply Kd.R_drew)); exact Kd.R_mono HO1205.out (fun _ hk => ⟨hk.1.1.1.1.1.1.1.2, ⟨hk.1.1.1.1.1.1.2, ⟨hk.1.1.1.1.1.2, ⟨hk.1.1.1.1.2, ⟨hk.1.1.1.2, ⟨hk.1.1.2, hk.1.1.1.1.1.1.1.1⟩⟩⟩⟩⟩⟩)⟩, ⟨by (try simp only [hl1153005_57]); (try simp only [hl1153006_57]); (with_reducible repeat (first | apply Kd.R_alloc | apply Kd.R_drewN | apply Kd.R_drew)); exact Kd.R_mono HO1208.out (fun _ hk => ⟨hk.1.1.1.1.1.1.1.2, ⟨hk.1.1.1.1.1.1.2, ⟨hk.1.1.1.1.1.2, ⟨hk.1.1.1.1.2, ⟨hk.1.1.1.2, ⟨hk.1.1.2, hk.1.1.1.1.1.1.1.1⟩⟩⟩⟩⟩⟩)⟩, ⟨by (try simp only [hl1153005_57]); (try simp only [hl1153006_57]); exact pkK BK1115.out⟩, ⟨by (try simp only [hl1153005_57]); (try simp only [hl1153006_57]); exact pkK BK1140.out⟩, ⟨by (try simp only [hl1153005_57]); (try simp only [hl1153006_57]); exact pkK BK1152.out⟩, ⟨by (try simp only [hl1153005_57]); (try simp only [hl1153006_57]); exact pkK BK1165.out⟩, ⟨by (try simp only [hl1153005_57]); (try simp only [hl1153006_57]); exact pkK BK1210.out⟩, ⟨pkW HB.out⟩⟩
            ·replace c111 := Bool.eq_false_iff.mpr c111
             subst c111
             replace H : (laws_FnExactWatch.j2 kj57 t1183 true t1153 t1154 t1155 t1156 t1157 t1184 t1185) = some r := by rw [if_neg (show ¬ (false = true) by decide)] at H; exact H
             cases kj57 with
             | zero => exact absurd H (by simp [laws_FnExactWatch.j2])
             | succ k_ => (simp only [laws_FnExactWatch.j2, if_pos] at H; exact absurd (Option.some.inj H) (by rw [HQ_.out]; simp))
           case rest =>
            clear HC87
            try clear c1
            try clear c2
            try clear p2
            try clear c3
            try clear c4
            try clear c5
            try clear c5b0
            try clear c6
            try clear c7
            try clear c8
            try clear c9
            try clear c10
            try clear c11
            try clear c12
            try clear c20
            try clear c23
            try clear c30
            try clear c31
            try clear c32
            try clear c34
            try clear c37
            try clear c38
            try clear c39
            try clear c44
            try clear c45
            try clear c46
            try clear c47
            try clear c48
            try clear c49
            try clear c50
            try clear c53
            try clear c56
            try clear c64
            try clear c65
            try clear c66
            try clear c69
            try clear c69b0
            try clear c71
            try clear c72
            try clear c73
            try clear c74
            try clear c76
            try clear c77
            try clear c80
            try clear c83
            try clear c83b0
            try clear c84
            try clear c84b0
            try clear c84b1
            try clear c88
            try clear c89
            try clear c90
            try clear c95
            try clear c96
            try clear c103
            try clear c104
            try clear c105
            try clear c106
            try clear c111
            try clear c112
            try clear c113
            try clear c114
            try clear c115
            try clear c117
            try clear c118
            try clear c119
            try clear hcz107_0
            try clear hcz107_1
            try clear hcz107_2
            try clear hcz107_3
            try clear hcz107_4
            try clear hcz107_5
            try clear hcz107_6
            try clear hcz116_0
            try clear hcz116_1
            try clear hcz116_2
            try clear hcz116_3
            try clear hcz116_4
            try clear hcz116_5
            try clear hcz116_6
            try clear hcz120_0
            try clear hcz120_1
            try clear hcz120_2
            try clear hcz120_3
            try clear hcz120_4
            try clear hcz120_5
            try clear hcz120_6
            try clear hcz15_0
            try clear hcz15_1
            try clear hcz15_2
            try clear hcz15_3
            try clear hcz15_4
            try clear hcz15_5
            try clear hcz15_6
            try clear hcz17_0
            try clear hcz17_1
            try clear hcz17_2
            try clear hcz17_3
            try clear hcz17_4
            try clear hcz17_5
            try clear hcz17_6
            try clear hcz24_0
            try clear hcz24_1
            try clear hcz24_2
            try clear hcz24_3
            try clear hcz24_4
            try clear hcz24_5
            try clear hcz24_6
            try clear hcz27_0
            try clear hcz27_1
            try clear hcz27_2
            try clear hcz27_3
            try clear hcz27_4
            try clear hcz27_5
            try clear hcz27_6
            try clear hcz32_0
            try clear hcz32_1
            try clear hcz32_2
            try clear hcz32_3
            try clear hcz32_4
            try clear hcz32_5
            try clear hcz32_6
            try clear hcz40_0
            try clear hcz40_1
            try clear hcz40_2
            try clear hcz40_3
            try clear hcz40_4
            try clear hcz40_5
            try clear hcz40_6
            try clear hcz48_0
            try clear hcz48_1
            try clear hcz48_2
            try clear hcz48_3
            try clear hcz48_4
            try clear hcz48_5
            try clear hcz48_6
            try clear hcz51_0
            try clear hcz51_1
            try clear hcz51_2
            try clear hcz51_3
            try clear hcz51_4
            try clear hcz51_5
            try clear hcz51_6
            try clear hcz67_0
            try clear hcz67_1
            try clear hcz67_2
            try clear hcz67_3
            try clear hcz67_4
            try clear hcz67_5
            try clear hcz67_6
            try clear hcz75_0
            try clear hcz75_1
            try clear hcz75_2
            try clear hcz75_3
            try clear hcz75_4
            try clear hcz75_5
            try clear hcz75_6
            try clear hcz78_0
            try clear hcz78_1
            try clear hcz78_2
            try clear hcz78_3
            try clear hcz78_4
            try clear hcz78_5
            try clear hcz78_6
            try clear hcz7_0
            try clear hcz7_1
            try clear hcz7_2
            try clear hcz7_3
            try clear hcz7_4
            try clear hcz7_5
            try clear hcz7_6
            try clear hcz91_0
            try clear hcz91_1
            try clear hcz91_2
            try clear hcz91_3
            try clear hcz91_4
            try clear hcz91_5
            try clear hcz91_6
            try clear hcz93_0
            try clear hcz93_1
            try clear hcz93_2
            try clear hcz93_3
            try clear hcz93_4
            try clear hcz93_5
            try clear hcz93_6
            try clear hcz97_0
            try clear hcz97_1
            try clear hcz97_2
            try clear hcz97_3
            try clear hcz97_4
            try clear hcz97_5
            try clear hcz97_6
            try clear hfz107_0
            try clear hfz107_1
            try clear hfz107_2
            try clear hfz107_3
            try clear hfz107_4
            try clear hfz107_5
            try clear hfz107_6
            try clear hfz116_0
            try clear hfz116_1
            try clear hfz116_2
            try clear hfz116_3
            try clear hfz116_4
            try clear hfz116_5
            try clear hfz116_6
            try clear hfz120_0
            try clear hfz120_1
            try clear hfz120_2
            try clear hfz120_3
            try clear hfz120_4
            try clear hfz120_5
            try clear hfz120_6
            try clear hfz15_0
            try clear hfz15_1
            try clear hfz15_2
            try clear hfz15_3
            try clear hfz15_4
            try clear hfz15_5
            try clear hfz15_6
            try clear hfz17_0
            try clear hfz17_1
            try clear hfz17_2
            try clear hfz17_3
            try clear hfz17_4
            try clear hfz17_5
            try clear hfz17_6
            try clear hfz24_0
            try clear hfz24_1
            try clear hfz24_2
            try clear hfz24_3
            try clear hfz24_4
            try clear hfz24_5
            try clear hfz24_6
            try clear hfz27_0
            try clear hfz27_1
            try clear hfz27_2
            try clear hfz27_3
            try clear hfz27_4
            try clear hfz27_5
            try clear hfz27_6
            try clear hfz32_0
            try clear hfz32_1
            try clear hfz32_2
            try clear hfz32_3
            try clear hfz32_4
            try clear hfz32_5
            try clear hfz32_6
            try clear hfz40_0
            try clear hfz40_1
            try clear hfz40_2
            try clear hfz40_3
            try clear hfz40_4
            try clear hfz40_5
            try clear hfz40_6
            try clear hfz48_0
            try clear hfz48_1
            try clear hfz48_2
            try clear hfz48_3
            try clear hfz48_4
            try clear hfz48_5
            try clear hfz48_6
            try clear hfz51_0
            try clear hfz51_1
            try clear hfz51_2
            try clear hfz51_3
            try clear hfz51_4
            try clear hfz51_5
            try clear hfz51_6
            try clear hfz67_0
            try clear hfz67_1
            try clear hfz67_2
            try clear hfz67_3
            try clear hfz67_4
            try clear hfz67_5
            try clear hfz67_6
            try clear hfz75_0
            try clear hfz75_1
            try clear hfz75_2
            try clear hfz75_3
            try clear hfz75_4
            try clear hfz75_5
            try clear hfz75_6
            try clear hfz78_0
            try clear hfz78_1
            try clear hfz78_2
            try clear hfz78_3
            try clear hfz78_4
            try clear hfz78_5
            try clear hfz78_6
            try clear hfz7_0
            try clear hfz7_1
            try clear hfz7_2
            try clear hfz7_3
            try clear hfz7_4
            try clear hfz7_5
            try clear hfz7_6
            try clear hfz91_0
            try clear hfz91_1
            try clear hfz91_2
            try clear hfz91_3
            try clear hfz91_4
            try clear hfz91_5
            try clear hfz91_6
            try clear hfz93_0
            try clear hfz93_1
            try clear hfz93_2
            try clear hfz93_3
            try clear hfz93_4
            try clear hfz93_5
            try clear hfz93_6
            try clear hfz97_0
            try clear hfz97_1
            try clear hfz97_2
            try clear hfz97_3
            try clear hfz97_4
            try clear hfz97_5
            try clear hfz97_6
            try clear p2
            obtain ⟨kq, x97_86, rfl, HA, HJ86, HO_1141005, HO_1141006, HO_1153005, HO_1153006, HO_1166005, HO_1166006, HO_1211005, HO_1211006, BK1115, BK1140, BK1152, BK1165, BK1210, HB⟩ := hcut
            have hl1166005_86 := (Kd.R_reads' HO_1166005.out).1
            rw [hl1166005_86] at HO_1166005
            (try simp only [hl1166005_86])
            (try simp only [hl1166005_86] at BK1115)
            (try simp only [hl1166005_86] at BK1140)
            (try simp only [hl1166005_86] at BK1152)
            (try simp only [hl1166005_86] at BK1165)
            (try simp only [hl1166005_86] at BK1210)
            (try simp only [hl1166005_86] at HO_1141005)
            (try simp only [hl1166005_86] at HO_1141006)
            (try simp only [hl1166005_86] at HO_1153005)
            (try simp only [hl1166005_86] at HO_1153006)
            (try simp only [hl1166005_86] at HO_1166006)
            (try simp only [hl1166005_86] at HO_1211005)
            (try simp only [hl1166005_86] at HO_1211006)
            have hl1166006_86 := (Kd.R_reads' HO_1166006.out).1
            rw [hl1166006_86] at HO_1166006
            (try simp only [hl1166006_86])
            (try simp only [hl1166006_86] at BK1115)
            (try simp only [hl1166006_86] at BK1140)
            (try simp only [hl1166006_86] at BK1152)
            (try simp only [hl1166006_86] at BK1165)
            (try simp only [hl1166006_86] at BK1210)
            (try simp only [hl1166006_86] at HO_1141005)
            (try simp only [hl1166006_86] at HO_1141006)
            (try simp only [hl1166006_86] at HO_1153005)
            (try simp only [hl1166006_86] at HO_1153006)
            (try simp only [hl1166006_86] at HO_1166005)
            (try simp only [hl1166006_86] at HO_1211005)
            (try simp only [hl1166006_86] at HO_1211006)
            cases kq with
            | zero => exact absurd HA.out (by simp [laws_FnExactWatch.j2])
            | succ kj86 =>
             have H := HA.out
             clear HA
             simp only [laws_FnExactWatch.j2] at H
             by_cases c122 : x97_86 = true
             ·subst c122
              replace H : (some false) = some r := by rw [if_pos rfl] at H; exact H
              exact absurd (Option.some.inj H) (by rw [HQ_.out]; simp)
             ·replace c122 := Bool.eq_false_iff.mpr c122
              subst c122
              replace H : ((laws_heldCell.f kj86 t1153 t1154 t1155 t1156 t1157 t1184 t1185 1).bind fun t1212 => (if t1212 < 0 then (some false) else (if t1212 = t1183 then (some true) else (some false)))) = some r := by rw [if_neg (show ¬ (false = true) by decide)] at H; exact H
              replace H := Option.bind_eq_some_iff.mp H
              obtain ⟨t1212, A1230, H⟩ := H
              replace H : (if t1212 < 0 then (some false) else (if t1212 = t1183 then (some true) else (some false))) = some r := H
              have A123 := am A1230
              clear A1230
              by_cases c124 : t1212 < 0
              ·rw [if_pos c124] at H
               have c124b0 : decide (t1212 < 0) = true := decide_eq_true c124
               clear c124
               exact absurd (Option.some.inj H) (by rw [HQ_.out]; simp)
              ·rw [if_neg c124] at H
               have c124b0 : decide (t1212 < 0) = false := decide_eq_false c124
               clear c124
               by_cases c125 : t1212 = t1183
               ·rw [if_pos c125] at H
                have c125b0 : (t1212 == t1183) = true := beq_iff_eq.mpr c125
                have c125b1 : (t1212 != t1183) = false := bne_eq_false_iff_eq.mpr c125
                clear c125
                obtain rfl := Option.some.inj H
                have hnb126 := NB1165_1115.out
                have hnc126 := NB1115_1165.out
                have hnb127 := NB1165_1140.out
                have hnc127 := NB1140_1165.out
                have hnb128 := NB1165_1152.out
                have hnc128 := NB1152_1165.out
                have hnb129 := NB1165_1210.out
                have hnc129 := NB1210_1165.out
                obtain ⟨hcz130_0, hcz130_1, hcz130_2, hcz130_3, hcz130_4, hcz130_5, hcz130_6, hfz130_0, hfz130_1, hfz130_2, hfz130_3, hfz130_4, hfz130_5, hfz130_6⟩ := bk7 BK1165.out
                go_wp2_with (first | ((with_reducible refine gate_callee (f := 49) rfl ?_); refine goesL_ (some 100) rfl rfl Try.func49 (by kernel_rfl) rfl #[.agg #[.int .i64 t1153, .int .i64 t1154, .string t1155, .int .i64 t1156, .bool t1157, .slice Ao41 t1184.length co41, .slice Ao42 t1185.length co42], .int .i64 1] rfl mpx ?_; (with_reducible refine (laws_heldCell.calls kj86 t1153 t1154 t1155 t1156 t1157 _ _ t1184 _ _ t1185 1 t1212 _ ?side1 ?side2 ?side3 ?side4 A123.out).mono ?_); (case side1 => exact pkC (Kd.R_reads' HO_1166005.out).2.2); (case side2 => exact (Kd.R_reads' HO_1166005.out).2.1); (case side3 => exact pkC (Kd.R_reads' HO_1166006.out).2.2); (case side4 => exact (Kd.R_reads' HO_1166006.out).2.1); rintro e w131 ⟨rfl, hb⟩; refine ⟨_, rfl, ?_⟩; replace HO_1141005 := am (Kd.R_below (pkR HO_1141005.out) hb); replace HO_1141006 := am (Kd.R_below (pkR HO_1141006.out) hb); replace HO_1153005 := am (Kd.R_below (pkR HO_1153005.out) hb); replace HO_1153006 := am (Kd.R_below (pkR HO_1153006.out) hb); replace HO_1166005 := am (Kd.R_below (pkR HO_1166005.out) hb); replace HO_1166006 := am (Kd.R_below (pkR HO_1166006.out) hb); replace HO_1211005 := am (Kd.R_below (pkR HO_1211005.out) hb); replace HO_1211006 := am (Kd.R_below (pkR HO_1211006.out) hb); replace BK1115 := am (blk_below (pkK BK1115.out) hb); replace BK1140 := am (blk_below (pkK BK1140.out) hb); replace BK1152 := am (blk_below (pkK BK1152.out) hb); replace BK1165 := am (blk_below (pkK BK1165.out) hb); replace BK1210 := am (blk_below (pkK BK1210.out) hb); replace HB := am (below_step (pkW HB.out) hb); (try clear hb)))
                go_ret
                exact ⟨rfe, pkW HB.out⟩
               ·rw [if_neg c125] at H
                have c125b0 : (t1212 == t1183) = false := beq_eq_false_iff_ne.mpr c125
                have c125b1 : (t1212 != t1183) = true := bne_iff_ne.mpr c125
                exact absurd (Option.some.inj H) (by rw [HQ_.out]; simp)
          ·rw [if_neg c84] at H
           have c84b0 : (t1186 == t1183) = false := beq_eq_false_iff_ne.mpr c84
           have c84b1 : (t1186 != t1183) = true := bne_iff_ne.mpr c84
           exact absurd (Option.some.inj H) (by rw [HQ_.out]; simp)
     ·replace c56 := Bool.eq_false_iff.mpr c56
      subst c56
      replace H : (some false) = some r := by rw [if_neg (show ¬ (false = true) by decide)] at H; exact H
      exact absurd (Option.some.inj H) (by rw [HQ_.out]; simp)
end Go.Proofs.Ytffcphplnilokaa.Z
