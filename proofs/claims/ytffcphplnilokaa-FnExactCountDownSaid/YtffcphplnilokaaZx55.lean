/- The Go functions laws_FnExactCountDown as Lean functions, each with a proof that its code comes to just these answers; conditions: those of each theorem. -/
import Derived.Test.YtffcphplnilokaaZx0
import Derived.Test.YtffcphplnilokaaZx20
import Derived.Test.YtffcphplnilokaaZx22
import Derived.Test.YtffcphplnilokaaZx23
import Derived.Test.YtffcphplnilokaaZx24
import Derived.Test.YtffcphplnilokaaZx27
import Derived.Test.YtffcphplnilokaaZx32
import Derived.Test.YtffcphplnilokaaZx33
import Derived.Test.YtffcphplnilokaaZx39
namespace Go.Proofs.Ytffcphplnilokaa.Z
open Go.RowKit Go.Proofs.YtffcphplnilokaaW.PrintWords Go.Proofs.YtffcphplnilokaaW.PrintLast Go.Proofs.YtffcphplnilokaaW.PrintMore
attribute [local go_sem] max2_int min2_int max_two min_two max_three min_three max_four min_four   -- for this text's walks alone
set_option linter.unusedVariables false
set_option linter.unusedSimpArgs false
mutual
def laws_FnExactCountDown.j0 : Nat → Int → List Int → Int → List Int → Int → Bool → Int → List Int → List Int → Int → List Int → List Int → Int → List Int → List Int → Int → List Int → List Int → Option (Bool)
 | 0, _, _, _, _, _, _, _, _, _, _, _, _, _, _, _, _, _, _ => none
 | k + 1, x1, x7, x8, x11, x12, x55, x993000, x993001, x993002, x1013000, x1013001, x1013002, x1021000, x1021001, x1021002, x1033000, x1033001, x1033002 => if x55 = true then (some false) else ((laws_toLatch.f k x993000 x993001 x993002).bind fun bt1035 => ((laws_eqLatch.f k x1021000 x1021001 x1021002 bt1035.1 bt1035.2.1 bt1035.2.2).bind fun t1042 => (if t1042 = true then ((laws_markLatch.f k x1021000 x1021001 x1021002 1).bind fun bt1043 => (if bt1043.1 < 0 then (laws_FnExactCountDown.j1 k x1 x7 x8 x11 true x993000 x993001 x993002 x1013000 x1013001 x1013002 x1033000 x1033001 x1033002) else ((laws_eqLatch.f k x1033000 x1033001 x1033002 x1013000 x1013001 x1013002).bind fun t1046 => (if t1046 = true then ((laws_eqIntS.f k x11 x7).bind fun t1047 => (if t1047 = true then (laws_FnExactCountDown.j1 k x1 x7 x8 x11 (x12 != x8) x993000 x993001 x993002 x1013000 x1013001 x1013002 x1033000 x1033001 x1033002) else (laws_FnExactCountDown.j1 k x1 x7 x8 x11 true x993000 x993001 x993002 x1013000 x1013001 x1013002 x1033000 x1033001 x1033002))) else (laws_FnExactCountDown.j1 k x1 x7 x8 x11 true x993000 x993001 x993002 x1013000 x1013001 x1013002 x1033000 x1033001 x1033002))))) else (some false))))
def laws_FnExactCountDown.j1 : Nat → Int → List Int → Int → List Int → Bool → Int → List Int → List Int → Int → List Int → List Int → Int → List Int → List Int → Option (Bool)
 | 0, _, _, _, _, _, _, _, _, _, _, _, _, _, _ => none
 | k + 1, x1, x7, x8, x11, x82, x993000, x993001, x993002, x1013000, x1013001, x1013002, x1033000, x1033001, x1033002 => if x82 = true then (some false) else ((laws_markLatch.f k x1033000 x1033001 x1033002 1).bind fun bt1048 => ((laws_markIntS.f k x11 bt1048.1).bind fun bt1051 => ((laws_heldLatch.f k x1033000 bt1048.2.1 bt1048.2.2 1).bind fun t1053 => (if t1053 < 0 then (some false) else ((laws_heldIntS.f k bt1051.2 t1053).bind fun t1054 => (if t1054 < 0 then (some false) else (if t1054 = bt1051.1 then ((laws_toLatch.f k x993000 x993001 x993002).bind fun bt1055 => ((impl_CountDown.f k bt1055.1 bt1055.2.1 bt1055.2.2 x1).bind fun bt1062 => ((laws_eqLatch.f k bt1062.1 bt1062.2.1 bt1062.2.2.1 x1013000 x1013001 x1013002).bind fun t1074 => (if t1074 = true then ((laws_eqIntS.f k bt1062.2.2.2.1 x7).bind fun t1075 => (if t1075 = true then (laws_FnExactCountDown.j2 k bt1051.2 bt1051.1 (bt1062.2.2.2.2 != x8) x1033000 bt1048.2.1 bt1048.2.2) else (laws_FnExactCountDown.j2 k bt1051.2 bt1051.1 true x1033000 bt1048.2.1 bt1048.2.2))) else (laws_FnExactCountDown.j2 k bt1051.2 bt1051.1 true x1033000 bt1048.2.1 bt1048.2.2))))) else (some false))))))))
def laws_FnExactCountDown.j2 : Nat → List Int → Int → Bool → Int → List Int → List Int → Option (Bool)
 | 0, _, _, _, _, _, _ => none
 | k + 1, x11, x14, x124, x1033000, x1033001, x1033002 => if x124 = true then (some false) else ((laws_heldLatch.f k x1033000 x1033001 x1033002 1).bind fun t1076 => (if t1076 < 0 then (some false) else ((laws_heldIntS.f k x11 t1076).bind fun t1077 => (if t1077 < 0 then (some false) else (if t1077 = x14 then (some true) else (some false))))))
end
def laws_FnExactCountDown.f (k : Nat) (a0_0 : Int) (l0_1 : List Int) (l0_2 : List Int) (a1 : Int) : Option (Bool) := (laws_szLatch.f a0_0 l0_1 l0_2 1048576).bind fun t993 => (if t993 < 0 then (some true) else ((laws_toLatch.f k a0_0 l0_1 l0_2).bind fun bt994 => ((spec_CountDown.f k bt994.1 bt994.2.1 bt994.2.2 a1).bind fun bt1001 => ((laws_toLatch.f k a0_0 l0_1 l0_2).bind fun bt1013 => ((impl_CountDown.f k bt1013.1 bt1013.2.1 bt1013.2.2 a1).bind fun bt1021 => ((laws_eqLatch.f k bt1021.1 bt1021.2.1 bt1021.2.2.1 bt1001.1 bt1001.2.1 bt1001.2.2.1).bind fun t1033 => (if t1033 = true then ((laws_eqIntS.f k bt1021.2.2.2.1 bt1001.2.2.2.1).bind fun t1034 => (if t1034 = true then (laws_FnExactCountDown.j0 k a1 bt1001.2.2.2.1 bt1001.2.2.2.2 bt1021.2.2.2.1 bt1021.2.2.2.2 (bt1021.2.2.2.2 != bt1001.2.2.2.2) a0_0 l0_1 l0_2 bt1001.1 bt1001.2.1 bt1001.2.2.1 bt1013.1 bt1013.2.1 bt1013.2.2 bt1021.1 bt1021.2.1 bt1021.2.2.1) else (laws_FnExactCountDown.j0 k a1 bt1001.2.2.2.1 bt1001.2.2.2.2 bt1021.2.2.2.1 bt1021.2.2.2.2 true a0_0 l0_1 l0_2 bt1001.1 bt1001.2.1 bt1001.2.2.1 bt1013.1 bt1013.2.1 bt1013.2.2 bt1021.1 bt1021.2.1 bt1021.2.2.1))) else (laws_FnExactCountDown.j0 k a1 bt1001.2.2.2.1 bt1001.2.2.2.2 bt1021.2.2.2.1 bt1021.2.2.2.2 true a0_0 l0_1 l0_2 bt1001.1 bt1001.2.1 bt1001.2.2.1 bt1013.1 bt1013.2.1 bt1013.2.2 bt1021.1 bt1021.2.1 bt1021.2.2.1))))))))
theorem laws_FnExactCountDown.mono_l : ∀ k, (∀ y0 y1 y2 y3 y4 y5 y6 y7 y8 y9 y10 y11 y12 y13 y14 y15 y16 y17, LeO (laws_FnExactCountDown.j0 k y0 y1 y2 y3 y4 y5 y6 y7 y8 y9 y10 y11 y12 y13 y14 y15 y16 y17) (laws_FnExactCountDown.j0 (k + 1) y0 y1 y2 y3 y4 y5 y6 y7 y8 y9 y10 y11 y12 y13 y14 y15 y16 y17)) ∧ (∀ y0 y1 y2 y3 y4 y5 y6 y7 y8 y9 y10 y11 y12 y13, LeO (laws_FnExactCountDown.j1 k y0 y1 y2 y3 y4 y5 y6 y7 y8 y9 y10 y11 y12 y13) (laws_FnExactCountDown.j1 (k + 1) y0 y1 y2 y3 y4 y5 y6 y7 y8 y9 y10 y11 y12 y13)) ∧ (∀ y0 y1 y2 y3 y4 y5, LeO (laws_FnExactCountDown.j2 k y0 y1 y2 y3 y4 y5) (laws_FnExactCountDown.j2 (k + 1) y0 y1 y2 y3 y4 y5))
 | 0 => ⟨fun _ _ _ _ _ _ _ _ _ _ _ _ _ _ _ _ _ _ r h => by simp [laws_FnExactCountDown.j0] at h, fun _ _ _ _ _ _ _ _ _ _ _ _ _ _ r h => by simp [laws_FnExactCountDown.j1] at h, fun _ _ _ _ _ _ r h => by simp [laws_FnExactCountDown.j2] at h⟩
 | k + 1 => by
  obtain ⟨ih0, ih1, ih2⟩ := laws_FnExactCountDown.mono_l k
  refine ⟨?_, ?_, ?_⟩
  ·intro y0 y1 y2 y3 y4 y5 y6 y7 y8 y9 y10 y11 y12 y13 y14 y15 y16 y17
   unfold laws_FnExactCountDown.j0
   repeat' first
   | (with_reducible exact ih0 _ _ _ _ _ _ _ _ _ _ _ _ _ _ _ _ _ _)
   | (with_reducible exact ih1 _ _ _ _ _ _ _ _ _ _ _ _ _ _)
   | (with_reducible exact ih2 _ _ _ _ _ _)
   | (with_reducible exact impl_CountDown.mono _ _ _ _ _)
   | (with_reducible exact laws_eqIntS.mono _ _ _)
   | (with_reducible exact laws_eqLatch.mono _ _ _ _ _ _ _)
   | (with_reducible exact laws_heldIntS.mono _ _ _)
   | (with_reducible exact laws_heldLatch.mono _ _ _ _ _)
   | (with_reducible exact laws_markIntS.mono _ _ _)
   | (with_reducible exact laws_markLatch.mono _ _ _ _ _)
   | (with_reducible exact laws_toLatch.mono _ _ _ _)
   | (with_reducible exact spec_CountDown.mono _ _ _ _ _)
   | (with_reducible exact LeO.refl _)
   | (with_reducible exact LeO.none _)
   | (with_reducible refine LeO.ite ?_ ?_)
   | (with_reducible refine LeO.bind ?_ (fun _ => ?_))
  ·intro y0 y1 y2 y3 y4 y5 y6 y7 y8 y9 y10 y11 y12 y13
   unfold laws_FnExactCountDown.j1
   repeat' first
   | (with_reducible exact ih0 _ _ _ _ _ _ _ _ _ _ _ _ _ _ _ _ _ _)
   | (with_reducible exact ih1 _ _ _ _ _ _ _ _ _ _ _ _ _ _)
   | (with_reducible exact ih2 _ _ _ _ _ _)
   | (with_reducible exact impl_CountDown.mono _ _ _ _ _)
   | (with_reducible exact laws_eqIntS.mono _ _ _)
   | (with_reducible exact laws_eqLatch.mono _ _ _ _ _ _ _)
   | (with_reducible exact laws_heldIntS.mono _ _ _)
   | (with_reducible exact laws_heldLatch.mono _ _ _ _ _)
   | (with_reducible exact laws_markIntS.mono _ _ _)
   | (with_reducible exact laws_markLatch.mono _ _ _ _ _)
   | (with_reducible exact laws_toLatch.mono _ _ _ _)
   | (with_reducible exact spec_CountDown.mono _ _ _ _ _)
   | (with_reducible exact LeO.refl _)
   | (with_reducible exact LeO.none _)
   | (with_reducible refine LeO.ite ?_ ?_)
   | (with_reducible refine LeO.bind ?_ (fun _ => ?_))
  ·intro y0 y1 y2 y3 y4 y5
   unfold laws_FnExactCountDown.j2
   repeat' first
   | (with_reducible exact ih0 _ _ _ _ _ _ _ _ _ _ _ _ _ _ _ _ _ _)
   | (with_reducible exact ih1 _ _ _ _ _ _ _ _ _ _ _ _ _ _)
   | (with_reducible exact ih2 _ _ _ _ _ _)
   | (with_reducible exact impl_CountDown.mono _ _ _ _ _)
   | (with_reducible exact laws_eqIntS.mono _ _ _)
   | (with_reducible exact laws_eqLatch.mono _ _ _ _ _ _ _)
   | (with_reducible exact laws_heldIntS.mono _ _ _)
   | (with_reducible exact laws_heldLatch.mono _ _ _ _ _)
   | (with_reducible exact laws_markIntS.mono _ _ _)
   | (with_reducible exact laws_markLatch.mono _ _ _ _ _)
   | (with_reducible exact laws_toLatch.mono _ _ _ _)
   | (with_reducible exact spec_CountDown.mono _ _ _ _ _)
   | (with_reducible exact LeO.refl _)
   | (with_reducible exact LeO.none _)
   | (with_reducible refine LeO.ite ?_ ?_)
   | (with_reducible refine LeO.bind ?_ (fun _ => ?_))
theorem laws_FnExactCountDown.mono : ∀ a0 a1 a2 a3 k, LeO (laws_FnExactCountDown.f k a0 a1 a2 a3) (laws_FnExactCountDown.f (k + 1) a0 a1 a2 a3) := by
 intro a0 a1 a2 a3 k
 obtain ⟨ih0, ih1, ih2⟩ := laws_FnExactCountDown.mono_l k
 unfold laws_FnExactCountDown.f
 repeat' first
   | (with_reducible exact ih0 _ _ _ _ _ _ _ _ _ _ _ _ _ _ _ _ _ _)
   | (with_reducible exact ih1 _ _ _ _ _ _ _ _ _ _ _ _ _ _)
   | (with_reducible exact ih2 _ _ _ _ _ _)
   | (with_reducible exact impl_CountDown.mono _ _ _ _ _)
   | (with_reducible exact laws_eqIntS.mono _ _ _)
   | (with_reducible exact laws_eqLatch.mono _ _ _ _ _ _ _)
   | (with_reducible exact laws_heldIntS.mono _ _ _)
   | (with_reducible exact laws_heldLatch.mono _ _ _ _ _)
   | (with_reducible exact laws_markIntS.mono _ _ _)
   | (with_reducible exact laws_markLatch.mono _ _ _ _ _)
   | (with_reducible exact laws_toLatch.mono _ _ _ _)
   | (with_reducible exact spec_CountDown.mono _ _ _ _ _)
   | (with_reducible exact LeO.refl _)
   | (with_reducible exact LeO.none _)
   | (with_reducible refine LeO.ite ?_ ?_)
   | (with_reducible refine LeO.bind ?_ (fun _ => ?_))
set_option maxHeartbeats 8000000 in
set_option maxRecDepth 100000 in
theorem laws_FnExactCountDown.calls (k : Nat) (a0_0 : Int) (A0_1 : Option Addr) (c0_1 : Nat) (l0_1 : List Int) (A0_2 : Option Addr) (c0_2 : Nat) (l0_2 : List Int) (a1 : Int) (r : Bool) (w : World) (hr0_1 : Kd.C (Kd.int .i64) w A0_1 l0_1.length l0_1) (hc0_1 : l0_1.length ≤ c0_1) (hr0_2 : Kd.C (Kd.int .i64) w A0_2 l0_2.length l0_2) (hc0_2 : l0_2.length ≤ c0_2) (HQ_ : Aside0 (r = true)) (h : laws_FnExactCountDown.f k a0_0 l0_1 l0_2 a1 = some r) :
  Calls Try.prog 11 #[.agg #[.int .i64 a0_0, .slice A0_1 l0_1.length c0_1, .slice A0_2 l0_2.length c0_2], .int .i64 a1] w fun e w' => e = .returned (.bool r) ∧ Below w.heap.size w w' := by
 have hu43 := Try.underlying43
 have hu46 := Try.underlying46
 have HR0_1 := am hr0_1
 have HC0_1 := am hc0_1
 clear hr0_1 hc0_1
 have HR0_2 := am hr0_2
 have HC0_2 := am hc0_2
 clear hr0_2 hc0_2
 have HB := am (Below.refl w.heap.size w)
 have H : ((laws_szLatch.f a0_0 l0_1 l0_2 1048576).bind fun t993 => (if t993 < 0 then (some true) else ((laws_toLatch.f k a0_0 l0_1 l0_2).bind fun bt994 => ((spec_CountDown.f k bt994.1 bt994.2.1 bt994.2.2 a1).bind fun bt1001 => ((laws_toLatch.f k a0_0 l0_1 l0_2).bind fun bt1013 => ((impl_CountDown.f k bt1013.1 bt1013.2.1 bt1013.2.2 a1).bind fun bt1021 => ((laws_eqLatch.f k bt1021.1 bt1021.2.1 bt1021.2.2.1 bt1001.1 bt1001.2.1 bt1001.2.2.1).bind fun t1033 => (if t1033 = true then ((laws_eqIntS.f k bt1021.2.2.2.1 bt1001.2.2.2.1).bind fun t1034 => (if t1034 = true then (laws_FnExactCountDown.j0 k a1 bt1001.2.2.2.1 bt1001.2.2.2.2 bt1021.2.2.2.1 bt1021.2.2.2.2 (bt1021.2.2.2.2 != bt1001.2.2.2.2) a0_0 l0_1 l0_2 bt1001.1 bt1001.2.1 bt1001.2.2.1 bt1013.1 bt1013.2.1 bt1013.2.2 bt1021.1 bt1021.2.1 bt1021.2.2.1) else (laws_FnExactCountDown.j0 k a1 bt1001.2.2.2.1 bt1001.2.2.2.2 bt1021.2.2.2.1 bt1021.2.2.2.2 true a0_0 l0_1 l0_2 bt1001.1 bt1001.2.1 bt1001.2.2.1 bt1013.1 bt1013.2.1 bt1013.2.2 bt1021.1 bt1021.2.1 bt1021.2.2.1))) else (laws_FnExactCountDown.j0 k a1 bt1001.2.2.2.1 bt1001.2.2.2.2 bt1021.2.2.2.1 bt1021.2.2.2.2 true a0_0 l0_1 l0_2 bt1001.1 bt1001.2.1 bt1001.2.2.1 bt1013.1 bt1013.2.1 bt1013.2.2 bt1021.1 bt1021.2.1 bt1021.2.2.1))))))))) = some r := h
 clear h
 replace H := Option.bind_eq_some_iff.mp H
 obtain ⟨t993, A30, H⟩ := H
 replace H : (if t993 < 0 then (some true) else ((laws_toLatch.f k a0_0 l0_1 l0_2).bind fun bt994 => ((spec_CountDown.f k bt994.1 bt994.2.1 bt994.2.2 a1).bind fun bt1001 => ((laws_toLatch.f k a0_0 l0_1 l0_2).bind fun bt1013 => ((impl_CountDown.f k bt1013.1 bt1013.2.1 bt1013.2.2 a1).bind fun bt1021 => ((laws_eqLatch.f k bt1021.1 bt1021.2.1 bt1021.2.2.1 bt1001.1 bt1001.2.1 bt1001.2.2.1).bind fun t1033 => (if t1033 = true then ((laws_eqIntS.f k bt1021.2.2.2.1 bt1001.2.2.2.1).bind fun t1034 => (if t1034 = true then (laws_FnExactCountDown.j0 k a1 bt1001.2.2.2.1 bt1001.2.2.2.2 bt1021.2.2.2.1 bt1021.2.2.2.2 (bt1021.2.2.2.2 != bt1001.2.2.2.2) a0_0 l0_1 l0_2 bt1001.1 bt1001.2.1 bt1001.2.2.1 bt1013.1 bt1013.2.1 bt1013.2.2 bt1021.1 bt1021.2.1 bt1021.2.2.1) else (laws_FnExactCountDown.j0 k a1 bt1001.2.2.2.1 bt1001.2.2.2.2 bt1021.2.2.2.1 bt1021.2.2.2.2 true a0_0 l0_1 l0_2 bt1001.1 bt1001.2.1 bt1001.2.2.1 bt1013.1 bt1013.2.1 bt1013.2.2 bt1021.1 bt1021.2.1 bt1021.2.2.1))) else (laws_FnExactCountDown.j0 k a1 bt1001.2.2.2.1 bt1001.2.2.2.2 bt1021.2.2.2.1 bt1021.2.2.2.2 true a0_0 l0_1 l0_2 bt1001.1 bt1001.2.1 bt1001.2.2.1 bt1013.1 bt1013.2.1 bt1013.2.2 bt1021.1 bt1021.2.1 bt1021.2.2.1)))))))) = some r := H
 have A3 := am A30
 clear A30
 by_cases c4 : t993 < 0
 ·rw [if_pos c4] at H
  have c4b0 : decide (t993 < 0) = true := decide_eq_true c4
  clear c4
  obtain rfl := Option.some.inj H
  go_enter Try.func11, Try.ntmps11
  go_wp2_with (first | ((with_reducible refine gate_dst (N := 2) rfl ?_); refine box_event ?hg (N := 2) ?hd (cs := #[.int .i64 a0_0, .slice A0_1 l0_1.length c0_1, .slice A0_2 l0_2.length c0_2]) (t := 43) ?hr ?_; (case hd => rfl); (case hg => rfl); (case hr => first | (go_simp; done) | (go_simp; rfl)); intro gb992 hg w5 hbox hb; have BK992 := am (hbox); have GW992 := am ((by rw [hg]; exact (below_size (pkB HB.out)) : w.heap.size ≤ gb992)); have GE992 := am ((by rw [hg]; exact (below_size (pkB HB.out)) : w.heap.size ≤ gb992)); replace HB := am (below_step (pkB HB.out) hb); clear hb hbox hg; obtain ⟨hcz6_0, hcz6_1, hcz6_2, hfz6_0, hfz6_1, hfz6_2⟩ := bk3 BK992.out) | ((with_reducible refine gate_callee (f := 23) rfl ?_); refine goesL_ (some 21) rfl rfl Try.func23 (by kernel_rfl) rfl #[.agg #[.int .i64 a0_0, .slice A0_1 l0_1.length c0_1, .slice A0_2 l0_2.length c0_2], .int .i64 1048576] rfl mpx ?_; (with_reducible refine (laws_szLatch.calls a0_0 _ _ l0_1 _ _ l0_2 1048576 t993 _ ?side1 ?side2 ?side3 ?side4 A3.out).mono ?_); (case side1 => exact pkC (Kd.C_below HR0_1.out HB.out)); (case side2 => exact HC0_1.out); (case side3 => exact pkC (Kd.C_below HR0_2.out HB.out)); (case side4 => exact HC0_2.out); rintro e w7 ⟨rfl, hb⟩; refine ⟨_, rfl, ?_⟩; replace BK992 := am (blk_below (pkK BK992.out) hb); replace HB := am (below_step (pkW HB.out) hb); (try clear hb)))
  go_ret
  exact ⟨rfe, pkW HB.out⟩
 ·rw [if_neg c4] at H
  have c4b0 : decide (t993 < 0) = false := decide_eq_false c4
  clear c4
  replace H := Option.bind_eq_some_iff.mp H
  obtain ⟨⟨t994, t995, t998⟩, A80, H⟩ := H
  replace H : ((spec_CountDown.f k t994 t995 t998 a1).bind fun bt1001 => ((laws_toLatch.f k a0_0 l0_1 l0_2).bind fun bt1013 => ((impl_CountDown.f k bt1013.1 bt1013.2.1 bt1013.2.2 a1).bind fun bt1021 => ((laws_eqLatch.f k bt1021.1 bt1021.2.1 bt1021.2.2.1 bt1001.1 bt1001.2.1 bt1001.2.2.1).bind fun t1033 => (if t1033 = true then ((laws_eqIntS.f k bt1021.2.2.2.1 bt1001.2.2.2.1).bind fun t1034 => (if t1034 = true then (laws_FnExactCountDown.j0 k a1 bt1001.2.2.2.1 bt1001.2.2.2.2 bt1021.2.2.2.1 bt1021.2.2.2.2 (bt1021.2.2.2.2 != bt1001.2.2.2.2) a0_0 l0_1 l0_2 bt1001.1 bt1001.2.1 bt1001.2.2.1 bt1013.1 bt1013.2.1 bt1013.2.2 bt1021.1 bt1021.2.1 bt1021.2.2.1) else (laws_FnExactCountDown.j0 k a1 bt1001.2.2.2.1 bt1001.2.2.2.2 bt1021.2.2.2.1 bt1021.2.2.2.2 true a0_0 l0_1 l0_2 bt1001.1 bt1001.2.1 bt1001.2.2.1 bt1013.1 bt1013.2.1 bt1013.2.2 bt1021.1 bt1021.2.1 bt1021.2.2.1))) else (laws_FnExactCountDown.j0 k a1 bt1001.2.2.2.1 bt1001.2.2.2.2 bt1021.2.2.2.1 bt1021.2.2.2.2 true a0_0 l0_1 l0_2 bt1001.1 bt1001.2.1 bt1001.2.2.1 bt1013.1 bt1013.2.1 bt1013.2.2 bt1021.1 bt1021.2.1 bt1021.2.2.1)))))) = some r := H
  have A8 := am A80
  clear A80
  replace H := Option.bind_eq_some_iff.mp H
  obtain ⟨⟨t1001, t1002, t1005, t1008, t1011⟩, A90, H⟩ := H
  replace H : ((laws_toLatch.f k a0_0 l0_1 l0_2).bind fun bt1013 => ((impl_CountDown.f k bt1013.1 bt1013.2.1 bt1013.2.2 a1).bind fun bt1021 => ((laws_eqLatch.f k bt1021.1 bt1021.2.1 bt1021.2.2.1 t1001 t1002 t1005).bind fun t1033 => (if t1033 = true then ((laws_eqIntS.f k bt1021.2.2.2.1 t1008).bind fun t1034 => (if t1034 = true then (laws_FnExactCountDown.j0 k a1 t1008 t1011 bt1021.2.2.2.1 bt1021.2.2.2.2 (bt1021.2.2.2.2 != t1011) a0_0 l0_1 l0_2 t1001 t1002 t1005 bt1013.1 bt1013.2.1 bt1013.2.2 bt1021.1 bt1021.2.1 bt1021.2.2.1) else (laws_FnExactCountDown.j0 k a1 t1008 t1011 bt1021.2.2.2.1 bt1021.2.2.2.2 true a0_0 l0_1 l0_2 t1001 t1002 t1005 bt1013.1 bt1013.2.1 bt1013.2.2 bt1021.1 bt1021.2.1 bt1021.2.2.1))) else (laws_FnExactCountDown.j0 k a1 t1008 t1011 bt1021.2.2.2.1 bt1021.2.2.2.2 true a0_0 l0_1 l0_2 t1001 t1002 t1005 bt1013.1 bt1013.2.1 bt1013.2.2 bt1021.1 bt1021.2.1 bt1021.2.2.1))))) = some r := H
  have A9 := am A90
  clear A90
  replace H := Option.bind_eq_some_iff.mp H
  obtain ⟨⟨t1013, t1014, t1017⟩, A100, H⟩ := H
  replace H : ((impl_CountDown.f k t1013 t1014 t1017 a1).bind fun bt1021 => ((laws_eqLatch.f k bt1021.1 bt1021.2.1 bt1021.2.2.1 t1001 t1002 t1005).bind fun t1033 => (if t1033 = true then ((laws_eqIntS.f k bt1021.2.2.2.1 t1008).bind fun t1034 => (if t1034 = true then (laws_FnExactCountDown.j0 k a1 t1008 t1011 bt1021.2.2.2.1 bt1021.2.2.2.2 (bt1021.2.2.2.2 != t1011) a0_0 l0_1 l0_2 t1001 t1002 t1005 t1013 t1014 t1017 bt1021.1 bt1021.2.1 bt1021.2.2.1) else (laws_FnExactCountDown.j0 k a1 t1008 t1011 bt1021.2.2.2.1 bt1021.2.2.2.2 true a0_0 l0_1 l0_2 t1001 t1002 t1005 t1013 t1014 t1017 bt1021.1 bt1021.2.1 bt1021.2.2.1))) else (laws_FnExactCountDown.j0 k a1 t1008 t1011 bt1021.2.2.2.1 bt1021.2.2.2.2 true a0_0 l0_1 l0_2 t1001 t1002 t1005 t1013 t1014 t1017 bt1021.1 bt1021.2.1 bt1021.2.2.1)))) = some r := H
  have A10 := am A100
  clear A100
  replace H := Option.bind_eq_some_iff.mp H
  obtain ⟨⟨t1021, t1022, t1025, t1028, t1031⟩, A110, H⟩ := H
  replace H : ((laws_eqLatch.f k t1021 t1022 t1025 t1001 t1002 t1005).bind fun t1033 => (if t1033 = true then ((laws_eqIntS.f k t1028 t1008).bind fun t1034 => (if t1034 = true then (laws_FnExactCountDown.j0 k a1 t1008 t1011 t1028 t1031 (t1031 != t1011) a0_0 l0_1 l0_2 t1001 t1002 t1005 t1013 t1014 t1017 t1021 t1022 t1025) else (laws_FnExactCountDown.j0 k a1 t1008 t1011 t1028 t1031 true a0_0 l0_1 l0_2 t1001 t1002 t1005 t1013 t1014 t1017 t1021 t1022 t1025))) else (laws_FnExactCountDown.j0 k a1 t1008 t1011 t1028 t1031 true a0_0 l0_1 l0_2 t1001 t1002 t1005 t1013 t1014 t1017 t1021 t1022 t1025))) = some r := H
  have A11 := am A110
  clear A110
  have HC12 := am H
  clear H
  go_enter Try.func11, Try.ntmps11
  go_upto_region 8 with (first | ((with_reducible refine gate_dst (N := 2) rfl ?_); refine box_event ?hg (N := 2) ?hd (cs := #[.int .i64 a0_0, .slice A0_1 l0_1.length c0_1, .slice A0_2 l0_2.length c0_2]) (t := 43) ?hr ?_; (case hd => rfl); (case hg => rfl); (case hr => first | (go_simp; done) | (go_simp; rfl)); intro gb992 hg w13 hbox hb; have BK992 := am (hbox); have GW992 := am ((by rw [hg]; exact (below_size (pkB HB.out)) : w.heap.size ≤ gb992)); have GE992 := am ((by rw [hg]; exact (below_size (pkB HB.out)) : w.heap.size ≤ gb992)); replace HB := am (below_step (pkB HB.out) hb); clear hb hbox hg; obtain ⟨hcz14_0, hcz14_1, hcz14_2, hfz14_0, hfz14_1, hfz14_2⟩ := bk3 BK992.out) | ((with_reducible refine gate_callee (f := 23) rfl ?_); refine goesL_ (some 21) rfl rfl Try.func23 (by kernel_rfl) rfl #[.agg #[.int .i64 a0_0, .slice A0_1 l0_1.length c0_1, .slice A0_2 l0_2.length c0_2], .int .i64 1048576] rfl mpx ?_; (with_reducible refine (laws_szLatch.calls a0_0 _ _ l0_1 _ _ l0_2 1048576 t993 _ ?side1 ?side2 ?side3 ?side4 A3.out).mono ?_); (case side1 => exact pkC (Kd.C_below HR0_1.out HB.out)); (case side2 => exact HC0_1.out); (case side3 => exact pkC (Kd.C_below HR0_2.out HB.out)); (case side4 => exact HC0_2.out); rintro e w15 ⟨rfl, hb⟩; refine ⟨_, rfl, ?_⟩; replace BK992 := am (blk_below (pkK BK992.out) hb); replace HB := am (below_step (pkW HB.out) hb); (try clear hb); obtain ⟨hcz16_0, hcz16_1, hcz16_2, hfz16_0, hfz16_1, hfz16_2⟩ := bk3 BK992.out) | ((with_reducible refine gate_callee (f := 25) rfl ?_); refine goesL_ (some 26) rfl rfl Try.func25 (by kernel_rfl) rfl #[.agg #[.int .i64 a0_0, .slice A0_1 l0_1.length c0_1, .slice A0_2 l0_2.length c0_2]] rfl mpx ?_; (with_reducible refine (laws_toLatch.calls k a0_0 _ _ l0_1 _ _ l0_2 t994 t995 t998 _ ?side1 ?side2 ?side3 ?side4 A8.out).mono ?_); (case side1 => exact pkC (Kd.C_below HR0_1.out HB.out)); (case side2 => exact HC0_1.out); (case side3 => exact pkC (Kd.C_below HR0_2.out HB.out)); (case side4 => exact HC0_2.out); rintro e w17 ⟨v996, v999, rfl, ho0, ho1, hb⟩; refine ⟨_, rfl, ?_⟩; have HO997 := am (Kd.R_lower ho0 (below_size (pkW HB.out))); have HO1000 := am (Kd.R_lower ho1 (below_size (pkW HB.out))); replace BK992 := am (blk_below (pkK BK992.out) hb); replace HB := am (below_step (pkW HB.out) hb); (try clear hb ho0 ho1); obtain ⟨Ao18, co18, eo18⟩ := Kd.R_slice HO997.out; subst eo18; obtain ⟨Ao19, co19, eo19⟩ := Kd.R_slice HO1000.out; subst eo19) | ((with_reducible refine gate_callee (f := 43) rfl ?_); refine goesL_ (some 28) rfl rfl Try.func43 (by kernel_rfl) rfl #[.agg #[.int .i64 t994, .slice Ao18 t995.length co18, .slice Ao19 t998.length co19], .int .i64 a1] rfl mpx ?_; (with_reducible refine (spec_CountDown.calls k t994 _ _ t995 _ _ t998 a1 t1001 t1002 t1005 t1008 t1011 _ ?side1 ?side2 ?side3 ?side4 A9.out).mono ?_); (case side1 => exact pkC (Kd.R_reads' HO997.out).2.2); (case side2 => exact (Kd.R_reads' HO997.out).2.1); (case side3 => exact pkC (Kd.R_reads' HO1000.out).2.2); (case side4 => exact (Kd.R_reads' HO1000.out).2.1); rintro e w20 ⟨v1003, v1006, v1009, rfl, ho0, ho1, ho2, hb⟩; refine ⟨_, rfl, ?_⟩; have HO1004 := am (Kd.R_lower (Kd.R_new' (Kd.R_new' ho0 (Kd.R_lt (pkR HO997.out))) (Kd.R_lt (pkR HO1000.out))) (below_size (pkW HB.out))); have HO1007 := am (Kd.R_lower (Kd.R_new' (Kd.R_new' ho1 (Kd.R_lt (pkR HO997.out))) (Kd.R_lt (pkR HO1000.out))) (below_size (pkW HB.out))); have HO1010 := am (Kd.R_lower (Kd.R_new' (Kd.R_new' ho2 (Kd.R_lt (pkR HO997.out))) (Kd.R_lt (pkR HO1000.out))) (below_size (pkW HB.out))); replace HO997 := am (Kd.R_mono (Kd.R_told (Kd.R_told (Kd.R_told (Kd.R_old (pkR HO997.out) hb) (Kd.R_base ho0)) (Kd.R_base ho1)) (Kd.R_base ho2)) (fun _ h_ => h_.1)); replace HO1000 := am (Kd.R_mono (Kd.R_told (Kd.R_told (Kd.R_told (Kd.R_old (pkR HO1000.out) hb) (Kd.R_base ho0)) (Kd.R_base ho1)) (Kd.R_base ho2)) (fun _ h_ => h_.1)); replace BK992 := am (blk_below (pkK BK992.out) hb); replace HB := am (below_step (pkW HB.out) hb); (try clear hb ho0 ho1 ho2)) | ((with_reducible refine gate_dst (N := 6) rfl ?_); refine box_event ?hg (N := 6) ?hd (cs := #[.int .i64 0, .slice none 0 0, .slice none 0 0]) (t := 46) ?hr ?_; (case hd => rfl); (case hg => rfl); (case hr => first | (go_simp; done) | (go_simp; rfl)); intro gb1012 hg w21 hbox hb; replace HO997 := am (Kd.R_below (pkR HO997.out) hb); replace HO1000 := am (Kd.R_below (pkR HO1000.out) hb); replace HO1004 := am (Kd.R_below (pkR HO1004.out) hb); replace HO1007 := am (Kd.R_below (pkR HO1007.out) hb); replace HO1010 := am (Kd.R_below (pkR HO1010.out) hb); have BK1012 := am (hbox); have GW1012 := am ((by rw [hg]; exact (below_size (pkW HB.out)) : w.heap.size ≤ gb1012)); have GE1012 := am ((by rw [hg]; exact (below_size (pkW HB.out)) : w.heap.size ≤ gb1012)); replace HB := am (below_step (pkW HB.out) hb); have NB992_1012 := am ((by rw [hg]; exact Nat.ne_of_lt (blk_lt (g := gb992) (o := .cells #[.int .i64 a0_0, .slice A0_1 l0_1.length c0_1, .slice A0_2 l0_2.length c0_2] 43 (0, 0)) (pkK BK992.out)) : gb992 ≠ gb1012)); have NB1012_992 := am ((by rw [hg]; exact Nat.ne_of_gt (blk_lt (g := gb992) (o := .cells #[.int .i64 a0_0, .slice A0_1 l0_1.length c0_1, .slice A0_2 l0_2.length c0_2] 43 (0, 0)) (pkK BK992.out)) : gb1012 ≠ gb992)); replace BK992 := am (blk_below (pkK BK992.out) hb); clear hb hbox hg; have hnb22 := NB1012_992.out; have hnc22 := NB992_1012.out; obtain ⟨hcz23_0, hcz23_1, hcz23_2, hfz23_0, hfz23_1, hfz23_2⟩ := bk3 BK1012.out; obtain ⟨Ao24, co24, eo24⟩ := Kd.R_slice HO1004.out; subst eo24; obtain ⟨Ao25, co25, eo25⟩ := Kd.R_slice HO1007.out; subst eo25; obtain ⟨hcz26_0, hcz26_1, hcz26_2, hfz26_0, hfz26_1, hfz26_2⟩ := bk3 BK992.out) | ((with_reducible refine gate_callee (f := 25) rfl ?_); refine goesL_ (some 33) rfl rfl Try.func25 (by kernel_rfl) rfl #[.agg #[.int .i64 a0_0, .slice A0_1 l0_1.length c0_1, .slice A0_2 l0_2.length c0_2]] rfl mpx ?_; (with_reducible refine (laws_toLatch.calls k a0_0 _ _ l0_1 _ _ l0_2 t1013 t1014 t1017 _ ?side1 ?side2 ?side3 ?side4 A10.out).mono ?_); (case side1 => exact Kd.C_below HR0_1.out (pkW HB.out)); (case side2 => exact HC0_1.out); (case side3 => exact Kd.C_below HR0_2.out (pkW HB.out)); (case side4 => exact HC0_2.out); rintro e w27 ⟨v1015, v1018, rfl, ho0, ho1, hb⟩; refine ⟨_, rfl, ?_⟩; have HO1016 := am (Kd.R_lower (Kd.R_new' (Kd.R_new' (Kd.R_new' (Kd.R_new' (Kd.R_new' ho0 (Kd.R_lt (by (with_reducible repeat (first | apply Kd.R_alloc | apply Kd.R_drewN | apply Kd.R_drew)); exact (Kd.R_mono (Kd.R_far (p := ⟨gb1012, 2, none⟩) (Kd.R_far (p := ⟨gb1012, 1, none⟩) (Kd.R_far (p := ⟨gb1012, 0, none⟩) (Kd.R_types HO997.out BK1012.out (by decide)) (fun _ hk => hk.2) (.int .i64 t1001)) (fun _ hk => hk.2) (.slice Ao24 t1002.length co24)) (fun _ hk => hk.2) (.slice Ao25 t1005.length co25)) (fun _ h_ => h_.1))))) (Kd.R_lt (by (with_reducible repeat (first | apply Kd.R_alloc | apply Kd.R_drewN | apply Kd.R_drew)); exact (Kd.R_mono (Kd.R_far (p := ⟨gb1012, 2, none⟩) (Kd.R_far (p := ⟨gb1012, 1, none⟩) (Kd.R_far (p := ⟨gb1012, 0, none⟩) (Kd.R_types HO1000.out BK1012.out (by decide)) (fun _ hk => hk.2) (.int .i64 t1001)) (fun _ hk => hk.2) (.slice Ao24 t1002.length co24)) (fun _ hk => hk.2) (.slice Ao25 t1005.length co25)) (fun _ h_ => h_.1))))) (Kd.R_lt (by (with_reducible repeat (first | apply Kd.R_alloc | apply Kd.R_drewN | apply Kd.R_drew)); exact (Kd.R_mono (Kd.R_far (p := ⟨gb1012, 2, none⟩) (Kd.R_far (p := ⟨gb1012, 1, none⟩) (Kd.R_far (p := ⟨gb1012, 0, none⟩) (Kd.R_types HO1004.out BK1012.out (by decide)) (fun _ hk => hk.2) (.int .i64 t1001)) (fun _ hk => hk.2) (.slice Ao24 t1002.length co24)) (fun _ hk => hk.2) (.slice Ao25 t1005.length co25)) (fun _ h_ => h_.1))))) (Kd.R_lt (by (with_reducible repeat (first | apply Kd.R_alloc | apply Kd.R_drewN | apply Kd.R_drew)); exact (Kd.R_mono (Kd.R_far (p := ⟨gb1012, 2, none⟩) (Kd.R_far (p := ⟨gb1012, 1, none⟩) (Kd.R_far (p := ⟨gb1012, 0, none⟩) (Kd.R_types HO1007.out BK1012.out (by decide)) (fun _ hk => hk.2) (.int .i64 t1001)) (fun _ hk => hk.2) (.slice Ao24 t1002.length co24)) (fun _ hk => hk.2) (.slice Ao25 t1005.length co25)) (fun _ h_ => h_.1))))) (Kd.R_lt (by (with_reducible repeat (first | apply Kd.R_alloc | apply Kd.R_drewN | apply Kd.R_drew)); exact (Kd.R_mono (Kd.R_far (p := ⟨gb1012, 2, none⟩) (Kd.R_far (p := ⟨gb1012, 1, none⟩) (Kd.R_far (p := ⟨gb1012, 0, none⟩) (Kd.R_types HO1010.out BK1012.out (by decide)) (fun _ hk => hk.2) (.int .i64 t1001)) (fun _ hk => hk.2) (.slice Ao24 t1002.length co24)) (fun _ hk => hk.2) (.slice Ao25 t1005.length co25)) (fun _ h_ => h_.1))))) (below_size (pkW HB.out))); have HO1019 := am (Kd.R_lower (Kd.R_new' (Kd.R_new' (Kd.R_new' (Kd.R_new' (Kd.R_new' ho1 (Kd.R_lt (by (with_reducible repeat (first | apply Kd.R_alloc | apply Kd.R_drewN | apply Kd.R_drew)); exact (Kd.R_mono (Kd.R_far (p := ⟨gb1012, 2, none⟩) (Kd.R_far (p := ⟨gb1012, 1, none⟩) (Kd.R_far (p := ⟨gb1012, 0, none⟩) (Kd.R_types HO997.out BK1012.out (by decide)) (fun _ hk => hk.2) (.int .i64 t1001)) (fun _ hk => hk.2) (.slice Ao24 t1002.length co24)) (fun _ hk => hk.2) (.slice Ao25 t1005.length co25)) (fun _ h_ => h_.1))))) (Kd.R_lt (by (with_reducible repeat (first | apply Kd.R_alloc | apply Kd.R_drewN | apply Kd.R_drew)); exact (Kd.R_mono (Kd.R_far (p := ⟨gb1012, 2, none⟩) (Kd.R_far (p := ⟨gb1012, 1, none⟩) (Kd.R_far (p := ⟨gb1012, 0, none⟩) (Kd.R_types HO1000.out BK1012.out (by decide)) (fun _ hk => hk.2) (.int .i64 t1001)) (fun _ hk => hk.2) (.slice Ao24 t1002.length co24)) (fun _ hk => hk.2) (.slice Ao25 t1005.length co25)) (fun _ h_ => h_.1))))) (Kd.R_lt (by (with_reducible repeat (first | apply Kd.R_alloc | apply Kd.R_drewN | apply Kd.R_drew)); exact (Kd.R_mono (Kd.R_far (p := ⟨gb1012, 2, none⟩) (Kd.R_far (p := ⟨gb1012, 1, none⟩) (Kd.R_far (p := ⟨gb1012, 0, none⟩) (Kd.R_types HO1004.out BK1012.out (by decide)) (fun _ hk => hk.2) (.int .i64 t1001)) (fun _ hk => hk.2) (.slice Ao24 t1002.length co24)) (fun _ hk => hk.2) (.slice Ao25 t1005.length co25)) (fun _ h_ => h_.1))))) (Kd.R_lt (by (with_reducible repeat (first | apply Kd.R_alloc | apply Kd.R_drewN | apply Kd.R_drew)); exact (Kd.R_mono (Kd.R_far (p := ⟨gb1012, 2, none⟩) (Kd.R_far (p := ⟨gb1012, 1, none⟩) (Kd.R_far (p := ⟨gb1012, 0, none⟩) (Kd.R_types HO1007.out BK1012.out (by decide)) (fun _ hk => hk.2) (.int .i64 t1001)) (fun _ hk => hk.2) (.slice Ao24 t1002.length co24)) (fun _ hk => hk.2) (.slice Ao25 t1005.length co25)) (fun _ h_ => h_.1))))) (Kd.R_lt (by (with_reducible repeat (first | apply Kd.R_alloc | apply Kd.R_drewN | apply Kd.R_drew)); exact (Kd.R_mono (Kd.R_far (p := ⟨gb1012, 2, none⟩) (Kd.R_far (p := ⟨gb1012, 1, none⟩) (Kd.R_far (p := ⟨gb1012, 0, none⟩) (Kd.R_types HO1010.out BK1012.out (by decide)) (fun _ hk => hk.2) (.int .i64 t1001)) (fun _ hk => hk.2) (.slice Ao24 t1002.length co24)) (fun _ hk => hk.2) (.slice Ao25 t1005.length co25)) (fun _ h_ => h_.1))))) (below_size (pkW HB.out))); replace HO997 := am (Kd.R_mono (Kd.R_told (Kd.R_told (Kd.R_old (by (with_reducible repeat (first | apply Kd.R_alloc | apply Kd.R_drewN | apply Kd.R_drew)); exact (Kd.R_mono (Kd.R_far (p := ⟨gb1012, 2, none⟩) (Kd.R_far (p := ⟨gb1012, 1, none⟩) (Kd.R_far (p := ⟨gb1012, 0, none⟩) (Kd.R_types HO997.out BK1012.out (by decide)) (fun _ hk => hk.2) (.int .i64 t1001)) (fun _ hk => hk.2) (.slice Ao24 t1002.length co24)) (fun _ hk => hk.2) (.slice Ao25 t1005.length co25)) (fun _ h_ => h_.1))) hb) (Kd.R_base ho0)) (Kd.R_base ho1)) (fun _ h_ => h_.1)); replace HO1000 := am (Kd.R_mono (Kd.R_told (Kd.R_told (Kd.R_old (by (with_reducible repeat (first | apply Kd.R_alloc | apply Kd.R_drewN | apply Kd.R_drew)); exact (Kd.R_mono (Kd.R_far (p := ⟨gb1012, 2, none⟩) (Kd.R_far (p := ⟨gb1012, 1, none⟩) (Kd.R_far (p := ⟨gb1012, 0, none⟩) (Kd.R_types HO1000.out BK1012.out (by decide)) (fun _ hk => hk.2) (.int .i64 t1001)) (fun _ hk => hk.2) (.slice Ao24 t1002.length co24)) (fun _ hk => hk.2) (.slice Ao25 t1005.length co25)) (fun _ h_ => h_.1))) hb) (Kd.R_base ho0)) (Kd.R_base ho1)) (fun _ h_ => h_.1)); replace HO1004 := am (Kd.R_mono (Kd.R_told (Kd.R_told (Kd.R_old (by (with_reducible repeat (first | apply Kd.R_alloc | apply Kd.R_drewN | apply Kd.R_drew)); exact (Kd.R_mono (Kd.R_far (p := ⟨gb1012, 2, none⟩) (Kd.R_far (p := ⟨gb1012, 1, none⟩) (Kd.R_far (p := ⟨gb1012, 0, none⟩) (Kd.R_types HO1004.out BK1012.out (by decide)) (fun _ hk => hk.2) (.int .i64 t1001)) (fun _ hk => hk.2) (.slice Ao24 t1002.length co24)) (fun _ hk => hk.2) (.slice Ao25 t1005.length co25)) (fun _ h_ => h_.1))) hb) (Kd.R_base ho0)) (Kd.R_base ho1)) (fun _ h_ => h_.1)); replace HO1007 := am (Kd.R_mono (Kd.R_told (Kd.R_told (Kd.R_old (by (with_reducible repeat (first | apply Kd.R_alloc | apply Kd.R_drewN | apply Kd.R_drew)); exact (Kd.R_mono (Kd.R_far (p := ⟨gb1012, 2, none⟩) (Kd.R_far (p := ⟨gb1012, 1, none⟩) (Kd.R_far (p := ⟨gb1012, 0, none⟩) (Kd.R_types HO1007.out BK1012.out (by decide)) (fun _ hk => hk.2) (.int .i64 t1001)) (fun _ hk => hk.2) (.slice Ao24 t1002.length co24)) (fun _ hk => hk.2) (.slice Ao25 t1005.length co25)) (fun _ h_ => h_.1))) hb) (Kd.R_base ho0)) (Kd.R_base ho1)) (fun _ h_ => h_.1)); replace HO1010 := am (Kd.R_mono (Kd.R_told (Kd.R_told (Kd.R_old (by (with_reducible repeat (first | apply Kd.R_alloc | apply Kd.R_drewN | apply Kd.R_drew)); exact (Kd.R_mono (Kd.R_far (p := ⟨gb1012, 2, none⟩) (Kd.R_far (p := ⟨gb1012, 1, none⟩) (Kd.R_far (p := ⟨gb1012, 0, none⟩) (Kd.R_types HO1010.out BK1012.out (by decide)) (fun _ hk => hk.2) (.int .i64 t1001)) (fun _ hk => hk.2) (.slice Ao24 t1002.length co24)) (fun _ hk => hk.2) (.slice Ao25 t1005.length co25)) (fun _ h_ => h_.1))) hb) (Kd.R_base ho0)) (Kd.R_base ho1)) (fun _ h_ => h_.1)); replace BK992 := am (blk_below (g := gb992) (o := .cells #[.int .i64 a0_0, .slice A0_1 l0_1.length c0_1, .slice A0_2 l0_2.length c0_2] 43 (0, 0)) (by (with_reducible repeat (first | refine blk_drewN ?_ _ | refine blk_drew ?_ | refine blk_alloc ?_ _)); refine blk_far ?_ NB992_1012.out _; (with_reducible repeat (first | refine blk_drewN ?_ _ | refine blk_drew ?_ | refine blk_alloc ?_ _)); refine blk_far ?_ NB992_1012.out _; (with_reducible repeat (first | refine blk_drewN ?_ _ | refine blk_drew ?_ | refine blk_alloc ?_ _)); refine blk_far ?_ NB992_1012.out _; exact pkK BK992.out) hb); replace BK1012 := am (blk_below (g := gb1012) (o := .cells #[.int .i64 t1001, .slice Ao24 t1002.length co24, .slice Ao25 t1005.length co25] 46 (0, 0)) (by (with_reducible repeat (first | refine blk_drewN ?_ _ | refine blk_drew ?_ | refine blk_alloc ?_ _)); refine blk_put (cs := #[.int .i64 t1001, .slice Ao24 t1002.length co24, .slice none 0 0]) ?_ 2 _ rfl; (with_reducible repeat (first | refine blk_drewN ?_ _ | refine blk_drew ?_ | refine blk_alloc ?_ _)); refine blk_put (cs := #[.int .i64 t1001, .slice none 0 0, .slice none 0 0]) ?_ 1 _ rfl; (with_reducible repeat (first | refine blk_drewN ?_ _ | refine blk_drew ?_ | refine blk_alloc ?_ _)); refine blk_put (cs := #[.int .i64 0, .slice none 0 0, .slice none 0 0]) ?_ 0 _ rfl; exact pkK BK1012.out) hb); replace HB := am (below_step (pkW HB.out) hb); (try clear hb ho0 ho1)) | ((with_reducible refine gate_dst (N := 9) rfl ?_); refine box_event ?hg (N := 9) ?hd (cs := #[.int .i64 0, .slice none 0 0, .slice none 0 0]) (t := 46) ?hr ?_; (case hd => rfl); (case hg => rfl); (case hr => first | (go_simp; done) | (go_simp; rfl)); intro gb1020 hg w28 hbox hb; replace HO997 := am (Kd.R_below (pkR HO997.out) hb); replace HO1000 := am (Kd.R_below (pkR HO1000.out) hb); replace HO1004 := am (Kd.R_below (pkR HO1004.out) hb); replace HO1007 := am (Kd.R_below (pkR HO1007.out) hb); replace HO1010 := am (Kd.R_below (pkR HO1010.out) hb); replace HO1016 := am (Kd.R_below (pkR HO1016.out) hb); replace HO1019 := am (Kd.R_below (pkR HO1019.out) hb); have BK1020 := am (hbox); have GW1020 := am ((by rw [hg]; exact (below_size (pkW HB.out)) : w.heap.size ≤ gb1020)); have GE1020 := am ((by rw [hg]; exact (below_size (pkW HB.out)) : w.heap.size ≤ gb1020)); replace HB := am (below_step (pkW HB.out) hb); have NB992_1020 := am ((by rw [hg]; exact Nat.ne_of_lt (blk_lt (g := gb992) (o := .cells #[.int .i64 a0_0, .slice A0_1 l0_1.length c0_1, .slice A0_2 l0_2.length c0_2] 43 (0, 0)) (pkK BK992.out)) : gb992 ≠ gb1020)); have NB1020_992 := am ((by rw [hg]; exact Nat.ne_of_gt (blk_lt (g := gb992) (o := .cells #[.int .i64 a0_0, .slice A0_1 l0_1.length c0_1, .slice A0_2 l0_2.length c0_2] 43 (0, 0)) (pkK BK992.out)) : gb1020 ≠ gb992)); replace BK992 := am (blk_below (pkK BK992.out) hb); have NB1012_1020 := am ((by rw [hg]; exact Nat.ne_of_lt (blk_lt (g := gb1012) (o := .cells #[.int .i64 t1001, .slice Ao24 t1002.length co24, .slice Ao25 t1005.length co25] 46 (0, 0)) (pkK BK1012.out)) : gb1012 ≠ gb1020)); have NB1020_1012 := am ((by rw [hg]; exact Nat.ne_of_gt (blk_lt (g := gb1012) (o := .cells #[.int .i64 t1001, .slice Ao24 t1002.length co24, .slice Ao25 t1005.length co25] 46 (0, 0)) (pkK BK1012.out)) : gb1020 ≠ gb1012)); replace BK1012 := am (blk_below (pkK BK1012.out) hb); clear hb hbox hg; have hnb29 := NB1020_992.out; have hnc29 := NB992_1020.out; have hnb30 := NB1020_1012.out; have hnc30 := NB1012_1020.out; obtain ⟨hcz31_0, hcz31_1, hcz31_2, hfz31_0, hfz31_1, hfz31_2⟩ := bk3 BK1020.out; obtain ⟨Ao32, co32, eo32⟩ := Kd.R_slice HO1016.out; subst eo32; obtain ⟨Ao33, co33, eo33⟩ := Kd.R_slice HO1019.out; subst eo33) | ((with_reducible refine gate_callee (f := 29) rfl ?_); refine goesL_ (some 37) rfl rfl Try.func29 (by kernel_rfl) rfl #[.agg #[.int .i64 t1013, .slice Ao32 t1014.length co32, .slice Ao33 t1017.length co33], .int .i64 a1] rfl mpx ?_; (with_reducible refine (impl_CountDown.calls k t1013 _ _ t1014 _ _ t1017 a1 t1021 t1022 t1025 t1028 t1031 _ ?side1 ?side2 ?side3 ?side4 A11.out).mono ?_); (case side1 => refine (Kd.R_reads' (e := 3) (base := w.heap.size) (ok := fun k_ => (((((some k_ ≠ (.slice Ao33 t1017.length co33 : Value).ownBlock ∧ some k_ ≠ (.slice Ao18 t995.length co18 : Value).ownBlock) ∧ some k_ ≠ (.slice Ao19 t998.length co19 : Value).ownBlock) ∧ some k_ ≠ (.slice Ao24 t1002.length co24 : Value).ownBlock) ∧ some k_ ≠ (.slice Ao25 t1005.length co25 : Value).ownBlock) ∧ some k_ ≠ (v1009 : Value).ownBlock)) (n := t1014.length) (c := co32) ?_).2.2; exact (by (with_reducible repeat (first | apply Kd.R_alloc | apply Kd.R_drewN | apply Kd.R_drew)); exact (Kd.R_mono (Kd.R_far (p := ⟨gb1020, 2, none⟩) (Kd.R_far (p := ⟨gb1020, 1, none⟩) (Kd.R_far (p := ⟨gb1020, 0, none⟩) (Kd.R_types HO1016.out BK1020.out (by decide)) (fun _ hk => hk.2) (.int .i64 t1013)) (fun _ hk => hk.2) (.slice Ao32 t1014.length co32)) (fun _ hk => hk.2) (.slice Ao33 t1017.length co33)) (fun _ h_ => h_.1)))); (case side2 => exact (Kd.R_reads' HO1016.out).2.1); (case side3 => refine (Kd.R_reads' (e := 3) (base := w.heap.size) (ok := fun k_ => (((((some k_ ≠ (.slice Ao32 t1014.length co32 : Value).ownBlock ∧ some k_ ≠ (.slice Ao18 t995.length co18 : Value).ownBlock) ∧ some k_ ≠ (.slice Ao19 t998.length co19 : Value).ownBlock) ∧ some k_ ≠ (.slice Ao24 t1002.length co24 : Value).ownBlock) ∧ some k_ ≠ (.slice Ao25 t1005.length co25 : Value).ownBlock) ∧ some k_ ≠ (v1009 : Value).ownBlock)) (n := t1017.length) (c := co33) ?_).2.2; exact (by (with_reducible repeat (first | apply Kd.R_alloc | apply Kd.R_drewN | apply Kd.R_drew)); exact (Kd.R_mono (Kd.R_far (p := ⟨gb1020, 2, none⟩) (Kd.R_far (p := ⟨gb1020, 1, none⟩) (Kd.R_far (p := ⟨gb1020, 0, none⟩) (Kd.R_types HO1019.out BK1020.out (by decide)) (fun _ hk => hk.2) (.int .i64 t1013)) (fun _ hk => hk.2) (.slice Ao32 t1014.length co32)) (fun _ hk => hk.2) (.slice Ao33 t1017.length co33)) (fun _ h_ => h_.1)))); (case side4 => exact (Kd.R_reads' HO1019.out).2.1); rintro e w34 ⟨v1023, v1026, v1029, rfl, ho0, ho1, ho2, hb⟩; refine ⟨_, rfl, ?_⟩; have HO1024 := am (Kd.R_lower (Kd.R_new' (Kd.R_new' (Kd.R_new' (Kd.R_new' (Kd.R_new' (Kd.R_new' (Kd.R_new' ho0 (Kd.R_lt (by (with_reducible repeat (first | apply Kd.R_alloc | apply Kd.R_drewN | apply Kd.R_drew)); exact (Kd.R_mono (Kd.R_far (p := ⟨gb1020, 2, none⟩) (Kd.R_far (p := ⟨gb1020, 1, none⟩) (Kd.R_far (p := ⟨gb1020, 0, none⟩) (Kd.R_types HO997.out BK1020.out (by decide)) (fun _ hk => hk.2) (.int .i64 t1013)) (fun _ hk => hk.2) (.slice Ao32 t1014.length co32)) (fun _ hk => hk.2) (.slice Ao33 t1017.length co33)) (fun _ h_ => h_.1))))) (Kd.R_lt (by (with_reducible repeat (first | apply Kd.R_alloc | apply Kd.R_drewN | apply Kd.R_drew)); exact (Kd.R_mono (Kd.R_far (p := ⟨gb1020, 2, none⟩) (Kd.R_far (p := ⟨gb1020, 1, none⟩) (Kd.R_far (p := ⟨gb1020, 0, none⟩) (Kd.R_types HO1000.out BK1020.out (by decide)) (fun _ hk => hk.2) (.int .i64 t1013)) (fun _ hk => hk.2) (.slice Ao32 t1014.length co32)) (fun _ hk => hk.2) (.slice Ao33 t1017.length co33)) (fun _ h_ => h_.1))))) (Kd.R_lt (by (with_reducible repeat (first | apply Kd.R_alloc | apply Kd.R_drewN | apply Kd.R_drew)); exact (Kd.R_mono (Kd.R_far (p := ⟨gb1020, 2, none⟩) (Kd.R_far (p := ⟨gb1020, 1, none⟩) (Kd.R_far (p := ⟨gb1020, 0, none⟩) (Kd.R_types HO1004.out BK1020.out (by decide)) (fun _ hk => hk.2) (.int .i64 t1013)) (fun _ hk => hk.2) (.slice Ao32 t1014.length co32)) (fun _ hk => hk.2) (.slice Ao33 t1017.length co33)) (fun _ h_ => h_.1))))) (Kd.R_lt (by (with_reducible repeat (first | apply Kd.R_alloc | apply Kd.R_drewN | apply Kd.R_drew)); exact (Kd.R_mono (Kd.R_far (p := ⟨gb1020, 2, none⟩) (Kd.R_far (p := ⟨gb1020, 1, none⟩) (Kd.R_far (p := ⟨gb1020, 0, none⟩) (Kd.R_types HO1007.out BK1020.out (by decide)) (fun _ hk => hk.2) (.int .i64 t1013)) (fun _ hk => hk.2) (.slice Ao32 t1014.length co32)) (fun _ hk => hk.2) (.slice Ao33 t1017.length co33)) (fun _ h_ => h_.1))))) (Kd.R_lt (by (with_reducible repeat (first | apply Kd.R_alloc | apply Kd.R_drewN | apply Kd.R_drew)); exact (Kd.R_mono (Kd.R_far (p := ⟨gb1020, 2, none⟩) (Kd.R_far (p := ⟨gb1020, 1, none⟩) (Kd.R_far (p := ⟨gb1020, 0, none⟩) (Kd.R_types HO1010.out BK1020.out (by decide)) (fun _ hk => hk.2) (.int .i64 t1013)) (fun _ hk => hk.2) (.slice Ao32 t1014.length co32)) (fun _ hk => hk.2) (.slice Ao33 t1017.length co33)) (fun _ h_ => h_.1))))) (Kd.R_lt (by (with_reducible repeat (first | apply Kd.R_alloc | apply Kd.R_drewN | apply Kd.R_drew)); exact (Kd.R_mono (Kd.R_far (p := ⟨gb1020, 2, none⟩) (Kd.R_far (p := ⟨gb1020, 1, none⟩) (Kd.R_far (p := ⟨gb1020, 0, none⟩) (Kd.R_types HO1016.out BK1020.out (by decide)) (fun _ hk => hk.2) (.int .i64 t1013)) (fun _ hk => hk.2) (.slice Ao32 t1014.length co32)) (fun _ hk => hk.2) (.slice Ao33 t1017.length co33)) (fun _ h_ => h_.1))))) (Kd.R_lt (by (with_reducible repeat (first | apply Kd.R_alloc | apply Kd.R_drewN | apply Kd.R_drew)); exact (Kd.R_mono (Kd.R_far (p := ⟨gb1020, 2, none⟩) (Kd.R_far (p := ⟨gb1020, 1, none⟩) (Kd.R_far (p := ⟨gb1020, 0, none⟩) (Kd.R_types HO1019.out BK1020.out (by decide)) (fun _ hk => hk.2) (.int .i64 t1013)) (fun _ hk => hk.2) (.slice Ao32 t1014.length co32)) (fun _ hk => hk.2) (.slice Ao33 t1017.length co33)) (fun _ h_ => h_.1))))) (below_size (pkW HB.out))); have HO1027 := am (Kd.R_lower (Kd.R_new' (Kd.R_new' (Kd.R_new' (Kd.R_new' (Kd.R_new' (Kd.R_new' (Kd.R_new' ho1 (Kd.R_lt (by (with_reducible repeat (first | apply Kd.R_alloc | apply Kd.R_drewN | apply Kd.R_drew)); exact (Kd.R_mono (Kd.R_far (p := ⟨gb1020, 2, none⟩) (Kd.R_far (p := ⟨gb1020, 1, none⟩) (Kd.R_far (p := ⟨gb1020, 0, none⟩) (Kd.R_types HO997.out BK1020.out (by decide)) (fun _ hk => hk.2) (.int .i64 t1013)) (fun _ hk => hk.2) (.slice Ao32 t1014.length co32)) (fun _ hk => hk.2) (.slice Ao33 t1017.length co33)) (fun _ h_ => h_.1))))) (Kd.R_lt (by (with_reducible repeat (first | apply Kd.R_alloc | apply Kd.R_drewN | apply Kd.R_drew)); exact (Kd.R_mono (Kd.R_far (p := ⟨gb1020, 2, none⟩) (Kd.R_far (p := ⟨gb1020, 1, none⟩) (Kd.R_far (p := ⟨gb1020, 0, none⟩) (Kd.R_types HO1000.out BK1020.out (by decide)) (fun _ hk => hk.2) (.int .i64 t1013)) (fun _ hk => hk.2) (.slice Ao32 t1014.length co32)) (fun _ hk => hk.2) (.slice Ao33 t1017.length co33)) (fun _ h_ => h_.1))))) (Kd.R_lt (by (with_reducible repeat (first | apply Kd.R_alloc | apply Kd.R_drewN | apply Kd.R_drew)); exact (Kd.R_mono (Kd.R_far (p := ⟨gb1020, 2, none⟩) (Kd.R_far (p := ⟨gb1020, 1, none⟩) (Kd.R_far (p := ⟨gb1020, 0, none⟩) (Kd.R_types HO1004.out BK1020.out (by decide)) (fun _ hk => hk.2) (.int .i64 t1013)) (fun _ hk => hk.2) (.slice Ao32 t1014.length co32)) (fun _ hk => hk.2) (.slice Ao33 t1017.length co33)) (fun _ h_ => h_.1))))) (Kd.R_lt (by (with_reducible repeat (first | apply Kd.R_alloc | apply Kd.R_drewN | apply Kd.R_drew)); exact (Kd.R_mono (Kd.R_far (p := ⟨gb1020, 2, none⟩) (Kd.R_far (p := ⟨gb1020, 1, none⟩) (Kd.R_far (p := ⟨gb1020, 0, none⟩) (Kd.R_types HO1007.out BK1020.out (by decide)) (fun _ hk => hk.2) (.int .i64 t1013)) (fun _ hk => hk.2) (.slice Ao32 t1014.length co32)) (fun _ hk => hk.2) (.slice Ao33 t1017.length co33)) (fun _ h_ => h_.1))))) (Kd.R_lt (by (with_reducible repeat (first | apply Kd.R_alloc | apply Kd.R_drewN | apply Kd.R_drew)); exact (Kd.R_mono (Kd.R_far (p := ⟨gb1020, 2, none⟩) (Kd.R_far (p := ⟨gb1020, 1, none⟩) (Kd.R_far (p := ⟨gb1020, 0, none⟩) (Kd.R_types HO1010.out BK1020.out (by decide)) (fun _ hk => hk.2) (.int .i64 t1013)) (fun _ hk => hk.2) (.slice Ao32 t1014.length co32)) (fun _ hk => hk.2) (.slice Ao33 t1017.length co33)) (fun _ h_ => h_.1))))) (Kd.R_lt (by (with_reducible repeat (first | apply Kd.R_alloc | apply Kd.R_drewN | apply Kd.R_drew)); exact (Kd.R_mono (Kd.R_far (p := ⟨gb1020, 2, none⟩) (Kd.R_far (p := ⟨gb1020, 1, none⟩) (Kd.R_far (p := ⟨gb1020, 0, none⟩) (Kd.R_types HO1016.out BK1020.out (by decide)) (fun _ hk => hk.2) (.int .i64 t1013)) (fun _ hk => hk.2) (.slice Ao32 t1014.length co32)) (fun _ hk => hk.2) (.slice Ao33 t1017.length co33)) (fun _ h_ => h_.1))))) (Kd.R_lt (by (with_reducible repeat (first | apply Kd.R_alloc | apply Kd.R_drewN | apply Kd.R_drew)); exact (Kd.R_mono (Kd.R_far (p := ⟨gb1020, 2, none⟩) (Kd.R_far (p := ⟨gb1020, 1, none⟩) (Kd.R_far (p := ⟨gb1020, 0, none⟩) (Kd.R_types HO1019.out BK1020.out (by decide)) (fun _ hk => hk.2) (.int .i64 t1013)) (fun _ hk => hk.2) (.slice Ao32 t1014.length co32)) (fun _ hk => hk.2) (.slice Ao33 t1017.length co33)) (fun _ h_ => h_.1))))) (below_size (pkW HB.out))); have HO1030 := am (Kd.R_lower (Kd.R_new' (Kd.R_new' (Kd.R_new' (Kd.R_new' (Kd.R_new' (Kd.R_new' (Kd.R_new' ho2 (Kd.R_lt (by (with_reducible repeat (first | apply Kd.R_alloc | apply Kd.R_drewN | apply Kd.R_drew)); exact (Kd.R_mono (Kd.R_far (p := ⟨gb1020, 2, none⟩) (Kd.R_far (p := ⟨gb1020, 1, none⟩) (Kd.R_far (p := ⟨gb1020, 0, none⟩) (Kd.R_types HO997.out BK1020.out (by decide)) (fun _ hk => hk.2) (.int .i64 t1013)) (fun _ hk => hk.2) (.slice Ao32 t1014.length co32)) (fun _ hk => hk.2) (.slice Ao33 t1017.length co33)) (fun _ h_ => h_.1))))) (Kd.R_lt (by (with_reducible repeat (first | apply Kd.R_alloc | apply Kd.R_drewN | apply Kd.R_drew)); exact (Kd.R_mono (Kd.R_far (p := ⟨gb1020, 2, none⟩) (Kd.R_far (p := ⟨gb1020, 1, none⟩) (Kd.R_far (p := ⟨gb1020, 0, none⟩) (Kd.R_types HO1000.out BK1020.out (by decide)) (fun _ hk => hk.2) (.int .i64 t1013)) (fun _ hk => hk.2) (.slice Ao32 t1014.length co32)) (fun _ hk => hk.2) (.slice Ao33 t1017.length co33)) (fun _ h_ => h_.1))))) (Kd.R_lt (by (with_reducible repeat (first | apply Kd.R_alloc | apply Kd.R_drewN | apply Kd.R_drew)); exact (Kd.R_mono (Kd.R_far (p := ⟨gb1020, 2, none⟩) (Kd.R_far (p := ⟨gb1020, 1, none⟩) (Kd.R_far (p := ⟨gb1020, 0, none⟩) (Kd.R_types HO1004.out BK1020.out (by decide)) (fun _ hk => hk.2) (.int .i64 t1013)) (fun _ hk => hk.2) (.slice Ao32 t1014.length co32)) (fun _ hk => hk.2) (.slice Ao33 t1017.length co33)) (fun _ h_ => h_.1))))) (Kd.R_lt (by (with_reducible repeat (first | apply Kd.R_alloc | apply Kd.R_drewN | apply Kd.R_drew)); exact (Kd.R_mono (Kd.R_far (p := ⟨gb1020, 2, none⟩) (Kd.R_far (p := ⟨gb1020, 1, none⟩) (Kd.R_far (p := ⟨gb1020, 0, none⟩) (Kd.R_types HO1007.out BK1020.out (by decide)) (fun _ hk => hk.2) (.int .i64 t1013)) (fun _ hk => hk.2) (.slice Ao32 t1014.length co32)) (fun _ hk => hk.2) (.slice Ao33 t1017.length co33)) (fun _ h_ => h_.1))))) (Kd.R_lt (by (with_reducible repeat (first | apply Kd.R_alloc | apply Kd.R_drewN | apply Kd.R_drew)); exact (Kd.R_mono (Kd.R_far (p := ⟨gb1020, 2, none⟩) (Kd.R_far (p := ⟨gb1020, 1, none⟩) (Kd.R_far (p := ⟨gb1020, 0, none⟩) (Kd.R_types HO1010.out BK1020.out (by decide)) (fun _ hk => hk.2) (.int .i64 t1013)) (fun _ hk => hk.2) (.slice Ao32 t1014.length co32)) (fun _ hk => hk.2) (.slice Ao33 t1017.length co33)) (fun _ h_ => h_.1))))) (Kd.R_lt (by (with_reducible repeat (first | apply Kd.R_alloc | apply Kd.R_drewN | apply Kd.R_drew)); exact (Kd.R_mono (Kd.R_far (p := ⟨gb1020, 2, none⟩) (Kd.R_far (p := ⟨gb1020, 1, none⟩) (Kd.R_far (p := ⟨gb1020, 0, none⟩) (Kd.R_types HO1016.out BK1020.out (by decide)) (fun _ hk => hk.2) (.int .i64 t1013)) (fun _ hk => hk.2) (.slice Ao32 t1014.length co32)) (fun _ hk => hk.2) (.slice Ao33 t1017.length co33)) (fun _ h_ => h_.1))))) (Kd.R_lt (by (with_reducible repeat (first | apply Kd.R_alloc | apply Kd.R_drewN | apply Kd.R_drew)); exact (Kd.R_mono (Kd.R_far (p := ⟨gb1020, 2, none⟩) (Kd.R_far (p := ⟨gb1020, 1, none⟩) (Kd.R_far (p := ⟨gb1020, 0, none⟩) (Kd.R_types HO1019.out BK1020.out (by decide)) (fun _ hk => hk.2) (.int .i64 t1013)) (fun _ hk => hk.2) (.slice Ao32 t1014.length co32)) (fun _ hk => hk.2) (.slice Ao33 t1017.length co33)) (fun _ h_ => h_.1))))) (below_size (pkW HB.out))); replace HO997 := am (Kd.R_mono (Kd.R_told (Kd.R_told (Kd.R_told (Kd.R_old (by (with_reducible repeat (first | apply Kd.R_alloc | apply Kd.R_drewN | apply Kd.R_drew)); exact (Kd.R_mono (Kd.R_far (p := ⟨gb1020, 2, none⟩) (Kd.R_far (p := ⟨gb1020, 1, none⟩) (Kd.R_far (p := ⟨gb1020, 0, none⟩) (Kd.R_types HO997.out BK1020.out (by decide)) (fun _ hk => hk.2) (.int .i64 t1013)) (fun _ hk => hk.2) (.slice Ao32 t1014.length co32)) (fun _ hk => hk.2) (.slice Ao33 t1017.length co33)) (fun _ h_ => h_.1))) hb) (Kd.R_base ho0)) (Kd.R_base ho1)) (Kd.R_base ho2)) (fun _ h_ => h_.1)); replace HO1000 := am (Kd.R_mono (Kd.R_told (Kd.R_told (Kd.R_told (Kd.R_old (by (with_reducible repeat (first | apply Kd.R_alloc | apply Kd.R_drewN | apply Kd.R_drew)); exact (Kd.R_mono (Kd.R_far (p := ⟨gb1020, 2, none⟩) (Kd.R_far (p := ⟨gb1020, 1, none⟩) (Kd.R_far (p := ⟨gb1020, 0, none⟩) (Kd.R_types HO1000.out BK1020.out (by decide)) (fun _ hk => hk.2) (.int .i64 t1013)) (fun _ hk => hk.2) (.slice Ao32 t1014.length co32)) (fun _ hk => hk.2) (.slice Ao33 t1017.length co33)) (fun _ h_ => h_.1))) hb) (Kd.R_base ho0)) (Kd.R_base ho1)) (Kd.R_base ho2)) (fun _ h_ => h_.1)); replace HO1004 := am (Kd.R_mono (Kd.R_told (Kd.R_told (Kd.R_told (Kd.R_old (by (with_reducible repeat (first | apply Kd.R_alloc | apply Kd.R_drewN | apply Kd.R_drew)); exact (Kd.R_mono (Kd.R_far (p := ⟨gb1020, 2, none⟩) (Kd.R_far (p := ⟨gb1020, 1, none⟩) (Kd.R_far (p := ⟨gb1020, 0, none⟩) (Kd.R_types HO1004.out BK1020.out (by decide)) (fun _ hk => hk.2) (.int .i64 t1013)) (fun _ hk => hk.2) (.slice Ao32 t1014.length co32)) (fun _ hk => hk.2) (.slice Ao33 t1017.length co33)) (fun _ h_ => h_.1))) hb) (Kd.R_base ho0)) (Kd.R_base ho1)) (Kd.R_base ho2)) (fun _ h_ => h_.1)); replace HO1007 := am (Kd.R_mono (Kd.R_told (Kd.R_told (Kd.R_told (Kd.R_old (by (with_reducible repeat (first | apply Kd.R_alloc | apply Kd.R_drewN | apply Kd.R_drew)); exact (Kd.R_mono (Kd.R_far (p := ⟨gb1020, 2, none⟩) (Kd.R_far (p := ⟨gb1020, 1, none⟩) (Kd.R_far (p := ⟨gb1020, 0, none⟩) (Kd.R_types HO1007.out BK1020.out (by decide)) (fun _ hk => hk.2) (.int .i64 t1013)) (fun _ hk => hk.2) (.slice Ao32 t1014.length co32)) (fun _ hk => hk.2) (.slice Ao33 t1017.length co33)) (fun _ h_ => h_.1))) hb) (Kd.R_base ho0)) (Kd.R_base ho1)) (Kd.R_base ho2)) (fun _ h_ => h_.1)); replace HO1010 := am (Kd.R_mono (Kd.R_told (Kd.R_told (Kd.R_told (Kd.R_old (by (with_reducible repeat (first | apply Kd.R_alloc | apply Kd.R_drewN | apply Kd.R_drew)); exact (Kd.R_mono (Kd.R_far (p := ⟨gb1020, 2, none⟩) (Kd.R_far (p := ⟨gb1020, 1, none⟩) (Kd.R_far (p := ⟨gb1020, 0, none⟩) (Kd.R_types HO1010.out BK1020.out (by decide)) (fun _ hk => hk.2) (.int .i64 t1013)) (fun _ hk => hk.2) (.slice Ao32 t1014.length co32)) (fun _ hk => hk.2) (.slice Ao33 t1017.length co33)) (fun _ h_ => h_.1))) hb) (Kd.R_base ho0)) (Kd.R_base ho1)) (Kd.R_base ho2)) (fun _ h_ => h_.1)); replace HO1016 := am (Kd.R_mono (Kd.R_told (Kd.R_told (Kd.R_told (Kd.R_old (by (with_reducible repeat (first | apply Kd.R_alloc | apply Kd.R_drewN | apply Kd.R_drew)); exact (Kd.R_mono (Kd.R_far (p := ⟨gb1020, 2, none⟩) (Kd.R_far (p := ⟨gb1020, 1, none⟩) (Kd.R_far (p := ⟨gb1020, 0, none⟩) (Kd.R_types HO1016.out BK1020.out (by decide)) (fun _ hk => hk.2) (.int .i64 t1013)) (fun _ hk => hk.2) (.slice Ao32 t1014.length co32)) (fun _ hk => hk.2) (.slice Ao33 t1017.length co33)) (fun _ h_ => h_.1))) hb) (Kd.R_base ho0)) (Kd.R_base ho1)) (Kd.R_base ho2)) (fun _ h_ => h_.1)); replace HO1019 := am (Kd.R_mono (Kd.R_told (Kd.R_told (Kd.R_told (Kd.R_old (by (with_reducible repeat (first | apply Kd.R_alloc | apply Kd.R_drewN | apply Kd.R_drew)); exact (Kd.R_mono (Kd.R_far (p := ⟨gb1020, 2, none⟩) (Kd.R_far (p := ⟨gb1020, 1, none⟩) (Kd.R_far (p := ⟨gb1020, 0, none⟩) (Kd.R_types HO1019.out BK1020.out (by decide)) (fun _ hk => hk.2) (.int .i64 t1013)) (fun _ hk => hk.2) (.slice Ao32 t1014.length co32)) (fun _ hk => hk.2) (.slice Ao33 t1017.length co33)) (fun _ h_ => h_.1))) hb) (Kd.R_base ho0)) (Kd.R_base ho1)) (Kd.R_base ho2)) (fun _ h_ => h_.1)); replace BK992 := am (blk_below (g := gb992) (o := .cells #[.int .i64 a0_0, .slice A0_1 l0_1.length c0_1, .slice A0_2 l0_2.length c0_2] 43 (0, 0)) (by (with_reducible repeat (first | refine blk_drewN ?_ _ | refine blk_drew ?_ | refine blk_alloc ?_ _)); refine blk_far ?_ NB992_1020.out _; (with_reducible repeat (first | refine blk_drewN ?_ _ | refine blk_drew ?_ | refine blk_alloc ?_ _)); refine blk_far ?_ NB992_1020.out _; (with_reducible repeat (first | refine blk_drewN ?_ _ | refine blk_drew ?_ | refine blk_alloc ?_ _)); refine blk_far ?_ NB992_1020.out _; exact pkK BK992.out) hb); replace BK1012 := am (blk_below (g := gb1012) (o := .cells #[.int .i64 t1001, .slice Ao24 t1002.length co24, .slice Ao25 t1005.length co25] 46 (0, 0)) (by (with_reducible repeat (first | refine blk_drewN ?_ _ | refine blk_drew ?_ | refine blk_alloc ?_ _)); refine blk_far ?_ NB1012_1020.out _; (with_reducible repeat (first | refine blk_drewN ?_ _ | refine blk_drew ?_ | refine blk_alloc ?_ _)); refine blk_far ?_ NB1012_1020.out _; (with_reducible repeat (first | refine blk_drewN ?_ _ | refine blk_drew ?_ | refine blk_alloc ?_ _)); refine blk_far ?_ NB1012_1020.out _; exact pkK BK1012.out) hb); replace BK1020 := am (blk_below (g := gb1020) (o := .cells #[.int .i64 t1013, .slice Ao32 t1014.length co32, .slice Ao33 t1017.length co33] 46 (0, 0)) (by (with_reducible repeat (first | refine blk_drewN ?_ _ | refine blk_drew ?_ | refine blk_alloc ?_ _)); refine blk_put (cs := #[.int .i64 t1013, .slice Ao32 t1014.length co32, .slice none 0 0]) ?_ 2 _ rfl; (with_reducible repeat (first | refine blk_drewN ?_ _ | refine blk_drew ?_ | refine blk_alloc ?_ _)); refine blk_put (cs := #[.int .i64 t1013, .slice none 0 0, .slice none 0 0]) ?_ 1 _ rfl; (with_reducible repeat (first | refine blk_drewN ?_ _ | refine blk_drew ?_ | refine blk_alloc ?_ _)); refine blk_put (cs := #[.int .i64 0, .slice none 0 0, .slice none 0 0]) ?_ 0 _ rfl; exact pkK BK1020.out) hb); replace HB := am (below_step (pkW HB.out) hb); (try clear hb ho0 ho1 ho2)) | ((with_reducible refine gate_dst (N := 10) rfl ?_); refine box_event ?hg (N := 10) ?hd (cs := #[.int .i64 0, .slice none 0 0, .slice none 0 0]) (t := 46) ?hr ?_; (case hd => rfl); (case hg => rfl); (case hr => first | (go_simp; done) | (go_simp; rfl)); intro gb1032 hg w35 hbox hb; replace HO997 := am (Kd.R_below (pkR HO997.out) hb); replace HO1000 := am (Kd.R_below (pkR HO1000.out) hb); replace HO1004 := am (Kd.R_below (pkR HO1004.out) hb); replace HO1007 := am (Kd.R_below (pkR HO1007.out) hb); replace HO1010 := am (Kd.R_below (pkR HO1010.out) hb); replace HO1016 := am (Kd.R_below (pkR HO1016.out) hb); replace HO1019 := am (Kd.R_below (pkR HO1019.out) hb); replace HO1024 := am (Kd.R_below (pkR HO1024.out) hb); replace HO1027 := am (Kd.R_below (pkR HO1027.out) hb); replace HO1030 := am (Kd.R_below (pkR HO1030.out) hb); have BK1032 := am (hbox); have GW1032 := am ((by rw [hg]; exact (below_size (pkW HB.out)) : w.heap.size ≤ gb1032)); have GE1032 := am ((by rw [hg]; exact (below_size (pkW HB.out)) : w.heap.size ≤ gb1032)); replace HB := am (below_step (pkW HB.out) hb); have NB992_1032 := am ((by rw [hg]; exact Nat.ne_of_lt (blk_lt (g := gb992) (o := .cells #[.int .i64 a0_0, .slice A0_1 l0_1.length c0_1, .slice A0_2 l0_2.length c0_2] 43 (0, 0)) (pkK BK992.out)) : gb992 ≠ gb1032)); have NB1032_992 := am ((by rw [hg]; exact Nat.ne_of_gt (blk_lt (g := gb992) (o := .cells #[.int .i64 a0_0, .slice A0_1 l0_1.length c0_1, .slice A0_2 l0_2.length c0_2] 43 (0, 0)) (pkK BK992.out)) : gb1032 ≠ gb992)); replace BK992 := am (blk_below (pkK BK992.out) hb); have NB1012_1032 := am ((by rw [hg]; exact Nat.ne_of_lt (blk_lt (g := gb1012) (o := .cells #[.int .i64 t1001, .slice Ao24 t1002.length co24, .slice Ao25 t1005.length co25] 46 (0, 0)) (pkK BK1012.out)) : gb1012 ≠ gb1032)); have NB1032_1012 := am ((by rw [hg]; exact Nat.ne_of_gt (blk_lt (g := gb1012) (o := .cells #[.int .i64 t1001, .slice Ao24 t1002.length co24, .slice Ao25 t1005.length co25] 46 (0, 0)) (pkK BK1012.out)) : gb1032 ≠ gb1012)); replace BK1012 := am (blk_below (pkK BK1012.out) hb); have NB1020_1032 := am ((by rw [hg]; exact Nat.ne_of_lt (blk_lt (g := gb1020) (o := .cells #[.int .i64 t1013, .slice Ao32 t1014.length co32, .slice Ao33 t1017.length co33] 46 (0, 0)) (pkK BK1020.out)) : gb1020 ≠ gb1032)); have NB1032_1020 := am ((by rw [hg]; exact Nat.ne_of_gt (blk_lt (g := gb1020) (o := .cells #[.int .i64 t1013, .slice Ao32 t1014.length co32, .slice Ao33 t1017.length co33] 46 (0, 0)) (pkK BK1020.out)) : gb1032 ≠ gb1020)); replace BK1020 := am (blk_below (pkK BK1020.out) hb); clear hb hbox hg; have hnb36 := NB1032_992.out; have hnc36 := NB992_1032.out; have hnb37 := NB1032_1012.out; have hnc37 := NB1012_1032.out; have hnb38 := NB1032_1020.out; have hnc38 := NB1020_1032.out; obtain ⟨hcz39_0, hcz39_1, hcz39_2, hfz39_0, hfz39_1, hfz39_2⟩ := bk3 BK1032.out; obtain ⟨Ao40, co40, eo40⟩ := Kd.R_slice HO1024.out; subst eo40; obtain ⟨Ao41, co41, eo41⟩ := Kd.R_slice HO1027.out; subst eo41))
  (try simp only [Act.put, List.setIfInBounds_toArray, List.set_cons_zero, List.set_cons_succ])
  go_cut [55] (fun v55 wc => ∃ (kq : Nat) (x55_11 : Bool), v55 = .bool x55_11 ∧ Aside0 (laws_FnExactCountDown.j0 kq a1 t1008 t1011 t1028 t1031 x55_11 a0_0 l0_1 l0_2 t1001 t1002 t1005 t1013 t1014 t1017 t1021 t1022 t1025 = some r) ∧ Aside0 (kq ≤ k) ∧ Aside0 (Kd.R (Kd.int .i64) 3 wc w.heap.size (fun k_ => some k_ ≠ (v1029 : Value).ownBlock ∧ some k_ ≠ ((.slice Ao24 t1002.length co24) : Value).ownBlock ∧ some k_ ≠ ((.slice Ao25 t1005.length co25) : Value).ownBlock ∧ some k_ ≠ ((.slice Ao32 t1014.length co32) : Value).ownBlock ∧ some k_ ≠ ((.slice Ao33 t1017.length co33) : Value).ownBlock ∧ some k_ ≠ ((.slice Ao40 t1022.length co40) : Value).ownBlock ∧ some k_ ≠ ((.slice Ao41 t1025.length co41) : Value).ownBlock) v1009 t1008) ∧ Aside0 (Kd.R (Kd.int .i64) 3 wc w.heap.size (fun k_ => some k_ ≠ (v1009 : Value).ownBlock ∧ some k_ ≠ ((.slice Ao24 t1002.length co24) : Value).ownBlock ∧ some k_ ≠ ((.slice Ao25 t1005.length co25) : Value).ownBlock ∧ some k_ ≠ ((.slice Ao32 t1014.length co32) : Value).ownBlock ∧ some k_ ≠ ((.slice Ao33 t1017.length co33) : Value).ownBlock ∧ some k_ ≠ ((.slice Ao40 t1022.length co40) : Value).ownBlock ∧ some k_ ≠ ((.slice Ao41 t1025.length co41) : Value).ownBlock) v1029 t1028) ∧ Aside0 (Kd.R (Kd.int .i64) 3 wc w.heap.size (fun k_ => some k_ ≠ (v1009 : Value).ownBlock ∧ some k_ ≠ (v1029 : Value).ownBlock ∧ some k_ ≠ ((.slice Ao25 t1005.length co25) : Value).ownBlock ∧ some k_ ≠ ((.slice Ao32 t1014.length co32) : Value).ownBlock ∧ some k_ ≠ ((.slice Ao33 t1017.length co33) : Value).ownBlock ∧ some k_ ≠ ((.slice Ao40 t1022.length co40) : Value).ownBlock ∧ some k_ ≠ ((.slice Ao41 t1025.length co41) : Value).ownBlock) (.slice Ao24 t1002.length co24) t1002) ∧ Aside0 (Kd.R (Kd.int .i64) 3 wc w.heap.size (fun k_ => some k_ ≠ (v1009 : Value).ownBlock ∧ some k_ ≠ (v1029 : Value).ownBlock ∧ some k_ ≠ ((.slice Ao24 t1002.length co24) : Value).ownBlock ∧ some k_ ≠ ((.slice Ao32 t1014.length co32) : Value).ownBlock ∧ some k_ ≠ ((.slice Ao33 t1017.length co33) : Value).ownBlock ∧ some k_ ≠ ((.slice Ao40 t1022.length co40) : Value).ownBlock ∧ some k_ ≠ ((.slice Ao41 t1025.length co41) : Value).ownBlock) (.slice Ao25 t1005.length co25) t1005) ∧ Aside0 (Kd.R (Kd.int .i64) 3 wc w.heap.size (fun k_ => some k_ ≠ (v1009 : Value).ownBlock ∧ some k_ ≠ (v1029 : Value).ownBlock ∧ some k_ ≠ ((.slice Ao24 t1002.length co24) : Value).ownBlock ∧ some k_ ≠ ((.slice Ao25 t1005.length co25) : Value).ownBlock ∧ some k_ ≠ ((.slice Ao33 t1017.length co33) : Value).ownBlock ∧ some k_ ≠ ((.slice Ao40 t1022.length co40) : Value).ownBlock ∧ some k_ ≠ ((.slice Ao41 t1025.length co41) : Value).ownBlock) (.slice Ao32 t1014.length co32) t1014) ∧ Aside0 (Kd.R (Kd.int .i64) 3 wc w.heap.size (fun k_ => some k_ ≠ (v1009 : Value).ownBlock ∧ some k_ ≠ (v1029 : Value).ownBlock ∧ some k_ ≠ ((.slice Ao24 t1002.length co24) : Value).ownBlock ∧ some k_ ≠ ((.slice Ao25 t1005.length co25) : Value).ownBlock ∧ some k_ ≠ ((.slice Ao32 t1014.length co32) : Value).ownBlock ∧ some k_ ≠ ((.slice Ao40 t1022.length co40) : Value).ownBlock ∧ some k_ ≠ ((.slice Ao41 t1025.length co41) : Value).ownBlock) (.slice Ao33 t1017.length co33) t1017) ∧ Aside0 (Kd.R (Kd.int .i64) 3 wc w.heap.size (fun k_ => some k_ ≠ (v1009 : Value).ownBlock ∧ some k_ ≠ (v1029 : Value).ownBlock ∧ some k_ ≠ ((.slice Ao24 t1002.length co24) : Value).ownBlock ∧ some k_ ≠ ((.slice Ao25 t1005.length co25) : Value).ownBlock ∧ some k_ ≠ ((.slice Ao32 t1014.length co32) : Value).ownBlock ∧ some k_ ≠ ((.slice Ao33 t1017.length co33) : Value).ownBlock ∧ some k_ ≠ ((.slice Ao41 t1025.length co41) : Value).ownBlock) (.slice Ao40 t1022.length co40) t1022) ∧ Aside0 (Kd.R (Kd.int .i64) 3 wc w.heap.size (fun k_ => some k_ ≠ (v1009 : Value).ownBlock ∧ some k_ ≠ (v1029 : Value).ownBlock ∧ some k_ ≠ ((.slice Ao24 t1002.length co24) : Value).ownBlock ∧ some k_ ≠ ((.slice Ao25 t1005.length co25) : Value).ownBlock ∧ some k_ ≠ ((.slice Ao32 t1014.length co32) : Value).ownBlock ∧ some k_ ≠ ((.slice Ao33 t1017.length co33) : Value).ownBlock ∧ some k_ ≠ ((.slice Ao40 t1022.length co40) : Value).ownBlock) (.slice Ao41 t1025.length co41) t1025) ∧ Aside0 (wc.heap[gb992]? = some (.cells #[.int .i64 a0_0, (.slice A0_1 l0_1.length c0_1), (.slice A0_2 l0_2.length c0_2)] 43 (0, 0))) ∧ Aside0 (wc.heap[gb1012]? = some (.cells #[.int .i64 t1001, (.slice Ao24 t1002.length co24), (.slice Ao25 t1005.length co25)] 46 (0, 0))) ∧ Aside0 (wc.heap[gb1020]? = some (.cells #[.int .i64 t1013, (.slice Ao32 t1014.length co32), (.slice Ao33 t1017.length co33)] 46 (0, 0))) ∧ Aside0 (wc.heap[gb1032]? = some (.cells #[.int .i64 t1021, (.slice Ao40 t1022.length co40), (.slice Ao41 t1025.length co41)] 46 (0, 0))) ∧ Aside0 (Below w.heap.size w wc))
  case first =>
   have H := HC12.out
   clear HC12
   replace H := Option.bind_eq_some_iff.mp H
   obtain ⟨t1033, A420, H⟩ := H
   replace H : (if t1033 = true then ((laws_eqIntS.f k t1028 t1008).bind fun t1034 => (if t1034 = true then (laws_FnExactCountDown.j0 k a1 t1008 t1011 t1028 t1031 (t1031 != t1011) a0_0 l0_1 l0_2 t1001 t1002 t1005 t1013 t1014 t1017 t1021 t1022 t1025) else (laws_FnExactCountDown.j0 k a1 t1008 t1011 t1028 t1031 true a0_0 l0_1 l0_2 t1001 t1002 t1005 t1013 t1014 t1017 t1021 t1022 t1025))) else (laws_FnExactCountDown.j0 k a1 t1008 t1011 t1028 t1031 true a0_0 l0_1 l0_2 t1001 t1002 t1005 t1013 t1014 t1017 t1021 t1022 t1025)) = some r := H
   have A42 := am A420
   clear A420
   by_cases c43 : t1033 = true
   ·subst c43
    replace H : ((laws_eqIntS.f k t1028 t1008).bind fun t1034 => (if t1034 = true then (laws_FnExactCountDown.j0 k a1 t1008 t1011 t1028 t1031 (t1031 != t1011) a0_0 l0_1 l0_2 t1001 t1002 t1005 t1013 t1014 t1017 t1021 t1022 t1025) else (laws_FnExactCountDown.j0 k a1 t1008 t1011 t1028 t1031 true a0_0 l0_1 l0_2 t1001 t1002 t1005 t1013 t1014 t1017 t1021 t1022 t1025))) = some r := by rw [if_pos rfl] at H; exact H
    replace H := Option.bind_eq_some_iff.mp H
    obtain ⟨t1034, A440, H⟩ := H
    replace H : (if t1034 = true then (laws_FnExactCountDown.j0 k a1 t1008 t1011 t1028 t1031 (t1031 != t1011) a0_0 l0_1 l0_2 t1001 t1002 t1005 t1013 t1014 t1017 t1021 t1022 t1025) else (laws_FnExactCountDown.j0 k a1 t1008 t1011 t1028 t1031 true a0_0 l0_1 l0_2 t1001 t1002 t1005 t1013 t1014 t1017 t1021 t1022 t1025)) = some r := H
    have A44 := am A440
    clear A440
    by_cases c45 : t1034 = true
    ·subst c45
     replace H : (laws_FnExactCountDown.j0 k a1 t1008 t1011 t1028 t1031 (t1031 != t1011) a0_0 l0_1 l0_2 t1001 t1002 t1005 t1013 t1014 t1017 t1021 t1022 t1025) = some r := by rw [if_pos rfl] at H; exact H
     have H' := am H
     clear H
     have hnb46 := NB1032_992.out
     have hnc46 := NB992_1032.out
     have hnb47 := NB1032_1012.out
     have hnc47 := NB1012_1032.out
     have hnb48 := NB1032_1020.out
     have hnc48 := NB1020_1032.out
     obtain ⟨hcz49_0, hcz49_1, hcz49_2, hfz49_0, hfz49_1, hfz49_2⟩ := bk3 BK1032.out
     have hnb50 := NB1012_992.out
     have hnc50 := NB992_1012.out
     have hnb51 := NB1012_1020.out
     have hnc51 := NB1020_1012.out
     obtain ⟨hcz52_0, hcz52_1, hcz52_2, hfz52_0, hfz52_1, hfz52_2⟩ := bk3 BK1012.out
     go_wp2_with (first | ((with_reducible refine gate_callee (f := 27) rfl ?_); refine goesL_ (some 43) rfl rfl Try.func27 (by kernel_rfl) rfl #[.agg #[.int .i64 t1021, .slice Ao40 t1022.length co40, .slice Ao41 t1025.length co41], .agg #[.int .i64 t1001, .slice Ao24 t1002.length co24, .slice Ao25 t1005.length co25]] rfl mpx ?_; (with_reducible refine (laws_eqLatch.calls k t1021 _ _ t1022 _ _ t1025 t1001 _ _ t1002 _ _ t1005 true _ ?side1 ?side2 ?side3 ?side4 ?side5 ?side6 ?side7 ?side8 A42.out).mono ?_); (case side1 => refine (Kd.R_reads' (e := 3) (base := w.heap.size) (ok := fun k_ => ((((((((some k_ ≠ (.slice Ao41 t1025.length co41 : Value).ownBlock ∧ some k_ ≠ (v1029 : Value).ownBlock) ∧ some k_ ≠ (.slice Ao18 t995.length co18 : Value).ownBlock) ∧ some k_ ≠ (.slice Ao19 t998.length co19 : Value).ownBlock) ∧ some k_ ≠ (.slice Ao24 t1002.length co24 : Value).ownBlock) ∧ some k_ ≠ (.slice Ao25 t1005.length co25 : Value).ownBlock) ∧ some k_ ≠ (v1009 : Value).ownBlock) ∧ some k_ ≠ (.slice Ao32 t1014.length co32 : Value).ownBlock) ∧ some k_ ≠ (.slice Ao33 t1017.length co33 : Value).ownBlock)) (n := t1022.length) (c := co40) ?_).2.2; exact (by (with_reducible repeat (first | apply Kd.R_alloc | apply Kd.R_drewN | apply Kd.R_drew)); exact (Kd.R_mono (Kd.R_far (p := ⟨gb1032, 2, none⟩) (Kd.R_far (p := ⟨gb1032, 1, none⟩) (Kd.R_far (p := ⟨gb1032, 0, none⟩) (Kd.R_types HO1024.out BK1032.out (by decide)) (fun _ hk => hk.2) (.int .i64 t1021)) (fun _ hk => hk.2) (.slice Ao40 t1022.length co40)) (fun _ hk => hk.2) (.slice Ao41 t1025.length co41)) (fun _ h_ => h_.1)))); (case side2 => exact (Kd.R_reads' HO1024.out).2.1); (case side3 => refine (Kd.R_reads' (e := 3) (base := w.heap.size) (ok := fun k_ => ((((((((some k_ ≠ (.slice Ao40 t1022.length co40 : Value).ownBlock ∧ some k_ ≠ (v1029 : Value).ownBlock) ∧ some k_ ≠ (.slice Ao18 t995.length co18 : Value).ownBlock) ∧ some k_ ≠ (.slice Ao19 t998.length co19 : Value).ownBlock) ∧ some k_ ≠ (.slice Ao24 t1002.length co24 : Value).ownBlock) ∧ some k_ ≠ (.slice Ao25 t1005.length co25 : Value).ownBlock) ∧ some k_ ≠ (v1009 : Value).ownBlock) ∧ some k_ ≠ (.slice Ao32 t1014.length co32 : Value).ownBlock) ∧ some k_ ≠ (.slice Ao33 t1017.length co33 : Value).ownBlock)) (n := t1025.length) (c := co41) ?_).2.2; exact (by (with_reducible repeat (first | apply Kd.R_alloc | apply Kd.R_drewN | apply Kd.R_drew)); exact (Kd.R_mono (Kd.R_far (p := ⟨gb1032, 2, none⟩) (Kd.R_far (p := ⟨gb1032, 1, none⟩) (Kd.R_far (p := ⟨gb1032, 0, none⟩) (Kd.R_types HO1027.out BK1032.out (by decide)) (fun _ hk => hk.2) (.int .i64 t1021)) (fun _ hk => hk.2) (.slice Ao40 t1022.length co40)) (fun _ hk => hk.2) (.slice Ao41 t1025.length co41)) (fun _ h_ => h_.1)))); (case side4 => exact (Kd.R_reads' HO1027.out).2.1); (case side5 => refine (Kd.R_reads' (e := 3) (base := w.heap.size) (ok := fun k_ => ((((((((some k_ ≠ (.slice Ao25 t1005.length co25 : Value).ownBlock ∧ some k_ ≠ (v1009 : Value).ownBlock) ∧ some k_ ≠ (.slice Ao18 t995.length co18 : Value).ownBlock) ∧ some k_ ≠ (.slice Ao19 t998.length co19 : Value).ownBlock) ∧ some k_ ≠ (.slice Ao32 t1014.length co32 : Value).ownBlock) ∧ some k_ ≠ (.slice Ao33 t1017.length co33 : Value).ownBlock) ∧ some k_ ≠ (.slice Ao40 t1022.length co40 : Value).ownBlock) ∧ some k_ ≠ (.slice Ao41 t1025.length co41 : Value).ownBlock) ∧ some k_ ≠ (v1029 : Value).ownBlock)) (n := t1002.length) (c := co24) ?_).2.2; exact (by (with_reducible repeat (first | apply Kd.R_alloc | apply Kd.R_drewN | apply Kd.R_drew)); exact (Kd.R_mono (Kd.R_far (p := ⟨gb1032, 2, none⟩) (Kd.R_far (p := ⟨gb1032, 1, none⟩) (Kd.R_far (p := ⟨gb1032, 0, none⟩) (Kd.R_types HO1004.out BK1032.out (by decide)) (fun _ hk => hk.2) (.int .i64 t1021)) (fun _ hk => hk.2) (.slice Ao40 t1022.length co40)) (fun _ hk => hk.2) (.slice Ao41 t1025.length co41)) (fun _ h_ => h_.1)))); (case side6 => exact (Kd.R_reads' HO1004.out).2.1); (case side7 => refine (Kd.R_reads' (e := 3) (base := w.heap.size) (ok := fun k_ => ((((((((some k_ ≠ (.slice Ao24 t1002.length co24 : Value).ownBlock ∧ some k_ ≠ (v1009 : Value).ownBlock) ∧ some k_ ≠ (.slice Ao18 t995.length co18 : Value).ownBlock) ∧ some k_ ≠ (.slice Ao19 t998.length co19 : Value).ownBlock) ∧ some k_ ≠ (.slice Ao32 t1014.length co32 : Value).ownBlock) ∧ some k_ ≠ (.slice Ao33 t1017.length co33 : Value).ownBlock) ∧ some k_ ≠ (.slice Ao40 t1022.length co40 : Value).ownBlock) ∧ some k_ ≠ (.slice Ao41 t1025.length co41 : Value).ownBlock) ∧ some k_ ≠ (v1029 : Value).ownBlock)) (n := t1005.length) (c := co25) ?_).2.2; exact (by (with_reducible repeat (first | apply Kd.R_alloc | apply Kd.R_drewN | apply Kd.R_drew)); exact (Kd.R_mono (Kd.R_far (p := ⟨gb1032, 2, none⟩) (Kd.R_far (p := ⟨gb1032, 1, none⟩) (Kd.R_far (p := ⟨gb1032, 0, none⟩) (Kd.R_types HO1007.out BK1032.out (by decide)) (fun _ hk => hk.2) (.int .i64 t1021)) (fun _ hk => hk.2) (.slice Ao40 t1022.length co40)) (fun _ hk => hk.2) (.slice Ao41 t1025.length co41)) (fun _ h_ => h_.1)))); (case side8 => exact (Kd.R_reads' HO1007.out).2.1); rintro e w53 ⟨rfl, hb⟩; refine ⟨_, rfl, ?_⟩; replace HO997 := am (Kd.R_below (by (with_reducible repeat (first | apply Kd.R_alloc | apply Kd.R_drewN | apply Kd.R_drew)); exact (Kd.R_mono (Kd.R_far (p := ⟨gb1032, 2, none⟩) (Kd.R_far (p := ⟨gb1032, 1, none⟩) (Kd.R_far (p := ⟨gb1032, 0, none⟩) (Kd.R_types HO997.out BK1032.out (by decide)) (fun _ hk => hk.2) (.int .i64 t1021)) (fun _ hk => hk.2) (.slice Ao40 t1022.length co40)) (fun _ hk => hk.2) (.slice Ao41 t1025.length co41)) (fun _ h_ => h_.1))) hb); replace HO1000 := am (Kd.R_below (by (with_reducible repeat (first | apply Kd.R_alloc | apply Kd.R_drewN | apply Kd.R_drew)); exact (Kd.R_mono (Kd.R_far (p := ⟨gb1032, 2, none⟩) (Kd.R_far (p := ⟨gb1032, 1, none⟩) (Kd.R_far (p := ⟨gb1032, 0, none⟩) (Kd.R_types HO1000.out BK1032.out (by decide)) (fun _ hk => hk.2) (.int .i64 t1021)) (fun _ hk => hk.2) (.slice Ao40 t1022.length co40)) (fun _ hk => hk.2) (.slice Ao41 t1025.length co41)) (fun _ h_ => h_.1))) hb); replace HO1004 := am (Kd.R_below (by (with_reducible repeat (first | apply Kd.R_alloc | apply Kd.R_drewN | apply Kd.R_drew)); exact (Kd.R_mono (Kd.R_far (p := ⟨gb1032, 2, none⟩) (Kd.R_far (p := ⟨gb1032, 1, none⟩) (Kd.R_far (p := ⟨gb1032, 0, none⟩) (Kd.R_types HO1004.out BK1032.out (by decide)) (fun _ hk => hk.2) (.int .i64 t1021)) (fun _ hk => hk.2) (.slice Ao40 t1022.length co40)) (fun _ hk => hk.2) (.slice Ao41 t1025.length co41)) (fun _ h_ => h_.1))) hb); replace HO1007 := am (Kd.R_below (by (with_reducible repeat (first | apply Kd.R_alloc | apply Kd.R_drewN | apply Kd.R_drew)); exact (Kd.R_mono (Kd.R_far (p := ⟨gb1032, 2, none⟩) (Kd.R_far (p := ⟨gb1032, 1, none⟩) (Kd.R_far (p := ⟨gb1032, 0, none⟩) (Kd.R_types HO1007.out BK1032.out (by decide)) (fun _ hk => hk.2) (.int .i64 t1021)) (fun _ hk => hk.2) (.slice Ao40 t1022.length co40)) (fun _ hk => hk.2) (.slice Ao41 t1025.length co41)) (fun _ h_ => h_.1))) hb); replace HO1010 := am (Kd.R_below (by (with_reducible repeat (first | apply Kd.R_alloc | apply Kd.R_drewN | apply Kd.R_drew)); exact (Kd.R_mono (Kd.R_far (p := ⟨gb1032, 2, none⟩) (Kd.R_far (p := ⟨gb1032, 1, none⟩) (Kd.R_far (p := ⟨gb1032, 0, none⟩) (Kd.R_types HO1010.out BK1032.out (by decide)) (fun _ hk => hk.2) (.int .i64 t1021)) (fun _ hk => hk.2) (.slice Ao40 t1022.length co40)) (fun _ hk => hk.2) (.slice Ao41 t1025.length co41)) (fun _ h_ => h_.1))) hb); replace HO1016 := am (Kd.R_below (by (with_reducible repeat (first | apply Kd.R_alloc | apply Kd.R_drewN | apply Kd.R_drew)); exact (Kd.R_mono (Kd.R_far (p := ⟨gb1032, 2, none⟩) (Kd.R_far (p := ⟨gb1032, 1, none⟩) (Kd.R_far (p := ⟨gb1032, 0, none⟩) (Kd.R_types HO1016.out BK1032.out (by decide)) (fun _ hk => hk.2) (.int .i64 t1021)) (fun _ hk => hk.2) (.slice Ao40 t1022.length co40)) (fun _ hk => hk.2) (.slice Ao41 t1025.length co41)) (fun _ h_ => h_.1))) hb); replace HO1019 := am (Kd.R_below (by (with_reducible repeat (first | apply Kd.R_alloc | apply Kd.R_drewN | apply Kd.R_drew)); exact (Kd.R_mono (Kd.R_far (p := ⟨gb1032, 2, none⟩) (Kd.R_far (p := ⟨gb1032, 1, none⟩) (Kd.R_far (p := ⟨gb1032, 0, none⟩) (Kd.R_types HO1019.out BK1032.out (by decide)) (fun _ hk => hk.2) (.int .i64 t1021)) (fun _ hk => hk.2) (.slice Ao40 t1022.length co40)) (fun _ hk => hk.2) (.slice Ao41 t1025.length co41)) (fun _ h_ => h_.1))) hb); replace HO1024 := am (Kd.R_below (by (with_reducible repeat (first | apply Kd.R_alloc | apply Kd.R_drewN | apply Kd.R_drew)); exact (Kd.R_mono (Kd.R_far (p := ⟨gb1032, 2, none⟩) (Kd.R_far (p := ⟨gb1032, 1, none⟩) (Kd.R_far (p := ⟨gb1032, 0, none⟩) (Kd.R_types HO1024.out BK1032.out (by decide)) (fun _ hk => hk.2) (.int .i64 t1021)) (fun _ hk => hk.2) (.slice Ao40 t1022.length co40)) (fun _ hk => hk.2) (.slice Ao41 t1025.length co41)) (fun _ h_ => h_.1))) hb); replace HO1027 := am (Kd.R_below (by (with_reducible repeat (first | apply Kd.R_alloc | apply Kd.R_drewN | apply Kd.R_drew)); exact (Kd.R_mono (Kd.R_far (p := ⟨gb1032, 2, none⟩) (Kd.R_far (p := ⟨gb1032, 1, none⟩) (Kd.R_far (p := ⟨gb1032, 0, none⟩) (Kd.R_types HO1027.out BK1032.out (by decide)) (fun _ hk => hk.2) (.int .i64 t1021)) (fun _ hk => hk.2) (.slice Ao40 t1022.length co40)) (fun _ hk => hk.2) (.slice Ao41 t1025.length co41)) (fun _ h_ => h_.1))) hb); replace HO1030 := am (Kd.R_below (by (with_reducible repeat (first | apply Kd.R_alloc | apply Kd.R_drewN | apply Kd.R_drew)); exact (Kd.R_mono (Kd.R_far (p := ⟨gb1032, 2, none⟩) (Kd.R_far (p := ⟨gb1032, 1, none⟩) (Kd.R_far (p := ⟨gb1032, 0, none⟩) (Kd.R_types HO1030.out BK1032.out (by decide)) (fun _ hk => hk.2) (.int .i64 t1021)) (fun _ hk => hk.2) (.slice Ao40 t1022.length co40)) (fun _ hk => hk.2) (.slice Ao41 t1025.length co41)) (fun _ h_ => h_.1))) hb); replace BK992 := am (blk_below (g := gb992) (o := .cells #[.int .i64 a0_0, .slice A0_1 l0_1.length c0_1, .slice A0_2 l0_2.length c0_2] 43 (0, 0)) (by (with_reducible repeat (first | refine blk_drewN ?_ _ | refine blk_drew ?_ | refine blk_alloc ?_ _)); refine blk_far ?_ NB992_1032.out _; (with_reducible repeat (first | refine blk_drewN ?_ _ | refine blk_drew ?_ | refine blk_alloc ?_ _)); refine blk_far ?_ NB992_1032.out _; (with_reducible repeat (first | refine blk_drewN ?_ _ | refine blk_drew ?_ | refine blk_alloc ?_ _)); refine blk_far ?_ NB992_1032.out _; exact pkK BK992.out) hb); replace BK1012 := am (blk_below (g := gb1012) (o := .cells #[.int .i64 t1001, .slice Ao24 t1002.length co24, .slice Ao25 t1005.length co25] 46 (0, 0)) (by (with_reducible repeat (first | refine blk_drewN ?_ _ | refine blk_drew ?_ | refine blk_alloc ?_ _)); refine blk_far ?_ NB1012_1032.out _; (with_reducible repeat (first | refine blk_drewN ?_ _ | refine blk_drew ?_ | refine blk_alloc ?_ _)); refine blk_far ?_ NB1012_1032.out _; (with_reducible repeat (first | refine blk_drewN ?_ _ | refine blk_drew ?_ | refine blk_alloc ?_ _)); refine blk_far ?_ NB1012_1032.out _; exact pkK BK1012.out) hb); replace BK1020 := am (blk_below (g := gb1020) (o := .cells #[.int .i64 t1013, .slice Ao32 t1014.length co32, .slice Ao33 t1017.length co33] 46 (0, 0)) (by (with_reducible repeat (first | refine blk_drewN ?_ _ | refine blk_drew ?_ | refine blk_alloc ?_ _)); refine blk_far ?_ NB1020_1032.out _; (with_reducible repeat (first | refine blk_drewN ?_ _ | refine blk_drew ?_ | refine blk_alloc ?_ _)); refine blk_far ?_ NB1020_1032.out _; (with_reducible repeat (first | refine blk_drewN ?_ _ | refine blk_drew ?_ | refine blk_alloc ?_ _)); refine blk_far ?_ NB1020_1032.out _; exact pkK BK1020.out) hb); replace BK1032 := am (blk_below (g := gb1032) (o := .cells #[.int .i64 t1021, .slice Ao40 t1022.length co40, .slice Ao41 t1025.length co41] 46 (0, 0)) (by (with_reducible repeat (first | refine blk_drewN ?_ _ | refine blk_drew ?_ | refine blk_alloc ?_ _)); refine blk_put (cs := #[.int .i64 t1021, .slice Ao40 t1022.length co40, .slice none 0 0]) ?_ 2 _ rfl; (with_reducible repeat (first | refine blk_drewN ?_ _ | refine blk_drew ?_ | refine blk_alloc ?_ _)); refine blk_put (cs := #[.int .i64 t1021, .slice none 0 0, .slice none 0 0]) ?_ 1 _ rfl; (with_reducible repeat (first | refine blk_drewN ?_ _ | refine blk_drew ?_ | refine blk_alloc ?_ _)); refine blk_put (cs := #[.int .i64 0, .slice none 0 0, .slice none 0 0]) ?_ 0 _ rfl; exact pkK BK1032.out) hb); replace HB := am (below_step (pkW HB.out) hb); (try clear hb); obtain ⟨Ao54, co54, eo54⟩ := Kd.R_slice HO1030.out; subst eo54; obtain ⟨Ao55, co55, eo55⟩ := Kd.R_slice HO1010.out; subst eo55) | (go_at_call 44; (with_reducible refine (laws_eqIntS.calls k _ _ t1028 _ _ t1008 true _ ?side1 ?side2 ?side3 ?side4 A44.out).mono ?_); (case side1 => exact pkC (Kd.R_reads' HO1030.out).2.2); (case side2 => exact (Kd.R_reads' HO1030.out).2.1); (case side3 => exact pkC (Kd.R_reads' HO1010.out).2.2); (case side4 => exact (Kd.R_reads' HO1010.out).2.1); rintro e w' ⟨rfl, ⟨nd, rfl⟩⟩))
     go_meet
     case rel => exact ⟨_, ((t1031 != t1011)), rfx, H', ⟨by first | omega | exact Nat.le_refl _⟩, ⟨by (with_reducible repeat (first | apply Kd.R_alloc | apply Kd.R_drewN | apply Kd.R_drew)); exact Kd.R_mono HO1010.out (fun _ hk => ⟨hk.2, ⟨hk.1.1.1.1.1.1.1.1, ⟨hk.1.1.1.1.1.1.1.2, ⟨hk.1.1.1.1.2, ⟨hk.1.1.1.2, ⟨hk.1.1.2, hk.1.2⟩⟩⟩⟩⟩⟩)⟩, ⟨by (with_reducible repeat (first | apply Kd.R_alloc | apply Kd.R_drewN | apply Kd.R_drew)); exact Kd.R_mono HO1030.out (fun _ hk => ⟨hk.1.1.2, ⟨hk.1.1.1.1.2, ⟨hk.1.1.1.2, ⟨hk.1.2, ⟨hk.2, ⟨hk.1.1.1.1.1.1.1.1, hk.1.1.1.1.1.1.1.2⟩⟩⟩⟩⟩⟩)⟩, ⟨by (with_reducible repeat (first | apply Kd.R_alloc | apply Kd.R_drewN | apply Kd.R_drew)); exact Kd.R_mono HO1004.out (fun _ hk => ⟨hk.1.1.1.1.1.1.1.2, ⟨hk.2, ⟨hk.1.1.1.1.1.1.1.1, ⟨hk.1.1.1.1.2, ⟨hk.1.1.1.2, ⟨hk.1.1.2, hk.1.2⟩⟩⟩⟩⟩⟩)⟩, ⟨by (with_reducible repeat (first | apply Kd.R_alloc | apply Kd.R_drewN | apply Kd.R_drew)); exact Kd.R_mono HO1007.out (fun _ hk => ⟨hk.1.1.1.1.1.1.1.2, ⟨hk.2, ⟨hk.1.1.1.1.1.1.1.1, ⟨hk.1.1.1.1.2, ⟨hk.1.1.1.2, ⟨hk.1.1.2, hk.1.2⟩⟩⟩⟩⟩⟩)⟩, ⟨by (with_reducible repeat (first | apply Kd.R_alloc | apply Kd.R_drewN | apply Kd.R_drew)); exact Kd.R_mono HO1016.out (fun _ hk => ⟨hk.1.1.1.2, ⟨hk.2, ⟨hk.1.1.1.1.1.2, ⟨hk.1.1.1.1.2, ⟨hk.1.1.1.1.1.1.1.1, ⟨hk.1.1.2, hk.1.2⟩⟩⟩⟩⟩⟩)⟩, ⟨by (with_reducible repeat (first | apply Kd.R_alloc | apply Kd.R_drewN | apply Kd.R_drew)); exact Kd.R_mono HO1019.out (fun _ hk => ⟨hk.1.1.1.2, ⟨hk.2, ⟨hk.1.1.1.1.1.2, ⟨hk.1.1.1.1.2, ⟨hk.1.1.1.1.1.1.1.1, ⟨hk.1.1.2, hk.1.2⟩⟩⟩⟩⟩⟩)⟩, ⟨by (with_reducible repeat (first | apply Kd.R_alloc | apply Kd.R_drewN | apply Kd.R_drew)); exact Kd.R_mono HO1024.out (fun _ hk => ⟨hk.1.1.2, ⟨hk.1.1.1.1.1.1.1.2, ⟨hk.1.1.1.1.2, ⟨hk.1.1.1.2, ⟨hk.1.2, ⟨hk.2, hk.1.1.1.1.1.1.1.1⟩⟩⟩⟩⟩⟩)⟩, ⟨by (with_reducible repeat (first | apply Kd.R_alloc | apply Kd.R_drewN | apply Kd.R_drew)); exact Kd.R_mono HO1027.out (fun _ hk => ⟨hk.1.1.2, ⟨hk.1.1.1.1.1.1.1.2, ⟨hk.1.1.1.1.2, ⟨hk.1.1.1.2, ⟨hk.1.2, ⟨hk.2, hk.1.1.1.1.1.1.1.1⟩⟩⟩⟩⟩⟩)⟩, ⟨pkK BK992.out⟩, ⟨pkK BK1012.out⟩, ⟨pkK BK1020.out⟩, ⟨pkK BK1032.out⟩, ⟨pkW HB.out⟩⟩
    ·replace c45 := Bool.eq_false_iff.mpr c45
     subst c45
     replace H : (laws_FnExactCountDown.j0 k a1 t1008 t1011 t1028 t1031 true a0_0 l0_1 l0_2 t1001 t1002 t1005 t1013 t1014 t1017 t1021 t1022 t1025) = some r := by rw [if_neg (show ¬ (false = true) by decide)] at H; exact H
     cases k with
     | zero => exact absurd H (by simp [laws_FnExactCountDown.j0])
     | succ k_ => (simp only [laws_FnExactCountDown.j0, if_pos] at H; exact absurd (Option.some.inj H) (by rw [HQ_.out]; simp))
   ·replace c43 := Bool.eq_false_iff.mpr c43
    subst c43
    replace H : (laws_FnExactCountDown.j0 k a1 t1008 t1011 t1028 t1031 true a0_0 l0_1 l0_2 t1001 t1002 t1005 t1013 t1014 t1017 t1021 t1022 t1025) = some r := by rw [if_neg (show ¬ (false = true) by decide)] at H; exact H
    cases k with
    | zero => exact absurd H (by simp [laws_FnExactCountDown.j0])
    | succ k_ => (simp only [laws_FnExactCountDown.j0, if_pos] at H; exact absurd (Option.some.inj H) (by rw [HQ_.out]; simp))
  case rest =>
   clear HC12
   try clear c1
   try clear c2
   try clear p2
   try clear c3
   try clear c4
   try clear c4b0
   try clear c5
   try clear c11
   try clear c22
   try clear c23
   try clear c25
   try clear c27
   try clear c29
   try clear c30
   try clear c36
   try clear c37
   try clear c38
   try clear c43
   try clear c45
   try clear c46
   try clear c47
   try clear c48
   try clear c50
   try clear c51
   try clear hcz14_0
   try clear hcz14_1
   try clear hcz14_2
   try clear hcz16_0
   try clear hcz16_1
   try clear hcz16_2
   try clear hcz23_0
   try clear hcz23_1
   try clear hcz23_2
   try clear hcz26_0
   try clear hcz26_1
   try clear hcz26_2
   try clear hcz31_0
   try clear hcz31_1
   try clear hcz31_2
   try clear hcz39_0
   try clear hcz39_1
   try clear hcz39_2
   try clear hcz49_0
   try clear hcz49_1
   try clear hcz49_2
   try clear hcz52_0
   try clear hcz52_1
   try clear hcz52_2
   try clear hcz6_0
   try clear hcz6_1
   try clear hcz6_2
   try clear hfz14_0
   try clear hfz14_1
   try clear hfz14_2
   try clear hfz16_0
   try clear hfz16_1
   try clear hfz16_2
   try clear hfz23_0
   try clear hfz23_1
   try clear hfz23_2
   try clear hfz26_0
   try clear hfz26_1
   try clear hfz26_2
   try clear hfz31_0
   try clear hfz31_1
   try clear hfz31_2
   try clear hfz39_0
   try clear hfz39_1
   try clear hfz39_2
   try clear hfz49_0
   try clear hfz49_1
   try clear hfz49_2
   try clear hfz52_0
   try clear hfz52_1
   try clear hfz52_2
   try clear hfz6_0
   try clear hfz6_1
   try clear hfz6_2
   obtain ⟨kq, x55_11, rfl, HA, HJ11, HO_7, HO_11, HO_1013001, HO_1013002, HO_1021001, HO_1021002, HO_1033001, HO_1033002, BK992, BK1012, BK1020, BK1032, HB⟩ := hcut
   cases kq with
   | zero => exact absurd HA.out (by simp [laws_FnExactCountDown.j0])
   | succ kj11 =>
    have H := HA.out
    clear HA
    simp only [laws_FnExactCountDown.j0] at H
    by_cases c56 : x55_11 = true
    ·subst c56
     replace H : (some false) = some r := by rw [if_pos rfl] at H; exact H
     exact absurd (Option.some.inj H) (by rw [HQ_.out]; simp)
    ·replace c56 := Bool.eq_false_iff.mpr c56
     subst c56
     replace H : ((laws_toLatch.f kj11 a0_0 l0_1 l0_2).bind fun bt1035 => ((laws_eqLatch.f kj11 t1013 t1014 t1017 bt1035.1 bt1035.2.1 bt1035.2.2).bind fun t1042 => (if t1042 = true then ((laws_markLatch.f kj11 t1013 t1014 t1017 1).bind fun bt1043 => (if bt1043.1 < 0 then (laws_FnExactCountDown.j1 kj11 a1 t1008 t1011 t1028 true a0_0 l0_1 l0_2 t1001 t1002 t1005 t1021 t1022 t1025) else ((laws_eqLatch.f kj11 t1021 t1022 t1025 t1001 t1002 t1005).bind fun t1046 => (if t1046 = true then ((laws_eqIntS.f kj11 t1028 t1008).bind fun t1047 => (if t1047 = true then (laws_FnExactCountDown.j1 kj11 a1 t1008 t1011 t1028 (t1031 != t1011) a0_0 l0_1 l0_2 t1001 t1002 t1005 t1021 t1022 t1025) else (laws_FnExactCountDown.j1 kj11 a1 t1008 t1011 t1028 true a0_0 l0_1 l0_2 t1001 t1002 t1005 t1021 t1022 t1025))) else (laws_FnExactCountDown.j1 kj11 a1 t1008 t1011 t1028 true a0_0 l0_1 l0_2 t1001 t1002 t1005 t1021 t1022 t1025))))) else (some false)))) = some r := by rw [if_neg (show ¬ (false = true) by decide)] at H; exact H
     replace H := Option.bind_eq_some_iff.mp H
     obtain ⟨⟨t1035, t1036, t1039⟩, A570, H⟩ := H
     replace H : ((laws_eqLatch.f kj11 t1013 t1014 t1017 t1035 t1036 t1039).bind fun t1042 => (if t1042 = true then ((laws_markLatch.f kj11 t1013 t1014 t1017 1).bind fun bt1043 => (if bt1043.1 < 0 then (laws_FnExactCountDown.j1 kj11 a1 t1008 t1011 t1028 true a0_0 l0_1 l0_2 t1001 t1002 t1005 t1021 t1022 t1025) else ((laws_eqLatch.f kj11 t1021 t1022 t1025 t1001 t1002 t1005).bind fun t1046 => (if t1046 = true then ((laws_eqIntS.f kj11 t1028 t1008).bind fun t1047 => (if t1047 = true then (laws_FnExactCountDown.j1 kj11 a1 t1008 t1011 t1028 (t1031 != t1011) a0_0 l0_1 l0_2 t1001 t1002 t1005 t1021 t1022 t1025) else (laws_FnExactCountDown.j1 kj11 a1 t1008 t1011 t1028 true a0_0 l0_1 l0_2 t1001 t1002 t1005 t1021 t1022 t1025))) else (laws_FnExactCountDown.j1 kj11 a1 t1008 t1011 t1028 true a0_0 l0_1 l0_2 t1001 t1002 t1005 t1021 t1022 t1025))))) else (some false))) = some r := H
     have A57 := am A570
     clear A570
     replace H := Option.bind_eq_some_iff.mp H
     obtain ⟨t1042, A580, H⟩ := H
     replace H : (if t1042 = true then ((laws_markLatch.f kj11 t1013 t1014 t1017 1).bind fun bt1043 => (if bt1043.1 < 0 then (laws_FnExactCountDown.j1 kj11 a1 t1008 t1011 t1028 true a0_0 l0_1 l0_2 t1001 t1002 t1005 t1021 t1022 t1025) else ((laws_eqLatch.f kj11 t1021 t1022 t1025 t1001 t1002 t1005).bind fun t1046 => (if t1046 = true then ((laws_eqIntS.f kj11 t1028 t1008).bind fun t1047 => (if t1047 = true then (laws_FnExactCountDown.j1 kj11 a1 t1008 t1011 t1028 (t1031 != t1011) a0_0 l0_1 l0_2 t1001 t1002 t1005 t1021 t1022 t1025) else (laws_FnExactCountDown.j1 kj11 a1 t1008 t1011 t1028 true a0_0 l0_1 l0_2 t1001 t1002 t1005 t1021 t1022 t1025))) else (laws_FnExactCountDown.j1 kj11 a1 t1008 t1011 t1028 true a0_0 l0_1 l0_2 t1001 t1002 t1005 t1021 t1022 t1025))))) else (some false)) = some r := H
     have A58 := am A580
     clear A580
     by_cases c59 : t1042 = true
     ·subst c59
      replace H : ((laws_markLatch.f kj11 t1013 t1014 t1017 1).bind fun bt1043 => (if bt1043.1 < 0 then (laws_FnExactCountDown.j1 kj11 a1 t1008 t1011 t1028 true a0_0 l0_1 l0_2 t1001 t1002 t1005 t1021 t1022 t1025) else ((laws_eqLatch.f kj11 t1021 t1022 t1025 t1001 t1002 t1005).bind fun t1046 => (if t1046 = true then ((laws_eqIntS.f kj11 t1028 t1008).bind fun t1047 => (if t1047 = true then (laws_FnExactCountDown.j1 kj11 a1 t1008 t1011 t1028 (t1031 != t1011) a0_0 l0_1 l0_2 t1001 t1002 t1005 t1021 t1022 t1025) else (laws_FnExactCountDown.j1 kj11 a1 t1008 t1011 t1028 true a0_0 l0_1 l0_2 t1001 t1002 t1005 t1021 t1022 t1025))) else (laws_FnExactCountDown.j1 kj11 a1 t1008 t1011 t1028 true a0_0 l0_1 l0_2 t1001 t1002 t1005 t1021 t1022 t1025))))) = some r := by rw [if_pos rfl] at H; exact H
      replace H := Option.bind_eq_some_iff.mp H
      obtain ⟨⟨t1043, t1044, t1045⟩, A600, H⟩ := H
      replace H : (if t1043 < 0 then (laws_FnExactCountDown.j1 kj11 a1 t1008 t1011 t1028 true a0_0 l0_1 l0_2 t1001 t1002 t1005 t1021 t1022 t1025) else ((laws_eqLatch.f kj11 t1021 t1022 t1025 t1001 t1002 t1005).bind fun t1046 => (if t1046 = true then ((laws_eqIntS.f kj11 t1028 t1008).bind fun t1047 => (if t1047 = true then (laws_FnExactCountDown.j1 kj11 a1 t1008 t1011 t1028 (t1031 != t1011) a0_0 l0_1 l0_2 t1001 t1002 t1005 t1021 t1022 t1025) else (laws_FnExactCountDown.j1 kj11 a1 t1008 t1011 t1028 true a0_0 l0_1 l0_2 t1001 t1002 t1005 t1021 t1022 t1025))) else (laws_FnExactCountDown.j1 kj11 a1 t1008 t1011 t1028 true a0_0 l0_1 l0_2 t1001 t1002 t1005 t1021 t1022 t1025)))) = some r := H
      have A60 := am A600
      clear A600
      have HC61 := am H
      clear H
      try go_wp2
      replace HO_7 := am (Kd.R_drew HO_7.out)
      replace HO_11 := am (Kd.R_drew HO_11.out)
      replace HO_1013001 := am (Kd.R_drew HO_1013001.out)
      replace HO_1013002 := am (Kd.R_drew HO_1013002.out)
      replace HO_1021001 := am (Kd.R_drew HO_1021001.out)
      replace HO_1021002 := am (Kd.R_drew HO_1021002.out)
      replace HO_1033001 := am (Kd.R_drew HO_1033001.out)
      replace HO_1033002 := am (Kd.R_drew HO_1033002.out)
      replace BK992 := am (blk_drew BK992.out)
      replace BK1012 := am (blk_drew BK1012.out)
      replace BK1020 := am (blk_drew BK1020.out)
      replace BK1032 := am (blk_drew BK1032.out)
      replace HB := am (below_drew1 HB.out)
      refine start_ (n := 5) (S := fun w' => w'.cell? ⟨gb1020, 0, none⟩ = some (.int .i64 t1013) ∧ w'.cell? ⟨gb1020, 1, none⟩ = some (.slice Ao32 t1014.length co32) ∧ w'.cell? ⟨gb1020, 2, none⟩ = some (.slice Ao33 t1017.length co33) ∧ w'.cell? ⟨gb992, 0, none⟩ = some (.int .i64 a0_0) ∧ w'.cell? ⟨gb992, 1, none⟩ = some (.slice A0_1 l0_1.length c0_1) ∧ w'.cell? ⟨gb992, 2, none⟩ = some (.slice A0_2 l0_2.length c0_2)) (ds := []) #[false, false, false, false, false] (by kernel_rfl) rfl rfl ⟨(blk_cell BK1020.out 0).trans rfl, (blk_cell BK1020.out 1).trans rfl, (blk_cell BK1020.out 2).trans rfl, (blk_cell BK992.out 0).trans rfl, (blk_cell BK992.out 1).trans rfl, (blk_cell BK992.out 2).trans rfl⟩ (fun hHeld => ?_)
      generalize wc.drew = w62 at HO_7 HO_11 HO_1013001 HO_1013002 HO_1021001 HO_1021002 HO_1033001 HO_1033002 BK992 BK1012 BK1020 BK1032 HB hHeld ⊢
      refine take_ (i := 0) (N := some 56) (v := ?_) (a' := ?_) #[true, false, false, false, false] rfl rfl (by kernel_rfl) (fun _ _ _ h => h) (Or.inl ⟨by rfl, ?_⟩) hHeld ?_ ?_
      rotate_left
      ·rintro w' ⟨s0, s1, s2, s3, s4, s5⟩
       go_simp
       with_reducible rfl
      rotate_left
      ·simp only [Act.put, List.setIfInBounds_toArray, List.set_cons_zero, List.set_cons_succ, i64_w, i32_w]
       rfl
      refine take_ (i := 1) (N := some 57) (v := ?_) (a' := ?_) #[true, true, false, false, false] rfl rfl (by kernel_rfl) (fun _ _ _ h => h) (Or.inl ⟨by rfl, ?_⟩) hHeld ?_ ?_
      rotate_left
      ·rintro w' ⟨s0, s1, s2, s3, s4, s5⟩
       go_simp
       with_reducible rfl
      rotate_left
      ·simp only [Act.put, List.setIfInBounds_toArray, List.set_cons_zero, List.set_cons_succ, i64_w, i32_w]
       rfl
      refine one_ (i := 2) (N := some 58) #[true, true, true, false, false] rfl rfl (by kernel_rfl) (by decide) (fun K hK => ?_)
      refine goes_ Try.func25 (by kernel_rfl) rfl #[.agg #[.int .i64 a0_0, .slice A0_1 l0_1.length c0_1, .slice A0_2 l0_2.length c0_2]] (by rfl) rfl rfl mpx ?_
      with_reducible refine (laws_toLatch.calls kj11 a0_0 _ _ l0_1 _ _ l0_2 t1035 t1036 t1039 _ ?side1 ?side2 ?side3 ?side4 A57.out).mono ?_
      (case side1 => exact pkC (Kd.C_below HR0_1.out HB.out))
      (case side2 => exact HC0_1.out)
      (case side3 => exact pkC (Kd.C_below HR0_2.out HB.out))
      (case side4 => exact HC0_2.out)
      rintro e w63 ⟨v1037, v1040, rfl, ho0, ho1, hb⟩
      refine ⟨_, rfl, ?_⟩
      have HO1038 := am (Kd.R_lower (Kd.R_new' (Kd.R_new' (Kd.R_new' (Kd.R_new' (Kd.R_new' (Kd.R_new' (Kd.R_new' (Kd.R_new' ho0 (Kd.R_lt (pkR HO_7.out))) (Kd.R_lt (pkR HO_11.out))) (Kd.R_lt (pkR HO_1013001.out))) (Kd.R_lt (pkR HO_1013002.out))) (Kd.R_lt (pkR HO_1021001.out))) (Kd.R_lt (pkR HO_1021002.out))) (Kd.R_lt (pkR HO_1033001.out))) (Kd.R_lt (pkR HO_1033002.out))) (below_size (pkW HB.out)))
      have HO1041 := am (Kd.R_lower (Kd.R_new' (Kd.R_new' (Kd.R_new' (Kd.R_new' (Kd.R_new' (Kd.R_new' (Kd.R_new' (Kd.R_new' ho1 (Kd.R_lt (pkR HO_7.out))) (Kd.R_lt (pkR HO_11.out))) (Kd.R_lt (pkR HO_1013001.out))) (Kd.R_lt (pkR HO_1013002.out))) (Kd.R_lt (pkR HO_1021001.out))) (Kd.R_lt (pkR HO_1021002.out))) (Kd.R_lt (pkR HO_1033001.out))) (Kd.R_lt (pkR HO_1033002.out))) (below_size (pkW HB.out)))
      replace HO_7 := am (Kd.R_mono (Kd.R_told (Kd.R_told (Kd.R_old (pkR HO_7.out) hb) (Kd.R_base ho0)) (Kd.R_base ho1)) (fun _ h_ => h_.1))
      replace HO_11 := am (Kd.R_mono (Kd.R_told (Kd.R_told (Kd.R_old (pkR HO_11.out) hb) (Kd.R_base ho0)) (Kd.R_base ho1)) (fun _ h_ => h_.1))
      replace HO_1013001 := am (Kd.R_mono (Kd.R_told (Kd.R_told (Kd.R_old (pkR HO_1013001.out) hb) (Kd.R_base ho0)) (Kd.R_base ho1)) (fun _ h_ => h_.1))
      replace HO_1013002 := am (Kd.R_mono (Kd.R_told (Kd.R_told (Kd.R_old (pkR HO_1013002.out) hb) (Kd.R_base ho0)) (Kd.R_base ho1)) (fun _ h_ => h_.1))
      replace HO_1021001 := am (Kd.R_mono (Kd.R_told (Kd.R_told (Kd.R_old (pkR HO_1021001.out) hb) (Kd.R_base ho0)) (Kd.R_base ho1)) (fun _ h_ => h_.1))
      replace HO_1021002 := am (Kd.R_mono (Kd.R_told (Kd.R_told (Kd.R_old (pkR HO_1021002.out) hb) (Kd.R_base ho0)) (Kd.R_base ho1)) (fun _ h_ => h_.1))
      replace HO_1033001 := am (Kd.R_mono (Kd.R_told (Kd.R_told (Kd.R_old (pkR HO_1033001.out) hb) (Kd.R_base ho0)) (Kd.R_base ho1)) (fun _ h_ => h_.1))
      replace HO_1033002 := am (Kd.R_mono (Kd.R_told (Kd.R_told (Kd.R_old (pkR HO_1033002.out) hb) (Kd.R_base ho0)) (Kd.R_base ho1)) (fun _ h_ => h_.1))
      replace BK992 := am (blk_below (pkK BK992.out) hb)
      replace BK1012 := am (blk_below (pkK BK1012.out) hb)
      replace BK1020 := am (blk_below (pkK BK1020.out) hb)
      replace BK1032 := am (blk_below (pkK BK1032.out) hb)
      replace HB := am (below_step (pkW HB.out) hb)
      (try clear hb); (try clear ho0 ho1)
      obtain ⟨Ao64, co64, eo64⟩ := Kd.R_slice HO1038.out
      (first | subst eo64 | (injection eo64 with f1_ f2_ f3_; have f4_ := f1_.symm; have f5_ := f3_.symm; clear f1_ f2_ f3_; subst f4_; subst f5_))
      obtain ⟨Ao65, co65, eo65⟩ := Kd.R_slice HO1041.out
      (first | subst eo65 | (injection eo65 with f1_ f2_ f3_; have f4_ := f1_.symm; have f5_ := f3_.symm; clear f1_ f2_ f3_; subst f4_; subst f5_))
      refine hK.out _ _ ⟨(blk_cell BK1020.out 0).trans rfl, (blk_cell BK1020.out 1).trans rfl, (blk_cell BK1020.out 2).trans rfl, (blk_cell BK992.out 0).trans rfl, (blk_cell BK992.out 1).trans rfl, (blk_cell BK992.out 2).trans rfl⟩ (fun hHeld => ?_)
      clear hK K
      refine norm_ (a' := ?_) ?_ ?_
      rotate_left
      ·show Act.put _ (some 58) _ = _
       simp only [Act.put, List.setIfInBounds_toArray, List.set_cons_zero, List.set_cons_succ, i64_w, i32_w]
       rfl
      refine one_ (i := 3) (N := some 59) #[true, true, true, true, false] rfl rfl (by kernel_rfl) (by decide) (fun K hK => ?_)
      refine goes_ Try.func27 (by kernel_rfl) rfl #[.agg #[.int .i64 t1013, .slice Ao32 t1014.length co32, .slice Ao33 t1017.length co33], .agg #[.int .i64 t1035, .slice Ao64 t1036.length co64, .slice Ao65 t1039.length co65]] (by rfl) rfl rfl mpx ?_
      with_reducible refine (laws_eqLatch.calls kj11 t1013 _ _ t1014 _ _ t1017 t1035 _ _ t1036 _ _ t1039 true _ ?side1 ?side2 ?side3 ?side4 ?side5 ?side6 ?side7 ?side8 A58.out).mono ?_
      (case side1 => exact pkC (Kd.R_reads' HO_1021001.out).2.2)
      (case side2 => exact (Kd.R_reads' HO_1021001.out).2.1)
      (case side3 => exact pkC (Kd.R_reads' HO_1021002.out).2.2)
      (case side4 => exact (Kd.R_reads' HO_1021002.out).2.1)
      (case side5 => exact pkC (Kd.R_reads' HO1038.out).2.2)
      (case side6 => exact (Kd.R_reads' HO1038.out).2.1)
      (case side7 => exact pkC (Kd.R_reads' HO1041.out).2.2)
      (case side8 => exact (Kd.R_reads' HO1041.out).2.1)
      rintro e w66 ⟨rfl, hb⟩
      refine ⟨_, rfl, ?_⟩
      replace HO_7 := am (Kd.R_below (pkR HO_7.out) hb)
      replace HO_11 := am (Kd.R_below (pkR HO_11.out) hb)
      replace HO_1013001 := am (Kd.R_below (pkR HO_1013001.out) hb)
      replace HO_1013002 := am (Kd.R_below (pkR HO_1013002.out) hb)
      replace HO_1021001 := am (Kd.R_below (pkR HO_1021001.out) hb)
      replace HO_1021002 := am (Kd.R_below (pkR HO_1021002.out) hb)
      replace HO_1033001 := am (Kd.R_below (pkR HO_1033001.out) hb)
      replace HO_1033002 := am (Kd.R_below (pkR HO_1033002.out) hb)
      replace HO1038 := am (Kd.R_below (pkR HO1038.out) hb)
      replace HO1041 := am (Kd.R_below (pkR HO1041.out) hb)
      replace BK992 := am (blk_below (pkK BK992.out) hb)
      replace BK1012 := am (blk_below (pkK BK1012.out) hb)
      replace BK1020 := am (blk_below (pkK BK1020.out) hb)
      replace BK1032 := am (blk_below (pkK BK1032.out) hb)
      replace HB := am (below_step (pkW HB.out) hb)
      (try clear hb)
      refine hK.out _ _ ⟨(blk_cell BK1020.out 0).trans rfl, (blk_cell BK1020.out 1).trans rfl, (blk_cell BK1020.out 2).trans rfl, (blk_cell BK992.out 0).trans rfl, (blk_cell BK992.out 1).trans rfl, (blk_cell BK992.out 2).trans rfl⟩ (fun hHeld => ?_)
      clear hK K
      refine norm_ (a' := ?_) ?_ ?_
      rotate_left
      ·show Act.put _ (some 59) _ = _
       simp only [Act.put, List.setIfInBounds_toArray, List.set_cons_zero, List.set_cons_succ, i64_w, i32_w]
       rfl
      refine pure_ (i := 4) (N := some 60) (v := ?_) (a' := ?_) #[true, true, true, true, true] rfl rfl (by kernel_rfl) (fun _ _ _ h => h) (Or.inl ⟨by rfl, ?_⟩) ?_ ?_
      rotate_left
      ·intro w'
       go_simp
       with_reducible rfl
      rotate_left
      ·simp only [Act.put, List.setIfInBounds_toArray, List.set_cons_zero, List.set_cons_succ, i64_w, i32_w]
       rfl
      refine done_ (by kernel_rfl) ?_
      have hnb67 := NB1020_992.out
      have hnc67 := NB992_1020.out
      have hnb68 := NB1020_1012.out
      have hnc68 := NB1012_1020.out
      have hnb69 := NB1020_1032.out
      have hnc69 := NB1032_1020.out
      obtain ⟨hcz70_0, hcz70_1, hcz70_2, hfz70_0, hfz70_1, hfz70_2⟩ := bk3 BK1020.out
      go_upto_region 14 with (first | ((with_reducible refine gate_callee (f := 36) rfl ?_); refine goesL_ (some 63) rfl rfl Try.func36 (by kernel_rfl) rfl #[.agg #[.int .i64 t1013, .slice Ao32 t1014.length co32, .slice Ao33 t1017.length co33], .int .i64 1] rfl mpx ?_; (with_reducible refine (laws_markLatch.calls kj11 t1013 (fun k_ => some k_ = (.slice Ao32 t1014.length co32 : Value).ownBlock) (.slice Ao32 t1014.length co32) t1014 (fun k_ => some k_ = (.slice Ao33 t1017.length co33 : Value).ownBlock) (.slice Ao33 t1017.length co33) t1017 1 t1043 t1044 t1045 w _ ?side1 ?side2 ?side3 ?side4 ?side5 A60.out).mono ?_); (case side1 => repeat (first | (with_reducible first | exact HB.out | apply below_alloc | apply pw_below_drewN | apply below_drew1 | refine below_set ?_ GE992.out | refine below_set ?_ GE1012.out | refine below_set ?_ GE1020.out | refine below_set ?_ GE1032.out) | exact HB.out)); (case side2 => exact Kd.R_tight rfl HO_1021001.out); (case side3 => exact fun k_ e_ => (HO_1021001.out.1 k_ e_.symm).1.1.2.2.2.2.1); (case side4 => exact Kd.R_tight rfl HO_1021002.out); (case side5 => exact fun k_ e_ => (HO_1021002.out.1 k_ e_.symm).1.1.2.2.2.2.1); rintro e w71 ⟨rfl, hy0, hy1, hb, hkp⟩; refine ⟨_, rfl, ?_⟩; replace HO_7 := am (Kd.R_mono (ok' := fun k_ => some k_ ≠ (v1029 : Value).ownBlock ∧ some k_ ≠ (.slice Ao24 t1002.length co24 : Value).ownBlock ∧ some k_ ≠ (.slice Ao25 t1005.length co25 : Value).ownBlock ∧ some k_ ≠ (.slice Ao32 t1014.length co32 : Value).ownBlock ∧ some k_ ≠ (.slice Ao33 t1017.length co33 : Value).ownBlock ∧ some k_ ≠ (.slice Ao40 t1022.length co40 : Value).ownBlock ∧ some k_ ≠ (.slice Ao41 t1025.length co41 : Value).ownBlock ∧ some k_ ≠ (.slice Ao64 t1036.length co64 : Value).ownBlock ∧ some k_ ≠ (.slice Ao65 t1039.length co65 : Value).ownBlock) (Kd.R_keptB (HO_7.out) hkp (fun k_ hk_ hs_ => Or.elim hs_ (fun e_ => (hk_.1.1.2.2.2.1) e_) (fun e_ => (hk_.1.1.2.2.2.2.1) e_))) (fun k_ hk_ => ⟨hk_.1.1.1.1, hk_.1.1.1.2.1, hk_.1.1.1.2.2.1, hk_.1.1.1.2.2.2.1, hk_.1.1.1.2.2.2.2.1, hk_.1.1.1.2.2.2.2.2.1, hk_.1.1.1.2.2.2.2.2.2, hk_.1.1.2, hk_.1.2⟩)); replace HO_11 := am (Kd.R_mono (ok' := fun k_ => some k_ ≠ (v1009 : Value).ownBlock ∧ some k_ ≠ (.slice Ao24 t1002.length co24 : Value).ownBlock ∧ some k_ ≠ (.slice Ao25 t1005.length co25 : Value).ownBlock ∧ some k_ ≠ (.slice Ao32 t1014.length co32 : Value).ownBlock ∧ some k_ ≠ (.slice Ao33 t1017.length co33 : Value).ownBlock ∧ some k_ ≠ (.slice Ao40 t1022.length co40 : Value).ownBlock ∧ some k_ ≠ (.slice Ao41 t1025.length co41 : Value).ownBlock ∧ some k_ ≠ (.slice Ao64 t1036.length co64 : Value).ownBlock ∧ some k_ ≠ (.slice Ao65 t1039.length co65 : Value).ownBlock) (Kd.R_keptB (HO_11.out) hkp (fun k_ hk_ hs_ => Or.elim hs_ (fun e_ => (hk_.1.1.2.2.2.1) e_) (fun e_ => (hk_.1.1.2.2.2.2.1) e_))) (fun k_ hk_ => ⟨hk_.1.1.1.1, hk_.1.1.1.2.1, hk_.1.1.1.2.2.1, hk_.1.1.1.2.2.2.1, hk_.1.1.1.2.2.2.2.1, hk_.1.1.1.2.2.2.2.2.1, hk_.1.1.1.2.2.2.2.2.2, hk_.1.1.2, hk_.1.2⟩)); replace HO_1013001 := am (Kd.R_mono (ok' := fun k_ => some k_ ≠ (v1009 : Value).ownBlock ∧ some k_ ≠ (v1029 : Value).ownBlock ∧ some k_ ≠ (.slice Ao25 t1005.length co25 : Value).ownBlock ∧ some k_ ≠ (.slice Ao32 t1014.length co32 : Value).ownBlock ∧ some k_ ≠ (.slice Ao33 t1017.length co33 : Value).ownBlock ∧ some k_ ≠ (.slice Ao40 t1022.length co40 : Value).ownBlock ∧ some k_ ≠ (.slice Ao41 t1025.length co41 : Value).ownBlock ∧ some k_ ≠ (.slice Ao64 t1036.length co64 : Value).ownBlock ∧ some k_ ≠ (.slice Ao65 t1039.length co65 : Value).ownBlock) (Kd.R_keptB (HO_1013001.out) hkp (fun k_ hk_ hs_ => Or.elim hs_ (fun e_ => (hk_.1.1.2.2.2.1) e_) (fun e_ => (hk_.1.1.2.2.2.2.1) e_))) (fun k_ hk_ => ⟨hk_.1.1.1.1, hk_.1.1.1.2.1, hk_.1.1.1.2.2.1, hk_.1.1.1.2.2.2.1, hk_.1.1.1.2.2.2.2.1, hk_.1.1.1.2.2.2.2.2.1, hk_.1.1.1.2.2.2.2.2.2, hk_.1.1.2, hk_.1.2⟩)); replace HO_1013002 := am (Kd.R_mono (ok' := fun k_ => some k_ ≠ (v1009 : Value).ownBlock ∧ some k_ ≠ (v1029 : Value).ownBlock ∧ some k_ ≠ (.slice Ao24 t1002.length co24 : Value).ownBlock ∧ some k_ ≠ (.slice Ao32 t1014.length co32 : Value).ownBlock ∧ some k_ ≠ (.slice Ao33 t1017.length co33 : Value).ownBlock ∧ some k_ ≠ (.slice Ao40 t1022.length co40 : Value).ownBlock ∧ some k_ ≠ (.slice Ao41 t1025.length co41 : Value).ownBlock ∧ some k_ ≠ (.slice Ao64 t1036.length co64 : Value).ownBlock ∧ some k_ ≠ (.slice Ao65 t1039.length co65 : Value).ownBlock) (Kd.R_keptB (HO_1013002.out) hkp (fun k_ hk_ hs_ => Or.elim hs_ (fun e_ => (hk_.1.1.2.2.2.1) e_) (fun e_ => (hk_.1.1.2.2.2.2.1) e_))) (fun k_ hk_ => ⟨hk_.1.1.1.1, hk_.1.1.1.2.1, hk_.1.1.1.2.2.1, hk_.1.1.1.2.2.2.1, hk_.1.1.1.2.2.2.2.1, hk_.1.1.1.2.2.2.2.2.1, hk_.1.1.1.2.2.2.2.2.2, hk_.1.1.2, hk_.1.2⟩)); replace HO_1033001 := am (Kd.R_mono (ok' := fun k_ => some k_ ≠ (v1009 : Value).ownBlock ∧ some k_ ≠ (v1029 : Value).ownBlock ∧ some k_ ≠ (.slice Ao24 t1002.length co24 : Value).ownBlock ∧ some k_ ≠ (.slice Ao25 t1005.length co25 : Value).ownBlock ∧ some k_ ≠ (.slice Ao32 t1014.length co32 : Value).ownBlock ∧ some k_ ≠ (.slice Ao33 t1017.length co33 : Value).ownBlock ∧ some k_ ≠ (.slice Ao41 t1025.length co41 : Value).ownBlock ∧ some k_ ≠ (.slice Ao64 t1036.length co64 : Value).ownBlock ∧ some k_ ≠ (.slice Ao65 t1039.length co65 : Value).ownBlock) (Kd.R_keptB (HO_1033001.out) hkp (fun k_ hk_ hs_ => Or.elim hs_ (fun e_ => (hk_.1.1.2.2.2.2.1) e_) (fun e_ => (hk_.1.1.2.2.2.2.2.1) e_))) (fun k_ hk_ => ⟨hk_.1.1.1.1, hk_.1.1.1.2.1, hk_.1.1.1.2.2.1, hk_.1.1.1.2.2.2.1, hk_.1.1.1.2.2.2.2.1, hk_.1.1.1.2.2.2.2.2.1, hk_.1.1.1.2.2.2.2.2.2, hk_.1.1.2, hk_.1.2⟩)); replace HO_1033002 := am (Kd.R_mono (ok' := fun k_ => some k_ ≠ (v1009 : Value).ownBlock ∧ some k_ ≠ (v1029 : Value).ownBlock ∧ some k_ ≠ (.slice Ao24 t1002.length co24 : Value).ownBlock ∧ some k_ ≠ (.slice Ao25 t1005.length co25 : Value).ownBlock ∧ some k_ ≠ (.slice Ao32 t1014.length co32 : Value).ownBlock ∧ some k_ ≠ (.slice Ao33 t1017.length co33 : Value).ownBlock ∧ some k_ ≠ (.slice Ao40 t1022.length co40 : Value).ownBlock ∧ some k_ ≠ (.slice Ao64 t1036.length co64 : Value).ownBlock ∧ some k_ ≠ (.slice Ao65 t1039.length co65 : Value).ownBlock) (Kd.R_keptB (HO_1033002.out) hkp (fun k_ hk_ hs_ => Or.elim hs_ (fun e_ => (hk_.1.1.2.2.2.2.1) e_) (fun e_ => (hk_.1.1.2.2.2.2.2.1) e_))) (fun k_ hk_ => ⟨hk_.1.1.1.1, hk_.1.1.1.2.1, hk_.1.1.1.2.2.1, hk_.1.1.1.2.2.2.1, hk_.1.1.1.2.2.2.2.1, hk_.1.1.1.2.2.2.2.2.1, hk_.1.1.1.2.2.2.2.2.2, hk_.1.1.2, hk_.1.2⟩)); replace BK992 := am (blk_kept (pkK BK992.out) hkp (fun hs_ => Or.elim hs_ (fun e_ => (fun e_ => (Kd.R_ne HO_1021001.out BK992.out (by decide)) e_) e_) (fun e_ => (fun e_ => (Kd.R_ne HO_1021002.out BK992.out (by decide)) e_) e_))); replace BK1012 := am (blk_kept (pkK BK1012.out) hkp (fun hs_ => Or.elim hs_ (fun e_ => (fun e_ => (Kd.R_ne HO_1021001.out BK1012.out (by decide)) e_) e_) (fun e_ => (fun e_ => (Kd.R_ne HO_1021002.out BK1012.out (by decide)) e_) e_))); replace BK1020 := am (blk_kept (pkK BK1020.out) hkp (fun hs_ => Or.elim hs_ (fun e_ => (fun e_ => (Kd.R_ne HO_1021001.out BK1020.out (by decide)) e_) e_) (fun e_ => (fun e_ => (Kd.R_ne HO_1021002.out BK1020.out (by decide)) e_) e_))); replace BK1032 := am (blk_kept (pkK BK1032.out) hkp (fun hs_ => Or.elim hs_ (fun e_ => (fun e_ => (Kd.R_ne HO_1021001.out BK1032.out (by decide)) e_) e_) (fun e_ => (fun e_ => (Kd.R_ne HO_1021002.out BK1032.out (by decide)) e_) e_))); replace HO_1021001 := am (Kd.R_reok rfl hy0 (fun k_ e_ => HO_1021001.out.1 k_ e_)); replace HO_1021002 := am (Kd.R_reok rfl hy1 (fun k_ e_ => HO_1021002.out.1 k_ e_)); replace HO1038 := am (Kd.R_mono (ok' := fun k_ => some k_ ≠ (v1009 : Value).ownBlock ∧ some k_ ≠ (v1029 : Value).ownBlock ∧ some k_ ≠ (.slice Ao24 t1002.length co24 : Value).ownBlock ∧ some k_ ≠ (.slice Ao25 t1005.length co25 : Value).ownBlock ∧ some k_ ≠ (.slice Ao32 t1014.length co32 : Value).ownBlock ∧ some k_ ≠ (.slice Ao33 t1017.length co33 : Value).ownBlock ∧ some k_ ≠ (.slice Ao40 t1022.length co40 : Value).ownBlock ∧ some k_ ≠ (.slice Ao41 t1025.length co41 : Value).ownBlock ∧ some k_ ≠ (.slice Ao65 t1039.length co65 : Value).ownBlock) (Kd.R_keptB (HO1038.out) hkp (fun k_ hk_ hs_ => Or.elim hs_ (fun e_ => (hk_.1.1.1.2) e_) (fun e_ => (hk_.1.1.2) e_))) (fun k_ hk_ => ⟨hk_.1.1.1.1.1.1.1.1.2, hk_.1.1.1.1.1.1.1.2, hk_.1.1.1.1.1.1.2, hk_.1.1.1.1.1.2, hk_.1.1.1.1.2, hk_.1.1.1.2, hk_.1.1.2, hk_.1.2, hk_.1.1.1.1.1.1.1.1.1⟩)); replace HO1041 := am (Kd.R_mono (ok' := fun k_ => some k_ ≠ (v1009 : Value).ownBlock ∧ some k_ ≠ (v1029 : Value).ownBlock ∧ some k_ ≠ (.slice Ao24 t1002.length co24 : Value).ownBlock ∧ some k_ ≠ (.slice Ao25 t1005.length co25 : Value).ownBlock ∧ some k_ ≠ (.slice Ao32 t1014.length co32 : Value).ownBlock ∧ some k_ ≠ (.slice Ao33 t1017.length co33 : Value).ownBlock ∧ some k_ ≠ (.slice Ao40 t1022.length co40 : Value).ownBlock ∧ some k_ ≠ (.slice Ao41 t1025.length co41 : Value).ownBlock ∧ some k_ ≠ (.slice Ao64 t1036.length co64 : Value).ownBlock) (Kd.R_keptB (HO1041.out) hkp (fun k_ hk_ hs_ => Or.elim hs_ (fun e_ => (hk_.1.1.1.2) e_) (fun e_ => (hk_.1.1.2) e_))) (fun k_ hk_ => ⟨hk_.1.1.1.1.1.1.1.1.2, hk_.1.1.1.1.1.1.1.2, hk_.1.1.1.1.1.1.2, hk_.1.1.1.1.1.2, hk_.1.1.1.1.2, hk_.1.1.1.2, hk_.1.1.2, hk_.1.2, hk_.1.1.1.1.1.1.1.1.1⟩)); replace HB := am (hb); (try clear hb); (try clear hkp); (try clear hy0); (try clear hy1)))
      (try simp only [Act.put, List.setIfInBounds_toArray, List.set_cons_zero, List.set_cons_succ])
      go_cut [82] (fun v82 wc => ∃ (kq : Nat) (x82_60 : Bool), v82 = .bool x82_60 ∧ Aside0 (laws_FnExactCountDown.j1 kq a1 t1008 t1011 t1028 x82_60 a0_0 l0_1 l0_2 t1001 t1002 t1005 t1021 t1022 t1025 = some r) ∧ Aside0 (kq ≤ kj11) ∧ Aside0 (Kd.R (Kd.int .i64) 3 wc w.heap.size (fun k_ => some k_ ≠ (v1029 : Value).ownBlock ∧ some k_ ≠ ((.slice Ao24 t1002.length co24) : Value).ownBlock ∧ some k_ ≠ ((.slice Ao25 t1005.length co25) : Value).ownBlock ∧ some k_ ≠ ((.slice Ao32 t1014.length co32) : Value).ownBlock ∧ some k_ ≠ ((.slice Ao33 t1017.length co33) : Value).ownBlock ∧ some k_ ≠ ((.slice Ao40 t1022.length co40) : Value).ownBlock ∧ some k_ ≠ ((.slice Ao41 t1025.length co41) : Value).ownBlock) v1009 t1008) ∧ Aside0 (Kd.R (Kd.int .i64) 3 wc w.heap.size (fun k_ => some k_ ≠ (v1009 : Value).ownBlock ∧ some k_ ≠ ((.slice Ao24 t1002.length co24) : Value).ownBlock ∧ some k_ ≠ ((.slice Ao25 t1005.length co25) : Value).ownBlock ∧ some k_ ≠ ((.slice Ao32 t1014.length co32) : Value).ownBlock ∧ some k_ ≠ ((.slice Ao33 t1017.length co33) : Value).ownBlock ∧ some k_ ≠ ((.slice Ao40 t1022.length co40) : Value).ownBlock ∧ some k_ ≠ ((.slice Ao41 t1025.length co41) : Value).ownBlock) v1029 t1028) ∧ Aside0 (Kd.R (Kd.int .i64) 3 wc w.heap.size (fun k_ => some k_ ≠ (v1009 : Value).ownBlock ∧ some k_ ≠ (v1029 : Value).ownBlock ∧ some k_ ≠ ((.slice Ao25 t1005.length co25) : Value).ownBlock ∧ some k_ ≠ ((.slice Ao32 t1014.length co32) : Value).ownBlock ∧ some k_ ≠ ((.slice Ao33 t1017.length co33) : Value).ownBlock ∧ some k_ ≠ ((.slice Ao40 t1022.length co40) : Value).ownBlock ∧ some k_ ≠ ((.slice Ao41 t1025.length co41) : Value).ownBlock) (.slice Ao24 t1002.length co24) t1002) ∧ Aside0 (Kd.R (Kd.int .i64) 3 wc w.heap.size (fun k_ => some k_ ≠ (v1009 : Value).ownBlock ∧ some k_ ≠ (v1029 : Value).ownBlock ∧ some k_ ≠ ((.slice Ao24 t1002.length co24) : Value).ownBlock ∧ some k_ ≠ ((.slice Ao32 t1014.length co32) : Value).ownBlock ∧ some k_ ≠ ((.slice Ao33 t1017.length co33) : Value).ownBlock ∧ some k_ ≠ ((.slice Ao40 t1022.length co40) : Value).ownBlock ∧ some k_ ≠ ((.slice Ao41 t1025.length co41) : Value).ownBlock) (.slice Ao25 t1005.length co25) t1005) ∧ Aside0 (Kd.R (Kd.int .i64) 3 wc w.heap.size (fun k_ => some k_ ≠ (v1009 : Value).ownBlock ∧ some k_ ≠ (v1029 : Value).ownBlock ∧ some k_ ≠ ((.slice Ao24 t1002.length co24) : Value).ownBlock ∧ some k_ ≠ ((.slice Ao25 t1005.length co25) : Value).ownBlock ∧ some k_ ≠ ((.slice Ao33 t1017.length co33) : Value).ownBlock ∧ some k_ ≠ ((.slice Ao40 t1022.length co40) : Value).ownBlock ∧ some k_ ≠ ((.slice Ao41 t1025.length co41) : Value).ownBlock) (.slice Ao32 t1014.length co32) t1044) ∧ Aside0 (Kd.R (Kd.int .i64) 3 wc w.heap.size (fun k_ => some k_ ≠ (v1009 : Value).ownBlock ∧ some k_ ≠ (v1029 : Value).ownBlock ∧ some k_ ≠ ((.slice Ao24 t1002.length co24) : Value).ownBlock ∧ some k_ ≠ ((.slice Ao25 t1005.length co25) : Value).ownBlock ∧ some k_ ≠ ((.slice Ao32 t1014.length co32) : Value).ownBlock ∧ some k_ ≠ ((.slice Ao40 t1022.length co40) : Value).ownBlock ∧ some k_ ≠ ((.slice Ao41 t1025.length co41) : Value).ownBlock) (.slice Ao33 t1017.length co33) t1045) ∧ Aside0 (Kd.R (Kd.int .i64) 3 wc w.heap.size (fun k_ => some k_ ≠ (v1009 : Value).ownBlock ∧ some k_ ≠ (v1029 : Value).ownBlock ∧ some k_ ≠ ((.slice Ao24 t1002.length co24) : Value).ownBlock ∧ some k_ ≠ ((.slice Ao25 t1005.length co25) : Value).ownBlock ∧ some k_ ≠ ((.slice Ao32 t1014.length co32) : Value).ownBlock ∧ some k_ ≠ ((.slice Ao33 t1017.length co33) : Value).ownBlock ∧ some k_ ≠ ((.slice Ao41 t1025.length co41) : Value).ownBlock) (.slice Ao40 t1022.length co40) t1022) ∧ Aside0 (Kd.R (Kd.int .i64) 3 wc w.heap.size (fun k_ => some k_ ≠ (v1009 : Value).ownBlock ∧ some k_ ≠ (v1029 : Value).ownBlock ∧ some k_ ≠ ((.slice Ao24 t1002.length co24) : Value).ownBlock ∧ some k_ ≠ ((.slice Ao25 t1005.length co25) : Value).ownBlock ∧ some k_ ≠ ((.slice Ao32 t1014.length co32) : Value).ownBlock ∧ some k_ ≠ ((.slice Ao33 t1017.length co33) : Value).ownBlock ∧ some k_ ≠ ((.slice Ao40 t1022.length co40) : Value).ownBlock) (.slice Ao41 t1025.length co41) t1025) ∧ Aside0 (wc.heap[gb992]? = some (.cells #[.int .i64 a0_0, (.slice A0_1 l0_1.length c0_1), (.slice A0_2 l0_2.length c0_2)] 43 (0, 0))) ∧ Aside0 (wc.heap[gb1012]? = some (.cells #[.int .i64 t1001, (.slice Ao24 t1002.length co24), (.slice Ao25 t1005.length co25)] 46 (0, 0))) ∧ Aside0 (wc.heap[gb1020]? = some (.cells #[.int .i64 t1013, (.slice Ao32 t1014.length co32), (.slice Ao33 t1017.length co33)] 46 (0, 0))) ∧ Aside0 (wc.heap[gb1032]? = some (.cells #[.int .i64 t1021, (.slice Ao40 t1022.length co40), (.slice Ao41 t1025.length co41)] 46 (0, 0))) ∧ Aside0 (Below w.heap.size w wc))
      case first =>
       have H := HC61.out
       clear HC61
       by_cases c72 : t1043 < 0
       ·rw [if_pos c72] at H
        have c72b0 : decide (t1043 < 0) = true := decide_eq_true c72
        clear c72
        (first | rw [c72b0] | (simp only [i64_w, i32_w]; rw [c72b0]) | skip)
        cases kj11 with
        | zero => exact absurd H (by simp [laws_FnExactCountDown.j1])
        | succ k_ => (simp only [laws_FnExactCountDown.j1, if_pos] at H; exact absurd (Option.some.inj H) (by rw [HQ_.out]; simp))
       ·rw [if_neg c72] at H
        have c72b0 : decide (t1043 < 0) = false := decide_eq_false c72
        clear c72
        (first | rw [c72b0] | (simp only [i64_w, i32_w]; rw [c72b0]) | skip)
        replace H := Option.bind_eq_some_iff.mp H
        obtain ⟨t1046, A730, H⟩ := H
        replace H : (if t1046 = true then ((laws_eqIntS.f kj11 t1028 t1008).bind fun t1047 => (if t1047 = true then (laws_FnExactCountDown.j1 kj11 a1 t1008 t1011 t1028 (t1031 != t1011) a0_0 l0_1 l0_2 t1001 t1002 t1005 t1021 t1022 t1025) else (laws_FnExactCountDown.j1 kj11 a1 t1008 t1011 t1028 true a0_0 l0_1 l0_2 t1001 t1002 t1005 t1021 t1022 t1025))) else (laws_FnExactCountDown.j1 kj11 a1 t1008 t1011 t1028 true a0_0 l0_1 l0_2 t1001 t1002 t1005 t1021 t1022 t1025)) = some r := H
        have A73 := am A730
        clear A730
        by_cases c74 : t1046 = true
        ·subst c74
         replace H : ((laws_eqIntS.f kj11 t1028 t1008).bind fun t1047 => (if t1047 = true then (laws_FnExactCountDown.j1 kj11 a1 t1008 t1011 t1028 (t1031 != t1011) a0_0 l0_1 l0_2 t1001 t1002 t1005 t1021 t1022 t1025) else (laws_FnExactCountDown.j1 kj11 a1 t1008 t1011 t1028 true a0_0 l0_1 l0_2 t1001 t1002 t1005 t1021 t1022 t1025))) = some r := by rw [if_pos rfl] at H; exact H
         replace H := Option.bind_eq_some_iff.mp H
         obtain ⟨t1047, A750, H⟩ := H
         replace H : (if t1047 = true then (laws_FnExactCountDown.j1 kj11 a1 t1008 t1011 t1028 (t1031 != t1011) a0_0 l0_1 l0_2 t1001 t1002 t1005 t1021 t1022 t1025) else (laws_FnExactCountDown.j1 kj11 a1 t1008 t1011 t1028 true a0_0 l0_1 l0_2 t1001 t1002 t1005 t1021 t1022 t1025)) = some r := H
         have A75 := am A750
         clear A750
         by_cases c76 : t1047 = true
         ·subst c76
          replace H : (laws_FnExactCountDown.j1 kj11 a1 t1008 t1011 t1028 (t1031 != t1011) a0_0 l0_1 l0_2 t1001 t1002 t1005 t1021 t1022 t1025) = some r := by rw [if_pos rfl] at H; exact H
          have H' := am H
          clear H
          have hnb77 := NB1032_992.out
          have hnc77 := NB992_1032.out
          have hnb78 := NB1032_1012.out
          have hnc78 := NB1012_1032.out
          have hnb79 := NB1032_1020.out
          have hnc79 := NB1020_1032.out
          obtain ⟨hcz80_0, hcz80_1, hcz80_2, hfz80_0, hfz80_1, hfz80_2⟩ := bk3 BK1032.out
          have hnb81 := NB1012_992.out
          have hnc81 := NB992_1012.out
          have hnb82 := NB1012_1020.out
          have hnc82 := NB1020_1012.out
          obtain ⟨hcz83_0, hcz83_1, hcz83_2, hfz83_0, hfz83_1, hfz83_2⟩ := bk3 BK1012.out
          go_wp2_with (first | (go_at_call 27; (with_reducible refine (laws_eqLatch.calls kj11 t1021 _ _ t1022 _ _ t1025 t1001 _ _ t1002 _ _ t1005 true _ ?side1 ?side2 ?side3 ?side4 ?side5 ?side6 ?side7 ?side8 A73.out).mono ?_); (case side1 => exact pkC (Kd.R_reads' HO_1033001.out).2.2); (case side2 => exact (Kd.R_reads' HO_1033001.out).2.1); (case side3 => exact pkC (Kd.R_reads' HO_1033002.out).2.2); (case side4 => exact (Kd.R_reads' HO_1033002.out).2.1); (case side5 => exact pkC (Kd.R_reads' HO_1013001.out).2.2); (case side6 => exact (Kd.R_reads' HO_1013001.out).2.1); (case side7 => exact pkC (Kd.R_reads' HO_1013002.out).2.2); (case side8 => exact (Kd.R_reads' HO_1013002.out).2.1); rintro e w84 ⟨rfl, hb⟩; replace HO_7 := am (Kd.R_below (pkR HO_7.out) hb); replace HO_11 := am (Kd.R_below (pkR HO_11.out) hb); replace HO_1013001 := am (Kd.R_below (pkR HO_1013001.out) hb); replace HO_1013002 := am (Kd.R_below (pkR HO_1013002.out) hb); replace HO_1021001 := am (Kd.R_below (pkR HO_1021001.out) hb); replace HO_1021002 := am (Kd.R_below (pkR HO_1021002.out) hb); replace HO_1033001 := am (Kd.R_below (pkR HO_1033001.out) hb); replace HO_1033002 := am (Kd.R_below (pkR HO_1033002.out) hb); replace HO1038 := am (Kd.R_below (pkR HO1038.out) hb); replace HO1041 := am (Kd.R_below (pkR HO1041.out) hb); replace BK992 := am (blk_below (pkK BK992.out) hb); replace BK1012 := am (blk_below (pkK BK1012.out) hb); replace BK1020 := am (blk_below (pkK BK1020.out) hb); replace BK1032 := am (blk_below (pkK BK1032.out) hb); replace HB := am (below_step (pkW HB.out) hb); (try clear hb); obtain ⟨Ao85, co85, eo85⟩ := Kd.R_slice HO_11.out; subst eo85; obtain ⟨Ao86, co86, eo86⟩ := Kd.R_slice HO_7.out; subst eo86) | (go_at_call 44; (with_reducible refine (laws_eqIntS.calls kj11 _ _ t1028 _ _ t1008 true _ ?side1 ?side2 ?side3 ?side4 A75.out).mono ?_); (case side1 => exact pkC (Kd.R_reads' HO_11.out).2.2); (case side2 => exact (Kd.R_reads' HO_11.out).2.1); (case side3 => exact pkC (Kd.R_reads' HO_7.out).2.2); (case side4 => exact (Kd.R_reads' HO_7.out).2.1); rintro e w' ⟨rfl, ⟨nd, rfl⟩⟩))
          go_meet
          case rel => exact ⟨_, ((t1031 != t1011)), rfx, H', ⟨by have := HJ11.out; first | omega | exact Nat.le_refl _⟩, ⟨by (with_reducible repeat (first | apply Kd.R_alloc | apply Kd.R_drewN | apply Kd.R_drew)); exact Kd.R_mono HO_7.out (fun _ hk => ⟨hk.1, ⟨hk.2.1, ⟨hk.2.2.1, ⟨hk.2.2.2.1, ⟨hk.2.2.2.2.1, ⟨hk.2.2.2.2.2.1, hk.2.2.2.2.2.2.1⟩⟩⟩⟩⟩⟩)⟩, ⟨by (with_reducible repeat (first | apply Kd.R_alloc | apply Kd.R_drewN | apply Kd.R_drew)); exact Kd.R_mono HO_11.out (fun _ hk => ⟨hk.1, ⟨hk.2.1, ⟨hk.2.2.1, ⟨hk.2.2.2.1, ⟨hk.2.2.2.2.1, ⟨hk.2.2.2.2.2.1, hk.2.2.2.2.2.2.1⟩⟩⟩⟩⟩⟩)⟩, ⟨by (with_reducible repeat (first | apply Kd.R_alloc | apply Kd.R_drewN | apply Kd.R_drew)); exact Kd.R_mono HO_1013001.out (fun _ hk => ⟨hk.1, ⟨hk.2.1, ⟨hk.2.2.1, ⟨hk.2.2.2.1, ⟨hk.2.2.2.2.1, ⟨hk.2.2.2.2.2.1, hk.2.2.2.2.2.2.1⟩⟩⟩⟩⟩⟩)⟩, ⟨by (with_reducible repeat (first | apply Kd.R_alloc | apply Kd.R_drewN | apply Kd.R_drew)); exact Kd.R_mono HO_1013002.out (fun _ hk => ⟨hk.1, ⟨hk.2.1, ⟨hk.2.2.1, ⟨hk.2.2.2.1, ⟨hk.2.2.2.2.1, ⟨hk.2.2.2.2.2.1, hk.2.2.2.2.2.2.1⟩⟩⟩⟩⟩⟩)⟩, ⟨by (with_reducible repeat (first | apply Kd.R_alloc | apply Kd.R_drewN | apply Kd.R_drew)); exact Kd.R_mono HO_1021001.out (fun _ hk => ⟨hk.1.1.1, ⟨hk.1.1.2.1, ⟨hk.1.1.2.2.1, ⟨hk.1.1.2.2.2.1, ⟨hk.1.1.2.2.2.2.1, ⟨hk.1.1.2.2.2.2.2.1, hk.1.1.2.2.2.2.2.2⟩⟩⟩⟩⟩⟩)⟩, ⟨by (with_reducible repeat (first | apply Kd.R_alloc | apply Kd.R_drewN | apply Kd.R_drew)); exact Kd.R_mono HO_1021002.out (fun _ hk => ⟨hk.1.1.1, ⟨hk.1.1.2.1, ⟨hk.1.1.2.2.1, ⟨hk.1.1.2.2.2.1, ⟨hk.1.1.2.2.2.2.1, ⟨hk.1.1.2.2.2.2.2.1, hk.1.1.2.2.2.2.2.2⟩⟩⟩⟩⟩⟩)⟩, ⟨by (with_reducible repeat (first | apply Kd.R_alloc | apply Kd.R_drewN | apply Kd.R_drew)); exact Kd.R_mono HO_1033001.out (fun _ hk => ⟨hk.1, ⟨hk.2.1, ⟨hk.2.2.1, ⟨hk.2.2.2.1, ⟨hk.2.2.2.2.1, ⟨hk.2.2.2.2.2.1, hk.2.2.2.2.2.2.1⟩⟩⟩⟩⟩⟩)⟩, ⟨by (with_reducible repeat (first | apply Kd.R_alloc | apply Kd.R_drewN | apply Kd.R_drew)); exact Kd.R_mono HO_1033002.out (fun _ hk => ⟨hk.1, ⟨hk.2.1, ⟨hk.2.2.1, ⟨hk.2.2.2.1, ⟨hk.2.2.2.2.1, ⟨hk.2.2.2.2.2.1, hk.2.2.2.2.2.2.1⟩⟩⟩⟩⟩⟩)⟩, ⟨pkK BK992.out⟩, ⟨pkK BK1012.out⟩, ⟨pkK BK1020.out⟩, ⟨pkK BK1032.out⟩, ⟨pkW HB.out⟩⟩
         ·replace c76 := Bool.eq_false_iff.mpr c76
          subst c76
          replace H : (laws_FnExactCountDown.j1 kj11 a1 t1008 t1011 t1028 true a0_0 l0_1 l0_2 t1001 t1002 t1005 t1021 t1022 t1025) = some r := by rw [if_neg (show ¬ (false = true) by decide)] at H; exact H
          cases kj11 with
          | zero => exact absurd H (by simp [laws_FnExactCountDown.j1])
          | succ k_ => (simp only [laws_FnExactCountDown.j1, if_pos] at H; exact absurd (Option.some.inj H) (by rw [HQ_.out]; simp))
        ·replace c74 := Bool.eq_false_iff.mpr c74
         subst c74
         replace H : (laws_FnExactCountDown.j1 kj11 a1 t1008 t1011 t1028 true a0_0 l0_1 l0_2 t1001 t1002 t1005 t1021 t1022 t1025) = some r := by rw [if_neg (show ¬ (false = true) by decide)] at H; exact H
         cases kj11 with
         | zero => exact absurd H (by simp [laws_FnExactCountDown.j1])
         | succ k_ => (simp only [laws_FnExactCountDown.j1, if_pos] at H; exact absurd (Option.some.inj H) (by rw [HQ_.out]; simp))
      case rest =>
       clear HC61
       try clear c1
       try clear c2
       try clear p2
       try clear c3
       try clear c4
       try clear c4b0
       try clear c5
       try clear c6
       try clear c7
       try clear c8
       try clear c11
       try clear c22
       try clear c23
       try clear c25
       try clear c27
       try clear c29
       try clear c30
       try clear c36
       try clear c37
       try clear c38
       try clear c43
       try clear c45
       try clear c46
       try clear c47
       try clear c48
       try clear c50
       try clear c51
       try clear c56
       try clear c59
       try clear c67
       try clear c68
       try clear c69
       try clear c72
       try clear c72b0
       try clear c74
       try clear c76
       try clear c77
       try clear c78
       try clear c79
       try clear c81
       try clear c82
       try clear hcz14_0
       try clear hcz14_1
       try clear hcz14_2
       try clear hcz16_0
       try clear hcz16_1
       try clear hcz16_2
       try clear hcz23_0
       try clear hcz23_1
       try clear hcz23_2
       try clear hcz26_0
       try clear hcz26_1
       try clear hcz26_2
       try clear hcz31_0
       try clear hcz31_1
       try clear hcz31_2
       try clear hcz39_0
       try clear hcz39_1
       try clear hcz39_2
       try clear hcz49_0
       try clear hcz49_1
       try clear hcz49_2
       try clear hcz52_0
       try clear hcz52_1
       try clear hcz52_2
       try clear hcz6_0
       try clear hcz6_1
       try clear hcz6_2
       try clear hcz70_0
       try clear hcz70_1
       try clear hcz70_2
       try clear hcz80_0
       try clear hcz80_1
       try clear hcz80_2
       try clear hcz83_0
       try clear hcz83_1
       try clear hcz83_2
       try clear hfz14_0
       try clear hfz14_1
       try clear hfz14_2
       try clear hfz16_0
       try clear hfz16_1
       try clear hfz16_2
       try clear hfz23_0
       try clear hfz23_1
       try clear hfz23_2
       try clear hfz26_0
       try clear hfz26_1
       try clear hfz26_2
       try clear hfz31_0
       try clear hfz31_1
       try clear hfz31_2
       try clear hfz39_0
       try clear hfz39_1
       try clear hfz39_2
       try clear hfz49_0
       try clear hfz49_1
       try clear hfz49_2
       try clear hfz52_0
       try clear hfz52_1
       try clear hfz52_2
       try clear hfz6_0
       try clear hfz6_1
       try clear hfz6_2
       try clear hfz70_0
       try clear hfz70_1
       try clear hfz70_2
       try clear hfz80_0
       try clear hfz80_1
       try clear hfz80_2
       try clear hfz83_0
       try clear hfz83_1
       try clear hfz83_2
       try clear p2
       obtain ⟨kq, x82_60, rfl, HA, HJ60, HO_7, HO_11, HO_1013001, HO_1013002, HO_1021001, HO_1021002, HO_1033001, HO_1033002, BK992, BK1012, BK1020, BK1032, HB⟩ := hcut
       have hl1021001_60 := (Kd.R_reads' HO_1021001.out).1
       rw [hl1021001_60] at HO_1021001
       (try simp only [hl1021001_60])
       (try simp only [hl1021001_60] at BK992)
       (try simp only [hl1021001_60] at BK1012)
       (try simp only [hl1021001_60] at BK1020)
       (try simp only [hl1021001_60] at BK1032)
       (try simp only [hl1021001_60] at HO_7)
       (try simp only [hl1021001_60] at HO_11)
       (try simp only [hl1021001_60] at HO_1013001)
       (try simp only [hl1021001_60] at HO_1013002)
       (try simp only [hl1021001_60] at HO_1021002)
       (try simp only [hl1021001_60] at HO_1033001)
       (try simp only [hl1021001_60] at HO_1033002)
       have hl1021002_60 := (Kd.R_reads' HO_1021002.out).1
       rw [hl1021002_60] at HO_1021002
       (try simp only [hl1021002_60])
       (try simp only [hl1021002_60] at BK992)
       (try simp only [hl1021002_60] at BK1012)
       (try simp only [hl1021002_60] at BK1020)
       (try simp only [hl1021002_60] at BK1032)
       (try simp only [hl1021002_60] at HO_7)
       (try simp only [hl1021002_60] at HO_11)
       (try simp only [hl1021002_60] at HO_1013001)
       (try simp only [hl1021002_60] at HO_1013002)
       (try simp only [hl1021002_60] at HO_1021001)
       (try simp only [hl1021002_60] at HO_1033001)
       (try simp only [hl1021002_60] at HO_1033002)
       cases kq with
       | zero => exact absurd HA.out (by simp [laws_FnExactCountDown.j1])
       | succ kj60 =>
        have H := HA.out
        clear HA
        simp only [laws_FnExactCountDown.j1] at H
        by_cases c87 : x82_60 = true
        ·subst c87
         replace H : (some false) = some r := by rw [if_pos rfl] at H; exact H
         exact absurd (Option.some.inj H) (by rw [HQ_.out]; simp)
        ·replace c87 := Bool.eq_false_iff.mpr c87
         subst c87
         replace H : ((laws_markLatch.f kj60 t1021 t1022 t1025 1).bind fun bt1048 => ((laws_markIntS.f kj60 t1028 bt1048.1).bind fun bt1051 => ((laws_heldLatch.f kj60 t1021 bt1048.2.1 bt1048.2.2 1).bind fun t1053 => (if t1053 < 0 then (some false) else ((laws_heldIntS.f kj60 bt1051.2 t1053).bind fun t1054 => (if t1054 < 0 then (some false) else (if t1054 = bt1051.1 then ((laws_toLatch.f kj60 a0_0 l0_1 l0_2).bind fun bt1055 => ((impl_CountDown.f kj60 bt1055.1 bt1055.2.1 bt1055.2.2 a1).bind fun bt1062 => ((laws_eqLatch.f kj60 bt1062.1 bt1062.2.1 bt1062.2.2.1 t1001 t1002 t1005).bind fun t1074 => (if t1074 = true then ((laws_eqIntS.f kj60 bt1062.2.2.2.1 t1008).bind fun t1075 => (if t1075 = true then (laws_FnExactCountDown.j2 kj60 bt1051.2 bt1051.1 (bt1062.2.2.2.2 != t1011) t1021 bt1048.2.1 bt1048.2.2) else (laws_FnExactCountDown.j2 kj60 bt1051.2 bt1051.1 true t1021 bt1048.2.1 bt1048.2.2))) else (laws_FnExactCountDown.j2 kj60 bt1051.2 bt1051.1 true t1021 bt1048.2.1 bt1048.2.2))))) else (some false)))))))) = some r := by rw [if_neg (show ¬ (false = true) by decide)] at H; exact H
         replace H := Option.bind_eq_some_iff.mp H
         obtain ⟨⟨t1048, t1049, t1050⟩, A880, H⟩ := H
         replace H : ((laws_markIntS.f kj60 t1028 t1048).bind fun bt1051 => ((laws_heldLatch.f kj60 t1021 t1049 t1050 1).bind fun t1053 => (if t1053 < 0 then (some false) else ((laws_heldIntS.f kj60 bt1051.2 t1053).bind fun t1054 => (if t1054 < 0 then (some false) else (if t1054 = bt1051.1 then ((laws_toLatch.f kj60 a0_0 l0_1 l0_2).bind fun bt1055 => ((impl_CountDown.f kj60 bt1055.1 bt1055.2.1 bt1055.2.2 a1).bind fun bt1062 => ((laws_eqLatch.f kj60 bt1062.1 bt1062.2.1 bt1062.2.2.1 t1001 t1002 t1005).bind fun t1074 => (if t1074 = true then ((laws_eqIntS.f kj60 bt1062.2.2.2.1 t1008).bind fun t1075 => (if t1075 = true then (laws_FnExactCountDown.j2 kj60 bt1051.2 bt1051.1 (bt1062.2.2.2.2 != t1011) t1021 t1049 t1050) else (laws_FnExactCountDown.j2 kj60 bt1051.2 bt1051.1 true t1021 t1049 t1050))) else (laws_FnExactCountDown.j2 kj60 bt1051.2 bt1051.1 true t1021 t1049 t1050))))) else (some false))))))) = some r := H
         have A88 := am A880
         clear A880
         replace H := Option.bind_eq_some_iff.mp H
         obtain ⟨⟨t1051, t1052⟩, A890, H⟩ := H
         replace H : ((laws_heldLatch.f kj60 t1021 t1049 t1050 1).bind fun t1053 => (if t1053 < 0 then (some false) else ((laws_heldIntS.f kj60 t1052 t1053).bind fun t1054 => (if t1054 < 0 then (some false) else (if t1054 = t1051 then ((laws_toLatch.f kj60 a0_0 l0_1 l0_2).bind fun bt1055 => ((impl_CountDown.f kj60 bt1055.1 bt1055.2.1 bt1055.2.2 a1).bind fun bt1062 => ((laws_eqLatch.f kj60 bt1062.1 bt1062.2.1 bt1062.2.2.1 t1001 t1002 t1005).bind fun t1074 => (if t1074 = true then ((laws_eqIntS.f kj60 bt1062.2.2.2.1 t1008).bind fun t1075 => (if t1075 = true then (laws_FnExactCountDown.j2 kj60 t1052 t1051 (bt1062.2.2.2.2 != t1011) t1021 t1049 t1050) else (laws_FnExactCountDown.j2 kj60 t1052 t1051 true t1021 t1049 t1050))) else (laws_FnExactCountDown.j2 kj60 t1052 t1051 true t1021 t1049 t1050))))) else (some false)))))) = some r := H
         have A89 := am A890
         clear A890
         replace H := Option.bind_eq_some_iff.mp H
         obtain ⟨t1053, A900, H⟩ := H
         replace H : (if t1053 < 0 then (some false) else ((laws_heldIntS.f kj60 t1052 t1053).bind fun t1054 => (if t1054 < 0 then (some false) else (if t1054 = t1051 then ((laws_toLatch.f kj60 a0_0 l0_1 l0_2).bind fun bt1055 => ((impl_CountDown.f kj60 bt1055.1 bt1055.2.1 bt1055.2.2 a1).bind fun bt1062 => ((laws_eqLatch.f kj60 bt1062.1 bt1062.2.1 bt1062.2.2.1 t1001 t1002 t1005).bind fun t1074 => (if t1074 = true then ((laws_eqIntS.f kj60 bt1062.2.2.2.1 t1008).bind fun t1075 => (if t1075 = true then (laws_FnExactCountDown.j2 kj60 t1052 t1051 (bt1062.2.2.2.2 != t1011) t1021 t1049 t1050) else (laws_FnExactCountDown.j2 kj60 t1052 t1051 true t1021 t1049 t1050))) else (laws_FnExactCountDown.j2 kj60 t1052 t1051 true t1021 t1049 t1050))))) else (some false))))) = some r := H
         have A90 := am A900
         clear A900
         by_cases c91 : t1053 < 0
         ·rw [if_pos c91] at H
          have c91b0 : decide (t1053 < 0) = true := decide_eq_true c91
          clear c91
          exact absurd (Option.some.inj H) (by rw [HQ_.out]; simp)
         ·rw [if_neg c91] at H
          have c91b0 : decide (t1053 < 0) = false := decide_eq_false c91
          clear c91
          replace H := Option.bind_eq_some_iff.mp H
          obtain ⟨t1054, A920, H⟩ := H
          replace H : (if t1054 < 0 then (some false) else (if t1054 = t1051 then ((laws_toLatch.f kj60 a0_0 l0_1 l0_2).bind fun bt1055 => ((impl_CountDown.f kj60 bt1055.1 bt1055.2.1 bt1055.2.2 a1).bind fun bt1062 => ((laws_eqLatch.f kj60 bt1062.1 bt1062.2.1 bt1062.2.2.1 t1001 t1002 t1005).bind fun t1074 => (if t1074 = true then ((laws_eqIntS.f kj60 bt1062.2.2.2.1 t1008).bind fun t1075 => (if t1075 = true then (laws_FnExactCountDown.j2 kj60 t1052 t1051 (bt1062.2.2.2.2 != t1011) t1021 t1049 t1050) else (laws_FnExactCountDown.j2 kj60 t1052 t1051 true t1021 t1049 t1050))) else (laws_FnExactCountDown.j2 kj60 t1052 t1051 true t1021 t1049 t1050))))) else (some false))) = some r := H
          have A92 := am A920
          clear A920
          by_cases c93 : t1054 < 0
          ·rw [if_pos c93] at H
           have c93b0 : decide (t1054 < 0) = true := decide_eq_true c93
           clear c93
           exact absurd (Option.some.inj H) (by rw [HQ_.out]; simp)
          ·rw [if_neg c93] at H
           have c93b0 : decide (t1054 < 0) = false := decide_eq_false c93
           clear c93
           by_cases c94 : t1054 = t1051
           ·rw [if_pos c94] at H
            have c94b0 : (t1054 == t1051) = true := beq_iff_eq.mpr c94
            have c94b1 : (t1054 != t1051) = false := bne_eq_false_iff_eq.mpr c94
            clear c94
            replace H := Option.bind_eq_some_iff.mp H
            obtain ⟨⟨t1055, t1056, t1059⟩, A950, H⟩ := H
            replace H : ((impl_CountDown.f kj60 t1055 t1056 t1059 a1).bind fun bt1062 => ((laws_eqLatch.f kj60 bt1062.1 bt1062.2.1 bt1062.2.2.1 t1001 t1002 t1005).bind fun t1074 => (if t1074 = true then ((laws_eqIntS.f kj60 bt1062.2.2.2.1 t1008).bind fun t1075 => (if t1075 = true then (laws_FnExactCountDown.j2 kj60 t1052 t1051 (bt1062.2.2.2.2 != t1011) t1021 t1049 t1050) else (laws_FnExactCountDown.j2 kj60 t1052 t1051 true t1021 t1049 t1050))) else (laws_FnExactCountDown.j2 kj60 t1052 t1051 true t1021 t1049 t1050)))) = some r := H
            have A95 := am A950
            clear A950
            replace H := Option.bind_eq_some_iff.mp H
            obtain ⟨⟨t1062, t1063, t1066, t1069, t1072⟩, A960, H⟩ := H
            replace H : ((laws_eqLatch.f kj60 t1062 t1063 t1066 t1001 t1002 t1005).bind fun t1074 => (if t1074 = true then ((laws_eqIntS.f kj60 t1069 t1008).bind fun t1075 => (if t1075 = true then (laws_FnExactCountDown.j2 kj60 t1052 t1051 (t1072 != t1011) t1021 t1049 t1050) else (laws_FnExactCountDown.j2 kj60 t1052 t1051 true t1021 t1049 t1050))) else (laws_FnExactCountDown.j2 kj60 t1052 t1051 true t1021 t1049 t1050))) = some r := H
            have A96 := am A960
            clear A960
            have HC97 := am H
            clear H
            have hnb98 := NB1032_992.out
            have hnc98 := NB992_1032.out
            have hnb99 := NB1032_1012.out
            have hnc99 := NB1012_1032.out
            have hnb100 := NB1032_1020.out
            have hnc100 := NB1020_1032.out
            obtain ⟨hcz101_0, hcz101_1, hcz101_2, hfz101_0, hfz101_1, hfz101_2⟩ := bk3 BK1032.out
            go_upto_region 29 with (first | ((with_reducible refine gate_callee (f := 36) rfl ?_); refine goesL_ (some 85) rfl rfl Try.func36 (by kernel_rfl) rfl #[.agg #[.int .i64 t1021, .slice Ao40 t1022.length co40, .slice Ao41 t1025.length co41], .int .i64 1] rfl mpx ?_; (with_reducible refine (laws_markLatch.calls kj60 t1021 (fun k_ => some k_ = (.slice Ao40 t1022.length co40 : Value).ownBlock) (.slice Ao40 t1022.length co40) t1022 (fun k_ => some k_ = (.slice Ao41 t1025.length co41 : Value).ownBlock) (.slice Ao41 t1025.length co41) t1025 1 t1048 t1049 t1050 w _ ?side1 ?side2 ?side3 ?side4 ?side5 A88.out).mono ?_); (case side1 => repeat (first | (with_reducible first | exact HB.out | apply below_alloc | apply pw_below_drewN | apply below_drew1 | refine below_set ?_ GE992.out | refine below_set ?_ GE1012.out | refine below_set ?_ GE1020.out | refine below_set ?_ GE1032.out) | exact HB.out)); (case side2 => exact Kd.R_tight rfl HO_1033001.out); (case side3 => exact fun k_ e_ => (HO_1033001.out.1 k_ e_.symm).2.2.2.2.2.2); (case side4 => exact Kd.R_tight rfl HO_1033002.out); (case side5 => exact fun k_ e_ => (HO_1033002.out.1 k_ e_.symm).2.2.2.2.2.2); rintro e w102 ⟨rfl, hy0, hy1, hb, hkp⟩; refine ⟨_, rfl, ?_⟩; replace HO_7 := am (Kd.R_mono (ok' := fun k_ => some k_ ≠ (v1029 : Value).ownBlock ∧ some k_ ≠ (.slice Ao24 t1002.length co24 : Value).ownBlock ∧ some k_ ≠ (.slice Ao25 t1005.length co25 : Value).ownBlock ∧ some k_ ≠ (.slice Ao32 t1044.length co32 : Value).ownBlock ∧ some k_ ≠ (.slice Ao33 t1045.length co33 : Value).ownBlock ∧ some k_ ≠ (.slice Ao40 t1022.length co40 : Value).ownBlock ∧ some k_ ≠ (.slice Ao41 t1025.length co41 : Value).ownBlock) (Kd.R_keptB (HO_7.out) hkp (fun k_ hk_ hs_ => Or.elim hs_ (fun e_ => (hk_.2.2.2.2.2.1) e_) (fun e_ => (hk_.2.2.2.2.2.2) e_))) (fun k_ hk_ => ⟨hk_.1.1, hk_.1.2.1, hk_.1.2.2.1, hk_.1.2.2.2.1, hk_.1.2.2.2.2.1, hk_.1.2.2.2.2.2.1, hk_.1.2.2.2.2.2.2⟩)); replace HO_11 := am (Kd.R_mono (ok' := fun k_ => some k_ ≠ (v1009 : Value).ownBlock ∧ some k_ ≠ (.slice Ao24 t1002.length co24 : Value).ownBlock ∧ some k_ ≠ (.slice Ao25 t1005.length co25 : Value).ownBlock ∧ some k_ ≠ (.slice Ao32 t1044.length co32 : Value).ownBlock ∧ some k_ ≠ (.slice Ao33 t1045.length co33 : Value).ownBlock ∧ some k_ ≠ (.slice Ao40 t1022.length co40 : Value).ownBlock ∧ some k_ ≠ (.slice Ao41 t1025.length co41 : Value).ownBlock) (Kd.R_keptB (HO_11.out) hkp (fun k_ hk_ hs_ => Or.elim hs_ (fun e_ => (hk_.2.2.2.2.2.1) e_) (fun e_ => (hk_.2.2.2.2.2.2) e_))) (fun k_ hk_ => ⟨hk_.1.1, hk_.1.2.1, hk_.1.2.2.1, hk_.1.2.2.2.1, hk_.1.2.2.2.2.1, hk_.1.2.2.2.2.2.1, hk_.1.2.2.2.2.2.2⟩)); replace HO_1013001 := am (Kd.R_mono (ok' := fun k_ => some k_ ≠ (v1009 : Value).ownBlock ∧ some k_ ≠ (v1029 : Value).ownBlock ∧ some k_ ≠ (.slice Ao25 t1005.length co25 : Value).ownBlock ∧ some k_ ≠ (.slice Ao32 t1044.length co32 : Value).ownBlock ∧ some k_ ≠ (.slice Ao33 t1045.length co33 : Value).ownBlock ∧ some k_ ≠ (.slice Ao40 t1022.length co40 : Value).ownBlock ∧ some k_ ≠ (.slice Ao41 t1025.length co41 : Value).ownBlock) (Kd.R_keptB (HO_1013001.out) hkp (fun k_ hk_ hs_ => Or.elim hs_ (fun e_ => (hk_.2.2.2.2.2.1) e_) (fun e_ => (hk_.2.2.2.2.2.2) e_))) (fun k_ hk_ => ⟨hk_.1.1, hk_.1.2.1, hk_.1.2.2.1, hk_.1.2.2.2.1, hk_.1.2.2.2.2.1, hk_.1.2.2.2.2.2.1, hk_.1.2.2.2.2.2.2⟩)); replace HO_1013002 := am (Kd.R_mono (ok' := fun k_ => some k_ ≠ (v1009 : Value).ownBlock ∧ some k_ ≠ (v1029 : Value).ownBlock ∧ some k_ ≠ (.slice Ao24 t1002.length co24 : Value).ownBlock ∧ some k_ ≠ (.slice Ao32 t1044.length co32 : Value).ownBlock ∧ some k_ ≠ (.slice Ao33 t1045.length co33 : Value).ownBlock ∧ some k_ ≠ (.slice Ao40 t1022.length co40 : Value).ownBlock ∧ some k_ ≠ (.slice Ao41 t1025.length co41 : Value).ownBlock) (Kd.R_keptB (HO_1013002.out) hkp (fun k_ hk_ hs_ => Or.elim hs_ (fun e_ => (hk_.2.2.2.2.2.1) e_) (fun e_ => (hk_.2.2.2.2.2.2) e_))) (fun k_ hk_ => ⟨hk_.1.1, hk_.1.2.1, hk_.1.2.2.1, hk_.1.2.2.2.1, hk_.1.2.2.2.2.1, hk_.1.2.2.2.2.2.1, hk_.1.2.2.2.2.2.2⟩)); replace HO_1021001 := am (Kd.R_mono (ok' := fun k_ => some k_ ≠ (v1009 : Value).ownBlock ∧ some k_ ≠ (v1029 : Value).ownBlock ∧ some k_ ≠ (.slice Ao24 t1002.length co24 : Value).ownBlock ∧ some k_ ≠ (.slice Ao25 t1005.length co25 : Value).ownBlock ∧ some k_ ≠ (.slice Ao33 t1045.length co33 : Value).ownBlock ∧ some k_ ≠ (.slice Ao40 t1022.length co40 : Value).ownBlock ∧ some k_ ≠ (.slice Ao41 t1025.length co41 : Value).ownBlock) (Kd.R_keptB (HO_1021001.out) hkp (fun k_ hk_ hs_ => Or.elim hs_ (fun e_ => (hk_.2.2.2.2.2.1) e_) (fun e_ => (hk_.2.2.2.2.2.2) e_))) (fun k_ hk_ => ⟨hk_.1.1, hk_.1.2.1, hk_.1.2.2.1, hk_.1.2.2.2.1, hk_.1.2.2.2.2.1, hk_.1.2.2.2.2.2.1, hk_.1.2.2.2.2.2.2⟩)); replace HO_1021002 := am (Kd.R_mono (ok' := fun k_ => some k_ ≠ (v1009 : Value).ownBlock ∧ some k_ ≠ (v1029 : Value).ownBlock ∧ some k_ ≠ (.slice Ao24 t1002.length co24 : Value).ownBlock ∧ some k_ ≠ (.slice Ao25 t1005.length co25 : Value).ownBlock ∧ some k_ ≠ (.slice Ao32 t1044.length co32 : Value).ownBlock ∧ some k_ ≠ (.slice Ao40 t1022.length co40 : Value).ownBlock ∧ some k_ ≠ (.slice Ao41 t1025.length co41 : Value).ownBlock) (Kd.R_keptB (HO_1021002.out) hkp (fun k_ hk_ hs_ => Or.elim hs_ (fun e_ => (hk_.2.2.2.2.2.1) e_) (fun e_ => (hk_.2.2.2.2.2.2) e_))) (fun k_ hk_ => ⟨hk_.1.1, hk_.1.2.1, hk_.1.2.2.1, hk_.1.2.2.2.1, hk_.1.2.2.2.2.1, hk_.1.2.2.2.2.2.1, hk_.1.2.2.2.2.2.2⟩)); replace BK992 := am (blk_kept (pkK BK992.out) hkp (fun hs_ => Or.elim hs_ (fun e_ => (fun e_ => (Kd.R_ne HO_1033001.out BK992.out (by decide)) e_) e_) (fun e_ => (fun e_ => (Kd.R_ne HO_1033002.out BK992.out (by decide)) e_) e_))); replace BK1012 := am (blk_kept (pkK BK1012.out) hkp (fun hs_ => Or.elim hs_ (fun e_ => (fun e_ => (Kd.R_ne HO_1033001.out BK1012.out (by decide)) e_) e_) (fun e_ => (fun e_ => (Kd.R_ne HO_1033002.out BK1012.out (by decide)) e_) e_))); replace BK1020 := am (blk_kept (pkK BK1020.out) hkp (fun hs_ => Or.elim hs_ (fun e_ => (fun e_ => (Kd.R_ne HO_1033001.out BK1020.out (by decide)) e_) e_) (fun e_ => (fun e_ => (Kd.R_ne HO_1033002.out BK1020.out (by decide)) e_) e_))); replace BK1032 := am (blk_kept (pkK BK1032.out) hkp (fun hs_ => Or.elim hs_ (fun e_ => (fun e_ => (Kd.R_ne HO_1033001.out BK1032.out (by decide)) e_) e_) (fun e_ => (fun e_ => (Kd.R_ne HO_1033002.out BK1032.out (by decide)) e_) e_))); replace HO_1033001 := am (Kd.R_reok rfl hy0 (fun k_ e_ => HO_1033001.out.1 k_ e_)); replace HO_1033002 := am (Kd.R_reok rfl hy1 (fun k_ e_ => HO_1033002.out.1 k_ e_)); replace HB := am (hb); (try clear hb); (try clear hkp); (try clear hy0); (try clear hy1); obtain ⟨Ao103, co103, eo103⟩ := Kd.R_slice HO_11.out; subst eo103) | ((with_reducible refine gate_callee (f := 45) rfl ?_); refine goesL_ (some 88) rfl rfl Try.func45 (by kernel_rfl) rfl #[.slice Ao103 t1028.length co103, .int .i64 t1048] rfl mpx ?_; (with_reducible refine (laws_markIntS.calls kj60 (fun k_ => some k_ = (.slice Ao103 t1028.length co103 : Value).ownBlock) (.slice Ao103 t1028.length co103) t1028 t1048 t1051 t1052 w _ ?side1 ?side2 A89.out).mono ?_); (case side1 => repeat (first | (with_reducible first | exact HB.out | apply below_alloc | apply pw_below_drewN | apply below_drew1 | refine below_set ?_ GE992.out | refine below_set ?_ GE1012.out | refine below_set ?_ GE1020.out | refine below_set ?_ GE1032.out) | exact HB.out)); (case side2 => exact Kd.R_tight rfl HO_11.out); rintro e w104 ⟨rfl, hy0, hb, hkp⟩; refine ⟨_, rfl, ?_⟩; replace HO_7 := am (Kd.R_mono (ok' := fun k_ => some k_ ≠ (.slice Ao103 t1028.length co103 : Value).ownBlock ∧ some k_ ≠ (.slice Ao24 t1002.length co24 : Value).ownBlock ∧ some k_ ≠ (.slice Ao25 t1005.length co25 : Value).ownBlock ∧ some k_ ≠ (.slice Ao32 t1044.length co32 : Value).ownBlock ∧ some k_ ≠ (.slice Ao33 t1045.length co33 : Value).ownBlock ∧ some k_ ≠ (.slice Ao40 t1022.length co40 : Value).ownBlock ∧ some k_ ≠ (.slice Ao41 t1025.length co41 : Value).ownBlock) (Kd.R_keptB (HO_7.out) hkp (fun k_ hk_ hs_ => (hk_.1) hs_)) (fun k_ hk_ => ⟨hk_.1.1, hk_.1.2.1, hk_.1.2.2.1, hk_.1.2.2.2.1, hk_.1.2.2.2.2.1, hk_.1.2.2.2.2.2.1, hk_.1.2.2.2.2.2.2⟩)); replace HO_1013001 := am (Kd.R_mono (ok' := fun k_ => some k_ ≠ (v1009 : Value).ownBlock ∧ some k_ ≠ (.slice Ao103 t1028.length co103 : Value).ownBlock ∧ some k_ ≠ (.slice Ao25 t1005.length co25 : Value).ownBlock ∧ some k_ ≠ (.slice Ao32 t1044.length co32 : Value).ownBlock ∧ some k_ ≠ (.slice Ao33 t1045.length co33 : Value).ownBlock ∧ some k_ ≠ (.slice Ao40 t1022.length co40 : Value).ownBlock ∧ some k_ ≠ (.slice Ao41 t1025.length co41 : Value).ownBlock) (Kd.R_keptB (HO_1013001.out) hkp (fun k_ hk_ hs_ => (hk_.2.1) hs_)) (fun k_ hk_ => ⟨hk_.1.1, hk_.1.2.1, hk_.1.2.2.1, hk_.1.2.2.2.1, hk_.1.2.2.2.2.1, hk_.1.2.2.2.2.2.1, hk_.1.2.2.2.2.2.2⟩)); replace HO_1013002 := am (Kd.R_mono (ok' := fun k_ => some k_ ≠ (v1009 : Value).ownBlock ∧ some k_ ≠ (.slice Ao103 t1028.length co103 : Value).ownBlock ∧ some k_ ≠ (.slice Ao24 t1002.length co24 : Value).ownBlock ∧ some k_ ≠ (.slice Ao32 t1044.length co32 : Value).ownBlock ∧ some k_ ≠ (.slice Ao33 t1045.length co33 : Value).ownBlock ∧ some k_ ≠ (.slice Ao40 t1022.length co40 : Value).ownBlock ∧ some k_ ≠ (.slice Ao41 t1025.length co41 : Value).ownBlock) (Kd.R_keptB (HO_1013002.out) hkp (fun k_ hk_ hs_ => (hk_.2.1) hs_)) (fun k_ hk_ => ⟨hk_.1.1, hk_.1.2.1, hk_.1.2.2.1, hk_.1.2.2.2.1, hk_.1.2.2.2.2.1, hk_.1.2.2.2.2.2.1, hk_.1.2.2.2.2.2.2⟩)); replace HO_1021001 := am (Kd.R_mono (ok' := fun k_ => some k_ ≠ (v1009 : Value).ownBlock ∧ some k_ ≠ (.slice Ao103 t1028.length co103 : Value).ownBlock ∧ some k_ ≠ (.slice Ao24 t1002.length co24 : Value).ownBlock ∧ some k_ ≠ (.slice Ao25 t1005.length co25 : Value).ownBlock ∧ some k_ ≠ (.slice Ao33 t1045.length co33 : Value).ownBlock ∧ some k_ ≠ (.slice Ao40 t1022.length co40 : Value).ownBlock ∧ some k_ ≠ (.slice Ao41 t1025.length co41 : Value).ownBlock) (Kd.R_keptB (HO_1021001.out) hkp (fun k_ hk_ hs_ => (hk_.2.1) hs_)) (fun k_ hk_ => ⟨hk_.1.1, hk_.1.2.1, hk_.1.2.2.1, hk_.1.2.2.2.1, hk_.1.2.2.2.2.1, hk_.1.2.2.2.2.2.1, hk_.1.2.2.2.2.2.2⟩)); replace HO_1021002 := am (Kd.R_mono (ok' := fun k_ => some k_ ≠ (v1009 : Value).ownBlock ∧ some k_ ≠ (.slice Ao103 t1028.length co103 : Value).ownBlock ∧ some k_ ≠ (.slice Ao24 t1002.length co24 : Value).ownBlock ∧ some k_ ≠ (.slice Ao25 t1005.length co25 : Value).ownBlock ∧ some k_ ≠ (.slice Ao32 t1044.length co32 : Value).ownBlock ∧ some k_ ≠ (.slice Ao40 t1022.length co40 : Value).ownBlock ∧ some k_ ≠ (.slice Ao41 t1025.length co41 : Value).ownBlock) (Kd.R_keptB (HO_1021002.out) hkp (fun k_ hk_ hs_ => (hk_.2.1) hs_)) (fun k_ hk_ => ⟨hk_.1.1, hk_.1.2.1, hk_.1.2.2.1, hk_.1.2.2.2.1, hk_.1.2.2.2.2.1, hk_.1.2.2.2.2.2.1, hk_.1.2.2.2.2.2.2⟩)); replace HO_1033001 := am (Kd.R_mono (ok' := fun k_ => some k_ ≠ (v1009 : Value).ownBlock ∧ some k_ ≠ (.slice Ao103 t1028.length co103 : Value).ownBlock ∧ some k_ ≠ (.slice Ao24 t1002.length co24 : Value).ownBlock ∧ some k_ ≠ (.slice Ao25 t1005.length co25 : Value).ownBlock ∧ some k_ ≠ (.slice Ao32 t1044.length co32 : Value).ownBlock ∧ some k_ ≠ (.slice Ao33 t1045.length co33 : Value).ownBlock ∧ some k_ ≠ (.slice Ao41 t1025.length co41 : Value).ownBlock) (Kd.R_keptB (HO_1033001.out) hkp (fun k_ hk_ hs_ => (hk_.2.1) hs_)) (fun k_ hk_ => ⟨hk_.1.1, hk_.1.2.1, hk_.1.2.2.1, hk_.1.2.2.2.1, hk_.1.2.2.2.2.1, hk_.1.2.2.2.2.2.1, hk_.1.2.2.2.2.2.2⟩)); replace HO_1033002 := am (Kd.R_mono (ok' := fun k_ => some k_ ≠ (v1009 : Value).ownBlock ∧ some k_ ≠ (.slice Ao103 t1028.length co103 : Value).ownBlock ∧ some k_ ≠ (.slice Ao24 t1002.length co24 : Value).ownBlock ∧ some k_ ≠ (.slice Ao25 t1005.length co25 : Value).ownBlock ∧ some k_ ≠ (.slice Ao32 t1044.length co32 : Value).ownBlock ∧ some k_ ≠ (.slice Ao33 t1045.length co33 : Value).ownBlock ∧ some k_ ≠ (.slice Ao40 t1022.length co40 : Value).ownBlock) (Kd.R_keptB (HO_1033002.out) hkp (fun k_ hk_ hs_ => (hk_.2.1) hs_)) (fun k_ hk_ => ⟨hk_.1.1, hk_.1.2.1, hk_.1.2.2.1, hk_.1.2.2.2.1, hk_.1.2.2.2.2.1, hk_.1.2.2.2.2.2.1, hk_.1.2.2.2.2.2.2⟩)); replace BK992 := am (blk_kept (pkK BK992.out) hkp (fun hs_ => (fun e_ => (Kd.R_ne HO_11.out BK992.out (by decide)) e_) hs_)); replace BK1012 := am (blk_kept (pkK BK1012.out) hkp (fun hs_ => (fun e_ => (Kd.R_ne HO_11.out BK1012.out (by decide)) e_) hs_)); replace BK1020 := am (blk_kept (pkK BK1020.out) hkp (fun hs_ => (fun e_ => (Kd.R_ne HO_11.out BK1020.out (by decide)) e_) hs_)); replace BK1032 := am (blk_kept (pkK BK1032.out) hkp (fun hs_ => (fun e_ => (Kd.R_ne HO_11.out BK1032.out (by decide)) e_) hs_)); replace HO_11 := am (Kd.R_reok rfl hy0 (fun k_ e_ => HO_11.out.1 k_ e_)); replace HB := am (hb); (try clear hb); (try clear hkp); (try clear hy0); obtain ⟨hcz105_0, hcz105_1, hcz105_2, hfz105_0, hfz105_1, hfz105_2⟩ := bk3 BK1032.out) | ((with_reducible refine gate_callee (f := 37) rfl ?_); refine goesL_ (some 91) rfl rfl Try.func37 (by kernel_rfl) rfl #[.agg #[.int .i64 t1021, .slice Ao40 t1049.length co40, .slice Ao41 t1050.length co41], .int .i64 1] rfl (by (try simp only [List.map_toArray, List.map_cons, List.map_nil]); first | done | (rw [show t1049.length = t1022.length from (Kd.R_reads' HO_1033001.out).1.symm, show t1050.length = t1025.length from (Kd.R_reads' HO_1033002.out).1.symm] <;> rfl) | rfl | (simp only [List.length_drop, List.length_take]; rfl) | (go_simp; done) | (simp [*]; done)) ?_; (with_reducible refine (laws_heldLatch.calls kj60 t1021 _ _ t1049 _ _ t1050 1 t1053 _ ?side1 ?side2 ?side3 ?side4 A90.out).mono ?_); (case side1 => exact pkC (Kd.R_reads' HO_1033001.out).2.2); (case side2 => rw [show t1049.length = t1022.length from (Kd.R_reads' HO_1033001.out).1.symm]; exact (Kd.R_reads' HO_1033001.out).2.1); (case side3 => exact pkC (Kd.R_reads' HO_1033002.out).2.2); (case side4 => rw [show t1050.length = t1025.length from (Kd.R_reads' HO_1033002.out).1.symm]; exact (Kd.R_reads' HO_1033002.out).2.1); rintro e w106 ⟨rfl, hb⟩; refine ⟨_, rfl, ?_⟩; replace HO_7 := am (Kd.R_below (pkR HO_7.out) hb); replace HO_11 := am (Kd.R_below (pkR HO_11.out) hb); replace HO_1013001 := am (Kd.R_below (pkR HO_1013001.out) hb); replace HO_1013002 := am (Kd.R_below (pkR HO_1013002.out) hb); replace HO_1021001 := am (Kd.R_below (pkR HO_1021001.out) hb); replace HO_1021002 := am (Kd.R_below (pkR HO_1021002.out) hb); replace HO_1033001 := am (Kd.R_below (pkR HO_1033001.out) hb); replace HO_1033002 := am (Kd.R_below (pkR HO_1033002.out) hb); replace BK992 := am (blk_below (pkK BK992.out) hb); replace BK1012 := am (blk_below (pkK BK1012.out) hb); replace BK1020 := am (blk_below (pkK BK1020.out) hb); replace BK1032 := am (blk_below (pkK BK1032.out) hb); replace HB := am (below_step (pkW HB.out) hb); (try clear hb)) | ((with_reducible refine gate_callee (f := 46) rfl ?_); refine goesL_ (some 96) rfl rfl Try.func46 (by kernel_rfl) rfl #[.slice Ao103 t1052.length co103, .int .i64 t1053] rfl (by (try simp only [List.map_toArray, List.map_cons, List.map_nil]); first | done | (rw [show t1052.length = t1028.length from (Kd.R_reads' HO_11.out).1.symm] <;> rfl) | rfl | (simp only [List.length_drop, List.length_take]; rfl) | (go_simp; done) | (simp [*]; done)) ?_; (with_reducible refine (laws_heldIntS.calls kj60 _ _ t1052 t1053 t1054 _ ?side1 ?side2 A92.out).mono ?_); (case side1 => exact pkC (Kd.R_reads' HO_11.out).2.2); (case side2 => rw [show t1052.length = t1028.length from (Kd.R_reads' HO_11.out).1.symm]; exact (Kd.R_reads' HO_11.out).2.1); rintro e w' ⟨rfl, ⟨nd, rfl⟩⟩; refine ⟨_, rfl, ?_⟩; (try (rw [drewN_self w106]; generalize hq_ : World.drewN w106 _ = w106; replace HO_1013001 : Aside0 (Kd.R (Kd.int .i64) 3 w106 w.heap.size (fun k_ => (some k_ ≠ (v1009 : Value).ownBlock ∧ (some k_ ≠ (.slice Ao103 t1028.length co103 : Value).ownBlock ∧ (some k_ ≠ (.slice Ao25 t1005.length co25 : Value).ownBlock ∧ (some k_ ≠ (.slice Ao32 t1044.length co32 : Value).ownBlock ∧ (some k_ ≠ (.slice Ao33 t1045.length co33 : Value).ownBlock ∧ (some k_ ≠ (.slice Ao40 t1022.length co40 : Value).ownBlock ∧ some k_ ≠ (.slice Ao41 t1025.length co41 : Value).ownBlock))))))) (.slice Ao24 t1002.length co24) t1002) := ⟨by rw [← hq_]; exact (pkR HO_1013001.out)⟩; replace HO_1013002 : Aside0 (Kd.R (Kd.int .i64) 3 w106 w.heap.size (fun k_ => (some k_ ≠ (v1009 : Value).ownBlock ∧ (some k_ ≠ (.slice Ao103 t1028.length co103 : Value).ownBlock ∧ (some k_ ≠ (.slice Ao24 t1002.length co24 : Value).ownBlock ∧ (some k_ ≠ (.slice Ao32 t1044.length co32 : Value).ownBlock ∧ (some k_ ≠ (.slice Ao33 t1045.length co33 : Value).ownBlock ∧ (some k_ ≠ (.slice Ao40 t1022.length co40 : Value).ownBlock ∧ some k_ ≠ (.slice Ao41 t1025.length co41 : Value).ownBlock))))))) (.slice Ao25 t1005.length co25) t1005) := ⟨by rw [← hq_]; exact (pkR HO_1013002.out)⟩; replace HO_1021001 : Aside0 (Kd.R (Kd.int .i64) 3 w106 w.heap.size (fun k_ => (some k_ ≠ (v1009 : Value).ownBlock ∧ (some k_ ≠ (.slice Ao103 t1028.length co103 : Value).ownBlock ∧ (some k_ ≠ (.slice Ao24 t1002.length co24 : Value).ownBlock ∧ (some k_ ≠ (.slice Ao25 t1005.length co25 : Value).ownBlock ∧ (some k_ ≠ (.slice Ao33 t1045.length co33 : Value).ownBlock ∧ (some k_ ≠ (.slice Ao40 t1022.length co40 : Value).ownBlock ∧ some k_ ≠ (.slice Ao41 t1025.length co41 : Value).ownBlock))))))) (.slice Ao32 t1044.length co32) t1044) := ⟨by rw [← hq_]; exact (pkR HO_1021001.out)⟩; replace HO_1021002 : Aside0 (Kd.R (Kd.int .i64) 3 w106 w.heap.size (fun k_ => (some k_ ≠ (v1009 : Value).ownBlock ∧ (some k_ ≠ (.slice Ao103 t1028.length co103 : Value).ownBlock ∧ (some k_ ≠ (.slice Ao24 t1002.length co24 : Value).ownBlock ∧ (some k_ ≠ (.slice Ao25 t1005.length co25 : Value).ownBlock ∧ (some k_ ≠ (.slice Ao32 t1044.length co32 : Value).ownBlock ∧ (some k_ ≠ (.slice Ao40 t1022.length co40 : Value).ownBlock ∧ some k_ ≠ (.slice Ao41 t1025.length co41 : Value).ownBlock))))))) (.slice Ao33 t1045.length co33) t1045) := ⟨by rw [← hq_]; exact (pkR HO_1021002.out)⟩; replace HO_1033001 : Aside0 (Kd.R (Kd.int .i64) 3 w106 w.heap.size (fun k_ => (some k_ ≠ (v1009 : Value).ownBlock ∧ (some k_ ≠ (.slice Ao103 t1028.length co103 : Value).ownBlock ∧ (some k_ ≠ (.slice Ao24 t1002.length co24 : Value).ownBlock ∧ (some k_ ≠ (.slice Ao25 t1005.length co25 : Value).ownBlock ∧ (some k_ ≠ (.slice Ao32 t1044.length co32 : Value).ownBlock ∧ (some k_ ≠ (.slice Ao33 t1045.length co33 : Value).ownBlock ∧ some k_ ≠ (.slice Ao41 t1025.length co41 : Value).ownBlock))))))) (.slice Ao40 t1022.length co40) t1049) := ⟨by rw [← hq_]; exact (pkR HO_1033001.out)⟩; replace HO_1033002 : Aside0 (Kd.R (Kd.int .i64) 3 w106 w.heap.size (fun k_ => (some k_ ≠ (v1009 : Value).ownBlock ∧ (some k_ ≠ (.slice Ao103 t1028.length co103 : Value).ownBlock ∧ (some k_ ≠ (.slice Ao24 t1002.length co24 : Value).ownBlock ∧ (some k_ ≠ (.slice Ao25 t1005.length co25 : Value).ownBlock ∧ (some k_ ≠ (.slice Ao32 t1044.length co32 : Value).ownBlock ∧ (some k_ ≠ (.slice Ao33 t1045.length co33 : Value).ownBlock ∧ some k_ ≠ (.slice Ao40 t1022.length co40 : Value).ownBlock))))))) (.slice Ao41 t1025.length co41) t1050) := ⟨by rw [← hq_]; exact (pkR HO_1033002.out)⟩; replace HO_11 : Aside0 (Kd.R (Kd.int .i64) 3 w106 w.heap.size (fun k_ => (some k_ ≠ (v1009 : Value).ownBlock ∧ (some k_ ≠ (.slice Ao24 t1002.length co24 : Value).ownBlock ∧ (some k_ ≠ (.slice Ao25 t1005.length co25 : Value).ownBlock ∧ (some k_ ≠ (.slice Ao32 t1044.length co32 : Value).ownBlock ∧ (some k_ ≠ (.slice Ao33 t1045.length co33 : Value).ownBlock ∧ (some k_ ≠ (.slice Ao40 t1022.length co40 : Value).ownBlock ∧ some k_ ≠ (.slice Ao41 t1025.length co41 : Value).ownBlock))))))) (.slice Ao103 t1028.length co103) t1052) := ⟨by rw [← hq_]; exact (pkR HO_11.out)⟩; replace HO_7 : Aside0 (Kd.R (Kd.int .i64) 3 w106 w.heap.size (fun k_ => (some k_ ≠ (.slice Ao103 t1028.length co103 : Value).ownBlock ∧ (some k_ ≠ (.slice Ao24 t1002.length co24 : Value).ownBlock ∧ (some k_ ≠ (.slice Ao25 t1005.length co25 : Value).ownBlock ∧ (some k_ ≠ (.slice Ao32 t1044.length co32 : Value).ownBlock ∧ (some k_ ≠ (.slice Ao33 t1045.length co33 : Value).ownBlock ∧ (some k_ ≠ (.slice Ao40 t1022.length co40 : Value).ownBlock ∧ some k_ ≠ (.slice Ao41 t1025.length co41 : Value).ownBlock))))))) v1009 t1008) := ⟨by rw [← hq_]; exact (pkR HO_7.out)⟩; replace BK1012 : Aside0 (w106.heap[gb1012]? = some (.cells #[.int .i64 t1001, .slice Ao24 t1002.length co24, .slice Ao25 t1005.length co25] 46 (0, 0))) := ⟨by rw [← hq_]; exact (pkK BK1012.out)⟩; replace BK1020 : Aside0 (w106.heap[gb1020]? = some (.cells #[.int .i64 t1013, .slice Ao32 t1044.length co32, .slice Ao33 t1045.length co33] 46 (0, 0))) := ⟨by rw [← hq_]; exact (pkK BK1020.out)⟩; replace BK1032 : Aside0 (w106.heap[gb1032]? = some (.cells #[.int .i64 t1021, .slice Ao40 t1022.length co40, .slice Ao41 t1025.length co41] 46 (0, 0))) := ⟨by rw [← hq_]; exact (pkK BK1032.out)⟩; replace BK992 : Aside0 (w106.heap[gb992]? = some (.cells #[.int .i64 a0_0, .slice A0_1 l0_1.length c0_1, .slice A0_2 l0_2.length c0_2] 43 (0, 0))) := ⟨by rw [← hq_]; exact (pkK BK992.out)⟩; replace HB : Aside0 (Below w.heap.size w w106) := ⟨by rw [← hq_]; exact (pkW HB.out)⟩; clear hq_)); have hnb107 := NB992_1012.out; have hnc107 := NB1012_992.out; have hnb108 := NB992_1020.out; have hnc108 := NB1020_992.out; obtain ⟨hcz109_0, hcz109_1, hcz109_2, hfz109_0, hfz109_1, hfz109_2⟩ := bk3 BK992.out) | ((with_reducible refine gate_callee (f := 25) rfl ?_); refine goesL_ (some 104) rfl rfl Try.func25 (by kernel_rfl) rfl #[.agg #[.int .i64 a0_0, .slice A0_1 l0_1.length c0_1, .slice A0_2 l0_2.length c0_2]] rfl mpx ?_; (with_reducible refine (laws_toLatch.calls kj60 a0_0 _ _ l0_1 _ _ l0_2 t1055 t1056 t1059 _ ?side1 ?side2 ?side3 ?side4 A95.out).mono ?_); (case side1 => exact pkC (Kd.C_below HR0_1.out HB.out)); (case side2 => exact HC0_1.out); (case side3 => exact pkC (Kd.C_below HR0_2.out HB.out)); (case side4 => exact HC0_2.out); rintro e w110 ⟨v1057, v1060, rfl, ho0, ho1, hb⟩; refine ⟨_, rfl, ?_⟩; have HO1058 := am (Kd.R_lower (Kd.R_new' (Kd.R_new' (Kd.R_new' (Kd.R_new' (Kd.R_new' (Kd.R_new' (Kd.R_new' (Kd.R_new' ho0 (Kd.R_lt (pkR HO_7.out))) (Kd.R_lt (pkR HO_11.out))) (Kd.R_lt (pkR HO_1013001.out))) (Kd.R_lt (pkR HO_1013002.out))) (Kd.R_lt (pkR HO_1021001.out))) (Kd.R_lt (pkR HO_1021002.out))) (Kd.R_lt (pkR HO_1033001.out))) (Kd.R_lt (pkR HO_1033002.out))) (below_size (pkW HB.out))); have HO1061 := am (Kd.R_lower (Kd.R_new' (Kd.R_new' (Kd.R_new' (Kd.R_new' (Kd.R_new' (Kd.R_new' (Kd.R_new' (Kd.R_new' ho1 (Kd.R_lt (pkR HO_7.out))) (Kd.R_lt (pkR HO_11.out))) (Kd.R_lt (pkR HO_1013001.out))) (Kd.R_lt (pkR HO_1013002.out))) (Kd.R_lt (pkR HO_1021001.out))) (Kd.R_lt (pkR HO_1021002.out))) (Kd.R_lt (pkR HO_1033001.out))) (Kd.R_lt (pkR HO_1033002.out))) (below_size (pkW HB.out))); replace HO_7 := am (Kd.R_mono (Kd.R_told (Kd.R_told (Kd.R_old (pkR HO_7.out) hb) (Kd.R_base ho0)) (Kd.R_base ho1)) (fun _ h_ => h_.1)); replace HO_11 := am (Kd.R_mono (Kd.R_told (Kd.R_told (Kd.R_old (pkR HO_11.out) hb) (Kd.R_base ho0)) (Kd.R_base ho1)) (fun _ h_ => h_.1)); replace HO_1013001 := am (Kd.R_mono (Kd.R_told (Kd.R_told (Kd.R_old (pkR HO_1013001.out) hb) (Kd.R_base ho0)) (Kd.R_base ho1)) (fun _ h_ => h_.1)); replace HO_1013002 := am (Kd.R_mono (Kd.R_told (Kd.R_told (Kd.R_old (pkR HO_1013002.out) hb) (Kd.R_base ho0)) (Kd.R_base ho1)) (fun _ h_ => h_.1)); replace HO_1021001 := am (Kd.R_mono (Kd.R_told (Kd.R_told (Kd.R_old (pkR HO_1021001.out) hb) (Kd.R_base ho0)) (Kd.R_base ho1)) (fun _ h_ => h_.1)); replace HO_1021002 := am (Kd.R_mono (Kd.R_told (Kd.R_told (Kd.R_old (pkR HO_1021002.out) hb) (Kd.R_base ho0)) (Kd.R_base ho1)) (fun _ h_ => h_.1)); replace HO_1033001 := am (Kd.R_mono (Kd.R_told (Kd.R_told (Kd.R_old (pkR HO_1033001.out) hb) (Kd.R_base ho0)) (Kd.R_base ho1)) (fun _ h_ => h_.1)); replace HO_1033002 := am (Kd.R_mono (Kd.R_told (Kd.R_told (Kd.R_old (pkR HO_1033002.out) hb) (Kd.R_base ho0)) (Kd.R_base ho1)) (fun _ h_ => h_.1)); replace BK992 := am (blk_below (pkK BK992.out) hb); replace BK1012 := am (blk_below (pkK BK1012.out) hb); replace BK1020 := am (blk_below (pkK BK1020.out) hb); replace BK1032 := am (blk_below (pkK BK1032.out) hb); replace HB := am (below_step (pkW HB.out) hb); (try clear hb ho0 ho1); obtain ⟨Ao111, co111, eo111⟩ := Kd.R_slice HO1058.out; subst eo111; obtain ⟨Ao112, co112, eo112⟩ := Kd.R_slice HO1061.out; subst eo112) | ((with_reducible refine gate_callee (f := 29) rfl ?_); refine goesL_ (some 106) rfl rfl Try.func29 (by kernel_rfl) rfl #[.agg #[.int .i64 t1055, .slice Ao111 t1056.length co111, .slice Ao112 t1059.length co112], .int .i64 a1] rfl mpx ?_; (with_reducible refine (impl_CountDown.calls kj60 t1055 _ _ t1056 _ _ t1059 a1 t1062 t1063 t1066 t1069 t1072 _ ?side1 ?side2 ?side3 ?side4 A96.out).mono ?_); (case side1 => exact pkC (Kd.R_reads' HO1058.out).2.2); (case side2 => exact (Kd.R_reads' HO1058.out).2.1); (case side3 => exact pkC (Kd.R_reads' HO1061.out).2.2); (case side4 => exact (Kd.R_reads' HO1061.out).2.1); rintro e w113 ⟨v1064, v1067, v1070, rfl, ho0, ho1, ho2, hb⟩; refine ⟨_, rfl, ?_⟩; have HO1065 := am (Kd.R_lower (Kd.R_new' (Kd.R_new' (Kd.R_new' (Kd.R_new' (Kd.R_new' (Kd.R_new' (Kd.R_new' (Kd.R_new' (Kd.R_new' (Kd.R_new' ho0 (Kd.R_lt (pkR HO_7.out))) (Kd.R_lt (pkR HO_11.out))) (Kd.R_lt (pkR HO_1013001.out))) (Kd.R_lt (pkR HO_1013002.out))) (Kd.R_lt (pkR HO_1021001.out))) (Kd.R_lt (pkR HO_1021002.out))) (Kd.R_lt (pkR HO_1033001.out))) (Kd.R_lt (pkR HO_1033002.out))) (Kd.R_lt (pkR HO1058.out))) (Kd.R_lt (pkR HO1061.out))) (below_size (pkW HB.out))); have HO1068 := am (Kd.R_lower (Kd.R_new' (Kd.R_new' (Kd.R_new' (Kd.R_new' (Kd.R_new' (Kd.R_new' (Kd.R_new' (Kd.R_new' (Kd.R_new' (Kd.R_new' ho1 (Kd.R_lt (pkR HO_7.out))) (Kd.R_lt (pkR HO_11.out))) (Kd.R_lt (pkR HO_1013001.out))) (Kd.R_lt (pkR HO_1013002.out))) (Kd.R_lt (pkR HO_1021001.out))) (Kd.R_lt (pkR HO_1021002.out))) (Kd.R_lt (pkR HO_1033001.out))) (Kd.R_lt (pkR HO_1033002.out))) (Kd.R_lt (pkR HO1058.out))) (Kd.R_lt (pkR HO1061.out))) (below_size (pkW HB.out))); have HO1071 := am (Kd.R_lower (Kd.R_new' (Kd.R_new' (Kd.R_new' (Kd.R_new' (Kd.R_new' (Kd.R_new' (Kd.R_new' (Kd.R_new' (Kd.R_new' (Kd.R_new' ho2 (Kd.R_lt (pkR HO_7.out))) (Kd.R_lt (pkR HO_11.out))) (Kd.R_lt (pkR HO_1013001.out))) (Kd.R_lt (pkR HO_1013002.out))) (Kd.R_lt (pkR HO_1021001.out))) (Kd.R_lt (pkR HO_1021002.out))) (Kd.R_lt (pkR HO_1033001.out))) (Kd.R_lt (pkR HO_1033002.out))) (Kd.R_lt (pkR HO1058.out))) (Kd.R_lt (pkR HO1061.out))) (below_size (pkW HB.out))); replace HO_7 := am (Kd.R_mono (Kd.R_told (Kd.R_told (Kd.R_told (Kd.R_old (pkR HO_7.out) hb) (Kd.R_base ho0)) (Kd.R_base ho1)) (Kd.R_base ho2)) (fun _ h_ => h_.1)); replace HO_11 := am (Kd.R_mono (Kd.R_told (Kd.R_told (Kd.R_told (Kd.R_old (pkR HO_11.out) hb) (Kd.R_base ho0)) (Kd.R_base ho1)) (Kd.R_base ho2)) (fun _ h_ => h_.1)); replace HO_1013001 := am (Kd.R_mono (Kd.R_told (Kd.R_told (Kd.R_told (Kd.R_old (pkR HO_1013001.out) hb) (Kd.R_base ho0)) (Kd.R_base ho1)) (Kd.R_base ho2)) (fun _ h_ => h_.1)); replace HO_1013002 := am (Kd.R_mono (Kd.R_told (Kd.R_told (Kd.R_told (Kd.R_old (pkR HO_1013002.out) hb) (Kd.R_base ho0)) (Kd.R_base ho1)) (Kd.R_base ho2)) (fun _ h_ => h_.1)); replace HO_1021001 := am (Kd.R_mono (Kd.R_told (Kd.R_told (Kd.R_told (Kd.R_old (pkR HO_1021001.out) hb) (Kd.R_base ho0)) (Kd.R_base ho1)) (Kd.R_base ho2)) (fun _ h_ => h_.1)); replace HO_1021002 := am (Kd.R_mono (Kd.R_told (Kd.R_told (Kd.R_told (Kd.R_old (pkR HO_1021002.out) hb) (Kd.R_base ho0)) (Kd.R_base ho1)) (Kd.R_base ho2)) (fun _ h_ => h_.1)); replace HO_1033001 := am (Kd.R_mono (Kd.R_told (Kd.R_told (Kd.R_told (Kd.R_old (pkR HO_1033001.out) hb) (Kd.R_base ho0)) (Kd.R_base ho1)) (Kd.R_base ho2)) (fun _ h_ => h_.1)); replace HO_1033002 := am (Kd.R_mono (Kd.R_told (Kd.R_told (Kd.R_told (Kd.R_old (pkR HO_1033002.out) hb) (Kd.R_base ho0)) (Kd.R_base ho1)) (Kd.R_base ho2)) (fun _ h_ => h_.1)); replace HO1058 := am (Kd.R_mono (Kd.R_told (Kd.R_told (Kd.R_told (Kd.R_old (pkR HO1058.out) hb) (Kd.R_base ho0)) (Kd.R_base ho1)) (Kd.R_base ho2)) (fun _ h_ => h_.1)); replace HO1061 := am (Kd.R_mono (Kd.R_told (Kd.R_told (Kd.R_told (Kd.R_old (pkR HO1061.out) hb) (Kd.R_base ho0)) (Kd.R_base ho1)) (Kd.R_base ho2)) (fun _ h_ => h_.1)); replace BK992 := am (blk_below (pkK BK992.out) hb); replace BK1012 := am (blk_below (pkK BK1012.out) hb); replace BK1020 := am (blk_below (pkK BK1020.out) hb); replace BK1032 := am (blk_below (pkK BK1032.out) hb); replace HB := am (below_step (pkW HB.out) hb); (try clear hb ho0 ho1 ho2)) | ((with_reducible refine gate_dst (N := 16) rfl ?_); refine box_event ?hg (N := 16) ?hd (cs := #[.int .i64 0, .slice none 0 0, .slice none 0 0]) (t := 46) ?hr ?_; (case hd => rfl); (case hg => rfl); (case hr => first | (go_simp; done) | (go_simp; rfl)); intro gb1073 hg w114 hbox hb; replace HO_7 := am (Kd.R_below (pkR HO_7.out) hb); replace HO_11 := am (Kd.R_below (pkR HO_11.out) hb); replace HO_1013001 := am (Kd.R_below (pkR HO_1013001.out) hb); replace HO_1013002 := am (Kd.R_below (pkR HO_1013002.out) hb); replace HO_1021001 := am (Kd.R_below (pkR HO_1021001.out) hb); replace HO_1021002 := am (Kd.R_below (pkR HO_1021002.out) hb); replace HO_1033001 := am (Kd.R_below (pkR HO_1033001.out) hb); replace HO_1033002 := am (Kd.R_below (pkR HO_1033002.out) hb); replace HO1058 := am (Kd.R_below (pkR HO1058.out) hb); replace HO1061 := am (Kd.R_below (pkR HO1061.out) hb); replace HO1065 := am (Kd.R_below (pkR HO1065.out) hb); replace HO1068 := am (Kd.R_below (pkR HO1068.out) hb); replace HO1071 := am (Kd.R_below (pkR HO1071.out) hb); have BK1073 := am (hbox); have GW1073 := am ((by rw [hg]; exact (below_size (pkW HB.out)) : w.heap.size ≤ gb1073)); have GE1073 := am ((by rw [hg]; exact (below_size (pkW HB.out)) : w.heap.size ≤ gb1073)); replace HB := am (below_step (pkW HB.out) hb); have NB992_1073 := am ((by rw [hg]; exact Nat.ne_of_lt (blk_lt (g := gb992) (o := .cells #[.int .i64 a0_0, .slice A0_1 l0_1.length c0_1, .slice A0_2 l0_2.length c0_2] 43 (0, 0)) (pkK BK992.out)) : gb992 ≠ gb1073)); have NB1073_992 := am ((by rw [hg]; exact Nat.ne_of_gt (blk_lt (g := gb992) (o := .cells #[.int .i64 a0_0, .slice A0_1 l0_1.length c0_1, .slice A0_2 l0_2.length c0_2] 43 (0, 0)) (pkK BK992.out)) : gb1073 ≠ gb992)); replace BK992 := am (blk_below (pkK BK992.out) hb); have NB1012_1073 := am ((by rw [hg]; exact Nat.ne_of_lt (blk_lt (g := gb1012) (o := .cells #[.int .i64 t1001, .slice Ao24 t1002.length co24, .slice Ao25 t1005.length co25] 46 (0, 0)) (pkK BK1012.out)) : gb1012 ≠ gb1073)); have NB1073_1012 := am ((by rw [hg]; exact Nat.ne_of_gt (blk_lt (g := gb1012) (o := .cells #[.int .i64 t1001, .slice Ao24 t1002.length co24, .slice Ao25 t1005.length co25] 46 (0, 0)) (pkK BK1012.out)) : gb1073 ≠ gb1012)); replace BK1012 := am (blk_below (pkK BK1012.out) hb); have NB1020_1073 := am ((by rw [hg]; exact Nat.ne_of_lt (blk_lt (g := gb1020) (o := .cells #[.int .i64 t1013, .slice Ao32 t1044.length co32, .slice Ao33 t1045.length co33] 46 (0, 0)) (pkK BK1020.out)) : gb1020 ≠ gb1073)); have NB1073_1020 := am ((by rw [hg]; exact Nat.ne_of_gt (blk_lt (g := gb1020) (o := .cells #[.int .i64 t1013, .slice Ao32 t1044.length co32, .slice Ao33 t1045.length co33] 46 (0, 0)) (pkK BK1020.out)) : gb1073 ≠ gb1020)); replace BK1020 := am (blk_below (pkK BK1020.out) hb); have NB1032_1073 := am ((by rw [hg]; exact Nat.ne_of_lt (blk_lt (g := gb1032) (o := .cells #[.int .i64 t1021, .slice Ao40 t1022.length co40, .slice Ao41 t1025.length co41] 46 (0, 0)) (pkK BK1032.out)) : gb1032 ≠ gb1073)); have NB1073_1032 := am ((by rw [hg]; exact Nat.ne_of_gt (blk_lt (g := gb1032) (o := .cells #[.int .i64 t1021, .slice Ao40 t1022.length co40, .slice Ao41 t1025.length co41] 46 (0, 0)) (pkK BK1032.out)) : gb1073 ≠ gb1032)); replace BK1032 := am (blk_below (pkK BK1032.out) hb); clear hb hbox hg; have hnb115 := NB1073_992.out; have hnc115 := NB992_1073.out; have hnb116 := NB1073_1012.out; have hnc116 := NB1012_1073.out; have hnb117 := NB1073_1020.out; have hnc117 := NB1020_1073.out; have hnb118 := NB1073_1032.out; have hnc118 := NB1032_1073.out; obtain ⟨hcz119_0, hcz119_1, hcz119_2, hfz119_0, hfz119_1, hfz119_2⟩ := bk3 BK1073.out; obtain ⟨Ao120, co120, eo120⟩ := Kd.R_slice HO1065.out; subst eo120; obtain ⟨Ao121, co121, eo121⟩ := Kd.R_slice HO1068.out; subst eo121))
            (try simp only [Act.put, List.setIfInBounds_toArray, List.set_cons_zero, List.set_cons_succ])
            go_cut [124] (fun v124 wc => ∃ (kq : Nat) (x124_96 : Bool), v124 = .bool x124_96 ∧ Aside0 (laws_FnExactCountDown.j2 kq t1052 t1051 x124_96 t1021 t1049 t1050 = some r) ∧ Aside0 (kq ≤ kj60) ∧ Aside0 (Kd.R (Kd.int .i64) 3 wc w.heap.size (fun k_ => some k_ ≠ ((.slice Ao24 t1002.length co24) : Value).ownBlock ∧ some k_ ≠ ((.slice Ao25 t1005.length co25) : Value).ownBlock ∧ some k_ ≠ ((.slice Ao32 t1044.length co32) : Value).ownBlock ∧ some k_ ≠ ((.slice Ao33 t1045.length co33) : Value).ownBlock ∧ some k_ ≠ ((.slice Ao40 t1022.length co40) : Value).ownBlock ∧ some k_ ≠ ((.slice Ao41 t1025.length co41) : Value).ownBlock ∧ some k_ ≠ ((.slice Ao120 t1063.length co120) : Value).ownBlock ∧ some k_ ≠ ((.slice Ao121 t1066.length co121) : Value).ownBlock) (.slice Ao103 t1028.length co103) t1052) ∧ Aside0 (Kd.R (Kd.int .i64) 3 wc w.heap.size (fun k_ => some k_ ≠ ((.slice Ao103 t1028.length co103) : Value).ownBlock ∧ some k_ ≠ ((.slice Ao25 t1005.length co25) : Value).ownBlock ∧ some k_ ≠ ((.slice Ao32 t1044.length co32) : Value).ownBlock ∧ some k_ ≠ ((.slice Ao33 t1045.length co33) : Value).ownBlock ∧ some k_ ≠ ((.slice Ao40 t1022.length co40) : Value).ownBlock ∧ some k_ ≠ ((.slice Ao41 t1025.length co41) : Value).ownBlock ∧ some k_ ≠ ((.slice Ao120 t1063.length co120) : Value).ownBlock ∧ some k_ ≠ ((.slice Ao121 t1066.length co121) : Value).ownBlock) (.slice Ao24 t1002.length co24) t1002) ∧ Aside0 (Kd.R (Kd.int .i64) 3 wc w.heap.size (fun k_ => some k_ ≠ ((.slice Ao103 t1028.length co103) : Value).ownBlock ∧ some k_ ≠ ((.slice Ao24 t1002.length co24) : Value).ownBlock ∧ some k_ ≠ ((.slice Ao32 t1044.length co32) : Value).ownBlock ∧ some k_ ≠ ((.slice Ao33 t1045.length co33) : Value).ownBlock ∧ some k_ ≠ ((.slice Ao40 t1022.length co40) : Value).ownBlock ∧ some k_ ≠ ((.slice Ao41 t1025.length co41) : Value).ownBlock ∧ some k_ ≠ ((.slice Ao120 t1063.length co120) : Value).ownBlock ∧ some k_ ≠ ((.slice Ao121 t1066.length co121) : Value).ownBlock) (.slice Ao25 t1005.length co25) t1005) ∧ Aside0 (Kd.R (Kd.int .i64) 3 wc w.heap.size (fun k_ => some k_ ≠ ((.slice Ao103 t1028.length co103) : Value).ownBlock ∧ some k_ ≠ ((.slice Ao24 t1002.length co24) : Value).ownBlock ∧ some k_ ≠ ((.slice Ao25 t1005.length co25) : Value).ownBlock ∧ some k_ ≠ ((.slice Ao33 t1045.length co33) : Value).ownBlock ∧ some k_ ≠ ((.slice Ao40 t1022.length co40) : Value).ownBlock ∧ some k_ ≠ ((.slice Ao41 t1025.length co41) : Value).ownBlock ∧ some k_ ≠ ((.slice Ao120 t1063.length co120) : Value).ownBlock ∧ some k_ ≠ ((.slice Ao121 t1066.length co121) : Value).ownBlock) (.slice Ao32 t1044.length co32) t1044) ∧ Aside0 (Kd.R (Kd.int .i64) 3 wc w.heap.size (fun k_ => some k_ ≠ ((.slice Ao103 t1028.length co103) : Value).ownBlock ∧ some k_ ≠ ((.slice Ao24 t1002.length co24) : Value).ownBlock ∧ some k_ ≠ ((.slice Ao25 t1005.length co25) : Value).ownBlock ∧ some k_ ≠ ((.slice Ao32 t1044.length co32) : Value).ownBlock ∧ some k_ ≠ ((.slice Ao40 t1022.length co40) : Value).ownBlock ∧ some k_ ≠ ((.slice Ao41 t1025.length co41) : Value).ownBlock ∧ some k_ ≠ ((.slice Ao120 t1063.length co120) : Value).ownBlock ∧ some k_ ≠ ((.slice Ao121 t1066.length co121) : Value).ownBlock) (.slice Ao33 t1045.length co33) t1045) ∧ Aside0 (Kd.R (Kd.int .i64) 3 wc w.heap.size (fun k_ => some k_ ≠ ((.slice Ao103 t1028.length co103) : Value).ownBlock ∧ some k_ ≠ ((.slice Ao24 t1002.length co24) : Value).ownBlock ∧ some k_ ≠ ((.slice Ao25 t1005.length co25) : Value).ownBlock ∧ some k_ ≠ ((.slice Ao32 t1044.length co32) : Value).ownBlock ∧ some k_ ≠ ((.slice Ao33 t1045.length co33) : Value).ownBlock ∧ some k_ ≠ ((.slice Ao41 t1025.length co41) : Value).ownBlock ∧ some k_ ≠ ((.slice Ao120 t1063.length co120) : Value).ownBlock ∧ some k_ ≠ ((.slice Ao121 t1066.length co121) : Value).ownBlock) (.slice Ao40 t1022.length co40) t1049) ∧ Aside0 (Kd.R (Kd.int .i64) 3 wc w.heap.size (fun k_ => some k_ ≠ ((.slice Ao103 t1028.length co103) : Value).ownBlock ∧ some k_ ≠ ((.slice Ao24 t1002.length co24) : Value).ownBlock ∧ some k_ ≠ ((.slice Ao25 t1005.length co25) : Value).ownBlock ∧ some k_ ≠ ((.slice Ao32 t1044.length co32) : Value).ownBlock ∧ some k_ ≠ ((.slice Ao33 t1045.length co33) : Value).ownBlock ∧ some k_ ≠ ((.slice Ao40 t1022.length co40) : Value).ownBlock ∧ some k_ ≠ ((.slice Ao120 t1063.length co120) : Value).ownBlock ∧ some k_ ≠ ((.slice Ao121 t1066.length co121) : Value).ownBlock) (.slice Ao41 t1025.length co41) t1050) ∧ Aside0 (Kd.R (Kd.int .i64) 3 wc w.heap.size (fun k_ => some k_ ≠ ((.slice Ao103 t1028.length co103) : Value).ownBlock ∧ some k_ ≠ ((.slice Ao24 t1002.length co24) : Value).ownBlock ∧ some k_ ≠ ((.slice Ao25 t1005.length co25) : Value).ownBlock ∧ some k_ ≠ ((.slice Ao32 t1044.length co32) : Value).ownBlock ∧ some k_ ≠ ((.slice Ao33 t1045.length co33) : Value).ownBlock ∧ some k_ ≠ ((.slice Ao40 t1022.length co40) : Value).ownBlock ∧ some k_ ≠ ((.slice Ao41 t1025.length co41) : Value).ownBlock ∧ some k_ ≠ ((.slice Ao121 t1066.length co121) : Value).ownBlock) (.slice Ao120 t1063.length co120) t1063) ∧ Aside0 (Kd.R (Kd.int .i64) 3 wc w.heap.size (fun k_ => some k_ ≠ ((.slice Ao103 t1028.length co103) : Value).ownBlock ∧ some k_ ≠ ((.slice Ao24 t1002.length co24) : Value).ownBlock ∧ some k_ ≠ ((.slice Ao25 t1005.length co25) : Value).ownBlock ∧ some k_ ≠ ((.slice Ao32 t1044.length co32) : Value).ownBlock ∧ some k_ ≠ ((.slice Ao33 t1045.length co33) : Value).ownBlock ∧ some k_ ≠ ((.slice Ao40 t1022.length co40) : Value).ownBlock ∧ some k_ ≠ ((.slice Ao41 t1025.length co41) : Value).ownBlock ∧ some k_ ≠ ((.slice Ao120 t1063.length co120) : Value).ownBlock) (.slice Ao121 t1066.length co121) t1066) ∧ Aside0 (wc.heap[gb992]? = some (.cells #[.int .i64 a0_0, (.slice A0_1 l0_1.length c0_1), (.slice A0_2 l0_2.length c0_2)] 43 (0, 0))) ∧ Aside0 (wc.heap[gb1012]? = some (.cells #[.int .i64 t1001, (.slice Ao24 t1002.length co24), (.slice Ao25 t1005.length co25)] 46 (0, 0))) ∧ Aside0 (wc.heap[gb1020]? = some (.cells #[.int .i64 t1013, (.slice Ao32 t1044.length co32), (.slice Ao33 t1045.length co33)] 46 (0, 0))) ∧ Aside0 (wc.heap[gb1032]? = some (.cells #[.int .i64 t1021, (.slice Ao40 t1022.length co40), (.slice Ao41 t1025.length co41)] 46 (0, 0))) ∧ Aside0 (wc.heap[gb1073]? = some (.cells #[.int .i64 t1062, (.slice Ao120 t1063.length co120), (.slice Ao121 t1066.length co121)] 46 (0, 0))) ∧ Aside0 (Below w.heap.size w wc))
            case first =>
             have H := HC97.out
             clear HC97
             replace H := Option.bind_eq_some_iff.mp H
             obtain ⟨t1074, A1220, H⟩ := H
             replace H : (if t1074 = true then ((laws_eqIntS.f kj60 t1069 t1008).bind fun t1075 => (if t1075 = true then (laws_FnExactCountDown.j2 kj60 t1052 t1051 (t1072 != t1011) t1021 t1049 t1050) else (laws_FnExactCountDown.j2 kj60 t1052 t1051 true t1021 t1049 t1050))) else (laws_FnExactCountDown.j2 kj60 t1052 t1051 true t1021 t1049 t1050)) = some r := H
             have A122 := am A1220
             clear A1220
             by_cases c123 : t1074 = true
             ·subst c123
              replace H : ((laws_eqIntS.f kj60 t1069 t1008).bind fun t1075 => (if t1075 = true then (laws_FnExactCountDown.j2 kj60 t1052 t1051 (t1072 != t1011) t1021 t1049 t1050) else (laws_FnExactCountDown.j2 kj60 t1052 t1051 true t1021 t1049 t1050))) = some r := by rw [if_pos rfl] at H; exact H
              replace H := Option.bind_eq_some_iff.mp H
              obtain ⟨t1075, A1240, H⟩ := H
              replace H : (if t1075 = true then (laws_FnExactCountDown.j2 kj60 t1052 t1051 (t1072 != t1011) t1021 t1049 t1050) else (laws_FnExactCountDown.j2 kj60 t1052 t1051 true t1021 t1049 t1050)) = some r := H
              have A124 := am A1240
              clear A1240
              by_cases c125 : t1075 = true
              ·subst c125
               replace H : (laws_FnExactCountDown.j2 kj60 t1052 t1051 (t1072 != t1011) t1021 t1049 t1050) = some r := by rw [if_pos rfl] at H; exact H
               have H' := am H
               clear H
               have hnb126 := NB1073_992.out
               have hnc126 := NB992_1073.out
               have hnb127 := NB1073_1012.out
               have hnc127 := NB1012_1073.out
               have hnb128 := NB1073_1020.out
               have hnc128 := NB1020_1073.out
               have hnb129 := NB1073_1032.out
               have hnc129 := NB1032_1073.out
               obtain ⟨hcz130_0, hcz130_1, hcz130_2, hfz130_0, hfz130_1, hfz130_2⟩ := bk3 BK1073.out
               have hnb131 := NB1012_992.out
               have hnc131 := NB992_1012.out
               have hnb132 := NB1012_1020.out
               have hnc132 := NB1020_1012.out
               have hnb133 := NB1012_1032.out
               have hnc133 := NB1032_1012.out
               obtain ⟨hcz134_0, hcz134_1, hcz134_2, hfz134_0, hfz134_1, hfz134_2⟩ := bk3 BK1012.out
               go_wp2_with (first | ((with_reducible refine gate_callee (f := 27) rfl ?_); refine goesL_ (some 112) rfl rfl Try.func27 (by kernel_rfl) rfl #[.agg #[.int .i64 t1062, .slice Ao120 t1063.length co120, .slice Ao121 t1066.length co121], .agg #[.int .i64 t1001, .slice Ao24 t1002.length co24, .slice Ao25 t1005.length co25]] rfl mpx ?_; (with_reducible refine (laws_eqLatch.calls kj60 t1062 _ _ t1063 _ _ t1066 t1001 _ _ t1002 _ _ t1005 true _ ?side1 ?side2 ?side3 ?side4 ?side5 ?side6 ?side7 ?side8 A122.out).mono ?_); (case side1 => refine (Kd.R_reads' (e := 3) (base := w.heap.size) (ok := fun k_ => (((((((((((some k_ ≠ (.slice Ao121 t1066.length co121 : Value).ownBlock ∧ some k_ ≠ (v1070 : Value).ownBlock) ∧ some k_ ≠ (v1009 : Value).ownBlock) ∧ some k_ ≠ (.slice Ao103 t1028.length co103 : Value).ownBlock) ∧ some k_ ≠ (.slice Ao24 t1002.length co24 : Value).ownBlock) ∧ some k_ ≠ (.slice Ao25 t1005.length co25 : Value).ownBlock) ∧ some k_ ≠ (.slice Ao32 t1044.length co32 : Value).ownBlock) ∧ some k_ ≠ (.slice Ao33 t1045.length co33 : Value).ownBlock) ∧ some k_ ≠ (.slice Ao40 t1022.length co40 : Value).ownBlock) ∧ some k_ ≠ (.slice Ao41 t1025.length co41 : Value).ownBlock) ∧ some k_ ≠ (.slice Ao111 t1056.length co111 : Value).ownBlock) ∧ some k_ ≠ (.slice Ao112 t1059.length co112 : Value).ownBlock)) (n := t1063.length) (c := co120) ?_).2.2; exact (by (with_reducible repeat (first | apply Kd.R_alloc | apply Kd.R_drewN | apply Kd.R_drew)); exact (Kd.R_mono (Kd.R_far (p := ⟨gb1073, 2, none⟩) (Kd.R_far (p := ⟨gb1073, 1, none⟩) (Kd.R_far (p := ⟨gb1073, 0, none⟩) (Kd.R_types HO1065.out BK1073.out (by decide)) (fun _ hk => hk.2) (.int .i64 t1062)) (fun _ hk => hk.2) (.slice Ao120 t1063.length co120)) (fun _ hk => hk.2) (.slice Ao121 t1066.length co121)) (fun _ h_ => h_.1)))); (case side2 => exact (Kd.R_reads' HO1065.out).2.1); (case side3 => refine (Kd.R_reads' (e := 3) (base := w.heap.size) (ok := fun k_ => (((((((((((some k_ ≠ (.slice Ao120 t1063.length co120 : Value).ownBlock ∧ some k_ ≠ (v1070 : Value).ownBlock) ∧ some k_ ≠ (v1009 : Value).ownBlock) ∧ some k_ ≠ (.slice Ao103 t1028.length co103 : Value).ownBlock) ∧ some k_ ≠ (.slice Ao24 t1002.length co24 : Value).ownBlock) ∧ some k_ ≠ (.slice Ao25 t1005.length co25 : Value).ownBlock) ∧ some k_ ≠ (.slice Ao32 t1044.length co32 : Value).ownBlock) ∧ some k_ ≠ (.slice Ao33 t1045.length co33 : Value).ownBlock) ∧ some k_ ≠ (.slice Ao40 t1022.length co40 : Value).ownBlock) ∧ some k_ ≠ (.slice Ao41 t1025.length co41 : Value).ownBlock) ∧ some k_ ≠ (.slice Ao111 t1056.length co111 : Value).ownBlock) ∧ some k_ ≠ (.slice Ao112 t1059.length co112 : Value).ownBlock)) (n := t1066.length) (c := co121) ?_).2.2; exact (by (with_reducible repeat (first | apply Kd.R_alloc | apply Kd.R_drewN | apply Kd.R_drew)); exact (Kd.R_mono (Kd.R_far (p := ⟨gb1073, 2, none⟩) (Kd.R_far (p := ⟨gb1073, 1, none⟩) (Kd.R_far (p := ⟨gb1073, 0, none⟩) (Kd.R_types HO1068.out BK1073.out (by decide)) (fun _ hk => hk.2) (.int .i64 t1062)) (fun _ hk => hk.2) (.slice Ao120 t1063.length co120)) (fun _ hk => hk.2) (.slice Ao121 t1066.length co121)) (fun _ h_ => h_.1)))); (case side4 => exact (Kd.R_reads' HO1068.out).2.1); (case side5 => refine (Kd.R_reads' (e := 3) (base := w.heap.size) (ok := fun k_ => ((((((some k_ ≠ (v1009 : Value).ownBlock ∧ (some k_ ≠ (.slice Ao103 t1028.length co103 : Value).ownBlock ∧ (some k_ ≠ (.slice Ao25 t1005.length co25 : Value).ownBlock ∧ (some k_ ≠ (.slice Ao32 t1044.length co32 : Value).ownBlock ∧ (some k_ ≠ (.slice Ao33 t1045.length co33 : Value).ownBlock ∧ (some k_ ≠ (.slice Ao40 t1022.length co40 : Value).ownBlock ∧ some k_ ≠ (.slice Ao41 t1025.length co41 : Value).ownBlock)))))) ∧ some k_ ≠ (.slice Ao111 t1056.length co111 : Value).ownBlock) ∧ some k_ ≠ (.slice Ao112 t1059.length co112 : Value).ownBlock) ∧ some k_ ≠ (.slice Ao120 t1063.length co120 : Value).ownBlock) ∧ some k_ ≠ (.slice Ao121 t1066.length co121 : Value).ownBlock) ∧ some k_ ≠ (v1070 : Value).ownBlock)) (n := t1002.length) (c := co24) ?_).2.2; exact (by (with_reducible repeat (first | apply Kd.R_alloc | apply Kd.R_drewN | apply Kd.R_drew)); exact (Kd.R_mono (Kd.R_far (p := ⟨gb1073, 2, none⟩) (Kd.R_far (p := ⟨gb1073, 1, none⟩) (Kd.R_far (p := ⟨gb1073, 0, none⟩) (Kd.R_types HO_1013001.out BK1073.out (by decide)) (fun _ hk => hk.2) (.int .i64 t1062)) (fun _ hk => hk.2) (.slice Ao120 t1063.length co120)) (fun _ hk => hk.2) (.slice Ao121 t1066.length co121)) (fun _ h_ => h_.1)))); (case side6 => exact (Kd.R_reads' HO_1013001.out).2.1); (case side7 => refine (Kd.R_reads' (e := 3) (base := w.heap.size) (ok := fun k_ => ((((((some k_ ≠ (v1009 : Value).ownBlock ∧ (some k_ ≠ (.slice Ao103 t1028.length co103 : Value).ownBlock ∧ (some k_ ≠ (.slice Ao24 t1002.length co24 : Value).ownBlock ∧ (some k_ ≠ (.slice Ao32 t1044.length co32 : Value).ownBlock ∧ (some k_ ≠ (.slice Ao33 t1045.length co33 : Value).ownBlock ∧ (some k_ ≠ (.slice Ao40 t1022.length co40 : Value).ownBlock ∧ some k_ ≠ (.slice Ao41 t1025.length co41 : Value).ownBlock)))))) ∧ some k_ ≠ (.slice Ao111 t1056.length co111 : Value).ownBlock) ∧ some k_ ≠ (.slice Ao112 t1059.length co112 : Value).ownBlock) ∧ some k_ ≠ (.slice Ao120 t1063.length co120 : Value).ownBlock) ∧ some k_ ≠ (.slice Ao121 t1066.length co121 : Value).ownBlock) ∧ some k_ ≠ (v1070 : Value).ownBlock)) (n := t1005.length) (c := co25) ?_).2.2; exact (by (with_reducible repeat (first | apply Kd.R_alloc | apply Kd.R_drewN | apply Kd.R_drew)); exact (Kd.R_mono (Kd.R_far (p := ⟨gb1073, 2, none⟩) (Kd.R_far (p := ⟨gb1073, 1, none⟩) (Kd.R_far (p := ⟨gb1073, 0, none⟩) (Kd.R_types HO_1013002.out BK1073.out (by decide)) (fun _ hk => hk.2) (.int .i64 t1062)) (fun _ hk => hk.2) (.slice Ao120 t1063.length co120)) (fun _ hk => hk.2) (.slice Ao121 t1066.length co121)) (fun _ h_ => h_.1)))); (case side8 => exact (Kd.R_reads' HO_1013002.out).2.1); rintro e w135 ⟨rfl, hb⟩; refine ⟨_, rfl, ?_⟩; replace HO_7 := am (Kd.R_below (by (with_reducible repeat (first | apply Kd.R_alloc | apply Kd.R_drewN | apply Kd.R_drew)); exact (Kd.R_mono (Kd.R_far (p := ⟨gb1073, 2, none⟩) (Kd.R_far (p := ⟨gb1073, 1, none⟩) (Kd.R_far (p := ⟨gb1073, 0, none⟩) (Kd.R_types HO_7.out BK1073.out (by decide)) (fun _ hk => hk.2) (.int .i64 t1062)) (fun _ hk => hk.2) (.slice Ao120 t1063.length co120)) (fun _ hk => hk.2) (.slice Ao121 t1066.length co121)) (fun _ h_ => h_.1))) hb); replace HO_11 := am (Kd.R_below (by (with_reducible repeat (first | apply Kd.R_alloc | apply Kd.R_drewN | apply Kd.R_drew)); exact (Kd.R_mono (Kd.R_far (p := ⟨gb1073, 2, none⟩) (Kd.R_far (p := ⟨gb1073, 1, none⟩) (Kd.R_far (p := ⟨gb1073, 0, none⟩) (Kd.R_types HO_11.out BK1073.out (by decide)) (fun _ hk => hk.2) (.int .i64 t1062)) (fun _ hk => hk.2) (.slice Ao120 t1063.length co120)) (fun _ hk => hk.2) (.slice Ao121 t1066.length co121)) (fun _ h_ => h_.1))) hb); replace HO_1013001 := am (Kd.R_below (by (with_reducible repeat (first | apply Kd.R_alloc | apply Kd.R_drewN | apply Kd.R_drew)); exact (Kd.R_mono (Kd.R_far (p := ⟨gb1073, 2, none⟩) (Kd.R_far (p := ⟨gb1073, 1, none⟩) (Kd.R_far (p := ⟨gb1073, 0, none⟩) (Kd.R_types HO_1013001.out BK1073.out (by decide)) (fun _ hk => hk.2) (.int .i64 t1062)) (fun _ hk => hk.2) (.slice Ao120 t1063.length co120)) (fun _ hk => hk.2) (.slice Ao121 t1066.length co121)) (fun _ h_ => h_.1))) hb); replace HO_1013002 := am (Kd.R_below (by (with_reducible repeat (first | apply Kd.R_alloc | apply Kd.R_drewN | apply Kd.R_drew)); exact (Kd.R_mono (Kd.R_far (p := ⟨gb1073, 2, none⟩) (Kd.R_far (p := ⟨gb1073, 1, none⟩) (Kd.R_far (p := ⟨gb1073, 0, none⟩) (Kd.R_types HO_1013002.out BK1073.out (by decide)) (fun _ hk => hk.2) (.int .i64 t1062)) (fun _ hk => hk.2) (.slice Ao120 t1063.length co120)) (fun _ hk => hk.2) (.slice Ao121 t1066.length co121)) (fun _ h_ => h_.1))) hb); replace HO_1021001 := am (Kd.R_below (by (with_reducible repeat (first | apply Kd.R_alloc | apply Kd.R_drewN | apply Kd.R_drew)); exact (Kd.R_mono (Kd.R_far (p := ⟨gb1073, 2, none⟩) (Kd.R_far (p := ⟨gb1073, 1, none⟩) (Kd.R_far (p := ⟨gb1073, 0, none⟩) (Kd.R_types HO_1021001.out BK1073.out (by decide)) (fun _ hk => hk.2) (.int .i64 t1062)) (fun _ hk => hk.2) (.slice Ao120 t1063.length co120)) (fun _ hk => hk.2) (.slice Ao121 t1066.length co121)) (fun _ h_ => h_.1))) hb); replace HO_1021002 := am (Kd.R_below (by (with_reducible repeat (first | apply Kd.R_alloc | apply Kd.R_drewN | apply Kd.R_drew)); exact (Kd.R_mono (Kd.R_far (p := ⟨gb1073, 2, none⟩) (Kd.R_far (p := ⟨gb1073, 1, none⟩) (Kd.R_far (p := ⟨gb1073, 0, none⟩) (Kd.R_types HO_1021002.out BK1073.out (by decide)) (fun _ hk => hk.2) (.int .i64 t1062)) (fun _ hk => hk.2) (.slice Ao120 t1063.length co120)) (fun _ hk => hk.2) (.slice Ao121 t1066.length co121)) (fun _ h_ => h_.1))) hb); replace HO_1033001 := am (Kd.R_below (by (with_reducible repeat (first | apply Kd.R_alloc | apply Kd.R_drewN | apply Kd.R_drew)); exact (Kd.R_mono (Kd.R_far (p := ⟨gb1073, 2, none⟩) (Kd.R_far (p := ⟨gb1073, 1, none⟩) (Kd.R_far (p := ⟨gb1073, 0, none⟩) (Kd.R_types HO_1033001.out BK1073.out (by decide)) (fun _ hk => hk.2) (.int .i64 t1062)) (fun _ hk => hk.2) (.slice Ao120 t1063.length co120)) (fun _ hk => hk.2) (.slice Ao121 t1066.length co121)) (fun _ h_ => h_.1))) hb); replace HO_1033002 := am (Kd.R_below (by (with_reducible repeat (first | apply Kd.R_alloc | apply Kd.R_drewN | apply Kd.R_drew)); exact (Kd.R_mono (Kd.R_far (p := ⟨gb1073, 2, none⟩) (Kd.R_far (p := ⟨gb1073, 1, none⟩) (Kd.R_far (p := ⟨gb1073, 0, none⟩) (Kd.R_types HO_1033002.out BK1073.out (by decide)) (fun _ hk => hk.2) (.int .i64 t1062)) (fun _ hk => hk.2) (.slice Ao120 t1063.length co120)) (fun _ hk => hk.2) (.slice Ao121 t1066.length co121)) (fun _ h_ => h_.1))) hb); replace HO1058 := am (Kd.R_below (by (with_reducible repeat (first | apply Kd.R_alloc | apply Kd.R_drewN | apply Kd.R_drew)); exact (Kd.R_mono (Kd.R_far (p := ⟨gb1073, 2, none⟩) (Kd.R_far (p := ⟨gb1073, 1, none⟩) (Kd.R_far (p := ⟨gb1073, 0, none⟩) (Kd.R_types HO1058.out BK1073.out (by decide)) (fun _ hk => hk.2) (.int .i64 t1062)) (fun _ hk => hk.2) (.slice Ao120 t1063.length co120)) (fun _ hk => hk.2) (.slice Ao121 t1066.length co121)) (fun _ h_ => h_.1))) hb); replace HO1061 := am (Kd.R_below (by (with_reducible repeat (first | apply Kd.R_alloc | apply Kd.R_drewN | apply Kd.R_drew)); exact (Kd.R_mono (Kd.R_far (p := ⟨gb1073, 2, none⟩) (Kd.R_far (p := ⟨gb1073, 1, none⟩) (Kd.R_far (p := ⟨gb1073, 0, none⟩) (Kd.R_types HO1061.out BK1073.out (by decide)) (fun _ hk => hk.2) (.int .i64 t1062)) (fun _ hk => hk.2) (.slice Ao120 t1063.length co120)) (fun _ hk => hk.2) (.slice Ao121 t1066.length co121)) (fun _ h_ => h_.1))) hb); replace HO1065 := am (Kd.R_below (by (with_reducible repeat (first | apply Kd.R_alloc | apply Kd.R_drewN | apply Kd.R_drew)); exact (Kd.R_mono (Kd.R_far (p := ⟨gb1073, 2, none⟩) (Kd.R_far (p := ⟨gb1073, 1, none⟩) (Kd.R_far (p := ⟨gb1073, 0, none⟩) (Kd.R_types HO1065.out BK1073.out (by decide)) (fun _ hk => hk.2) (.int .i64 t1062)) (fun _ hk => hk.2) (.slice Ao120 t1063.length co120)) (fun _ hk => hk.2) (.slice Ao121 t1066.length co121)) (fun _ h_ => h_.1))) hb); replace HO1068 := am (Kd.R_below (by (with_reducible repeat (first | apply Kd.R_alloc | apply Kd.R_drewN | apply Kd.R_drew)); exact (Kd.R_mono (Kd.R_far (p := ⟨gb1073, 2, none⟩) (Kd.R_far (p := ⟨gb1073, 1, none⟩) (Kd.R_far (p := ⟨gb1073, 0, none⟩) (Kd.R_types HO1068.out BK1073.out (by decide)) (fun _ hk => hk.2) (.int .i64 t1062)) (fun _ hk => hk.2) (.slice Ao120 t1063.length co120)) (fun _ hk => hk.2) (.slice Ao121 t1066.length co121)) (fun _ h_ => h_.1))) hb); replace HO1071 := am (Kd.R_below (by (with_reducible repeat (first | apply Kd.R_alloc | apply Kd.R_drewN | apply Kd.R_drew)); exact (Kd.R_mono (Kd.R_far (p := ⟨gb1073, 2, none⟩) (Kd.R_far (p := ⟨gb1073, 1, none⟩) (Kd.R_far (p := ⟨gb1073, 0, none⟩) (Kd.R_types HO1071.out BK1073.out (by decide)) (fun _ hk => hk.2) (.int .i64 t1062)) (fun _ hk => hk.2) (.slice Ao120 t1063.length co120)) (fun _ hk => hk.2) (.slice Ao121 t1066.length co121)) (fun _ h_ => h_.1))) hb); replace BK992 := am (blk_below (g := gb992) (o := .cells #[.int .i64 a0_0, .slice A0_1 l0_1.length c0_1, .slice A0_2 l0_2.length c0_2] 43 (0, 0)) (by (with_reducible repeat (first | refine blk_drewN ?_ _ | refine blk_drew ?_ | refine blk_alloc ?_ _)); refine blk_far ?_ NB992_1073.out _; (with_reducible repeat (first | refine blk_drewN ?_ _ | refine blk_drew ?_ | refine blk_alloc ?_ _)); refine blk_far ?_ NB992_1073.out _; (with_reducible repeat (first | refine blk_drewN ?_ _ | refine blk_drew ?_ | refine blk_alloc ?_ _)); refine blk_far ?_ NB992_1073.out _; exact pkK BK992.out) hb); replace BK1012 := am (blk_below (g := gb1012) (o := .cells #[.int .i64 t1001, .slice Ao24 t1002.length co24, .slice Ao25 t1005.length co25] 46 (0, 0)) (by (with_reducible repeat (first | refine blk_drewN ?_ _ | refine blk_drew ?_ | refine blk_alloc ?_ _)); refine blk_far ?_ NB1012_1073.out _; (with_reducible repeat (first | refine blk_drewN ?_ _ | refine blk_drew ?_ | refine blk_alloc ?_ _)); refine blk_far ?_ NB1012_1073.out _; (with_reducible repeat (first | refine blk_drewN ?_ _ | refine blk_drew ?_ | refine blk_alloc ?_ _)); refine blk_far ?_ NB1012_1073.out _; exact pkK BK1012.out) hb); replace BK1020 := am (blk_below (g := gb1020) (o := .cells #[.int .i64 t1013, .slice Ao32 t1044.length co32, .slice Ao33 t1045.length co33] 46 (0, 0)) (by (with_reducible repeat (first | refine blk_drewN ?_ _ | refine blk_drew ?_ | refine blk_alloc ?_ _)); refine blk_far ?_ NB1020_1073.out _; (with_reducible repeat (first | refine blk_drewN ?_ _ | refine blk_drew ?_ | refine blk_alloc ?_ _)); refine blk_far ?_ NB1020_1073.out _; (with_reducible repeat (first | refine blk_drewN ?_ _ | refine blk_drew ?_ | refine blk_alloc ?_ _)); refine blk_far ?_ NB1020_1073.out _; exact pkK BK1020.out) hb); replace BK1032 := am (blk_below (g := gb1032) (o := .cells #[.int .i64 t1021, .slice Ao40 t1022.length co40, .slice Ao41 t1025.length co41] 46 (0, 0)) (by (with_reducible repeat (first | refine blk_drewN ?_ _ | refine blk_drew ?_ | refine blk_alloc ?_ _)); refine blk_far ?_ NB1032_1073.out _; (with_reducible repeat (first | refine blk_drewN ?_ _ | refine blk_drew ?_ | refine blk_alloc ?_ _)); refine blk_far ?_ NB1032_1073.out _; (with_reducible repeat (first | refine blk_drewN ?_ _ | refine blk_drew ?_ | refine blk_alloc ?_ _)); refine blk_far ?_ NB1032_1073.out _; exact pkK BK1032.out) hb); replace BK1073 := am (blk_below (g := gb1073) (o := .cells #[.int .i64 t1062, .slice Ao120 t1063.length co120, .slice Ao121 t1066.length co121] 46 (0, 0)) (by (with_reducible repeat (first | refine blk_drewN ?_ _ | refine blk_drew ?_ | refine blk_alloc ?_ _)); refine blk_put (cs := #[.int .i64 t1062, .slice Ao120 t1063.length co120, .slice none 0 0]) ?_ 2 _ rfl; (with_reducible repeat (first | refine blk_drewN ?_ _ | refine blk_drew ?_ | refine blk_alloc ?_ _)); refine blk_put (cs := #[.int .i64 t1062, .slice none 0 0, .slice none 0 0]) ?_ 1 _ rfl; (with_reducible repeat (first | refine blk_drewN ?_ _ | refine blk_drew ?_ | refine blk_alloc ?_ _)); refine blk_put (cs := #[.int .i64 0, .slice none 0 0, .slice none 0 0]) ?_ 0 _ rfl; exact pkK BK1073.out) hb); replace HB := am (below_step (pkW HB.out) hb); (try clear hb); obtain ⟨Ao136, co136, eo136⟩ := Kd.R_slice HO1071.out; subst eo136; obtain ⟨Ao137, co137, eo137⟩ := Kd.R_slice HO_7.out; subst eo137) | (go_at_call 44; (with_reducible refine (laws_eqIntS.calls kj60 _ _ t1069 _ _ t1008 true _ ?side1 ?side2 ?side3 ?side4 A124.out).mono ?_); (case side1 => exact pkC (Kd.R_reads' HO1071.out).2.2); (case side2 => exact (Kd.R_reads' HO1071.out).2.1); (case side3 => exact pkC (Kd.R_reads' HO_7.out).2.2); (case side4 => exact (Kd.R_reads' HO_7.out).2.1); rintro e w' ⟨rfl, ⟨nd, rfl⟩⟩))
               go_meet
               case rel => exact ⟨_, ((t1072 != t1011)), rfx, H', ⟨by have := HJ11.out; have := HJ60.out; first | omega | exact Nat.le_refl _⟩, ⟨by (try simp only [hl1021001_60]); (try simp only [hl1021002_60]); (with_reducible repeat (first | apply Kd.R_alloc | apply Kd.R_drewN | apply Kd.R_drew)); exact Kd.R_mono HO_11.out (fun _ hk => ⟨hk.1.1.1.1.1.2.1, ⟨hk.1.1.1.1.1.2.2.1, ⟨hk.1.1.1.1.1.2.2.2.1, ⟨hk.1.1.1.1.1.2.2.2.2.1, ⟨hk.1.1.1.1.1.2.2.2.2.2.1, ⟨hk.1.1.1.1.1.2.2.2.2.2.2, ⟨hk.1.1.2, hk.1.2⟩⟩⟩⟩⟩⟩⟩)⟩, ⟨by (try simp only [hl1021001_60]); (try simp only [hl1021002_60]); (with_reducible repeat (first | apply Kd.R_alloc | apply Kd.R_drewN | apply Kd.R_drew)); exact Kd.R_mono HO_1013001.out (fun _ hk => ⟨hk.1.1.1.1.1.2.1, ⟨hk.1.1.1.1.1.2.2.1, ⟨hk.1.1.1.1.1.2.2.2.1, ⟨hk.1.1.1.1.1.2.2.2.2.1, ⟨hk.1.1.1.1.1.2.2.2.2.2.1, ⟨hk.1.1.1.1.1.2.2.2.2.2.2, ⟨hk.1.1.2, hk.1.2⟩⟩⟩⟩⟩⟩⟩)⟩, ⟨by (try simp only [hl1021001_60]); (try simp only [hl1021002_60]); (with_reducible repeat (first | apply Kd.R_alloc | apply Kd.R_drewN | apply Kd.R_drew)); exact Kd.R_mono HO_1013002.out (fun _ hk => ⟨hk.1.1.1.1.1.2.1, ⟨hk.1.1.1.1.1.2.2.1, ⟨hk.1.1.1.1.1.2.2.2.1, ⟨hk.1.1.1.1.1.2.2.2.2.1, ⟨hk.1.1.1.1.1.2.2.2.2.2.1, ⟨hk.1.1.1.1.1.2.2.2.2.2.2, ⟨hk.1.1.2, hk.1.2⟩⟩⟩⟩⟩⟩⟩)⟩, ⟨by (try simp only [hl1021001_60]); (try simp only [hl1021002_60]); (with_reducible repeat (first | apply Kd.R_alloc | apply Kd.R_drewN | apply Kd.R_drew)); exact Kd.R_mono HO_1021001.out (fun _ hk => ⟨hk.1.1.1.1.1.2.1, ⟨hk.1.1.1.1.1.2.2.1, ⟨hk.1.1.1.1.1.2.2.2.1, ⟨hk.1.1.1.1.1.2.2.2.2.1, ⟨hk.1.1.1.1.1.2.2.2.2.2.1, ⟨hk.1.1.1.1.1.2.2.2.2.2.2, ⟨hk.1.1.2, hk.1.2⟩⟩⟩⟩⟩⟩⟩)⟩, ⟨by (try simp only [hl1021001_60]); (try simp only [hl1021002_60]); (with_reducible repeat (first | apply Kd.R_alloc | apply Kd.R_drewN | apply Kd.R_drew)); exact Kd.R_mono HO_1021002.out (fun _ hk => ⟨hk.1.1.1.1.1.2.1, ⟨hk.1.1.1.1.1.2.2.1, ⟨hk.1.1.1.1.1.2.2.2.1, ⟨hk.1.1.1.1.1.2.2.2.2.1, ⟨hk.1.1.1.1.1.2.2.2.2.2.1, ⟨hk.1.1.1.1.1.2.2.2.2.2.2, ⟨hk.1.1.2, hk.1.2⟩⟩⟩⟩⟩⟩⟩)⟩, ⟨by (try simp only [hl1021001_60]); (try simp only [hl1021002_60]); (with_reducible repeat (first | apply Kd.R_alloc | apply Kd.R_drewN | apply Kd.R_drew)); exact Kd.R_mono HO_1033001.out (fun _ hk => ⟨hk.1.1.1.1.1.2.1, ⟨hk.1.1.1.1.1.2.2.1, ⟨hk.1.1.1.1.1.2.2.2.1, ⟨hk.1.1.1.1.1.2.2.2.2.1, ⟨hk.1.1.1.1.1.2.2.2.2.2.1, ⟨hk.1.1.1.1.1.2.2.2.2.2.2, ⟨hk.1.1.2, hk.1.2⟩⟩⟩⟩⟩⟩⟩)⟩, ⟨by (try simp only [hl1021001_60]); (try simp only [hl1021002_60]); (with_reducible repeat (first | apply Kd.R_alloc | apply Kd.R_drewN | apply Kd.R_drew)); exact Kd.R_mono HO_1033002.out (fun _ hk => ⟨hk.1.1.1.1.1.2.1, ⟨hk.1.1.1.1.1.2.2.1, ⟨hk.1.1.1.1.1.2.2.2.1, ⟨hk.1.1.1.1.1.2.2.2.2.1, ⟨hk.1.1.1.1.1.2.2.2.2.2.1, ⟨hk.1.1.1.1.1.2.2.2.2.2.2, ⟨hk.1.1.2, hk.1.2⟩⟩⟩⟩⟩⟩⟩)⟩, ⟨by (try simp only [hl1021001_60]); (try simp only [hl1021002_60]); (with_reducible repeat (first | apply Kd.R_alloc | apply Kd.R_drewN | apply Kd.R_drew)); exact Kd.R_mono HO1065.out (fun _ hk => ⟨hk.1.1.1.1.1.1.1.1.2, ⟨hk.1.1.1.1.1.1.1.2, ⟨hk.1.1.1.1.1.1.2, ⟨hk.1.1.1.1.1.2, ⟨hk.1.1.1.1.2, ⟨hk.1.1.1.2, ⟨hk.1.1.2, hk.1.1.1.1.1.1.1.1.1.1.1⟩⟩⟩⟩⟩⟩⟩)⟩, ⟨by (try simp only [hl1021001_60]); (try simp only [hl1021002_60]); (with_reducible repeat (first | apply Kd.R_alloc | apply Kd.R_drewN | apply Kd.R_drew)); exact Kd.R_mono HO1068.out (fun _ hk => ⟨hk.1.1.1.1.1.1.1.1.2, ⟨hk.1.1.1.1.1.1.1.2, ⟨hk.1.1.1.1.1.1.2, ⟨hk.1.1.1.1.1.2, ⟨hk.1.1.1.1.2, ⟨hk.1.1.1.2, ⟨hk.1.1.2, hk.1.1.1.1.1.1.1.1.1.1.1⟩⟩⟩⟩⟩⟩⟩)⟩, ⟨by (try simp only [hl1021001_60]); (try simp only [hl1021002_60]); exact pkK BK992.out⟩, ⟨by (try simp only [hl1021001_60]); (try simp only [hl1021002_60]); exact pkK BK1012.out⟩, ⟨by (try simp only [hl1021001_60]); (try simp only [hl1021002_60]); exact pkK BK1020.out⟩, ⟨by (try simp only [hl1021001_60]); (try simp only [hl1021002_60]); exact pkK BK1032.out⟩, ⟨by (try simp only [hl1021001_60]); (try simp only [hl1021002_60]); exact pkK BK1073.out⟩, ⟨pkW HB.out⟩⟩
              ·replace c125 := Bool.eq_false_iff.mpr c125
               subst c125
               replace H : (laws_FnExactCountDown.j2 kj60 t1052 t1051 true t1021 t1049 t1050) = some r := by rw [if_neg (show ¬ (false = true) by decide)] at H; exact H
               cases kj60 with
               | zero => exact absurd H (by simp [laws_FnExactCountDown.j2])
               | succ k_ => (simp only [laws_FnExactCountDown.j2, if_pos] at H; exact absurd (Option.some.inj H) (by rw [HQ_.out]; simp))
             ·replace c123 := Bool.eq_false_iff.mpr c123
              subst c123
              replace H : (laws_FnExactCountDown.j2 kj60 t1052 t1051 true t1021 t1049 t1050) = some r := by rw [if_neg (show ¬ (false = true) by decide)] at H; exact H
              cases kj60 with
              | zero => exact absurd H (by simp [laws_FnExactCountDown.j2])
              | succ k_ => (simp only [laws_FnExactCountDown.j2, if_pos] at H; exact absurd (Option.some.inj H) (by rw [HQ_.out]; simp))
            case rest =>
             clear HC97
             try clear c1
             try clear c2
             try clear p2
             try clear c3
             try clear c4
             try clear c4b0
             try clear c5
             try clear c6
             try clear c7
             try clear c8
             try clear c9
             try clear c10
             try clear c11
             try clear c12
             try clear c13
             try clear c22
             try clear c23
             try clear c25
             try clear c27
             try clear c29
             try clear c30
             try clear c36
             try clear c37
             try clear c38
             try clear c43
             try clear c45
             try clear c46
             try clear c47
             try clear c48
             try clear c50
             try clear c51
             try clear c56
             try clear c59
             try clear c67
             try clear c68
             try clear c69
             try clear c72
             try clear c72b0
             try clear c74
             try clear c76
             try clear c77
             try clear c78
             try clear c79
             try clear c81
             try clear c82
             try clear c87
             try clear c91
             try clear c91b0
             try clear c93
             try clear c93b0
             try clear c94
             try clear c94b0
             try clear c94b1
             try clear c98
             try clear c99
             try clear c100
             try clear c107
             try clear c108
             try clear c115
             try clear c116
             try clear c117
             try clear c118
             try clear c123
             try clear c125
             try clear c126
             try clear c127
             try clear c128
             try clear c129
             try clear c131
             try clear c132
             try clear c133
             try clear hcz101_0
             try clear hcz101_1
             try clear hcz101_2
             try clear hcz105_0
             try clear hcz105_1
             try clear hcz105_2
             try clear hcz109_0
             try clear hcz109_1
             try clear hcz109_2
             try clear hcz119_0
             try clear hcz119_1
             try clear hcz119_2
             try clear hcz130_0
             try clear hcz130_1
             try clear hcz130_2
             try clear hcz134_0
             try clear hcz134_1
             try clear hcz134_2
             try clear hcz14_0
             try clear hcz14_1
             try clear hcz14_2
             try clear hcz16_0
             try clear hcz16_1
             try clear hcz16_2
             try clear hcz23_0
             try clear hcz23_1
             try clear hcz23_2
             try clear hcz26_0
             try clear hcz26_1
             try clear hcz26_2
             try clear hcz31_0
             try clear hcz31_1
             try clear hcz31_2
             try clear hcz39_0
             try clear hcz39_1
             try clear hcz39_2
             try clear hcz49_0
             try clear hcz49_1
             try clear hcz49_2
             try clear hcz52_0
             try clear hcz52_1
             try clear hcz52_2
             try clear hcz6_0
             try clear hcz6_1
             try clear hcz6_2
             try clear hcz70_0
             try clear hcz70_1
             try clear hcz70_2
             try clear hcz80_0
             try clear hcz80_1
             try clear hcz80_2
             try clear hcz83_0
             try clear hcz83_1
             try clear hcz83_2
             try clear hfz101_0
             try clear hfz101_1
             try clear hfz101_2
             try clear hfz105_0
             try clear hfz105_1
             try clear hfz105_2
             try clear hfz109_0
             try clear hfz109_1
             try clear hfz109_2
             try clear hfz119_0
             try clear hfz119_1
             try clear hfz119_2
             try clear hfz130_0
             try clear hfz130_1
             try clear hfz130_2
             try clear hfz134_0
             try clear hfz134_1
             try clear hfz134_2
             try clear hfz14_0
             try clear hfz14_1
             try clear hfz14_2
             try clear hfz16_0
             try clear hfz16_1
             try clear hfz16_2
             try clear hfz23_0
             try clear hfz23_1
             try clear hfz23_2
             try clear hfz26_0
             try clear hfz26_1
             try clear hfz26_2
             try clear hfz31_0
             try clear hfz31_1
             try clear hfz31_2
             try clear hfz39_0
             try clear hfz39_1
             try clear hfz39_2
             try clear hfz49_0
             try clear hfz49_1
             try clear hfz49_2
             try clear hfz52_0
             try clear hfz52_1
             try clear hfz52_2
             try clear hfz6_0
             try clear hfz6_1
             try clear hfz6_2
             try clear hfz70_0
             try clear hfz70_1
             try clear hfz70_2
             try clear hfz80_0
             try clear hfz80_1
             try clear hfz80_2
             try clear hfz83_0
             try clear hfz83_1
             try clear hfz83_2
             try clear p2
             obtain ⟨kq, x124_96, rfl, HA, HJ96, HO_11, HO_1013001, HO_1013002, HO_1021001, HO_1021002, HO_1033001, HO_1033002, HO_1074001, HO_1074002, BK992, BK1012, BK1020, BK1032, BK1073, HB⟩ := hcut
             have hl11_96 := (Kd.R_reads' HO_11.out).1
             rw [hl11_96] at HO_11
             (try simp only [hl11_96])
             (try simp only [hl11_96] at BK992)
             (try simp only [hl11_96] at BK1012)
             (try simp only [hl11_96] at BK1020)
             (try simp only [hl11_96] at BK1032)
             (try simp only [hl11_96] at BK1073)
             (try simp only [hl11_96] at HO_1013001)
             (try simp only [hl11_96] at HO_1013002)
             (try simp only [hl11_96] at HO_1021001)
             (try simp only [hl11_96] at HO_1021002)
             (try simp only [hl11_96] at HO_1033001)
             (try simp only [hl11_96] at HO_1033002)
             (try simp only [hl11_96] at HO_1074001)
             (try simp only [hl11_96] at HO_1074002)
             have hl1033001_96 := (Kd.R_reads' HO_1033001.out).1
             rw [hl1033001_96] at HO_1033001
             (try simp only [hl1033001_96])
             (try simp only [hl1033001_96] at BK992)
             (try simp only [hl1033001_96] at BK1012)
             (try simp only [hl1033001_96] at BK1020)
             (try simp only [hl1033001_96] at BK1032)
             (try simp only [hl1033001_96] at BK1073)
             (try simp only [hl1033001_96] at HO_11)
             (try simp only [hl1033001_96] at HO_1013001)
             (try simp only [hl1033001_96] at HO_1013002)
             (try simp only [hl1033001_96] at HO_1021001)
             (try simp only [hl1033001_96] at HO_1021002)
             (try simp only [hl1033001_96] at HO_1033002)
             (try simp only [hl1033001_96] at HO_1074001)
             (try simp only [hl1033001_96] at HO_1074002)
             have hl1033002_96 := (Kd.R_reads' HO_1033002.out).1
             rw [hl1033002_96] at HO_1033002
             (try simp only [hl1033002_96])
             (try simp only [hl1033002_96] at BK992)
             (try simp only [hl1033002_96] at BK1012)
             (try simp only [hl1033002_96] at BK1020)
             (try simp only [hl1033002_96] at BK1032)
             (try simp only [hl1033002_96] at BK1073)
             (try simp only [hl1033002_96] at HO_11)
             (try simp only [hl1033002_96] at HO_1013001)
             (try simp only [hl1033002_96] at HO_1013002)
             (try simp only [hl1033002_96] at HO_1021001)
             (try simp only [hl1033002_96] at HO_1021002)
             (try simp only [hl1033002_96] at HO_1033001)
             (try simp only [hl1033002_96] at HO_1074001)
             (try simp only [hl1033002_96] at HO_1074002)
             cases kq with
             | zero => exact absurd HA.out (by simp [laws_FnExactCountDown.j2])
             | succ kj96 =>
              have H := HA.out
              clear HA
              simp only [laws_FnExactCountDown.j2] at H
              by_cases c138 : x124_96 = true
              ·subst c138
               replace H : (some false) = some r := by rw [if_pos rfl] at H; exact H
               exact absurd (Option.some.inj H) (by rw [HQ_.out]; simp)
              ·replace c138 := Bool.eq_false_iff.mpr c138
               subst c138
               replace H : ((laws_heldLatch.f kj96 t1021 t1049 t1050 1).bind fun t1076 => (if t1076 < 0 then (some false) else ((laws_heldIntS.f kj96 t1052 t1076).bind fun t1077 => (if t1077 < 0 then (some false) else (if t1077 = t1051 then (some true) else (some false)))))) = some r := by rw [if_neg (show ¬ (false = true) by decide)] at H; exact H
               replace H := Option.bind_eq_some_iff.mp H
               obtain ⟨t1076, A1390, H⟩ := H
               replace H : (if t1076 < 0 then (some false) else ((laws_heldIntS.f kj96 t1052 t1076).bind fun t1077 => (if t1077 < 0 then (some false) else (if t1077 = t1051 then (some true) else (some false))))) = some r := H
               have A139 := am A1390
               clear A1390
               by_cases c140 : t1076 < 0
               ·rw [if_pos c140] at H
                have c140b0 : decide (t1076 < 0) = true := decide_eq_true c140
                clear c140
                exact absurd (Option.some.inj H) (by rw [HQ_.out]; simp)
               ·rw [if_neg c140] at H
                have c140b0 : decide (t1076 < 0) = false := decide_eq_false c140
                clear c140
                replace H := Option.bind_eq_some_iff.mp H
                obtain ⟨t1077, A1410, H⟩ := H
                replace H : (if t1077 < 0 then (some false) else (if t1077 = t1051 then (some true) else (some false))) = some r := H
                have A141 := am A1410
                clear A1410
                by_cases c142 : t1077 < 0
                ·rw [if_pos c142] at H
                 have c142b0 : decide (t1077 < 0) = true := decide_eq_true c142
                 clear c142
                 exact absurd (Option.some.inj H) (by rw [HQ_.out]; simp)
                ·rw [if_neg c142] at H
                 have c142b0 : decide (t1077 < 0) = false := decide_eq_false c142
                 clear c142
                 by_cases c143 : t1077 = t1051
                 ·rw [if_pos c143] at H
                  have c143b0 : (t1077 == t1051) = true := beq_iff_eq.mpr c143
                  have c143b1 : (t1077 != t1051) = false := bne_eq_false_iff_eq.mpr c143
                  clear c143
                  obtain rfl := Option.some.inj H
                  have hnb144 := NB1032_992.out
                  have hnc144 := NB992_1032.out
                  have hnb145 := NB1032_1012.out
                  have hnc145 := NB1012_1032.out
                  have hnb146 := NB1032_1020.out
                  have hnc146 := NB1020_1032.out
                  have hnb147 := NB1032_1073.out
                  have hnc147 := NB1073_1032.out
                  obtain ⟨hcz148_0, hcz148_1, hcz148_2, hfz148_0, hfz148_1, hfz148_2⟩ := bk3 BK1032.out
                  go_wp2_with (first | ((with_reducible refine gate_callee (f := 37) rfl ?_); refine goesL_ (some 127) rfl rfl Try.func37 (by kernel_rfl) rfl #[.agg #[.int .i64 t1021, .slice Ao40 t1049.length co40, .slice Ao41 t1050.length co41], .int .i64 1] rfl mpx ?_; (with_reducible refine (laws_heldLatch.calls kj96 t1021 _ _ t1049 _ _ t1050 1 t1076 _ ?side1 ?side2 ?side3 ?side4 A139.out).mono ?_); (case side1 => exact pkC (Kd.R_reads' HO_1033001.out).2.2); (case side2 => exact (Kd.R_reads' HO_1033001.out).2.1); (case side3 => exact pkC (Kd.R_reads' HO_1033002.out).2.2); (case side4 => exact (Kd.R_reads' HO_1033002.out).2.1); rintro e w149 ⟨rfl, hb⟩; refine ⟨_, rfl, ?_⟩; replace HO_11 := am (Kd.R_below (pkR HO_11.out) hb); replace HO_1013001 := am (Kd.R_below (pkR HO_1013001.out) hb); replace HO_1013002 := am (Kd.R_below (pkR HO_1013002.out) hb); replace HO_1021001 := am (Kd.R_below (pkR HO_1021001.out) hb); replace HO_1021002 := am (Kd.R_below (pkR HO_1021002.out) hb); replace HO_1033001 := am (Kd.R_below (pkR HO_1033001.out) hb); replace HO_1033002 := am (Kd.R_below (pkR HO_1033002.out) hb); replace HO_1074001 := am (Kd.R_below (pkR HO_1074001.out) hb); replace HO_1074002 := am (Kd.R_below (pkR HO_1074002.out) hb); replace BK992 := am (blk_below (pkK BK992.out) hb); replace BK1012 := am (blk_below (pkK BK1012.out) hb); replace BK1020 := am (blk_below (pkK BK1020.out) hb); replace BK1032 := am (blk_below (pkK BK1032.out) hb); replace BK1073 := am (blk_below (pkK BK1073.out) hb); replace HB := am (below_step (pkW HB.out) hb); (try clear hb)) | ((with_reducible refine gate_callee (f := 46) rfl ?_); refine goesL_ (some 132) rfl rfl Try.func46 (by kernel_rfl) rfl #[.slice Ao103 t1052.length co103, .int .i64 t1076] rfl mpx ?_; (with_reducible refine (laws_heldIntS.calls kj96 _ _ t1052 t1076 t1077 _ ?side1 ?side2 A141.out).mono ?_); (case side1 => exact pkC (Kd.R_reads' HO_11.out).2.2); (case side2 => exact (Kd.R_reads' HO_11.out).2.1); rintro e w' ⟨rfl, ⟨nd, rfl⟩⟩; refine ⟨_, rfl, ?_⟩))
                  go_ret
                  exact ⟨rfe, pkW HB.out⟩
                 ·rw [if_neg c143] at H
                  have c143b0 : (t1077 == t1051) = false := beq_eq_false_iff_ne.mpr c143
                  have c143b1 : (t1077 != t1051) = true := bne_iff_ne.mpr c143
                  exact absurd (Option.some.inj H) (by rw [HQ_.out]; simp)
           ·rw [if_neg c94] at H
            have c94b0 : (t1054 == t1051) = false := beq_eq_false_iff_ne.mpr c94
            have c94b1 : (t1054 != t1051) = true := bne_iff_ne.mpr c94
            exact absurd (Option.some.inj H) (by rw [HQ_.out]; simp)
     ·replace c59 := Bool.eq_false_iff.mpr c59
      subst c59
      replace H : (some false) = some r := by rw [if_neg (show ¬ (false = true) by decide)] at H; exact H
      exact absurd (Option.some.inj H) (by rw [HQ_.out]; simp)
end Go.Proofs.Ytffcphplnilokaa.Z
