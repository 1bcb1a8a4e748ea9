/- The Go functions laws_FnExactStopTimer as Lean functions, each with a proof that its code comes to just these answers; conditions: those of each theorem. -/
import Derived.Test.YtfgjfheiekhmlaaZx0
import Derived.Test.YtfgjfheiekhmlaaZx2
import Derived.Test.YtfgjfheiekhmlaaZx4
import Derived.Test.YtfgjfheiekhmlaaZx8
import Derived.Test.YtfgjfheiekhmlaaZx9
import Derived.Test.YtfgjfheiekhmlaaZx11
import Derived.Test.YtfgjfheiekhmlaaZx12
import Derived.Test.YtfgjfheiekhmlaaZx13
namespace Go.Proofs.Ytfgjfheiekhmlaa.Z
open Go.RowKit Go.Proofs.YtfgjfheiekhmlaaW.PrintWords Go.Proofs.YtfgjfheiekhmlaaW.PrintLast Go.Proofs.YtfgjfheiekhmlaaW.PrintMore
attribute [local go_sem] max2_int min2_int max_two min_two max_three min_three max_four min_four   -- for this text's walks alone
set_option linter.unusedVariables false
set_option linter.unusedSimpArgs false
mutual
def laws_FnExactStopTimer.j0 : Nat → Int → Int → Int → Bool → Int → List (S68) → Int → List (S46) → Int → List (S46) → Int → List (S46) → Option (Bool)
 | 0, _, _, _, _, _, _, _, _, _, _, _, _ => none
 | k + 1, x1, x7, x10, x44, x225000, x225001, x236000, x236001, x241000, x241001, x247000, x247001 => if x44 = true then (some false) else ((laws_toClock.f k x225000 x225001).bind fun bt248 => ((laws_eqClock.f k x241000 x241001 bt248.1 bt248.2).bind fun t252 => (if t252 = true then ((laws_markClock.f k x241000 x241001 1).bind fun bt253 => (if bt253.1 < 0 then (laws_FnExactStopTimer.j1 k x1 x7 true x225000 x225001 x236000 x236001 x247000 x247001) else ((laws_eqClock.f k x247000 x247001 x236000 x236001).bind fun t255 => (if t255 = true then (laws_FnExactStopTimer.j1 k x1 x7 (x10 != x7) x225000 x225001 x236000 x236001 x247000 x247001) else (laws_FnExactStopTimer.j1 k x1 x7 true x225000 x225001 x236000 x236001 x247000 x247001))))) else (some false))))
def laws_FnExactStopTimer.j1 : Nat → Int → Int → Bool → Int → List (S68) → Int → List (S46) → Int → List (S46) → Option (Bool)
 | 0, _, _, _, _, _, _, _, _, _ => none
 | k + 1, x1, x7, x65, x225000, x225001, x236000, x236001, x247000, x247001 => if x65 = true then (some false) else ((laws_markClock.f k x247000 x247001 1).bind fun bt256 => ((laws_heldClock.f k x247000 bt256.2 1).bind fun t258 => (if t258 < 0 then (some false) else (if t258 = bt256.1 then ((laws_toClock.f k x225000 x225001).bind fun bt259 => ((impl_StopTimer.f k bt259.1 bt259.2 x1).bind fun bt263 => ((laws_eqClock.f k bt263.1 bt263.2.1 x236000 x236001).bind fun t269 => (if t269 = true then (laws_FnExactStopTimer.j2 k bt256.1 (bt263.2.2 != x7) x247000 bt256.2) else (laws_FnExactStopTimer.j2 k bt256.1 true x247000 bt256.2))))) else (some false)))))
def laws_FnExactStopTimer.j2 : Nat → Int → Bool → Int → List (S46) → Option (Bool)
 | 0, _, _, _, _ => none
 | k + 1, x12, x92, x247000, x247001 => if x92 = true then (some false) else ((laws_heldClock.f k x247000 x247001 1).bind fun t270 => (if t270 < 0 then (some false) else (if t270 = x12 then (some true) else (some false))))
end
def laws_FnExactStopTimer.f (k : Nat) (a0_0 : Int) (l0_1 : List (S68)) (a1 : Int) : Option (Bool) := (laws_szClock.f a0_0 l0_1 1048576).bind fun t225 => (if t225 < 0 then (some true) else ((laws_toClock.f k a0_0 l0_1).bind fun bt226 => ((spec_StopTimer.f k bt226.1 bt226.2 a1).bind fun bt230 => ((laws_toClock.f k a0_0 l0_1).bind fun bt236 => ((impl_StopTimer.f k bt236.1 bt236.2 a1).bind fun bt241 => ((laws_eqClock.f k bt241.1 bt241.2.1 bt230.1 bt230.2.1).bind fun t247 => (if t247 = true then (laws_FnExactStopTimer.j0 k a1 bt230.2.2 bt241.2.2 (bt241.2.2 != bt230.2.2) a0_0 l0_1 bt230.1 bt230.2.1 bt236.1 bt236.2 bt241.1 bt241.2.1) else (laws_FnExactStopTimer.j0 k a1 bt230.2.2 bt241.2.2 true a0_0 l0_1 bt230.1 bt230.2.1 bt236.1 bt236.2 bt241.1 bt241.2.1))))))))
theorem laws_FnExactStopTimer.mono_l : ∀ k, (∀ y0 y1 y2 y3 y4 y5 y6 y7 y8 y9 y10 y11, LeO (laws_FnExactStopTimer.j0 k y0 y1 y2 y3 y4 y5 y6 y7 y8 y9 y10 y11) (laws_FnExactStopTimer.j0 (k + 1) y0 y1 y2 y3 y4 y5 y6 y7 y8 y9 y10 y11)) ∧ (∀ y0 y1 y2 y3 y4 y5 y6 y7 y8, LeO (laws_FnExactStopTimer.j1 k y0 y1 y2 y3 y4 y5 y6 y7 y8) (laws_FnExactStopTimer.j1 (k + 1) y0 y1 y2 y3 y4 y5 y6 y7 y8)) ∧ (∀ y0 y1 y2 y3, LeO (laws_FnExactStopTimer.j2 k y0 y1 y2 y3) (laws_FnExactStopTimer.j2 (k + 1) y0 y1 y2 y3))
 | 0 => ⟨fun _ _ _ _ _ _ _ _ _ _ _ _ r h => by simp [laws_FnExactStopTimer.j0] at h, fun _ _ _ _ _ _ _ _ _ r h => by simp [laws_FnExactStopTimer.j1] at h, fun _ _ _ _ r h => by simp [laws_FnExactStopTimer.j2] at h⟩
 | k + 1 => by
  obtain ⟨ih0, ih1, ih2⟩ := laws_FnExactStopTimer.mono_l k
  refine ⟨?_, ?_, ?_⟩
  ·intro y0 y1 y2 y3 y4 y5 y6 y7 y8 y9 y10 y11
   unfold laws_FnExactStopTimer.j0
   repeat' first
   | (with_reducible exact ih0 _ _ _ _ _ _ _ _ _ _ _ _)
   | (with_reducible exact ih1 _ _ _ _ _ _ _ _ _)
   | (with_reducible exact ih2 _ _ _ _)
   | (with_reducible exact impl_StopTimer.mono _ _ _ _)
   | (with_reducible exact laws_eqClock.mono _ _ _ _ _)
   | (with_reducible exact laws_heldClock.mono _ _ _ _)
   | (with_reducible exact laws_markClock.mono _ _ _ _)
   | (with_reducible exact laws_toClock.mono _ _ _)
   | (with_reducible exact spec_StopTimer.mono _ _ _ _)
   | (with_reducible exact LeO.refl _)
   | (with_reducible exact LeO.none _)
   | (with_reducible refine LeO.ite ?_ ?_)
   | (with_reducible refine LeO.bind ?_ (fun _ => ?_))
  ·intro y0 y1 y2 y3 y4 y5 y6 y7 y8
   unfold laws_FnExactStopTimer.j1
   repeat' first
   | (with_reducible exact ih0 _ _ _ _ _ _ _ _ _ _ _ _)
   | (with_reducible exact ih1 _ _ _ _ _ _ _ _ _)
   | (with_reducible exact ih2 _ _ _ _)
   | (with_reducible exact impl_StopTimer.mono _ _ _ _)
   | (with_reducible exact laws_eqClock.mono _ _ _ _ _)
   | (with_reducible exact laws_heldClock.mono _ _ _ _)
   | (with_reducible exact laws_markClock.mono _ _ _ _)
   | (with_reducible exact laws_toClock.mono _ _ _)
   | (with_reducible exact spec_StopTimer.mono _ _ _ _)
   | (with_reducible exact LeO.refl _)
   | (with_reducible exact LeO.none _)
   | (with_reducible refine LeO.ite ?_ ?_)
   | (with_reducible refine LeO.bind ?_ (fun _ => ?_))
  ·intro y0 y1 y2 y3
   unfold laws_FnExactStopTimer.j2
   repeat' first
   | (with_reducible exact ih0 _ _ _ _ _ _ _ _ _ _ _ _)
   | (with_reducible exact ih1 _ _ _ _ _ _ _ _ _)
   | (with_reducible exact ih2 _ _ _ _)
   | (with_reducible exact impl_StopTimer.mono _ _ _ _)
   | (with_reducible exact laws_eqClock.mono _ _ _ _ _)
   | (with_reducible exact laws_heldClock.mono _ _ _ _)
   | (with_reducible exact laws_markClock.mono _ _ _ _)
   | (with_reducible exact laws_toClock.mono _ _ _)
   | (with_reducible exact spec_StopTimer.mono _ _ _ _)
   | (with_reducible exact LeO.refl _)
   | (with_reducible exact LeO.none _)
   | (with_reducible refine LeO.ite ?_ ?_)
   | (with_reducible refine LeO.bind ?_ (fun _ => ?_))
theorem laws_FnExactStopTimer.mono : ∀ a0 a1 a2 k, LeO (laws_FnExactStopTimer.f k a0 a1 a2) (laws_FnExactStopTimer.f (k + 1) a0 a1 a2) := by
 intro a0 a1 a2 k
 obtain ⟨ih0, ih1, ih2⟩ := laws_FnExactStopTimer.mono_l k
 unfold laws_FnExactStopTimer.f
 repeat' first
   | (with_reducible exact ih0 _ _ _ _ _ _ _ _ _ _ _ _)
   | (with_reducible exact ih1 _ _ _ _ _ _ _ _ _)
   | (with_reducible exact ih2 _ _ _ _)
   | (with_reducible exact impl_StopTimer.mono _ _ _ _)
   | (with_reducible exact laws_eqClock.mono _ _ _ _ _)
   | (with_reducible exact laws_heldClock.mono _ _ _ _)
   | (with_reducible exact laws_markClock.mono _ _ _ _)
   | (with_reducible exact laws_toClock.mono _ _ _)
   | (with_reducible exact spec_StopTimer.mono _ _ _ _)
   | (with_reducible exact LeO.refl _)
   | (with_reducible exact LeO.none _)
   | (with_reducible refine LeO.ite ?_ ?_)
   | (with_reducible refine LeO.bind ?_ (fun _ => ?_))
set_option maxHeartbeats 8000000 in
set_option maxRecDepth 100000 in
theorem laws_FnExactStopTimer.calls (k : Nat) (a0_0 : Int) (A0_1 : Option Addr) (c0_1 : Nat) (l0_1 : List (S68)) (a1 : Int) (r : Bool) (w : World) (hr0_1 : Kd.C k68 w A0_1 l0_1.length l0_1) (hc0_1 : l0_1.length ≤ c0_1) (HQ_ : Aside0 (r = true)) (h : laws_FnExactStopTimer.f k a0_0 l0_1 a1 = some r) :
  Calls Try.prog 4 #[.agg #[.int .i64 a0_0, .slice A0_1 l0_1.length c0_1], .int .i64 a1] w fun e w' => e = .returned (.bool r) ∧ Below w.heap.size w w' := by
 have hu24 := Try.underlying24
 have hu29 := Try.underlying29
 have HR0_1 := am hr0_1
 have HC0_1 := am hc0_1
 clear hr0_1 hc0_1
 have HB := am (Below.refl w.heap.size w)
 have H : ((laws_szClock.f a0_0 l0_1 1048576).bind fun t225 => (if t225 < 0 then (some true) else ((laws_toClock.f k a0_0 l0_1).bind fun bt226 => ((spec_StopTimer.f k bt226.1 bt226.2 a1).bind fun bt230 => ((laws_toClock.f k a0_0 l0_1).bind fun bt236 => ((impl_StopTimer.f k bt236.1 bt236.2 a1).bind fun bt241 => ((laws_eqClock.f k bt241.1 bt241.2.1 bt230.1 bt230.2.1).bind fun t247 => (if t247 = true then (laws_FnExactStopTimer.j0 k a1 bt230.2.2 bt241.2.2 (bt241.2.2 != bt230.2.2) a0_0 l0_1 bt230.1 bt230.2.1 bt236.1 bt236.2 bt241.1 bt241.2.1) else (laws_FnExactStopTimer.j0 k a1 bt230.2.2 bt241.2.2 true a0_0 l0_1 bt230.1 bt230.2.1 bt236.1 bt236.2 bt241.1 bt241.2.1))))))))) = some r := h
 clear h
 replace H := Option.bind_eq_some_iff.mp H
 obtain ⟨t225, A30, H⟩ := H
 replace H : (if t225 < 0 then (some true) else ((laws_toClock.f k a0_0 l0_1).bind fun bt226 => ((spec_StopTimer.f k bt226.1 bt226.2 a1).bind fun bt230 => ((laws_toClock.f k a0_0 l0_1).bind fun bt236 => ((impl_StopTimer.f k bt236.1 bt236.2 a1).bind fun bt241 => ((laws_eqClock.f k bt241.1 bt241.2.1 bt230.1 bt230.2.1).bind fun t247 => (if t247 = true then (laws_FnExactStopTimer.j0 k a1 bt230.2.2 bt241.2.2 (bt241.2.2 != bt230.2.2) a0_0 l0_1 bt230.1 bt230.2.1 bt236.1 bt236.2 bt241.1 bt241.2.1) else (laws_FnExactStopTimer.j0 k a1 bt230.2.2 bt241.2.2 true a0_0 l0_1 bt230.1 bt230.2.1 bt236.1 bt236.2 bt241.1 bt241.2.1)))))))) = some r := H
 have A3 := am A30
 clear A30
 by_cases c4 : t225 < 0
 ·rw [if_pos c4] at H
  have c4b0 : decide (t225 < 0) = true := decide_eq_true c4
  clear c4
  obtain rfl := Option.some.inj H
  go_enter Try.func4, Try.ntmps4
  go_wp2_with (first | ((with_reducible refine gate_dst (N := 2) rfl ?_); refine box_event ?hg (N := 2) ?hd (cs := #[.int .i64 a0_0, .slice A0_1 l0_1.length c0_1]) (t := 24) ?hr ?_; (case hd => rfl); (case hg => rfl); (case hr => first | (go_simp; done) | (go_simp; rfl)); intro gb224 hg w5 hbox hb; have BK224 := am (hbox); have GW224 := am ((by rw [hg]; exact (below_size (pkB HB.out)) : w.heap.size ≤ gb224)); have GE224 := am ((by rw [hg]; exact (below_size (pkB HB.out)) : w.heap.size ≤ gb224)); replace HB := am (below_step (pkB HB.out) hb); clear hb hbox hg; obtain ⟨hcz6_0, hcz6_1, hfz6_0, hfz6_1⟩ := bk2 BK224.out) | ((with_reducible refine gate_callee (f := 9) rfl ?_); refine goesL_ (some 18) rfl rfl Try.func9 (by kernel_rfl) rfl #[.agg #[.int .i64 a0_0, .slice A0_1 l0_1.length c0_1], .int .i64 1048576] rfl mpx ?_; (with_reducible refine (laws_szClock.calls a0_0 _ _ l0_1 1048576 t225 _ ?side1 ?side2 A3.out).mono ?_); (case side1 => exact pkC (Kd.C_below HR0_1.out HB.out)); (case side2 => exact HC0_1.out); rintro e w7 ⟨rfl, hb⟩; refine ⟨_, rfl, ?_⟩; replace BK224 := am (blk_below (pkK BK224.out) hb); replace HB := am (below_step (pkW HB.out) hb); (try clear hb)))
  go_ret
  exact ⟨rfe, pkW HB.out⟩
 ·rw [if_neg c4] at H
  have c4b0 : decide (t225 < 0) = false := decide_eq_false c4
  clear c4
  replace H := Option.bind_eq_some_iff.mp H
  obtain ⟨⟨t226, t227⟩, A80, H⟩ := H
  replace H : ((spec_StopTimer.f k t226 t227 a1).bind fun bt230 => ((laws_toClock.f k a0_0 l0_1).bind fun bt236 => ((impl_StopTimer.f k bt236.1 bt236.2 a1).bind fun bt241 => ((laws_eqClock.f k bt241.1 bt241.2.1 bt230.1 bt230.2.1).bind fun t247 => (if t247 = true then (laws_FnExactStopTimer.j0 k a1 bt230.2.2 bt241.2.2 (bt241.2.2 != bt230.2.2) a0_0 l0_1 bt230.1 bt230.2.1 bt236.1 bt236.2 bt241.1 bt241.2.1) else (laws_FnExactStopTimer.j0 k a1 bt230.2.2 bt241.2.2 true a0_0 l0_1 bt230.1 bt230.2.1 bt236.1 bt236.2 bt241.1 bt241.2.1)))))) = some r := H
  have A8 := am A80
  clear A80
  replace H := Option.bind_eq_some_iff.mp H
  obtain ⟨⟨t230, t231, t234⟩, A90, H⟩ := H
  replace H : ((laws_toClock.f k a0_0 l0_1).bind fun bt236 => ((impl_StopTimer.f k bt236.1 bt236.2 a1).bind fun bt241 => ((laws_eqClock.f k bt241.1 bt241.2.1 t230 t231).bind fun t247 => (if t247 = true then (laws_FnExactStopTimer.j0 k a1 t234 bt241.2.2 (bt241.2.2 != t234) a0_0 l0_1 t230 t231 bt236.1 bt236.2 bt241.1 bt241.2.1) else (laws_FnExactStopTimer.j0 k a1 t234 bt241.2.2 true a0_0 l0_1 t230 t231 bt236.1 bt236.2 bt241.1 bt241.2.1))))) = some r := H
  have A9 := am A90
  clear A90
  replace H := Option.bind_eq_some_iff.mp H
  obtain ⟨⟨t236, t237⟩, A100, H⟩ := H
  replace H : ((impl_StopTimer.f k t236 t237 a1).bind fun bt241 => ((laws_eqClock.f k bt241.1 bt241.2.1 t230 t231).bind fun t247 => (if t247 = true then (laws_FnExactStopTimer.j0 k a1 t234 bt241.2.2 (bt241.2.2 != t234) a0_0 l0_1 t230 t231 t236 t237 bt241.1 bt241.2.1) else (laws_FnExactStopTimer.j0 k a1 t234 bt241.2.2 true a0_0 l0_1 t230 t231 t236 t237 bt241.1 bt241.2.1)))) = some r := H
  have A10 := am A100
  clear A100
  replace H := Option.bind_eq_some_iff.mp H
  obtain ⟨⟨t241, t242, t245⟩, A110, H⟩ := H
  replace H : ((laws_eqClock.f k t241 t242 t230 t231).bind fun t247 => (if t247 = true then (laws_FnExactStopTimer.j0 k a1 t234 t245 (t245 != t234) a0_0 l0_1 t230 t231 t236 t237 t241 t242) else (laws_FnExactStopTimer.j0 k a1 t234 t245 true a0_0 l0_1 t230 t231 t236 t237 t241 t242))) = some r := H
  have A11 := am A110
  clear A110
  have HC12 := am H
  clear H
  go_enter Try.func4, Try.ntmps4
  go_upto_region 8 with (first | ((with_reducible refine gate_dst (N := 2) rfl ?_); refine box_event ?hg (N := 2) ?hd (cs := #[.int .i64 a0_0, .slice A0_1 l0_1.length c0_1]) (t := 24) ?hr ?_; (case hd => rfl); (case hg => rfl); (case hr => first | (go_simp; done) | (go_simp; rfl)); intro gb224 hg w13 hbox hb; have BK224 := am (hbox); have GW224 := am ((by rw [hg]; exact (below_size (pkB HB.out)) : w.heap.size ≤ gb224)); have GE224 := am ((by rw [hg]; exact (below_size (pkB HB.out)) : w.heap.size ≤ gb224)); replace HB := am (below_step (pkB HB.out) hb); clear hb hbox hg; obtain ⟨hcz14_0, hcz14_1, hfz14_0, hfz14_1⟩ := bk2 BK224.out) | ((with_reducible refine gate_callee (f := 9) rfl ?_); refine goesL_ (some 18) rfl rfl Try.func9 (by kernel_rfl) rfl #[.agg #[.int .i64 a0_0, .slice A0_1 l0_1.length c0_1], .int .i64 1048576] rfl mpx ?_; (with_reducible refine (laws_szClock.calls a0_0 _ _ l0_1 1048576 t225 _ ?side1 ?side2 A3.out).mono ?_); (case side1 => exact pkC (Kd.C_below HR0_1.out HB.out)); (case side2 => exact HC0_1.out); rintro e w15 ⟨rfl, hb⟩; refine ⟨_, rfl, ?_⟩; replace BK224 := am (blk_below (pkK BK224.out) hb); replace HB := am (below_step (pkW HB.out) hb); (try clear hb); obtain ⟨hcz16_0, hcz16_1, hfz16_0, hfz16_1⟩ := bk2 BK224.out) | ((with_reducible refine gate_callee (f := 11) rfl ?_); refine goesL_ (some 23) rfl rfl Try.func11 (by kernel_rfl) rfl #[.agg #[.int .i64 a0_0, .slice A0_1 l0_1.length c0_1]] rfl mpx ?_; (with_reducible refine (laws_toClock.calls k a0_0 _ _ l0_1 t226 t227 _ ?side1 ?side2 A8.out).mono ?_); (case side1 => exact pkC (Kd.C_below HR0_1.out HB.out)); (case side2 => exact HC0_1.out); rintro e w17 ⟨v228, rfl, ho0, hb⟩; refine ⟨_, rfl, ?_⟩; have HO229 := am (Kd.R_lower ho0 (below_size (pkW HB.out))); replace BK224 := am (blk_below (pkK BK224.out) hb); replace HB := am (below_step (pkW HB.out) hb); (try clear hb ho0); obtain ⟨Ao18, co18, eo18⟩ := Kd.R_slice HO229.out; subst eo18) | ((with_reducible refine gate_callee (f := 14) rfl ?_); refine goesL_ (some 25) rfl rfl Try.func14 (by kernel_rfl) rfl #[.agg #[.int .i64 t226, .slice Ao18 t227.length co18], .int .i64 a1] rfl mpx ?_; (with_reducible refine (spec_StopTimer.calls k t226 _ _ t227 a1 t230 t231 t234 _ ?side1 ?side2 A9.out).mono ?_); (case side1 => exact pkC (Kd.R_reads' HO229.out).2.2); (case side2 => exact (Kd.R_reads' HO229.out).2.1); rintro e w19 ⟨v232, rfl, ho0, hb⟩; refine ⟨_, rfl, ?_⟩; have HO233 := am (Kd.R_lower (Kd.R_new' ho0 (Kd.R_lt (pkR HO229.out))) (below_size (pkW HB.out))); replace HO229 := am (Kd.R_elder' (pkR HO229.out) (Kd.R_base ho0) hb); replace BK224 := am (blk_below (pkK BK224.out) hb); replace HB := am (below_step (pkW HB.out) hb); (try clear hb ho0)) | ((with_reducible refine gate_dst (N := 6) rfl ?_); refine box_event ?hg (N := 6) ?hd (cs := #[.int .i64 0, .slice none 0 0]) (t := 29) ?hr ?_; (case hd => rfl); (case hg => rfl); (case hr => first | (go_simp; done) | (go_simp; rfl)); intro gb235 hg w20 hbox hb; replace HO229 := am (Kd.R_below (pkR HO229.out) hb); replace HO233 := am (Kd.R_below (pkR HO233.out) hb); have BK235 := am (hbox); have GW235 := am ((by rw [hg]; exact (below_size (pkW HB.out)) : w.heap.size ≤ gb235)); have GE235 := am ((by rw [hg]; exact (below_size (pkW HB.out)) : w.heap.size ≤ gb235)); replace HB := am (below_step (pkW HB.out) hb); have NB224_235 := am ((by rw [hg]; exact Nat.ne_of_lt (blk_lt (g := gb224) (o := .cells #[.int .i64 a0_0, .slice A0_1 l0_1.length c0_1] 24 (0, 0)) (pkK BK224.out)) : gb224 ≠ gb235)); have NB235_224 := am ((by rw [hg]; exact Nat.ne_of_gt (blk_lt (g := gb224) (o := .cells #[.int .i64 a0_0, .slice A0_1 l0_1.length c0_1] 24 (0, 0)) (pkK BK224.out)) : gb235 ≠ gb224)); replace BK224 := am (blk_below (pkK BK224.out) hb); clear hb hbox hg; have hnb21 := NB235_224.out; have hnc21 := NB224_235.out; obtain ⟨hcz22_0, hcz22_1, hfz22_0, hfz22_1⟩ := bk2 BK235.out; obtain ⟨Ao23, co23, eo23⟩ := Kd.R_slice HO233.out; subst eo23; obtain ⟨hcz24_0, hcz24_1, hfz24_0, hfz24_1⟩ := bk2 BK224.out) | ((with_reducible refine gate_callee (f := 11) rfl ?_); refine goesL_ (some 29) rfl rfl Try.func11 (by kernel_rfl) rfl #[.agg #[.int .i64 a0_0, .slice A0_1 l0_1.length c0_1]] rfl mpx ?_; (with_reducible refine (laws_toClock.calls k a0_0 _ _ l0_1 t236 t237 _ ?side1 ?side2 A10.out).mono ?_); (case side1 => exact Kd.C_below HR0_1.out (pkW HB.out)); (case side2 => exact HC0_1.out); rintro e w25 ⟨v238, rfl, ho0, hb⟩; refine ⟨_, rfl, ?_⟩; have HO239 := am (Kd.R_lower (Kd.R_new' (Kd.R_new' ho0 (Kd.R_lt (by (with_reducible repeat (first | apply Kd.R_alloc | apply Kd.R_drewN | apply Kd.R_drew)); exact (Kd.R_mono (Kd.R_far (p := ⟨gb235, 1, none⟩) (Kd.R_far (p := ⟨gb235, 0, none⟩) (Kd.R_types HO229.out BK235.out (by decide)) (fun _ hk => hk.2) (.int .i64 t230)) (fun _ hk => hk.2) (.slice Ao23 t231.length co23)) (fun _ h_ => h_.1))))) (Kd.R_lt (by (with_reducible repeat (first | apply Kd.R_alloc | apply Kd.R_drewN | apply Kd.R_drew)); exact (Kd.R_mono (Kd.R_far (p := ⟨gb235, 1, none⟩) (Kd.R_far (p := ⟨gb235, 0, none⟩) (Kd.R_types HO233.out BK235.out (by decide)) (fun _ hk => hk.2) (.int .i64 t230)) (fun _ hk => hk.2) (.slice Ao23 t231.length co23)) (fun _ h_ => h_.1))))) (below_size (pkW HB.out))); replace HO229 := am (Kd.R_elder' (by (with_reducible repeat (first | apply Kd.R_alloc | apply Kd.R_drewN | apply Kd.R_drew)); exact (Kd.R_mono (Kd.R_far (p := ⟨gb235, 1, none⟩) (Kd.R_far (p := ⟨gb235, 0, none⟩) (Kd.R_types HO229.out BK235.out (by decide)) (fun _ hk => hk.2) (.int .i64 t230)) (fun _ hk => hk.2) (.slice Ao23 t231.length co23)) (fun _ h_ => h_.1))) (Kd.R_base ho0) hb); replace HO233 := am (Kd.R_elder' (by (with_reducible repeat (first | apply Kd.R_alloc | apply Kd.R_drewN | apply Kd.R_drew)); exact (Kd.R_mono (Kd.R_far (p := ⟨gb235, 1, none⟩) (Kd.R_far (p := ⟨gb235, 0, none⟩) (Kd.R_types HO233.out BK235.out (by decide)) (fun _ hk => hk.2) (.int .i64 t230)) (fun _ hk => hk.2) (.slice Ao23 t231.length co23)) (fun _ h_ => h_.1))) (Kd.R_base ho0) hb); replace BK224 := am (blk_below (g := gb224) (o := .cells #[.int .i64 a0_0, .slice A0_1 l0_1.length c0_1] 24 (0, 0)) (by (with_reducible repeat (first | refine blk_drewN ?_ _ | refine blk_drew ?_ | refine blk_alloc ?_ _)); refine blk_far ?_ NB224_235.out _; (with_reducible repeat (first | refine blk_drewN ?_ _ | refine blk_drew ?_ | refine blk_alloc ?_ _)); refine blk_far ?_ NB224_235.out _; exact pkK BK224.out) hb); replace BK235 := am (blk_below (g := gb235) (o := .cells #[.int .i64 t230, .slice Ao23 t231.length co23] 29 (0, 0)) (by (with_reducible repeat (first | refine blk_drewN ?_ _ | refine blk_drew ?_ | refine blk_alloc ?_ _)); refine blk_put (cs := #[.int .i64 t230, .slice none 0 0]) ?_ 1 _ rfl; (with_reducible repeat (first | refine blk_drewN ?_ _ | refine blk_drew ?_ | refine blk_alloc ?_ _)); refine blk_put (cs := #[.int .i64 0, .slice none 0 0]) ?_ 0 _ rfl; exact pkK BK235.out) hb); replace HB := am (below_step (pkW HB.out) hb); (try clear hb ho0)) | ((with_reducible refine gate_dst (N := 8) rfl ?_); refine box_event ?hg (N := 8) ?hd (cs := #[.int .i64 0, .slice none 0 0]) (t := 29) ?hr ?_; (case hd => rfl); (case hg => rfl); (case hr => first | (go_simp; done) | (go_simp; rfl)); intro gb240 hg w26 hbox hb; replace HO229 := am (Kd.R_below (pkR HO229.out) hb); replace HO233 := am (Kd.R_below (pkR HO233.out) hb); replace HO239 := am (Kd.R_below (pkR HO239.out) hb); have BK240 := am (hbox); have GW240 := am ((by rw [hg]; exact (below_size (pkW HB.out)) : w.heap.size ≤ gb240)); have GE240 := am ((by rw [hg]; exact (below_size (pkW HB.out)) : w.heap.size ≤ gb240)); replace HB := am (below_step (pkW HB.out) hb); have NB224_240 := am ((by rw [hg]; exact Nat.ne_of_lt (blk_lt (g := gb224) (o := .cells #[.int .i64 a0_0, .slice A0_1 l0_1.length c0_1] 24 (0, 0)) (pkK BK224.out)) : gb224 ≠ gb240)); have NB240_224 := am ((by rw [hg]; exact Nat.ne_of_gt (blk_lt (g := gb224) (o := .cells #[.int .i64 a0_0, .slice A0_1 l0_1.length c0_1] 24 (0, 0)) (pkK BK224.out)) : gb240 ≠ gb224)); replace BK224 := am (blk_below (pkK BK224.out) hb); have NB235_240 := am ((by rw [hg]; exact Nat.ne_of_lt (blk_lt (g := gb235) (o := .cells #[.int .i64 t230, .slice Ao23 t231.length co23] 29 (0, 0)) (pkK BK235.out)) : gb235 ≠ gb240)); have NB240_235 := am ((by rw [hg]; exact Nat.ne_of_gt (blk_lt (g := gb235) (o := .cells #[.int .i64 t230, .slice Ao23 t231.length co23] 29 (0, 0)) (pkK BK235.out)) : gb240 ≠ gb235)); replace BK235 := am (blk_below (pkK BK235.out) hb); clear hb hbox hg; have hnb27 := NB240_224.out; have hnc27 := NB224_240.out; have hnb28 := NB240_235.out; have hnc28 := NB235_240.out; obtain ⟨hcz29_0, hcz29_1, hfz29_0, hfz29_1⟩ := bk2 BK240.out; obtain ⟨Ao30, co30, eo30⟩ := Kd.R_slice HO239.out; subst eo30) | ((with_reducible refine gate_callee (f := 15) rfl ?_); refine goesL_ (some 33) rfl rfl Try.func15 (by kernel_rfl) rfl #[.agg #[.int .i64 t236, .slice Ao30 t237.length co30], .int .i64 a1] rfl mpx ?_; (with_reducible refine (impl_StopTimer.calls k t236 _ _ t237 a1 t241 t242 t245 _ ?side1 ?side2 A11.out).mono ?_); (case side1 => refine (Kd.R_reads' (e := 46) (base := w.heap.size) (ok := fun k_ => ((True ∧ some k_ ≠ (.slice Ao18 t227.length co18 : Value).ownBlock) ∧ some k_ ≠ (.slice Ao23 t231.length co23 : Value).ownBlock)) (n := t237.length) (c := co30) ?_).2.2; exact (by (with_reducible repeat (first | apply Kd.R_alloc | apply Kd.R_drewN | apply Kd.R_drew)); exact (Kd.R_mono (Kd.R_far (p := ⟨gb240, 1, none⟩) (Kd.R_far (p := ⟨gb240, 0, none⟩) (Kd.R_types HO239.out BK240.out (by decide)) (fun _ hk => hk.2) (.int .i64 t236)) (fun _ hk => hk.2) (.slice Ao30 t237.length co30)) (fun _ h_ => h_.1)))); (case side2 => exact (Kd.R_reads' HO239.out).2.1); rintro e w31 ⟨v243, rfl, ho0, hb⟩; refine ⟨_, rfl, ?_⟩; have HO244 := am (Kd.R_lower (Kd.R_new' (Kd.R_new' (Kd.R_new' ho0 (Kd.R_lt (by (with_reducible repeat (first | apply Kd.R_alloc | apply Kd.R_drewN | apply Kd.R_drew)); exact (Kd.R_mono (Kd.R_far (p := ⟨gb240, 1, none⟩) (Kd.R_far (p := ⟨gb240, 0, none⟩) (Kd.R_types HO229.out BK240.out (by decide)) (fun _ hk => hk.2) (.int .i64 t236)) (fun _ hk => hk.2) (.slice Ao30 t237.length co30)) (fun _ h_ => h_.1))))) (Kd.R_lt (by (with_reducible repeat (first | apply Kd.R_alloc | apply Kd.R_drewN | apply Kd.R_drew)); exact (Kd.R_mono (Kd.R_far (p := ⟨gb240, 1, none⟩) (Kd.R_far (p := ⟨gb240, 0, none⟩) (Kd.R_types HO233.out BK240.out (by decide)) (fun _ hk => hk.2) (.int .i64 t236)) (fun _ hk => hk.2) (.slice Ao30 t237.length co30)) (fun _ h_ => h_.1))))) (Kd.R_lt (by (with_reducible repeat (first | apply Kd.R_alloc | apply Kd.R_drewN | apply Kd.R_drew)); exact (Kd.R_mono (Kd.R_far (p := ⟨gb240, 1, none⟩) (Kd.R_far (p := ⟨gb240, 0, none⟩) (Kd.R_types HO239.out BK240.out (by decide)) (fun _ hk => hk.2) (.int .i64 t236)) (fun _ hk => hk.2) (.slice Ao30 t237.length co30)) (fun _ h_ => h_.1))))) (below_size (pkW HB.out))); replace HO229 := am (Kd.R_elder' (by (with_reducible repeat (first | apply Kd.R_alloc | apply Kd.R_drewN | apply Kd.R_drew)); exact (Kd.R_mono (Kd.R_far (p := ⟨gb240, 1, none⟩) (Kd.R_far (p := ⟨gb240, 0, none⟩) (Kd.R_types HO229.out BK240.out (by decide)) (fun _ hk => hk.2) (.int .i64 t236)) (fun _ hk => hk.2) (.slice Ao30 t237.length co30)) (fun _ h_ => h_.1))) (Kd.R_base ho0) hb); replace HO233 := am (Kd.R_elder' (by (with_reducible repeat (first | apply Kd.R_alloc | apply Kd.R_drewN | apply Kd.R_drew)); exact (Kd.R_mono (Kd.R_far (p := ⟨gb240, 1, none⟩) (Kd.R_far (p := ⟨gb240, 0, none⟩) (Kd.R_types HO233.out BK240.out (by decide)) (fun _ hk => hk.2) (.int .i64 t236)) (fun _ hk => hk.2) (.slice Ao30 t237.length co30)) (fun _ h_ => h_.1))) (Kd.R_base ho0) hb); replace HO239 := am (Kd.R_elder' (by (with_reducible repeat (first | apply Kd.R_alloc | apply Kd.R_drewN | apply Kd.R_drew)); exact (Kd.R_mono (Kd.R_far (p := ⟨gb240, 1, none⟩) (Kd.R_far (p := ⟨gb240, 0, none⟩) (Kd.R_types HO239.out BK240.out (by decide)) (fun _ hk => hk.2) (.int .i64 t236)) (fun _ hk => hk.2) (.slice Ao30 t237.length co30)) (fun _ h_ => h_.1))) (Kd.R_base ho0) hb); replace BK224 := am (blk_below (g := gb224) (o := .cells #[.int .i64 a0_0, .slice A0_1 l0_1.length c0_1] 24 (0, 0)) (by (with_reducible repeat (first | refine blk_drewN ?_ _ | refine blk_drew ?_ | refine blk_alloc ?_ _)); refine blk_far ?_ NB224_240.out _; (with_reducible repeat (first | refine blk_drewN ?_ _ | refine blk_drew ?_ | refine blk_alloc ?_ _)); refine blk_far ?_ NB224_240.out _; exact pkK BK224.out) hb); replace BK235 := am (blk_below (g := gb235) (o := .cells #[.int .i64 t230, .slice Ao23 t231.length co23] 29 (0, 0)) (by (with_reducible repeat (first | refine blk_drewN ?_ _ | refine blk_drew ?_ | refine blk_alloc ?_ _)); refine blk_far ?_ NB235_240.out _; (with_reducible repeat (first | refine blk_drewN ?_ _ | refine blk_drew ?_ | refine blk_alloc ?_ _)); refine blk_far ?_ NB235_240.out _; exact pkK BK235.out) hb); replace BK240 := am (blk_below (g := gb240) (o := .cells #[.int .i64 t236, .slice Ao30 t237.length co30] 29 (0, 0)) (by (with_reducible repeat (first | refine blk_drewN ?_ _ | refine blk_drew ?_ | refine blk_alloc ?_ _)); refine blk_put (cs := #[.int .i64 t236, .slice none 0 0]) ?_ 1 _ rfl; (with_reducible repeat (first | refine blk_drewN ?_ _ | refine blk_drew ?_ | refine blk_alloc ?_ _)); refine blk_put (cs := #[.int .i64 0, .slice none 0 0]) ?_ 0 _ rfl; exact pkK BK240.out) hb); replace HB := am (below_step (pkW HB.out) hb); (try clear hb ho0)) | ((with_reducible refine gate_dst (N := 9) rfl ?_); refine box_event ?hg (N := 9) ?hd (cs := #[.int .i64 0, .slice none 0 0]) (t := 29) ?hr ?_; (case hd => rfl); (case hg => rfl); (case hr => first | (go_simp; done) | (go_simp; rfl)); intro gb246 hg w32 hbox hb; replace HO229 := am (Kd.R_below (pkR HO229.out) hb); replace HO233 := am (Kd.R_below (pkR HO233.out) hb); replace HO239 := am (Kd.R_below (pkR HO239.out) hb); replace HO244 := am (Kd.R_below (pkR HO244.out) hb); have BK246 := am (hbox); have GW246 := am ((by rw [hg]; exact (below_size (pkW HB.out)) : w.heap.size ≤ gb246)); have GE246 := am ((by rw [hg]; exact (below_size (pkW HB.out)) : w.heap.size ≤ gb246)); replace HB := am (below_step (pkW HB.out) hb); have NB224_246 := am ((by rw [hg]; exact Nat.ne_of_lt (blk_lt (g := gb224) (o := .cells #[.int .i64 a0_0, .slice A0_1 l0_1.length c0_1] 24 (0, 0)) (pkK BK224.out)) : gb224 ≠ gb246)); have NB246_224 := am ((by rw [hg]; exact Nat.ne_of_gt (blk_lt (g := gb224) (o := .cells #[.int .i64 a0_0, .slice A0_1 l0_1.length c0_1] 24 (0, 0)) (pkK BK224.out)) : gb246 ≠ gb224)); replace BK224 := am (blk_below (pkK BK224.out) hb); have NB235_246 := am ((by rw [hg]; exact Nat.ne_of_lt (blk_lt (g := gb235) (o := .cells #[.int .i64 t230, .slice Ao23 t231.length co23] 29 (0, 0)) (pkK BK235.out)) : gb235 ≠ gb246)); have NB246_235 := am ((by rw [hg]; exact Nat.ne_of_gt (blk_lt (g := gb235) (o := .cells #[.int .i64 t230, .slice Ao23 t231.length co23] 29 (0, 0)) (pkK BK235.out)) : gb246 ≠ gb235)); replace BK235 := am (blk_below (pkK BK235.out) hb); have NB240_246 := am ((by rw [hg]; exact Nat.ne_of_lt (blk_lt (g := gb240) (o := .cells #[.int .i64 t236, .slice Ao30 t237.length co30] 29 (0, 0)) (pkK BK240.out)) : gb240 ≠ gb246)); have NB246_240 := am ((by rw [hg]; exact Nat.ne_of_gt (blk_lt (g := gb240) (o := .cells #[.int .i64 t236, .slice Ao30 t237.length co30] 29 (0, 0)) (pkK BK240.out)) : gb246 ≠ gb240)); replace BK240 := am (blk_below (pkK BK240.out) hb); clear hb hbox hg; have hnb33 := NB246_224.out; have hnc33 := NB224_246.out; have hnb34 := NB246_235.out; have hnc34 := NB235_246.out; have hnb35 := NB246_240.out; have hnc35 := NB240_246.out; obtain ⟨hcz36_0, hcz36_1, hfz36_0, hfz36_1⟩ := bk2 BK246.out; obtain ⟨Ao37, co37, eo37⟩ := Kd.R_slice HO244.out; subst eo37))
  (try simp only [Act.put, List.setIfInBounds_toArray, List.set_cons_zero, List.set_cons_succ])
  go_cut [44] (fun v44 wc => ∃ (kq : Nat) (x44_11 : Bool), v44 = .bool x44_11 ∧ Aside0 (laws_FnExactStopTimer.j0 kq a1 t234 t245 x44_11 a0_0 l0_1 t230 t231 t236 t237 t241 t242 = some r) ∧ Aside0 (kq ≤ k) ∧ Aside0 (Kd.R k46 46 wc w.heap.size (fun k_ => some k_ ≠ ((.slice Ao30 t237.length co30) : Value).ownBlock ∧ some k_ ≠ ((.slice Ao37 t242.length co37) : Value).ownBlock) (.slice Ao23 t231.length co23) t231) ∧ Aside0 (Kd.Q k46 46 wc w.heap.size (fun k_ => some k_ ≠ ((.slice Ao23 t231.length co23) : Value).ownBlock ∧ some k_ ≠ ((.slice Ao37 t242.length co37) : Value).ownBlock) (.slice Ao30 t237.length co30) t237) ∧ Aside0 (Kd.Q k46 46 wc w.heap.size (fun k_ => some k_ ≠ ((.slice Ao23 t231.length co23) : Value).ownBlock ∧ some k_ ≠ ((.slice Ao30 t237.length co30) : Value).ownBlock) (.slice Ao37 t242.length co37) t242) ∧ Aside0 (wc.heap[gb224]? = some (.cells #[.int .i64 a0_0, (.slice A0_1 l0_1.length c0_1)] 24 (0, 0))) ∧ Aside0 (wc.heap[gb235]? = some (.cells #[.int .i64 t230, (.slice Ao23 t231.length co23)] 29 (0, 0))) ∧ Aside0 (wc.heap[gb240]? = some (.cells #[.int .i64 t236, (.slice Ao30 t237.length co30)] 29 (0, 0))) ∧ Aside0 (wc.heap[gb246]? = some (.cells #[.int .i64 t241, (.slice Ao37 t242.length co37)] 29 (0, 0))) ∧ Aside0 (Below w.heap.size w wc))
  case first =>
   have H := HC12.out
   clear HC12
   replace H := Option.bind_eq_some_iff.mp H
   obtain ⟨t247, A380, H⟩ := H
   replace H : (if t247 = true then (laws_FnExactStopTimer.j0 k a1 t234 t245 (t245 != t234) a0_0 l0_1 t230 t231 t236 t237 t241 t242) else (laws_FnExactStopTimer.j0 k a1 t234 t245 true a0_0 l0_1 t230 t231 t236 t237 t241 t242)) = some r := H
   have A38 := am A380
   clear A380
   by_cases c39 : t247 = true
   ·subst c39
    replace H : (laws_FnExactStopTimer.j0 k a1 t234 t245 (t245 != t234) a0_0 l0_1 t230 t231 t236 t237 t241 t242) = some r := by rw [if_pos rfl] at H; exact H
    have H' := am H
    clear H
    have hnb40 := NB246_224.out
    have hnc40 := NB224_246.out
    have hnb41 := NB246_235.out
    have hnc41 := NB235_246.out
    have hnb42 := NB246_240.out
    have hnc42 := NB240_246.out
    obtain ⟨hcz43_0, hcz43_1, hfz43_0, hfz43_1⟩ := bk2 BK246.out
    have hnb44 := NB235_224.out
    have hnc44 := NB224_235.out
    have hnb45 := NB235_240.out
    have hnc45 := NB240_235.out
    obtain ⟨hcz46_0, hcz46_1, hfz46_0, hfz46_1⟩ := bk2 BK235.out
    go_wp2_with (first | ((with_reducible refine gate_callee (f := 13) rfl ?_); refine goesL_ (some 38) rfl rfl Try.func13 (by kernel_rfl) rfl #[.agg #[.int .i64 t241, .slice Ao37 t242.length co37], .agg #[.int .i64 t230, .slice Ao23 t231.length co23]] rfl mpx ?_; (with_reducible refine (laws_eqClock.calls k t241 _ _ t242 t230 _ _ t231 true _ ?side1 ?side2 ?side3 ?side4 A38.out).mono ?_); (case side1 => refine (Kd.R_reads' (e := 46) (base := w.heap.size) (ok := fun k_ => (((True ∧ some k_ ≠ (.slice Ao18 t227.length co18 : Value).ownBlock) ∧ some k_ ≠ (.slice Ao23 t231.length co23 : Value).ownBlock) ∧ some k_ ≠ (.slice Ao30 t237.length co30 : Value).ownBlock)) (n := t242.length) (c := co37) ?_).2.2; exact (by (with_reducible repeat (first | apply Kd.R_alloc | apply Kd.R_drewN | apply Kd.R_drew)); exact (Kd.R_mono (Kd.R_far (p := ⟨gb246, 1, none⟩) (Kd.R_far (p := ⟨gb246, 0, none⟩) (Kd.R_types HO244.out BK246.out (by decide)) (fun _ hk => hk.2) (.int .i64 t241)) (fun _ hk => hk.2) (.slice Ao37 t242.length co37)) (fun _ h_ => h_.1)))); (case side2 => exact (Kd.R_reads' HO244.out).2.1); (case side3 => refine (Kd.R_reads' (e := 46) (base := w.heap.size) (ok := fun k_ => (((True ∧ some k_ ≠ (.slice Ao18 t227.length co18 : Value).ownBlock) ∧ some k_ ≠ (.slice Ao30 t237.length co30 : Value).ownBlock) ∧ some k_ ≠ (.slice Ao37 t242.length co37 : Value).ownBlock)) (n := t231.length) (c := co23) ?_).2.2; exact (by (with_reducible repeat (first | apply Kd.R_alloc | apply Kd.R_drewN | apply Kd.R_drew)); exact (Kd.R_mono (Kd.R_far (p := ⟨gb246, 1, none⟩) (Kd.R_far (p := ⟨gb246, 0, none⟩) (Kd.R_types HO233.out BK246.out (by decide)) (fun _ hk => hk.2) (.int .i64 t241)) (fun _ hk => hk.2) (.slice Ao37 t242.length co37)) (fun _ h_ => h_.1)))); (case side4 => exact (Kd.R_reads' HO233.out).2.1); rintro e w47 ⟨rfl, hb⟩; refine ⟨_, rfl, ?_⟩; replace HO229 := am (Kd.R_below (by (with_reducible repeat (first | apply Kd.R_alloc | apply Kd.R_drewN | apply Kd.R_drew)); exact (Kd.R_mono (Kd.R_far (p := ⟨gb246, 1, none⟩) (Kd.R_far (p := ⟨gb246, 0, none⟩) (Kd.R_types HO229.out BK246.out (by decide)) (fun _ hk => hk.2) (.int .i64 t241)) (fun _ hk => hk.2) (.slice Ao37 t242.length co37)) (fun _ h_ => h_.1))) hb); replace HO233 := am (Kd.R_below (by (with_reducible repeat (first | apply Kd.R_alloc | apply Kd.R_drewN | apply Kd.R_drew)); exact (Kd.R_mono (Kd.R_far (p := ⟨gb246, 1, none⟩) (Kd.R_far (p := ⟨gb246, 0, none⟩) (Kd.R_types HO233.out BK246.out (by decide)) (fun _ hk => hk.2) (.int .i64 t241)) (fun _ hk => hk.2) (.slice Ao37 t242.length co37)) (fun _ h_ => h_.1))) hb); replace HO239 := am (Kd.R_below (by (with_reducible repeat (first | apply Kd.R_alloc | apply Kd.R_drewN | apply Kd.R_drew)); exact (Kd.R_mono (Kd.R_far (p := ⟨gb246, 1, none⟩) (Kd.R_far (p := ⟨gb246, 0, none⟩) (Kd.R_types HO239.out BK246.out (by decide)) (fun _ hk => hk.2) (.int .i64 t241)) (fun _ hk => hk.2) (.slice Ao37 t242.length co37)) (fun _ h_ => h_.1))) hb); replace HO244 := am (Kd.R_below (by (with_reducible repeat (first | apply Kd.R_alloc | apply Kd.R_drewN | apply Kd.R_drew)); exact (Kd.R_mono (Kd.R_far (p := ⟨gb246, 1, none⟩) (Kd.R_far (p := ⟨gb246, 0, none⟩) (Kd.R_types HO244.out BK246.out (by decide)) (fun _ hk => hk.2) (.int .i64 t241)) (fun _ hk => hk.2) (.slice Ao37 t242.length co37)) (fun _ h_ => h_.1))) hb); replace BK224 := am (blk_below (g := gb224) (o := .cells #[.int .i64 a0_0, .slice A0_1 l0_1.length c0_1] 24 (0, 0)) (by (with_reducible repeat (first | refine blk_drewN ?_ _ | refine blk_drew ?_ | refine blk_alloc ?_ _)); refine blk_far ?_ NB224_246.out _; (with_reducible repeat (first | refine blk_drewN ?_ _ | refine blk_drew ?_ | refine blk_alloc ?_ _)); refine blk_far ?_ NB224_246.out _; exact pkK BK224.out) hb); replace BK235 := am (blk_below (g := gb235) (o := .cells #[.int .i64 t230, .slice Ao23 t231.length co23] 29 (0, 0)) (by (with_reducible repeat (first | refine blk_drewN ?_ _ | refine blk_drew ?_ | refine blk_alloc ?_ _)); refine blk_far ?_ NB235_246.out _; (with_reducible repeat (first | refine blk_drewN ?_ _ | refine blk_drew ?_ | refine blk_alloc ?_ _)); refine blk_far ?_ NB235_246.out _; exact pkK BK235.out) hb); replace BK240 := am (blk_below (g := gb240) (o := .cells #[.int .i64 t236, .slice Ao30 t237.length co30] 29 (0, 0)) (by (with_reducible repeat (first | refine blk_drewN ?_ _ | refine blk_drew ?_ | refine blk_alloc ?_ _)); refine blk_far ?_ NB240_246.out _; (with_reducible repeat (first | refine blk_drewN ?_ _ | refine blk_drew ?_ | refine blk_alloc ?_ _)); refine blk_far ?_ NB240_246.out _; exact pkK BK240.out) hb); replace BK246 := am (blk_below (g := gb246) (o := .cells #[.int .i64 t241, .slice Ao37 t242.length co37] 29 (0, 0)) (by (with_reducible repeat (first | refine blk_drewN ?_ _ | refine blk_drew ?_ | refine blk_alloc ?_ _)); refine blk_put (cs := #[.int .i64 t241, .slice none 0 0]) ?_ 1 _ rfl; (with_reducible repeat (first | refine blk_drewN ?_ _ | refine blk_drew ?_ | refine blk_alloc ?_ _)); refine blk_put (cs := #[.int .i64 0, .slice none 0 0]) ?_ 0 _ rfl; exact pkK BK246.out) hb); replace HB := am (below_step (pkW HB.out) hb); (try clear hb)))
    go_meet
    case rel => exact ⟨_, ((t245 != t234)), rfx, H', ⟨by first | omega | exact Nat.le_refl _⟩, ⟨by (with_reducible repeat (first | apply Kd.R_alloc | apply Kd.R_drewN | apply Kd.R_drew)); exact Kd.R_mono HO233.out (fun _ hk => ⟨hk.1.2, hk.2⟩)⟩, ⟨Kd.Q_of_R (by (with_reducible repeat (first | apply Kd.R_alloc | apply Kd.R_drewN | apply Kd.R_drew)); exact Kd.R_mono HO239.out (fun _ hk => ⟨hk.1.2, hk.2⟩))⟩, ⟨Kd.Q_of_R (by (with_reducible repeat (first | apply Kd.R_alloc | apply Kd.R_drewN | apply Kd.R_drew)); exact Kd.R_mono HO244.out (fun _ hk => ⟨hk.1.2, hk.2⟩))⟩, ⟨pkK BK224.out⟩, ⟨pkK BK235.out⟩, ⟨pkK BK240.out⟩, ⟨pkK BK246.out⟩, ⟨pkW HB.out⟩⟩
   ·replace c39 := Bool.eq_false_iff.mpr c39
    subst c39
    replace H : (laws_FnExactStopTimer.j0 k a1 t234 t245 true a0_0 l0_1 t230 t231 t236 t237 t241 t242) = some r := by rw [if_neg (show ¬ (false = true) by decide)] at H; exact H
    cases k with
    | zero => exact absurd H (by simp [laws_FnExactStopTimer.j0])
    | succ k_ => (simp only [laws_FnExactStopTimer.j0, if_pos] at H; exact absurd (Option.some.inj H) (by rw [HQ_.out]; simp))
  case rest =>
   clear HC12
   try clear c1
   try clear c2
   try clear p2
   try clear c3
   try clear c4
   try clear c4b0
   try clear c9
   try clear c11
   try clear c13
   try clear c14
   try clear c15
   try clear c21
   try clear c27
   try clear c28
   try clear c33
   try clear c34
   try clear c35
   try clear c39
   try clear c40
   try clear c41
   try clear c42
   try clear c44
   try clear c45
   try clear hcz14_0
   try clear hcz14_1
   try clear hcz16_0
   try clear hcz16_1
   try clear hcz22_0
   try clear hcz22_1
   try clear hcz24_0
   try clear hcz24_1
   try clear hcz29_0
   try clear hcz29_1
   try clear hcz36_0
   try clear hcz36_1
   try clear hcz43_0
   try clear hcz43_1
   try clear hcz46_0
   try clear hcz46_1
   try clear hcz6_0
   try clear hcz6_1
   try clear hfz14_0
   try clear hfz14_1
   try clear hfz16_0
   try clear hfz16_1
   try clear hfz22_0
   try clear hfz22_1
   try clear hfz24_0
   try clear hfz24_1
   try clear hfz29_0
   try clear hfz29_1
   try clear hfz36_0
   try clear hfz36_1
   try clear hfz43_0
   try clear hfz43_1
   try clear hfz46_0
   try clear hfz46_1
   try clear hfz6_0
   try clear hfz6_1
   obtain ⟨kq, x44_11, rfl, HA, HJ11, HO_236001, HO_241001, HO_247001, BK224, BK235, BK240, BK246, HB⟩ := hcut
   cases kq with
   | zero => exact absurd HA.out (by simp [laws_FnExactStopTimer.j0])
   | succ kj11 =>
    have H := HA.out
    clear HA
    simp only [laws_FnExactStopTimer.j0] at H
    by_cases c48 : x44_11 = true
    ·subst c48
     replace H : (some false) = some r := by rw [if_pos rfl] at H; exact H
     exact absurd (Option.some.inj H) (by rw [HQ_.out]; simp)
    ·replace c48 := Bool.eq_false_iff.mpr c48
     subst c48
     replace H : ((laws_toClock.f kj11 a0_0 l0_1).bind fun bt248 => ((laws_eqClock.f kj11 t236 t237 bt248.1 bt248.2).bind fun t252 => (if t252 = true then ((laws_markClock.f kj11 t236 t237 1).bind fun bt253 => (if bt253.1 < 0 then (laws_FnExactStopTimer.j1 kj11 a1 t234 true a0_0 l0_1 t230 t231 t241 t242) else ((laws_eqClock.f kj11 t241 t242 t230 t231).bind fun t255 => (if t255 = true then (laws_FnExactStopTimer.j1 kj11 a1 t234 (t245 != t234) a0_0 l0_1 t230 t231 t241 t242) else (laws_FnExactStopTimer.j1 kj11 a1 t234 true a0_0 l0_1 t230 t231 t241 t242))))) else (some false)))) = some r := by rw [if_neg (show ¬ (false = true) by decide)] at H; exact H
     replace H := Option.bind_eq_some_iff.mp H
     obtain ⟨⟨t248, t249⟩, A490, H⟩ := H
     replace H : ((laws_eqClock.f kj11 t236 t237 t248 t249).bind fun t252 => (if t252 = true then ((laws_markClock.f kj11 t236 t237 1).bind fun bt253 => (if bt253.1 < 0 then (laws_FnExactStopTimer.j1 kj11 a1 t234 true a0_0 l0_1 t230 t231 t241 t242) else ((laws_eqClock.f kj11 t241 t242 t230 t231).bind fun t255 => (if t255 = true then (laws_FnExactStopTimer.j1 kj11 a1 t234 (t245 != t234) a0_0 l0_1 t230 t231 t241 t242) else (laws_FnExactStopTimer.j1 kj11 a1 t234 true a0_0 l0_1 t230 t231 t241 t242))))) else (some false))) = some r := H
     have A49 := am A490
     clear A490
     replace H := Option.bind_eq_some_iff.mp H
     obtain ⟨t252, A500, H⟩ := H
     replace H : (if t252 = true then ((laws_markClock.f kj11 t236 t237 1).bind fun bt253 => (if bt253.1 < 0 then (laws_FnExactStopTimer.j1 kj11 a1 t234 true a0_0 l0_1 t230 t231 t241 t242) else ((laws_eqClock.f kj11 t241 t242 t230 t231).bind fun t255 => (if t255 = true then (laws_FnExactStopTimer.j1 kj11 a1 t234 (t245 != t234) a0_0 l0_1 t230 t231 t241 t242) else (laws_FnExactStopTimer.j1 kj11 a1 t234 true a0_0 l0_1 t230 t231 t241 t242))))) else (some false)) = some r := H
     have A50 := am A500
     clear A500
     by_cases c51 : t252 = true
     ·subst c51
      replace H : ((laws_markClock.f kj11 t236 t237 1).bind fun bt253 => (if bt253.1 < 0 then (laws_FnExactStopTimer.j1 kj11 a1 t234 true a0_0 l0_1 t230 t231 t241 t242) else ((laws_eqClock.f kj11 t241 t242 t230 t231).bind fun t255 => (if t255 = true then (laws_FnExactStopTimer.j1 kj11 a1 t234 (t245 != t234) a0_0 l0_1 t230 t231 t241 t242) else (laws_FnExactStopTimer.j1 kj11 a1 t234 true a0_0 l0_1 t230 t231 t241 t242))))) = some r := by rw [if_pos rfl] at H; exact H
      replace H := Option.bind_eq_some_iff.mp H
      obtain ⟨⟨t253, t254⟩, A520, H⟩ := H
      replace H : (if t253 < 0 then (laws_FnExactStopTimer.j1 kj11 a1 t234 true a0_0 l0_1 t230 t231 t241 t242) else ((laws_eqClock.f kj11 t241 t242 t230 t231).bind fun t255 => (if t255 = true then (laws_FnExactStopTimer.j1 kj11 a1 t234 (t245 != t234) a0_0 l0_1 t230 t231 t241 t242) else (laws_FnExactStopTimer.j1 kj11 a1 t234 true a0_0 l0_1 t230 t231 t241 t242)))) = some r := H
      have A52 := am A520
      clear A520
      have HC53 := am H
      clear H
      try go_wp2
      replace HO_236001 := am (Kd.R_drew HO_236001.out)
      replace HO_241001 := am (Kd.Q_drew HO_241001.out)
      replace HO_247001 := am (Kd.Q_drew HO_247001.out)
      replace BK224 := am (blk_drew BK224.out)
      replace BK235 := am (blk_drew BK235.out)
      replace BK240 := am (blk_drew BK240.out)
      replace BK246 := am (blk_drew BK246.out)
      replace HB := am (below_drew1 HB.out)
      refine start_ (n := 5) (S := fun w' => w'.cell? ⟨gb240, 0, none⟩ = some (.int .i64 t236) ∧ w'.cell? ⟨gb240, 1, none⟩ = some (.slice Ao30 t237.length co30) ∧ w'.cell? ⟨gb224, 0, none⟩ = some (.int .i64 a0_0) ∧ w'.cell? ⟨gb224, 1, none⟩ = some (.slice A0_1 l0_1.length c0_1)) (ds := []) #[false, false, false, false, false] (by kernel_rfl) rfl rfl ⟨(blk_cell BK240.out 0).trans rfl, (blk_cell BK240.out 1).trans rfl, (blk_cell BK224.out 0).trans rfl, (blk_cell BK224.out 1).trans rfl⟩ (fun hHeld => ?_)
      generalize wc.drew = w54 at HO_236001 HO_241001 HO_247001 BK224 BK235 BK240 BK246 HB hHeld ⊢
      refine take_ (i := 0) (N := some 45) (v := ?_) (a' := ?_) #[true, false, false, false, false] rfl rfl (by kernel_rfl) (fun _ _ _ h => h) (Or.inl ⟨by rfl, ?_⟩) hHeld ?_ ?_
      rotate_left
      ·rintro w' ⟨s0, s1, s2, s3⟩
       go_simp
       with_reducible rfl
      rotate_left
      ·simp only [Act.put, List.setIfInBounds_toArray, List.set_cons_zero, List.set_cons_succ, i64_w, i32_w]
       rfl
      refine take_ (i := 1) (N := some 46) (v := ?_) (a' := ?_) #[true, true, false, false, false] rfl rfl (by kernel_rfl) (fun _ _ _ h => h) (Or.inl ⟨by rfl, ?_⟩) hHeld ?_ ?_
      rotate_left
      ·rintro w' ⟨s0, s1, s2, s3⟩
       go_simp
       with_reducible rfl
      rotate_left
      ·simp only [Act.put, List.setIfInBounds_toArray, List.set_cons_zero, List.set_cons_succ, i64_w, i32_w]
       rfl
      refine one_ (i := 2) (N := some 47) #[true, true, true, false, false] rfl rfl (by kernel_rfl) (by decide) (fun K hK => ?_)
      refine goes_ Try.func11 (by kernel_rfl) rfl #[.agg #[.int .i64 a0_0, .slice A0_1 l0_1.length c0_1]] (by rfl) rfl rfl mpx ?_
      with_reducible refine (laws_toClock.calls kj11 a0_0 _ _ l0_1 t248 t249 _ ?side1 ?side2 A49.out).mono ?_
      (case side1 => exact pkC (Kd.C_below HR0_1.out HB.out))
      (case side2 => exact HC0_1.out)
      rintro e w55 ⟨v250, rfl, ho0, hb⟩
      refine ⟨_, rfl, ?_⟩
      have HO251 := am (Kd.R_lower (Kd.R_new' (Kd.R_new' (Kd.R_new' ho0 (Kd.R_lt (pkR HO_236001.out))) (Kd.Q_lt (pkQ HO_241001.out))) (Kd.Q_lt (pkQ HO_247001.out))) (below_size (pkW HB.out)))
      replace HO_236001 := am (Kd.R_elder' (pkR HO_236001.out) (Kd.R_base ho0) hb)
      replace HO_241001 := am (Kd.Q_elder' (pkQ HO_241001.out) (Kd.R_base ho0) hb)
      replace HO_247001 := am (Kd.Q_elder' (pkQ HO_247001.out) (Kd.R_base ho0) hb)
      replace BK224 := am (blk_below (pkK BK224.out) hb)
      replace BK235 := am (blk_below (pkK BK235.out) hb)
      replace BK240 := am (blk_below (pkK BK240.out) hb)
      replace BK246 := am (blk_below (pkK BK246.out) hb)
      replace HB := am (below_step (pkW HB.out) hb)
      (try clear hb); (try clear ho0)
      obtain ⟨Ao56, co56, eo56⟩ := Kd.R_slice HO251.out
      (first | subst eo56 | (injection eo56 with f1_ f2_ f3_; have f4_ := f1_.symm; have f5_ := f3_.symm; clear f1_ f2_ f3_; subst f4_; subst f5_))
      refine hK.out _ _ ⟨(blk_cell BK240.out 0).trans rfl, (blk_cell BK240.out 1).trans rfl, (blk_cell BK224.out 0).trans rfl, (blk_cell BK224.out 1).trans rfl⟩ (fun hHeld => ?_)
      clear hK K
      refine norm_ (a' := ?_) ?_ ?_
      rotate_left
      ·show Act.put _ (some 47) _ = _
       simp only [Act.put, List.setIfInBounds_toArray, List.set_cons_zero, List.set_cons_succ, i64_w, i32_w]
       rfl
      refine one_ (i := 3) (N := some 48) #[true, true, true, true, false] rfl rfl (by kernel_rfl) (by decide) (fun K hK => ?_)
      refine goes_ Try.func13 (by kernel_rfl) rfl #[.agg #[.int .i64 t236, .slice Ao30 t237.length co30], .agg #[.int .i64 t248, .slice Ao56 t249.length co56]] (by rfl) rfl rfl mpx ?_
      with_reducible refine (laws_eqClock.calls kj11 t236 _ _ t237 t248 _ _ t249 true _ ?side1 ?side2 ?side3 ?side4 A50.out).mono ?_
      (case side1 => repeat (first | exact (Kd.Q_reads' HO_241001.out).2.2 | (with_reducible refine Kd.C_alloc ?_ _) | (with_reducible refine Kd.C_drewN ?_ _) | (with_reducible refine Kd.C_drew ?_)))
      (case side2 => exact (Kd.Q_reads' HO_241001.out).2.1)
      (case side3 => exact pkC (Kd.R_reads' HO251.out).2.2)
      (case side4 => exact (Kd.R_reads' HO251.out).2.1)
      rintro e w57 ⟨rfl, hb⟩
      refine ⟨_, rfl, ?_⟩
      replace HO_236001 := am (Kd.R_below (pkR HO_236001.out) hb)
      replace HO_241001 := am (Kd.Q_below (pkQ HO_241001.out) hb)
      replace HO_247001 := am (Kd.Q_below (pkQ HO_247001.out) hb)
      replace HO251 := am (Kd.R_below (pkR HO251.out) hb)
      replace BK224 := am (blk_below (pkK BK224.out) hb)
      replace BK235 := am (blk_below (pkK BK235.out) hb)
      replace BK240 := am (blk_below (pkK BK240.out) hb)
      replace BK246 := am (blk_below (pkK BK246.out) hb)
      replace HB := am (below_step (pkW HB.out) hb)
      (try clear hb)
      refine hK.out _ _ ⟨(blk_cell BK240.out 0).trans rfl, (blk_cell BK240.out 1).trans rfl, (blk_cell BK224.out 0).trans rfl, (blk_cell BK224.out 1).trans rfl⟩ (fun hHeld => ?_)
      clear hK K
      refine norm_ (a' := ?_) ?_ ?_
      rotate_left
      ·show Act.put _ (some 48) _ = _
       simp only [Act.put, List.setIfInBounds_toArray, List.set_cons_zero, List.set_cons_succ, i64_w, i32_w]
       rfl
      refine pure_ (i := 4) (N := some 49) (v := ?_) (a' := ?_) #[true, true, true, true, true] rfl rfl (by kernel_rfl) (fun _ _ _ h => h) (Or.inl ⟨by rfl, ?_⟩) ?_ ?_
      rotate_left
      ·intro w'
       go_simp
       with_reducible rfl
      rotate_left
      ·simp only [Act.put, List.setIfInBounds_toArray, List.set_cons_zero, List.set_cons_succ, i64_w, i32_w]
       rfl
      refine done_ (by kernel_rfl) ?_
      have hnb58 := NB240_224.out
      have hnc58 := NB224_240.out
      have hnb59 := NB240_235.out
      have hnc59 := NB235_240.out
      have hnb60 := NB240_246.out
      have hnc60 := NB246_240.out
      obtain ⟨hcz61_0, hcz61_1, hfz61_0, hfz61_1⟩ := bk2 BK240.out
      go_upto_region 14 with (first | ((with_reducible refine gate_callee (f := 16) rfl ?_); refine goesL_ (some 52) rfl rfl Try.func16 (by kernel_rfl) rfl #[.agg #[.int .i64 t236, .slice Ao30 t237.length co30], .int .i64 1] rfl mpx ?_; (with_reducible refine (laws_markClock.calls kj11 t236 (fun k_ => some k_ = (.slice Ao30 t237.length co30 : Value).ownBlock) (.slice Ao30 t237.length co30) t237 1 t253 t254 w _ ?side1 ?side2 A52.out).mono ?_); (case side1 => repeat (first | (with_reducible first | exact HB.out | apply below_alloc | apply pw_below_drewN | apply below_drew1 | refine below_set ?_ GE224.out | refine below_set ?_ GE235.out | refine below_set ?_ GE240.out | refine below_set ?_ GE246.out) | exact HB.out)); (case side2 => exact Kd.Q_tight rfl HO_241001.out); rintro e w62 ⟨rfl, hy0, hb, hkp⟩; refine ⟨_, rfl, ?_⟩; replace HO_236001 := am (Kd.R_mono (ok' := fun k_ => some k_ ≠ (.slice Ao30 t237.length co30 : Value).ownBlock ∧ some k_ ≠ (.slice Ao37 t242.length co37 : Value).ownBlock ∧ some k_ ≠ (.slice Ao56 t249.length co56 : Value).ownBlock) (Kd.R_keptB (HO_236001.out) hkp (fun k_ hk_ hs_ => (hk_.1.1) hs_)) (fun k_ hk_ => ⟨hk_.1.1.1, hk_.1.1.2, hk_.1.2⟩)); replace HO_247001 := am (Kd.Q_mono (ok' := fun k_ => some k_ ≠ (.slice Ao23 t231.length co23 : Value).ownBlock ∧ some k_ ≠ (.slice Ao30 t237.length co30 : Value).ownBlock ∧ some k_ ≠ (.slice Ao56 t249.length co56 : Value).ownBlock) (Kd.Q_keptB (HO_247001.out) hkp (fun k_ hk_ hs_ => (hk_.1.2) hs_)) (fun k_ hk_ => ⟨hk_.1.1.1, hk_.1.1.2, hk_.1.2⟩)); replace BK224 := am (blk_kept (pkK BK224.out) hkp (fun hs_ => (fun e_ => (Kd.Q_ne HO_241001.out BK224.out (by decide)) e_) hs_)); replace BK235 := am (blk_kept (pkK BK235.out) hkp (fun hs_ => (fun e_ => (Kd.Q_ne HO_241001.out BK235.out (by decide)) e_) hs_)); replace BK240 := am (blk_kept (pkK BK240.out) hkp (fun hs_ => (fun e_ => (Kd.Q_ne HO_241001.out BK240.out (by decide)) e_) hs_)); replace BK246 := am (blk_kept (pkK BK246.out) hkp (fun hs_ => (fun e_ => (Kd.Q_ne HO_241001.out BK246.out (by decide)) e_) hs_)); replace HO_241001 := am (Kd.Q_reok rfl hy0 (fun k_ e_ => HO_241001.out.1 k_ e_)); replace HO251 := am (Kd.R_mono (ok' := fun k_ => some k_ ≠ (.slice Ao23 t231.length co23 : Value).ownBlock ∧ some k_ ≠ (.slice Ao30 t237.length co30 : Value).ownBlock ∧ some k_ ≠ (.slice Ao37 t242.length co37 : Value).ownBlock) (Kd.R_keptB (HO251.out) hkp (fun k_ hk_ hs_ => (hk_.1.2) hs_)) (fun k_ hk_ => ⟨hk_.1.1.1.2, hk_.1.1.2, hk_.1.2⟩)); replace HB := am (hb); (try clear hb); (try clear hkp); (try clear hy0)))
      (try simp only [Act.put, List.setIfInBounds_toArray, List.set_cons_zero, List.set_cons_succ])
      go_cut [65] (fun v65 wc => ∃ (kq : Nat) (x65_52 : Bool), v65 = .bool x65_52 ∧ Aside0 (laws_FnExactStopTimer.j1 kq a1 t234 x65_52 a0_0 l0_1 t230 t231 t241 t242 = some r) ∧ Aside0 (kq ≤ kj11) ∧ Aside0 (Kd.R k46 46 wc w.heap.size (fun k_ => some k_ ≠ ((.slice Ao30 t237.length co30) : Value).ownBlock ∧ some k_ ≠ ((.slice Ao37 t242.length co37) : Value).ownBlock) (.slice Ao23 t231.length co23) t231) ∧ Aside0 (Kd.Q k46 46 wc w.heap.size (fun k_ => some k_ ≠ ((.slice Ao23 t231.length co23) : Value).ownBlock ∧ some k_ ≠ ((.slice Ao37 t242.length co37) : Value).ownBlock) (.slice Ao30 t237.length co30) t254) ∧ Aside0 (Kd.Q k46 46 wc w.heap.size (fun k_ => some k_ ≠ ((.slice Ao23 t231.length co23) : Value).ownBlock ∧ some k_ ≠ ((.slice Ao30 t237.length co30) : Value).ownBlock) (.slice Ao37 t242.length co37) t242) ∧ Aside0 (wc.heap[gb224]? = some (.cells #[.int .i64 a0_0, (.slice A0_1 l0_1.length c0_1)] 24 (0, 0))) ∧ Aside0 (wc.heap[gb235]? = some (.cells #[.int .i64 t230, (.slice Ao23 t231.length co23)] 29 (0, 0))) ∧ Aside0 (wc.heap[gb240]? = some (.cells #[.int .i64 t236, (.slice Ao30 t237.length co30)] 29 (0, 0))) ∧ Aside0 (wc.heap[gb246]? = some (.cells #[.int .i64 t241, (.slice Ao37 t242.length co37)] 29 (0, 0))) ∧ Aside0 (Below w.heap.size w wc))
      case first =>
       have H := HC53.out
       clear HC53
       by_cases c63 : t253 < 0
       ·rw [if_pos c63] at H
        have c63b0 : decide (t253 < 0) = true := decide_eq_true c63
        clear c63
        (first | rw [c63b0] | (simp only [i64_w, i32_w]; rw [c63b0]) | skip)
        cases kj11 with
        | zero => exact absurd H (by simp [laws_FnExactStopTimer.j1])
        | succ k_ => (simp only [laws_FnExactStopTimer.j1, if_pos] at H; exact absurd (Option.some.inj H) (by rw [HQ_.out]; simp))
       ·rw [if_neg c63] at H
        have c63b0 : decide (t253 < 0) = false := decide_eq_false c63
        clear c63
        (first | rw [c63b0] | (simp only [i64_w, i32_w]; rw [c63b0]) | skip)
        replace H := Option.bind_eq_some_iff.mp H
        obtain ⟨t255, A640, H⟩ := H
        replace H : (if t255 = true then (laws_FnExactStopTimer.j1 kj11 a1 t234 (t245 != t234) a0_0 l0_1 t230 t231 t241 t242) else (laws_FnExactStopTimer.j1 kj11 a1 t234 true a0_0 l0_1 t230 t231 t241 t242)) = some r := H
        have A64 := am A640
        clear A640
        by_cases c65 : t255 = true
        ·subst c65
         replace H : (laws_FnExactStopTimer.j1 kj11 a1 t234 (t245 != t234) a0_0 l0_1 t230 t231 t241 t242) = some r := by rw [if_pos rfl] at H; exact H
         have H' := am H
         clear H
         have hnb66 := NB246_224.out
         have hnc66 := NB224_246.out
         have hnb67 := NB246_235.out
         have hnc67 := NB235_246.out
         have hnb68 := NB246_240.out
         have hnc68 := NB240_246.out
         obtain ⟨hcz69_0, hcz69_1, hfz69_0, hfz69_1⟩ := bk2 BK246.out
         have hnb70 := NB235_224.out
         have hnc70 := NB224_235.out
         have hnb71 := NB235_240.out
         have hnc71 := NB240_235.out
         obtain ⟨hcz72_0, hcz72_1, hfz72_0, hfz72_1⟩ := bk2 BK235.out
         go_wp2_with (first | (go_at_call 13; (with_reducible refine (laws_eqClock.calls kj11 t241 _ _ t242 t230 _ _ t231 true _ ?side1 ?side2 ?side3 ?side4 A64.out).mono ?_); (case side1 => repeat (first | exact (Kd.Q_reads' HO_247001.out).2.2 | (with_reducible refine Kd.C_alloc ?_ _) | (with_reducible refine Kd.C_drewN ?_ _) | (with_reducible refine Kd.C_drew ?_))); (case side2 => exact (Kd.Q_reads' HO_247001.out).2.1); (case side3 => exact pkC (Kd.R_reads' HO_236001.out).2.2); (case side4 => exact (Kd.R_reads' HO_236001.out).2.1); rintro e w73 ⟨rfl, hb⟩; replace HO_236001 := am (Kd.R_below (pkR HO_236001.out) hb); replace HO_241001 := am (Kd.Q_below (pkQ HO_241001.out) hb); replace HO_247001 := am (Kd.Q_below (pkQ HO_247001.out) hb); replace HO251 := am (Kd.R_below (pkR HO251.out) hb); replace BK224 := am (blk_below (pkK BK224.out) hb); replace BK235 := am (blk_below (pkK BK235.out) hb); replace BK240 := am (blk_below (pkK BK240.out) hb); replace BK246 := am (blk_below (pkK BK246.out) hb); replace HB := am (below_step (pkW HB.out) hb); (try clear hb)))
         go_meet
         case rel => exact ⟨_, ((t245 != t234)), rfx, H', ⟨by have := HJ11.out; first | omega | exact Nat.le_refl _⟩, ⟨by (with_reducible repeat (first | apply Kd.R_alloc | apply Kd.R_drewN | apply Kd.R_drew)); exact Kd.R_mono HO_236001.out (fun _ hk => ⟨hk.1, hk.2.1⟩)⟩, ⟨by (with_reducible repeat (first | apply Kd.Q_alloc | apply Kd.Q_drewN | apply Kd.Q_drew)); exact Kd.Q_mono HO_241001.out (fun _ hk => ⟨hk.1.1, hk.1.2⟩)⟩, ⟨by (with_reducible repeat (first | apply Kd.Q_alloc | apply Kd.Q_drewN | apply Kd.Q_drew)); exact Kd.Q_mono HO_247001.out (fun _ hk => ⟨hk.1, hk.2.1⟩)⟩, ⟨pkK BK224.out⟩, ⟨pkK BK235.out⟩, ⟨pkK BK240.out⟩, ⟨pkK BK246.out⟩, ⟨pkW HB.out⟩⟩
        ·replace c65 := Bool.eq_false_iff.mpr c65
         subst c65
         replace H : (laws_FnExactStopTimer.j1 kj11 a1 t234 true a0_0 l0_1 t230 t231 t241 t242) = some r := by rw [if_neg (show ¬ (false = true) by decide)] at H; exact H
         cases kj11 with
         | zero => exact absurd H (by simp [laws_FnExactStopTimer.j1])
         | succ k_ => (simp only [laws_FnExactStopTimer.j1, if_pos] at H; exact absurd (Option.some.inj H) (by rw [HQ_.out]; simp))
      case rest =>
       clear HC53
       try clear c1
       try clear c2
       try clear p2
       try clear c3
       try clear c4
       try clear c4b0
       try clear c5
       try clear c6
       try clear c7
       try clear c9
       try clear c11
       try clear c13
       try clear c14
       try clear c15
       try clear c16
       try clear c21
       try clear c27
       try clear c28
       try clear c33
       try clear c34
       try clear c35
       try clear c39
       try clear c40
       try clear c41
       try clear c42
       try clear c44
       try clear c45
       try clear c48
       try clear c51
       try clear c58
       try clear c59
       try clear c60
       try clear c63
       try clear c63b0
       try clear c65
       try clear c66
       try clear c67
       try clear c68
       try clear c70
       try clear c71
       try clear hcz14_0
       try clear hcz14_1
       try clear hcz16_0
       try clear hcz16_1
       try clear hcz22_0
       try clear hcz22_1
       try clear hcz24_0
       try clear hcz24_1
       try clear hcz29_0
       try clear hcz29_1
       try clear hcz36_0
       try clear hcz36_1
       try clear hcz43_0
       try clear hcz43_1
       try clear hcz46_0
       try clear hcz46_1
       try clear hcz61_0
       try clear hcz61_1
       try clear hcz69_0
       try clear hcz69_1
       try clear hcz6_0
       try clear hcz6_1
       try clear hcz72_0
       try clear hcz72_1
       try clear hfz14_0
       try clear hfz14_1
       try clear hfz16_0
       try clear hfz16_1
       try clear hfz22_0
       try clear hfz22_1
       try clear hfz24_0
       try clear hfz24_1
       try clear hfz29_0
       try clear hfz29_1
       try clear hfz36_0
       try clear hfz36_1
       try clear hfz43_0
       try clear hfz43_1
       try clear hfz46_0
       try clear hfz46_1
       try clear hfz61_0
       try clear hfz61_1
       try clear hfz69_0
       try clear hfz69_1
       try clear hfz6_0
       try clear hfz6_1
       try clear hfz72_0
       try clear hfz72_1
       try clear p2
       obtain ⟨kq, x65_52, rfl, HA, HJ52, HO_236001, HO_241001, HO_247001, BK224, BK235, BK240, BK246, HB⟩ := hcut
       have hl241001_52 := (Kd.Q_reads' HO_241001.out).1
       rw [hl241001_52] at HO_241001
       (try simp only [hl241001_52])
       (try simp only [hl241001_52] at BK224)
       (try simp only [hl241001_52] at BK235)
       (try simp only [hl241001_52] at BK240)
       (try simp only [hl241001_52] at BK246)
       (try simp only [hl241001_52] at HO_236001)
       (try simp only [hl241001_52] at HO_247001)
       cases kq with
       | zero => exact absurd HA.out (by simp [laws_FnExactStopTimer.j1])
       | succ kj52 =>
        have H := HA.out
        clear HA
        simp only [laws_FnExactStopTimer.j1] at H
        by_cases c74 : x65_52 = true
        ·subst c74
         replace H : (some false) = some r := by rw [if_pos rfl] at H; exact H
         exact absurd (Option.some.inj H) (by rw [HQ_.out]; simp)
        ·replace c74 := Bool.eq_false_iff.mpr c74
         subst c74
         replace H : ((laws_markClock.f kj52 t241 t242 1).bind fun bt256 => ((laws_heldClock.f kj52 t241 bt256.2 1).bind fun t258 => (if t258 < 0 then (some false) else (if t258 = bt256.1 then ((laws_toClock.f kj52 a0_0 l0_1).bind fun bt259 => ((impl_StopTimer.f kj52 bt259.1 bt259.2 a1).bind fun bt263 => ((laws_eqClock.f kj52 bt263.1 bt263.2.1 t230 t231).bind fun t269 => (if t269 = true then (laws_FnExactStopTimer.j2 kj52 bt256.1 (bt263.2.2 != t234) t241 bt256.2) else (laws_FnExactStopTimer.j2 kj52 bt256.1 true t241 bt256.2))))) else (some false))))) = some r := by rw [if_neg (show ¬ (false = true) by decide)] at H; exact H
         replace H := Option.bind_eq_some_iff.mp H
         obtain ⟨⟨t256, t257⟩, A750, H⟩ := H
         replace H : ((laws_heldClock.f kj52 t241 t257 1).bind fun t258 => (if t258 < 0 then (some false) else (if t258 = t256 then ((laws_toClock.f kj52 a0_0 l0_1).bind fun bt259 => ((impl_StopTimer.f kj52 bt259.1 bt259.2 a1).bind fun bt263 => ((laws_eqClock.f kj52 bt263.1 bt263.2.1 t230 t231).bind fun t269 => (if t269 = true then (laws_FnExactStopTimer.j2 kj52 t256 (bt263.2.2 != t234) t241 t257) else (laws_FnExactStopTimer.j2 kj52 t256 true t241 t257))))) else (some false)))) = some r := H
         have A75 := am A750
         clear A750
         replace H := Option.bind_eq_some_iff.mp H
         obtain ⟨t258, A760, H⟩ := H
         replace H : (if t258 < 0 then (some false) else (if t258 = t256 then ((laws_toClock.f kj52 a0_0 l0_1).bind fun bt259 => ((impl_StopTimer.f kj52 bt259.1 bt259.2 a1).bind fun bt263 => ((laws_eqClock.f kj52 bt263.1 bt263.2.1 t230 t231).bind fun t269 => (if t269 = true then (laws_FnExactStopTimer.j2 kj52 t256 (bt263.2.2 != t234) t241 t257) else (laws_FnExactStopTimer.j2 kj52 t256 true t241 t257))))) else (some false))) = some r := H
         have A76 := am A760
         clear A760
         by_cases c77 : t258 < 0
         ·rw [if_pos c77] at H
          have c77b0 : decide (t258 < 0) = true := decide_eq_true c77
          clear c77
          exact absurd (Option.some.inj H) (by rw [HQ_.out]; simp)
         ·rw [if_neg c77] at H
          have c77b0 : decide (t258 < 0) = false := decide_eq_false c77
          clear c77
          by_cases c78 : t258 = t256
          ·rw [if_pos c78] at H
           have c78b0 : (t258 == t256) = true := beq_iff_eq.mpr c78
           have c78b1 : (t258 != t256) = false := bne_eq_false_iff_eq.mpr c78
           clear c78
           replace H := Option.bind_eq_some_iff.mp H
           obtain ⟨⟨t259, t260⟩, A790, H⟩ := H
           replace H : ((impl_StopTimer.f kj52 t259 t260 a1).bind fun bt263 => ((laws_eqClock.f kj52 bt263.1 bt263.2.1 t230 t231).bind fun t269 => (if t269 = true then (laws_FnExactStopTimer.j2 kj52 t256 (bt263.2.2 != t234) t241 t257) else (laws_FnExactStopTimer.j2 kj52 t256 true t241 t257)))) = some r := H
           have A79 := am A790
           clear A790
           replace H := Option.bind_eq_some_iff.mp H
           obtain ⟨⟨t263, t264, t267⟩, A800, H⟩ := H
           replace H : ((laws_eqClock.f kj52 t263 t264 t230 t231).bind fun t269 => (if t269 = true then (laws_FnExactStopTimer.j2 kj52 t256 (t267 != t234) t241 t257) else (laws_FnExactStopTimer.j2 kj52 t256 true t241 t257))) = some r := H
           have A80 := am A800
           clear A800
           have HC81 := am H
           clear H
           have hnb82 := NB246_224.out
           have hnc82 := NB224_246.out
           have hnb83 := NB246_235.out
           have hnc83 := NB235_246.out
           have hnb84 := NB246_240.out
           have hnc84 := NB240_246.out
           obtain ⟨hcz85_0, hcz85_1, hfz85_0, hfz85_1⟩ := bk2 BK246.out
           go_upto_region 25 with (first | ((with_reducible refine gate_callee (f := 16) rfl ?_); refine goesL_ (some 68) rfl rfl Try.func16 (by kernel_rfl) rfl #[.agg #[.int .i64 t241, .slice Ao37 t242.length co37], .int .i64 1] rfl mpx ?_; (with_reducible refine (laws_markClock.calls kj52 t241 (fun k_ => some k_ = (.slice Ao37 t242.length co37 : Value).ownBlock) (.slice Ao37 t242.length co37) t242 1 t256 t257 w _ ?side1 ?side2 A75.out).mono ?_); (case side1 => repeat (first | (with_reducible first | exact HB.out | apply below_alloc | apply pw_below_drewN | apply below_drew1 | refine below_set ?_ GE224.out | refine below_set ?_ GE235.out | refine below_set ?_ GE240.out | refine below_set ?_ GE246.out) | exact HB.out)); (case side2 => exact Kd.Q_tight rfl HO_247001.out); rintro e w86 ⟨rfl, hy0, hb, hkp⟩; refine ⟨_, rfl, ?_⟩; replace HO_236001 := am (Kd.R_mono (ok' := fun k_ => some k_ ≠ (.slice Ao30 t254.length co30 : Value).ownBlock ∧ some k_ ≠ (.slice Ao37 t242.length co37 : Value).ownBlock) (Kd.R_keptB (HO_236001.out) hkp (fun k_ hk_ hs_ => (hk_.2) hs_)) (fun k_ hk_ => ⟨hk_.1.1, hk_.1.2⟩)); replace HO_241001 := am (Kd.Q_mono (ok' := fun k_ => some k_ ≠ (.slice Ao23 t231.length co23 : Value).ownBlock ∧ some k_ ≠ (.slice Ao37 t242.length co37 : Value).ownBlock) (Kd.Q_keptB (HO_241001.out) hkp (fun k_ hk_ hs_ => (hk_.2) hs_)) (fun k_ hk_ => ⟨hk_.1.1, hk_.1.2⟩)); replace BK224 := am (blk_kept (pkK BK224.out) hkp (fun hs_ => (fun e_ => (Kd.Q_ne HO_247001.out BK224.out (by decide)) e_) hs_)); replace BK235 := am (blk_kept (pkK BK235.out) hkp (fun hs_ => (fun e_ => (Kd.Q_ne HO_247001.out BK235.out (by decide)) e_) hs_)); replace BK240 := am (blk_kept (pkK BK240.out) hkp (fun hs_ => (fun e_ => (Kd.Q_ne HO_247001.out BK240.out (by decide)) e_) hs_)); replace BK246 := am (blk_kept (pkK BK246.out) hkp (fun hs_ => (fun e_ => (Kd.Q_ne HO_247001.out BK246.out (by decide)) e_) hs_)); replace HO_247001 := am (Kd.Q_reok rfl hy0 (fun k_ e_ => HO_247001.out.1 k_ e_)); replace HB := am (hb); (try clear hb); (try clear hkp); (try clear hy0); obtain ⟨hcz87_0, hcz87_1, hfz87_0, hfz87_1⟩ := bk2 BK246.out) | ((with_reducible refine gate_callee (f := 17) rfl ?_); refine goesL_ (some 71) rfl rfl Try.func17 (by kernel_rfl) rfl #[.agg #[.int .i64 t241, .slice Ao37 t257.length co37], .int .i64 1] rfl (by (try simp only [List.map_toArray, List.map_cons, List.map_nil]); first | done | (rw [show t257.length = t242.length from (Kd.Q_reads' HO_247001.out).1.symm] <;> rfl) | rfl | (simp only [List.length_drop, List.length_take]; rfl) | (go_simp; done) | (simp [*]; done)) ?_; (with_reducible refine (laws_heldClock.calls kj52 t241 _ _ t257 1 t258 _ ?side1 ?side2 A76.out).mono ?_); (case side1 => repeat (first | exact (Kd.Q_reads' HO_247001.out).2.2 | (with_reducible refine Kd.C_alloc ?_ _) | (with_reducible refine Kd.C_drewN ?_ _) | (with_reducible refine Kd.C_drew ?_))); (case side2 => rw [show t257.length = t242.length from (Kd.Q_reads' HO_247001.out).1.symm]; exact (Kd.Q_reads' HO_247001.out).2.1); rintro e w88 ⟨rfl, hb⟩; refine ⟨_, rfl, ?_⟩; replace HO_236001 := am (Kd.R_below (pkR HO_236001.out) hb); replace HO_241001 := am (Kd.Q_below (pkQ HO_241001.out) hb); replace HO_247001 := am (Kd.Q_below (pkQ HO_247001.out) hb); replace BK224 := am (blk_below (pkK BK224.out) hb); replace BK235 := am (blk_below (pkK BK235.out) hb); replace BK240 := am (blk_below (pkK BK240.out) hb); replace BK246 := am (blk_below (pkK BK246.out) hb); replace HB := am (below_step (pkW HB.out) hb); (try clear hb); have hnb89 := NB224_235.out; have hnc89 := NB235_224.out; have hnb90 := NB224_240.out; have hnc90 := NB240_224.out; obtain ⟨hcz91_0, hcz91_1, hfz91_0, hfz91_1⟩ := bk2 BK224.out) | ((with_reducible refine gate_callee (f := 11) rfl ?_); refine goesL_ (some 79) rfl rfl Try.func11 (by kernel_rfl) rfl #[.agg #[.int .i64 a0_0, .slice A0_1 l0_1.length c0_1]] rfl mpx ?_; (with_reducible refine (laws_toClock.calls kj52 a0_0 _ _ l0_1 t259 t260 _ ?side1 ?side2 A79.out).mono ?_); (case side1 => exact pkC (Kd.C_below HR0_1.out HB.out)); (case side2 => exact HC0_1.out); rintro e w92 ⟨v261, rfl, ho0, hb⟩; refine ⟨_, rfl, ?_⟩; have HO262 := am (Kd.R_lower (Kd.R_new' (Kd.R_new' (Kd.R_new' ho0 (Kd.R_lt (pkR HO_236001.out))) (Kd.Q_lt (pkQ HO_241001.out))) (Kd.Q_lt (pkQ HO_247001.out))) (below_size (pkW HB.out))); replace HO_236001 := am (Kd.R_elder' (pkR HO_236001.out) (Kd.R_base ho0) hb); replace HO_241001 := am (Kd.Q_elder' (pkQ HO_241001.out) (Kd.R_base ho0) hb); replace HO_247001 := am (Kd.Q_elder' (pkQ HO_247001.out) (Kd.R_base ho0) hb); replace BK224 := am (blk_below (pkK BK224.out) hb); replace BK235 := am (blk_below (pkK BK235.out) hb); replace BK240 := am (blk_below (pkK BK240.out) hb); replace BK246 := am (blk_below (pkK BK246.out) hb); replace HB := am (below_step (pkW HB.out) hb); (try clear hb ho0); obtain ⟨Ao93, co93, eo93⟩ := Kd.R_slice HO262.out; subst eo93) | ((with_reducible refine gate_callee (f := 15) rfl ?_); refine goesL_ (some 81) rfl rfl Try.func15 (by kernel_rfl) rfl #[.agg #[.int .i64 t259, .slice Ao93 t260.length co93], .int .i64 a1] rfl mpx ?_; (with_reducible refine (impl_StopTimer.calls kj52 t259 _ _ t260 a1 t263 t264 t267 _ ?side1 ?side2 A80.out).mono ?_); (case side1 => exact pkC (Kd.R_reads' HO262.out).2.2); (case side2 => exact (Kd.R_reads' HO262.out).2.1); rintro e w94 ⟨v265, rfl, ho0, hb⟩; refine ⟨_, rfl, ?_⟩; have HO266 := am (Kd.R_lower (Kd.R_new' (Kd.R_new' (Kd.R_new' (Kd.R_new' ho0 (Kd.R_lt (pkR HO_236001.out))) (Kd.Q_lt (pkQ HO_241001.out))) (Kd.Q_lt (pkQ HO_247001.out))) (Kd.R_lt (pkR HO262.out))) (below_size (pkW HB.out))); replace HO_236001 := am (Kd.R_elder' (pkR HO_236001.out) (Kd.R_base ho0) hb); replace HO_241001 := am (Kd.Q_elder' (pkQ HO_241001.out) (Kd.R_base ho0) hb); replace HO_247001 := am (Kd.Q_elder' (pkQ HO_247001.out) (Kd.R_base ho0) hb); replace HO262 := am (Kd.R_elder' (pkR HO262.out) (Kd.R_base ho0) hb); replace BK224 := am (blk_below (pkK BK224.out) hb); replace BK235 := am (blk_below (pkK BK235.out) hb); replace BK240 := am (blk_below (pkK BK240.out) hb); replace BK246 := am (blk_below (pkK BK246.out) hb); replace HB := am (below_step (pkW HB.out) hb); (try clear hb ho0)) | ((with_reducible refine gate_dst (N := 14) rfl ?_); refine box_event ?hg (N := 14) ?hd (cs := #[.int .i64 0, .slice none 0 0]) (t := 29) ?hr ?_; (case hd => rfl); (case hg => rfl); (case hr => first | (go_simp; done) | (go_simp; rfl)); intro gb268 hg w95 hbox hb; replace HO_236001 := am (Kd.R_below (pkR HO_236001.out) hb); replace HO_241001 := am (Kd.Q_below (pkQ HO_241001.out) hb); replace HO_247001 := am (Kd.Q_below (pkQ HO_247001.out) hb); replace HO262 := am (Kd.R_below (pkR HO262.out) hb); replace HO266 := am (Kd.R_below (pkR HO266.out) hb); have BK268 := am (hbox); have GW268 := am ((by rw [hg]; exact (below_size (pkW HB.out)) : w.heap.size ≤ gb268)); have GE268 := am ((by rw [hg]; exact (below_size (pkW HB.out)) : w.heap.size ≤ gb268)); replace HB := am (below_step (pkW HB.out) hb); have NB224_268 := am ((by rw [hg]; exact Nat.ne_of_lt (blk_lt (g := gb224) (o := .cells #[.int .i64 a0_0, .slice A0_1 l0_1.length c0_1] 24 (0, 0)) (pkK BK224.out)) : gb224 ≠ gb268)); have NB268_224 := am ((by rw [hg]; exact Nat.ne_of_gt (blk_lt (g := gb224) (o := .cells #[.int .i64 a0_0, .slice A0_1 l0_1.length c0_1] 24 (0, 0)) (pkK BK224.out)) : gb268 ≠ gb224)); replace BK224 := am (blk_below (pkK BK224.out) hb); have NB235_268 := am ((by rw [hg]; exact Nat.ne_of_lt (blk_lt (g := gb235) (o := .cells #[.int .i64 t230, .slice Ao23 t231.length co23] 29 (0, 0)) (pkK BK235.out)) : gb235 ≠ gb268)); have NB268_235 := am ((by rw [hg]; exact Nat.ne_of_gt (blk_lt (g := gb235) (o := .cells #[.int .i64 t230, .slice Ao23 t231.length co23] 29 (0, 0)) (pkK BK235.out)) : gb268 ≠ gb235)); replace BK235 := am (blk_below (pkK BK235.out) hb); have NB240_268 := am ((by rw [hg]; exact Nat.ne_of_lt (blk_lt (g := gb240) (o := .cells #[.int .i64 t236, .slice Ao30 t254.length co30] 29 (0, 0)) (pkK BK240.out)) : gb240 ≠ gb268)); have NB268_240 := am ((by rw [hg]; exact Nat.ne_of_gt (blk_lt (g := gb240) (o := .cells #[.int .i64 t236, .slice Ao30 t254.length co30] 29 (0, 0)) (pkK BK240.out)) : gb268 ≠ gb240)); replace BK240 := am (blk_below (pkK BK240.out) hb); have NB246_268 := am ((by rw [hg]; exact Nat.ne_of_lt (blk_lt (g := gb246) (o := .cells #[.int .i64 t241, .slice Ao37 t242.length co37] 29 (0, 0)) (pkK BK246.out)) : gb246 ≠ gb268)); have NB268_246 := am ((by rw [hg]; exact Nat.ne_of_gt (blk_lt (g := gb246) (o := .cells #[.int .i64 t241, .slice Ao37 t242.length co37] 29 (0, 0)) (pkK BK246.out)) : gb268 ≠ gb246)); replace BK246 := am (blk_below (pkK BK246.out) hb); clear hb hbox hg; have hnb96 := NB268_224.out; have hnc96 := NB224_268.out; have hnb97 := NB268_235.out; have hnc97 := NB235_268.out; have hnb98 := NB268_240.out; have hnc98 := NB240_268.out; have hnb99 := NB268_246.out; have hnc99 := NB246_268.out; obtain ⟨hcz100_0, hcz100_1, hfz100_0, hfz100_1⟩ := bk2 BK268.out; obtain ⟨Ao101, co101, eo101⟩ := Kd.R_slice HO266.out; subst eo101))
           (try simp only [Act.put, List.setIfInBounds_toArray, List.set_cons_zero, List.set_cons_succ])
           go_cut [92] (fun v92 wc => ∃ (kq : Nat) (x92_80 : Bool), v92 = .bool x92_80 ∧ Aside0 (laws_FnExactStopTimer.j2 kq t256 x92_80 t241 t257 = some r) ∧ Aside0 (kq ≤ kj52) ∧ Aside0 (Kd.R k46 46 wc w.heap.size (fun k_ => some k_ ≠ ((.slice Ao30 t254.length co30) : Value).ownBlock ∧ some k_ ≠ ((.slice Ao37 t242.length co37) : Value).ownBlock ∧ some k_ ≠ ((.slice Ao101 t264.length co101) : Value).ownBlock) (.slice Ao23 t231.length co23) t231) ∧ Aside0 (Kd.Q k46 46 wc w.heap.size (fun k_ => some k_ ≠ ((.slice Ao23 t231.length co23) : Value).ownBlock ∧ some k_ ≠ ((.slice Ao37 t242.length co37) : Value).ownBlock ∧ some k_ ≠ ((.slice Ao101 t264.length co101) : Value).ownBlock) (.slice Ao30 t254.length co30) t254) ∧ Aside0 (Kd.Q k46 46 wc w.heap.size (fun k_ => some k_ ≠ ((.slice Ao23 t231.length co23) : Value).ownBlock ∧ some k_ ≠ ((.slice Ao30 t254.length co30) : Value).ownBlock ∧ some k_ ≠ ((.slice Ao101 t264.length co101) : Value).ownBlock) (.slice Ao37 t242.length co37) t257) ∧ Aside0 (Kd.R k46 46 wc w.heap.size (fun k_ => some k_ ≠ ((.slice Ao23 t231.length co23) : Value).ownBlock ∧ some k_ ≠ ((.slice Ao30 t254.length co30) : Value).ownBlock ∧ some k_ ≠ ((.slice Ao37 t242.length co37) : Value).ownBlock) (.slice Ao101 t264.length co101) t264) ∧ Aside0 (wc.heap[gb224]? = some (.cells #[.int .i64 a0_0, (.slice A0_1 l0_1.length c0_1)] 24 (0, 0))) ∧ Aside0 (wc.heap[gb235]? = some (.cells #[.int .i64 t230, (.slice Ao23 t231.length co23)] 29 (0, 0))) ∧ Aside0 (wc.heap[gb240]? = some (.cells #[.int .i64 t236, (.slice Ao30 t254.length co30)] 29 (0, 0))) ∧ Aside0 (wc.heap[gb246]? = some (.cells #[.int .i64 t241, (.slice Ao37 t242.length co37)] 29 (0, 0))) ∧ Aside0 (wc.heap[gb268]? = some (.cells #[.int .i64 t263, (.slice Ao101 t264.length co101)] 29 (0, 0))) ∧ Aside0 (Below w.heap.size w wc))
           case first =>
            have H := HC81.out
            clear HC81
            replace H := Option.bind_eq_some_iff.mp H
            obtain ⟨t269, A1020, H⟩ := H
            replace H : (if t269 = true then (laws_FnExactStopTimer.j2 kj52 t256 (t267 != t234) t241 t257) else (laws_FnExactStopTimer.j2 kj52 t256 true t241 t257)) = some r := H
            have A102 := am A1020
            clear A1020
            by_cases c103 : t269 = true
            ·subst c103
             replace H : (laws_FnExactStopTimer.j2 kj52 t256 (t267 != t234) t241 t257) = some r := by rw [if_pos rfl] at H; exact H
             have H' := am H
             clear H
             have hnb104 := NB268_224.out
             have hnc104 := NB224_268.out
             have hnb105 := NB268_235.out
             have hnc105 := NB235_268.out
             have hnb106 := NB268_240.out
             have hnc106 := NB240_268.out
             have hnb107 := NB268_246.out
             have hnc107 := NB246_268.out
             obtain ⟨hcz108_0, hcz108_1, hfz108_0, hfz108_1⟩ := bk2 BK268.out
             have hnb109 := NB235_224.out
             have hnc109 := NB224_235.out
             have hnb110 := NB235_240.out
             have hnc110 := NB240_235.out
             have hnb111 := NB235_246.out
             have hnc111 := NB246_235.out
             obtain ⟨hcz112_0, hcz112_1, hfz112_0, hfz112_1⟩ := bk2 BK235.out
             go_wp2_with (first | ((with_reducible refine gate_callee (f := 13) rfl ?_); refine goesL_ (some 86) rfl rfl Try.func13 (by kernel_rfl) rfl #[.agg #[.int .i64 t263, .slice Ao101 t264.length co101], .agg #[.int .i64 t230, .slice Ao23 t231.length co23]] rfl mpx ?_; (with_reducible refine (laws_eqClock.calls kj52 t263 _ _ t264 t230 _ _ t231 true _ ?side1 ?side2 ?side3 ?side4 A102.out).mono ?_); (case side1 => refine (Kd.R_reads' (e := 46) (base := w.heap.size) (ok := fun k_ => ((((True ∧ some k_ ≠ (.slice Ao23 t231.length co23 : Value).ownBlock) ∧ some k_ ≠ (.slice Ao30 t254.length co30 : Value).ownBlock) ∧ some k_ ≠ (.slice Ao37 t242.length co37 : Value).ownBlock) ∧ some k_ ≠ (.slice Ao93 t260.length co93 : Value).ownBlock)) (n := t264.length) (c := co101) ?_).2.2; exact (by (with_reducible repeat (first | apply Kd.R_alloc | apply Kd.R_drewN | apply Kd.R_drew)); exact (Kd.R_mono (Kd.R_far (p := ⟨gb268, 1, none⟩) (Kd.R_far (p := ⟨gb268, 0, none⟩) (Kd.R_types HO266.out BK268.out (by decide)) (fun _ hk => hk.2) (.int .i64 t263)) (fun _ hk => hk.2) (.slice Ao101 t264.length co101)) (fun _ h_ => h_.1)))); (case side2 => exact (Kd.R_reads' HO266.out).2.1); (case side3 => refine (Kd.R_reads' (e := 46) (base := w.heap.size) (ok := fun k_ => (((some k_ ≠ (.slice Ao30 t254.length co30 : Value).ownBlock ∧ some k_ ≠ (.slice Ao37 t242.length co37 : Value).ownBlock) ∧ some k_ ≠ (.slice Ao93 t260.length co93 : Value).ownBlock) ∧ some k_ ≠ (.slice Ao101 t264.length co101 : Value).ownBlock)) (n := t231.length) (c := co23) ?_).2.2; exact (by (with_reducible repeat (first | apply Kd.R_alloc | apply Kd.R_drewN | apply Kd.R_drew)); exact (Kd.R_mono (Kd.R_far (p := ⟨gb268, 1, none⟩) (Kd.R_far (p := ⟨gb268, 0, none⟩) (Kd.R_types HO_236001.out BK268.out (by decide)) (fun _ hk => hk.2) (.int .i64 t263)) (fun _ hk => hk.2) (.slice Ao101 t264.length co101)) (fun _ h_ => h_.1)))); (case side4 => exact (Kd.R_reads' HO_236001.out).2.1); rintro e w113 ⟨rfl, hb⟩; refine ⟨_, rfl, ?_⟩; replace HO_236001 := am (Kd.R_below (by (with_reducible repeat (first | apply Kd.R_alloc | apply Kd.R_drewN | apply Kd.R_drew)); exact (Kd.R_mono (Kd.R_far (p := ⟨gb268, 1, none⟩) (Kd.R_far (p := ⟨gb268, 0, none⟩) (Kd.R_types HO_236001.out BK268.out (by decide)) (fun _ hk => hk.2) (.int .i64 t263)) (fun _ hk => hk.2) (.slice Ao101 t264.length co101)) (fun _ h_ => h_.1))) hb); replace HO_241001 := am (Kd.Q_below (by (with_reducible repeat (first | apply Kd.Q_alloc | apply Kd.Q_drewN | apply Kd.Q_drew)); exact (Kd.Q_mono (Kd.Q_far (p := ⟨gb268, 1, none⟩) (Kd.Q_far (p := ⟨gb268, 0, none⟩) (Kd.Q_types HO_241001.out BK268.out (by decide)) (fun _ hk => hk.2) (.int .i64 t263)) (fun _ hk => hk.2) (.slice Ao101 t264.length co101)) (fun _ h_ => h_.1))) hb); replace HO_247001 := am (Kd.Q_below (by (with_reducible repeat (first | apply Kd.Q_alloc | apply Kd.Q_drewN | apply Kd.Q_drew)); exact (Kd.Q_mono (Kd.Q_far (p := ⟨gb268, 1, none⟩) (Kd.Q_far (p := ⟨gb268, 0, none⟩) (Kd.Q_types HO_247001.out BK268.out (by decide)) (fun _ hk => hk.2) (.int .i64 t263)) (fun _ hk => hk.2) (.slice Ao101 t264.length co101)) (fun _ h_ => h_.1))) hb); replace HO262 := am (Kd.R_below (by (with_reducible repeat (first | apply Kd.R_alloc | apply Kd.R_drewN | apply Kd.R_drew)); exact (Kd.R_mono (Kd.R_far (p := ⟨gb268, 1, none⟩) (Kd.R_far (p := ⟨gb268, 0, none⟩) (Kd.R_types HO262.out BK268.out (by decide)) (fun _ hk => hk.2) (.int .i64 t263)) (fun _ hk => hk.2) (.slice Ao101 t264.length co101)) (fun _ h_ => h_.1))) hb); replace HO266 := am (Kd.R_below (by (with_reducible repeat (first | apply Kd.R_alloc | apply Kd.R_drewN | apply Kd.R_drew)); exact (Kd.R_mono (Kd.R_far (p := ⟨gb268, 1, none⟩) (Kd.R_far (p := ⟨gb268, 0, none⟩) (Kd.R_types HO266.out BK268.out (by decide)) (fun _ hk => hk.2) (.int .i64 t263)) (fun _ hk => hk.2) (.slice Ao101 t264.length co101)) (fun _ h_ => h_.1))) hb); replace BK224 := am (blk_below (g := gb224) (o := .cells #[.int .i64 a0_0, .slice A0_1 l0_1.length c0_1] 24 (0, 0)) (by (with_reducible repeat (first | refine blk_drewN ?_ _ | refine blk_drew ?_ | refine blk_alloc ?_ _)); refine blk_far ?_ NB224_268.out _; (with_reducible repeat (first | refine blk_drewN ?_ _ | refine blk_drew ?_ | refine blk_alloc ?_ _)); refine blk_far ?_ NB224_268.out _; exact pkK BK224.out) hb); replace BK235 := am (blk_below (g := gb235) (o := .cells #[.int .i64 t230, .slice Ao23 t231.length co23] 29 (0, 0)) (by (with_reducible repeat (first | refine blk_drewN ?_ _ | refine blk_drew ?_ | refine blk_alloc ?_ _)); refine blk_far ?_ NB235_268.out _; (with_reducible repeat (first | refine blk_drewN ?_ _ | refine blk_drew ?_ | refine blk_alloc ?_ _)); refine blk_far ?_ NB235_268.out _; exact pkK BK235.out) hb); replace BK240 := am (blk_below (g := gb240) (o := .cells #[.int .i64 t236, .slice Ao30 t254.length co30] 29 (0, 0)) (by (with_reducible repeat (first | refine blk_drewN ?_ _ | refine blk_drew ?_ | refine blk_alloc ?_ _)); refine blk_far ?_ NB240_268.out _; (with_reducible repeat (first | refine blk_drewN ?_ _ | refine blk_drew ?_ | refine blk_alloc ?_ _)); refine blk_far ?_ NB240_268.out _; exact pkK BK240.out) hb); replace BK246 := am (blk_below (g := gb246) (o := .cells #[.int .i64 t241, .slice Ao37 t242.length co37] 29 (0, 0)) (by (with_reducible repeat (first | refine blk_drewN ?_ _ | refine blk_drew ?_ | refine blk_alloc ?_ _)); refine blk_far ?_ NB246_268.out _; (with_reducible repeat (first | refine blk_drewN ?_ _ | refine blk_drew ?_ | refine blk_alloc ?_ _)); refine blk_far ?_ NB246_268.out _; exact pkK BK246.out) hb); replace BK268 := am (blk_below (g := gb268) (o := .cells #[.int .i64 t263, .slice Ao101 t264.length co101] 29 (0, 0)) (by (with_reducible repeat (first | refine blk_drewN ?_ _ | refine blk_drew ?_ | refine blk_alloc ?_ _)); refine blk_put (cs := #[.int .i64 t263, .slice none 0 0]) ?_ 1 _ rfl; (with_reducible repeat (first | refine blk_drewN ?_ _ | refine blk_drew ?_ | refine blk_alloc ?_ _)); refine blk_put (cs := #[.int .i64 0, .slice none 0 0]) ?_ 0 _ rfl; exact pkK BK268.out) hb); replace HB := am (below_step (pkW HB.out) hb); (try clear hb)))
             go_meet
             case rel => exact ⟨_, ((t267 != t234)), rfx, H', ⟨by have := HJ11.out; have := HJ52.out; first | omega | exact Nat.le_refl _⟩, ⟨by (try simp only [hl241001_52]); (with_reducible repeat (first | apply Kd.R_alloc | apply Kd.R_drewN | apply Kd.R_drew)); exact Kd.R_mono HO_236001.out (fun _ hk => ⟨hk.1.1.1, ⟨hk.1.1.2, hk.2⟩⟩)⟩, ⟨by (try simp only [hl241001_52]); (with_reducible repeat (first | apply Kd.Q_alloc | apply Kd.Q_drewN | apply Kd.Q_drew)); exact Kd.Q_mono HO_241001.out (fun _ hk => ⟨hk.1.1.1, ⟨hk.1.1.2, hk.2⟩⟩)⟩, ⟨by (try simp only [hl241001_52]); (with_reducible repeat (first | apply Kd.Q_alloc | apply Kd.Q_drewN | apply Kd.Q_drew)); exact Kd.Q_mono HO_247001.out (fun _ hk => ⟨hk.1.1.1, ⟨hk.1.1.2, hk.2⟩⟩)⟩, ⟨by (try simp only [hl241001_52]); (with_reducible repeat (first | apply Kd.R_alloc | apply Kd.R_drewN | apply Kd.R_drew)); exact Kd.R_mono HO266.out (fun _ hk => ⟨hk.1.1.1.2, ⟨hk.1.1.2, hk.1.2⟩⟩)⟩, ⟨by (try simp only [hl241001_52]); exact pkK BK224.out⟩, ⟨by (try simp only [hl241001_52]); exact pkK BK235.out⟩, ⟨by (try simp only [hl241001_52]); exact pkK BK240.out⟩, ⟨by (try simp only [hl241001_52]); exact pkK BK246.out⟩, ⟨by (try simp only [hl241001_52]); exact pkK BK268.out⟩, ⟨pkW HB.out⟩⟩
            ·replace c103 := Bool.eq_false_iff.mpr c103
             subst c103
             replace H : (laws_FnExactStopTimer.j2 kj52 t256 true t241 t257) = some r := by rw [if_neg (show ¬ (false = true) by decide)] at H; exact H
             cases kj52 with
             | zero => exact absurd H (by simp [laws_FnExactStopTimer.j2])
             | succ k_ => (simp only [laws_FnExactStopTimer.j2, if_pos] at H; exact absurd (Option.some.inj H) (by rw [HQ_.out]; simp))
           case rest =>
            clear HC81
            try clear c1
            try clear c2
            try clear p2
            try clear c3
            try clear c4
            try clear c4b0
            try clear c5
            try clear c6
            try clear c7
            try clear c8
            try clear c9
            try clear c10
            try clear c11
            try clear c13
            try clear c14
            try clear c15
            try clear c16
            try clear c17
            try clear c21
            try clear c27
            try clear c28
            try clear c33
            try clear c34
            try clear c35
            try clear c39
            try clear c40
            try clear c41
            try clear c42
            try clear c44
            try clear c45
            try clear c48
            try clear c51
            try clear c58
            try clear c59
            try clear c60
            try clear c63
            try clear c63b0
            try clear c65
            try clear c66
            try clear c67
            try clear c68
            try clear c70
            try clear c71
            try clear c74
            try clear c77
            try clear c77b0
            try clear c78
            try clear c78b0
            try clear c78b1
            try clear c82
            try clear c83
            try clear c84
            try clear c89
            try clear c90
            try clear c96
            try clear c97
            try clear c98
            try clear c99
            try clear c103
            try clear c104
            try clear c105
            try clear c106
            try clear c107
            try clear c109
            try clear c110
            try clear c111
            try clear hcz100_0
            try clear hcz100_1
            try clear hcz108_0
            try clear hcz108_1
            try clear hcz112_0
            try clear hcz112_1
            try clear hcz14_0
            try clear hcz14_1
            try clear hcz16_0
            try clear hcz16_1
            try clear hcz22_0
            try clear hcz22_1
            try clear hcz24_0
            try clear hcz24_1
            try clear hcz29_0
            try clear hcz29_1
            try clear hcz36_0
            try clear hcz36_1
            try clear hcz43_0
            try clear hcz43_1
            try clear hcz46_0
            try clear hcz46_1
            try clear hcz61_0
            try clear hcz61_1
            try clear hcz69_0
            try clear hcz69_1
            try clear hcz6_0
            try clear hcz6_1
            try clear hcz72_0
            try clear hcz72_1
            try clear hcz85_0
            try clear hcz85_1
            try clear hcz87_0
            try clear hcz87_1
            try clear hcz91_0
            try clear hcz91_1
            try clear hfz100_0
            try clear hfz100_1
            try clear hfz108_0
            try clear hfz108_1
            try clear hfz112_0
            try clear hfz112_1
            try clear hfz14_0
            try clear hfz14_1
            try clear hfz16_0
            try clear hfz16_1
            try clear hfz22_0
            try clear hfz22_1
            try clear hfz24_0
            try clear hfz24_1
            try clear hfz29_0
            try clear hfz29_1
            try clear hfz36_0
            try clear hfz36_1
            try clear hfz43_0
            try clear hfz43_1
            try clear hfz46_0
            try clear hfz46_1
            try clear hfz61_0
            try clear hfz61_1
            try clear hfz69_0
            try clear hfz69_1
            try clear hfz6_0
            try clear hfz6_1
            try clear hfz72_0
            try clear hfz72_1
            try clear hfz85_0
            try clear hfz85_1
            try clear hfz87_0
            try clear hfz87_1
            try clear hfz91_0
            try clear hfz91_1
            try clear p2
            obtain ⟨kq, x92_80, rfl, HA, HJ80, HO_236001, HO_241001, HO_247001, HO_269001, BK224, BK235, BK240, BK246, BK268, HB⟩ := hcut
            have hl247001_80 := (Kd.Q_reads' HO_247001.out).1
            rw [hl247001_80] at HO_247001
            (try simp only [hl247001_80])
            (try simp only [hl247001_80] at BK224)
            (try simp only [hl247001_80] at BK235)
            (try simp only [hl247001_80] at BK240)
            (try simp only [hl247001_80] at BK246)
            (try simp only [hl247001_80] at BK268)
            (try simp only [hl247001_80] at HO_236001)
            (try simp only [hl247001_80] at HO_241001)
            (try simp only [hl247001_80] at HO_269001)
            cases kq with
            | zero => exact absurd HA.out (by simp [laws_FnExactStopTimer.j2])
            | succ kj80 =>
             have H := HA.out
             clear HA
             simp only [laws_FnExactStopTimer.j2] at H
             by_cases c114 : x92_80 = true
             ·subst c114
              replace H : (some false) = some r := by rw [if_pos rfl] at H; exact H
              exact absurd (Option.some.inj H) (by rw [HQ_.out]; simp)
             ·replace c114 := Bool.eq_false_iff.mpr c114
              subst c114
              replace H : ((laws_heldClock.f kj80 t241 t257 1).bind fun t270 => (if t270 < 0 then (some false) else (if t270 = t256 then (some true) else (some false)))) = some r := by rw [if_neg (show ¬ (false = true) by decide)] at H; exact H
              replace H := Option.bind_eq_some_iff.mp H
              obtain ⟨t270, A1150, H⟩ := H
              replace H : (if t270 < 0 then (some false) else (if t270 = t256 then (some true) else (some false))) = some r := H
              have A115 := am A1150
              clear A1150
              by_cases c116 : t270 < 0
              ·rw [if_pos c116] at H
               have c116b0 : decide (t270 < 0) = true := decide_eq_true c116
               clear c116
               exact absurd (Option.some.inj H) (by rw [HQ_.out]; simp)
              ·rw [if_neg c116] at H
               have c116b0 : decide (t270 < 0) = false := decide_eq_false c116
               clear c116
               by_cases c117 : t270 = t256
               ·rw [if_pos c117] at H
                have c117b0 : (t270 == t256) = true := beq_iff_eq.mpr c117
                have c117b1 : (t270 != t256) = false := bne_eq_false_iff_eq.mpr c117
                clear c117
                obtain rfl := Option.some.inj H
                have hnb118 := NB246_224.out
                have hnc118 := NB224_246.out
                have hnb119 := NB246_235.out
                have hnc119 := NB235_246.out
                have hnb120 := NB246_240.out
                have hnc120 := NB240_246.out
                have hnb121 := NB246_268.out
                have hnc121 := NB268_246.out
                obtain ⟨hcz122_0, hcz122_1, hfz122_0, hfz122_1⟩ := bk2 BK246.out
                go_wp2_with (first | ((with_reducible refine gate_callee (f := 17) rfl ?_); refine goesL_ (some 95) rfl rfl Try.func17 (by kernel_rfl) rfl #[.agg #[.int .i64 t241, .slice Ao37 t257.length co37], .int .i64 1] rfl mpx ?_; (with_reducible refine (laws_heldClock.calls kj80 t241 _ _ t257 1 t270 _ ?side1 ?side2 A115.out).mono ?_); (case side1 => repeat (first | exact (Kd.Q_reads' HO_247001.out).2.2 | (with_reducible refine Kd.C_alloc ?_ _) | (with_reducible refine Kd.C_drewN ?_ _) | (with_reducible refine Kd.C_drew ?_))); (case side2 => exact (Kd.Q_reads' HO_247001.out).2.1); rintro e w123 ⟨rfl, hb⟩; refine ⟨_, rfl, ?_⟩; replace HO_236001 := am (Kd.R_below (pkR HO_236001.out) hb); replace HO_241001 := am (Kd.Q_below (pkQ HO_241001.out) hb); replace HO_247001 := am (Kd.Q_below (pkQ HO_247001.out) hb); replace HO_269001 := am (Kd.R_below (pkR HO_269001.out) hb); replace BK224 := am (blk_below (pkK BK224.out) hb); replace BK235 := am (blk_below (pkK BK235.out) hb); replace BK240 := am (blk_below (pkK BK240.out) hb); replace BK246 := am (blk_below (pkK BK246.out) hb); replace BK268 := am (blk_below (pkK BK268.out) hb); replace HB := am (below_step (pkW HB.out) hb); (try clear hb)))
                go_ret
                exact ⟨rfe, pkW HB.out⟩
               ·rw [if_neg c117] at H
                have c117b0 : (t270 == t256) = false := beq_eq_false_iff_ne.mpr c117
                have c117b1 : (t270 != t256) = true := bne_iff_ne.mpr c117
                exact absurd (Option.some.inj H) (by rw [HQ_.out]; simp)
          ·rw [if_neg c78] at H
           have c78b0 : (t258 == t256) = false := beq_eq_false_iff_ne.mpr c78
           have c78b1 : (t258 != t256) = true := bne_iff_ne.mpr c78
           exact absurd (Option.some.inj H) (by rw [HQ_.out]; simp)
     ·replace c51 := Bool.eq_false_iff.mpr c51
      subst c51
      replace H : (some false) = some r := by rw [if_neg (show ¬ (false = true) by decide)] at H; exact H
      exact absurd (Option.some.inj H) (by rw [HQ_.out]; simp)
end Go.Proofs.Ytfgjfheiekhmlaa.Z
