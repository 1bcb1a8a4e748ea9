/- The Go functions laws_FnExactNotifyOk as Lean functions, each with a proof that its code comes to just these answers; conditions: those of each theorem. -/
import Derived.Test.YtdagpmnadapbjaaZx0
import Derived.Test.YtdagpmnadapbjaaZx14
import Derived.Test.YtdagpmnadapbjaaZx15
import Derived.Test.YtdagpmnadapbjaaZx16
import Derived.Test.YtdagpmnadapbjaaZx17
import Derived.Test.YtdagpmnadapbjaaZx20
namespace Go.Proofs.Ytdagpmnadapbjaa.Z
open Go.RowKit Go.Proofs.YtdagpmnadapbjaaW.PrintWords Go.Proofs.YtdagpmnadapbjaaW.PrintLast Go.Proofs.YtdagpmnadapbjaaW.PrintMore
attribute [local go_sem] max2_int min2_int max_two min_two max_three min_three max_four min_four   -- for this text's walks alone
set_option linter.unusedVariables false
set_option linter.unusedSimpArgs false
def laws_FnExactNotifyOk.f (k : Nat) (a0_0 : Bool) (l0_1 : List Int) (l0_2 : List (S84)) (a0_3 : Int) (a0_4 : Int) (a0_5 : Int) : Option (Bool) := (laws_szNotify.f a0_0 l0_1 l0_2 a0_3 a0_4 a0_5 1048576).bind fun t258 => (if t258 < 0 then (some true) else ((laws_toNotify.f k a0_0 l0_1 l0_2 a0_3 a0_4 a0_5).bind fun bt259 => ((spec_NotifyOk.f k bt259.1 bt259.2.1 bt259.2.2.1 bt259.2.2.2.1 bt259.2.2.2.2.1 bt259.2.2.2.2.2).bind fun t269 => ((laws_toNotify.f k a0_0 l0_1 l0_2 a0_3 a0_4 a0_5).bind fun bt270 => ((impl_NotifyOk.f k bt270.1 bt270.2.1 bt270.2.2.1 bt270.2.2.2.1 bt270.2.2.2.2.1 bt270.2.2.2.2.2).bind fun t281 => (if (t281 != t269) = true then (some false) else ((laws_toNotify.f k a0_0 l0_1 l0_2 a0_3 a0_4 a0_5).bind fun bt282 => ((laws_eqNotify.f k bt270.1 bt270.2.1 bt270.2.2.1 bt270.2.2.2.1 bt270.2.2.2.2.1 bt270.2.2.2.2.2 bt282.1 bt282.2.1 bt282.2.2.1 bt282.2.2.2.1 bt282.2.2.2.2.1 bt282.2.2.2.2.2).bind fun t292 => (if t292 = true then (some true) else (some false))))))))))
theorem laws_FnExactNotifyOk.mono : ∀ a0 a1 a2 a3 a4 a5 k, LeO (laws_FnExactNotifyOk.f k a0 a1 a2 a3 a4 a5) (laws_FnExactNotifyOk.f (k + 1) a0 a1 a2 a3 a4 a5) := by
 intro a0 a1 a2 a3 a4 a5 k
 unfold laws_FnExactNotifyOk.f
 repeat' first
   | (with_reducible exact impl_NotifyOk.mono _ _ _ _ _ _ _)
   | (with_reducible exact laws_eqNotify.mono _ _ _ _ _ _ _ _ _ _ _ _ _)
   | (with_reducible exact laws_toNotify.mono _ _ _ _ _ _ _)
   | (with_reducible exact spec_NotifyOk.mono _ _ _ _ _ _ _)
   | (with_reducible exact LeO.refl _)
   | (with_reducible exact LeO.none _)
   | (with_reducible refine LeO.ite ?_ ?_)
   | (with_reducible refine LeO.bind ?_ (fun _ => ?_))
set_option maxHeartbeats 8000000 in
set_option maxRecDepth 100000 in
theorem laws_FnExactNotifyOk.calls (k : Nat) (a0_0 : Bool) (A0_1 : Option Addr) (c0_1 : Nat) (l0_1 : List Int) (A0_2 : Option Addr) (c0_2 : Nat) (l0_2 : List (S84)) (a0_3 : Int) (a0_4 : Int) (a0_5 : Int) (r : Bool) (w : World) (hr0_1 : Kd.C (Kd.int .i64) w A0_1 l0_1.length l0_1) (hc0_1 : l0_1.length ≤ c0_1) (hr0_2 : Kd.C k84 w A0_2 l0_2.length l0_2) (hc0_2 : l0_2.length ≤ c0_2) (HQ_ : Aside0 (r = true)) (h : laws_FnExactNotifyOk.f k a0_0 l0_1 l0_2 a0_3 a0_4 a0_5 = some r) :
  Calls Try.prog 4 #[.agg #[.bool a0_0, .slice A0_1 l0_1.length c0_1, .slice A0_2 l0_2.length c0_2, .int .i64 a0_3, .int .i64 a0_4, .int .i64 a0_5]] w fun e w' => e = .returned (.bool r) ∧ Below w.heap.size w w' := by
 have hu33 := Try.underlying33
 have hu38 := Try.underlying38
 have HR0_1 := am hr0_1
 have HC0_1 := am hc0_1
 clear hr0_1 hc0_1
 have HR0_2 := am hr0_2
 have HC0_2 := am hc0_2
 clear hr0_2 hc0_2
 have HB := am (Below.refl w.heap.size w)
 have H : ((laws_szNotify.f a0_0 l0_1 l0_2 a0_3 a0_4 a0_5 1048576).bind fun t258 => (if t258 < 0 then (some true) else ((laws_toNotify.f k a0_0 l0_1 l0_2 a0_3 a0_4 a0_5).bind fun bt259 => ((spec_NotifyOk.f k bt259.1 bt259.2.1 bt259.2.2.1 bt259.2.2.2.1 bt259.2.2.2.2.1 bt259.2.2.2.2.2).bind fun t269 => ((laws_toNotify.f k a0_0 l0_1 l0_2 a0_3 a0_4 a0_5).bind fun bt270 => ((impl_NotifyOk.f k bt270.1 bt270.2.1 bt270.2.2.1 bt270.2.2.2.1 bt270.2.2.2.2.1 bt270.2.2.2.2.2).bind fun t281 => (if (t281 != t269) = true then (some false) else ((laws_toNotify.f k a0_0 l0_1 l0_2 a0_3 a0_4 a0_5).bind fun bt282 => ((laws_eqNotify.f k bt270.1 bt270.2.1 bt270.2.2.1 bt270.2.2.2.1 bt270.2.2.2.2.1 bt270.2.2.2.2.2 bt282.1 bt282.2.1 bt282.2.2.1 bt282.2.2.2.1 bt282.2.2.2.2.1 bt282.2.2.2.2.2).bind fun t292 => (if t292 = true then (some true) else (some false))))))))))) = some r := h
 clear h
 replace H := Option.bind_eq_some_iff.mp H
 obtain ⟨t258, A20, H⟩ := H
 replace H : (if t258 < 0 then (some true) else ((laws_toNotify.f k a0_0 l0_1 l0_2 a0_3 a0_4 a0_5).bind fun bt259 => ((spec_NotifyOk.f k bt259.1 bt259.2.1 bt259.2.2.1 bt259.2.2.2.1 bt259.2.2.2.2.1 bt259.2.2.2.2.2).bind fun t269 => ((laws_toNotify.f k a0_0 l0_1 l0_2 a0_3 a0_4 a0_5).bind fun bt270 => ((impl_NotifyOk.f k bt270.1 bt270.2.1 bt270.2.2.1 bt270.2.2.2.1 bt270.2.2.2.2.1 bt270.2.2.2.2.2).bind fun t281 => (if (t281 != t269) = true then (some false) else ((laws_toNotify.f k a0_0 l0_1 l0_2 a0_3 a0_4 a0_5).bind fun bt282 => ((laws_eqNotify.f k bt270.1 bt270.2.1 bt270.2.2.1 bt270.2.2.2.1 bt270.2.2.2.2.1 bt270.2.2.2.2.2 bt282.1 bt282.2.1 bt282.2.2.1 bt282.2.2.2.1 bt282.2.2.2.2.1 bt282.2.2.2.2.2).bind fun t292 => (if t292 = true then (some true) else (some false)))))))))) = some r := H
 have A2 := am A20
 clear A20
 by_cases c3 : t258 < 0
 ·rw [if_pos c3] at H
  have c3b0 : decide (t258 < 0) = true := decide_eq_true c3
  clear c3
  obtain rfl := Option.some.inj H
  go_enter Try.func4, Try.ntmps4
  go_wp2_with (first | ((with_reducible refine gate_dst (N := 1) rfl ?_); refine box_event ?hg (N := 1) ?hd (cs := #[.bool a0_0, .slice A0_1 l0_1.length c0_1, .slice A0_2 l0_2.length c0_2, .int .i64 a0_3, .int .i64 a0_4, .int .i64 a0_5]) (t := 33) ?hr ?_; (case hd => rfl); (case hg => rfl); (case hr => first | (go_simp; done) | (go_simp; rfl)); intro gb257 hg w4 hbox hb; have BK257 := am (hbox); have GW257 := am ((by rw [hg]; exact (below_size (pkB HB.out)) : w.heap.size ≤ gb257)); have GE257 := am ((by rw [hg]; exact (below_size (pkB HB.out)) : w.heap.size ≤ gb257)); replace HB := am (below_step (pkB HB.out) hb); clear hb hbox hg; obtain ⟨hcz5_0, hcz5_1, hcz5_2, hcz5_3, hcz5_4, hcz5_5, hfz5_0, hfz5_1, hfz5_2, hfz5_3, hfz5_4, hfz5_5⟩ := bk6 BK257.out) | ((with_reducible refine gate_callee (f := 19) rfl ?_); refine goesL_ (some 9) rfl rfl Try.func19 (by kernel_rfl) rfl #[.agg #[.bool a0_0, .slice A0_1 l0_1.length c0_1, .slice A0_2 l0_2.length c0_2, .int .i64 a0_3, .int .i64 a0_4, .int .i64 a0_5], .int .i64 1048576] rfl mpx ?_; (with_reducible refine (laws_szNotify.calls a0_0 _ _ l0_1 _ _ l0_2 a0_3 a0_4 a0_5 1048576 t258 _ ?side1 ?side2 ?side3 ?side4 A2.out).mono ?_); (case side1 => exact pkC (Kd.C_below HR0_1.out HB.out)); (case side2 => exact HC0_1.out); (case side3 => exact pkC (Kd.C_below HR0_2.out HB.out)); (case side4 => exact HC0_2.out); rintro e w6 ⟨rfl, hb⟩; refine ⟨_, rfl, ?_⟩; replace BK257 := am (blk_below (pkK BK257.out) hb); replace HB := am (below_step (pkW HB.out) hb); (try clear hb)))
  go_ret
  exact ⟨rfe, pkW HB.out⟩
 ·rw [if_neg c3] at H
  have c3b0 : decide (t258 < 0) = false := decide_eq_false c3
  clear c3
  replace H := Option.bind_eq_some_iff.mp H
  obtain ⟨⟨t259, t260, t263, t266, t267, t268⟩, A70, H⟩ := H
  replace H : ((spec_NotifyOk.f k t259 t260 t263 t266 t267 t268).bind fun t269 => ((laws_toNotify.f k a0_0 l0_1 l0_2 a0_3 a0_4 a0_5).bind fun bt270 => ((impl_NotifyOk.f k bt270.1 bt270.2.1 bt270.2.2.1 bt270.2.2.2.1 bt270.2.2.2.2.1 bt270.2.2.2.2.2).bind fun t281 => (if (t281 != t269) = true then (some false) else ((laws_toNotify.f k a0_0 l0_1 l0_2 a0_3 a0_4 a0_5).bind fun bt282 => ((laws_eqNotify.f k bt270.1 bt270.2.1 bt270.2.2.1 bt270.2.2.2.1 bt270.2.2.2.2.1 bt270.2.2.2.2.2 bt282.1 bt282.2.1 bt282.2.2.1 bt282.2.2.2.1 bt282.2.2.2.2.1 bt282.2.2.2.2.2).bind fun t292 => (if t292 = true then (some true) else (some false)))))))) = some r := H
  have A7 := am A70
  clear A70
  replace H := Option.bind_eq_some_iff.mp H
  obtain ⟨t269, A80, H⟩ := H
  replace H : ((laws_toNotify.f k a0_0 l0_1 l0_2 a0_3 a0_4 a0_5).bind fun bt270 => ((impl_NotifyOk.f k bt270.1 bt270.2.1 bt270.2.2.1 bt270.2.2.2.1 bt270.2.2.2.2.1 bt270.2.2.2.2.2).bind fun t281 => (if (t281 != t269) = true then (some false) else ((laws_toNotify.f k a0_0 l0_1 l0_2 a0_3 a0_4 a0_5).bind fun bt282 => ((laws_eqNotify.f k bt270.1 bt270.2.1 bt270.2.2.1 bt270.2.2.2.1 bt270.2.2.2.2.1 bt270.2.2.2.2.2 bt282.1 bt282.2.1 bt282.2.2.1 bt282.2.2.2.1 bt282.2.2.2.2.1 bt282.2.2.2.2.2).bind fun t292 => (if t292 = true then (some true) else (some false))))))) = some r := H
  have A8 := am A80
  clear A80
  replace H := Option.bind_eq_some_iff.mp H
  obtain ⟨⟨t270, t271, t274, t277, t278, t279⟩, A90, H⟩ := H
  replace H : ((impl_NotifyOk.f k t270 t271 t274 t277 t278 t279).bind fun t281 => (if (t281 != t269) = true then (some false) else ((laws_toNotify.f k a0_0 l0_1 l0_2 a0_3 a0_4 a0_5).bind fun bt282 => ((laws_eqNotify.f k t270 t271 t274 t277 t278 t279 bt282.1 bt282.2.1 bt282.2.2.1 bt282.2.2.2.1 bt282.2.2.2.2.1 bt282.2.2.2.2.2).bind fun t292 => (if t292 = true then (some true) else (some false)))))) = some r := H
  have A9 := am A90
  clear A90
  replace H := Option.bind_eq_some_iff.mp H
  obtain ⟨t281, A100, H⟩ := H
  replace H : (if (t281 != t269) = true then (some false) else ((laws_toNotify.f k a0_0 l0_1 l0_2 a0_3 a0_4 a0_5).bind fun bt282 => ((laws_eqNotify.f k t270 t271 t274 t277 t278 t279 bt282.1 bt282.2.1 bt282.2.2.1 bt282.2.2.2.1 bt282.2.2.2.2.1 bt282.2.2.2.2.2).bind fun t292 => (if t292 = true then (some true) else (some false))))) = some r := H
  have A10 := am A100
  clear A100
  by_cases c11 : (t281 != t269) = true
  ·rw [if_pos c11] at H
   have c11b0 : (t281 != t269) = true := c11
   (try (have c11b1 : decide (t281 = t269) = false := by simpa using c11))
   (try (have c11b2 : (t281 == t269) = false := by first | exact bq_t c11 | exact bq_f c11 | simpa using c11))
   (try (have c11b3 : ¬ (t281 = t269) := by simpa using c11))
   clear c11
   exact absurd (Option.some.inj H) (by rw [HQ_.out]; simp)
  ·rw [if_neg c11] at H
   have c11b0 : (t281 != t269) = false := by simpa using c11
   (try (have c11b1 : decide (t281 = t269) = true := by simpa using c11))
   (try (have c11b2 : (t281 == t269) = true := by first | exact bq_t c11 | exact bq_f c11 | simpa using c11))
   clear c11
   replace H := Option.bind_eq_some_iff.mp H
   obtain ⟨⟨t282, t283, t286, t289, t290, t291⟩, A120, H⟩ := H
   replace H : ((laws_eqNotify.f k t270 t271 t274 t277 t278 t279 t282 t283 t286 t289 t290 t291).bind fun t292 => (if t292 = true then (some true) else (some false))) = some r := H
   have A12 := am A120
   clear A120
   replace H := Option.bind_eq_some_iff.mp H
   obtain ⟨t292, A130, H⟩ := H
   replace H : (if t292 = true then (some true) else (some false)) = some r := H
   have A13 := am A130
   clear A130
   by_cases c14 : t292 = true
   ·subst c14
    replace H : (some true) = some r := by rw [if_pos rfl] at H; exact H
    obtain rfl := Option.some.inj H
    go_enter Try.func4, Try.ntmps4
    try go_wp2_with (first | ((with_reducible refine gate_dst (N := 1) rfl ?_); refine box_event ?hg (N := 1) ?hd (cs := #[.bool a0_0, .slice A0_1 l0_1.length c0_1, .slice A0_2 l0_2.length c0_2, .int .i64 a0_3, .int .i64 a0_4, .int .i64 a0_5]) (t := 33) ?hr ?_; (case hd => rfl); (case hg => rfl); (case hr => first | (go_simp; done) | (go_simp; rfl)); intro gb257 hg w15 hbox hb; have BK257 := am (hbox); have GW257 := am ((by rw [hg]; exact (below_size (pkB HB.out)) : w.heap.size ≤ gb257)); have GE257 := am ((by rw [hg]; exact (below_size (pkB HB.out)) : w.heap.size ≤ gb257)); replace HB := am (below_step (pkB HB.out) hb); clear hb hbox hg; obtain ⟨hcz16_0, hcz16_1, hcz16_2, hcz16_3, hcz16_4, hcz16_5, hfz16_0, hfz16_1, hfz16_2, hfz16_3, hfz16_4, hfz16_5⟩ := bk6 BK257.out) | ((with_reducible refine gate_callee (f := 19) rfl ?_); refine goesL_ (some 9) rfl rfl Try.func19 (by kernel_rfl) rfl #[.agg #[.bool a0_0, .slice A0_1 l0_1.length c0_1, .slice A0_2 l0_2.length c0_2, .int .i64 a0_3, .int .i64 a0_4, .int .i64 a0_5], .int .i64 1048576] rfl mpx ?_; (with_reducible refine (laws_szNotify.calls a0_0 _ _ l0_1 _ _ l0_2 a0_3 a0_4 a0_5 1048576 t258 _ ?side1 ?side2 ?side3 ?side4 A2.out).mono ?_); (case side1 => exact pkC (Kd.C_below HR0_1.out HB.out)); (case side2 => exact HC0_1.out); (case side3 => exact pkC (Kd.C_below HR0_2.out HB.out)); (case side4 => exact HC0_2.out); rintro e w17 ⟨rfl, hb⟩; refine ⟨_, rfl, ?_⟩; replace BK257 := am (blk_below (pkK BK257.out) hb); replace HB := am (below_step (pkW HB.out) hb); (try clear hb); obtain ⟨hcz18_0, hcz18_1, hcz18_2, hcz18_3, hcz18_4, hcz18_5, hfz18_0, hfz18_1, hfz18_2, hfz18_3, hfz18_4, hfz18_5⟩ := bk6 BK257.out) | ((with_reducible refine gate_callee (f := 21) rfl ?_); refine goesL_ (some 13) rfl rfl Try.func21 (by kernel_rfl) rfl #[.agg #[.bool a0_0, .slice A0_1 l0_1.length c0_1, .slice A0_2 l0_2.length c0_2, .int .i64 a0_3, .int .i64 a0_4, .int .i64 a0_5]] rfl mpx ?_; (with_reducible refine (laws_toNotify.calls k a0_0 _ _ l0_1 _ _ l0_2 a0_3 a0_4 a0_5 t259 t260 t263 t266 t267 t268 _ ?side1 ?side2 ?side3 ?side4 A7.out).mono ?_); (case side1 => exact pkC (Kd.C_below HR0_1.out HB.out)); (case side2 => exact HC0_1.out); (case side3 => exact pkC (Kd.C_below HR0_2.out HB.out)); (case side4 => exact HC0_2.out); rintro e w19 ⟨v261, v264, rfl, ho0, ho1, hb⟩; refine ⟨_, rfl, ?_⟩; have HO262 := am (Kd.R_lower ho0 (below_size (pkW HB.out))); have HO265 := am (Kd.R_lower ho1 (below_size (pkW HB.out))); replace BK257 := am (blk_below (pkK BK257.out) hb); replace HB := am (below_step (pkW HB.out) hb); (try clear hb ho0 ho1); obtain ⟨Ao20, co20, eo20⟩ := Kd.R_slice HO262.out; subst eo20; obtain ⟨Ao21, co21, eo21⟩ := Kd.R_slice HO265.out; subst eo21) | ((with_reducible refine gate_callee (f := 20) rfl ?_); refine goesL_ (some 14) rfl rfl Try.func20 (by kernel_rfl) rfl #[.agg #[.bool t259, .slice Ao20 t260.length co20, .slice Ao21 t263.length co21, .int .i64 t266, .int .i64 t267, .int .i64 t268]] rfl mpx ?_; (with_reducible refine (spec_NotifyOk.calls k t259 _ _ t260 _ _ t263 t266 t267 t268 t269 _ ?side1 ?side2 ?side3 ?side4 A8.out).mono ?_); (case side1 => exact pkC (Kd.R_reads' HO262.out).2.2); (case side2 => exact (Kd.R_reads' HO262.out).2.1); (case side3 => exact pkC (Kd.R_reads' HO265.out).2.2); (case side4 => exact (Kd.R_reads' HO265.out).2.1); rintro e w22 ⟨rfl, hb⟩; refine ⟨_, rfl, ?_⟩; replace HO262 := am (Kd.R_below (pkR HO262.out) hb); replace HO265 := am (Kd.R_below (pkR HO265.out) hb); replace BK257 := am (blk_below (pkK BK257.out) hb); replace HB := am (below_step (pkW HB.out) hb); (try clear hb); obtain ⟨hcz23_0, hcz23_1, hcz23_2, hcz23_3, hcz23_4, hcz23_5, hfz23_0, hfz23_1, hfz23_2, hfz23_3, hfz23_4, hfz23_5⟩ := bk6 BK257.out) | ((with_reducible refine gate_callee (f := 21) rfl ?_); refine goesL_ (some 16) rfl rfl Try.func21 (by kernel_rfl) rfl #[.agg #[.bool a0_0, .slice A0_1 l0_1.length c0_1, .slice A0_2 l0_2.length c0_2, .int .i64 a0_3, .int .i64 a0_4, .int .i64 a0_5]] rfl mpx ?_; (with_reducible refine (laws_toNotify.calls k a0_0 _ _ l0_1 _ _ l0_2 a0_3 a0_4 a0_5 t270 t271 t274 t277 t278 t279 _ ?side1 ?side2 ?side3 ?side4 A9.out).mono ?_); (case side1 => exact pkC (Kd.C_below HR0_1.out HB.out)); (case side2 => exact HC0_1.out); (case side3 => exact pkC (Kd.C_below HR0_2.out HB.out)); (case side4 => exact HC0_2.out); rintro e w24 ⟨v272, v275, rfl, ho0, ho1, hb⟩; refine ⟨_, rfl, ?_⟩; have HO273 := am (Kd.R_lower (Kd.R_new' ho0 (Kd.R_lt (pkR HO262.out))) (below_size (pkW HB.out))); replace HO262 := am (Kd.R_elder' (pkR HO262.out) (Kd.R_base ho0) hb); have HO276 := am (Kd.R_lower (Kd.R_new' ho1 (Kd.R_lt (pkR HO265.out))) (below_size (pkW HB.out))); replace HO265 := am (Kd.R_elder' (pkR HO265.out) (Kd.R_base ho1) hb); replace BK257 := am (blk_below (pkK BK257.out) hb); replace HB := am (below_step (pkW HB.out) hb); (try clear hb ho0 ho1)) | ((with_reducible refine gate_dst (N := 5) rfl ?_); refine box_event ?hg (N := 5) ?hd (cs := #[.bool false, .slice none 0 0, .slice none 0 0, .int .i64 0, .int .i64 0, .int .i64 0]) (t := 38) ?hr ?_; (case hd => rfl); (case hg => rfl); (case hr => first | (go_simp; done) | (go_simp; rfl)); intro gb280 hg w25 hbox hb; replace HO262 := am (Kd.R_below (pkR HO262.out) hb); replace HO265 := am (Kd.R_below (pkR HO265.out) hb); replace HO273 := am (Kd.R_below (pkR HO273.out) hb); replace HO276 := am (Kd.R_below (pkR HO276.out) hb); have BK280 := am (hbox); have GW280 := am ((by rw [hg]; exact (below_size (pkW HB.out)) : w.heap.size ≤ gb280)); have GE280 := am ((by rw [hg]; exact (below_size (pkW HB.out)) : w.heap.size ≤ gb280)); replace HB := am (below_step (pkW HB.out) hb); have NB257_280 := am ((by rw [hg]; exact Nat.ne_of_lt (blk_lt (g := gb257) (o := .cells #[.bool a0_0, .slice A0_1 l0_1.length c0_1, .slice A0_2 l0_2.length c0_2, .int .i64 a0_3, .int .i64 a0_4, .int .i64 a0_5] 33 (0, 0)) (pkK BK257.out)) : gb257 ≠ gb280)); have NB280_257 := am ((by rw [hg]; exact Nat.ne_of_gt (blk_lt (g := gb257) (o := .cells #[.bool a0_0, .slice A0_1 l0_1.length c0_1, .slice A0_2 l0_2.length c0_2, .int .i64 a0_3, .int .i64 a0_4, .int .i64 a0_5] 33 (0, 0)) (pkK BK257.out)) : gb280 ≠ gb257)); replace BK257 := am (blk_below (pkK BK257.out) hb); clear hb hbox hg; have hnb26 := NB280_257.out; have hnc26 := NB257_280.out; obtain ⟨hcz27_0, hcz27_1, hcz27_2, hcz27_3, hcz27_4, hcz27_5, hfz27_0, hfz27_1, hfz27_2, hfz27_3, hfz27_4, hfz27_5⟩ := bk6 BK280.out; obtain ⟨Ao28, co28, eo28⟩ := Kd.R_slice HO273.out; subst eo28; obtain ⟨Ao29, co29, eo29⟩ := Kd.R_slice HO276.out; subst eo29) | ((with_reducible refine gate_callee (f := 22) rfl ?_); refine goesL_ (some 18) rfl rfl Try.func22 (by kernel_rfl) rfl #[.agg #[.bool t270, .slice Ao28 t271.length co28, .slice Ao29 t274.length co29, .int .i64 t277, .int .i64 t278, .int .i64 t279]] rfl mpx ?_; (with_reducible refine (impl_NotifyOk.calls k t270 _ _ t271 _ _ t274 t277 t278 t279 t281 _ ?side1 ?side2 ?side3 ?side4 A10.out).mono ?_); (case side1 => refine (Kd.R_reads' (e := 3) (base := w.heap.size) (ok := fun k_ => (True ∧ some k_ ≠ (.slice Ao20 t260.length co20 : Value).ownBlock)) (n := t271.length) (c := co28) ?_).2.2; exact (by (with_reducible repeat (first | apply Kd.R_alloc | apply Kd.R_drewN | apply Kd.R_drew)); exact (Kd.R_mono (Kd.R_far (p := ⟨gb280, 5, none⟩) (Kd.R_far (p := ⟨gb280, 4, none⟩) (Kd.R_far (p := ⟨gb280, 3, none⟩) (Kd.R_far (p := ⟨gb280, 2, none⟩) (Kd.R_far (p := ⟨gb280, 1, none⟩) (Kd.R_far (p := ⟨gb280, 0, none⟩) (Kd.R_types HO273.out BK280.out (by decide)) (fun _ hk => hk.2) (.bool t270)) (fun _ hk => hk.2) (.slice Ao28 t271.length co28)) (fun _ hk => hk.2) (.slice Ao29 t274.length co29)) (fun _ hk => hk.2) (.int .i64 t277)) (fun _ hk => hk.2) (.int .i64 t278)) (fun _ hk => hk.2) (.int .i64 t279)) (fun _ h_ => h_.1)))); (case side2 => exact (Kd.R_reads' HO273.out).2.1); (case side3 => refine (Kd.R_reads' (e := 67) (base := w.heap.size) (ok := fun k_ => (True ∧ some k_ ≠ (.slice Ao21 t263.length co21 : Value).ownBlock)) (n := t274.length) (c := co29) ?_).2.2; exact (by (with_reducible repeat (first | apply Kd.R_alloc | apply Kd.R_drewN | apply Kd.R_drew)); exact (Kd.R_mono (Kd.R_far (p := ⟨gb280, 5, none⟩) (Kd.R_far (p := ⟨gb280, 4, none⟩) (Kd.R_far (p := ⟨gb280, 3, none⟩) (Kd.R_far (p := ⟨gb280, 2, none⟩) (Kd.R_far (p := ⟨gb280, 1, none⟩) (Kd.R_far (p := ⟨gb280, 0, none⟩) (Kd.R_types HO276.out BK280.out (by decide)) (fun _ hk => hk.2) (.bool t270)) (fun _ hk => hk.2) (.slice Ao28 t271.length co28)) (fun _ hk => hk.2) (.slice Ao29 t274.length co29)) (fun _ hk => hk.2) (.int .i64 t277)) (fun _ hk => hk.2) (.int .i64 t278)) (fun _ hk => hk.2) (.int .i64 t279)) (fun _ h_ => h_.1)))); (case side4 => exact (Kd.R_reads' HO276.out).2.1); rintro e w30 ⟨rfl, hb⟩; refine ⟨_, rfl, ?_⟩; replace HO262 := am (Kd.R_below (by (with_reducible repeat (first | apply Kd.R_alloc | apply Kd.R_drewN | apply Kd.R_drew)); exact (Kd.R_mono (Kd.R_far (p := ⟨gb280, 5, none⟩) (Kd.R_far (p := ⟨gb280, 4, none⟩) (Kd.R_far (p := ⟨gb280, 3, none⟩) (Kd.R_far (p := ⟨gb280, 2, none⟩) (Kd.R_far (p := ⟨gb280, 1, none⟩) (Kd.R_far (p := ⟨gb280, 0, none⟩) (Kd.R_types HO262.out BK280.out (by decide)) (fun _ hk => hk.2) (.bool t270)) (fun _ hk => hk.2) (.slice Ao28 t271.length co28)) (fun _ hk => hk.2) (.slice Ao29 t274.length co29)) (fun _ hk => hk.2) (.int .i64 t277)) (fun _ hk => hk.2) (.int .i64 t278)) (fun _ hk => hk.2) (.int .i64 t279)) (fun _ h_ => h_.1))) hb); replace HO265 := am (Kd.R_below (by (with_reducible repeat (first | apply Kd.R_alloc | apply Kd.R_drewN | apply Kd.R_drew)); exact (Kd.R_mono (Kd.R_far (p := ⟨gb280, 5, none⟩) (Kd.R_far (p := ⟨gb280, 4, none⟩) (Kd.R_far (p := ⟨gb280, 3, none⟩) (Kd.R_far (p := ⟨gb280, 2, none⟩) (Kd.R_far (p := ⟨gb280, 1, none⟩) (Kd.R_far (p := ⟨gb280, 0, none⟩) (Kd.R_types HO265.out BK280.out (by decide)) (fun _ hk => hk.2) (.bool t270)) (fun _ hk => hk.2) (.slice Ao28 t271.length co28)) (fun _ hk => hk.2) (.slice Ao29 t274.length co29)) (fun _ hk => hk.2) (.int .i64 t277)) (fun _ hk => hk.2) (.int .i64 t278)) (fun _ hk => hk.2) (.int .i64 t279)) (fun _ h_ => h_.1))) hb); replace HO273 := am (Kd.R_below (by (with_reducible repeat (first | apply Kd.R_alloc | apply Kd.R_drewN | apply Kd.R_drew)); exact (Kd.R_mono (Kd.R_far (p := ⟨gb280, 5, none⟩) (Kd.R_far (p := ⟨gb280, 4, none⟩) (Kd.R_far (p := ⟨gb280, 3, none⟩) (Kd.R_far (p := ⟨gb280, 2, none⟩) (Kd.R_far (p := ⟨gb280, 1, none⟩) (Kd.R_far (p := ⟨gb280, 0, none⟩) (Kd.R_types HO273.out BK280.out (by decide)) (fun _ hk => hk.2) (.bool t270)) (fun _ hk => hk.2) (.slice Ao28 t271.length co28)) (fun _ hk => hk.2) (.slice Ao29 t274.length co29)) (fun _ hk => hk.2) (.int .i64 t277)) (fun _ hk => hk.2) (.int .i64 t278)) (fun _ hk => hk.2) (.int .i64 t279)) (fun _ h_ => h_.1))) hb); replace HO276 := am (Kd.R_below (by (with_reducible repeat (first | apply Kd.R_alloc | apply Kd.R_drewN | apply Kd.R_drew)); exact (Kd.R_mono (Kd.R_far (p := ⟨gb280, 5, none⟩) (Kd.R_far (p := ⟨gb280, 4, none⟩) (Kd.R_far (p := ⟨gb280, 3, none⟩) (Kd.R_far (p := ⟨gb280, 2, none⟩) (Kd.R_far (p := ⟨gb280, 1, none⟩) (Kd.R_far (p := ⟨gb280, 0, none⟩) (Kd.R_types HO276.out BK280.out (by decide)) (fun _ hk => hk.2) (.bool t270)) (fun _ hk => hk.2) (.slice Ao28 t271.length co28)) (fun _ hk => hk.2) (.slice Ao29 t274.length co29)) (fun _ hk => hk.2) (.int .i64 t277)) (fun _ hk => hk.2) (.int .i64 t278)) (fun _ hk => hk.2) (.int .i64 t279)) (fun _ h_ => h_.1))) hb); replace BK257 := am (blk_below (g := gb257) (o := .cells #[.bool a0_0, .slice A0_1 l0_1.length c0_1, .slice A0_2 l0_2.length c0_2, .int .i64 a0_3, .int .i64 a0_4, .int .i64 a0_5] 33 (0, 0)) (by (with_reducible repeat (first | refine blk_drewN ?_ _ | refine blk_drew ?_ | refine blk_alloc ?_ _)); refine blk_far ?_ NB257_280.out _; (with_reducible repeat (first | refine blk_drewN ?_ _ | refine blk_drew ?_ | refine blk_alloc ?_ _)); refine blk_far ?_ NB257_280.out _; (with_reducible repeat (first | refine blk_drewN ?_ _ | refine blk_drew ?_ | refine blk_alloc ?_ _)); refine blk_far ?_ NB257_280.out _; (with_reducible repeat (first | refine blk_drewN ?_ _ | refine blk_drew ?_ | refine blk_alloc ?_ _)); refine blk_far ?_ NB257_280.out _; (with_reducible repeat (first | refine blk_drewN ?_ _ | refine blk_drew ?_ | refine blk_alloc ?_ _)); refine blk_far ?_ NB257_280.out _; (with_reducible repeat (first | refine blk_drewN ?_ _ | refine blk_drew ?_ | refine blk_alloc ?_ _)); refine blk_far ?_ NB257_280.out _; exact pkK BK257.out) hb); replace BK280 := am (blk_below (g := gb280) (o := .cells #[.bool t270, .slice Ao28 t271.length co28, .slice Ao29 t274.length co29, .int .i64 t277, .int .i64 t278, .int .i64 t279] 38 (0, 0)) (by (with_reducible repeat (first | refine blk_drewN ?_ _ | refine blk_drew ?_ | refine blk_alloc ?_ _)); refine blk_put (cs := #[.bool t270, .slice Ao28 t271.length co28, .slice Ao29 t274.length co29, .int .i64 t277, .int .i64 t278, .int .i64 0]) ?_ 5 _ rfl; (with_reducible repeat (first | refine blk_drewN ?_ _ | refine blk_drew ?_ | refine blk_alloc ?_ _)); refine blk_put (cs := #[.bool t270, .slice Ao28 t271.length co28, .slice Ao29 t274.length co29, .int .i64 t277, .int .i64 0, .int .i64 0]) ?_ 4 _ rfl; (with_reducible repeat (first | refine blk_drewN ?_ _ | refine blk_drew ?_ | refine blk_alloc ?_ _)); refine blk_put (cs := #[.bool t270, .slice Ao28 t271.length co28, .slice Ao29 t274.length co29, .int .i64 0, .int .i64 0, .int .i64 0]) ?_ 3 _ rfl; (with_reducible repeat (first | refine blk_drewN ?_ _ | refine blk_drew ?_ | refine blk_alloc ?_ _)); refine blk_put (cs := #[.bool t270, .slice Ao28 t271.length co28, .slice none 0 0, .int .i64 0, .int .i64 0, .int .i64 0]) ?_ 2 _ rfl; (with_reducible repeat (first | refine blk_drewN ?_ _ | refine blk_drew ?_ | refine blk_alloc ?_ _)); refine blk_put (cs := #[.bool t270, .slice none 0 0, .slice none 0 0, .int .i64 0, .int .i64 0, .int .i64 0]) ?_ 1 _ rfl; (with_reducible repeat (first | refine blk_drewN ?_ _ | refine blk_drew ?_ | refine blk_alloc ?_ _)); refine blk_put (cs := #[.bool false, .slice none 0 0, .slice none 0 0, .int .i64 0, .int .i64 0, .int .i64 0]) ?_ 0 _ rfl; exact pkK BK280.out) hb); replace HB := am (below_step (pkW HB.out) hb); (try clear hb)))
    replace HO262 := am (Kd.R_drew HO262.out)
    replace HO265 := am (Kd.R_drew HO265.out)
    replace HO273 := am (Kd.R_drew HO273.out)
    replace HO276 := am (Kd.R_drew HO276.out)
    replace BK257 := am (blk_drew BK257.out)
    replace BK280 := am (blk_drew BK280.out)
    replace HB := am (below_drew1 HB.out)
    refine start_ (n := 5) (S := fun w' => w'.cell? ⟨gb280, 0, none⟩ = some (.bool t270) ∧ w'.cell? ⟨gb280, 1, none⟩ = some (.slice Ao28 t271.length co28) ∧ w'.cell? ⟨gb280, 2, none⟩ = some (.slice Ao29 t274.length co29) ∧ w'.cell? ⟨gb280, 3, none⟩ = some (.int .i64 t277) ∧ w'.cell? ⟨gb280, 4, none⟩ = some (.int .i64 t278) ∧ w'.cell? ⟨gb280, 5, none⟩ = some (.int .i64 t279) ∧ w'.cell? ⟨gb257, 0, none⟩ = some (.bool a0_0) ∧ w'.cell? ⟨gb257, 1, none⟩ = some (.slice A0_1 l0_1.length c0_1) ∧ w'.cell? ⟨gb257, 2, none⟩ = some (.slice A0_2 l0_2.length c0_2) ∧ w'.cell? ⟨gb257, 3, none⟩ = some (.int .i64 a0_3) ∧ w'.cell? ⟨gb257, 4, none⟩ = some (.int .i64 a0_4) ∧ w'.cell? ⟨gb257, 5, none⟩ = some (.int .i64 a0_5)) (ds := []) #[false, false, false, false, false] (by kernel_rfl) rfl rfl ⟨(blk_cell BK280.out 0).trans rfl, (blk_cell BK280.out 1).trans rfl, (blk_cell BK280.out 2).trans rfl, (blk_cell BK280.out 3).trans rfl, (blk_cell BK280.out 4).trans rfl, (blk_cell BK280.out 5).trans rfl, (blk_cell BK257.out 0).trans rfl, (blk_cell BK257.out 1).trans rfl, (blk_cell BK257.out 2).trans rfl, (blk_cell BK257.out 3).trans rfl, (blk_cell BK257.out 4).trans rfl, (blk_cell BK257.out 5).trans rfl⟩ (fun hHeld => ?_)
    generalize w30.drew = w31 at HO262 HO265 HO273 HO276 BK257 BK280 HB hHeld ⊢
    refine take_ (i := 0) (N := some 22) (v := ?_) (a' := ?_) #[true, false, false, false, false] rfl rfl (by kernel_rfl) (fun _ _ _ h => h) (Or.inl ⟨by rfl, ?_⟩) hHeld ?_ ?_
    rotate_left
    ·rintro w' ⟨s0, s1, s2, s3, s4, s5, s6, s7, s8, s9, s10, s11⟩
     go_simp
     with_reducible rfl
    rotate_left
    ·simp only [Act.put, List.setIfInBounds_toArray, List.set_cons_zero, List.set_cons_succ, i64_w, i32_w]
     rfl
    refine take_ (i := 1) (N := some 23) (v := ?_) (a' := ?_) #[true, true, false, false, false] rfl rfl (by kernel_rfl) (fun _ _ _ h => h) (Or.inl ⟨by rfl, ?_⟩) hHeld ?_ ?_
    rotate_left
    ·rintro w' ⟨s0, s1, s2, s3, s4, s5, s6, s7, s8, s9, s10, s11⟩
     go_simp
     with_reducible rfl
    rotate_left
    ·simp only [Act.put, List.setIfInBounds_toArray, List.set_cons_zero, List.set_cons_succ, i64_w, i32_w]
     rfl
    refine one_ (i := 2) (N := some 24) #[true, true, true, false, false] rfl rfl (by kernel_rfl) (by decide) (fun K hK => ?_)
    refine goes_ Try.func21 (by kernel_rfl) rfl #[.agg #[.bool a0_0, .slice A0_1 l0_1.length c0_1, .slice A0_2 l0_2.length c0_2, .int .i64 a0_3, .int .i64 a0_4, .int .i64 a0_5]] (by rfl) rfl rfl mpx ?_
    with_reducible refine (laws_toNotify.calls k a0_0 _ _ l0_1 _ _ l0_2 a0_3 a0_4 a0_5 t282 t283 t286 t289 t290 t291 _ ?side1 ?side2 ?side3 ?side4 A12.out).mono ?_
    (case side1 => exact pkC (Kd.C_below HR0_1.out HB.out))
    (case side2 => exact HC0_1.out)
    (case side3 => exact pkC (Kd.C_below HR0_2.out HB.out))
    (case side4 => exact HC0_2.out)
    rintro e w32 ⟨v284, v287, rfl, ho0, ho1, hb⟩
    refine ⟨_, rfl, ?_⟩
    have HO285 := am (Kd.R_lower (Kd.R_new' (Kd.R_new' ho0 (Kd.R_lt (pkR HO262.out))) (Kd.R_lt (pkR HO273.out))) (below_size (pkW HB.out)))
    replace HO262 := am (Kd.R_elder' (pkR HO262.out) (Kd.R_base ho0) hb)
    replace HO273 := am (Kd.R_elder' (pkR HO273.out) (Kd.R_base ho0) hb)
    have HO288 := am (Kd.R_lower (Kd.R_new' (Kd.R_new' ho1 (Kd.R_lt (pkR HO265.out))) (Kd.R_lt (pkR HO276.out))) (below_size (pkW HB.out)))
    replace HO265 := am (Kd.R_elder' (pkR HO265.out) (Kd.R_base ho1) hb)
    replace HO276 := am (Kd.R_elder' (pkR HO276.out) (Kd.R_base ho1) hb)
    replace BK257 := am (blk_below (pkK BK257.out) hb)
    replace BK280 := am (blk_below (pkK BK280.out) hb)
    replace HB := am (below_step (pkW HB.out) hb)
    (try clear hb); (try clear ho0 ho1)
    obtain ⟨Ao33, co33, eo33⟩ := Kd.R_slice HO285.out
    (first | subst eo33 | (injection eo33 with f1_ f2_ f3_; have f4_ := f1_.symm; have f5_ := f3_.symm; clear f1_ f2_ f3_; subst f4_; subst f5_))
    obtain ⟨Ao34, co34, eo34⟩ := Kd.R_slice HO288.out
    (first | subst eo34 | (injection eo34 with f1_ f2_ f3_; have f4_ := f1_.symm; have f5_ := f3_.symm; clear f1_ f2_ f3_; subst f4_; subst f5_))
    refine hK.out _ _ ⟨(blk_cell BK280.out 0).trans rfl, (blk_cell BK280.out 1).trans rfl, (blk_cell BK280.out 2).trans rfl, (blk_cell BK280.out 3).trans rfl, (blk_cell BK280.out 4).trans rfl, (blk_cell BK280.out 5).trans rfl, (blk_cell BK257.out 0).trans rfl, (blk_cell BK257.out 1).trans rfl, (blk_cell BK257.out 2).trans rfl, (blk_cell BK257.out 3).trans rfl, (blk_cell BK257.out 4).trans rfl, (blk_cell BK257.out 5).trans rfl⟩ (fun hHeld => ?_)
    clear hK K
    refine norm_ (a' := ?_) ?_ ?_
    rotate_left
    ·show Act.put _ (some 24) _ = _
     simp only [Act.put, List.setIfInBounds_toArray, List.set_cons_zero, List.set_cons_succ, i64_w, i32_w]
     rfl
    refine one_ (i := 3) (N := some 25) #[true, true, true, true, false] rfl rfl (by kernel_rfl) (by decide) (fun K hK => ?_)
    refine goes_ Try.func23 (by kernel_rfl) rfl #[.agg #[.bool t270, .slice Ao28 t271.length co28, .slice Ao29 t274.length co29, .int .i64 t277, .int .i64 t278, .int .i64 t279], .agg #[.bool t282, .slice Ao33 t283.length co33, .slice Ao34 t286.length co34, .int .i64 t289, .int .i64 t290, .int .i64 t291]] (by rfl) rfl rfl mpx ?_
    with_reducible refine (laws_eqNotify.calls k t270 _ _ t271 _ _ t274 t277 t278 t279 t282 _ _ t283 _ _ t286 t289 t290 t291 true _ ?side1 ?side2 ?side3 ?side4 ?side5 ?side6 ?side7 ?side8 A13.out).mono ?_
    (case side1 => exact pkC (Kd.R_reads' HO273.out).2.2)
    (case side2 => exact (Kd.R_reads' HO273.out).2.1)
    (case side3 => exact pkC (Kd.R_reads' HO276.out).2.2)
    (case side4 => exact (Kd.R_reads' HO276.out).2.1)
    (case side5 => exact pkC (Kd.R_reads' HO285.out).2.2)
    (case side6 => exact (Kd.R_reads' HO285.out).2.1)
    (case side7 => exact pkC (Kd.R_reads' HO288.out).2.2)
    (case side8 => exact (Kd.R_reads' HO288.out).2.1)
    rintro e w35 ⟨rfl, hb⟩
    refine ⟨_, rfl, ?_⟩
    replace HO262 := am (Kd.R_below (pkR HO262.out) hb)
    replace HO265 := am (Kd.R_below (pkR HO265.out) hb)
    replace HO273 := am (Kd.R_below (pkR HO273.out) hb)
    replace HO276 := am (Kd.R_below (pkR HO276.out) hb)
    replace HO285 := am (Kd.R_below (pkR HO285.out) hb)
    replace HO288 := am (Kd.R_below (pkR HO288.out) hb)
    replace BK257 := am (blk_below (pkK BK257.out) hb)
    replace BK280 := am (blk_below (pkK BK280.out) hb)
    replace HB := am (below_step (pkW HB.out) hb)
    (try clear hb)
    refine hK.out _ _ ⟨(blk_cell BK280.out 0).trans rfl, (blk_cell BK280.out 1).trans rfl, (blk_cell BK280.out 2).trans rfl, (blk_cell BK280.out 3).trans rfl, (blk_cell BK280.out 4).trans rfl, (blk_cell BK280.out 5).trans rfl, (blk_cell BK257.out 0).trans rfl, (blk_cell BK257.out 1).trans rfl, (blk_cell BK257.out 2).trans rfl, (blk_cell BK257.out 3).trans rfl, (blk_cell BK257.out 4).trans rfl, (blk_cell BK257.out 5).trans rfl⟩ (fun hHeld => ?_)
    clear hK K
    refine norm_ (a' := ?_) ?_ ?_
    rotate_left
    ·show Act.put _ (some 25) _ = _
     simp only [Act.put, List.setIfInBounds_toArray, List.set_cons_zero, List.set_cons_succ, i64_w, i32_w]
     rfl
    refine pure_ (i := 4) (N := some 26) (v := ?_) (a' := ?_) #[true, true, true, true, true] rfl rfl (by kernel_rfl) (fun _ _ _ h => h) (Or.inl ⟨by rfl, ?_⟩) ?_ ?_
    rotate_left
    ·intro w'
     go_simp
     with_reducible rfl
    rotate_left
    ·simp only [Act.put, List.setIfInBounds_toArray, List.set_cons_zero, List.set_cons_succ, i64_w, i32_w]
     rfl
    refine done_ (by kernel_rfl) ?_
    try go_wp2
    go_ret
    exact ⟨rfe, pkW HB.out⟩
   ·replace c14 := Bool.eq_false_iff.mpr c14
    subst c14
    replace H : (some false) = some r := by rw [if_neg (show ¬ (false = true) by decide)] at H; exact H
    exact absurd (Option.some.inj H) (by rw [HQ_.out]; simp)
end Go.Proofs.Ytdagpmnadapbjaa.Z
