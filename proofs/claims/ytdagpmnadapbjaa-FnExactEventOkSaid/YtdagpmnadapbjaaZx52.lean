/- The Go functions laws_FnExactEventOk as Lean functions, each with a proof that its code comes to just these answers; conditions: those of each theorem. -/
import Derived.Test.YtdagpmnadapbjaaZx0
import Derived.Test.YtdagpmnadapbjaaZx1
import Derived.Test.YtdagpmnadapbjaaZx5
import Derived.Test.YtdagpmnadapbjaaZx6
import Derived.Test.YtdagpmnadapbjaaZx11
import Derived.Test.YtdagpmnadapbjaaZx13
namespace Go.Proofs.Ytdagpmnadapbjaa.Z
open Go.RowKit Go.Proofs.YtdagpmnadapbjaaW.PrintWords Go.Proofs.YtdagpmnadapbjaaW.PrintLast Go.Proofs.YtdagpmnadapbjaaW.PrintMore
attribute [local go_sem] max2_int min2_int max_two min_two max_three min_three max_four min_four   -- for this text's walks alone
set_option linter.unusedVariables false
set_option linter.unusedSimpArgs false
def laws_FnExactEventOk.f (k : Nat) (a0_0 : Bool) (a0_1 : Bool) (l0_2 : List Int) (l0_3 : List Int) (a0_4 : Int) (a0_5 : Int) (a0_6 : Int) : Option (Bool) := (laws_szEvent.f a0_0 a0_1 l0_2 l0_3 a0_4 a0_5 a0_6 1048576).bind fun t161 => (if t161 < 0 then (some true) else ((laws_toEvent.f k a0_0 a0_1 l0_2 l0_3 a0_4 a0_5 a0_6).bind fun bt162 => ((spec_EventOk.f k bt162.1 bt162.2.1 bt162.2.2.1 bt162.2.2.2.1 bt162.2.2.2.2.1 bt162.2.2.2.2.2.1 bt162.2.2.2.2.2.2).bind fun t173 => ((laws_toEvent.f k a0_0 a0_1 l0_2 l0_3 a0_4 a0_5 a0_6).bind fun bt174 => ((impl_EventOk.f k bt174.1 bt174.2.1 bt174.2.2.1 bt174.2.2.2.1 bt174.2.2.2.2.1 bt174.2.2.2.2.2.1 bt174.2.2.2.2.2.2).bind fun t186 => (if (t186 != t173) = true then (some false) else ((laws_toEvent.f k a0_0 a0_1 l0_2 l0_3 a0_4 a0_5 a0_6).bind fun bt187 => ((laws_eqEvent.f k bt174.1 bt174.2.1 bt174.2.2.1 bt174.2.2.2.1 bt174.2.2.2.2.1 bt174.2.2.2.2.2.1 bt174.2.2.2.2.2.2 bt187.1 bt187.2.1 bt187.2.2.1 bt187.2.2.2.1 bt187.2.2.2.2.1 bt187.2.2.2.2.2.1 bt187.2.2.2.2.2.2).bind fun t198 => (if t198 = true then (some true) else (some false))))))))))
theorem laws_FnExactEventOk.mono : ∀ a0 a1 a2 a3 a4 a5 a6 k, LeO (laws_FnExactEventOk.f k a0 a1 a2 a3 a4 a5 a6) (laws_FnExactEventOk.f (k + 1) a0 a1 a2 a3 a4 a5 a6) := by
 intro a0 a1 a2 a3 a4 a5 a6 k
 unfold laws_FnExactEventOk.f
 repeat' first
   | (with_reducible exact impl_EventOk.mono _ _ _ _ _ _ _ _)
   | (with_reducible exact laws_eqEvent.mono _ _ _ _ _ _ _ _ _ _ _ _ _ _ _)
   | (with_reducible exact laws_toEvent.mono _ _ _ _ _ _ _ _)
   | (with_reducible exact spec_EventOk.mono _ _ _ _ _ _ _ _)
   | (with_reducible exact LeO.refl _)
   | (with_reducible exact LeO.none _)
   | (with_reducible refine LeO.ite ?_ ?_)
   | (with_reducible refine LeO.bind ?_ (fun _ => ?_))
set_option maxHeartbeats 8000000 in
set_option maxRecDepth 100000 in
theorem laws_FnExactEventOk.calls (k : Nat) (a0_0 : Bool) (a0_1 : Bool) (A0_2 : Option Addr) (c0_2 : Nat) (l0_2 : List Int) (A0_3 : Option Addr) (c0_3 : Nat) (l0_3 : List Int) (a0_4 : Int) (a0_5 : Int) (a0_6 : Int) (r : Bool) (w : World) (hr0_2 : Kd.C (Kd.int .i64) w A0_2 l0_2.length l0_2) (hc0_2 : l0_2.length ≤ c0_2) (hr0_3 : Kd.C (Kd.int .i64) w A0_3 l0_3.length l0_3) (hc0_3 : l0_3.length ≤ c0_3) (HQ_ : Aside0 (r = true)) (h : laws_FnExactEventOk.f k a0_0 a0_1 l0_2 l0_3 a0_4 a0_5 a0_6 = some r) :
  Calls Try.prog 3 #[.agg #[.bool a0_0, .bool a0_1, .slice A0_2 l0_2.length c0_2, .slice A0_3 l0_3.length c0_3, .int .i64 a0_4, .int .i64 a0_5, .int .i64 a0_6]] w fun e w' => e = .returned (.bool r) ∧ Below w.heap.size w w' := by
 have hu24 := Try.underlying24
 have hu27 := Try.underlying27
 have HR0_2 := am hr0_2
 have HC0_2 := am hc0_2
 clear hr0_2 hc0_2
 have HR0_3 := am hr0_3
 have HC0_3 := am hc0_3
 clear hr0_3 hc0_3
 have HB := am (Below.refl w.heap.size w)
 have H : ((laws_szEvent.f a0_0 a0_1 l0_2 l0_3 a0_4 a0_5 a0_6 1048576).bind fun t161 => (if t161 < 0 then (some true) else ((laws_toEvent.f k a0_0 a0_1 l0_2 l0_3 a0_4 a0_5 a0_6).bind fun bt162 => ((spec_EventOk.f k bt162.1 bt162.2.1 bt162.2.2.1 bt162.2.2.2.1 bt162.2.2.2.2.1 bt162.2.2.2.2.2.1 bt162.2.2.2.2.2.2).bind fun t173 => ((laws_toEvent.f k a0_0 a0_1 l0_2 l0_3 a0_4 a0_5 a0_6).bind fun bt174 => ((impl_EventOk.f k bt174.1 bt174.2.1 bt174.2.2.1 bt174.2.2.2.1 bt174.2.2.2.2.1 bt174.2.2.2.2.2.1 bt174.2.2.2.2.2.2).bind fun t186 => (if (t186 != t173) = true then (some false) else ((laws_toEvent.f k a0_0 a0_1 l0_2 l0_3 a0_4 a0_5 a0_6).bind fun bt187 => ((laws_eqEvent.f k bt174.1 bt174.2.1 bt174.2.2.1 bt174.2.2.2.1 bt174.2.2.2.2.1 bt174.2.2.2.2.2.1 bt174.2.2.2.2.2.2 bt187.1 bt187.2.1 bt187.2.2.1 bt187.2.2.2.1 bt187.2.2.2.2.1 bt187.2.2.2.2.2.1 bt187.2.2.2.2.2.2).bind fun t198 => (if t198 = true then (some true) else (some false))))))))))) = some r := h
 clear h
 replace H := Option.bind_eq_some_iff.mp H
 obtain ⟨t161, A20, H⟩ := H
 replace H : (if t161 < 0 then (some true) else ((laws_toEvent.f k a0_0 a0_1 l0_2 l0_3 a0_4 a0_5 a0_6).bind fun bt162 => ((spec_EventOk.f k bt162.1 bt162.2.1 bt162.2.2.1 bt162.2.2.2.1 bt162.2.2.2.2.1 bt162.2.2.2.2.2.1 bt162.2.2.2.2.2.2).bind fun t173 => ((laws_toEvent.f k a0_0 a0_1 l0_2 l0_3 a0_4 a0_5 a0_6).bind fun bt174 => ((impl_EventOk.f k bt174.1 bt174.2.1 bt174.2.2.1 bt174.2.2.2.1 bt174.2.2.2.2.1 bt174.2.2.2.2.2.1 bt174.2.2.2.2.2.2).bind fun t186 => (if (t186 != t173) = true then (some false) else ((laws_toEvent.f k a0_0 a0_1 l0_2 l0_3 a0_4 a0_5 a0_6).bind fun bt187 => ((laws_eqEvent.f k bt174.1 bt174.2.1 bt174.2.2.1 bt174.2.2.2.1 bt174.2.2.2.2.1 bt174.2.2.2.2.2.1 bt174.2.2.2.2.2.2 bt187.1 bt187.2.1 bt187.2.2.1 bt187.2.2.2.1 bt187.2.2.2.2.1 bt187.2.2.2.2.2.1 bt187.2.2.2.2.2.2).bind fun t198 => (if t198 = true then (some true) else (some false)))))))))) = some r := H
 have A2 := am A20
 clear A20
 by_cases c3 : t161 < 0
 ·rw [if_pos c3] at H
  have c3b0 : decide (t161 < 0) = true := decide_eq_true c3
  clear c3
  obtain rfl := Option.some.inj H
  go_enter Try.func3, Try.ntmps3
  go_wp2_with (first | ((with_reducible refine gate_dst (N := 1) rfl ?_); refine box_event ?hg (N := 1) ?hd (cs := #[.bool a0_0, .bool a0_1, .slice A0_2 l0_2.length c0_2, .slice A0_3 l0_3.length c0_3, .int .i64 a0_4, .int .i64 a0_5, .int .i64 a0_6]) (t := 24) ?hr ?_; (case hd => rfl); (case hg => rfl); (case hr => first | (go_simp; done) | (go_simp; rfl)); intro gb160 hg w4 hbox hb; have BK160 := am (hbox); have GW160 := am ((by rw [hg]; exact (below_size (pkB HB.out)) : w.heap.size ≤ gb160)); have GE160 := am ((by rw [hg]; exact (below_size (pkB HB.out)) : w.heap.size ≤ gb160)); replace HB := am (below_step (pkB HB.out) hb); clear hb hbox hg; obtain ⟨hcz5_0, hcz5_1, hcz5_2, hcz5_3, hcz5_4, hcz5_5, hcz5_6, hfz5_0, hfz5_1, hfz5_2, hfz5_3, hfz5_4, hfz5_5, hfz5_6⟩ := bk7 BK160.out) | ((with_reducible refine gate_callee (f := 14) rfl ?_); refine goesL_ (some 9) rfl rfl Try.func14 (by kernel_rfl) rfl #[.agg #[.bool a0_0, .bool a0_1, .slice A0_2 l0_2.length c0_2, .slice A0_3 l0_3.length c0_3, .int .i64 a0_4, .int .i64 a0_5, .int .i64 a0_6], .int .i64 1048576] rfl mpx ?_; (with_reducible refine (laws_szEvent.calls a0_0 a0_1 _ _ l0_2 _ _ l0_3 a0_4 a0_5 a0_6 1048576 t161 _ ?side1 ?side2 ?side3 ?side4 A2.out).mono ?_); (case side1 => exact pkC (Kd.C_below HR0_2.out HB.out)); (case side2 => exact HC0_2.out); (case side3 => exact pkC (Kd.C_below HR0_3.out HB.out)); (case side4 => exact HC0_3.out); rintro e w6 ⟨rfl, hb⟩; refine ⟨_, rfl, ?_⟩; replace BK160 := am (blk_below (pkK BK160.out) hb); replace HB := am (below_step (pkW HB.out) hb); (try clear hb)))
  go_ret
  exact ⟨rfe, pkW HB.out⟩
 ·rw [if_neg c3] at H
  have c3b0 : decide (t161 < 0) = false := decide_eq_false c3
  clear c3
  replace H := Option.bind_eq_some_iff.mp H
  obtain ⟨⟨t162, t163, t164, t167, t170, t171, t172⟩, A70, H⟩ := H
  replace H : ((spec_EventOk.f k t162 t163 t164 t167 t170 t171 t172).bind fun t173 => ((laws_toEvent.f k a0_0 a0_1 l0_2 l0_3 a0_4 a0_5 a0_6).bind fun bt174 => ((impl_EventOk.f k bt174.1 bt174.2.1 bt174.2.2.1 bt174.2.2.2.1 bt174.2.2.2.2.1 bt174.2.2.2.2.2.1 bt174.2.2.2.2.2.2).bind fun t186 => (if (t186 != t173) = true then (some false) else ((laws_toEvent.f k a0_0 a0_1 l0_2 l0_3 a0_4 a0_5 a0_6).bind fun bt187 => ((laws_eqEvent.f k bt174.1 bt174.2.1 bt174.2.2.1 bt174.2.2.2.1 bt174.2.2.2.2.1 bt174.2.2.2.2.2.1 bt174.2.2.2.2.2.2 bt187.1 bt187.2.1 bt187.2.2.1 bt187.2.2.2.1 bt187.2.2.2.2.1 bt187.2.2.2.2.2.1 bt187.2.2.2.2.2.2).bind fun t198 => (if t198 = true then (some true) else (some false)))))))) = some r := H
  have A7 := am A70
  clear A70
  replace H := Option.bind_eq_some_iff.mp H
  obtain ⟨t173, A80, H⟩ := H
  replace H : ((laws_toEvent.f k a0_0 a0_1 l0_2 l0_3 a0_4 a0_5 a0_6).bind fun bt174 => ((impl_EventOk.f k bt174.1 bt174.2.1 bt174.2.2.1 bt174.2.2.2.1 bt174.2.2.2.2.1 bt174.2.2.2.2.2.1 bt174.2.2.2.2.2.2).bind fun t186 => (if (t186 != t173) = true then (some false) else ((laws_toEvent.f k a0_0 a0_1 l0_2 l0_3 a0_4 a0_5 a0_6).bind fun bt187 => ((laws_eqEvent.f k bt174.1 bt174.2.1 bt174.2.2.1 bt174.2.2.2.1 bt174.2.2.2.2.1 bt174.2.2.2.2.2.1 bt174.2.2.2.2.2.2 bt187.1 bt187.2.1 bt187.2.2.1 bt187.2.2.2.1 bt187.2.2.2.2.1 bt187.2.2.2.2.2.1 bt187.2.2.2.2.2.2).bind fun t198 => (if t198 = true then (some true) else (some false))))))) = some r := H
  have A8 := am A80
  clear A80
  replace H := Option.bind_eq_some_iff.mp H
  obtain ⟨⟨t174, t175, t176, t179, t182, t183, t184⟩, A90, H⟩ := H
  replace H : ((impl_EventOk.f k t174 t175 t176 t179 t182 t183 t184).bind fun t186 => (if (t186 != t173) = true then (some false) else ((laws_toEvent.f k a0_0 a0_1 l0_2 l0_3 a0_4 a0_5 a0_6).bind fun bt187 => ((laws_eqEvent.f k t174 t175 t176 t179 t182 t183 t184 bt187.1 bt187.2.1 bt187.2.2.1 bt187.2.2.2.1 bt187.2.2.2.2.1 bt187.2.2.2.2.2.1 bt187.2.2.2.2.2.2).bind fun t198 => (if t198 = true then (some true) else (some false)))))) = some r := H
  have A9 := am A90
  clear A90
  replace H := Option.bind_eq_some_iff.mp H
  obtain ⟨t186, A100, H⟩ := H
  replace H : (if (t186 != t173) = true then (some false) else ((laws_toEvent.f k a0_0 a0_1 l0_2 l0_3 a0_4 a0_5 a0_6).bind fun bt187 => ((laws_eqEvent.f k t174 t175 t176 t179 t182 t183 t184 bt187.1 bt187.2.1 bt187.2.2.1 bt187.2.2.2.1 bt187.2.2.2.2.1 bt187.2.2.2.2.2.1 bt187.2.2.2.2.2.2).bind fun t198 => (if t198 = true then (some true) else (some false))))) = some r := H
  have A10 := am A100
  clear A100
  by_cases c11 : (t186 != t173) = true
  ·rw [if_pos c11] at H
   have c11b0 : (t186 != t173) = true := c11
   (try (have c11b1 : decide (t186 = t173) = false := by simpa using c11))
   (try (have c11b2 : (t186 == t173) = false := by first | exact bq_t c11 | exact bq_f c11 | simpa using c11))
   (try (have c11b3 : ¬ (t186 = t173) := by simpa using c11))
   clear c11
   exact absurd (Option.some.inj H) (by rw [HQ_.out]; simp)
  ·rw [if_neg c11] at H
   have c11b0 : (t186 != t173) = false := by simpa using c11
   (try (have c11b1 : decide (t186 = t173) = true := by simpa using c11))
   (try (have c11b2 : (t186 == t173) = true := by first | exact bq_t c11 | exact bq_f c11 | simpa using c11))
   clear c11
   replace H := Option.bind_eq_some_iff.mp H
   obtain ⟨⟨t187, t188, t189, t192, t195, t196, t197⟩, A120, H⟩ := H
   replace H : ((laws_eqEvent.f k t174 t175 t176 t179 t182 t183 t184 t187 t188 t189 t192 t195 t196 t197).bind fun t198 => (if t198 = true then (some true) else (some false))) = some r := H
   have A12 := am A120
   clear A120
   replace H := Option.bind_eq_some_iff.mp H
   obtain ⟨t198, A130, H⟩ := H
   replace H : (if t198 = true then (some true) else (some false)) = some r := H
   have A13 := am A130
   clear A130
   by_cases c14 : t198 = true
   ·subst c14
    replace H : (some true) = some r := by rw [if_pos rfl] at H; exact H
    obtain rfl := Option.some.inj H
    go_enter Try.func3, Try.ntmps3
    try go_wp2_with (first | ((with_reducible refine gate_dst (N := 1) rfl ?_); refine box_event ?hg (N := 1) ?hd (cs := #[.bool a0_0, .bool a0_1, .slice A0_2 l0_2.length c0_2, .slice A0_3 l0_3.length c0_3, .int .i64 a0_4, .int .i64 a0_5, .int .i64 a0_6]) (t := 24) ?hr ?_; (case hd => rfl); (case hg => rfl); (case hr => first | (go_simp; done) | (go_simp; rfl)); intro gb160 hg w15 hbox hb; have BK160 := am (hbox); have GW160 := am ((by rw [hg]; exact (below_size (pkB HB.out)) : w.heap.size ≤ gb160)); have GE160 := am ((by rw [hg]; exact (below_size (pkB HB.out)) : w.heap.size ≤ gb160)); replace HB := am (below_step (pkB HB.out) hb); clear hb hbox hg; obtain ⟨hcz16_0, hcz16_1, hcz16_2, hcz16_3, hcz16_4, hcz16_5, hcz16_6, hfz16_0, hfz16_1, hfz16_2, hfz16_3, hfz16_4, hfz16_5, hfz16_6⟩ := bk7 BK160.out) | ((with_reducible refine gate_callee (f := 14) rfl ?_); refine goesL_ (some 9) rfl rfl Try.func14 (by kernel_rfl) rfl #[.agg #[.bool a0_0, .bool a0_1, .slice A0_2 l0_2.length c0_2, .slice A0_3 l0_3.length c0_3, .int .i64 a0_4, .int .i64 a0_5, .int .i64 a0_6], .int .i64 1048576] rfl mpx ?_; (with_reducible refine (laws_szEvent.calls a0_0 a0_1 _ _ l0_2 _ _ l0_3 a0_4 a0_5 a0_6 1048576 t161 _ ?side1 ?side2 ?side3 ?side4 A2.out).mono ?_); (case side1 => exact pkC (Kd.C_below HR0_2.out HB.out)); (case side2 => exact HC0_2.out); (case side3 => exact pkC (Kd.C_below HR0_3.out HB.out)); (case side4 => exact HC0_3.out); rintro e w17 ⟨rfl, hb⟩; refine ⟨_, rfl, ?_⟩; replace BK160 := am (blk_below (pkK BK160.out) hb); replace HB := am (below_step (pkW HB.out) hb); (try clear hb); obtain ⟨hcz18_0, hcz18_1, hcz18_2, hcz18_3, hcz18_4, hcz18_5, hcz18_6, hfz18_0, hfz18_1, hfz18_2, hfz18_3, hfz18_4, hfz18_5, hfz18_6⟩ := bk7 BK160.out) | ((with_reducible refine gate_callee (f := 16) rfl ?_); refine goesL_ (some 13) rfl rfl Try.func16 (by kernel_rfl) rfl #[.agg #[.bool a0_0, .bool a0_1, .slice A0_2 l0_2.length c0_2, .slice A0_3 l0_3.length c0_3, .int .i64 a0_4, .int .i64 a0_5, .int .i64 a0_6]] rfl mpx ?_; (with_reducible refine (laws_toEvent.calls k a0_0 a0_1 _ _ l0_2 _ _ l0_3 a0_4 a0_5 a0_6 t162 t163 t164 t167 t170 t171 t172 _ ?side1 ?side2 ?side3 ?side4 A7.out).mono ?_); (case side1 => exact pkC (Kd.C_below HR0_2.out HB.out)); (case side2 => exact HC0_2.out); (case side3 => exact pkC (Kd.C_below HR0_3.out HB.out)); (case side4 => exact HC0_3.out); rintro e w19 ⟨v165, v168, rfl, ho0, ho1, hb⟩; refine ⟨_, rfl, ?_⟩; have HO166 := am (Kd.R_lower ho0 (below_size (pkW HB.out))); have HO169 := am (Kd.R_lower ho1 (below_size (pkW HB.out))); replace BK160 := am (blk_below (pkK BK160.out) hb); replace HB := am (below_step (pkW HB.out) hb); (try clear hb ho0 ho1); obtain ⟨Ao20, co20, eo20⟩ := Kd.R_slice HO166.out; subst eo20; obtain ⟨Ao21, co21, eo21⟩ := Kd.R_slice HO169.out; subst eo21) | ((with_reducible refine gate_callee (f := 15) rfl ?_); refine goesL_ (some 14) rfl rfl Try.func15 (by kernel_rfl) rfl #[.agg #[.bool t162, .bool t163, .slice Ao20 t164.length co20, .slice Ao21 t167.length co21, .int .i64 t170, .int .i64 t171, .int .i64 t172]] rfl mpx ?_; (with_reducible refine (spec_EventOk.calls k t162 t163 _ _ t164 _ _ t167 t170 t171 t172 t173 _ ?side1 ?side2 ?side3 ?side4 A8.out).mono ?_); (case side1 => exact pkC (Kd.R_reads' HO166.out).2.2); (case side2 => exact (Kd.R_reads' HO166.out).2.1); (case side3 => exact pkC (Kd.R_reads' HO169.out).2.2); (case side4 => exact (Kd.R_reads' HO169.out).2.1); rintro e w22 ⟨rfl, hb⟩; refine ⟨_, rfl, ?_⟩; replace HO166 := am (Kd.R_below (pkR HO166.out) hb); replace HO169 := am (Kd.R_below (pkR HO169.out) hb); replace BK160 := am (blk_below (pkK BK160.out) hb); replace HB := am (below_step (pkW HB.out) hb); (try clear hb); obtain ⟨hcz23_0, hcz23_1, hcz23_2, hcz23_3, hcz23_4, hcz23_5, hcz23_6, hfz23_0, hfz23_1, hfz23_2, hfz23_3, hfz23_4, hfz23_5, hfz23_6⟩ := bk7 BK160.out) | ((with_reducible refine gate_callee (f := 16) rfl ?_); refine goesL_ (some 16) rfl rfl Try.func16 (by kernel_rfl) rfl #[.agg #[.bool a0_0, .bool a0_1, .slice A0_2 l0_2.length c0_2, .slice A0_3 l0_3.length c0_3, .int .i64 a0_4, .int .i64 a0_5, .int .i64 a0_6]] rfl mpx ?_; (with_reducible refine (laws_toEvent.calls k a0_0 a0_1 _ _ l0_2 _ _ l0_3 a0_4 a0_5 a0_6 t174 t175 t176 t179 t182 t183 t184 _ ?side1 ?side2 ?side3 ?side4 A9.out).mono ?_); (case side1 => exact pkC (Kd.C_below HR0_2.out HB.out)); (case side2 => exact HC0_2.out); (case side3 => exact pkC (Kd.C_below HR0_3.out HB.out)); (case side4 => exact HC0_3.out); rintro e w24 ⟨v177, v180, rfl, ho0, ho1, hb⟩; refine ⟨_, rfl, ?_⟩; have HO178 := am (Kd.R_lower (Kd.R_new' (Kd.R_new' ho0 (Kd.R_lt (pkR HO166.out))) (Kd.R_lt (pkR HO169.out))) (below_size (pkW HB.out))); have HO181 := am (Kd.R_lower (Kd.R_new' (Kd.R_new' ho1 (Kd.R_lt (pkR HO166.out))) (Kd.R_lt (pkR HO169.out))) (below_size (pkW HB.out))); replace HO166 := am (Kd.R_mono (Kd.R_told (Kd.R_told (Kd.R_old (pkR HO166.out) hb) (Kd.R_base ho0)) (Kd.R_base ho1)) (fun _ h_ => h_.1)); replace HO169 := am (Kd.R_mono (Kd.R_told (Kd.R_told (Kd.R_old (pkR HO169.out) hb) (Kd.R_base ho0)) (Kd.R_base ho1)) (fun _ h_ => h_.1)); replace BK160 := am (blk_below (pkK BK160.out) hb); replace HB := am (below_step (pkW HB.out) hb); (try clear hb ho0 ho1)) | ((with_reducible refine gate_dst (N := 5) rfl ?_); refine box_event ?hg (N := 5) ?hd (cs := #[.bool false, .bool false, .slice none 0 0, .slice none 0 0, .int .i64 0, .int .i64 0, .int .i64 0]) (t := 27) ?hr ?_; (case hd => rfl); (case hg => rfl); (case hr => first | (go_simp; done) | (go_simp; rfl)); intro gb185 hg w25 hbox hb; replace HO166 := am (Kd.R_below (pkR HO166.out) hb); replace HO169 := am (Kd.R_below (pkR HO169.out) hb); replace HO178 := am (Kd.R_below (pkR HO178.out) hb); replace HO181 := am (Kd.R_below (pkR HO181.out) hb); have BK185 := am (hbox); have GW185 := am ((by rw [hg]; exact (below_size (pkW HB.out)) : w.heap.size ≤ gb185)); have GE185 := am ((by rw [hg]; exact (below_size (pkW HB.out)) : w.heap.size ≤ gb185)); replace HB := am (below_step (pkW HB.out) hb); have NB160_185 := am ((by rw [hg]; exact Nat.ne_of_lt (blk_lt (g := gb160) (o := .cells #[.bool a0_0, .bool a0_1, .slice A0_2 l0_2.length c0_2, .slice A0_3 l0_3.length c0_3, .int .i64 a0_4, .int .i64 a0_5, .int .i64 a0_6] 24 (0, 0)) (pkK BK160.out)) : gb160 ≠ gb185)); have NB185_160 := am ((by rw [hg]; exact Nat.ne_of_gt (blk_lt (g := gb160) (o := .cells #[.bool a0_0, .bool a0_1, .slice A0_2 l0_2.length c0_2, .slice A0_3 l0_3.length c0_3, .int .i64 a0_4, .int .i64 a0_5, .int .i64 a0_6] 24 (0, 0)) (pkK BK160.out)) : gb185 ≠ gb160)); replace BK160 := am (blk_below (pkK BK160.out) hb); clear hb hbox hg; have hnb26 := NB185_160.out; have hnc26 := NB160_185.out; obtain ⟨hcz27_0, hcz27_1, hcz27_2, hcz27_3, hcz27_4, hcz27_5, hcz27_6, hfz27_0, hfz27_1, hfz27_2, hfz27_3, hfz27_4, hfz27_5, hfz27_6⟩ := bk7 BK185.out; obtain ⟨Ao28, co28, eo28⟩ := Kd.R_slice HO178.out; subst eo28; obtain ⟨Ao29, co29, eo29⟩ := Kd.R_slice HO181.out; subst eo29) | ((with_reducible refine gate_callee (f := 17) rfl ?_); refine goesL_ (some 18) rfl rfl Try.func17 (by kernel_rfl) rfl #[.agg #[.bool t174, .bool t175, .slice Ao28 t176.length co28, .slice Ao29 t179.length co29, .int .i64 t182, .int .i64 t183, .int .i64 t184]] rfl mpx ?_; (with_reducible refine (impl_EventOk.calls k t174 t175 _ _ t176 _ _ t179 t182 t183 t184 t186 _ ?side1 ?side2 ?side3 ?side4 A10.out).mono ?_); (case side1 => refine (Kd.R_reads' (e := 3) (base := w.heap.size) (ok := fun k_ => ((some k_ ≠ (.slice Ao29 t179.length co29 : Value).ownBlock ∧ some k_ ≠ (.slice Ao20 t164.length co20 : Value).ownBlock) ∧ some k_ ≠ (.slice Ao21 t167.length co21 : Value).ownBlock)) (n := t176.length) (c := co28) ?_).2.2; exact (by (with_reducible repeat (first | apply Kd.R_alloc | apply Kd.R_drewN | apply Kd.R_drew)); exact (Kd.R_mono (Kd.R_far (p := ⟨gb185, 6, none⟩) (Kd.R_far (p := ⟨gb185, 5, none⟩) (Kd.R_far (p := ⟨gb185, 4, none⟩) (Kd.R_far (p := ⟨gb185, 3, none⟩) (Kd.R_far (p := ⟨gb185, 2, none⟩) (Kd.R_far (p := ⟨gb185, 1, none⟩) (Kd.R_far (p := ⟨gb185, 0, none⟩) (Kd.R_types HO178.out BK185.out (by decide)) (fun _ hk => hk.2) (.bool t174)) (fun _ hk => hk.2) (.bool t175)) (fun _ hk => hk.2) (.slice Ao28 t176.length co28)) (fun _ hk => hk.2) (.slice Ao29 t179.length co29)) (fun _ hk => hk.2) (.int .i64 t182)) (fun _ hk => hk.2) (.int .i64 t183)) (fun _ hk => hk.2) (.int .i64 t184)) (fun _ h_ => h_.1)))); (case side2 => exact (Kd.R_reads' HO178.out).2.1); (case side3 => refine (Kd.R_reads' (e := 3) (base := w.heap.size) (ok := fun k_ => ((some k_ ≠ (.slice Ao28 t176.length co28 : Value).ownBlock ∧ some k_ ≠ (.slice Ao20 t164.length co20 : Value).ownBlock) ∧ some k_ ≠ (.slice Ao21 t167.length co21 : Value).ownBlock)) (n := t179.length) (c := co29) ?_).2.2; exact (by (with_reducible repeat (first | apply Kd.R_alloc | apply Kd.R_drewN | apply Kd.R_drew)); exact (Kd.R_mono (Kd.R_far (p := ⟨gb185, 6, none⟩) (Kd.R_far (p := ⟨gb185, 5, none⟩) (Kd.R_far (p := ⟨gb185, 4, none⟩) (Kd.R_far (p := ⟨gb185, 3, none⟩) (Kd.R_far (p := ⟨gb185, 2, none⟩) (Kd.R_far (p := ⟨gb185, 1, none⟩) (Kd.R_far (p := ⟨gb185, 0, none⟩) (Kd.R_types HO181.out BK185.out (by decide)) (fun _ hk => hk.2) (.bool t174)) (fun _ hk => hk.2) (.bool t175)) (fun _ hk => hk.2) (.slice Ao28 t176.length co28)) (fun _ hk => hk.2) (.slice Ao29 t179.length co29)) (fun _ hk => hk.2) (.int .i64 t182)) (fun _ hk => hk.2) (.int .i64 t183)) (fun _ hk => hk.2) (.int .i64 t184)) (fun _ h_ => h_.1)))); (case side4 => exact (Kd.R_reads' HO181.out).2.1); rintro e w30 ⟨rfl, hb⟩; refine ⟨_, rfl, ?_⟩; replace HO166 := am (Kd.R_below (by (with_reducible repeat (first | apply Kd.R_alloc | apply Kd.R_drewN | apply Kd.R_drew)); exact (Kd.R_mono (Kd.R_far (p := ⟨gb185, 6, none⟩) (Kd.R_far (p := ⟨gb185, 5, none⟩) (Kd.R_far (p := ⟨gb185, 4, none⟩) (Kd.R_far (p := ⟨gb185, 3, none⟩) (Kd.R_far (p := ⟨gb185, 2, none⟩) (Kd.R_far (p := ⟨gb185, 1, none⟩) (Kd.R_far (p := ⟨gb185, 0, none⟩) (Kd.R_types HO166.out BK185.out (by decide)) (fun _ hk => hk.2) (.bool t174)) (fun _ hk => hk.2) (.bool t175)) (fun _ hk => hk.2) (.slice Ao28 t176.length co28)) (fun _ hk => hk.2) (.slice Ao29 t179.length co29)) (fun _ hk => hk.2) (.int .i64 t182)) (fun _ hk => hk.2) (.int .i64 t183)) (fun _ hk => hk.2) (.int .i64 t184)) (fun _ h_ => h_.1))) hb); replace HO169 := am (Kd.R_below (by (with_reducible repeat (first | apply Kd.R_alloc | apply Kd.R_drewN | apply Kd.R_drew)); exact (Kd.R_mono (Kd.R_far (p := ⟨gb185, 6, none⟩) (Kd.R_far (p := ⟨gb185, 5, none⟩) (Kd.R_far (p := ⟨gb185, 4, none⟩) (Kd.R_far (p := ⟨gb185, 3, none⟩) (Kd.R_far (p := ⟨gb185, 2, none⟩) (Kd.R_far (p := ⟨gb185, 1, none⟩) (Kd.R_far (p := ⟨gb185, 0, none⟩) (Kd.R_types HO169.out BK185.out (by decide)) (fun _ hk => hk.2) (.bool t174)) (fun _ hk => hk.2) (.bool t175)) (fun _ hk => hk.2) (.slice Ao28 t176.length co28)) (fun _ hk => hk.2) (.slice Ao29 t179.length co29)) (fun _ hk => hk.2) (.int .i64 t182)) (fun _ hk => hk.2) (.int .i64 t183)) (fun _ hk => hk.2) (.int .i64 t184)) (fun _ h_ => h_.1))) hb); replace HO178 := am (Kd.R_below (by (with_reducible repeat (first | apply Kd.R_alloc | apply Kd.R_drewN | apply Kd.R_drew)); exact (Kd.R_mono (Kd.R_far (p := ⟨gb185, 6, none⟩) (Kd.R_far (p := ⟨gb185, 5, none⟩) (Kd.R_far (p := ⟨gb185, 4, none⟩) (Kd.R_far (p := ⟨gb185, 3, none⟩) (Kd.R_far (p := ⟨gb185, 2, none⟩) (Kd.R_far (p := ⟨gb185, 1, none⟩) (Kd.R_far (p := ⟨gb185, 0, none⟩) (Kd.R_types HO178.out BK185.out (by decide)) (fun _ hk => hk.2) (.bool t174)) (fun _ hk => hk.2) (.bool t175)) (fun _ hk => hk.2) (.slice Ao28 t176.length co28)) (fun _ hk => hk.2) (.slice Ao29 t179.length co29)) (fun _ hk => hk.2) (.int .i64 t182)) (fun _ hk => hk.2) (.int .i64 t183)) (fun _ hk => hk.2) (.int .i64 t184)) (fun _ h_ => h_.1))) hb); replace HO181 := am (Kd.R_below (by (with_reducible repeat (first | apply Kd.R_alloc | apply Kd.R_drewN | apply Kd.R_drew)); exact (Kd.R_mono (Kd.R_far (p := ⟨gb185, 6, none⟩) (Kd.R_far (p := ⟨gb185, 5, none⟩) (Kd.R_far (p := ⟨gb185, 4, none⟩) (Kd.R_far (p := ⟨gb185, 3, none⟩) (Kd.R_far (p := ⟨gb185, 2, none⟩) (Kd.R_far (p := ⟨gb185, 1, none⟩) (Kd.R_far (p := ⟨gb185, 0, none⟩) (Kd.R_types HO181.out BK185.out (by decide)) (fun _ hk => hk.2) (.bool t174)) (fun _ hk => hk.2) (.bool t175)) (fun _ hk => hk.2) (.slice Ao28 t176.length co28)) (fun _ hk => hk.2) (.slice Ao29 t179.length co29)) (fun _ hk => hk.2) (.int .i64 t182)) (fun _ hk => hk.2) (.int .i64 t183)) (fun _ hk => hk.2) (.int .i64 t184)) (fun _ h_ => h_.1))) hb); replace BK160 := am (blk_below (g := gb160) (o := .cells #[.bool a0_0, .bool a0_1, .slice A0_2 l0_2.length c0_2, .slice A0_3 l0_3.length c0_3, .int .i64 a0_4, .int .i64 a0_5, .int .i64 a0_6] 24 (0, 0)) (by (with_reducible repeat (first | refine blk_drewN ?_ _ | refine blk_drew ?_ | refine blk_alloc ?_ _)); refine blk_far ?_ NB160_185.out _; (with_reducible repeat (first | refine blk_drewN ?_ _ | refine blk_drew ?_ | refine blk_alloc ?_ _)); refine blk_far ?_ NB160_185.out _; (with_reducible repeat (first | refine blk_drewN ?_ _ | refine blk_drew ?_ | refine blk_alloc ?_ _)); refine blk_far ?_ NB160_185.out _; (with_reducible repeat (first | refine blk_drewN ?_ _ | refine blk_drew ?_ | refine blk_alloc ?_ _)); refine blk_far ?_ NB160_185.out _; (with_reducible repeat (first | refine blk_drewN ?_ _ | refine blk_drew ?_ | refine blk_alloc ?_ _)); refine blk_far ?_ NB160_185.out _; (with_reducible repeat (first | refine blk_drewN ?_ _ | refine blk_drew ?_ | refine blk_alloc ?_ _)); refine blk_far ?_ NB160_185.out _; (with_reducible repeat (first | refine blk_drewN ?_ _ | refine blk_drew ?_ | refine blk_alloc ?_ _)); refine blk_far ?_ NB160_185.out _; exact pkK BK160.out) hb); replace BK185 := am (blk_below (g := gb185) (o := .cells #[.bool t174, .bool t175, .slice Ao28 t176.length co28, .slice Ao29 t179.length co29, .int .i64 t182, .int .i64 t183, .int .i64 t184] 27 (0, 0)) (by (with_reducible repeat (first | refine blk_drewN ?_ _ | refine blk_drew ?_ | refine blk_alloc ?_ _)); refine blk_put (cs := #[.bool t174, .bool t175, .slice Ao28 t176.length co28, .slice Ao29 t179.length co29, .int .i64 t182, .int .i64 t183, .int .i64 0]) ?_ 6 _ rfl; (with_reducible repeat (first | refine blk_drewN ?_ _ | refine blk_drew ?_ | refine blk_alloc ?_ _)); refine blk_put (cs := #[.bool t174, .bool t175, .slice Ao28 t176.length co28, .slice Ao29 t179.length co29, .int .i64 t182, .int .i64 0, .int .i64 0]) ?_ 5 _ rfl; (with_reducible repeat (first | refine blk_drewN ?_ _ | refine blk_drew ?_ | refine blk_alloc ?_ _)); refine blk_put (cs := #[.bool t174, .bool t175, .slice Ao28 t176.length co28, .slice Ao29 t179.length co29, .int .i64 0, .int .i64 0, .int .i64 0]) ?_ 4 _ rfl; (with_reducible repeat (first | refine blk_drewN ?_ _ | refine blk_drew ?_ | refine blk_alloc ?_ _)); refine blk_put (cs := #[.bool t174, .bool t175, .slice Ao28 t176.length co28, .slice none 0 0, .int .i64 0, .int .i64 0, .int .i64 0]) ?_ 3 _ rfl; (with_reducible repeat (first | refine blk_drewN ?_ _ | refine blk_drew ?_ | refine blk_alloc ?_ _)); refine blk_put (cs := #[.bool t174, .bool t175, .slice none 0 0, .slice none 0 0, .int .i64 0, .int .i64 0, .int .i64 0]) ?_ 2 _ rfl; (with_reducible repeat (first | refine blk_drewN ?_ _ | refine blk_drew ?_ | refine blk_alloc ?_ _)); refine blk_put (cs := #[.bool t174, .bool false, .slice none 0 0, .slice none 0 0, .int .i64 0, .int .i64 0, .int .i64 0]) ?_ 1 _ rfl; (with_reducible repeat (first | refine blk_drewN ?_ _ | refine blk_drew ?_ | refine blk_alloc ?_ _)); refine blk_put (cs := #[.bool false, .bool false, .slice none 0 0, .slice none 0 0, .int .i64 0, .int .i64 0, .int .i64 0]) ?_ 0 _ rfl; exact pkK BK185.out) hb); replace HB := am (below_step (pkW HB.out) hb); (try clear hb)))
    replace HO166 := am (Kd.R_drew HO166.out)
    replace HO169 := am (Kd.R_drew HO169.out)
    replace HO178 := am (Kd.R_drew HO178.out)
    replace HO181 := am (Kd.R_drew HO181.out)
    replace BK160 := am (blk_drew BK160.out)
    replace BK185 := am (blk_drew BK185.out)
    replace HB := am (below_drew1 HB.out)
    refine start_ (n := 5) (S := fun w' => w'.cell? ⟨gb185, 0, none⟩ = some (.bool t174) ∧ w'.cell? ⟨gb185, 1, none⟩ = some (.bool t175) ∧ w'.cell? ⟨gb185, 2, none⟩ = some (.slice Ao28 t176.length co28) ∧ w'.cell? ⟨gb185, 3, none⟩ = some (.slice Ao29 t179.length co29) ∧ w'.cell? ⟨gb185, 4, none⟩ = some (.int .i64 t182) ∧ w'.cell? ⟨gb185, 5, none⟩ = some (.int .i64 t183) ∧ w'.cell? ⟨gb185, 6, none⟩ = some (.int .i64 t184) ∧ w'.cell? ⟨gb160, 0, none⟩ = some (.bool a0_0) ∧ w'.cell? ⟨gb160, 1, none⟩ = some (.bool a0_1) ∧ w'.cell? ⟨gb160, 2, none⟩ = some (.slice A0_2 l0_2.length c0_2) ∧ w'.cell? ⟨gb160, 3, none⟩ = some (.slice A0_3 l0_3.length c0_3) ∧ w'.cell? ⟨gb160, 4, none⟩ = some (.int .i64 a0_4) ∧ w'.cell? ⟨gb160, 5, none⟩ = some (.int .i64 a0_5) ∧ w'.cell? ⟨gb160, 6, none⟩ = some (.int .i64 a0_6)) (ds := []) #[false, false, false, false, false] (by kernel_rfl) rfl rfl ⟨(blk_cell BK185.out 0).trans rfl, (blk_cell BK185.out 1).trans rfl, (blk_cell BK185.out 2).trans rfl, (blk_cell BK185.out 3).trans rfl, (blk_cell BK185.out 4).trans rfl, (blk_cell BK185.out 5).trans rfl, (blk_cell BK185.out 6).trans rfl, (blk_cell BK160.out 0).trans rfl, (blk_cell BK160.out 1).trans rfl, (blk_cell BK160.out 2).trans rfl, (blk_cell BK160.out 3).trans rfl, (blk_cell BK160.out 4).trans rfl, (blk_cell BK160.out 5).trans rfl, (blk_cell BK160.out 6).trans rfl⟩ (fun hHeld => ?_)
    generalize w30.drew = w31 at HO166 HO169 HO178 HO181 BK160 BK185 HB hHeld ⊢
    refine take_ (i := 0) (N := some 22) (v := ?_) (a' := ?_) #[true, false, false, false, false] rfl rfl (by kernel_rfl) (fun _ _ _ h => h) (Or.inl ⟨by rfl, ?_⟩) hHeld ?_ ?_
    rotate_left
    ·rintro w' ⟨s0, s1, s2, s3, s4, s5, s6, s7, s8, s9, s10, s11, s12, s13⟩
     go_simp
     with_reducible rfl
    rotate_left
    ·simp only [Act.put, List.setIfInBounds_toArray, List.set_cons_zero, List.set_cons_succ, i64_w, i32_w]
     rfl
    refine take_ (i := 1) (N := some 23) (v := ?_) (a' := ?_) #[true, true, false, false, false] rfl rfl (by kernel_rfl) (fun _ _ _ h => h) (Or.inl ⟨by rfl, ?_⟩) hHeld ?_ ?_
    rotate_left
    ·rintro w' ⟨s0, s1, s2, s3, s4, s5, s6, s7, s8, s9, s10, s11, s12, s13⟩
     go_simp
     with_reducible rfl
    rotate_left
    ·simp only [Act.put, List.setIfInBounds_toArray, List.set_cons_zero, List.set_cons_succ, i64_w, i32_w]
     rfl
    refine one_ (i := 2) (N := some 24) #[true, true, true, false, false] rfl rfl (by kernel_rfl) (by decide) (fun K hK => ?_)
    refine goes_ Try.func16 (by kernel_rfl) rfl #[.agg #[.bool a0_0, .bool a0_1, .slice A0_2 l0_2.length c0_2, .slice A0_3 l0_3.length c0_3, .int .i64 a0_4, .int .i64 a0_5, .int .i64 a0_6]] (by rfl) rfl rfl mpx ?_
    with_reducible refine (laws_toEvent.calls k a0_0 a0_1 _ _ l0_2 _ _ l0_3 a0_4 a0_5 a0_6 t187 t188 t189 t192 t195 t196 t197 _ ?side1 ?side2 ?side3 ?side4 A12.out).mono ?_
    (case side1 => exact pkC (Kd.C_below HR0_2.out HB.out))
    (case side2 => exact HC0_2.out)
    (case side3 => exact pkC (Kd.C_below HR0_3.out HB.out))
    (case side4 => exact HC0_3.out)
    rintro e w32 ⟨v190, v193, rfl, ho0, ho1, hb⟩
    refine ⟨_, rfl, ?_⟩
    have HO191 := am (Kd.R_lower (Kd.R_new' (Kd.R_new' (Kd.R_new' (Kd.R_new' ho0 (Kd.R_lt (pkR HO166.out))) (Kd.R_lt (pkR HO169.out))) (Kd.R_lt (pkR HO178.out))) (Kd.R_lt (pkR HO181.out))) (below_size (pkW HB.out)))
    have HO194 := am (Kd.R_lower (Kd.R_new' (Kd.R_new' (Kd.R_new' (Kd.R_new' ho1 (Kd.R_lt (pkR HO166.out))) (Kd.R_lt (pkR HO169.out))) (Kd.R_lt (pkR HO178.out))) (Kd.R_lt (pkR HO181.out))) (below_size (pkW HB.out)))
    replace HO166 := am (Kd.R_mono (Kd.R_told (Kd.R_told (Kd.R_old (pkR HO166.out) hb) (Kd.R_base ho0)) (Kd.R_base ho1)) (fun _ h_ => h_.1))
    replace HO169 := am (Kd.R_mono (Kd.R_told (Kd.R_told (Kd.R_old (pkR HO169.out) hb) (Kd.R_base ho0)) (Kd.R_base ho1)) (fun _ h_ => h_.1))
    replace HO178 := am (Kd.R_mono (Kd.R_told (Kd.R_told (Kd.R_old (pkR HO178.out) hb) (Kd.R_base ho0)) (Kd.R_base ho1)) (fun _ h_ => h_.1))
    replace HO181 := am (Kd.R_mono (Kd.R_told (Kd.R_told (Kd.R_old (pkR HO181.out) hb) (Kd.R_base ho0)) (Kd.R_base ho1)) (fun _ h_ => h_.1))
    replace BK160 := am (blk_below (pkK BK160.out) hb)
    replace BK185 := am (blk_below (pkK BK185.out) hb)
    replace HB := am (below_step (pkW HB.out) hb)
    (try clear hb); (try clear ho0 ho1)
    obtain ⟨Ao33, co33, eo33⟩ := Kd.R_slice HO191.out
    (first | subst eo33 | (injection eo33 with f1_ f2_ f3_; have f4_ := f1_.symm; have f5_ := f3_.symm; clear f1_ f2_ f3_; subst f4_; subst f5_))
    obtain ⟨Ao34, co34, eo34⟩ := Kd.R_slice HO194.out
    (first | subst eo34 | (injection eo34 with f1_ f2_ f3_; have f4_ := f1_.symm; have f5_ := f3_.symm; clear f1_ f2_ f3_; subst f4_; subst f5_))
    refine hK.out _ _ ⟨(blk_cell BK185.out 0).trans rfl, (blk_cell BK185.out 1).trans rfl, (blk_cell BK185.out 2).trans rfl, (blk_cell BK185.out 3).trans rfl, (blk_cell BK185.out 4).trans rfl, (blk_cell BK185.out 5).trans rfl, (blk_cell BK185.out 6).trans rfl, (blk_cell BK160.out 0).trans rfl, (blk_cell BK160.out 1).trans rfl, (blk_cell BK160.out 2).trans rfl, (blk_cell BK160.out 3).trans rfl, (blk_cell BK160.out 4).trans rfl, (blk_cell BK160.out 5).trans rfl, (blk_cell BK160.out 6).trans rfl⟩ (fun hHeld => ?_)
    clear hK K
    refine norm_ (a' := ?_) ?_ ?_
    rotate_left
    ·show Act.put _ (some 24) _ = _
     simp only [Act.put, List.setIfInBounds_toArray, List.set_cons_zero, List.set_cons_succ, i64_w, i32_w]
     rfl
    refine one_ (i := 3) (N := some 25) #[true, true, true, true, false] rfl rfl (by kernel_rfl) (by decide) (fun K hK => ?_)
    refine goes_ Try.func18 (by kernel_rfl) rfl #[.agg #[.bool t174, .bool t175, .slice Ao28 t176.length co28, .slice Ao29 t179.length co29, .int .i64 t182, .int .i64 t183, .int .i64 t184], .agg #[.bool t187, .bool t188, .slice Ao33 t189.length co33, .slice Ao34 t192.length co34, .int .i64 t195, .int .i64 t196, .int .i64 t197]] (by rfl) rfl rfl mpx ?_
    with_reducible refine (laws_eqEvent.calls k t174 t175 _ _ t176 _ _ t179 t182 t183 t184 t187 t188 _ _ t189 _ _ t192 t195 t196 t197 true _ ?side1 ?side2 ?side3 ?side4 ?side5 ?side6 ?side7 ?side8 A13.out).mono ?_
    (case side1 => exact pkC (Kd.R_reads' HO178.out).2.2)
    (case side2 => exact (Kd.R_reads' HO178.out).2.1)
    (case side3 => exact pkC (Kd.R_reads' HO181.out).2.2)
    (case side4 => exact (Kd.R_reads' HO181.out).2.1)
    (case side5 => exact pkC (Kd.R_reads' HO191.out).2.2)
    (case side6 => exact (Kd.R_reads' HO191.out).2.1)
    (case side7 => exact pkC (Kd.R_reads' HO194.out).2.2)
    (case side8 => exact (Kd.R_reads' HO194.out).2.1)
    rintro e w35 ⟨rfl, hb⟩
    refine ⟨_, rfl, ?_⟩
    replace HO166 := am (Kd.R_below (pkR HO166.out) hb)
    replace HO169 := am (Kd.R_below (pkR HO169.out) hb)
    replace HO178 := am (Kd.R_below (pkR HO178.out) hb)
    replace HO181 := am (Kd.R_below (pkR HO181.out) hb)
    replace HO191 := am (Kd.R_below (pkR HO191.out) hb)
    replace HO194 := am (Kd.R_below (pkR HO194.out) hb)
    replace BK160 := am (blk_below (pkK BK160.out) hb)
    replace BK185 := am (blk_below (pkK BK185.out) hb)
    replace HB := am (below_step (pkW HB.out) hb)
    (try clear hb)
    refine hK.out _ _ ⟨(blk_cell BK185.out 0).trans rfl, (blk_cell BK185.out 1).trans rfl, (blk_cell BK185.out 2).trans rfl, (blk_cell BK185.out 3).trans rfl, (blk_cell BK185.out 4).trans rfl, (blk_cell BK185.out 5).trans rfl, (blk_cell BK185.out 6).trans rfl, (blk_cell BK160.out 0).trans rfl, (blk_cell BK160.out 1).trans rfl, (blk_cell BK160.out 2).trans rfl, (blk_cell BK160.out 3).trans rfl, (blk_cell BK160.out 4).trans rfl, (blk_cell BK160.out 5).trans rfl, (blk_cell BK160.out 6).trans rfl⟩ (fun hHeld => ?_)
    clear hK K
    refine norm_ (a' := ?_) ?_ ?_
    rotate_left
    ·show Act.put _ (some 25) _ = _
     simp only [Act.put, List.setIfInBounds_toArray, List.set_cons_zero, List.set_cons_succ, i64_w, i32_w]
     rfl
    refine pure_ (i := 4) (N := some 26) (v := ?_) (a' := ?_) #[true, true, true, true, true] rfl rfl (by kernel_rfl) (fun _ _ _ h => h) (Or.inl ⟨by rfl, ?_⟩) ?_ ?_
    rotate_left
    ·intro w'
     go_simp
     with_reducible rfl
    rotate_left
    ·simp only [Act.put, List.setIfInBounds_toArray, List.set_cons_zero, List.set_cons_succ, i64_w, i32_w]
     rfl
    refine done_ (by kernel_rfl) ?_
    try go_wp2
    go_ret
    exact ⟨rfe, pkW HB.out⟩
   ·replace c14 := Bool.eq_false_iff.mpr c14
    subst c14
    replace H : (some false) = some r := by rw [if_neg (show ¬ (false = true) by decide)] at H; exact H
    exact absurd (Option.some.inj H) (by rw [HQ_.out]; simp)
end Go.Proofs.Ytdagpmnadapbjaa.Z
