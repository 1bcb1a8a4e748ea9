/- The Go functions laws_FnExactClockOk as Lean functions, each with a proof that its code comes to just these answers; conditions: those of each theorem. -/
import Derived.Test.YtfgjfheiekhmlaaZx0
import Derived.Test.YtfgjfheiekhmlaaZx2
import Derived.Test.YtfgjfheiekhmlaaZx3
import Derived.Test.YtfgjfheiekhmlaaZx4
import Derived.Test.YtfgjfheiekhmlaaZx5
import Derived.Test.YtfgjfheiekhmlaaZx8
namespace Go.Proofs.Ytfgjfheiekhmlaa.Z
open Go.RowKit Go.Proofs.YtfgjfheiekhmlaaW.PrintWords Go.Proofs.YtfgjfheiekhmlaaW.PrintLast Go.Proofs.YtfgjfheiekhmlaaW.PrintMore
attribute [local go_sem] max2_int min2_int max_two min_two max_three min_three max_four min_four   -- for this text's walks alone
set_option linter.unusedVariables false
set_option linter.unusedSimpArgs false
def laws_FnExactClockOk.f (k : Nat) (a0_0 : Int) (l0_1 : List (S68)) : Option (Bool) := (laws_szClock.f a0_0 l0_1 1048576).bind fun t140 => (if t140 < 0 then (some true) else ((laws_toClock.f k a0_0 l0_1).bind fun bt141 => ((spec_ClockOk.f k bt141.1 bt141.2).bind fun t145 => ((laws_toClock.f k a0_0 l0_1).bind fun bt146 => ((impl_ClockOk.f k bt146.1 bt146.2).bind fun t151 => (if (t151 != t145) = true then (some false) else ((laws_toClock.f k a0_0 l0_1).bind fun bt152 => ((laws_eqClock.f k bt146.1 bt146.2 bt152.1 bt152.2).bind fun t156 => (if t156 = true then (some true) else (some false))))))))))
theorem laws_FnExactClockOk.mono : ∀ a0 a1 k, LeO (laws_FnExactClockOk.f k a0 a1) (laws_FnExactClockOk.f (k + 1) a0 a1) := by
 intro a0 a1 k
 unfold laws_FnExactClockOk.f
 repeat' first
   | (with_reducible exact impl_ClockOk.mono _ _ _)
   | (with_reducible exact laws_eqClock.mono _ _ _ _ _)
   | (with_reducible exact laws_toClock.mono _ _ _)
   | (with_reducible exact spec_ClockOk.mono _ _ _)
   | (with_reducible exact LeO.refl _)
   | (with_reducible exact LeO.none _)
   | (with_reducible refine LeO.ite ?_ ?_)
   | (with_reducible refine LeO.bind ?_ (fun _ => ?_))
set_option maxHeartbeats 8000000 in
set_option maxRecDepth 100000 in
theorem laws_FnExactClockOk.calls (k : Nat) (a0_0 : Int) (A0_1 : Option Addr) (c0_1 : Nat) (l0_1 : List (S68)) (r : Bool) (w : World) (hr0_1 : Kd.C k68 w A0_1 l0_1.length l0_1) (hc0_1 : l0_1.length ≤ c0_1) (HQ_ : Aside0 (r = true)) (h : laws_FnExactClockOk.f k a0_0 l0_1 = some r) :
  Calls Try.prog 3 #[.agg #[.int .i64 a0_0, .slice A0_1 l0_1.length c0_1]] w fun e w' => e = .returned (.bool r) ∧ Below w.heap.size w w' := by
 have hu24 := Try.underlying24
 have hu29 := Try.underlying29
 have HR0_1 := am hr0_1
 have HC0_1 := am hc0_1
 clear hr0_1 hc0_1
 have HB := am (Below.refl w.heap.size w)
 have H : ((laws_szClock.f a0_0 l0_1 1048576).bind fun t140 => (if t140 < 0 then (some true) else ((laws_toClock.f k a0_0 l0_1).bind fun bt141 => ((spec_ClockOk.f k bt141.1 bt141.2).bind fun t145 => ((laws_toClock.f k a0_0 l0_1).bind fun bt146 => ((impl_ClockOk.f k bt146.1 bt146.2).bind fun t151 => (if (t151 != t145) = true then (some false) else ((laws_toClock.f k a0_0 l0_1).bind fun bt152 => ((laws_eqClock.f k bt146.1 bt146.2 bt152.1 bt152.2).bind fun t156 => (if t156 = true then (some true) else (some false))))))))))) = some r := h
 clear h
 replace H := Option.bind_eq_some_iff.mp H
 obtain ⟨t140, A20, H⟩ := H
 replace H : (if t140 < 0 then (some true) else ((laws_toClock.f k a0_0 l0_1).bind fun bt141 => ((spec_ClockOk.f k bt141.1 bt141.2).bind fun t145 => ((laws_toClock.f k a0_0 l0_1).bind fun bt146 => ((impl_ClockOk.f k bt146.1 bt146.2).bind fun t151 => (if (t151 != t145) = true then (some false) else ((laws_toClock.f k a0_0 l0_1).bind fun bt152 => ((laws_eqClock.f k bt146.1 bt146.2 bt152.1 bt152.2).bind fun t156 => (if t156 = true then (some true) else (some false)))))))))) = some r := H
 have A2 := am A20
 clear A20
 by_cases c3 : t140 < 0
 ·rw [if_pos c3] at H
  have c3b0 : decide (t140 < 0) = true := decide_eq_true c3
  clear c3
  obtain rfl := Option.some.inj H
  go_enter Try.func3, Try.ntmps3
  go_wp2_with (first | ((with_reducible refine gate_dst (N := 1) rfl ?_); refine box_event ?hg (N := 1) ?hd (cs := #[.int .i64 a0_0, .slice A0_1 l0_1.length c0_1]) (t := 24) ?hr ?_; (case hd => rfl); (case hg => rfl); (case hr => first | (go_simp; done) | (go_simp; rfl)); intro gb139 hg w4 hbox hb; have BK139 := am (hbox); have GW139 := am ((by rw [hg]; exact (below_size (pkB HB.out)) : w.heap.size ≤ gb139)); have GE139 := am ((by rw [hg]; exact (below_size (pkB HB.out)) : w.heap.size ≤ gb139)); replace HB := am (below_step (pkB HB.out) hb); clear hb hbox hg; obtain ⟨hcz5_0, hcz5_1, hfz5_0, hfz5_1⟩ := bk2 BK139.out) | ((with_reducible refine gate_callee (f := 9) rfl ?_); refine goesL_ (some 9) rfl rfl Try.func9 (by kernel_rfl) rfl #[.agg #[.int .i64 a0_0, .slice A0_1 l0_1.length c0_1], .int .i64 1048576] rfl mpx ?_; (with_reducible refine (laws_szClock.calls a0_0 _ _ l0_1 1048576 t140 _ ?side1 ?side2 A2.out).mono ?_); (case side1 => exact pkC (Kd.C_below HR0_1.out HB.out)); (case side2 => exact HC0_1.out); rintro e w6 ⟨rfl, hb⟩; refine ⟨_, rfl, ?_⟩; replace BK139 := am (blk_below (pkK BK139.out) hb); replace HB := am (below_step (pkW HB.out) hb); (try clear hb)))
  go_ret
  exact ⟨rfe, pkW HB.out⟩
 ·rw [if_neg c3] at H
  have c3b0 : decide (t140 < 0) = false := decide_eq_false c3
  clear c3
  replace H := Option.bind_eq_some_iff.mp H
  obtain ⟨⟨t141, t142⟩, A70, H⟩ := H
  replace H : ((spec_ClockOk.f k t141 t142).bind fun t145 => ((laws_toClock.f k a0_0 l0_1).bind fun bt146 => ((impl_ClockOk.f k bt146.1 bt146.2).bind fun t151 => (if (t151 != t145) = true then (some false) else ((laws_toClock.f k a0_0 l0_1).bind fun bt152 => ((laws_eqClock.f k bt146.1 bt146.2 bt152.1 bt152.2).bind fun t156 => (if t156 = true then (some true) else (some false)))))))) = some r := H
  have A7 := am A70
  clear A70
  replace H := Option.bind_eq_some_iff.mp H
  obtain ⟨t145, A80, H⟩ := H
  replace H : ((laws_toClock.f k a0_0 l0_1).bind fun bt146 => ((impl_ClockOk.f k bt146.1 bt146.2).bind fun t151 => (if (t151 != t145) = true then (some false) else ((laws_toClock.f k a0_0 l0_1).bind fun bt152 => ((laws_eqClock.f k bt146.1 bt146.2 bt152.1 bt152.2).bind fun t156 => (if t156 = true then (some true) else (some false))))))) = some r := H
  have A8 := am A80
  clear A80
  replace H := Option.bind_eq_some_iff.mp H
  obtain ⟨⟨t146, t147⟩, A90, H⟩ := H
  replace H : ((impl_ClockOk.f k t146 t147).bind fun t151 => (if (t151 != t145) = true then (some false) else ((laws_toClock.f k a0_0 l0_1).bind fun bt152 => ((laws_eqClock.f k t146 t147 bt152.1 bt152.2).bind fun t156 => (if t156 = true then (some true) else (some false)))))) = some r := H
  have A9 := am A90
  clear A90
  replace H := Option.bind_eq_some_iff.mp H
  obtain ⟨t151, A100, H⟩ := H
  replace H : (if (t151 != t145) = true then (some false) else ((laws_toClock.f k a0_0 l0_1).bind fun bt152 => ((laws_eqClock.f k t146 t147 bt152.1 bt152.2).bind fun t156 => (if t156 = true then (some true) else (some false))))) = some r := H
  have A10 := am A100
  clear A100
  by_cases c11 : (t151 != t145) = true
  ·rw [if_pos c11] at H
   have c11b0 : (t151 != t145) = true := c11
   (try (have c11b1 : decide (t151 = t145) = false := by simpa using c11))
   (try (have c11b2 : (t151 == t145) = false := by first | exact bq_t c11 | exact bq_f c11 | simpa using c11))
   (try (have c11b3 : ¬ (t151 = t145) := by simpa using c11))
   clear c11
   exact absurd (Option.some.inj H) (by rw [HQ_.out]; simp)
  ·rw [if_neg c11] at H
   have c11b0 : (t151 != t145) = false := by simpa using c11
   (try (have c11b1 : decide (t151 = t145) = true := by simpa using c11))
   (try (have c11b2 : (t151 == t145) = true := by first | exact bq_t c11 | exact bq_f c11 | simpa using c11))
   clear c11
   replace H := Option.bind_eq_some_iff.mp H
   obtain ⟨⟨t152, t153⟩, A120, H⟩ := H
   replace H : ((laws_eqClock.f k t146 t147 t152 t153).bind fun t156 => (if t156 = true then (some true) else (some false))) = some r := H
   have A12 := am A120
   clear A120
   replace H := Option.bind_eq_some_iff.mp H
   obtain ⟨t156, A130, H⟩ := H
   replace H : (if t156 = true then (some true) else (some false)) = some r := H
   have A13 := am A130
   clear A130
   by_cases c14 : t156 = true
   ·subst c14
    replace H : (some true) = some r := by rw [if_pos rfl] at H; exact H
    obtain rfl := Option.some.inj H
    go_enter Try.func3, Try.ntmps3
    try go_wp2_with (first | ((with_reducible refine gate_dst (N := 1) rfl ?_); refine box_event ?hg (N := 1) ?hd (cs := #[.int .i64 a0_0, .slice A0_1 l0_1.length c0_1]) (t := 24) ?hr ?_; (case hd => rfl); (case hg => rfl); (case hr => first | (go_simp; done) | (go_simp; rfl)); intro gb139 hg w15 hbox hb; have BK139 := am (hbox); have GW139 := am ((by rw [hg]; exact (below_size (pkB HB.out)) : w.heap.size ≤ gb139)); have GE139 := am ((by rw [hg]; exact (below_size (pkB HB.out)) : w.heap.size ≤ gb139)); replace HB := am (below_step (pkB HB.out) hb); clear hb hbox hg; obtain ⟨hcz16_0, hcz16_1, hfz16_0, hfz16_1⟩ := bk2 BK139.out) | ((with_reducible refine gate_callee (f := 9) rfl ?_); refine goesL_ (some 9) rfl rfl Try.func9 (by kernel_rfl) rfl #[.agg #[.int .i64 a0_0, .slice A0_1 l0_1.length c0_1], .int .i64 1048576] rfl mpx ?_; (with_reducible refine (laws_szClock.calls a0_0 _ _ l0_1 1048576 t140 _ ?side1 ?side2 A2.out).mono ?_); (case side1 => exact pkC (Kd.C_below HR0_1.out HB.out)); (case side2 => exact HC0_1.out); rintro e w17 ⟨rfl, hb⟩; refine ⟨_, rfl, ?_⟩; replace BK139 := am (blk_below (pkK BK139.out) hb); replace HB := am (below_step (pkW HB.out) hb); (try clear hb); obtain ⟨hcz18_0, hcz18_1, hfz18_0, hfz18_1⟩ := bk2 BK139.out) | ((with_reducible refine gate_callee (f := 11) rfl ?_); refine goesL_ (some 13) rfl rfl Try.func11 (by kernel_rfl) rfl #[.agg #[.int .i64 a0_0, .slice A0_1 l0_1.length c0_1]] rfl mpx ?_; (with_reducible refine (laws_toClock.calls k a0_0 _ _ l0_1 t141 t142 _ ?side1 ?side2 A7.out).mono ?_); (case side1 => exact pkC (Kd.C_below HR0_1.out HB.out)); (case side2 => exact HC0_1.out); rintro e w19 ⟨v143, rfl, ho0, hb⟩; refine ⟨_, rfl, ?_⟩; have HO144 := am (Kd.R_lower ho0 (below_size (pkW HB.out))); replace BK139 := am (blk_below (pkK BK139.out) hb); replace HB := am (below_step (pkW HB.out) hb); (try clear hb ho0); obtain ⟨Ao20, co20, eo20⟩ := Kd.R_slice HO144.out; subst eo20) | ((with_reducible refine gate_callee (f := 10) rfl ?_); refine goesL_ (some 14) rfl rfl Try.func10 (by kernel_rfl) rfl #[.agg #[.int .i64 t141, .slice Ao20 t142.length co20]] rfl mpx ?_; (with_reducible refine (spec_ClockOk.calls k t141 _ _ t142 t145 _ ?side1 ?side2 A8.out).mono ?_); (case side1 => exact pkC (Kd.R_reads' HO144.out).2.2); (case side2 => exact (Kd.R_reads' HO144.out).2.1); rintro e w21 ⟨rfl, hb⟩; refine ⟨_, rfl, ?_⟩; replace HO144 := am (Kd.R_below (pkR HO144.out) hb); replace BK139 := am (blk_below (pkK BK139.out) hb); replace HB := am (below_step (pkW HB.out) hb); (try clear hb); obtain ⟨hcz22_0, hcz22_1, hfz22_0, hfz22_1⟩ := bk2 BK139.out) | ((with_reducible refine gate_callee (f := 11) rfl ?_); refine goesL_ (some 16) rfl rfl Try.func11 (by kernel_rfl) rfl #[.agg #[.int .i64 a0_0, .slice A0_1 l0_1.length c0_1]] rfl mpx ?_; (with_reducible refine (laws_toClock.calls k a0_0 _ _ l0_1 t146 t147 _ ?side1 ?side2 A9.out).mono ?_); (case side1 => exact pkC (Kd.C_below HR0_1.out HB.out)); (case side2 => exact HC0_1.out); rintro e w23 ⟨v148, rfl, ho0, hb⟩; refine ⟨_, rfl, ?_⟩; have HO149 := am (Kd.R_lower (Kd.R_new' ho0 (Kd.R_lt (pkR HO144.out))) (below_size (pkW HB.out))); replace HO144 := am (Kd.R_elder' (pkR HO144.out) (Kd.R_base ho0) hb); replace BK139 := am (blk_below (pkK BK139.out) hb); replace HB := am (below_step (pkW HB.out) hb); (try clear hb ho0)) | ((with_reducible refine gate_dst (N := 5) rfl ?_); refine box_event ?hg (N := 5) ?hd (cs := #[.int .i64 0, .slice none 0 0]) (t := 29) ?hr ?_; (case hd => rfl); (case hg => rfl); (case hr => first | (go_simp; done) | (go_simp; rfl)); intro gb150 hg w24 hbox hb; replace HO144 := am (Kd.R_below (pkR HO144.out) hb); replace HO149 := am (Kd.R_below (pkR HO149.out) hb); have BK150 := am (hbox); have GW150 := am ((by rw [hg]; exact (below_size (pkW HB.out)) : w.heap.size ≤ gb150)); have GE150 := am ((by rw [hg]; exact (below_size (pkW HB.out)) : w.heap.size ≤ gb150)); replace HB := am (below_step (pkW HB.out) hb); have NB139_150 := am ((by rw [hg]; exact Nat.ne_of_lt (blk_lt (g := gb139) (o := .cells #[.int .i64 a0_0, .slice A0_1 l0_1.length c0_1] 24 (0, 0)) (pkK BK139.out)) : gb139 ≠ gb150)); have NB150_139 := am ((by rw [hg]; exact Nat.ne_of_gt (blk_lt (g := gb139) (o := .cells #[.int .i64 a0_0, .slice A0_1 l0_1.length c0_1] 24 (0, 0)) (pkK BK139.out)) : gb150 ≠ gb139)); replace BK139 := am (blk_below (pkK BK139.out) hb); clear hb hbox hg; have hnb25 := NB150_139.out; have hnc25 := NB139_150.out; obtain ⟨hcz26_0, hcz26_1, hfz26_0, hfz26_1⟩ := bk2 BK150.out; obtain ⟨Ao27, co27, eo27⟩ := Kd.R_slice HO149.out; subst eo27) | ((with_reducible refine gate_callee (f := 12) rfl ?_); refine goesL_ (some 18) rfl rfl Try.func12 (by kernel_rfl) rfl #[.agg #[.int .i64 t146, .slice Ao27 t147.length co27]] rfl mpx ?_; (with_reducible refine (impl_ClockOk.calls k t146 _ _ t147 t151 _ ?side1 ?side2 A10.out).mono ?_); (case side1 => refine (Kd.R_reads' (e := 46) (base := w.heap.size) (ok := fun k_ => (True ∧ some k_ ≠ (.slice Ao20 t142.length co20 : Value).ownBlock)) (n := t147.length) (c := co27) ?_).2.2; exact (by (with_reducible repeat (first | apply Kd.R_alloc | apply Kd.R_drewN | apply Kd.R_drew)); exact (Kd.R_mono (Kd.R_far (p := ⟨gb150, 1, none⟩) (Kd.R_far (p := ⟨gb150, 0, none⟩) (Kd.R_types HO149.out BK150.out (by decide)) (fun _ hk => hk.2) (.int .i64 t146)) (fun _ hk => hk.2) (.slice Ao27 t147.length co27)) (fun _ h_ => h_.1)))); (case side2 => exact (Kd.R_reads' HO149.out).2.1); rintro e w28 ⟨rfl, hb⟩; refine ⟨_, rfl, ?_⟩; replace HO144 := am (Kd.R_below (by (with_reducible repeat (first | apply Kd.R_alloc | apply Kd.R_drewN | apply Kd.R_drew)); exact (Kd.R_mono (Kd.R_far (p := ⟨gb150, 1, none⟩) (Kd.R_far (p := ⟨gb150, 0, none⟩) (Kd.R_types HO144.out BK150.out (by decide)) (fun _ hk => hk.2) (.int .i64 t146)) (fun _ hk => hk.2) (.slice Ao27 t147.length co27)) (fun _ h_ => h_.1))) hb); replace HO149 := am (Kd.R_below (by (with_reducible repeat (first | apply Kd.R_alloc | apply Kd.R_drewN | apply Kd.R_drew)); exact (Kd.R_mono (Kd.R_far (p := ⟨gb150, 1, none⟩) (Kd.R_far (p := ⟨gb150, 0, none⟩) (Kd.R_types HO149.out BK150.out (by decide)) (fun _ hk => hk.2) (.int .i64 t146)) (fun _ hk => hk.2) (.slice Ao27 t147.length co27)) (fun _ h_ => h_.1))) hb); replace BK139 := am (blk_below (g := gb139) (o := .cells #[.int .i64 a0_0, .slice A0_1 l0_1.length c0_1] 24 (0, 0)) (by (with_reducible repeat (first | refine blk_drewN ?_ _ | refine blk_drew ?_ | refine blk_alloc ?_ _)); refine blk_far ?_ NB139_150.out _; (with_reducible repeat (first | refine blk_drewN ?_ _ | refine blk_drew ?_ | refine blk_alloc ?_ _)); refine blk_far ?_ NB139_150.out _; exact pkK BK139.out) hb); replace BK150 := am (blk_below (g := gb150) (o := .cells #[.int .i64 t146, .slice Ao27 t147.length co27] 29 (0, 0)) (by (with_reducible repeat (first | refine blk_drewN ?_ _ | refine blk_drew ?_ | refine blk_alloc ?_ _)); refine blk_put (cs := #[.int .i64 t146, .slice none 0 0]) ?_ 1 _ rfl; (with_reducible repeat (first | refine blk_drewN ?_ _ | refine blk_drew ?_ | refine blk_alloc ?_ _)); refine blk_put (cs := #[.int .i64 0, .slice none 0 0]) ?_ 0 _ rfl; exact pkK BK150.out) hb); replace HB := am (below_step (pkW HB.out) hb); (try clear hb)))
    replace HO144 := am (Kd.R_drew HO144.out)
    replace HO149 := am (Kd.R_drew HO149.out)
    replace BK139 := am (blk_drew BK139.out)
    replace BK150 := am (blk_drew BK150.out)
    replace HB := am (below_drew1 HB.out)
    refine start_ (n := 5) (S := fun w' => w'.cell? ⟨gb150, 0, none⟩ = some (.int .i64 t146) ∧ w'.cell? ⟨gb150, 1, none⟩ = some (.slice Ao27 t147.length co27) ∧ w'.cell? ⟨gb139, 0, none⟩ = some (.int .i64 a0_0) ∧ w'.cell? ⟨gb139, 1, none⟩ = some (.slice A0_1 l0_1.length c0_1)) (ds := []) #[false, false, false, false, false] (by kernel_rfl) rfl rfl ⟨(blk_cell BK150.out 0).trans rfl, (blk_cell BK150.out 1).trans rfl, (blk_cell BK139.out 0).trans rfl, (blk_cell BK139.out 1).trans rfl⟩ (fun hHeld => ?_)
    generalize w28.drew = w29 at HO144 HO149 BK139 BK150 HB hHeld ⊢
    refine take_ (i := 0) (N := some 22) (v := ?_) (a' := ?_) #[true, false, false, false, false] rfl rfl (by kernel_rfl) (fun _ _ _ h => h) (Or.inl ⟨by rfl, ?_⟩) hHeld ?_ ?_
    rotate_left
    ·rintro w' ⟨s0, s1, s2, s3⟩
     go_simp
     with_reducible rfl
    rotate_left
    ·simp only [Act.put, List.setIfInBounds_toArray, List.set_cons_zero, List.set_cons_succ, i64_w, i32_w]
     rfl
    refine take_ (i := 1) (N := some 23) (v := ?_) (a' := ?_) #[true, true, false, false, false] rfl rfl (by kernel_rfl) (fun _ _ _ h => h) (Or.inl ⟨by rfl, ?_⟩) hHeld ?_ ?_
    rotate_left
    ·rintro w' ⟨s0, s1, s2, s3⟩
     go_simp
     with_reducible rfl
    rotate_left
    ·simp only [Act.put, List.setIfInBounds_toArray, List.set_cons_zero, List.set_cons_succ, i64_w, i32_w]
     rfl
    refine one_ (i := 2) (N := some 24) #[true, true, true, false, false] rfl rfl (by kernel_rfl) (by decide) (fun K hK => ?_)
    refine goes_ Try.func11 (by kernel_rfl) rfl #[.agg #[.int .i64 a0_0, .slice A0_1 l0_1.length c0_1]] (by rfl) rfl rfl mpx ?_
    with_reducible refine (laws_toClock.calls k a0_0 _ _ l0_1 t152 t153 _ ?side1 ?side2 A12.out).mono ?_
    (case side1 => exact pkC (Kd.C_below HR0_1.out HB.out))
    (case side2 => exact HC0_1.out)
    rintro e w30 ⟨v154, rfl, ho0, hb⟩
    refine ⟨_, rfl, ?_⟩
    have HO155 := am (Kd.R_lower (Kd.R_new' (Kd.R_new' ho0 (Kd.R_lt (pkR HO144.out))) (Kd.R_lt (pkR HO149.out))) (below_size (pkW HB.out)))
    replace HO144 := am (Kd.R_elder' (pkR HO144.out) (Kd.R_base ho0) hb)
    replace HO149 := am (Kd.R_elder' (pkR HO149.out) (Kd.R_base ho0) hb)
    replace BK139 := am (blk_below (pkK BK139.out) hb)
    replace BK150 := am (blk_below (pkK BK150.out) hb)
    replace HB := am (below_step (pkW HB.out) hb)
    (try clear hb); (try clear ho0)
    obtain ⟨Ao31, co31, eo31⟩ := Kd.R_slice HO155.out
    (first | subst eo31 | (injection eo31 with f1_ f2_ f3_; have f4_ := f1_.symm; have f5_ := f3_.symm; clear f1_ f2_ f3_; subst f4_; subst f5_))
    refine hK.out _ _ ⟨(blk_cell BK150.out 0).trans rfl, (blk_cell BK150.out 1).trans rfl, (blk_cell BK139.out 0).trans rfl, (blk_cell BK139.out 1).trans rfl⟩ (fun hHeld => ?_)
    clear hK K
    refine norm_ (a' := ?_) ?_ ?_
    rotate_left
    ·show Act.put _ (some 24) _ = _
     simp only [Act.put, List.setIfInBounds_toArray, List.set_cons_zero, List.set_cons_succ, i64_w, i32_w]
     rfl
    refine one_ (i := 3) (N := some 25) #[true, true, true, true, false] rfl rfl (by kernel_rfl) (by decide) (fun K hK => ?_)
    refine goes_ Try.func13 (by kernel_rfl) rfl #[.agg #[.int .i64 t146, .slice Ao27 t147.length co27], .agg #[.int .i64 t152, .slice Ao31 t153.length co31]] (by rfl) rfl rfl mpx ?_
    with_reducible refine (laws_eqClock.calls k t146 _ _ t147 t152 _ _ t153 true _ ?side1 ?side2 ?side3 ?side4 A13.out).mono ?_
    (case side1 => exact pkC (Kd.R_reads' HO149.out).2.2)
    (case side2 => exact (Kd.R_reads' HO149.out).2.1)
    (case side3 => exact pkC (Kd.R_reads' HO155.out).2.2)
    (case side4 => exact (Kd.R_reads' HO155.out).2.1)
    rintro e w32 ⟨rfl, hb⟩
    refine ⟨_, rfl, ?_⟩
    replace HO144 := am (Kd.R_below (pkR HO144.out) hb)
    replace HO149 := am (Kd.R_below (pkR HO149.out) hb)
    replace HO155 := am (Kd.R_below (pkR HO155.out) hb)
    replace BK139 := am (blk_below (pkK BK139.out) hb)
    replace BK150 := am (blk_below (pkK BK150.out) hb)
    replace HB := am (below_step (pkW HB.out) hb)
    (try clear hb)
    refine hK.out _ _ ⟨(blk_cell BK150.out 0).trans rfl, (blk_cell BK150.out 1).trans rfl, (blk_cell BK139.out 0).trans rfl, (blk_cell BK139.out 1).trans rfl⟩ (fun hHeld => ?_)
    clear hK K
    refine norm_ (a' := ?_) ?_ ?_
    rotate_left
    ·show Act.put _ (some 25) _ = _
     simp only [Act.put, List.setIfInBounds_toArray, List.set_cons_zero, List.set_cons_succ, i64_w, i32_w]
     rfl
    refine pure_ (i := 4) (N := some 26) (v := ?_) (a' := ?_) #[true, true, true, true, true] rfl rfl (by kernel_rfl) (fun _ _ _ h => h) (Or.inl ⟨by rfl, ?_⟩) ?_ ?_
    rotate_left
    ·intro w'
     go_simp
     with_reducible rfl
    rotate_left
    ·simp only [Act.put, List.setIfInBounds_toArray, List.set_cons_zero, List.set_cons_succ, i64_w, i32_w]
     rfl
    refine done_ (by kernel_rfl) ?_
    try go_wp2
    go_ret
    exact ⟨rfe, pkW HB.out⟩
   ·replace c14 := Bool.eq_false_iff.mpr c14
    subst c14
    replace H : (some false) = some r := by rw [if_neg (show ¬ (false = true) by decide)] at H; exact H
    exact absurd (Option.some.inj H) (by rw [HQ_.out]; simp)
end Go.Proofs.Ytfgjfheiekhmlaa.Z
