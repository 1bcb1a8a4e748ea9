/- The Go functions laws_FnExactLatchOk as Lean functions, each with a proof that its code comes to just these answers; conditions: those of each theorem. -/
import Derived.Test.YtffcphplnilokaaZx0
import Derived.Test.YtffcphplnilokaaZx20
import Derived.Test.YtffcphplnilokaaZx21
import Derived.Test.YtffcphplnilokaaZx22
import Derived.Test.YtffcphplnilokaaZx24
namespace Go.Proofs.Ytffcphplnilokaa.Z
open Go.RowKit Go.Proofs.YtffcphplnilokaaW.PrintWords Go.Proofs.YtffcphplnilokaaW.PrintLast Go.Proofs.YtffcphplnilokaaW.PrintMore
attribute [local go_sem] max2_int min2_int max_two min_two max_three min_three max_four min_four   -- for this text's walks alone
set_option linter.unusedVariables false
set_option linter.unusedSimpArgs false
def laws_FnExactLatchOk.f (k : Nat) (a0_0 : Int) (l0_1 : List Int) (l0_2 : List Int) : Option (Bool) := (laws_szLatch.f a0_0 l0_1 l0_2 1048576).bind fun t377 => (if t377 < 0 then (some true) else ((laws_toLatch.f k a0_0 l0_1 l0_2).bind fun bt378 => ((spec_LatchOk.f k bt378.1 bt378.2.1 bt378.2.2).bind fun t385 => ((laws_toLatch.f k a0_0 l0_1 l0_2).bind fun bt386 => ((impl_LatchOk.f k bt386.1 bt386.2.1 bt386.2.2).bind fun t394 => (if (t394 != t385) = true then (some false) else ((laws_toLatch.f k a0_0 l0_1 l0_2).bind fun bt395 => ((laws_eqLatch.f k bt386.1 bt386.2.1 bt386.2.2 bt395.1 bt395.2.1 bt395.2.2).bind fun t402 => (if t402 = true then (some true) else (some false))))))))))
theorem laws_FnExactLatchOk.mono : ∀ a0 a1 a2 k, LeO (laws_FnExactLatchOk.f k a0 a1 a2) (laws_FnExactLatchOk.f (k + 1) a0 a1 a2) := by
 intro a0 a1 a2 k
 unfold laws_FnExactLatchOk.f
 repeat' first
   | (with_reducible exact impl_LatchOk.mono _ _ _ _)
   | (with_reducible exact laws_eqLatch.mono _ _ _ _ _ _ _)
   | (with_reducible exact laws_toLatch.mono _ _ _ _)
   | (with_reducible exact spec_LatchOk.mono _ _ _ _)
   | (with_reducible exact LeO.refl _)
   | (with_reducible exact LeO.none _)
   | (with_reducible refine LeO.ite ?_ ?_)
   | (with_reducible refine LeO.bind ?_ (fun _ => ?_))
set_option maxHeartbeats 8000000 in
set_option maxRecDepth 100000 in
theorem laws_FnExactLatchOk.calls (k : Nat) (a0_0 : Int) (A0_1 : Option Addr) (c0_1 : Nat) (l0_1 : List Int) (A0_2 : Option Addr) (c0_2 : Nat) (l0_2 : List Int) (r : Bool) (w : World) (hr0_1 : Kd.C (Kd.int .i64) w A0_1 l0_1.length l0_1) (hc0_1 : l0_1.length ≤ c0_1) (hr0_2 : Kd.C (Kd.int .i64) w A0_2 l0_2.length l0_2) (hc0_2 : l0_2.length ≤ c0_2) (HQ_ : Aside0 (r = true)) (h : laws_FnExactLatchOk.f k a0_0 l0_1 l0_2 = some r) :
  Calls Try.prog 4 #[.agg #[.int .i64 a0_0, .slice A0_1 l0_1.length c0_1, .slice A0_2 l0_2.length c0_2]] w fun e w' => e = .returned (.bool r) ∧ Below w.heap.size w w' := by
 have hu43 := Try.underlying43
 have hu46 := Try.underlying46
 have HR0_1 := am hr0_1
 have HC0_1 := am hc0_1
 clear hr0_1 hc0_1
 have HR0_2 := am hr0_2
 have HC0_2 := am hc0_2
 clear hr0_2 hc0_2
 have HB := am (Below.refl w.heap.size w)
 have H : ((laws_szLatch.f a0_0 l0_1 l0_2 1048576).bind fun t377 => (if t377 < 0 then (some true) else ((laws_toLatch.f k a0_0 l0_1 l0_2).bind fun bt378 => ((spec_LatchOk.f k bt378.1 bt378.2.1 bt378.2.2).bind fun t385 => ((laws_toLatch.f k a0_0 l0_1 l0_2).bind fun bt386 => ((impl_LatchOk.f k bt386.1 bt386.2.1 bt386.2.2).bind fun t394 => (if (t394 != t385) = true then (some false) else ((laws_toLatch.f k a0_0 l0_1 l0_2).bind fun bt395 => ((laws_eqLatch.f k bt386.1 bt386.2.1 bt386.2.2 bt395.1 bt395.2.1 bt395.2.2).bind fun t402 => (if t402 = true then (some true) else (some false))))))))))) = some r := h
 clear h
 replace H := Option.bind_eq_some_iff.mp H
 obtain ⟨t377, A20, H⟩ := H
 replace H : (if t377 < 0 then (some true) else ((laws_toLatch.f k a0_0 l0_1 l0_2).bind fun bt378 => ((spec_LatchOk.f k bt378.1 bt378.2.1 bt378.2.2).bind fun t385 => ((laws_toLatch.f k a0_0 l0_1 l0_2).bind fun bt386 => ((impl_LatchOk.f k bt386.1 bt386.2.1 bt386.2.2).bind fun t394 => (if (t394 != t385) = true then (some false) else ((laws_toLatch.f k a0_0 l0_1 l0_2).bind fun bt395 => ((laws_eqLatch.f k bt386.1 bt386.2.1 bt386.2.2 bt395.1 bt395.2.1 bt395.2.2).bind fun t402 => (if t402 = true then (some true) else (some false)))))))))) = some r := H
 have A2 := am A20
 clear A20
 by_cases c3 : t377 < 0
 ·rw [if_pos c3] at H
  have c3b0 : decide (t377 < 0) = true := decide_eq_true c3
  clear c3
  obtain rfl := Option.some.inj H
  go_enter Try.func4, Try.ntmps4
  go_wp2_with (first | ((with_reducible refine gate_dst (N := 1) rfl ?_); refine box_event ?hg (N := 1) ?hd (cs := #[.int .i64 a0_0, .slice A0_1 l0_1.length c0_1, .slice A0_2 l0_2.length c0_2]) (t := 43) ?hr ?_; (case hd => rfl); (case hg => rfl); (case hr => first | (go_simp; done) | (go_simp; rfl)); intro gb376 hg w4 hbox hb; have BK376 := am (hbox); have GW376 := am ((by rw [hg]; exact (below_size (pkB HB.out)) : w.heap.size ≤ gb376)); have GE376 := am ((by rw [hg]; exact (below_size (pkB HB.out)) : w.heap.size ≤ gb376)); replace HB := am (below_step (pkB HB.out) hb); clear hb hbox hg; obtain ⟨hcz5_0, hcz5_1, hcz5_2, hfz5_0, hfz5_1, hfz5_2⟩ := bk3 BK376.out) | ((with_reducible refine gate_callee (f := 23) rfl ?_); refine goesL_ (some 9) rfl rfl Try.func23 (by kernel_rfl) rfl #[.agg #[.int .i64 a0_0, .slice A0_1 l0_1.length c0_1, .slice A0_2 l0_2.length c0_2], .int .i64 1048576] rfl mpx ?_; (with_reducible refine (laws_szLatch.calls a0_0 _ _ l0_1 _ _ l0_2 1048576 t377 _ ?side1 ?side2 ?side3 ?side4 A2.out).mono ?_); (case side1 => exact pkC (Kd.C_below HR0_1.out HB.out)); (case side2 => exact HC0_1.out); (case side3 => exact pkC (Kd.C_below HR0_2.out HB.out)); (case side4 => exact HC0_2.out); rintro e w6 ⟨rfl, hb⟩; refine ⟨_, rfl, ?_⟩; replace BK376 := am (blk_below (pkK BK376.out) hb); replace HB := am (below_step (pkW HB.out) hb); (try clear hb)))
  go_ret
  exact ⟨rfe, pkW HB.out⟩
 ·rw [if_neg c3] at H
  have c3b0 : decide (t377 < 0) = false := decide_eq_false c3
  clear c3
  replace H := Option.bind_eq_some_iff.mp H
  obtain ⟨⟨t378, t379, t382⟩, A70, H⟩ := H
  replace H : ((spec_LatchOk.f k t378 t379 t382).bind fun t385 => ((laws_toLatch.f k a0_0 l0_1 l0_2).bind fun bt386 => ((impl_LatchOk.f k bt386.1 bt386.2.1 bt386.2.2).bind fun t394 => (if (t394 != t385) = true then (some false) else ((laws_toLatch.f k a0_0 l0_1 l0_2).bind fun bt395 => ((laws_eqLatch.f k bt386.1 bt386.2.1 bt386.2.2 bt395.1 bt395.2.1 bt395.2.2).bind fun t402 => (if t402 = true then (some true) else (some false)))))))) = some r := H
  have A7 := am A70
  clear A70
  replace H := Option.bind_eq_some_iff.mp H
  obtain ⟨t385, A80, H⟩ := H
  replace H : ((laws_toLatch.f k a0_0 l0_1 l0_2).bind fun bt386 => ((impl_LatchOk.f k bt386.1 bt386.2.1 bt386.2.2).bind fun t394 => (if (t394 != t385) = true then (some false) else ((laws_toLatch.f k a0_0 l0_1 l0_2).bind fun bt395 => ((laws_eqLatch.f k bt386.1 bt386.2.1 bt386.2.2 bt395.1 bt395.2.1 bt395.2.2).bind fun t402 => (if t402 = true then (some true) else (some false))))))) = some r := H
  have A8 := am A80
  clear A80
  replace H := Option.bind_eq_some_iff.mp H
  obtain ⟨⟨t386, t387, t390⟩, A90, H⟩ := H
  replace H : ((impl_LatchOk.f k t386 t387 t390).bind fun t394 => (if (t394 != t385) = true then (some false) else ((laws_toLatch.f k a0_0 l0_1 l0_2).bind fun bt395 => ((laws_eqLatch.f k t386 t387 t390 bt395.1 bt395.2.1 bt395.2.2).bind fun t402 => (if t402 = true then (some true) else (some false)))))) = some r := H
  have A9 := am A90
  clear A90
  replace H := Option.bind_eq_some_iff.mp H
  obtain ⟨t394, A100, H⟩ := H
  replace H : (if (t394 != t385) = true then (some false) else ((laws_toLatch.f k a0_0 l0_1 l0_2).bind fun bt395 => ((laws_eqLatch.f k t386 t387 t390 bt395.1 bt395.2.1 bt395.2.2).bind fun t402 => (if t402 = true then (some true) else (some false))))) = some r := H
  have A10 := am A100
  clear A100
  by_cases c11 : (t394 != t385) = true
  ·rw [if_pos c11] at H
   have c11b0 : (t394 != t385) = true := c11
   (try (have c11b1 : decide (t394 = t385) = false := by simpa using c11))
   (try (have c11b2 : (t394 == t385) = false := by first | exact bq_t c11 | exact bq_f c11 | simpa using c11))
   (try (have c11b3 : ¬ (t394 = t385) := by simpa using c11))
   clear c11
   exact absurd (Option.some.inj H) (by rw [HQ_.out]; simp)
  ·rw [if_neg c11] at H
   have c11b0 : (t394 != t385) = false := by simpa using c11
   (try (have c11b1 : decide (t394 = t385) = true := by simpa using c11))
   (try (have c11b2 : (t394 == t385) = true := by first | exact bq_t c11 | exact bq_f c11 | simpa using c11))
   clear c11
   replace H := Option.bind_eq_some_iff.mp H
   obtain ⟨⟨t395, t396, t399⟩, A120, H⟩ := H
   replace H : ((laws_eqLatch.f k t386 t387 t390 t395 t396 t399).bind fun t402 => (if t402 = true then (some true) else (some false))) = some r := H
   have A12 := am A120
   clear A120
   replace H := Option.bind_eq_some_iff.mp H
   obtain ⟨t402, A130, H⟩ := H
   replace H : (if t402 = true then (some true) else (some false)) = some r := H
   have A13 := am A130
   clear A130
   by_cases c14 : t402 = true
   ·subst c14
    replace H : (some true) = some r := by rw [if_pos rfl] at H; exact H
    obtain rfl := Option.some.inj H
    go_enter Try.func4, Try.ntmps4
    try go_wp2_with (first | ((with_reducible refine gate_dst (N := 1) rfl ?_); refine box_event ?hg (N := 1) ?hd (cs := #[.int .i64 a0_0, .slice A0_1 l0_1.length c0_1, .slice A0_2 l0_2.length c0_2]) (t := 43) ?hr ?_; (case hd => rfl); (case hg => rfl); (case hr => first | (go_simp; done) | (go_simp; rfl)); intro gb376 hg w15 hbox hb; have BK376 := am (hbox); have GW376 := am ((by rw [hg]; exact (below_size (pkB HB.out)) : w.heap.size ≤ gb376)); have GE376 := am ((by rw [hg]; exact (below_size (pkB HB.out)) : w.heap.size ≤ gb376)); replace HB := am (below_step (pkB HB.out) hb); clear hb hbox hg; obtain ⟨hcz16_0, hcz16_1, hcz16_2, hfz16_0, hfz16_1, hfz16_2⟩ := bk3 BK376.out) | ((with_reducible refine gate_callee (f := 23) rfl ?_); refine goesL_ (some 9) rfl rfl Try.func23 (by kernel_rfl) rfl #[.agg #[.int .i64 a0_0, .slice A0_1 l0_1.length c0_1, .slice A0_2 l0_2.length c0_2], .int .i64 1048576] rfl mpx ?_; (with_reducible refine (laws_szLatch.calls a0_0 _ _ l0_1 _ _ l0_2 1048576 t377 _ ?side1 ?side2 ?side3 ?side4 A2.out).mono ?_); (case side1 => exact pkC (Kd.C_below HR0_1.out HB.out)); (case side2 => exact HC0_1.out); (case side3 => exact pkC (Kd.C_below HR0_2.out HB.out)); (case side4 => exact HC0_2.out); rintro e w17 ⟨rfl, hb⟩; refine ⟨_, rfl, ?_⟩; replace BK376 := am (blk_below (pkK BK376.out) hb); replace HB := am (below_step (pkW HB.out) hb); (try clear hb); obtain ⟨hcz18_0, hcz18_1, hcz18_2, hfz18_0, hfz18_1, hfz18_2⟩ := bk3 BK376.out) | ((with_reducible refine gate_callee (f := 25) rfl ?_); refine goesL_ (some 13) rfl rfl Try.func25 (by kernel_rfl) rfl #[.agg #[.int .i64 a0_0, .slice A0_1 l0_1.length c0_1, .slice A0_2 l0_2.length c0_2]] rfl mpx ?_; (with_reducible refine (laws_toLatch.calls k a0_0 _ _ l0_1 _ _ l0_2 t378 t379 t382 _ ?side1 ?side2 ?side3 ?side4 A7.out).mono ?_); (case side1 => exact pkC (Kd.C_below HR0_1.out HB.out)); (case side2 => exact HC0_1.out); (case side3 => exact pkC (Kd.C_below HR0_2.out HB.out)); (case side4 => exact HC0_2.out); rintro e w19 ⟨v380, v383, rfl, ho0, ho1, hb⟩; refine ⟨_, rfl, ?_⟩; have HO381 := am (Kd.R_lower ho0 (below_size (pkW HB.out))); have HO384 := am (Kd.R_lower ho1 (below_size (pkW HB.out))); replace BK376 := am (blk_below (pkK BK376.out) hb); replace HB := am (below_step (pkW HB.out) hb); (try clear hb ho0 ho1); obtain ⟨Ao20, co20, eo20⟩ := Kd.R_slice HO381.out; subst eo20; obtain ⟨Ao21, co21, eo21⟩ := Kd.R_slice HO384.out; subst eo21) | ((with_reducible refine gate_callee (f := 24) rfl ?_); refine goesL_ (some 14) rfl rfl Try.func24 (by kernel_rfl) rfl #[.agg #[.int .i64 t378, .slice Ao20 t379.length co20, .slice Ao21 t382.length co21]] rfl mpx ?_; (with_reducible refine (spec_LatchOk.calls k t378 _ _ t379 _ _ t382 t385 _ ?side1 ?side2 ?side3 ?side4 A8.out).mono ?_); (case side1 => exact pkC (Kd.R_reads' HO381.out).2.2); (case side2 => exact (Kd.R_reads' HO381.out).2.1); (case side3 => exact pkC (Kd.R_reads' HO384.out).2.2); (case side4 => exact (Kd.R_reads' HO384.out).2.1); rintro e w22 ⟨rfl, hb⟩; refine ⟨_, rfl, ?_⟩; replace HO381 := am (Kd.R_below (pkR HO381.out) hb); replace HO384 := am (Kd.R_below (pkR HO384.out) hb); replace BK376 := am (blk_below (pkK BK376.out) hb); replace HB := am (below_step (pkW HB.out) hb); (try clear hb); obtain ⟨hcz23_0, hcz23_1, hcz23_2, hfz23_0, hfz23_1, hfz23_2⟩ := bk3 BK376.out) | ((with_reducible refine gate_callee (f := 25) rfl ?_); refine goesL_ (some 16) rfl rfl Try.func25 (by kernel_rfl) rfl #[.agg #[.int .i64 a0_0, .slice A0_1 l0_1.length c0_1, .slice A0_2 l0_2.length c0_2]] rfl mpx ?_; (with_reducible refine (laws_toLatch.calls k a0_0 _ _ l0_1 _ _ l0_2 t386 t387 t390 _ ?side1 ?side2 ?side3 ?side4 A9.out).mono ?_); (case side1 => exact pkC (Kd.C_below HR0_1.out HB.out)); (case side2 => exact HC0_1.out); (case side3 => exact pkC (Kd.C_below HR0_2.out HB.out)); (case side4 => exact HC0_2.out); rintro e w24 ⟨v388, v391, rfl, ho0, ho1, hb⟩; refine ⟨_, rfl, ?_⟩; have HO389 := am (Kd.R_lower (Kd.R_new' (Kd.R_new' ho0 (Kd.R_lt (pkR HO381.out))) (Kd.R_lt (pkR HO384.out))) (below_size (pkW HB.out))); have HO392 := am (Kd.R_lower (Kd.R_new' (Kd.R_new' ho1 (Kd.R_lt (pkR HO381.out))) (Kd.R_lt (pkR HO384.out))) (below_size (pkW HB.out))); replace HO381 := am (Kd.R_mono (Kd.R_told (Kd.R_told (Kd.R_old (pkR HO381.out) hb) (Kd.R_base ho0)) (Kd.R_base ho1)) (fun _ h_ => h_.1)); replace HO384 := am (Kd.R_mono (Kd.R_told (Kd.R_told (Kd.R_old (pkR HO384.out) hb) (Kd.R_base ho0)) (Kd.R_base ho1)) (fun _ h_ => h_.1)); replace BK376 := am (blk_below (pkK BK376.out) hb); replace HB := am (below_step (pkW HB.out) hb); (try clear hb ho0 ho1)) | ((with_reducible refine gate_dst (N := 5) rfl ?_); refine box_event ?hg (N := 5) ?hd (cs := #[.int .i64 0, .slice none 0 0, .slice none 0 0]) (t := 46) ?hr ?_; (case hd => rfl); (case hg => rfl); (case hr => first | (go_simp; done) | (go_simp; rfl)); intro gb393 hg w25 hbox hb; replace HO381 := am (Kd.R_below (pkR HO381.out) hb); replace HO384 := am (Kd.R_below (pkR HO384.out) hb); replace HO389 := am (Kd.R_below (pkR HO389.out) hb); replace HO392 := am (Kd.R_below (pkR HO392.out) hb); have BK393 := am (hbox); have GW393 := am ((by rw [hg]; exact (below_size (pkW HB.out)) : w.heap.size ≤ gb393)); have GE393 := am ((by rw [hg]; exact (below_size (pkW HB.out)) : w.heap.size ≤ gb393)); replace HB := am (below_step (pkW HB.out) hb); have NB376_393 := am ((by rw [hg]; exact Nat.ne_of_lt (blk_lt (g := gb376) (o := .cells #[.int .i64 a0_0, .slice A0_1 l0_1.length c0_1, .slice A0_2 l0_2.length c0_2] 43 (0, 0)) (pkK BK376.out)) : gb376 ≠ gb393)); have NB393_376 := am ((by rw [hg]; exact Nat.ne_of_gt (blk_lt (g := gb376) (o := .cells #[.int .i64 a0_0, .slice A0_1 l0_1.length c0_1, .slice A0_2 l0_2.length c0_2] 43 (0, 0)) (pkK BK376.out)) : gb393 ≠ gb376)); replace BK376 := am (blk_below (pkK BK376.out) hb); clear hb hbox hg; have hnb26 := NB393_376.out; have hnc26 := NB376_393.out; obtain ⟨hcz27_0, hcz27_1, hcz27_2, hfz27_0, hfz27_1, hfz27_2⟩ := bk3 BK393.out; obtain ⟨Ao28, co28, eo28⟩ := Kd.R_slice HO389.out; subst eo28; obtain ⟨Ao29, co29, eo29⟩ := Kd.R_slice HO392.out; subst eo29) | ((with_reducible refine gate_callee (f := 26) rfl ?_); refine goesL_ (some 18) rfl rfl Try.func26 (by kernel_rfl) rfl #[.agg #[.int .i64 t386, .slice Ao28 t387.length co28, .slice Ao29 t390.length co29]] rfl mpx ?_; (with_reducible refine (impl_LatchOk.calls k t386 _ _ t387 _ _ t390 t394 _ ?side1 ?side2 ?side3 ?side4 A10.out).mono ?_); (case side1 => refine (Kd.R_reads' (e := 3) (base := w.heap.size) (ok := fun k_ => ((some k_ ≠ (.slice Ao29 t390.length co29 : Value).ownBlock ∧ some k_ ≠ (.slice Ao20 t379.length co20 : Value).ownBlock) ∧ some k_ ≠ (.slice Ao21 t382.length co21 : Value).ownBlock)) (n := t387.length) (c := co28) ?_).2.2; exact (by (with_reducible repeat (first | apply Kd.R_alloc | apply Kd.R_drewN | apply Kd.R_drew)); exact (Kd.R_mono (Kd.R_far (p := ⟨gb393, 2, none⟩) (Kd.R_far (p := ⟨gb393, 1, none⟩) (Kd.R_far (p := ⟨gb393, 0, none⟩) (Kd.R_types HO389.out BK393.out (by decide)) (fun _ hk => hk.2) (.int .i64 t386)) (fun _ hk => hk.2) (.slice Ao28 t387.length co28)) (fun _ hk => hk.2) (.slice Ao29 t390.length co29)) (fun _ h_ => h_.1)))); (case side2 => exact (Kd.R_reads' HO389.out).2.1); (case side3 => refine (Kd.R_reads' (e := 3) (base := w.heap.size) (ok := fun k_ => ((some k_ ≠ (.slice Ao28 t387.length co28 : Value).ownBlock ∧ some k_ ≠ (.slice Ao20 t379.length co20 : Value).ownBlock) ∧ some k_ ≠ (.slice Ao21 t382.length co21 : Value).ownBlock)) (n := t390.length) (c := co29) ?_).2.2; exact (by (with_reducible repeat (first | apply Kd.R_alloc | apply Kd.R_drewN | apply Kd.R_drew)); exact (Kd.R_mono (Kd.R_far (p := ⟨gb393, 2, none⟩) (Kd.R_far (p := ⟨gb393, 1, none⟩) (Kd.R_far (p := ⟨gb393, 0, none⟩) (Kd.R_types HO392.out BK393.out (by decide)) (fun _ hk => hk.2) (.int .i64 t386)) (fun _ hk => hk.2) (.slice Ao28 t387.length co28)) (fun _ hk => hk.2) (.slice Ao29 t390.length co29)) (fun _ h_ => h_.1)))); (case side4 => exact (Kd.R_reads' HO392.out).2.1); rintro e w30 ⟨rfl, hb⟩; refine ⟨_, rfl, ?_⟩; replace HO381 := am (Kd.R_below (by (with_reducible repeat (first | apply Kd.R_alloc | apply Kd.R_drewN | apply Kd.R_drew)); exact (Kd.R_mono (Kd.R_far (p := ⟨gb393, 2, none⟩) (Kd.R_far (p := ⟨gb393, 1, none⟩) (Kd.R_far (p := ⟨gb393, 0, none⟩) (Kd.R_types HO381.out BK393.out (by decide)) (fun _ hk => hk.2) (.int .i64 t386)) (fun _ hk => hk.2) (.slice Ao28 t387.length co28)) (fun _ hk => hk.2) (.slice Ao29 t390.length co29)) (fun _ h_ => h_.1))) hb); replace HO384 := am (Kd.R_below (by (with_reducible repeat (first | apply Kd.R_alloc | apply Kd.R_drewN | apply Kd.R_drew)); exact (Kd.R_mono (Kd.R_far (p := ⟨gb393, 2, none⟩) (Kd.R_far (p := ⟨gb393, 1, none⟩) (Kd.R_far (p := ⟨gb393, 0, none⟩) (Kd.R_types HO384.out BK393.out (by decide)) (fun _ hk => hk.2) (.int .i64 t386)) (fun _ hk => hk.2) (.slice Ao28 t387.length co28)) (fun _ hk => hk.2) (.slice Ao29 t390.length co29)) (fun _ h_ => h_.1))) hb); replace HO389 := am (Kd.R_below (by (with_reducible repeat (first | apply Kd.R_alloc | apply Kd.R_drewN | apply Kd.R_drew)); exact (Kd.R_mono (Kd.R_far (p := ⟨gb393, 2, none⟩) (Kd.R_far (p := ⟨gb393, 1, none⟩) (Kd.R_far (p := ⟨gb393, 0, none⟩) (Kd.R_types HO389.out BK393.out (by decide)) (fun _ hk => hk.2) (.int .i64 t386)) (fun _ hk => hk.2) (.slice Ao28 t387.length co28)) (fun _ hk => hk.2) (.slice Ao29 t390.length co29)) (fun _ h_ => h_.1))) hb); replace HO392 := am (Kd.R_below (by (with_reducible repeat (first | apply Kd.R_alloc | apply Kd.R_drewN | apply Kd.R_drew)); exact (Kd.R_mono (Kd.R_far (p := ⟨gb393, 2, none⟩) (Kd.R_far (p := ⟨gb393, 1, none⟩) (Kd.R_far (p := ⟨gb393, 0, none⟩) (Kd.R_types HO392.out BK393.out (by decide)) (fun _ hk => hk.2) (.int .i64 t386)) (fun _ hk => hk.2) (.slice Ao28 t387.length co28)) (fun _ hk => hk.2) (.slice Ao29 t390.length co29)) (fun _ h_ => h_.1))) hb); replace BK376 := am (blk_below (g := gb376) (o := .cells #[.int .i64 a0_0, .slice A0_1 l0_1.length c0_1, .slice A0_2 l0_2.length c0_2] 43 (0, 0)) (by (with_reducible repeat (first | refine blk_drewN ?_ _ | refine blk_drew ?_ | refine blk_alloc ?_ _)); refine blk_far ?_ NB376_393.out _; (with_reducible repeat (first | refine blk_drewN ?_ _ | refine blk_drew ?_ | refine blk_alloc ?_ _)); refine blk_far ?_ NB376_393.out _; (with_reducible repeat (first | refine blk_drewN ?_ _ | refine blk_drew ?_ | refine blk_alloc ?_ _)); refine blk_far ?_ NB376_393.out _; exact pkK BK376.out) hb); replace BK393 := am (blk_below (g := gb393) (o := .cells #[.int .i64 t386, .slice Ao28 t387.length co28, .slice Ao29 t390.length co29] 46 (0, 0)) (by (with_reducible repeat (first | refine blk_drewN ?_ _ | refine blk_drew ?_ | refine blk_alloc ?_ _)); refine blk_put (cs := #[.int .i64 t386, .slice Ao28 t387.length co28, .slice none 0 0]) ?_ 2 _ rfl; (with_reducible repeat (first | refine blk_drewN ?_ _ | refine blk_drew ?_ | refine blk_alloc ?_ _)); refine blk_put (cs := #[.int .i64 t386, .slice none 0 0, .slice none 0 0]) ?_ 1 _ rfl; (with_reducible repeat (first | refine blk_drewN ?_ _ | refine blk_drew ?_ | refine blk_alloc ?_ _)); refine blk_put (cs := #[.int .i64 0, .slice none 0 0, .slice none 0 0]) ?_ 0 _ rfl; exact pkK BK393.out) hb); replace HB := am (below_step (pkW HB.out) hb); (try clear hb)))
    replace HO381 := am (Kd.R_drew HO381.out)
    replace HO384 := am (Kd.R_drew HO384.out)
    replace HO389 := am (Kd.R_drew HO389.out)
    replace HO392 := am (Kd.R_drew HO392.out)
    replace BK376 := am (blk_drew BK376.out)
    replace BK393 := am (blk_drew BK393.out)
    replace HB := am (below_drew1 HB.out)
    refine start_ (n := 5) (S := fun w' => w'.cell? ⟨gb393, 0, none⟩ = some (.int .i64 t386) ∧ w'.cell? ⟨gb393, 1, none⟩ = some (.slice Ao28 t387.length co28) ∧ w'.cell? ⟨gb393, 2, none⟩ = some (.slice Ao29 t390.length co29) ∧ w'.cell? ⟨gb376, 0, none⟩ = some (.int .i64 a0_0) ∧ w'.cell? ⟨gb376, 1, none⟩ = some (.slice A0_1 l0_1.length c0_1) ∧ w'.cell? ⟨gb376, 2, none⟩ = some (.slice A0_2 l0_2.length c0_2)) (ds := []) #[false, false, false, false, false] (by kernel_rfl) rfl rfl ⟨(blk_cell BK393.out 0).trans rfl, (blk_cell BK393.out 1).trans rfl, (blk_cell BK393.out 2).trans rfl, (blk_cell BK376.out 0).trans rfl, (blk_cell BK376.out 1).trans rfl, (blk_cell BK376.out 2).trans rfl⟩ (fun hHeld => ?_)
    generalize w30.drew = w31 at HO381 HO384 HO389 HO392 BK376 BK393 HB hHeld ⊢
    refine take_ (i := 0) (N := some 22) (v := ?_) (a' := ?_) #[true, false, false, false, false] rfl rfl (by kernel_rfl) (fun _ _ _ h => h) (Or.inl ⟨by rfl, ?_⟩) hHeld ?_ ?_
    rotate_left
    ·rintro w' ⟨s0, s1, s2, s3, s4, s5⟩
     go_simp
     with_reducible rfl
    rotate_left
    ·simp only [Act.put, List.setIfInBounds_toArray, List.set_cons_zero, List.set_cons_succ, i64_w, i32_w]
     rfl
    refine take_ (i := 1) (N := some 23) (v := ?_) (a' := ?_) #[true, true, false, false, false] rfl rfl (by kernel_rfl) (fun _ _ _ h => h) (Or.inl ⟨by rfl, ?_⟩) hHeld ?_ ?_
    rotate_left
    ·rintro w' ⟨s0, s1, s2, s3, s4, s5⟩
     go_simp
     with_reducible rfl
    rotate_left
    ·simp only [Act.put, List.setIfInBounds_toArray, List.set_cons_zero, List.set_cons_succ, i64_w, i32_w]
     rfl
    refine one_ (i := 2) (N := some 24) #[true, true, true, false, false] rfl rfl (by kernel_rfl) (by decide) (fun K hK => ?_)
    refine goes_ Try.func25 (by kernel_rfl) rfl #[.agg #[.int .i64 a0_0, .slice A0_1 l0_1.length c0_1, .slice A0_2 l0_2.length c0_2]] (by rfl) rfl rfl mpx ?_
    with_reducible refine (laws_toLatch.calls k a0_0 _ _ l0_1 _ _ l0_2 t395 t396 t399 _ ?side1 ?side2 ?side3 ?side4 A12.out).mono ?_
    (case side1 => exact pkC (Kd.C_below HR0_1.out HB.out))
    (case side2 => exact HC0_1.out)
    (case side3 => exact pkC (Kd.C_below HR0_2.out HB.out))
    (case side4 => exact HC0_2.out)
    rintro e w32 ⟨v397, v400, rfl, ho0, ho1, hb⟩
    refine ⟨_, rfl, ?_⟩
    have HO398 := am (Kd.R_lower (Kd.R_new' (Kd.R_new' (Kd.R_new' (Kd.R_new' ho0 (Kd.R_lt (pkR HO381.out))) (Kd.R_lt (pkR HO384.out))) (Kd.R_lt (pkR HO389.out))) (Kd.R_lt (pkR HO392.out))) (below_size (pkW HB.out)))
    have HO401 := am (Kd.R_lower (Kd.R_new' (Kd.R_new' (Kd.R_new' (Kd.R_new' ho1 (Kd.R_lt (pkR HO381.out))) (Kd.R_lt (pkR HO384.out))) (Kd.R_lt (pkR HO389.out))) (Kd.R_lt (pkR HO392.out))) (below_size (pkW HB.out)))
    replace HO381 := am (Kd.R_mono (Kd.R_told (Kd.R_told (Kd.R_old (pkR HO381.out) hb) (Kd.R_base ho0)) (Kd.R_base ho1)) (fun _ h_ => h_.1))
    replace HO384 := am (Kd.R_mono (Kd.R_told (Kd.R_told (Kd.R_old (pkR HO384.out) hb) (Kd.R_base ho0)) (Kd.R_base ho1)) (fun _ h_ => h_.1))
    replace HO389 := am (Kd.R_mono (Kd.R_told (Kd.R_told (Kd.R_old (pkR HO389.out) hb) (Kd.R_base ho0)) (Kd.R_base ho1)) (fun _ h_ => h_.1))
    replace HO392 := am (Kd.R_mono (Kd.R_told (Kd.R_told (Kd.R_old (pkR HO392.out) hb) (Kd.R_base ho0)) (Kd.R_base ho1)) (fun _ h_ => h_.1))
    replace BK376 := am (blk_below (pkK BK376.out) hb)
    replace BK393 := am (blk_below (pkK BK393.out) hb)
    replace HB := am (below_step (pkW HB.out) hb)
    (try clear hb); (try clear ho0 ho1)
    obtain ⟨Ao33, co33, eo33⟩ := Kd.R_slice HO398.out
    (first | subst eo33 | (injection eo33 with f1_ f2_ f3_; have f4_ := f1_.symm; have f5_ := f3_.symm; clear f1_ f2_ f3_; subst f4_; subst f5_))
    obtain ⟨Ao34, co34, eo34⟩ := Kd.R_slice HO401.out
    (first | subst eo34 | (injection eo34 with f1_ f2_ f3_; have f4_ := f1_.symm; have f5_ := f3_.symm; clear f1_ f2_ f3_; subst f4_; subst f5_))
    refine hK.out _ _ ⟨(blk_cell BK393.out 0).trans rfl, (blk_cell BK393.out 1).trans rfl, (blk_cell BK393.out 2).trans rfl, (blk_cell BK376.out 0).trans rfl, (blk_cell BK376.out 1).trans rfl, (blk_cell BK376.out 2).trans rfl⟩ (fun hHeld => ?_)
    clear hK K
    refine norm_ (a' := ?_) ?_ ?_
    rotate_left
    ·show Act.put _ (some 24) _ = _
     simp only [Act.put, List.setIfInBounds_toArray, List.set_cons_zero, List.set_cons_succ, i64_w, i32_w]
     rfl
    refine one_ (i := 3) (N := some 25) #[true, true, true, true, false] rfl rfl (by kernel_rfl) (by decide) (fun K hK => ?_)
    refine goes_ Try.func27 (by kernel_rfl) rfl #[.agg #[.int .i64 t386, .slice Ao28 t387.length co28, .slice Ao29 t390.length co29], .agg #[.int .i64 t395, .slice Ao33 t396.length co33, .slice Ao34 t399.length co34]] (by rfl) rfl rfl mpx ?_
    with_reducible refine (laws_eqLatch.calls k t386 _ _ t387 _ _ t390 t395 _ _ t396 _ _ t399 true _ ?side1 ?side2 ?side3 ?side4 ?side5 ?side6 ?side7 ?side8 A13.out).mono ?_
    (case side1 => exact pkC (Kd.R_reads' HO389.out).2.2)
    (case side2 => exact (Kd.R_reads' HO389.out).2.1)
    (case side3 => exact pkC (Kd.R_reads' HO392.out).2.2)
    (case side4 => exact (Kd.R_reads' HO392.out).2.1)
    (case side5 => exact pkC (Kd.R_reads' HO398.out).2.2)
    (case side6 => exact (Kd.R_reads' HO398.out).2.1)
    (case side7 => exact pkC (Kd.R_reads' HO401.out).2.2)
    (case side8 => exact (Kd.R_reads' HO401.out).2.1)
    rintro e w35 ⟨rfl, hb⟩
    refine ⟨_, rfl, ?_⟩
    replace HO381 := am (Kd.R_below (pkR HO381.out) hb)
    replace HO384 := am (Kd.R_below (pkR HO384.out) hb)
    replace HO389 := am (Kd.R_below (pkR HO389.out) hb)
    replace HO392 := am (Kd.R_below (pkR HO392.out) hb)
    replace HO398 := am (Kd.R_below (pkR HO398.out) hb)
    replace HO401 := am (Kd.R_below (pkR HO401.out) hb)
    replace BK376 := am (blk_below (pkK BK376.out) hb)
    replace BK393 := am (blk_below (pkK BK393.out) hb)
    replace HB := am (below_step (pkW HB.out) hb)
    (try clear hb)
    refine hK.out _ _ ⟨(blk_cell BK393.out 0).trans rfl, (blk_cell BK393.out 1).trans rfl, (blk_cell BK393.out 2).trans rfl, (blk_cell BK376.out 0).trans rfl, (blk_cell BK376.out 1).trans rfl, (blk_cell BK376.out 2).trans rfl⟩ (fun hHeld => ?_)
    clear hK K
    refine norm_ (a' := ?_) ?_ ?_
    rotate_left
    ·show Act.put _ (some 25) _ = _
     simp only [Act.put, List.setIfInBounds_toArray, List.set_cons_zero, List.set_cons_succ, i64_w, i32_w]
     rfl
    refine pure_ (i := 4) (N := some 26) (v := ?_) (a' := ?_) #[true, true, true, true, true] rfl rfl (by kernel_rfl) (fun _ _ _ h => h) (Or.inl ⟨by rfl, ?_⟩) ?_ ?_
    rotate_left
    ·intro w'
     go_simp
     with_reducible rfl
    rotate_left
    ·simp only [Act.put, List.setIfInBounds_toArray, List.set_cons_zero, List.set_cons_succ, i64_w, i32_w]
     rfl
    refine done_ (by kernel_rfl) ?_
    try go_wp2
    go_ret
    exact ⟨rfe, pkW HB.out⟩
   ·replace c14 := Bool.eq_false_iff.mpr c14
    subst c14
    replace H : (some false) = some r := by rw [if_neg (show ¬ (false = true) by decide)] at H; exact H
    exact absurd (Option.some.inj H) (by rw [HQ_.out]; simp)
end Go.Proofs.Ytffcphplnilokaa.Z
