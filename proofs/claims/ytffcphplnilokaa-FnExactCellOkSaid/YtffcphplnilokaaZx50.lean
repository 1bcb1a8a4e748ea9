/- The Go functions laws_FnExactCellOk as Lean functions, each with a proof that its code comes to just these answers; conditions: those of each theorem. -/
import Derived.Test.YtffcphplnilokaaZx0
import Derived.Test.YtffcphplnilokaaZx5
import Derived.Test.YtffcphplnilokaaZx20
import Derived.Test.YtffcphplnilokaaZx28
import Derived.Test.YtffcphplnilokaaZx29
namespace Go.Proofs.Ytffcphplnilokaa.Z
open Go.RowKit Go.Proofs.YtffcphplnilokaaW.PrintWords Go.Proofs.YtffcphplnilokaaW.PrintLast Go.Proofs.YtffcphplnilokaaW.PrintMore
attribute [local go_sem] max2_int min2_int max_two min_two max_three min_three max_four min_four   -- for this text's walks alone
set_option linter.unusedVariables false
set_option linter.unusedSimpArgs false
def laws_FnExactCellOk.f (k : Nat) (a0_0 : Int) (a0_1 : Int) (a0_2 : ByteArray) (a0_3 : Int) (a0_4 : Bool) (l0_5 : List Int) (l0_6 : List Int) : Option (Bool) := (laws_szCell.f a0_0 a0_1 a0_2 a0_3 a0_4 l0_5 l0_6 1048576).bind fun t567 => (if t567 < 0 then (some true) else ((laws_toCell.f k a0_0 a0_1 a0_2 a0_3 a0_4 l0_5 l0_6).bind fun bt568 => ((spec_CellOk.f k bt568.1 bt568.2.1 bt568.2.2.1 bt568.2.2.2.1 bt568.2.2.2.2.1 bt568.2.2.2.2.2.1 bt568.2.2.2.2.2.2).bind fun t579 => ((laws_toCell.f k a0_0 a0_1 a0_2 a0_3 a0_4 l0_5 l0_6).bind fun bt580 => ((impl_CellOk.f k bt580.1 bt580.2.1 bt580.2.2.1 bt580.2.2.2.1 bt580.2.2.2.2.1 bt580.2.2.2.2.2.1 bt580.2.2.2.2.2.2).bind fun t592 => (if (t592 != t579) = true then (some false) else ((laws_toCell.f k a0_0 a0_1 a0_2 a0_3 a0_4 l0_5 l0_6).bind fun bt593 => ((laws_eqCell.f k bt580.1 bt580.2.1 bt580.2.2.1 bt580.2.2.2.1 bt580.2.2.2.2.1 bt580.2.2.2.2.2.1 bt580.2.2.2.2.2.2 bt593.1 bt593.2.1 bt593.2.2.1 bt593.2.2.2.1 bt593.2.2.2.2.1 bt593.2.2.2.2.2.1 bt593.2.2.2.2.2.2).bind fun t604 => (if t604 = true then (some true) else (some false))))))))))
theorem laws_FnExactCellOk.mono : ∀ a0 a1 a2 a3 a4 a5 a6 k, LeO (laws_FnExactCellOk.f k a0 a1 a2 a3 a4 a5 a6) (laws_FnExactCellOk.f (k + 1) a0 a1 a2 a3 a4 a5 a6) := by
 intro a0 a1 a2 a3 a4 a5 a6 k
 unfold laws_FnExactCellOk.f
 repeat' first
   | (with_reducible exact impl_CellOk.mono _ _ _ _ _ _ _ _)
   | (with_reducible exact laws_eqCell.mono _ _ _ _ _ _ _ _ _ _ _ _ _ _ _)
   | (with_reducible exact laws_toCell.mono _ _ _ _ _ _ _ _)
   | (with_reducible exact spec_CellOk.mono _ _ _ _ _ _ _ _)
   | (with_reducible exact LeO.refl _)
   | (with_reducible exact LeO.none _)
   | (with_reducible refine LeO.ite ?_ ?_)
   | (with_reducible refine LeO.bind ?_ (fun _ => ?_))
set_option maxHeartbeats 8000000 in
set_option maxRecDepth 100000 in
theorem laws_FnExactCellOk.calls (k : Nat) (a0_0 : Int) (a0_1 : Int) (a0_2 : ByteArray) (a0_3 : Int) (a0_4 : Bool) (A0_5 : Option Addr) (c0_5 : Nat) (l0_5 : List Int) (A0_6 : Option Addr) (c0_6 : Nat) (l0_6 : List Int) (r : Bool) (w : World) (hr0_5 : Kd.C (Kd.int .i64) w A0_5 l0_5.length l0_5) (hc0_5 : l0_5.length ≤ c0_5) (hr0_6 : Kd.C (Kd.int .i64) w A0_6 l0_6.length l0_6) (hc0_6 : l0_6.length ≤ c0_6) (HQ_ : Aside0 (r = true)) (h : laws_FnExactCellOk.f k a0_0 a0_1 a0_2 a0_3 a0_4 l0_5 l0_6 = some r) :
  Calls Try.prog 6 #[.agg #[.int .i64 a0_0, .int .i64 a0_1, .string a0_2, .int .i64 a0_3, .bool a0_4, .slice A0_5 l0_5.length c0_5, .slice A0_6 l0_6.length c0_6]] w fun e w' => e = .returned (.bool r) ∧ Below w.heap.size w w' := by
 have hu56 := Try.underlying56
 have hu29 := Try.underlying29
 have HR0_5 := am hr0_5
 have HC0_5 := am hc0_5
 clear hr0_5 hc0_5
 have HR0_6 := am hr0_6
 have HC0_6 := am hc0_6
 clear hr0_6 hc0_6
 have HB := am (Below.refl w.heap.size w)
 have H : ((laws_szCell.f a0_0 a0_1 a0_2 a0_3 a0_4 l0_5 l0_6 1048576).bind fun t567 => (if t567 < 0 then (some true) else ((laws_toCell.f k a0_0 a0_1 a0_2 a0_3 a0_4 l0_5 l0_6).bind fun bt568 => ((spec_CellOk.f k bt568.1 bt568.2.1 bt568.2.2.1 bt568.2.2.2.1 bt568.2.2.2.2.1 bt568.2.2.2.2.2.1 bt568.2.2.2.2.2.2).bind fun t579 => ((laws_toCell.f k a0_0 a0_1 a0_2 a0_3 a0_4 l0_5 l0_6).bind fun bt580 => ((impl_CellOk.f k bt580.1 bt580.2.1 bt580.2.2.1 bt580.2.2.2.1 bt580.2.2.2.2.1 bt580.2.2.2.2.2.1 bt580.2.2.2.2.2.2).bind fun t592 => (if (t592 != t579) = true then (some false) else ((laws_toCell.f k a0_0 a0_1 a0_2 a0_3 a0_4 l0_5 l0_6).bind fun bt593 => ((laws_eqCell.f k bt580.1 bt580.2.1 bt580.2.2.1 bt580.2.2.2.1 bt580.2.2.2.2.1 bt580.2.2.2.2.2.1 bt580.2.2.2.2.2.2 bt593.1 bt593.2.1 bt593.2.2.1 bt593.2.2.2.1 bt593.2.2.2.2.1 bt593.2.2.2.2.2.1 bt593.2.2.2.2.2.2).bind fun t604 => (if t604 = true then (some true) else (some false))))))))))) = some r := h
 clear h
 replace H := Option.bind_eq_some_iff.mp H
 obtain ⟨t567, A20, H⟩ := H
 replace H : (if t567 < 0 then (some true) else ((laws_toCell.f k a0_0 a0_1 a0_2 a0_3 a0_4 l0_5 l0_6).bind fun bt568 => ((spec_CellOk.f k bt568.1 bt568.2.1 bt568.2.2.1 bt568.2.2.2.1 bt568.2.2.2.2.1 bt568.2.2.2.2.2.1 bt568.2.2.2.2.2.2).bind fun t579 => ((laws_toCell.f k a0_0 a0_1 a0_2 a0_3 a0_4 l0_5 l0_6).bind fun bt580 => ((impl_CellOk.f k bt580.1 bt580.2.1 bt580.2.2.1 bt580.2.2.2.1 bt580.2.2.2.2.1 bt580.2.2.2.2.2.1 bt580.2.2.2.2.2.2).bind fun t592 => (if (t592 != t579) = true then (some false) else ((laws_toCell.f k a0_0 a0_1 a0_2 a0_3 a0_4 l0_5 l0_6).bind fun bt593 => ((laws_eqCell.f k bt580.1 bt580.2.1 bt580.2.2.1 bt580.2.2.2.1 bt580.2.2.2.2.1 bt580.2.2.2.2.2.1 bt580.2.2.2.2.2.2 bt593.1 bt593.2.1 bt593.2.2.1 bt593.2.2.2.1 bt593.2.2.2.2.1 bt593.2.2.2.2.2.1 bt593.2.2.2.2.2.2).bind fun t604 => (if t604 = true then (some true) else (some false)))))))))) = some r := H
 have A2 := am A20
 clear A20
 by_cases c3 : t567 < 0
 ·rw [if_pos c3] at H
  have c3b0 : decide (t567 < 0) = true := decide_eq_true c3
  clear c3
  obtain rfl := Option.some.inj H
  go_enter Try.func6, Try.ntmps6
  go_wp2_with (first | ((with_reducible refine gate_dst (N := 1) rfl ?_); refine box_event ?hg (N := 1) ?hd (cs := #[.int .i64 a0_0, .int .i64 a0_1, .string a0_2, .int .i64 a0_3, .bool a0_4, .slice A0_5 l0_5.length c0_5, .slice A0_6 l0_6.length c0_6]) (t := 56) ?hr ?_; (case hd => rfl); (case hg => rfl); (case hr => first | (go_simp; done) | (go_simp; rfl)); intro gb566 hg w4 hbox hb; have BK566 := am (hbox); have GW566 := am ((by rw [hg]; exact (below_size (pkB HB.out)) : w.heap.size ≤ gb566)); have GE566 := am ((by rw [hg]; exact (below_size (pkB HB.out)) : w.heap.size ≤ gb566)); replace HB := am (below_step (pkB HB.out) hb); clear hb hbox hg; obtain ⟨hcz5_0, hcz5_1, hcz5_2, hcz5_3, hcz5_4, hcz5_5, hcz5_6, hfz5_0, hfz5_1, hfz5_2, hfz5_3, hfz5_4, hfz5_5, hfz5_6⟩ := bk7 BK566.out) | ((with_reducible refine gate_callee (f := 31) rfl ?_); refine goesL_ (some 9) rfl rfl Try.func31 (by kernel_rfl) rfl #[.agg #[.int .i64 a0_0, .int .i64 a0_1, .string a0_2, .int .i64 a0_3, .bool a0_4, .slice A0_5 l0_5.length c0_5, .slice A0_6 l0_6.length c0_6], .int .i64 1048576] rfl mpx ?_; (with_reducible refine (laws_szCell.calls a0_0 a0_1 a0_2 a0_3 a0_4 _ _ l0_5 _ _ l0_6 1048576 t567 _ ?side1 ?side2 ?side3 ?side4 A2.out).mono ?_); (case side1 => exact pkC (Kd.C_below HR0_5.out HB.out)); (case side2 => exact HC0_5.out); (case side3 => exact pkC (Kd.C_below HR0_6.out HB.out)); (case side4 => exact HC0_6.out); rintro e w6 ⟨rfl, hb⟩; refine ⟨_, rfl, ?_⟩; replace BK566 := am (blk_below (pkK BK566.out) hb); replace HB := am (below_step (pkW HB.out) hb); (try clear hb)))
  go_ret
  exact ⟨rfe, pkW HB.out⟩
 ·rw [if_neg c3] at H
  have c3b0 : decide (t567 < 0) = false := decide_eq_false c3
  clear c3
  replace H := Option.bind_eq_some_iff.mp H
  obtain ⟨⟨t568, t569, t570, t571, t572, t573, t576⟩, A70, H⟩ := H
  replace H : ((spec_CellOk.f k t568 t569 t570 t571 t572 t573 t576).bind fun t579 => ((laws_toCell.f k a0_0 a0_1 a0_2 a0_3 a0_4 l0_5 l0_6).bind fun bt580 => ((impl_CellOk.f k bt580.1 bt580.2.1 bt580.2.2.1 bt580.2.2.2.1 bt580.2.2.2.2.1 bt580.2.2.2.2.2.1 bt580.2.2.2.2.2.2).bind fun t592 => (if (t592 != t579) = true then (some false) else ((laws_toCell.f k a0_0 a0_1 a0_2 a0_3 a0_4 l0_5 l0_6).bind fun bt593 => ((laws_eqCell.f k bt580.1 bt580.2.1 bt580.2.2.1 bt580.2.2.2.1 bt580.2.2.2.2.1 bt580.2.2.2.2.2.1 bt580.2.2.2.2.2.2 bt593.1 bt593.2.1 bt593.2.2.1 bt593.2.2.2.1 bt593.2.2.2.2.1 bt593.2.2.2.2.2.1 bt593.2.2.2.2.2.2).bind fun t604 => (if t604 = true then (some true) else (some false)))))))) = some r := H
  have A7 := am A70
  clear A70
  replace H := Option.bind_eq_some_iff.mp H
  obtain ⟨t579, A80, H⟩ := H
  replace H : ((laws_toCell.f k a0_0 a0_1 a0_2 a0_3 a0_4 l0_5 l0_6).bind fun bt580 => ((impl_CellOk.f k bt580.1 bt580.2.1 bt580.2.2.1 bt580.2.2.2.1 bt580.2.2.2.2.1 bt580.2.2.2.2.2.1 bt580.2.2.2.2.2.2).bind fun t592 => (if (t592 != t579) = true then (some false) else ((laws_toCell.f k a0_0 a0_1 a0_2 a0_3 a0_4 l0_5 l0_6).bind fun bt593 => ((laws_eqCell.f k bt580.1 bt580.2.1 bt580.2.2.1 bt580.2.2.2.1 bt580.2.2.2.2.1 bt580.2.2.2.2.2.1 bt580.2.2.2.2.2.2 bt593.1 bt593.2.1 bt593.2.2.1 bt593.2.2.2.1 bt593.2.2.2.2.1 bt593.2.2.2.2.2.1 bt593.2.2.2.2.2.2).bind fun t604 => (if t604 = true then (some true) else (some false))))))) = some r := H
  have A8 := am A80
  clear A80
  replace H := Option.bind_eq_some_iff.mp H
  obtain ⟨⟨t580, t581, t582, t583, t584, t585, t588⟩, A90, H⟩ := H
  replace H : ((impl_CellOk.f k t580 t581 t582 t583 t584 t585 t588).bind fun t592 => (if (t592 != t579) = true then (some false) else ((laws_toCell.f k a0_0 a0_1 a0_2 a0_3 a0_4 l0_5 l0_6).bind fun bt593 => ((laws_eqCell.f k t580 t581 t582 t583 t584 t585 t588 bt593.1 bt593.2.1 bt593.2.2.1 bt593.2.2.2.1 bt593.2.2.2.2.1 bt593.2.2.2.2.2.1 bt593.2.2.2.2.2.2).bind fun t604 => (if t604 = true then (some true) else (some false)))))) = some r := H
  have A9 := am A90
  clear A90
  replace H := Option.bind_eq_some_iff.mp H
  obtain ⟨t592, A100, H⟩ := H
  replace H : (if (t592 != t579) = true then (some false) else ((laws_toCell.f k a0_0 a0_1 a0_2 a0_3 a0_4 l0_5 l0_6).bind fun bt593 => ((laws_eqCell.f k t580 t581 t582 t583 t584 t585 t588 bt593.1 bt593.2.1 bt593.2.2.1 bt593.2.2.2.1 bt593.2.2.2.2.1 bt593.2.2.2.2.2.1 bt593.2.2.2.2.2.2).bind fun t604 => (if t604 = true then (some true) else (some false))))) = some r := H
  have A10 := am A100
  clear A100
  by_cases c11 : (t592 != t579) = true
  ·rw [if_pos c11] at H
   have c11b0 : (t592 != t579) = true := c11
   (try (have c11b1 : decide (t592 = t579) = false := by simpa using c11))
   (try (have c11b2 : (t592 == t579) = false := by first | exact bq_t c11 | exact bq_f c11 | simpa using c11))
   (try (have c11b3 : ¬ (t592 = t579) := by simpa using c11))
   clear c11
   exact absurd (Option.some.inj H) (by rw [HQ_.out]; simp)
  ·rw [if_neg c11] at H
   have c11b0 : (t592 != t579) = false := by simpa using c11
   (try (have c11b1 : decide (t592 = t579) = true := by simpa using c11))
   (try (have c11b2 : (t592 == t579) = true := by first | exact bq_t c11 | exact bq_f c11 | simpa using c11))
   clear c11
   replace H := Option.bind_eq_some_iff.mp H
   obtain ⟨⟨t593, t594, t595, t596, t597, t598, t601⟩, A120, H⟩ := H
   replace H : ((laws_eqCell.f k t580 t581 t582 t583 t584 t585 t588 t593 t594 t595 t596 t597 t598 t601).bind fun t604 => (if t604 = true then (some true) else (some false))) = some r := H
   have A12 := am A120
   clear A120
   replace H := Option.bind_eq_some_iff.mp H
   obtain ⟨t604, A130, H⟩ := H
   replace H : (if t604 = true then (some true) else (some false)) = some r := H
   have A13 := am A130
   clear A130
   by_cases c14 : t604 = true
   ·subst c14
    replace H : (some true) = some r := by rw [if_pos rfl] at H; exact H
    obtain rfl := Option.some.inj H
    go_enter Try.func6, Try.ntmps6
    try go_wp2_with (first | ((with_reducible refine gate_dst (N := 1) rfl ?_); refine box_event ?hg (N := 1) ?hd (cs := #[.int .i64 a0_0, .int .i64 a0_1, .string a0_2, .int .i64 a0_3, .bool a0_4, .slice A0_5 l0_5.length c0_5, .slice A0_6 l0_6.length c0_6]) (t := 56) ?hr ?_; (case hd => rfl); (case hg => rfl); (case hr => first | (go_simp; done) | (go_simp; rfl)); intro gb566 hg w15 hbox hb; have BK566 := am (hbox); have GW566 := am ((by rw [hg]; exact (below_size (pkB HB.out)) : w.heap.size ≤ gb566)); have GE566 := am ((by rw [hg]; exact (below_size (pkB HB.out)) : w.heap.size ≤ gb566)); replace HB := am (below_step (pkB HB.out) hb); clear hb hbox hg; obtain ⟨hcz16_0, hcz16_1, hcz16_2, hcz16_3, hcz16_4, hcz16_5, hcz16_6, hfz16_0, hfz16_1, hfz16_2, hfz16_3, hfz16_4, hfz16_5, hfz16_6⟩ := bk7 BK566.out) | ((with_reducible refine gate_callee (f := 31) rfl ?_); refine goesL_ (some 9) rfl rfl Try.func31 (by kernel_rfl) rfl #[.agg #[.int .i64 a0_0, .int .i64 a0_1, .string a0_2, .int .i64 a0_3, .bool a0_4, .slice A0_5 l0_5.length c0_5, .slice A0_6 l0_6.length c0_6], .int .i64 1048576] rfl mpx ?_; (with_reducible refine (laws_szCell.calls a0_0 a0_1 a0_2 a0_3 a0_4 _ _ l0_5 _ _ l0_6 1048576 t567 _ ?side1 ?side2 ?side3 ?side4 A2.out).mono ?_); (case side1 => exact pkC (Kd.C_below HR0_5.out HB.out)); (case side2 => exact HC0_5.out); (case side3 => exact pkC (Kd.C_below HR0_6.out HB.out)); (case side4 => exact HC0_6.out); rintro e w17 ⟨rfl, hb⟩; refine ⟨_, rfl, ?_⟩; replace BK566 := am (blk_below (pkK BK566.out) hb); replace HB := am (below_step (pkW HB.out) hb); (try clear hb); obtain ⟨hcz18_0, hcz18_1, hcz18_2, hcz18_3, hcz18_4, hcz18_5, hcz18_6, hfz18_0, hfz18_1, hfz18_2, hfz18_3, hfz18_4, hfz18_5, hfz18_6⟩ := bk7 BK566.out) | ((with_reducible refine gate_callee (f := 32) rfl ?_); refine goesL_ (some 13) rfl rfl Try.func32 (by kernel_rfl) rfl #[.agg #[.int .i64 a0_0, .int .i64 a0_1, .string a0_2, .int .i64 a0_3, .bool a0_4, .slice A0_5 l0_5.length c0_5, .slice A0_6 l0_6.length c0_6]] rfl mpx ?_; (with_reducible refine (laws_toCell.calls k a0_0 a0_1 a0_2 a0_3 a0_4 _ _ l0_5 _ _ l0_6 t568 t569 t570 t571 t572 t573 t576 _ ?side1 ?side2 ?side3 ?side4 A7.out).mono ?_); (case side1 => exact pkC (Kd.C_below HR0_5.out HB.out)); (case side2 => exact HC0_5.out); (case side3 => exact pkC (Kd.C_below HR0_6.out HB.out)); (case side4 => exact HC0_6.out); rintro e w19 ⟨v574, v577, rfl, ho0, ho1, hb⟩; refine ⟨_, rfl, ?_⟩; have HO575 := am (Kd.R_lower ho0 (below_size (pkW HB.out))); have HO578 := am (Kd.R_lower ho1 (below_size (pkW HB.out))); replace BK566 := am (blk_below (pkK BK566.out) hb); replace HB := am (below_step (pkW HB.out) hb); (try clear hb ho0 ho1); obtain ⟨Ao20, co20, eo20⟩ := Kd.R_slice HO575.out; subst eo20; obtain ⟨Ao21, co21, eo21⟩ := Kd.R_slice HO578.out; subst eo21) | ((with_reducible refine gate_callee (f := 22) rfl ?_); refine goesL_ (some 14) rfl rfl Try.func22 (by kernel_rfl) rfl #[.agg #[.int .i64 t568, .int .i64 t569, .string t570, .int .i64 t571, .bool t572, .slice Ao20 t573.length co20, .slice Ao21 t576.length co21]] rfl mpx ?_; (with_reducible refine (spec_CellOk.calls k t568 t569 t570 t571 t572 _ _ t573 _ _ t576 t579 _ ?side1 ?side2 ?side3 ?side4 A8.out).mono ?_); (case side1 => exact pkC (Kd.R_reads' HO575.out).2.2); (case side2 => exact (Kd.R_reads' HO575.out).2.1); (case side3 => exact pkC (Kd.R_reads' HO578.out).2.2); (case side4 => exact (Kd.R_reads' HO578.out).2.1); rintro e w22 ⟨rfl, hb⟩; refine ⟨_, rfl, ?_⟩; replace HO575 := am (Kd.R_below (pkR HO575.out) hb); replace HO578 := am (Kd.R_below (pkR HO578.out) hb); replace BK566 := am (blk_below (pkK BK566.out) hb); replace HB := am (below_step (pkW HB.out) hb); (try clear hb); obtain ⟨hcz23_0, hcz23_1, hcz23_2, hcz23_3, hcz23_4, hcz23_5, hcz23_6, hfz23_0, hfz23_1, hfz23_2, hfz23_3, hfz23_4, hfz23_5, hfz23_6⟩ := bk7 BK566.out) | ((with_reducible refine gate_callee (f := 32) rfl ?_); refine goesL_ (some 16) rfl rfl Try.func32 (by kernel_rfl) rfl #[.agg #[.int .i64 a0_0, .int .i64 a0_1, .string a0_2, .int .i64 a0_3, .bool a0_4, .slice A0_5 l0_5.length c0_5, .slice A0_6 l0_6.length c0_6]] rfl mpx ?_; (with_reducible refine (laws_toCell.calls k a0_0 a0_1 a0_2 a0_3 a0_4 _ _ l0_5 _ _ l0_6 t580 t581 t582 t583 t584 t585 t588 _ ?side1 ?side2 ?side3 ?side4 A9.out).mono ?_); (case side1 => exact pkC (Kd.C_below HR0_5.out HB.out)); (case side2 => exact HC0_5.out); (case side3 => exact pkC (Kd.C_below HR0_6.out HB.out)); (case side4 => exact HC0_6.out); rintro e w24 ⟨v586, v589, rfl, ho0, ho1, hb⟩; refine ⟨_, rfl, ?_⟩; have HO587 := am (Kd.R_lower (Kd.R_new' (Kd.R_new' ho0 (Kd.R_lt (pkR HO575.out))) (Kd.R_lt (pkR HO578.out))) (below_size (pkW HB.out))); have HO590 := am (Kd.R_lower (Kd.R_new' (Kd.R_new' ho1 (Kd.R_lt (pkR HO575.out))) (Kd.R_lt (pkR HO578.out))) (below_size (pkW HB.out))); replace HO575 := am (Kd.R_mono (Kd.R_told (Kd.R_told (Kd.R_old (pkR HO575.out) hb) (Kd.R_base ho0)) (Kd.R_base ho1)) (fun _ h_ => h_.1)); replace HO578 := am (Kd.R_mono (Kd.R_told (Kd.R_told (Kd.R_old (pkR HO578.out) hb) (Kd.R_base ho0)) (Kd.R_base ho1)) (fun _ h_ => h_.1)); replace BK566 := am (blk_below (pkK BK566.out) hb); replace HB := am (below_step (pkW HB.out) hb); (try clear hb ho0 ho1)) | ((with_reducible refine gate_dst (N := 5) rfl ?_); refine box_event ?hg (N := 5) ?hd (cs := #[.int .i64 0, .int .i64 0, .string (⟨#[]⟩ : ByteArray), .int .i64 0, .bool false, .slice none 0 0, .slice none 0 0]) (t := 29) ?hr ?_; (case hd => rfl); (case hg => rfl); (case hr => first | (go_simp; done) | (go_simp; rfl)); intro gb591 hg w25 hbox hb; replace HO575 := am (Kd.R_below (pkR HO575.out) hb); replace HO578 := am (Kd.R_below (pkR HO578.out) hb); replace HO587 := am (Kd.R_below (pkR HO587.out) hb); replace HO590 := am (Kd.R_below (pkR HO590.out) hb); have BK591 := am (hbox); have GW591 := am ((by rw [hg]; exact (below_size (pkW HB.out)) : w.heap.size ≤ gb591)); have GE591 := am ((by rw [hg]; exact (below_size (pkW HB.out)) : w.heap.size ≤ gb591)); replace HB := am (below_step (pkW HB.out) hb); have NB566_591 := am ((by rw [hg]; exact Nat.ne_of_lt (blk_lt (g := gb566) (o := .cells #[.int .i64 a0_0, .int .i64 a0_1, .string a0_2, .int .i64 a0_3, .bool a0_4, .slice A0_5 l0_5.length c0_5, .slice A0_6 l0_6.length c0_6] 56 (0, 0)) (pkK BK566.out)) : gb566 ≠ gb591)); have NB591_566 := am ((by rw [hg]; exact Nat.ne_of_gt (blk_lt (g := gb566) (o := .cells #[.int .i64 a0_0, .int .i64 a0_1, .string a0_2, .int .i64 a0_3, .bool a0_4, .slice A0_5 l0_5.length c0_5, .slice A0_6 l0_6.length c0_6] 56 (0, 0)) (pkK BK566.out)) : gb591 ≠ gb566)); replace BK566 := am (blk_below (pkK BK566.out) hb); clear hb hbox hg; have hnb26 := NB591_566.out; have hnc26 := NB566_591.out; obtain ⟨hcz27_0, hcz27_1, hcz27_2, hcz27_3, hcz27_4, hcz27_5, hcz27_6, hfz27_0, hfz27_1, hfz27_2, hfz27_3, hfz27_4, hfz27_5, hfz27_6⟩ := bk7 BK591.out; obtain ⟨Ao28, co28, eo28⟩ := Kd.R_slice HO587.out; subst eo28; obtain ⟨Ao29, co29, eo29⟩ := Kd.R_slice HO590.out; subst eo29) | ((with_reducible refine gate_callee (f := 33) rfl ?_); refine goesL_ (some 18) rfl rfl Try.func33 (by kernel_rfl) rfl #[.agg #[.int .i64 t580, .int .i64 t581, .string t582, .int .i64 t583, .bool t584, .slice Ao28 t585.length co28, .slice Ao29 t588.length co29]] rfl mpx ?_; (with_reducible refine (impl_CellOk.calls k t580 t581 t582 t583 t584 _ _ t585 _ _ t588 t592 _ ?side1 ?side2 ?side3 ?side4 A10.out).mono ?_); (case side1 => refine (Kd.R_reads' (e := 3) (base := w.heap.size) (ok := fun k_ => ((some k_ ≠ (.slice Ao29 t588.length co29 : Value).ownBlock ∧ some k_ ≠ (.slice Ao20 t573.length co20 : Value).ownBlock) ∧ some k_ ≠ (.slice Ao21 t576.length co21 : Value).ownBlock)) (n := t585.length) (c := co28) ?_).2.2; exact (by (with_reducible repeat (first | apply Kd.R_alloc | apply Kd.R_drewN | apply Kd.R_drew)); exact (Kd.R_mono (Kd.R_far (p := ⟨gb591, 6, none⟩) (Kd.R_far (p := ⟨gb591, 5, none⟩) (Kd.R_far (p := ⟨gb591, 4, none⟩) (Kd.R_far (p := ⟨gb591, 3, none⟩) (Kd.R_far (p := ⟨gb591, 2, none⟩) (Kd.R_far (p := ⟨gb591, 1, none⟩) (Kd.R_far (p := ⟨gb591, 0, none⟩) (Kd.R_types HO587.out BK591.out (by decide)) (fun _ hk => hk.2) (.int .i64 t580)) (fun _ hk => hk.2) (.int .i64 t581)) (fun _ hk => hk.2) (.string t582)) (fun _ hk => hk.2) (.int .i64 t583)) (fun _ hk => hk.2) (.bool t584)) (fun _ hk => hk.2) (.slice Ao28 t585.length co28)) (fun _ hk => hk.2) (.slice Ao29 t588.length co29)) (fun _ h_ => h_.1)))); (case side2 => exact (Kd.R_reads' HO587.out).2.1); (case side3 => refine (Kd.R_reads' (e := 3) (base := w.heap.size) (ok := fun k_ => ((some k_ ≠ (.slice Ao28 t585.length co28 : Value).ownBlock ∧ some k_ ≠ (.slice Ao20 t573.length co20 : Value).ownBlock) ∧ some k_ ≠ (.slice Ao21 t576.length co21 : Value).ownBlock)) (n := t588.length) (c := co29) ?_).2.2; exact (by (with_reducible repeat (first | apply Kd.R_alloc | apply Kd.R_drewN | apply Kd.R_drew)); exact (Kd.R_mono (Kd.R_far (p := ⟨gb591, 6, none⟩) (Kd.R_far (p := ⟨gb591, 5, none⟩) (Kd.R_far (p := ⟨gb591, 4, none⟩) (Kd.R_far (p := ⟨gb591, 3, none⟩) (Kd.R_far (p := ⟨gb591, 2, none⟩) (Kd.R_far (p := ⟨gb591, 1, none⟩) (Kd.R_far (p := ⟨gb591, 0, none⟩) (Kd.R_types HO590.out BK591.out (by decide)) (fun _ hk => hk.2) (.int .i64 t580)) (fun _ hk => hk.2) (.int .i64 t581)) (fun _ hk => hk.2) (.string t582)) (fun _ hk => hk.2) (.int .i64 t583)) (fun _ hk => hk.2) (.bool t584)) (fun _ hk => hk.2) (.slice Ao28 t585.length co28)) (fun _ hk => hk.2) (.slice Ao29 t588.length co29)) (fun _ h_ => h_.1)))); (case side4 => exact (Kd.R_reads' HO590.out).2.1); rintro e w30 ⟨rfl, hb⟩; refine ⟨_, rfl, ?_⟩; replace HO575 := am (Kd.R_below (by (with_reducible repeat (first | apply Kd.R_alloc | apply Kd.R_drewN | apply Kd.R_drew)); exact (Kd.R_mono (Kd.R_far (p := ⟨gb591, 6, none⟩) (Kd.R_far (p := ⟨gb591, 5, none⟩) (Kd.R_far (p := ⟨gb591, 4, none⟩) (Kd.R_far (p := ⟨gb591, 3, none⟩) (Kd.R_far (p := ⟨gb591, 2, none⟩) (Kd.R_far (p := ⟨gb591, 1, none⟩) (Kd.R_far (p := ⟨gb591, 0, none⟩) (Kd.R_types HO575.out BK591.out (by decide)) (fun _ hk => hk.2) (.int .i64 t580)) (fun _ hk => hk.2) (.int .i64 t581)) (fun _ hk => hk.2) (.string t582)) (fun _ hk => hk.2) (.int .i64 t583)) (fun _ hk => hk.2) (.bool t584)) (fun _ hk => hk.2) (.slice Ao28 t585.length co28)) (fun _ hk => hk.2) (.slice Ao29 t588.length co29)) (fun _ h_ => h_.1))) hb); replace HO578 := am (Kd.R_below (by (with_reducible repeat (first | apply Kd.R_alloc | apply Kd.R_drewN | apply Kd.R_drew)); exact (Kd.R_mono (Kd.R_far (p := ⟨gb591, 6, none⟩) (Kd.R_far (p := ⟨gb591, 5, none⟩) (Kd.R_far (p := ⟨gb591, 4, none⟩) (Kd.R_far (p := ⟨gb591, 3, none⟩) (Kd.R_far (p := ⟨gb591, 2, none⟩) (Kd.R_far (p := ⟨gb591, 1, none⟩) (Kd.R_far (p := ⟨gb591, 0, none⟩) (Kd.R_types HO578.out BK591.out (by decide)) (fun _ hk => hk.2) (.int .i64 t580)) (fun _ hk => hk.2) (.int .i64 t581)) (fun _ hk => hk.2) (.string t582)) (fun _ hk => hk.2) (.int .i64 t583)) (fun _ hk => hk.2) (.bool t584)) (fun _ hk => hk.2) (.slice Ao28 t585.length co28)) (fun _ hk => hk.2) (.slice Ao29 t588.length co29)) (fun _ h_ => h_.1))) hb); replace HO587 := am (Kd.R_below (by (with_reducible repeat (first | apply Kd.R_alloc | apply Kd.R_drewN | apply Kd.R_drew)); exact (Kd.R_mono (Kd.R_far (p := ⟨gb591, 6, none⟩) (Kd.R_far (p := ⟨gb591, 5, none⟩) (Kd.R_far (p := ⟨gb591, 4, none⟩) (Kd.R_far (p := ⟨gb591, 3, none⟩) (Kd.R_far (p := ⟨gb591, 2, none⟩) (Kd.R_far (p := ⟨gb591, 1, none⟩) (Kd.R_far (p := ⟨gb591, 0, none⟩) (Kd.R_types HO587.out BK591.out (by decide)) (fun _ hk => hk.2) (.int .i64 t580)) (fun _ hk => hk.2) (.int .i64 t581)) (fun _ hk => hk.2) (.string t582)) (fun _ hk => hk.2) (.int .i64 t583)) (fun _ hk => hk.2) (.bool t584)) (fun _ hk => hk.2) (.slice Ao28 t585.length co28)) (fun _ hk => hk.2) (.slice Ao29 t588.length co29)) (fun _ h_ => h_.1))) hb); replace HO590 := am (Kd.R_below (by (with_reducible repeat (first | apply Kd.R_alloc | apply Kd.R_drewN | apply Kd.R_drew)); exact (Kd.R_mono (Kd.R_far (p := ⟨gb591, 6, none⟩) (Kd.R_far (p := ⟨gb591, 5, none⟩) (Kd.R_far (p := ⟨gb591, 4, none⟩) (Kd.R_far (p := ⟨gb591, 3, none⟩) (Kd.R_far (p := ⟨gb591, 2, none⟩) (Kd.R_far (p := ⟨gb591, 1, none⟩) (Kd.R_far (p := ⟨gb591, 0, none⟩) (Kd.R_types HO590.out BK591.out (by decide)) (fun _ hk => hk.2) (.int .i64 t580)) (fun _ hk => hk.2) (.int .i64 t581)) (fun _ hk => hk.2) (.string t582)) (fun _ hk => hk.2) (.int .i64 t583)) (fun _ hk => hk.2) (.bool t584)) (fun _ hk => hk.2) (.slice Ao28 t585.length co28)) (fun _ hk => hk.2) (.slice Ao29 t588.length co29)) (fun _ h_ => h_.1))) hb); replace BK566 := am (blk_below (g := gb566) (o := .cells #[.int .i64 a0_0, .int .i64 a0_1, .string a0_2, .int .i64 a0_3, .bool a0_4, .slice A0_5 l0_5.length c0_5, .slice A0_6 l0_6.length c0_6] 56 (0, 0)) (by (with_reducible repeat (first | refine blk_drewN ?_ _ | refine blk_drew ?_ | refine blk_alloc ?_ _)); refine blk_far ?_ NB566_591.out _; (with_reducible repeat (first | refine blk_drewN ?_ _ | refine blk_drew ?_ | refine blk_alloc ?_ _)); refine blk_far ?_ NB566_591.out _; (with_reducible repeat (first | refine blk_drewN ?_ _ | refine blk_drew ?_ | refine blk_alloc ?_ _)); refine blk_far ?_ NB566_591.out _; (with_reducible repeat (first | refine blk_drewN ?_ _ | refine blk_drew ?_ | refine blk_alloc ?_ _)); refine blk_far ?_ NB566_591.out _; (with_reducible repeat (first | refine blk_drewN ?_ _ | refine blk_drew ?_ | refine blk_alloc ?_ _)); refine blk_far ?_ NB566_591.out _; (with_reducible repeat (first | refine blk_drewN ?_ _ | refine blk_drew ?_ | refine blk_alloc ?_ _)); refine blk_far ?_ NB566_591.out _; (with_reducible repeat (first | refine blk_drewN ?_ _ | refine blk_drew ?_ | refine blk_alloc ?_ _)); refine blk_far ?_ NB566_591.out _; exact pkK BK566.out) hb); replace BK591 := am (blk_below (g := gb591) (o := .cells #[.int .i64 t580, .int .i64 t581, .string t582, .int .i64 t583, .bool t584, .slice Ao28 t585.length co28, .slice Ao29 t588.length co29] 29 (0, 0)) (by (with_reducible repeat (first | refine blk_drewN ?_ _ | refine blk_drew ?_ | refine blk_alloc ?_ _)); refine blk_put (cs := #[.int .i64 t580, .int .i64 t581, .string t582, .int .i64 t583, .bool t584, .slice Ao28 t585.length co28, .slice none 0 0]) ?_ 6 _ rfl; (with_reducible repeat (first | refine blk_drewN ?_ _ | refine blk_drew ?_ | refine blk_alloc ?_ _)); refine blk_put (cs := #[.int .i64 t580, .int .i64 t581, .string t582, .int .i64 t583, .bool t584, .slice none 0 0, .slice none 0 0]) ?_ 5 _ rfl; (with_reducible repeat (first | refine blk_drewN ?_ _ | refine blk_drew ?_ | refine blk_alloc ?_ _)); refine blk_put (cs := #[.int .i64 t580, .int .i64 t581, .string t582, .int .i64 t583, .bool false, .slice none 0 0, .slice none 0 0]) ?_ 4 _ rfl; (with_reducible repeat (first | refine blk_drewN ?_ _ | refine blk_drew ?_ | refine blk_alloc ?_ _)); refine blk_put (cs := #[.int .i64 t580, .int .i64 t581, .string t582, .int .i64 0, .bool false, .slice none 0 0, .slice none 0 0]) ?_ 3 _ rfl; (with_reducible repeat (first | refine blk_drewN ?_ _ | refine blk_drew ?_ | refine blk_alloc ?_ _)); refine blk_put (cs := #[.int .i64 t580, .int .i64 t581, .string (⟨#[]⟩ : ByteArray), .int .i64 0, .bool false, .slice none 0 0, .slice none 0 0]) ?_ 2 _ rfl; (with_reducible repeat (first | refine blk_drewN ?_ _ | refine blk_drew ?_ | refine blk_alloc ?_ _)); refine blk_put (cs := #[.int .i64 t580, .int .i64 0, .string (⟨#[]⟩ : ByteArray), .int .i64 0, .bool false, .slice none 0 0, .slice none 0 0]) ?_ 1 _ rfl; (with_reducible repeat (first | refine blk_drewN ?_ _ | refine blk_drew ?_ | refine blk_alloc ?_ _)); refine blk_put (cs := #[.int .i64 0, .int .i64 0, .string (⟨#[]⟩ : ByteArray), .int .i64 0, .bool false, .slice none 0 0, .slice none 0 0]) ?_ 0 _ rfl; exact pkK BK591.out) hb); replace HB := am (below_step (pkW HB.out) hb); (try clear hb)))
    replace HO575 := am (Kd.R_drew HO575.out)
    replace HO578 := am (Kd.R_drew HO578.out)
    replace HO587 := am (Kd.R_drew HO587.out)
    replace HO590 := am (Kd.R_drew HO590.out)
    replace BK566 := am (blk_drew BK566.out)
    replace BK591 := am (blk_drew BK591.out)
    replace HB := am (below_drew1 HB.out)
    refine start_ (n := 5) (S := fun w' => w'.cell? ⟨gb591, 0, none⟩ = some (.int .i64 t580) ∧ w'.cell? ⟨gb591, 1, none⟩ = some (.int .i64 t581) ∧ w'.cell? ⟨gb591, 2, none⟩ = some (.string t582) ∧ w'.cell? ⟨gb591, 3, none⟩ = some (.int .i64 t583) ∧ w'.cell? ⟨gb591, 4, none⟩ = some (.bool t584) ∧ w'.cell? ⟨gb591, 5, none⟩ = some (.slice Ao28 t585.length co28) ∧ w'.cell? ⟨gb591, 6, none⟩ = some (.slice Ao29 t588.length co29) ∧ w'.cell? ⟨gb566, 0, none⟩ = some (.int .i64 a0_0) ∧ w'.cell? ⟨gb566, 1, none⟩ = some (.int .i64 a0_1) ∧ w'.cell? ⟨gb566, 2, none⟩ = some (.string a0_2) ∧ w'.cell? ⟨gb566, 3, none⟩ = some (.int .i64 a0_3) ∧ w'.cell? ⟨gb566, 4, none⟩ = some (.bool a0_4) ∧ w'.cell? ⟨gb566, 5, none⟩ = some (.slice A0_5 l0_5.length c0_5) ∧ w'.cell? ⟨gb566, 6, none⟩ = some (.slice A0_6 l0_6.length c0_6)) (ds := []) #[false, false, false, false, false] (by kernel_rfl) rfl rfl ⟨(blk_cell BK591.out 0).trans rfl, (blk_cell BK591.out 1).trans rfl, (blk_cell BK591.out 2).trans rfl, (blk_cell BK591.out 3).trans rfl, (blk_cell BK591.out 4).trans rfl, (blk_cell BK591.out 5).trans rfl, (blk_cell BK591.out 6).trans rfl, (blk_cell BK566.out 0).trans rfl, (blk_cell BK566.out 1).trans rfl, (blk_cell BK566.out 2).trans rfl, (blk_cell BK566.out 3).trans rfl, (blk_cell BK566.out 4).trans rfl, (blk_cell BK566.out 5).trans rfl, (blk_cell BK566.out 6).trans rfl⟩ (fun hHeld => ?_)
    generalize w30.drew = w31 at HO575 HO578 HO587 HO590 BK566 BK591 HB hHeld ⊢
    refine take_ (i := 0) (N := some 22) (v := ?_) (a' := ?_) #[true, false, false, false, false] rfl rfl (by kernel_rfl) (fun _ _ _ h => h) (Or.inl ⟨by rfl, ?_⟩) hHeld ?_ ?_
    rotate_left
    ·rintro w' ⟨s0, s1, s2, s3, s4, s5, s6, s7, s8, s9, s10, s11, s12, s13⟩
     go_simp
     with_reducible rfl
    rotate_left
    ·simp only [Act.put, List.setIfInBounds_toArray, List.set_cons_zero, List.set_cons_succ, i64_w, i32_w]
     rfl
    refine take_ (i := 1) (N := some 23) (v := ?_) (a' := ?_) #[true, true, false, false, false] rfl rfl (by kernel_rfl) (fun _ _ _ h => h) (Or.inl ⟨by rfl, ?_⟩) hHeld ?_ ?_
    rotate_left
    ·rintro w' ⟨s0, s1, s2, s3, s4, s5, s6, s7, s8, s9, s10, s11, s12, s13⟩
     go_simp
     with_reducible rfl
    rotate_left
    ·simp only [Act.put, List.setIfInBounds_toArray, List.set_cons_zero, List.set_cons_succ, i64_w, i32_w]
     rfl
    refine one_ (i := 2) (N := some 24) #[true, true, true, false, false] rfl rfl (by kernel_rfl) (by decide) (fun K hK => ?_)
    refine goes_ Try.func32 (by kernel_rfl) rfl #[.agg #[.int .i64 a0_0, .int .i64 a0_1, .string a0_2, .int .i64 a0_3, .bool a0_4, .slice A0_5 l0_5.length c0_5, .slice A0_6 l0_6.length c0_6]] (by rfl) rfl rfl mpx ?_
    with_reducible refine (laws_toCell.calls k a0_0 a0_1 a0_2 a0_3 a0_4 _ _ l0_5 _ _ l0_6 t593 t594 t595 t596 t597 t598 t601 _ ?side1 ?side2 ?side3 ?side4 A12.out).mono ?_
    (case side1 => exact pkC (Kd.C_below HR0_5.out HB.out))
    (case side2 => exact HC0_5.out)
    (case side3 => exact pkC (Kd.C_below HR0_6.out HB.out))
    (case side4 => exact HC0_6.out)
    rintro e w32 ⟨v599, v602, rfl, ho0, ho1, hb⟩
    refine ⟨_, rfl, ?_⟩
    have HO600 := am (Kd.R_lower (Kd.R_new' (Kd.R_new' (Kd.R_new' (Kd.R_new' ho0 (Kd.R_lt (pkR HO575.out))) (Kd.R_lt (pkR HO578.out))) (Kd.R_lt (pkR HO587.out))) (Kd.R_lt (pkR HO590.out))) (below_size (pkW HB.out)))
    have HO603 := am (Kd.R_lower (Kd.R_new' (Kd.R_new' (Kd.R_new' (Kd.R_new' ho1 (Kd.R_lt (pkR HO575.out))) (Kd.R_lt (pkR HO578.out))) (Kd.R_lt (pkR HO587.out))) (Kd.R_lt (pkR HO590.out))) (below_size (pkW HB.out)))
    replace HO575 := am (Kd.R_mono (Kd.R_told (Kd.R_told (Kd.R_old (pkR HO575.out) hb) (Kd.R_base ho0)) (Kd.R_base ho1)) (fun _ h_ => h_.1))
    replace HO578 := am (Kd.R_mono (Kd.R_told (Kd.R_told (Kd.R_old (pkR HO578.out) hb) (Kd.R_base ho0)) (Kd.R_base ho1)) (fun _ h_ => h_.1))
    replace HO587 := am (Kd.R_mono (Kd.R_told (Kd.R_told (Kd.R_old (pkR HO587.out) hb) (Kd.R_base ho0)) (Kd.R_base ho1)) (fun _ h_ => h_.1))
    replace HO590 := am (Kd.R_mono (Kd.R_told (Kd.R_told (Kd.R_old (pkR HO590.out) hb) (Kd.R_base ho0)) (Kd.R_base ho1)) (fun _ h_ => h_.1))
    replace BK566 := am (blk_below (pkK BK566.out) hb)
    replace BK591 := am (blk_below (pkK BK591.out) hb)
    replace HB := am (below_step (pkW HB.out) hb)
    (try clear hb); (try clear ho0 ho1)
    obtain ⟨Ao33, co33, eo33⟩ := Kd.R_slice HO600.out
    (first | subst eo33 | (injection eo33 with f1_ f2_ f3_; have f4_ := f1_.symm; have f5_ := f3_.symm; clear f1_ f2_ f3_; subst f4_; subst f5_))
    obtain ⟨Ao34, co34, eo34⟩ := Kd.R_slice HO603.out
    (first | subst eo34 | (injection eo34 with f1_ f2_ f3_; have f4_ := f1_.symm; have f5_ := f3_.symm; clear f1_ f2_ f3_; subst f4_; subst f5_))
    refine hK.out _ _ ⟨(blk_cell BK591.out 0).trans rfl, (blk_cell BK591.out 1).trans rfl, (blk_cell BK591.out 2).trans rfl, (blk_cell BK591.out 3).trans rfl, (blk_cell BK591.out 4).trans rfl, (blk_cell BK591.out 5).trans rfl, (blk_cell BK591.out 6).trans rfl, (blk_cell BK566.out 0).trans rfl, (blk_cell BK566.out 1).trans rfl, (blk_cell BK566.out 2).trans rfl, (blk_cell BK566.out 3).trans rfl, (blk_cell BK566.out 4).trans rfl, (blk_cell BK566.out 5).trans rfl, (blk_cell BK566.out 6).trans rfl⟩ (fun hHeld => ?_)
    clear hK K
    refine norm_ (a' := ?_) ?_ ?_
    rotate_left
    ·show Act.put _ (some 24) _ = _
     simp only [Act.put, List.setIfInBounds_toArray, List.set_cons_zero, List.set_cons_succ, i64_w, i32_w]
     rfl
    refine one_ (i := 3) (N := some 25) #[true, true, true, true, false] rfl rfl (by kernel_rfl) (by decide) (fun K hK => ?_)
    refine goes_ Try.func34 (by kernel_rfl) rfl #[.agg #[.int .i64 t580, .int .i64 t581, .string t582, .int .i64 t583, .bool t584, .slice Ao28 t585.length co28, .slice Ao29 t588.length co29], .agg #[.int .i64 t593, .int .i64 t594, .string t595, .int .i64 t596, .bool t597, .slice Ao33 t598.length co33, .slice Ao34 t601.length co34]] (by rfl) rfl rfl mpx ?_
    with_reducible refine (laws_eqCell.calls k t580 t581 t582 t583 t584 _ _ t585 _ _ t588 t593 t594 t595 t596 t597 _ _ t598 _ _ t601 true _ ?side1 ?side2 ?side3 ?side4 ?side5 ?side6 ?side7 ?side8 A13.out).mono ?_
    (case side1 => exact pkC (Kd.R_reads' HO587.out).2.2)
    (case side2 => exact (Kd.R_reads' HO587.out).2.1)
    (case side3 => exact pkC (Kd.R_reads' HO590.out).2.2)
    (case side4 => exact (Kd.R_reads' HO590.out).2.1)
    (case side5 => exact pkC (Kd.R_reads' HO600.out).2.2)
    (case side6 => exact (Kd.R_reads' HO600.out).2.1)
    (case side7 => exact pkC (Kd.R_reads' HO603.out).2.2)
    (case side8 => exact (Kd.R_reads' HO603.out).2.1)
    rintro e w35 ⟨rfl, hb⟩
    refine ⟨_, rfl, ?_⟩
    replace HO575 := am (Kd.R_below (pkR HO575.out) hb)
    replace HO578 := am (Kd.R_below (pkR HO578.out) hb)
    replace HO587 := am (Kd.R_below (pkR HO587.out) hb)
    replace HO590 := am (Kd.R_below (pkR HO590.out) hb)
    replace HO600 := am (Kd.R_below (pkR HO600.out) hb)
    replace HO603 := am (Kd.R_below (pkR HO603.out) hb)
    replace BK566 := am (blk_below (pkK BK566.out) hb)
    replace BK591 := am (blk_below (pkK BK591.out) hb)
    replace HB := am (below_step (pkW HB.out) hb)
    (try clear hb)
    refine hK.out _ _ ⟨(blk_cell BK591.out 0).trans rfl, (blk_cell BK591.out 1).trans rfl, (blk_cell BK591.out 2).trans rfl, (blk_cell BK591.out 3).trans rfl, (blk_cell BK591.out 4).trans rfl, (blk_cell BK591.out 5).trans rfl, (blk_cell BK591.out 6).trans rfl, (blk_cell BK566.out 0).trans rfl, (blk_cell BK566.out 1).trans rfl, (blk_cell BK566.out 2).trans rfl, (blk_cell BK566.out 3).trans rfl, (blk_cell BK566.out 4).trans rfl, (blk_cell BK566.out 5).trans rfl, (blk_cell BK566.out 6).trans rfl⟩ (fun hHeld => ?_)
    clear hK K
    refine norm_ (a' := ?_) ?_ ?_
    rotate_left
    ·show Act.put _ (some 25) _ = _
     simp only [Act.put, List.setIfInBounds_toArray, List.set_cons_zero, List.set_cons_succ, i64_w, i32_w]
     rfl
    refine pure_ (i := 4) (N := some 26) (v := ?_) (a' := ?_) #[true, true, true, true, true] rfl rfl (by kernel_rfl) (fun _ _ _ h => h) (Or.inl ⟨by rfl, ?_⟩) ?_ ?_
    rotate_left
    ·intro w'
     go_simp
     with_reducible rfl
    rotate_left
    ·simp only [Act.put, List.setIfInBounds_toArray, List.set_cons_zero, List.set_cons_succ, i64_w, i32_w]
     rfl
    refine done_ (by kernel_rfl) ?_
    try go_wp2
    go_ret
    exact ⟨rfe, pkW HB.out⟩
   ·replace c14 := Bool.eq_false_iff.mpr c14
    subst c14
    replace H : (some false) = some r := by rw [if_neg (show ¬ (false = true) by decide)] at H; exact H
    exact absurd (Option.some.inj H) (by rw [HQ_.out]; simp)
end Go.Proofs.Ytffcphplnilokaa.Z
