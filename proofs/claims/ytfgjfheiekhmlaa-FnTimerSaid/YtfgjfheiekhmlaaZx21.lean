/- The Go functions impl_Advance as Lean functions, each with a proof that its code comes to just these answers; conditions: those of each theorem. -/
import Derived.Test.YtfgjfheiekhmlaaZx0
import Derived.Test.YtfgjfheiekhmlaaZx5
import Derived.Test.YtfgjfheiekhmlaaZx10
namespace Go.Proofs.Ytfgjfheiekhmlaa.Z
open Go.RowKit Go.Proofs.YtfgjfheiekhmlaaW.PrintWords Go.Proofs.YtfgjfheiekhmlaaW.PrintLast Go.Proofs.YtfgjfheiekhmlaaW.PrintMore
attribute [local go_sem] max2_int min2_int max_two min_two max_three min_three max_four min_four   -- for this text's walks alone
set_option linter.unusedVariables false
set_option linter.unusedSimpArgs false
mutual
def impl_Advance.j0 : Nat → Int → Bool → Int → List (S46) → Option (Int × (List (S46)) × List Int × Int)
 | 0, _, _, _, _ => none
 | k + 1, x1, x24, x416000, x416001 => if x24 = true then (some (x416000, x416001, ([] : List Int), 1)) else (impl_Advance.l0 k (([] : List Int)) (wrap64 (x416000 + x1)) x416001)
def impl_Advance.l0 : Nat → List Int → Int → List (S46) → Option (Int × (List (S46)) × List Int × Int)
 | 0, _, _, _ => none
 | k + 1, x8, x416000, x416001 => if (x416001.length : Int) > 0 then (if 0 < (x416001.length : Int) then (if ((rd_T46 x416001 0).f0) ≤ x416000 then (if x8.length < 17592186044416 then (if 1 ≤ (x416001.length : Int) then (impl_Advance.l0 k (x8 ++ [(rd_T46 x416001 0).f1]) x416000 (x416001.drop (1 : Int).toNat)) else (none)) else (none)) else (some (x416000, x416001, x8, 0))) else (none)) else (some (x416000, x416001, x8, 0))
end
def impl_Advance.f (k : Nat) (a0_0 : Int) (l0_1 : List (S46)) (a1 : Int) : Option (Int × (List (S46)) × List Int × Int) := (impl_copyClock.f a0_0 l0_1).bind fun bt411 => ((impl_ClockOk.f k a0_0 l0_1).bind fun t416 => (if t416 = true then (if a1 < 0 then (impl_Advance.j0 k a1 true bt411.1 bt411.2) else (impl_Advance.j0 k a1 (decide (a1 > (wrap64 (1000000000 - a0_0)))) bt411.1 bt411.2)) else (impl_Advance.j0 k a1 true bt411.1 bt411.2)))
theorem impl_Advance.mono_l : ∀ k, (∀ y0 y1 y2 y3, LeO (impl_Advance.j0 k y0 y1 y2 y3) (impl_Advance.j0 (k + 1) y0 y1 y2 y3)) ∧ (∀ y0 y1 y2, LeO (impl_Advance.l0 k y0 y1 y2) (impl_Advance.l0 (k + 1) y0 y1 y2))
 | 0 => ⟨fun _ _ _ _ r h => by simp [impl_Advance.j0] at h, fun _ _ _ r h => by simp [impl_Advance.l0] at h⟩
 | k + 1 => by
  obtain ⟨ih0, ih1⟩ := impl_Advance.mono_l k
  refine ⟨?_, ?_⟩
  ·intro y0 y1 y2 y3
   unfold impl_Advance.j0
   repeat' first
   | (with_reducible exact ih0 _ _ _ _)
   | (with_reducible exact ih1 _ _ _)
   | (with_reducible exact impl_ClockOk.mono _ _ _)
   | (with_reducible exact LeO.refl _)
   | (with_reducible exact LeO.none _)
   | (with_reducible refine LeO.ite ?_ ?_)
   | (with_reducible refine LeO.bind ?_ (fun _ => ?_))
  ·intro y0 y1 y2
   unfold impl_Advance.l0
   repeat' first
   | (with_reducible exact ih0 _ _ _ _)
   | (with_reducible exact ih1 _ _ _)
   | (with_reducible exact impl_ClockOk.mono _ _ _)
   | (with_reducible exact LeO.refl _)
   | (with_reducible exact LeO.none _)
   | (with_reducible refine LeO.ite ?_ ?_)
   | (with_reducible refine LeO.bind ?_ (fun _ => ?_))
theorem impl_Advance.mono : ∀ a0 a1 a2 k, LeO (impl_Advance.f k a0 a1 a2) (impl_Advance.f (k + 1) a0 a1 a2) := by
 intro a0 a1 a2 k
 obtain ⟨ih0, ih1⟩ := impl_Advance.mono_l k
 unfold impl_Advance.f
 repeat' first
   | (with_reducible exact ih0 _ _ _ _)
   | (with_reducible exact ih1 _ _ _)
   | (with_reducible exact impl_ClockOk.mono _ _ _)
   | (with_reducible exact LeO.refl _)
   | (with_reducible exact LeO.none _)
   | (with_reducible refine LeO.ite ?_ ?_)
   | (with_reducible refine LeO.bind ?_ (fun _ => ?_))
set_option maxHeartbeats 8000000 in
set_option maxRecDepth 100000 in
theorem impl_Advance.calls (k : Nat) (a0_0 : Int) (A0_1 : Option Addr) (c0_1 : Nat) (l0_1 : List (S46)) (a1 : Int) (r1 : Int) (r2 : List (S46)) (r3 : List Int) (r4 : Int) (w : World) (hr0_1 : Kd.C k46 w A0_1 l0_1.length l0_1) (hc0_1 : l0_1.length ≤ c0_1) (h : impl_Advance.f k a0_0 l0_1 a1 = some (r1, r2, r3, r4)) :
  Calls Try.prog 20 #[.agg #[.int .i64 a0_0, .slice A0_1 l0_1.length c0_1], .int .i64 a1] w fun e w' => ∃ v1_ v2_ : Value, e = .returned (.tuple #[.agg #[.int .i64 r1, v1_], v2_, .int .i64 r4]) ∧ Kd.Q k46 46 w' w.heap.size (fun _ => True) v1_ r2 ∧ Kd.R (Kd.int .i64) 3 w' w.heap.size (fun _ => True) v2_ r3 ∧ Below w.heap.size w w' := by
 have hu29 := Try.underlying29
 have HR0_1 := am hr0_1
 have HC0_1 := am hc0_1
 clear hr0_1 hc0_1
 have HB := am (Below.refl w.heap.size w)
 have H : ((impl_copyClock.f a0_0 l0_1).bind fun bt411 => ((impl_ClockOk.f k a0_0 l0_1).bind fun t416 => (if t416 = true then (if a1 < 0 then (impl_Advance.j0 k a1 true bt411.1 bt411.2) else (impl_Advance.j0 k a1 (decide (a1 > (wrap64 (1000000000 - a0_0)))) bt411.1 bt411.2)) else (impl_Advance.j0 k a1 true bt411.1 bt411.2)))) = some (r1, r2, r3, r4) := h
 clear h
 replace H := Option.bind_eq_some_iff.mp H
 obtain ⟨⟨t411, t412⟩, A30, H⟩ := H
 replace H : ((impl_ClockOk.f k a0_0 l0_1).bind fun t416 => (if t416 = true then (if a1 < 0 then (impl_Advance.j0 k a1 true t411 t412) else (impl_Advance.j0 k a1 (decide (a1 > (wrap64 (1000000000 - a0_0)))) t411 t412)) else (impl_Advance.j0 k a1 true t411 t412))) = some (r1, r2, r3, r4) := H
 have A3 := am A30
 clear A30
 have HC4 := am H
 clear H
 go_enter Try.func20, Try.ntmps20
 go_upto_region 2 with (first | ((with_reducible refine gate_dst (N := 2) rfl ?_); refine box_event ?hg (N := 2) ?hd (cs := #[.int .i64 a0_0, .slice A0_1 l0_1.length c0_1]) (t := 29) ?hr ?_; (case hd => rfl); (case hg => rfl); (case hr => first | (go_simp; done) | (go_simp; rfl)); intro gb409 hg w5 hbox hb; have BK409 := am (hbox); have GW409 := am ((by rw [hg]; exact (below_size (pkB HB.out)) : w.heap.size ≤ gb409)); have GE409 := am ((by rw [hg]; exact (below_size (pkB HB.out)) : w.heap.size ≤ gb409)); replace HB := am (below_step (pkB HB.out) hb); clear hb hbox hg) | ((with_reducible refine gate_dst (N := 4) rfl ?_); refine box_event ?hg (N := 4) ?hd (cs := #[.int .i64 0, .slice none 0 0]) (t := 29) ?hr ?_; (case hd => rfl); (case hg => rfl); (case hr => first | (go_simp; done) | (go_simp; rfl)); intro gb410 hg w6 hbox hb; have BK410 := am (hbox); have GW410 := am ((by rw [hg]; exact (below_size (pkW HB.out)) : w.heap.size ≤ gb410)); have GE410 := am ((by rw [hg]; exact (below_size (pkW HB.out)) : w.heap.size ≤ gb410)); replace HB := am (below_step (pkW HB.out) hb); have NB409_410 := am ((by rw [hg]; exact Nat.ne_of_lt (blk_lt (g := gb409) (o := .cells #[.int .i64 a0_0, .slice A0_1 l0_1.length c0_1] 29 (0, 0)) (pkK BK409.out)) : gb409 ≠ gb410)); have NB410_409 := am ((by rw [hg]; exact Nat.ne_of_gt (blk_lt (g := gb409) (o := .cells #[.int .i64 a0_0, .slice A0_1 l0_1.length c0_1] 29 (0, 0)) (pkK BK409.out)) : gb410 ≠ gb409)); replace BK409 := am (blk_below (pkK BK409.out) hb); clear hb hbox hg; have hnb7 := NB409_410.out; have hnc7 := NB410_409.out; obtain ⟨hcz8_0, hcz8_1, hfz8_0, hfz8_1⟩ := bk2 BK409.out) | (go_at_call 38; (with_reducible refine (impl_copyClock.calls a0_0 _ _ l0_1 t411 t412 _ ?side1 ?side2 A3.out).mono ?_); (case side1 => exact pkC (Kd.C_below HR0_1.out HB.out)); (case side2 => exact HC0_1.out); rintro e w9 ⟨v413, rfl, ho0, hb⟩; have HO414 := am (Kd.R_lower ho0 (below_size (pkW HB.out))); replace BK409 := am (blk_below (pkK BK409.out) hb); replace BK410 := am (blk_below (pkK BK410.out) hb); replace HB := am (below_step (pkW HB.out) hb); (try clear hb ho0)) | ((with_reducible refine gate_dst (N := 7) rfl ?_); refine box_event ?hg (N := 7) ?hd (cs := #[.int .i64 0, .slice none 0 0]) (t := 29) ?hr ?_; (case hd => rfl); (case hg => rfl); (case hr => first | (go_simp; done) | (go_simp; rfl)); intro gb415 hg w10 hbox hb; replace HO414 := am (Kd.R_below (pkR HO414.out) hb); have BK415 := am (hbox); have GW415 := am ((by rw [hg]; exact (below_size (pkW HB.out)) : w.heap.size ≤ gb415)); have GE415 := am ((by rw [hg]; exact (below_size (pkW HB.out)) : w.heap.size ≤ gb415)); replace HB := am (below_step (pkW HB.out) hb); have NB409_415 := am ((by rw [hg]; exact Nat.ne_of_lt (blk_lt (g := gb409) (o := .cells #[.int .i64 a0_0, .slice A0_1 l0_1.length c0_1] 29 (0, 0)) (pkK BK409.out)) : gb409 ≠ gb415)); have NB415_409 := am ((by rw [hg]; exact Nat.ne_of_gt (blk_lt (g := gb409) (o := .cells #[.int .i64 a0_0, .slice A0_1 l0_1.length c0_1] 29 (0, 0)) (pkK BK409.out)) : gb415 ≠ gb409)); replace BK409 := am (blk_below (pkK BK409.out) hb); have NB410_415 := am ((by rw [hg]; exact Nat.ne_of_lt (blk_lt (g := gb410) (o := .cells #[.int .i64 0, .slice none 0 0] 29 (0, 0)) (pkK BK410.out)) : gb410 ≠ gb415)); have NB415_410 := am ((by rw [hg]; exact Nat.ne_of_gt (blk_lt (g := gb410) (o := .cells #[.int .i64 0, .slice none 0 0] 29 (0, 0)) (pkK BK410.out)) : gb415 ≠ gb410)); replace BK410 := am (blk_below (pkK BK410.out) hb); clear hb hbox hg; have hnb11 := NB415_409.out; have hnc11 := NB409_415.out; have hnb12 := NB415_410.out; have hnc12 := NB410_415.out; obtain ⟨hcz13_0, hcz13_1, hfz13_0, hfz13_1⟩ := bk2 BK415.out; obtain ⟨Ao14, co14, eo14⟩ := Kd.R_slice HO414.out; subst eo14))
 repeat (go_quiet (first | ((with_reducible refine gate_dst (N := 2) rfl ?_); refine box_event ?hg (N := 2) ?hd (cs := #[.int .i64 a0_0, .slice A0_1 l0_1.length c0_1]) (t := 29) ?hr ?_; (case hd => rfl); (case hg => rfl); (case hr => first | (go_simp; done) | (go_simp; rfl)); intro gb409 hg w5 hbox hb; have BK409 := am (hbox); have GW409 := am ((by rw [hg]; exact (below_size (pkB HB.out)) : w.heap.size ≤ gb409)); have GE409 := am ((by rw [hg]; exact (below_size (pkB HB.out)) : w.heap.size ≤ gb409)); replace HB := am (below_step (pkB HB.out) hb); clear hb hbox hg) | ((with_reducible refine gate_dst (N := 4) rfl ?_); refine box_event ?hg (N := 4) ?hd (cs := #[.int .i64 0, .slice none 0 0]) (t := 29) ?hr ?_; (case hd => rfl); (case hg => rfl); (case hr => first | (go_simp; done) | (go_simp; rfl)); intro gb410 hg w6 hbox hb; have BK410 := am (hbox); have GW410 := am ((by rw [hg]; exact (below_size (pkW HB.out)) : w.heap.size ≤ gb410)); have GE410 := am ((by rw [hg]; exact (below_size (pkW HB.out)) : w.heap.size ≤ gb410)); replace HB := am (below_step (pkW HB.out) hb); have NB409_410 := am ((by rw [hg]; exact Nat.ne_of_lt (blk_lt (g := gb409) (o := .cells #[.int .i64 a0_0, .slice A0_1 l0_1.length c0_1] 29 (0, 0)) (pkK BK409.out)) : gb409 ≠ gb410)); have NB410_409 := am ((by rw [hg]; exact Nat.ne_of_gt (blk_lt (g := gb409) (o := .cells #[.int .i64 a0_0, .slice A0_1 l0_1.length c0_1] 29 (0, 0)) (pkK BK409.out)) : gb410 ≠ gb409)); replace BK409 := am (blk_below (pkK BK409.out) hb); clear hb hbox hg; have hnb7 := NB409_410.out; have hnc7 := NB410_409.out; obtain ⟨hcz8_0, hcz8_1, hfz8_0, hfz8_1⟩ := bk2 BK409.out) | (go_at_call 38; (with_reducible refine (impl_copyClock.calls a0_0 _ _ l0_1 t411 t412 _ ?side1 ?side2 A3.out).mono ?_); (case side1 => exact pkC (Kd.C_below HR0_1.out HB.out)); (case side2 => exact HC0_1.out); rintro e w9 ⟨v413, rfl, ho0, hb⟩; have HO414 := am (Kd.R_lower ho0 (below_size (pkW HB.out))); replace BK409 := am (blk_below (pkK BK409.out) hb); replace BK410 := am (blk_below (pkK BK410.out) hb); replace HB := am (below_step (pkW HB.out) hb); (try clear hb ho0)) | ((with_reducible refine gate_dst (N := 7) rfl ?_); refine box_event ?hg (N := 7) ?hd (cs := #[.int .i64 0, .slice none 0 0]) (t := 29) ?hr ?_; (case hd => rfl); (case hg => rfl); (case hr => first | (go_simp; done) | (go_simp; rfl)); intro gb415 hg w10 hbox hb; replace HO414 := am (Kd.R_below (pkR HO414.out) hb); have BK415 := am (hbox); have GW415 := am ((by rw [hg]; exact (below_size (pkW HB.out)) : w.heap.size ≤ gb415)); have GE415 := am ((by rw [hg]; exact (below_size (pkW HB.out)) : w.heap.size ≤ gb415)); replace HB := am (below_step (pkW HB.out) hb); have NB409_415 := am ((by rw [hg]; exact Nat.ne_of_lt (blk_lt (g := gb409) (o := .cells #[.int .i64 a0_0, .slice A0_1 l0_1.length c0_1] 29 (0, 0)) (pkK BK409.out)) : gb409 ≠ gb415)); have NB415_409 := am ((by rw [hg]; exact Nat.ne_of_gt (blk_lt (g := gb409) (o := .cells #[.int .i64 a0_0, .slice A0_1 l0_1.length c0_1] 29 (0, 0)) (pkK BK409.out)) : gb415 ≠ gb409)); replace BK409 := am (blk_below (pkK BK409.out) hb); have NB410_415 := am ((by rw [hg]; exact Nat.ne_of_lt (blk_lt (g := gb410) (o := .cells #[.int .i64 0, .slice none 0 0] 29 (0, 0)) (pkK BK410.out)) : gb410 ≠ gb415)); have NB415_410 := am ((by rw [hg]; exact Nat.ne_of_gt (blk_lt (g := gb410) (o := .cells #[.int .i64 0, .slice none 0 0] 29 (0, 0)) (pkK BK410.out)) : gb415 ≠ gb410)); replace BK410 := am (blk_below (pkK BK410.out) hb); clear hb hbox hg; have hnb11 := NB415_409.out; have hnc11 := NB409_415.out; have hnb12 := NB415_410.out; have hnc12 := NB410_415.out; obtain ⟨hcz13_0, hcz13_1, hfz13_0, hfz13_1⟩ := bk2 BK415.out; obtain ⟨Ao14, co14, eo14⟩ := Kd.R_slice HO414.out; subst eo14)); go_upto_region 2 with (first | ((with_reducible refine gate_dst (N := 2) rfl ?_); refine box_event ?hg (N := 2) ?hd (cs := #[.int .i64 a0_0, .slice A0_1 l0_1.length c0_1]) (t := 29) ?hr ?_; (case hd => rfl); (case hg => rfl); (case hr => first | (go_simp; done) | (go_simp; rfl)); intro gb409 hg w5 hbox hb; have BK409 := am (hbox); have GW409 := am ((by rw [hg]; exact (below_size (pkB HB.out)) : w.heap.size ≤ gb409)); have GE409 := am ((by rw [hg]; exact (below_size (pkB HB.out)) : w.heap.size ≤ gb409)); replace HB := am (below_step (pkB HB.out) hb); clear hb hbox hg) | ((with_reducible refine gate_dst (N := 4) rfl ?_); refine box_event ?hg (N := 4) ?hd (cs := #[.int .i64 0, .slice none 0 0]) (t := 29) ?hr ?_; (case hd => rfl); (case hg => rfl); (case hr => first | (go_simp; done) | (go_simp; rfl)); intro gb410 hg w6 hbox hb; have BK410 := am (hbox); have GW410 := am ((by rw [hg]; exact (below_size (pkW HB.out)) : w.heap.size ≤ gb410)); have GE410 := am ((by rw [hg]; exact (below_size (pkW HB.out)) : w.heap.size ≤ gb410)); replace HB := am (below_step (pkW HB.out) hb); have NB409_410 := am ((by rw [hg]; exact Nat.ne_of_lt (blk_lt (g := gb409) (o := .cells #[.int .i64 a0_0, .slice A0_1 l0_1.length c0_1] 29 (0, 0)) (pkK BK409.out)) : gb409 ≠ gb410)); have NB410_409 := am ((by rw [hg]; exact Nat.ne_of_gt (blk_lt (g := gb409) (o := .cells #[.int .i64 a0_0, .slice A0_1 l0_1.length c0_1] 29 (0, 0)) (pkK BK409.out)) : gb410 ≠ gb409)); replace BK409 := am (blk_below (pkK BK409.out) hb); clear hb hbox hg; have hnb7 := NB409_410.out; have hnc7 := NB410_409.out; obtain ⟨hcz8_0, hcz8_1, hfz8_0, hfz8_1⟩ := bk2 BK409.out) | (go_at_call 38; (with_reducible refine (impl_copyClock.calls a0_0 _ _ l0_1 t411 t412 _ ?side1 ?side2 A3.out).mono ?_); (case side1 => exact pkC (Kd.C_below HR0_1.out HB.out)); (case side2 => exact HC0_1.out); rintro e w9 ⟨v413, rfl, ho0, hb⟩; have HO414 := am (Kd.R_lower ho0 (below_size (pkW HB.out))); replace BK409 := am (blk_below (pkK BK409.out) hb); replace BK410 := am (blk_below (pkK BK410.out) hb); replace HB := am (below_step (pkW HB.out) hb); (try clear hb ho0)) | ((with_reducible refine gate_dst (N := 7) rfl ?_); refine box_event ?hg (N := 7) ?hd (cs := #[.int .i64 0, .slice none 0 0]) (t := 29) ?hr ?_; (case hd => rfl); (case hg => rfl); (case hr => first | (go_simp; done) | (go_simp; rfl)); intro gb415 hg w10 hbox hb; replace HO414 := am (Kd.R_below (pkR HO414.out) hb); have BK415 := am (hbox); have GW415 := am ((by rw [hg]; exact (below_size (pkW HB.out)) : w.heap.size ≤ gb415)); have GE415 := am ((by rw [hg]; exact (below_size (pkW HB.out)) : w.heap.size ≤ gb415)); replace HB := am (below_step (pkW HB.out) hb); have NB409_415 := am ((by rw [hg]; exact Nat.ne_of_lt (blk_lt (g := gb409) (o := .cells #[.int .i64 a0_0, .slice A0_1 l0_1.length c0_1] 29 (0, 0)) (pkK BK409.out)) : gb409 ≠ gb415)); have NB415_409 := am ((by rw [hg]; exact Nat.ne_of_gt (blk_lt (g := gb409) (o := .cells #[.int .i64 a0_0, .slice A0_1 l0_1.length c0_1] 29 (0, 0)) (pkK BK409.out)) : gb415 ≠ gb409)); replace BK409 := am (blk_below (pkK BK409.out) hb); have NB410_415 := am ((by rw [hg]; exact Nat.ne_of_lt (blk_lt (g := gb410) (o := .cells #[.int .i64 0, .slice none 0 0] 29 (0, 0)) (pkK BK410.out)) : gb410 ≠ gb415)); have NB415_410 := am ((by rw [hg]; exact Nat.ne_of_gt (blk_lt (g := gb410) (o := .cells #[.int .i64 0, .slice none 0 0] 29 (0, 0)) (pkK BK410.out)) : gb415 ≠ gb410)); replace BK410 := am (blk_below (pkK BK410.out) hb); clear hb hbox hg; have hnb11 := NB415_409.out; have hnc11 := NB409_415.out; have hnb12 := NB415_410.out; have hnc12 := NB410_415.out; obtain ⟨hcz13_0, hcz13_1, hfz13_0, hfz13_1⟩ := bk2 BK415.out; obtain ⟨Ao14, co14, eo14⟩ := Kd.R_slice HO414.out; subst eo14)))
 (try simp only [Act.put, List.setIfInBounds_toArray, List.set_cons_zero, List.set_cons_succ])
 go_cut [24] (fun v24 wc => ∃ (kq : Nat) (x24_3 : Bool), v24 = .bool x24_3 ∧ Aside0 (impl_Advance.j0 kq a1 x24_3 t411 t412 = some (r1, r2, r3, r4)) ∧ Aside0 (kq ≤ k) ∧ Aside0 (Kd.Q k46 46 wc w.heap.size (fun _ => True) (.slice Ao14 t412.length co14) t412) ∧ Aside0 (wc.heap[gb409]? = some (.cells #[.int .i64 a0_0, (.slice A0_1 l0_1.length c0_1)] 29 (0, 0))) ∧ Aside0 (wc.heap[gb410]? = some (.cells #[.int .i64 0, (.slice none 0 0)] 29 (0, 0))) ∧ Aside0 (wc.heap[gb415]? = some (.cells #[.int .i64 t411, (.slice Ao14 t412.length co14)] 29 (0, 0))) ∧ Aside0 (Below w.heap.size w wc))
 case first =>
  have H := HC4.out
  clear HC4
  replace H := Option.bind_eq_some_iff.mp H
  obtain ⟨t416, A150, H⟩ := H
  replace H : (if t416 = true then (if a1 < 0 then (impl_Advance.j0 k a1 true t411 t412) else (impl_Advance.j0 k a1 (decide (a1 > (wrap64 (1000000000 - a0_0)))) t411 t412)) else (impl_Advance.j0 k a1 true t411 t412)) = some (r1, r2, r3, r4) := H
  have A15 := am A150
  clear A150
  by_cases c16 : t416 = true
  ·subst c16
   replace H : (if a1 < 0 then (impl_Advance.j0 k a1 true t411 t412) else (impl_Advance.j0 k a1 (decide (a1 > (wrap64 (1000000000 - a0_0)))) t411 t412)) = some (r1, r2, r3, r4) := by rw [if_pos rfl] at H; exact H
   by_cases c17 : a1 < 0
   ·rw [if_pos c17] at H
    have c17b0 : decide (a1 < 0) = true := decide_eq_true c17
    clear c17
    (first | rw [c17b0] | (simp only [i64_w, i32_w]; rw [c17b0]) | skip)
    have H' := am H
    clear H
    have hnb18 := NB409_410.out
    have hnc18 := NB410_409.out
    have hnb19 := NB409_415.out
    have hnc19 := NB415_409.out
    obtain ⟨hcz20_0, hcz20_1, hfz20_0, hfz20_1⟩ := bk2 BK409.out
    go_wp2_with (first | (go_at_call 12; (with_reducible refine (impl_ClockOk.calls k a0_0 _ _ l0_1 true _ ?side1 ?side2 A15.out).mono ?_); (case side1 => exact Kd.C_below HR0_1.out (pkW HB.out)); (case side2 => exact HC0_1.out); rintro e w21 ⟨rfl, hb⟩; replace HO414 := am (Kd.R_below (by (with_reducible repeat (first | apply Kd.R_alloc | apply Kd.R_drewN | apply Kd.R_drew)); exact (Kd.R_mono (Kd.R_far (p := ⟨gb415, 1, none⟩) (Kd.R_far (p := ⟨gb415, 0, none⟩) (Kd.R_types HO414.out BK415.out (by decide)) (fun _ hk => hk.2) (.int .i64 t411)) (fun _ hk => hk.2) (.slice Ao14 t412.length co14)) (fun _ h_ => h_.1))) hb); replace BK409 := am (blk_below (g := gb409) (o := .cells #[.int .i64 a0_0, .slice A0_1 l0_1.length c0_1] 29 (0, 0)) (by (with_reducible repeat (first | refine blk_drewN ?_ _ | refine blk_drew ?_ | refine blk_alloc ?_ _)); refine blk_far ?_ NB409_415.out _; (with_reducible repeat (first | refine blk_drewN ?_ _ | refine blk_drew ?_ | refine blk_alloc ?_ _)); refine blk_far ?_ NB409_415.out _; exact pkK BK409.out) hb); replace BK410 := am (blk_below (g := gb410) (o := .cells #[.int .i64 0, .slice none 0 0] 29 (0, 0)) (by (with_reducible repeat (first | refine blk_drewN ?_ _ | refine blk_drew ?_ | refine blk_alloc ?_ _)); refine blk_far ?_ NB410_415.out _; (with_reducible repeat (first | refine blk_drewN ?_ _ | refine blk_drew ?_ | refine blk_alloc ?_ _)); refine blk_far ?_ NB410_415.out _; exact pkK BK410.out) hb); replace BK415 := am (blk_below (g := gb415) (o := .cells #[.int .i64 t411, .slice Ao14 t412.length co14] 29 (0, 0)) (by (with_reducible repeat (first | refine blk_drewN ?_ _ | refine blk_drew ?_ | refine blk_alloc ?_ _)); refine blk_put (cs := #[.int .i64 t411, .slice none 0 0]) ?_ 1 _ rfl; (with_reducible repeat (first | refine blk_drewN ?_ _ | refine blk_drew ?_ | refine blk_alloc ?_ _)); refine blk_put (cs := #[.int .i64 0, .slice none 0 0]) ?_ 0 _ rfl; exact pkK BK415.out) hb); replace HB := am (below_step (pkW HB.out) hb); (try clear hb)))
    repeat (go_quiet (first | (go_at_call 12; (with_reducible refine (impl_ClockOk.calls k a0_0 _ _ l0_1 true _ ?side1 ?side2 A15.out).mono ?_); (case side1 => exact Kd.C_below HR0_1.out (pkW HB.out)); (case side2 => exact HC0_1.out); rintro e w21 ⟨rfl, hb⟩; replace HO414 := am (Kd.R_below (by (with_reducible repeat (first | apply Kd.R_alloc | apply Kd.R_drewN | apply Kd.R_drew)); exact (Kd.R_mono (Kd.R_far (p := ⟨gb415, 1, none⟩) (Kd.R_far (p := ⟨gb415, 0, none⟩) (Kd.R_types HO414.out BK415.out (by decide)) (fun _ hk => hk.2) (.int .i64 t411)) (fun _ hk => hk.2) (.slice Ao14 t412.length co14)) (fun _ h_ => h_.1))) hb); replace BK409 := am (blk_below (g := gb409) (o := .cells #[.int .i64 a0_0, .slice A0_1 l0_1.length c0_1] 29 (0, 0)) (by (with_reducible repeat (first | refine blk_drewN ?_ _ | refine blk_drew ?_ | refine blk_alloc ?_ _)); refine blk_far ?_ NB409_415.out _; (with_reducible repeat (first | refine blk_drewN ?_ _ | refine blk_drew ?_ | refine blk_alloc ?_ _)); refine blk_far ?_ NB409_415.out _; exact pkK BK409.out) hb); replace BK410 := am (blk_below (g := gb410) (o := .cells #[.int .i64 0, .slice none 0 0] 29 (0, 0)) (by (with_reducible repeat (first | refine blk_drewN ?_ _ | refine blk_drew ?_ | refine blk_alloc ?_ _)); refine blk_far ?_ NB410_415.out _; (with_reducible repeat (first | refine blk_drewN ?_ _ | refine blk_drew ?_ | refine blk_alloc ?_ _)); refine blk_far ?_ NB410_415.out _; exact pkK BK410.out) hb); replace BK415 := am (blk_below (g := gb415) (o := .cells #[.int .i64 t411, .slice Ao14 t412.length co14] 29 (0, 0)) (by (with_reducible repeat (first | refine blk_drewN ?_ _ | refine blk_drew ?_ | refine blk_alloc ?_ _)); refine blk_put (cs := #[.int .i64 t411, .slice none 0 0]) ?_ 1 _ rfl; (with_reducible repeat (first | refine blk_drewN ?_ _ | refine blk_drew ?_ | refine blk_alloc ?_ _)); refine blk_put (cs := #[.int .i64 0, .slice none 0 0]) ?_ 0 _ rfl; exact pkK BK415.out) hb); replace HB := am (below_step (pkW HB.out) hb); (try clear hb))); try go_wp2_with (first | (go_at_call 12; (with_reducible refine (impl_ClockOk.calls k a0_0 _ _ l0_1 true _ ?side1 ?side2 A15.out).mono ?_); (case side1 => exact Kd.C_below HR0_1.out (pkW HB.out)); (case side2 => exact HC0_1.out); rintro e w21 ⟨rfl, hb⟩; replace HO414 := am (Kd.R_below (by (with_reducible repeat (first | apply Kd.R_alloc | apply Kd.R_drewN | apply Kd.R_drew)); exact (Kd.R_mono (Kd.R_far (p := ⟨gb415, 1, none⟩) (Kd.R_far (p := ⟨gb415, 0, none⟩) (Kd.R_types HO414.out BK415.out (by decide)) (fun _ hk => hk.2) (.int .i64 t411)) (fun _ hk => hk.2) (.slice Ao14 t412.length co14)) (fun _ h_ => h_.1))) hb); replace BK409 := am (blk_below (g := gb409) (o := .cells #[.int .i64 a0_0, .slice A0_1 l0_1.length c0_1] 29 (0, 0)) (by (with_reducible repeat (first | refine blk_drewN ?_ _ | refine blk_drew ?_ | refine blk_alloc ?_ _)); refine blk_far ?_ NB409_415.out _; (with_reducible repeat (first | refine blk_drewN ?_ _ | refine blk_drew ?_ | refine blk_alloc ?_ _)); refine blk_far ?_ NB409_415.out _; exact pkK BK409.out) hb); replace BK410 := am (blk_below (g := gb410) (o := .cells #[.int .i64 0, .slice none 0 0] 29 (0, 0)) (by (with_reducible repeat (first | refine blk_drewN ?_ _ | refine blk_drew ?_ | refine blk_alloc ?_ _)); refine blk_far ?_ NB410_415.out _; (with_reducible repeat (first | refine blk_drewN ?_ _ | refine blk_drew ?_ | refine blk_alloc ?_ _)); refine blk_far ?_ NB410_415.out _; exact pkK BK410.out) hb); replace BK415 := am (blk_below (g := gb415) (o := .cells #[.int .i64 t411, .slice Ao14 t412.length co14] 29 (0, 0)) (by (with_reducible repeat (first | refine blk_drewN ?_ _ | refine blk_drew ?_ | refine blk_alloc ?_ _)); refine blk_put (cs := #[.int .i64 t411, .slice none 0 0]) ?_ 1 _ rfl; (with_reducible repeat (first | refine blk_drewN ?_ _ | refine blk_drew ?_ | refine blk_alloc ?_ _)); refine blk_put (cs := #[.int .i64 0, .slice none 0 0]) ?_ 0 _ rfl; exact pkK BK415.out) hb); replace HB := am (below_step (pkW HB.out) hb); (try clear hb))))
    go_meet
    case rel => exact ⟨_, (true), rfx, H', ⟨by first | omega | exact Nat.le_refl _⟩, ⟨Kd.Q_of_R (pkR HO414.out)⟩, ⟨pkK BK409.out⟩, ⟨pkK BK410.out⟩, ⟨pkK BK415.out⟩, ⟨pkW HB.out⟩⟩
   ·rw [if_neg c17] at H
    have c17b0 : decide (a1 < 0) = false := decide_eq_false c17
    clear c17
    (first | rw [c17b0] | (simp only [i64_w, i32_w]; rw [c17b0]) | skip)
    have H' := am H
    clear H
    have hnb22 := NB409_410.out
    have hnc22 := NB410_409.out
    have hnb23 := NB409_415.out
    have hnc23 := NB415_409.out
    obtain ⟨hcz24_0, hcz24_1, hfz24_0, hfz24_1⟩ := bk2 BK409.out
    go_wp2_with (first | (go_at_call 12; (with_reducible refine (impl_ClockOk.calls k a0_0 _ _ l0_1 true _ ?side1 ?side2 A15.out).mono ?_); (case side1 => exact Kd.C_below HR0_1.out (pkW HB.out)); (case side2 => exact HC0_1.out); rintro e w25 ⟨rfl, hb⟩; replace HO414 := am (Kd.R_below (by (with_reducible repeat (first | apply Kd.R_alloc | apply Kd.R_drewN | apply Kd.R_drew)); exact (Kd.R_mono (Kd.R_far (p := ⟨gb415, 1, none⟩) (Kd.R_far (p := ⟨gb415, 0, none⟩) (Kd.R_types HO414.out BK415.out (by decide)) (fun _ hk => hk.2) (.int .i64 t411)) (fun _ hk => hk.2) (.slice Ao14 t412.length co14)) (fun _ h_ => h_.1))) hb); replace BK409 := am (blk_below (g := gb409) (o := .cells #[.int .i64 a0_0, .slice A0_1 l0_1.length c0_1] 29 (0, 0)) (by (with_reducible repeat (first | refine blk_drewN ?_ _ | refine blk_drew ?_ | refine blk_alloc ?_ _)); refine blk_far ?_ NB409_415.out _; (with_reducible repeat (first | refine blk_drewN ?_ _ | refine blk_drew ?_ | refine blk_alloc ?_ _)); refine blk_far ?_ NB409_415.out _; exact pkK BK409.out) hb); replace BK410 := am (blk_below (g := gb410) (o := .cells #[.int .i64 0, .slice none 0 0] 29 (0, 0)) (by (with_reducible repeat (first | refine blk_drewN ?_ _ | refine blk_drew ?_ | refine blk_alloc ?_ _)); refine blk_far ?_ NB410_415.out _; (with_reducible repeat (first | refine blk_drewN ?_ _ | refine blk_drew ?_ | refine blk_alloc ?_ _)); refine blk_far ?_ NB410_415.out _; exact pkK BK410.out) hb); replace BK415 := am (blk_below (g := gb415) (o := .cells #[.int .i64 t411, .slice Ao14 t412.length co14] 29 (0, 0)) (by (with_reducible repeat (first | refine blk_drewN ?_ _ | refine blk_drew ?_ | refine blk_alloc ?_ _)); refine blk_put (cs := #[.int .i64 t411, .slice none 0 0]) ?_ 1 _ rfl; (with_reducible repeat (first | refine blk_drewN ?_ _ | refine blk_drew ?_ | refine blk_alloc ?_ _)); refine blk_put (cs := #[.int .i64 0, .slice none 0 0]) ?_ 0 _ rfl; exact pkK BK415.out) hb); replace HB := am (below_step (pkW HB.out) hb); (try clear hb); obtain ⟨hcz26_0, hcz26_1, hfz26_0, hfz26_1⟩ := bk2 BK409.out))
    repeat (go_quiet (first | (go_at_call 12; (with_reducible refine (impl_ClockOk.calls k a0_0 _ _ l0_1 true _ ?side1 ?side2 A15.out).mono ?_); (case side1 => exact Kd.C_below HR0_1.out (pkW HB.out)); (case side2 => exact HC0_1.out); rintro e w25 ⟨rfl, hb⟩; replace HO414 := am (Kd.R_below (by (with_reducible repeat (first | apply Kd.R_alloc | apply Kd.R_drewN | apply Kd.R_drew)); exact (Kd.R_mono (Kd.R_far (p := ⟨gb415, 1, none⟩) (Kd.R_far (p := ⟨gb415, 0, none⟩) (Kd.R_types HO414.out BK415.out (by decide)) (fun _ hk => hk.2) (.int .i64 t411)) (fun _ hk => hk.2) (.slice Ao14 t412.length co14)) (fun _ h_ => h_.1))) hb); replace BK409 := am (blk_below (g := gb409) (o := .cells #[.int .i64 a0_0, .slice A0_1 l0_1.length c0_1] 29 (0, 0)) (by (with_reducible repeat (first | refine blk_drewN ?_ _ | refine blk_drew ?_ | refine blk_alloc ?_ _)); refine blk_far ?_ NB409_415.out _; (with_reducible repeat (first | refine blk_drewN ?_ _ | refine blk_drew ?_ | refine blk_alloc ?_ _)); refine blk_far ?_ NB409_415.out _; exact pkK BK409.out) hb); replace BK410 := am (blk_below (g := gb410) (o := .cells #[.int .i64 0, .slice none 0 0] 29 (0, 0)) (by (with_reducible repeat (first | refine blk_drewN ?_ _ | refine blk_drew ?_ | refine blk_alloc ?_ _)); refine blk_far ?_ NB410_415.out _; (with_reducible repeat (first | refine blk_drewN ?_ _ | refine blk_drew ?_ | refine blk_alloc ?_ _)); refine blk_far ?_ NB410_415.out _; exact pkK BK410.out) hb); replace BK415 := am (blk_below (g := gb415) (o := .cells #[.int .i64 t411, .slice Ao14 t412.length co14] 29 (0, 0)) (by (with_reducible repeat (first | refine blk_drewN ?_ _ | refine blk_drew ?_ | refine blk_alloc ?_ _)); refine blk_put (cs := #[.int .i64 t411, .slice none 0 0]) ?_ 1 _ rfl; (with_reducible repeat (first | refine blk_drewN ?_ _ | refine blk_drew ?_ | refine blk_alloc ?_ _)); refine blk_put (cs := #[.int .i64 0, .slice none 0 0]) ?_ 0 _ rfl; exact pkK BK415.out) hb); replace HB := am (below_step (pkW HB.out) hb); (try clear hb); obtain ⟨hcz26_0, hcz26_1, hfz26_0, hfz26_1⟩ := bk2 BK409.out)); try go_wp2_with (first | (go_at_call 12; (with_reducible refine (impl_ClockOk.calls k a0_0 _ _ l0_1 true _ ?side1 ?side2 A15.out).mono ?_); (case side1 => exact Kd.C_below HR0_1.out (pkW HB.out)); (case side2 => exact HC0_1.out); rintro e w25 ⟨rfl, hb⟩; replace HO414 := am (Kd.R_below (by (with_reducible repeat (first | apply Kd.R_alloc | apply Kd.R_drewN | apply Kd.R_drew)); exact (Kd.R_mono (Kd.R_far (p := ⟨gb415, 1, none⟩) (Kd.R_far (p := ⟨gb415, 0, none⟩) (Kd.R_types HO414.out BK415.out (by decide)) (fun _ hk => hk.2) (.int .i64 t411)) (fun _ hk => hk.2) (.slice Ao14 t412.length co14)) (fun _ h_ => h_.1))) hb); replace BK409 := am (blk_below (g := gb409) (o := .cells #[.int .i64 a0_0, .slice A0_1 l0_1.length c0_1] 29 (0, 0)) (by (with_reducible repeat (first | refine blk_drewN ?_ _ | refine blk_drew ?_ | refine blk_alloc ?_ _)); refine blk_far ?_ NB409_415.out _; (with_reducible repeat (first | refine blk_drewN ?_ _ | refine blk_drew ?_ | refine blk_alloc ?_ _)); refine blk_far ?_ NB409_415.out _; exact pkK BK409.out) hb); replace BK410 := am (blk_below (g := gb410) (o := .cells #[.int .i64 0, .slice none 0 0] 29 (0, 0)) (by (with_reducible repeat (first | refine blk_drewN ?_ _ | refine blk_drew ?_ | refine blk_alloc ?_ _)); refine blk_far ?_ NB410_415.out _; (with_reducible repeat (first | refine blk_drewN ?_ _ | refine blk_drew ?_ | refine blk_alloc ?_ _)); refine blk_far ?_ NB410_415.out _; exact pkK BK410.out) hb); replace BK415 := am (blk_below (g := gb415) (o := .cells #[.int .i64 t411, .slice Ao14 t412.length co14] 29 (0, 0)) (by (with_reducible repeat (first | refine blk_drewN ?_ _ | refine blk_drew ?_ | refine blk_alloc ?_ _)); refine blk_put (cs := #[.int .i64 t411, .slice none 0 0]) ?_ 1 _ rfl; (with_reducible repeat (first | refine blk_drewN ?_ _ | refine blk_drew ?_ | refine blk_alloc ?_ _)); refine blk_put (cs := #[.int .i64 0, .slice none 0 0]) ?_ 0 _ rfl; exact pkK BK415.out) hb); replace HB := am (below_step (pkW HB.out) hb); (try clear hb); obtain ⟨hcz26_0, hcz26_1, hfz26_0, hfz26_1⟩ := bk2 BK409.out)))
    go_meet
    case rel => exact ⟨_, (decide (a1 > (wrap64 (1000000000 - a0_0)))), rfx, H', ⟨by first | omega | exact Nat.le_refl _⟩, ⟨Kd.Q_of_R (pkR HO414.out)⟩, ⟨pkK BK409.out⟩, ⟨pkK BK410.out⟩, ⟨pkK BK415.out⟩, ⟨pkW HB.out⟩⟩
  ·replace c16 := Bool.eq_false_iff.mpr c16
   subst c16
   replace H : (impl_Advance.j0 k a1 true t411 t412) = some (r1, r2, r3, r4) := by rw [if_neg (show ¬ (false = true) by decide)] at H; exact H
   have H' := am H
   clear H
   have hnb27 := NB409_410.out
   have hnc27 := NB410_409.out
   have hnb28 := NB409_415.out
   have hnc28 := NB415_409.out
   obtain ⟨hcz29_0, hcz29_1, hfz29_0, hfz29_1⟩ := bk2 BK409.out
   go_wp2_with (first | (go_at_call 12; (with_reducible refine (impl_ClockOk.calls k a0_0 _ _ l0_1 false _ ?side1 ?side2 A15.out).mono ?_); (case side1 => exact Kd.C_below HR0_1.out (pkW HB.out)); (case side2 => exact HC0_1.out); rintro e w30 ⟨rfl, hb⟩; replace HO414 := am (Kd.R_below (by (with_reducible repeat (first | apply Kd.R_alloc | apply Kd.R_drewN | apply Kd.R_drew)); exact (Kd.R_mono (Kd.R_far (p := ⟨gb415, 1, none⟩) (Kd.R_far (p := ⟨gb415, 0, none⟩) (Kd.R_types HO414.out BK415.out (by decide)) (fun _ hk => hk.2) (.int .i64 t411)) (fun _ hk => hk.2) (.slice Ao14 t412.length co14)) (fun _ h_ => h_.1))) hb); replace BK409 := am (blk_below (g := gb409) (o := .cells #[.int .i64 a0_0, .slice A0_1 l0_1.length c0_1] 29 (0, 0)) (by (with_reducible repeat (first | refine blk_drewN ?_ _ | refine blk_drew ?_ | refine blk_alloc ?_ _)); refine blk_far ?_ NB409_415.out _; (with_reducible repeat (first | refine blk_drewN ?_ _ | refine blk_drew ?_ | refine blk_alloc ?_ _)); refine blk_far ?_ NB409_415.out _; exact pkK BK409.out) hb); replace BK410 := am (blk_below (g := gb410) (o := .cells #[.int .i64 0, .slice none 0 0] 29 (0, 0)) (by (with_reducible repeat (first | refine blk_drewN ?_ _ | refine blk_drew ?_ | refine blk_alloc ?_ _)); refine blk_far ?_ NB410_415.out _; (with_reducible repeat (first | refine blk_drewN ?_ _ | refine blk_drew ?_ | refine blk_alloc ?_ _)); refine blk_far ?_ NB410_415.out _; exact pkK BK410.out) hb); replace BK415 := am (blk_below (g := gb415) (o := .cells #[.int .i64 t411, .slice Ao14 t412.length co14] 29 (0, 0)) (by (with_reducible repeat (first | refine blk_drewN ?_ _ | refine blk_drew ?_ | refine blk_alloc ?_ _)); refine blk_put (cs := #[.int .i64 t411, .slice none 0 0]) ?_ 1 _ rfl; (with_reducible repeat (first | refine blk_drewN ?_ _ | refine blk_drew ?_ | refine blk_alloc ?_ _)); refine blk_put (cs := #[.int .i64 0, .slice none 0 0]) ?_ 0 _ rfl; exact pkK BK415.out) hb); replace HB := am (below_step (pkW HB.out) hb); (try clear hb)))
   repeat (go_quiet (first | (go_at_call 12; (with_reducible refine (impl_ClockOk.calls k a0_0 _ _ l0_1 false _ ?side1 ?side2 A15.out).mono ?_); (case side1 => exact Kd.C_below HR0_1.out (pkW HB.out)); (case side2 => exact HC0_1.out); rintro e w30 ⟨rfl, hb⟩; replace HO414 := am (Kd.R_below (by (with_reducible repeat (first | apply Kd.R_alloc | apply Kd.R_drewN | apply Kd.R_drew)); exact (Kd.R_mono (Kd.R_far (p := ⟨gb415, 1, none⟩) (Kd.R_far (p := ⟨gb415, 0, none⟩) (Kd.R_types HO414.out BK415.out (by decide)) (fun _ hk => hk.2) (.int .i64 t411)) (fun _ hk => hk.2) (.slice Ao14 t412.length co14)) (fun _ h_ => h_.1))) hb); replace BK409 := am (blk_below (g := gb409) (o := .cells #[.int .i64 a0_0, .slice A0_1 l0_1.length c0_1] 29 (0, 0)) (by (with_reducible repeat (first | refine blk_drewN ?_ _ | refine blk_drew ?_ | refine blk_alloc ?_ _)); refine blk_far ?_ NB409_415.out _; (with_reducible repeat (first | refine blk_drewN ?_ _ | refine blk_drew ?_ | refine blk_alloc ?_ _)); refine blk_far ?_ NB409_415.out _; exact pkK BK409.out) hb); replace BK410 := am (blk_below (g := gb410) (o := .cells #[.int .i64 0, .slice none 0 0] 29 (0, 0)) (by (with_reducible repeat (first | refine blk_drewN ?_ _ | refine blk_drew ?_ | refine blk_alloc ?_ _)); refine blk_far ?_ NB410_415.out _; (with_reducible repeat (first | refine blk_drewN ?_ _ | refine blk_drew ?_ | refine blk_alloc ?_ _)); refine blk_far ?_ NB410_415.out _; exact pkK BK410.out) hb); replace BK415 := am (blk_below (g := gb415) (o := .cells #[.int .i64 t411, .slice Ao14 t412.length co14] 29 (0, 0)) (by (with_reducible repeat (first | refine blk_drewN ?_ _ | refine blk_drew ?_ | refine blk_alloc ?_ _)); refine blk_put (cs := #[.int .i64 t411, .slice none 0 0]) ?_ 1 _ rfl; (with_reducible repeat (first | refine blk_drewN ?_ _ | refine blk_drew ?_ | refine blk_alloc ?_ _)); refine blk_put (cs := #[.int .i64 0, .slice none 0 0]) ?_ 0 _ rfl; exact pkK BK415.out) hb); replace HB := am (below_step (pkW HB.out) hb); (try clear hb))); try go_wp2_with (first | (go_at_call 12; (with_reducible refine (impl_ClockOk.calls k a0_0 _ _ l0_1 false _ ?side1 ?side2 A15.out).mono ?_); (case side1 => exact Kd.C_below HR0_1.out (pkW HB.out)); (case side2 => exact HC0_1.out); rintro e w30 ⟨rfl, hb⟩; replace HO414 := am (Kd.R_below (by (with_reducible repeat (first | apply Kd.R_alloc | apply Kd.R_drewN | apply Kd.R_drew)); exact (Kd.R_mono (Kd.R_far (p := ⟨gb415, 1, none⟩) (Kd.R_far (p := ⟨gb415, 0, none⟩) (Kd.R_types HO414.out BK415.out (by decide)) (fun _ hk => hk.2) (.int .i64 t411)) (fun _ hk => hk.2) (.slice Ao14 t412.length co14)) (fun _ h_ => h_.1))) hb); replace BK409 := am (blk_below (g := gb409) (o := .cells #[.int .i64 a0_0, .slice A0_1 l0_1.length c0_1] 29 (0, 0)) (by (with_reducible repeat (first | refine blk_drewN ?_ _ | refine blk_drew ?_ | refine blk_alloc ?_ _)); refine blk_far ?_ NB409_415.out _; (with_reducible repeat (first | refine blk_drewN ?_ _ | refine blk_drew ?_ | refine blk_alloc ?_ _)); refine blk_far ?_ NB409_415.out _; exact pkK BK409.out) hb); replace BK410 := am (blk_below (g := gb410) (o := .cells #[.int .i64 0, .slice none 0 0] 29 (0, 0)) (by (with_reducible repeat (first | refine blk_drewN ?_ _ | refine blk_drew ?_ | refine blk_alloc ?_ _)); refine blk_far ?_ NB410_415.out _; (with_reducible repeat (first | refine blk_drewN ?_ _ | refine blk_drew ?_ | refine blk_alloc ?_ _)); refine blk_far ?_ NB410_415.out _; exact pkK BK410.out) hb); replace BK415 := am (blk_below (g := gb415) (o := .cells #[.int .i64 t411, .slice Ao14 t412.length co14] 29 (0, 0)) (by (with_reducible repeat (first | refine blk_drewN ?_ _ | refine blk_drew ?_ | refine blk_alloc ?_ _)); refine blk_put (cs := #[.int .i64 t411, .slice none 0 0]) ?_ 1 _ rfl; (with_reducible repeat (first | refine blk_drewN ?_ _ | refine blk_drew ?_ | refine blk_alloc ?_ _)); refine blk_put (cs := #[.int .i64 0, .slice none 0 0]) ?_ 0 _ rfl; exact pkK BK415.out) hb); replace HB := am (below_step (pkW HB.out) hb); (try clear hb))))
   go_meet
   case rel => exact ⟨_, (true), rfx, H', ⟨by first | omega | exact Nat.le_refl _⟩, ⟨Kd.Q_of_R (pkR HO414.out)⟩, ⟨pkK BK409.out⟩, ⟨pkK BK410.out⟩, ⟨pkK BK415.out⟩, ⟨pkW HB.out⟩⟩
 case rest =>
  clear HC4
  try clear c1
  try clear c2
  try clear p2
  try clear p6
  try clear c7
  try clear c11
  try clear c12
  try clear c16
  try clear c17
  try clear c17b0
  try clear c18
  try clear c19
  try clear c20
  try clear c22
  try clear c23
  try clear c27
  try clear c28
  try clear hcz13_0
  try clear hcz13_1
  try clear hcz20_0
  try clear hcz20_1
  try clear hcz24_0
  try clear hcz24_1
  try clear hcz26_0
  try clear hcz26_1
  try clear hcz29_0
  try clear hcz29_1
  try clear hcz8_0
  try clear hcz8_1
  try clear hfz13_0
  try clear hfz13_1
  try clear hfz20_0
  try clear hfz20_1
  try clear hfz24_0
  try clear hfz24_1
  try clear hfz26_0
  try clear hfz26_1
  try clear hfz29_0
  try clear hfz29_1
  try clear hfz8_0
  try clear hfz8_1
  obtain ⟨kq, x24_3, rfl, HA, HJ3, HO_416001, BK409, BK410, BK415, HB⟩ := hcut
  cases kq with
  | zero => exact absurd HA.out (by simp [impl_Advance.j0])
  | succ kj3 =>
   have H := HA.out
   clear HA
   simp only [impl_Advance.j0] at H
   by_cases c31 : x24_3 = true
   ·subst c31
    replace H : (some (t411, t412, ([] : List Int), 1)) = some (r1, r2, r3, r4) := by rw [if_pos rfl] at H; exact H
    simp only [Option.some.injEq, Prod.mk.injEq] at H
    obtain ⟨rfl, rfl, rfl, rfl⟩ := H
    have hnb32 := NB415_409.out
    have hnc32 := NB409_415.out
    have hnb33 := NB415_410.out
    have hnc33 := NB410_415.out
    obtain ⟨hcz34_0, hcz34_1, hfz34_0, hfz34_1⟩ := bk2 BK415.out
    have hnb35 := NB410_409.out
    have hnc35 := NB409_410.out
    obtain ⟨hcz36_0, hcz36_1, hfz36_0, hfz36_1⟩ := bk2 BK410.out
    go_wp2
    repeat (go_quiet (fail); try go_wp2)
    refine bodyPost_ret (results_ctt rfl _ _ gb410 29 #[.int .i64 t411, .slice Ao14 t412.length co14] (0, 0) _ rfl (by (with_reducible repeat (first | refine blk_drewN ?_ _ | refine blk_drew ?_ | refine blk_alloc ?_ _)); refine blk_put (cs := #[.int .i64 t411, .slice none 0 0]) ?_ 1 _ rfl; (with_reducible repeat (first | refine blk_drewN ?_ _ | refine blk_drew ?_ | refine blk_alloc ?_ _)); refine blk_put (cs := #[.int .i64 0, .slice none 0 0]) ?_ 0 _ rfl; exact pkK BK410.out) Try.underlying29 rfl (by kernel_rfl)) rfl ?_
    exact ⟨_, _, rfe, by (with_reducible repeat (first | apply Kd.Q_alloc | apply Kd.Q_drewN | apply Kd.Q_drew)); exact Kd.Q_mono (Kd.Q_far (p := ⟨gb410, 1, none⟩) (Kd.Q_far (p := ⟨gb410, 0, none⟩) (Kd.Q_types HO_416001.out BK410.out (by decide)) (fun _ hk => hk.2) (.int .i64 t411)) (fun _ hk => hk.2) (.slice Ao14 t412.length co14)) (fun _ hk => trivial), by first | exact Kd.R_nil _ _ _ _ _ | exact Kd.N_nil _ _ _ _ _ | exact Kd.V_nil _ _ _ _ _ | exact Kd.Q_nil _ _ _ _ _ | exact Kd.S_nil _ _ _ _ _, pkW HB.out⟩
   ·replace c31 := Bool.eq_false_iff.mpr c31
    subst c31
    replace H : (impl_Advance.l0 kj3 (([] : List Int)) (wrap64 (t411 + a1)) t412) = some (r1, r2, r3, r4) := by rw [if_neg (show ¬ (false = true) by decide)] at H; exact H
    obtain ⟨y417, hy417⟩ : ∃ y_ : List Int, y_ = (([] : List Int)) := ⟨_, rfl⟩
    replace H : (impl_Advance.l0 kj3 y417 (wrap64 (t411 + a1)) t412) = some (r1, r2, r3, r4) := by first | (rw [hy417]; with_reducible exact H) | (have H2_ := (Option.bind_some _ _).symm.trans H; rw [hy417]; with_reducible exact H2_) | (have H2_ := (Option.bind_some _ _).symm.trans H; with_reducible exact H2_) | with_reducible exact H | (rw [hy417]; exact H) | exact H
    have Ny417 := am hy417
    clear hy417
    have H' := am H
    clear H
    have hnb37 := NB415_409.out
    have hnc37 := NB409_415.out
    have hnb38 := NB415_410.out
    have hnc38 := NB410_415.out
    obtain ⟨hcz39_0, hcz39_1, hfz39_0, hfz39_1⟩ := bk2 BK415.out
    go_wp2_with (first | ((with_reducible refine gate_dst (N := 31) rfl ?_); refine Kd.R_lit (Kd.int .i64) _ 3 ?hg (N := 31) ?hd (xs := ([] : List Int)) (inner := []) (ok := fun _ => True) (okp := fun _ => True) ?hr ?hp (fun _ hk => hk) trivial (Below.refl _ _) (Nat.le_refl _) (by simp) ?_; (case hd => rfl); (case hg => rfl); (case hr => first | (go_simp; done) | (go_simp; rfl)); (case hp => exact (Reps.none _ _)); intro v418 w40 ho41 hb hg_ hnew_; clear hg_ hnew_; (first | rw [← Ny417.out] at ho41 | (simp only [Int.reduceToNat] at ho41; rw [← Ny417.out] at ho41)); replace HO_416001 := am (Kd.Q_below (by (with_reducible repeat (first | apply Kd.Q_alloc | apply Kd.Q_drewN | apply Kd.Q_drew)); exact (Kd.Q_mono (Kd.Q_far (p := ⟨gb415, 0, none⟩) (Kd.Q_types HO_416001.out BK415.out (by decide)) (fun _ hk => hk.2) (.int .i64 (wrap64 (t411 + a1)))) (fun _ h_ => h_.1))) hb); have HO419 := am (Kd.R_lower ho41 (below_size (pkW HB.out))); replace BK409 := am (blk_below (g := gb409) (o := .cells #[.int .i64 a0_0, .slice A0_1 l0_1.length c0_1] 29 (0, 0)) (by (with_reducible repeat (first | refine blk_drewN ?_ _ | refine blk_drew ?_ | refine blk_alloc ?_ _)); refine blk_far ?_ NB409_415.out _; exact pkK BK409.out) hb); replace BK410 := am (blk_below (g := gb410) (o := .cells #[.int .i64 0, .slice none 0 0] 29 (0, 0)) (by (with_reducible repeat (first | refine blk_drewN ?_ _ | refine blk_drew ?_ | refine blk_alloc ?_ _)); refine blk_far ?_ NB410_415.out _; exact pkK BK410.out) hb); replace BK415 := am (blk_below (g := gb415) (o := .cells #[.int .i64 (wrap64 (t411 + a1)), .slice Ao14 t412.length co14] 29 (0, 0)) (by (with_reducible repeat (first | refine blk_drewN ?_ _ | refine blk_drew ?_ | refine blk_alloc ?_ _)); refine blk_put (cs := #[.int .i64 t411, .slice Ao14 t412.length co14]) ?_ 0 _ rfl; exact pkK BK415.out) hb); replace HB := am (below_step (pkW HB.out) hb); clear hb ho41))
    repeat (go_quiet (first | ((with_reducible refine gate_dst (N := 31) rfl ?_); refine Kd.R_lit (Kd.int .i64) _ 3 ?hg (N := 31) ?hd (xs := ([] : List Int)) (inner := []) (ok := fun _ => True) (okp := fun _ => True) ?hr ?hp (fun _ hk => hk) trivial (Below.refl _ _) (Nat.le_refl _) (by simp) ?_; (case hd => rfl); (case hg => rfl); (case hr => first | (go_simp; done) | (go_simp; rfl)); (case hp => exact (Reps.none _ _)); intro v418 w40 ho41 hb hg_ hnew_; clear hg_ hnew_; (first | rw [← Ny417.out] at ho41 | (simp only [Int.reduceToNat] at ho41; rw [← Ny417.out] at ho41)); replace HO_416001 := am (Kd.Q_below (by (with_reducible repeat (first | apply Kd.Q_alloc | apply Kd.Q_drewN | apply Kd.Q_drew)); exact (Kd.Q_mono (Kd.Q_far (p := ⟨gb415, 0, none⟩) (Kd.Q_types HO_416001.out BK415.out (by decide)) (fun _ hk => hk.2) (.int .i64 (wrap64 (t411 + a1)))) (fun _ h_ => h_.1))) hb); have HO419 := am (Kd.R_lower ho41 (below_size (pkW HB.out))); replace BK409 := am (blk_below (g := gb409) (o := .cells #[.int .i64 a0_0, .slice A0_1 l0_1.length c0_1] 29 (0, 0)) (by (with_reducible repeat (first | refine blk_drewN ?_ _ | refine blk_drew ?_ | refine blk_alloc ?_ _)); refine blk_far ?_ NB409_415.out _; exact pkK BK409.out) hb); replace BK410 := am (blk_below (g := gb410) (o := .cells #[.int .i64 0, .slice none 0 0] 29 (0, 0)) (by (with_reducible repeat (first | refine blk_drewN ?_ _ | refine blk_drew ?_ | refine blk_alloc ?_ _)); refine blk_far ?_ NB410_415.out _; exact pkK BK410.out) hb); replace BK415 := am (blk_below (g := gb415) (o := .cells #[.int .i64 (wrap64 (t411 + a1)), .slice Ao14 t412.length co14] 29 (0, 0)) (by (with_reducible repeat (first | refine blk_drewN ?_ _ | refine blk_drew ?_ | refine blk_alloc ?_ _)); refine blk_put (cs := #[.int .i64 t411, .slice Ao14 t412.length co14]) ?_ 0 _ rfl; exact pkK BK415.out) hb); replace HB := am (below_step (pkW HB.out) hb); clear hb ho41)); try go_wp2_with (first | ((with_reducible refine gate_dst (N := 31) rfl ?_); refine Kd.R_lit (Kd.int .i64) _ 3 ?hg (N := 31) ?hd (xs := ([] : List Int)) (inner := []) (ok := fun _ => True) (okp := fun _ => True) ?hr ?hp (fun _ hk => hk) trivial (Below.refl _ _) (Nat.le_refl _) (by simp) ?_; (case hd => rfl); (case hg => rfl); (case hr => first | (go_simp; done) | (go_simp; rfl)); (case hp => exact (Reps.none _ _)); intro v418 w40 ho41 hb hg_ hnew_; clear hg_ hnew_; (first | rw [← Ny417.out] at ho41 | (simp only [Int.reduceToNat] at ho41; rw [← Ny417.out] at ho41)); replace HO_416001 := am (Kd.Q_below (by (with_reducible repeat (first | apply Kd.Q_alloc | apply Kd.Q_drewN | apply Kd.Q_drew)); exact (Kd.Q_mono (Kd.Q_far (p := ⟨gb415, 0, none⟩) (Kd.Q_types HO_416001.out BK415.out (by decide)) (fun _ hk => hk.2) (.int .i64 (wrap64 (t411 + a1)))) (fun _ h_ => h_.1))) hb); have HO419 := am (Kd.R_lower ho41 (below_size (pkW HB.out))); replace BK409 := am (blk_below (g := gb409) (o := .cells #[.int .i64 a0_0, .slice A0_1 l0_1.length c0_1] 29 (0, 0)) (by (with_reducible repeat (first | refine blk_drewN ?_ _ | refine blk_drew ?_ | refine blk_alloc ?_ _)); refine blk_far ?_ NB409_415.out _; exact pkK BK409.out) hb); replace BK410 := am (blk_below (g := gb410) (o := .cells #[.int .i64 0, .slice none 0 0] 29 (0, 0)) (by (with_reducible repeat (first | refine blk_drewN ?_ _ | refine blk_drew ?_ | refine blk_alloc ?_ _)); refine blk_far ?_ NB410_415.out _; exact pkK BK410.out) hb); replace BK415 := am (blk_below (g := gb415) (o := .cells #[.int .i64 (wrap64 (t411 + a1)), .slice Ao14 t412.length co14] 29 (0, 0)) (by (with_reducible repeat (first | refine blk_drewN ?_ _ | refine blk_drew ?_ | refine blk_alloc ?_ _)); refine blk_put (cs := #[.int .i64 t411, .slice Ao14 t412.length co14]) ?_ 0 _ rfl; exact pkK BK415.out) hb); replace HB := am (below_step (pkW HB.out) hb); clear hb ho41)))
    go_loopg [8] kj3 (fun kq v8 w' => ∃ (x8_2 : List Int) (x416001_2 : List (S46)) (u416001 : Value), Aside0 (impl_Advance.l0 kq x8_2 (wrap64 (t411 + a1)) x416001_2 = some (r1, r2, r3, r4)) ∧ Aside0 (kq ≤ kj3) ∧ Aside0 (Kd.R (Kd.int .i64) 3 w' w.heap.size (fun _ => True) v8 x8_2) ∧ Aside0 (Kd.Q k46 46 w' w.heap.size (fun _ => True) u416001 x416001_2) ∧ Aside0 (w'.heap[gb409]? = some (.cells #[.int .i64 a0_0, (.slice A0_1 l0_1.length c0_1)] 29 (0, 0))) ∧ Aside0 (w'.heap[gb410]? = some (.cells #[.int .i64 0, (.slice none 0 0)] 29 (0, 0))) ∧ Aside0 (w'.heap[gb415]? = some (.cells #[.int .i64 (wrap64 (t411 + a1)), u416001] 29 (0, 0))) ∧ Aside0 (Below w.heap.size w w'))
    case atStart => exact ⟨(y417), (t412), (.slice Ao14 t412.length co14), H', ⟨Nat.le_refl _⟩, ⟨pkR HO419.out⟩, ⟨pkQ HO_416001.out⟩, ⟨pkK BK409.out⟩, ⟨pkK BK410.out⟩, ⟨pkK BK415.out⟩, ⟨pkW HB.out⟩⟩
    case round =>
     clear H'
     try clear c1
     try clear c2
     try clear p2
     try clear c3
     try clear p6
     try clear c7
     try clear c11
     try clear c12
     try clear c16
     try clear c17
     try clear c17b0
     try clear c18
     try clear c19
     try clear c20
     try clear c22
     try clear c23
     try clear c27
     try clear c28
     try clear c31
     try clear c32
     try clear c33
     try clear c35
     try clear c37
     try clear c38
     try clear hcz13_0
     try clear hcz13_1
     try clear hcz20_0
     try clear hcz20_1
     try clear hcz24_0
     try clear hcz24_1
     try clear hcz26_0
     try clear hcz26_1
     try clear hcz29_0
     try clear hcz29_1
     try clear hcz34_0
     try clear hcz34_1
     try clear hcz36_0
     try clear hcz36_1
     try clear hcz39_0
     try clear hcz39_1
     try clear hcz8_0
     try clear hcz8_1
     try clear hfz13_0
     try clear hfz13_1
     try clear hfz20_0
     try clear hfz20_1
     try clear hfz24_0
     try clear hfz24_1
     try clear hfz26_0
     try clear hfz26_1
     try clear hfz29_0
     try clear hfz29_1
     try clear hfz34_0
     try clear hfz34_1
     try clear hfz36_0
     try clear hfz36_1
     try clear hfz39_0
     try clear hfz39_1
     try clear hfz8_0
     try clear hfz8_1
     try clear p2
     try clear p6
     obtain ⟨x8_2, x416001_2, u416001, HA, HK2, HO_8, HO_416001, BK409, BK410, BK415, HB⟩ := hrel
     cases gk with
     | zero => exact absurd HA.out (by simp [impl_Advance.l0])
     | succ k2 =>
      have H := HA.out
      clear HA
      simp only [impl_Advance.l0] at H
      by_cases c42 : (x416001_2.length : Int) > 0
      ·rw [if_pos c42] at H
       have c42b0 : decide (0 < (x416001_2.length : Int)) = true := decide_eq_true c42
       have c42b1 : decide (0 < x416001_2.length) = true := decide_eq_true (by omega)
       clear c42
       by_cases c43 : 0 < (x416001_2.length : Int)
       ·rw [if_pos c43] at H
        have c43b0 : decide (0 < (x416001_2.length : Int)) = true := decide_eq_true c43
        have c43b1 : decide (0 < x416001_2.length) = true := decide_eq_true (by omega)
        clear c43
        by_cases c44 : ((rd_T46 x416001_2 0).f0) ≤ (wrap64 (t411 + a1))
        ·rw [if_pos c44] at H
         have c44b0 : decide (((rd_T46 x416001_2 0).f0) ≤ (wrap64 (t411 + a1))) = true := decide_eq_true c44
         clear c44
         by_cases c45 : x8_2.length < 17592186044416
         ·rw [if_pos c45] at H
          have LMc45 := am c45
          clear c45
          obtain ⟨y422, hy422⟩ : ∃ y_ : List Int, y_ = (x8_2 ++ [(rd_T46 x416001_2 0).f1]) := ⟨_, rfl⟩
          replace H : (if 1 ≤ (x416001_2.length : Int) then (impl_Advance.l0 k2 y422 (wrap64 (t411 + a1)) (x416001_2.drop (1 : Int).toNat)) else (none)) = some (r1, r2, r3, r4) := by first | (rw [hy422]; with_reducible exact H) | (have H2_ := (Option.bind_some _ _).symm.trans H; rw [hy422]; with_reducible exact H2_) | (have H2_ := (Option.bind_some _ _).symm.trans H; with_reducible exact H2_) | with_reducible exact H | (rw [hy422]; exact H) | exact H
          have Ny422 := am hy422
          clear hy422
          by_cases c46 : 1 ≤ (x416001_2.length : Int)
          ·rw [if_pos c46] at H
           have c46b0 := eq_true c46
           have c46b1 : decide (1 ≤ (x416001_2.length : Int)) = true := decide_eq_true c46
           clear c46
           obtain ⟨y425, hy425⟩ : ∃ y_ : List (S46), y_ = (x416001_2.drop (1 : Int).toNat) := ⟨_, rfl⟩
           replace H : (impl_Advance.l0 k2 y422 (wrap64 (t411 + a1)) y425) = some (r1, r2, r3, r4) := by first | (rw [hy425]; with_reducible exact H) | (have H2_ := (Option.bind_some _ _).symm.trans H; rw [hy425]; with_reducible exact H2_) | (have H2_ := (Option.bind_some _ _).symm.trans H; with_reducible exact H2_) | with_reducible exact H | (rw [hy425]; exact H) | exact H
           have Ny425 := am hy425
           clear hy425
           have H' := am H
           clear H
           have hnb47 := NB415_409.out
           have hnc47 := NB409_415.out
           have hnb48 := NB415_410.out
           have hnc48 := NB410_415.out
           obtain ⟨hcz49_0, hcz49_1, hfz49_0, hfz49_1⟩ := bk2 BK415.out
           obtain ⟨Ao50, co50, eo50, _⟩ := Kd.Q_slice HO_416001.out
           subst eo50
           have p420 : 0 ≤ (0 : Int) := (by omega)
           have q420 : 0 < (x416001_2.length : Int) := ofd
           obtain ⟨ad420, e420, hx420_0, hx420_1⟩ := at_T46 (Kd.Q_reads' HO_416001.out).2.2 0 p420 q420
           cases e420
           have qi420 : (0 < x416001_2.length) = True := eq_true (by omega)
           (try rw [show ((0 : Int)).toNat = 0 from rfl] at hx420_0)
           (try rw [show 0 * 2 = 0 from rfl] at hx420_0)
           (try rw [Addr.add_zero'] at hx420_0)
           (try rw [show ((0 : Int)).toNat = 0 from rfl] at hx420_1)
           (try rw [show 0 * 2 = 0 from rfl] at hx420_1)
           (try rw [Addr.add_zero'] at hx420_1)
           replace p420 := eq_true p420
           replace q420 := eq_true q420
           have p421 : 0 ≤ (0 : Int) := (by omega)
           have q421 : 0 < (x416001_2.length : Int) := ofd
           obtain ⟨ad421, e421, hx421_0, hx421_1⟩ := at_T46 (Kd.Q_reads' HO_416001.out).2.2 0 p421 q421
           obtain rfl : ad420 = ad421 := (by injection e421)
           have qi421 : (0 < x416001_2.length) = True := eq_true (by omega)
           (try rw [show ((0 : Int)).toNat = 0 from rfl] at hx421_0)
           (try rw [show 0 * 2 = 0 from rfl] at hx421_0)
           (try rw [Addr.add_zero'] at hx421_0)
           (try rw [show ((0 : Int)).toNat = 0 from rfl] at hx421_1)
           (try rw [show 0 * 2 = 0 from rfl] at hx421_1)
           (try rw [Addr.add_zero'] at hx421_1)
           replace p421 := eq_true p421
           replace q421 := eq_true q421
           go_wp2_with (first | ((with_reducible refine gate_builtin (b := .append) (xs := #[.tmp 46, .tmp 52]) rfl ?_); at_builtin; refine Kd.R_append (Kd.int .i64) (w0 := w) w.heap.size rfl (.tmp 46) (.tmp 52) 40 3 (.int .i64 0) 8 rfl Try.underlying40 info3 rfl (by decide) (by omega) u8 x8_2 ((rd_T46 x416001_2 0).f1) [.int .i64 ((rd_T46 x416001_2 0).f1)] (fun _ => True) (fun _ => False) rfl rfl ?aP (fun _ hk => hk.elim) ?aF ?aO ?aB ?aS ?aL ?_; (case aP => exact rfl); (case aB => exact (pkW HB.out)); (case aF => exact (fun _ _ => trivial)); (case aO => exact (pkR HO_8.out)); (case aS => exact (below_size (pkW HB.out))); (case aL => have := LMc45.out; omega); intro v423 w51 ho hb hg hat; rw [← Ny422.out] at ho; replace HO_416001 := am (Kd.Q_over' (pkQ HO_416001.out) (Kd.R_typed (pkR HO_8.out)) (by decide) hg); replace BK409 := am (blk_grown (g := gb409) (o := .cells #[.int .i64 a0_0, .slice A0_1 l0_1.length c0_1] 29 (0, 0)) (pkK BK409.out) hg (Kd.R_ne HO_8.out BK409.out (by decide))); replace BK410 := am (blk_grown (g := gb410) (o := .cells #[.int .i64 0, .slice none 0 0] 29 (0, 0)) (pkK BK410.out) hg (Kd.R_ne HO_8.out BK410.out (by decide))); replace BK415 := am (blk_grown (g := gb415) (o := .cells #[.int .i64 (wrap64 (t411 + a1)), .slice (some ad420) x416001_2.length co50] 29 (0, 0)) (pkK BK415.out) hg (Kd.R_ne HO_8.out BK415.out (by decide))); replace HB := am (hb); have HO424 := am (ho); clear HO_8; clear ho hb hg hat; obtain ⟨hcz52_0, hcz52_1, hfz52_0, hfz52_1⟩ := bk2 BK415.out; have q53 : (1 : Int) ≤ ((x416001_2.length : Int) : Int) := ofd; obtain ⟨i053, hi053, _, hsz53, _⟩ := info_parts info46; have hcut53 := cut_from (P := Try.prog) 27 46 .i64 Try.underlying27 hi053 2 hsz53 (some ad420) x416001_2.length co50 1 (by omega) q53; have hr53 := Kd.Q_drop (k := (1 : Int).toNat) HO_416001.out (by omega); obtain ⟨A53, hA53⟩ : ∃ A1, A1 = (if co50 = (1 : Int).toNat then (some ad420) else ((some ad420) : Option Addr).map (·.add ((1 : Int).toNat * 2))) := ⟨_, rfl⟩; obtain ⟨c53, hc53⟩ : ∃ c1, c1 = co50 - (1 : Int).toNat := ⟨_, rfl⟩; have hy53 : y425.length = x416001_2.length - (1 : Int).toNat := (by rw [Ny425.out, List.length_drop]); rw [← Ny425.out] at hr53; rw [← hy53, ← hA53, ← hc53] at hcut53; replace hr53 : Kd.Q k46 46 w51 w.heap.size (fun _ => True) (.slice A53 y425.length c53) y425 := (by rw [hA53, hc53, hy53]; exact hr53); have HE53 : Aside0 ((Value.slice A53 y425.length c53).ownBlock = (.slice (some ad420) x416001_2.length co50 : Value).ownBlock) := ⟨by rw [hA53]; split <;> (cases ((some ad420) : Option Addr) <;> rfl)⟩; clear hy53 hi053 hsz53 HO_416001 hA53 hc53; have HO427 := am hr53; clear hr53; replace q53 := eq_true q53))
           repeat (go_quiet (first | ((with_reducible refine gate_builtin (b := .append) (xs := #[.tmp 46, .tmp 52]) rfl ?_); at_builtin; refine Kd.R_append (Kd.int .i64) (w0 := w) w.heap.size rfl (.tmp 46) (.tmp 52) 40 3 (.int .i64 0) 8 rfl Try.underlying40 info3 rfl (by decide) (by omega) u8 x8_2 ((rd_T46 x416001_2 0).f1) [.int .i64 ((rd_T46 x416001_2 0).f1)] (fun _ => True) (fun _ => False) rfl rfl ?aP (fun _ hk => hk.elim) ?aF ?aO ?aB ?aS ?aL ?_; (case aP => exact rfl); (case aB => exact (pkW HB.out)); (case aF => exact (fun _ _ => trivial)); (case aO => exact (pkR HO_8.out)); (case aS => exact (below_size (pkW HB.out))); (case aL => have := LMc45.out; omega); intro v423 w51 ho hb hg hat; rw [← Ny422.out] at ho; replace HO_416001 := am (Kd.Q_over' (pkQ HO_416001.out) (Kd.R_typed (pkR HO_8.out)) (by decide) hg); replace BK409 := am (blk_grown (g := gb409) (o := .cells #[.int .i64 a0_0, .slice A0_1 l0_1.length c0_1] 29 (0, 0)) (pkK BK409.out) hg (Kd.R_ne HO_8.out BK409.out (by decide))); replace BK410 := am (blk_grown (g := gb410) (o := .cells #[.int .i64 0, .slice none 0 0] 29 (0, 0)) (pkK BK410.out) hg (Kd.R_ne HO_8.out BK410.out (by decide))); replace BK415 := am (blk_grown (g := gb415) (o := .cells #[.int .i64 (wrap64 (t411 + a1)), .slice (some ad420) x416001_2.length co50] 29 (0, 0)) (pkK BK415.out) hg (Kd.R_ne HO_8.out BK415.out (by decide))); replace HB := am (hb); have HO424 := am (ho); clear HO_8; clear ho hb hg hat; obtain ⟨hcz52_0, hcz52_1, hfz52_0, hfz52_1⟩ := bk2 BK415.out; have q53 : (1 : Int) ≤ ((x416001_2.length : Int) : Int) := ofd; obtain ⟨i053, hi053, _, hsz53, _⟩ := info_parts info46; have hcut53 := cut_from (P := Try.prog) 27 46 .i64 Try.underlying27 hi053 2 hsz53 (some ad420) x416001_2.length co50 1 (by omega) q53; have hr53 := Kd.Q_drop (k := (1 : Int).toNat) HO_416001.out (by omega); obtain ⟨A53, hA53⟩ : ∃ A1, A1 = (if co50 = (1 : Int).toNat then (some ad420) else ((some ad420) : Option Addr).map (·.add ((1 : Int).toNat * 2))) := ⟨_, rfl⟩; obtain ⟨c53, hc53⟩ : ∃ c1, c1 = co50 - (1 : Int).toNat := ⟨_, rfl⟩; have hy53 : y425.length = x416001_2.length - (1 : Int).toNat := (by rw [Ny425.out, List.length_drop]); rw [← Ny425.out] at hr53; rw [← hy53, ← hA53, ← hc53] at hcut53; replace hr53 : Kd.Q k46 46 w51 w.heap.size (fun _ => True) (.slice A53 y425.length c53) y425 := (by rw [hA53, hc53, hy53]; exact hr53); have HE53 : Aside0 ((Value.slice A53 y425.length c53).ownBlock = (.slice (some ad420) x416001_2.length co50 : Value).ownBlock) := ⟨by rw [hA53]; split <;> (cases ((some ad420) : Option Addr) <;> rfl)⟩; clear hy53 hi053 hsz53 HO_416001 hA53 hc53; have HO427 := am hr53; clear hr53; replace q53 := eq_true q53)); try go_wp2_with (first | ((with_reducible refine gate_builtin (b := .append) (xs := #[.tmp 46, .tmp 52]) rfl ?_); at_builtin; refine Kd.R_append (Kd.int .i64) (w0 := w) w.heap.size rfl (.tmp 46) (.tmp 52) 40 3 (.int .i64 0) 8 rfl Try.underlying40 info3 rfl (by decide) (by omega) u8 x8_2 ((rd_T46 x416001_2 0).f1) [.int .i64 ((rd_T46 x416001_2 0).f1)] (fun _ => True) (fun _ => False) rfl rfl ?aP (fun _ hk => hk.elim) ?aF ?aO ?aB ?aS ?aL ?_; (case aP => exact rfl); (case aB => exact (pkW HB.out)); (case aF => exact (fun _ _ => trivial)); (case aO => exact (pkR HO_8.out)); (case aS => exact (below_size (pkW HB.out))); (case aL => have := LMc45.out; omega); intro v423 w51 ho hb hg hat; rw [← Ny422.out] at ho; replace HO_416001 := am (Kd.Q_over' (pkQ HO_416001.out) (Kd.R_typed (pkR HO_8.out)) (by decide) hg); replace BK409 := am (blk_grown (g := gb409) (o := .cells #[.int .i64 a0_0, .slice A0_1 l0_1.length c0_1] 29 (0, 0)) (pkK BK409.out) hg (Kd.R_ne HO_8.out BK409.out (by decide))); replace BK410 := am (blk_grown (g := gb410) (o := .cells #[.int .i64 0, .slice none 0 0] 29 (0, 0)) (pkK BK410.out) hg (Kd.R_ne HO_8.out BK410.out (by decide))); replace BK415 := am (blk_grown (g := gb415) (o := .cells #[.int .i64 (wrap64 (t411 + a1)), .slice (some ad420) x416001_2.length co50] 29 (0, 0)) (pkK BK415.out) hg (Kd.R_ne HO_8.out BK415.out (by decide))); replace HB := am (hb); have HO424 := am (ho); clear HO_8; clear ho hb hg hat; obtain ⟨hcz52_0, hcz52_1, hfz52_0, hfz52_1⟩ := bk2 BK415.out; have q53 : (1 : Int) ≤ ((x416001_2.length : Int) : Int) := ofd; obtain ⟨i053, hi053, _, hsz53, _⟩ := info_parts info46; have hcut53 := cut_from (P := Try.prog) 27 46 .i64 Try.underlying27 hi053 2 hsz53 (some ad420) x416001_2.length co50 1 (by omega) q53; have hr53 := Kd.Q_drop (k := (1 : Int).toNat) HO_416001.out (by omega); obtain ⟨A53, hA53⟩ : ∃ A1, A1 = (if co50 = (1 : Int).toNat then (some ad420) else ((some ad420) : Option Addr).map (·.add ((1 : Int).toNat * 2))) := ⟨_, rfl⟩; obtain ⟨c53, hc53⟩ : ∃ c1, c1 = co50 - (1 : Int).toNat := ⟨_, rfl⟩; have hy53 : y425.length = x416001_2.length - (1 : Int).toNat := (by rw [Ny425.out, List.length_drop]); rw [← Ny425.out] at hr53; rw [← hy53, ← hA53, ← hc53] at hcut53; replace hr53 : Kd.Q k46 46 w51 w.heap.size (fun _ => True) (.slice A53 y425.length c53) y425 := (by rw [hA53, hc53, hy53]; exact hr53); have HE53 : Aside0 ((Value.slice A53 y425.length c53).ownBlock = (.slice (some ad420) x416001_2.length co50 : Value).ownBlock) := ⟨by rw [hA53]; split <;> (cases ((some ad420) : Option Addr) <;> rfl)⟩; clear hy53 hi053 hsz53 HO_416001 hA53 hc53; have HO427 := am hr53; clear hr53; replace q53 := eq_true q53)))
           go_roundg k2
           case measure => have := HJ3.out; have := HK2.out; omega
           case rel => exact ⟨(y422), (y425), (.slice A53 y425.length c53), H', ⟨by have := HJ3.out; have := HK2.out; omega⟩, ⟨by (with_reducible repeat (first | apply Kd.R_alloc | apply Kd.R_drewN | apply Kd.R_drew)); exact Kd.R_mono (Kd.R_far (p := ⟨gb415, 1, none⟩) (Kd.R_types HO424.out BK415.out (by decide)) (fun _ hk => hk.2) (.slice A53 y425.length c53)) (fun _ hk => trivial)⟩, ⟨by (with_reducible repeat (first | apply Kd.Q_alloc | apply Kd.Q_drewN | apply Kd.Q_drew)); exact Kd.Q_mono (Kd.Q_far (p := ⟨gb415, 1, none⟩) (Kd.Q_types HO427.out BK415.out (by decide)) (fun _ hk => hk.2) (.slice A53 y425.length c53)) (fun _ hk => trivial)⟩, ⟨by (with_reducible repeat (first | refine blk_drewN ?_ _ | refine blk_drew ?_ | refine blk_alloc ?_ _)); refine blk_far ?_ NB409_415.out _; exact pkK BK409.out⟩, ⟨by (with_reducible repeat (first | refine blk_drewN ?_ _ | refine blk_drew ?_ | refine blk_alloc ?_ _)); refine blk_far ?_ NB410_415.out _; exact pkK BK410.out⟩, ⟨by (with_reducible repeat (first | refine blk_drewN ?_ _ | refine blk_drew ?_ | refine blk_alloc ?_ _)); refine blk_put (cs := #[.int .i64 (wrap64 (t411 + a1)), .slice (some ad420) x416001_2.length co50]) ?_ 1 _ rfl; exact pkK BK415.out⟩, ⟨pkW HB.out⟩⟩
          ·rw [if_neg c46] at H
           exact absurd H (by simp)
         ·rw [if_neg c45] at H
          exact absurd H (by simp)
        ·rw [if_neg c44] at H
         have c44b0 : decide (((rd_T46 x416001_2 0).f0) ≤ (wrap64 (t411 + a1))) = false := decide_eq_false c44
         clear c44
         simp only [Option.some.injEq, Prod.mk.injEq] at H
         obtain ⟨rfl, rfl, rfl, rfl⟩ := H
         have hnb54 := NB415_409.out
         have hnc54 := NB409_415.out
         have hnb55 := NB415_410.out
         have hnc55 := NB410_415.out
         obtain ⟨hcz56_0, hcz56_1, hfz56_0, hfz56_1⟩ := bk2 BK415.out
         obtain ⟨Ao57, co57, eo57, _⟩ := Kd.Q_slice HO_416001.out
         subst eo57
         have p420 : 0 ≤ (0 : Int) := (by omega)
         have q420 : 0 < (x416001_2.length : Int) := ofd
         obtain ⟨ad420, e420, hx420_0, hx420_1⟩ := at_T46 (Kd.Q_reads' HO_416001.out).2.2 0 p420 q420
         cases e420
         have qi420 : (0 < x416001_2.length) = True := eq_true (by omega)
         (try rw [show ((0 : Int)).toNat = 0 from rfl] at hx420_0)
         (try rw [show 0 * 2 = 0 from rfl] at hx420_0)
         (try rw [Addr.add_zero'] at hx420_0)
         (try rw [show ((0 : Int)).toNat = 0 from rfl] at hx420_1)
         (try rw [show 0 * 2 = 0 from rfl] at hx420_1)
         (try rw [Addr.add_zero'] at hx420_1)
         replace p420 := eq_true p420
         replace q420 := eq_true q420
         have hnb58 := NB410_409.out
         have hnc58 := NB409_410.out
         obtain ⟨hcz59_0, hcz59_1, hfz59_0, hfz59_1⟩ := bk2 BK410.out
         go_wp2
         repeat (go_quiet (fail); try go_wp2)
         refine bodyPost_ret (results_ctt rfl _ _ gb410 29 #[.int .i64 (wrap64 (t411 + a1)), .slice (some ad420) x416001_2.length co57] (0, 0) _ rfl (by (with_reducible repeat (first | refine blk_drewN ?_ _ | refine blk_drew ?_ | refine blk_alloc ?_ _)); refine blk_put (cs := #[.int .i64 (wrap64 (t411 + a1)), .slice none 0 0]) ?_ 1 _ rfl; (with_reducible repeat (first | refine blk_drewN ?_ _ | refine blk_drew ?_ | refine blk_alloc ?_ _)); refine blk_put (cs := #[.int .i64 0, .slice none 0 0]) ?_ 0 _ rfl; exact pkK BK410.out) Try.underlying29 rfl (by kernel_rfl)) rfl ?_
         exact ⟨_, _, rfe, by (with_reducible repeat (first | apply Kd.Q_alloc | apply Kd.Q_drewN | apply Kd.Q_drew)); exact Kd.Q_mono (Kd.Q_far (p := ⟨gb410, 1, none⟩) (Kd.Q_far (p := ⟨gb410, 0, none⟩) (Kd.Q_types HO_416001.out BK410.out (by decide)) (fun _ hk => hk.2) (.int .i64 (wrap64 (t411 + a1)))) (fun _ hk => hk.2) (.slice (some ad420) x416001_2.length co57)) (fun _ hk => trivial), by (with_reducible repeat (first | apply Kd.R_alloc | apply Kd.R_drewN | apply Kd.R_drew)); exact Kd.R_mono (Kd.R_far (p := ⟨gb410, 1, none⟩) (Kd.R_far (p := ⟨gb410, 0, none⟩) (Kd.R_types HO_8.out BK410.out (by decide)) (fun _ hk => hk.2) (.int .i64 (wrap64 (t411 + a1)))) (fun _ hk => hk.2) (.slice (some ad420) x416001_2.length co57)) (fun _ hk => trivial), pkW HB.out⟩
       ·rw [if_neg c43] at H
        exact absurd H (by simp)
      ·rw [if_neg c42] at H
       have c42b0 : decide (0 < (x416001_2.length : Int)) = false := decide_eq_false c42
       have c42b1 : decide (0 < x416001_2.length) = false := decide_eq_false (by omega)
       clear c42
       simp only [Option.some.injEq, Prod.mk.injEq] at H
       obtain ⟨rfl, rfl, rfl, rfl⟩ := H
       have hnb60 := NB415_409.out
       have hnc60 := NB409_415.out
       have hnb61 := NB415_410.out
       have hnc61 := NB410_415.out
       obtain ⟨hcz62_0, hcz62_1, hfz62_0, hfz62_1⟩ := bk2 BK415.out
       obtain ⟨Ao63, co63, eo63, _⟩ := Kd.Q_slice HO_416001.out
       subst eo63
       have hnb64 := NB410_409.out
       have hnc64 := NB409_410.out
       obtain ⟨hcz65_0, hcz65_1, hfz65_0, hfz65_1⟩ := bk2 BK410.out
       go_wp2
       repeat (go_quiet (fail); try go_wp2)
       refine bodyPost_ret (results_ctt rfl _ _ gb410 29 #[.int .i64 (wrap64 (t411 + a1)), .slice Ao63 x416001_2.length co63] (0, 0) _ rfl (by (with_reducible repeat (first | refine blk_drewN ?_ _ | refine blk_drew ?_ | refine blk_alloc ?_ _)); refine blk_put (cs := #[.int .i64 (wrap64 (t411 + a1)), .slice none 0 0]) ?_ 1 _ rfl; (with_reducible repeat (first | refine blk_drewN ?_ _ | refine blk_drew ?_ | refine blk_alloc ?_ _)); refine blk_put (cs := #[.int .i64 0, .slice none 0 0]) ?_ 0 _ rfl; exact pkK BK410.out) Try.underlying29 rfl (by kernel_rfl)) rfl ?_
       exact ⟨_, _, rfe, by (with_reducible repeat (first | apply Kd.Q_alloc | apply Kd.Q_drewN | apply Kd.Q_drew)); exact Kd.Q_mono (Kd.Q_far (p := ⟨gb410, 1, none⟩) (Kd.Q_far (p := ⟨gb410, 0, none⟩) (Kd.Q_types HO_416001.out BK410.out (by decide)) (fun _ hk => hk.2) (.int .i64 (wrap64 (t411 + a1)))) (fun _ hk => hk.2) (.slice Ao63 x416001_2.length co63)) (fun _ hk => trivial), by (with_reducible repeat (first | apply Kd.R_alloc | apply Kd.R_drewN | apply Kd.R_drew)); exact Kd.R_mono (Kd.R_far (p := ⟨gb410, 1, none⟩) (Kd.R_far (p := ⟨gb410, 0, none⟩) (Kd.R_types HO_8.out BK410.out (by decide)) (fun _ hk => hk.2) (.int .i64 (wrap64 (t411 + a1)))) (fun _ hk => hk.2) (.slice Ao63 x416001_2.length co63)) (fun _ hk => trivial), pkW HB.out⟩
end Go.Proofs.Ytfgjfheiekhmlaa.Z
