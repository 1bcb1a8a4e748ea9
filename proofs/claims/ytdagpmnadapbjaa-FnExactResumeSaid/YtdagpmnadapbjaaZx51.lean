/- The Go functions impl_Resume as Lean functions, each with a proof that its code comes to just these answers; conditions: those of each theorem. -/
import Derived.Test.YtdagpmnadapbjaaZx0
import Derived.Test.YtdagpmnadapbjaaZx7
import Derived.Test.YtdagpmnadapbjaaZx17
import Derived.Test.YtdagpmnadapbjaaZx34
import Derived.Test.YtdagpmnadapbjaaZx45
import Derived.Test.YtdagpmnadapbjaaZx50
namespace Go.Proofs.Ytdagpmnadapbjaa.Z
open Go.RowKit Go.Proofs.YtdagpmnadapbjaaW.PrintWords Go.Proofs.YtdagpmnadapbjaaW.PrintLast Go.Proofs.YtdagpmnadapbjaaW.PrintMore
attribute [local go_sem] max2_int min2_int max_two min_two max_three min_three max_four min_four   -- for this text's walks alone
set_option linter.unusedVariables false
set_option linter.unusedSimpArgs false
def impl_Resume.j0 : Nat → Int → Bool → Bool → List Int → List (S67) → Int → Int → Int → Bool → List Int → List (S67) → Int → Int → Int → Option (Bool × List Int × (List (S67)) × Int × Int × Int × Int)
 | 0, _, _, _, _, _, _, _, _, _, _, _, _, _, _ => none
 | k + 1, x7, x29, x1644000, x1644001, x1644002, x1644003, x1644004, x1644005, x1656000, x1656001, x1656002, x1656003, x1656004, x1656005 => if x29 = true then (some (x1656000, x1656001, x1656002, x1656003, x1656004, x1656005, 2)) else (if 0 ≤ x7 then (if x7 < (x1644002.length : Int) then (if (rd_T67 x1644002 x7).f1 = true then ((impl_Grant_80.f x1656002 x7 (wrap64 (x7 + 1))).bind fun t1661 => (some (x1656000, x1656001, t1661, x1656003, x1656004, wrap64 (x1656005 + 1), 0))) else ((impl_Grant_80.f x1656002 x7 (wrap64 (x7 + 1))).bind fun t1664 => (some (x1656000, x1656001, t1664, x1656003, x1656004, x1656005, 0)))) else (none)) else (none))
def impl_Resume.f (k : Nat) (a0_0 : Bool) (l0_1 : List Int) (l0_2 : List (S67)) (a0_3 : Int) (a0_4 : Int) (a0_5 : Int) (a1 : Int) : Option (Bool × List Int × (List (S67)) × Int × Int × Int × Int) := (impl_copyNotify.f a0_0 l0_1 l0_2 a0_3 a0_4 a0_5).bind fun bt1645 => ((impl_grantAt.f k l0_2 a1).bind fun t1656 => ((impl_NotifyOk.f k a0_0 l0_1 l0_2 a0_3 a0_4 a0_5).bind fun t1657 => (if t1657 = true then ((slices_Contains_int_int.f k l0_1 a1).bind fun t1658 => (if t1658 = true then (some (bt1645.1, bt1645.2.1, bt1645.2.2.1, bt1645.2.2.2.1, bt1645.2.2.2.2.1, bt1645.2.2.2.2.2, 4)) else (if t1656 < 0 then (some (bt1645.1, bt1645.2.1, bt1645.2.2.1, bt1645.2.2.2.1, bt1645.2.2.2.2.1, bt1645.2.2.2.2.2, 3)) else (if 0 ≤ t1656 then (if t1656 < (l0_2.length : Int) then (if (rd_T67 l0_2 t1656).f1 = true then (impl_Resume.j0 k t1656 (a0_5 == 1000000000) a0_0 l0_1 l0_2 a0_3 a0_4 a0_5 bt1645.1 bt1645.2.1 bt1645.2.2.1 bt1645.2.2.2.1 bt1645.2.2.2.2.1 bt1645.2.2.2.2.2) else (impl_Resume.j0 k t1656 false a0_0 l0_1 l0_2 a0_3 a0_4 a0_5 bt1645.1 bt1645.2.1 bt1645.2.2.1 bt1645.2.2.2.1 bt1645.2.2.2.2.1 bt1645.2.2.2.2.2)) else (none)) else (none))))) else (some (bt1645.1, bt1645.2.1, bt1645.2.2.1, bt1645.2.2.2.1, bt1645.2.2.2.2.1, bt1645.2.2.2.2.2, 1)))))
theorem impl_Resume.mono_l : ∀ k, (∀ y0 y1 y2 y3 y4 y5 y6 y7 y8 y9 y10 y11 y12 y13, LeO (impl_Resume.j0 k y0 y1 y2 y3 y4 y5 y6 y7 y8 y9 y10 y11 y12 y13) (impl_Resume.j0 (k + 1) y0 y1 y2 y3 y4 y5 y6 y7 y8 y9 y10 y11 y12 y13))
 | 0 => fun _ _ _ _ _ _ _ _ _ _ _ _ _ _ r h => by simp [impl_Resume.j0] at h
 | k + 1 => by
  have ih0 := impl_Resume.mono_l k
  ·intro y0 y1 y2 y3 y4 y5 y6 y7 y8 y9 y10 y11 y12 y13
   unfold impl_Resume.j0
   repeat' first
   | (with_reducible exact ih0 _ _ _ _ _ _ _ _ _ _ _ _ _ _)
   | (with_reducible exact impl_NotifyOk.mono _ _ _ _ _ _ _)
   | (with_reducible exact impl_grantAt.mono _ _ _)
   | (with_reducible exact slices_Contains_int_int.mono _ _ _)
   | (with_reducible exact LeO.refl _)
   | (with_reducible exact LeO.none _)
   | (with_reducible refine LeO.ite ?_ ?_)
   | (with_reducible refine LeO.bind ?_ (fun _ => ?_))
theorem impl_Resume.mono : ∀ a0 a1 a2 a3 a4 a5 a6 k, LeO (impl_Resume.f k a0 a1 a2 a3 a4 a5 a6) (impl_Resume.f (k + 1) a0 a1 a2 a3 a4 a5 a6) := by
 intro a0 a1 a2 a3 a4 a5 a6 k
 have ih0 := impl_Resume.mono_l k
 unfold impl_Resume.f
 repeat' first
   | (with_reducible exact ih0 _ _ _ _ _ _ _ _ _ _ _ _ _ _)
   | (with_reducible exact impl_NotifyOk.mono _ _ _ _ _ _ _)
   | (with_reducible exact impl_grantAt.mono _ _ _)
   | (with_reducible exact slices_Contains_int_int.mono _ _ _)
   | (with_reducible exact LeO.refl _)
   | (with_reducible exact LeO.none _)
   | (with_reducible refine LeO.ite ?_ ?_)
   | (with_reducible refine LeO.bind ?_ (fun _ => ?_))
set_option maxHeartbeats 8000000 in
set_option maxRecDepth 100000 in
theorem impl_Resume.calls (k : Nat) (a0_0 : Bool) (A0_1 : Option Addr) (c0_1 : Nat) (l0_1 : List Int) (A0_2 : Option Addr) (c0_2 : Nat) (l0_2 : List (S67)) (a0_3 : Int) (a0_4 : Int) (a0_5 : Int) (a1 : Int) (r1 : Bool) (r2 : List Int) (r3 : List (S67)) (r4 : Int) (r5 : Int) (r6 : Int) (r7 : Int) (w : World) (hr0_1 : Kd.C (Kd.int .i64) w A0_1 l0_1.length l0_1) (hc0_1 : l0_1.length ≤ c0_1) (hr0_2 : Kd.C k67 w A0_2 l0_2.length l0_2) (hc0_2 : l0_2.length ≤ c0_2) (h : impl_Resume.f k a0_0 l0_1 l0_2 a0_3 a0_4 a0_5 a1 = some (r1, r2, r3, r4, r5, r6, r7)) :
  Calls Try.prog 49 #[.agg #[.bool a0_0, .slice A0_1 l0_1.length c0_1, .slice A0_2 l0_2.length c0_2, .int .i64 a0_3, .int .i64 a0_4, .int .i64 a0_5], .int .i64 a1] w fun e w' => ∃ v1_ v2_ : Value, e = .returned (.tuple #[.agg #[.bool r1, v1_, v2_, .int .i64 r4, .int .i64 r5, .int .i64 r6], .int .i64 r7]) ∧ Kd.R (Kd.int .i64) 3 w' w.heap.size (fun _ => True) v1_ r2 ∧ Kd.R k67 67 w' w.heap.size (fun _ => True) v2_ r3 ∧ Below w.heap.size w w' := by
 have hu38 := Try.underlying38
 have HR0_1 := am hr0_1
 have HC0_1 := am hc0_1
 clear hr0_1 hc0_1
 have HR0_2 := am hr0_2
 have HC0_2 := am hc0_2
 clear hr0_2 hc0_2
 have HB := am (Below.refl w.heap.size w)
 have H : ((impl_copyNotify.f a0_0 l0_1 l0_2 a0_3 a0_4 a0_5).bind fun bt1645 => ((impl_grantAt.f k l0_2 a1).bind fun t1656 => ((impl_NotifyOk.f k a0_0 l0_1 l0_2 a0_3 a0_4 a0_5).bind fun t1657 => (if t1657 = true then ((slices_Contains_int_int.f k l0_1 a1).bind fun t1658 => (if t1658 = true then (some (bt1645.1, bt1645.2.1, bt1645.2.2.1, bt1645.2.2.2.1, bt1645.2.2.2.2.1, bt1645.2.2.2.2.2, 4)) else (if t1656 < 0 then (some (bt1645.1, bt1645.2.1, bt1645.2.2.1, bt1645.2.2.2.1, bt1645.2.2.2.2.1, bt1645.2.2.2.2.2, 3)) else (if 0 ≤ t1656 then (if t1656 < (l0_2.length : Int) then (if (rd_T67 l0_2 t1656).f1 = true then (impl_Resume.j0 k t1656 (a0_5 == 1000000000) a0_0 l0_1 l0_2 a0_3 a0_4 a0_5 bt1645.1 bt1645.2.1 bt1645.2.2.1 bt1645.2.2.2.1 bt1645.2.2.2.2.1 bt1645.2.2.2.2.2) else (impl_Resume.j0 k t1656 false a0_0 l0_1 l0_2 a0_3 a0_4 a0_5 bt1645.1 bt1645.2.1 bt1645.2.2.1 bt1645.2.2.2.1 bt1645.2.2.2.2.1 bt1645.2.2.2.2.2)) else (none)) else (none))))) else (some (bt1645.1, bt1645.2.1, bt1645.2.2.1, bt1645.2.2.2.1, bt1645.2.2.2.2.1, bt1645.2.2.2.2.2, 1)))))) = some (r1, r2, r3, r4, r5, r6, r7) := h
 clear h
 replace H := Option.bind_eq_some_iff.mp H
 obtain ⟨⟨t1645, t1646, t1649, t1652, t1653, t1654⟩, A30, H⟩ := H
 replace H : ((impl_grantAt.f k l0_2 a1).bind fun t1656 => ((impl_NotifyOk.f k a0_0 l0_1 l0_2 a0_3 a0_4 a0_5).bind fun t1657 => (if t1657 = true then ((slices_Contains_int_int.f k l0_1 a1).bind fun t1658 => (if t1658 = true then (some (t1645, t1646, t1649, t1652, t1653, t1654, 4)) else (if t1656 < 0 then (some (t1645, t1646, t1649, t1652, t1653, t1654, 3)) else (if 0 ≤ t1656 then (if t1656 < (l0_2.length : Int) then (if (rd_T67 l0_2 t1656).f1 = true then (impl_Resume.j0 k t1656 (a0_5 == 1000000000) a0_0 l0_1 l0_2 a0_3 a0_4 a0_5 t1645 t1646 t1649 t1652 t1653 t1654) else (impl_Resume.j0 k t1656 false a0_0 l0_1 l0_2 a0_3 a0_4 a0_5 t1645 t1646 t1649 t1652 t1653 t1654)) else (none)) else (none))))) else (some (t1645, t1646, t1649, t1652, t1653, t1654, 1))))) = some (r1, r2, r3, r4, r5, r6, r7) := H
 have A3 := am A30
 clear A30
 replace H := Option.bind_eq_some_iff.mp H
 obtain ⟨t1656, A40, H⟩ := H
 replace H : ((impl_NotifyOk.f k a0_0 l0_1 l0_2 a0_3 a0_4 a0_5).bind fun t1657 => (if t1657 = true then ((slices_Contains_int_int.f k l0_1 a1).bind fun t1658 => (if t1658 = true then (some (t1645, t1646, t1649, t1652, t1653, t1654, 4)) else (if t1656 < 0 then (some (t1645, t1646, t1649, t1652, t1653, t1654, 3)) else (if 0 ≤ t1656 then (if t1656 < (l0_2.length : Int) then (if (rd_T67 l0_2 t1656).f1 = true then (impl_Resume.j0 k t1656 (a0_5 == 1000000000) a0_0 l0_1 l0_2 a0_3 a0_4 a0_5 t1645 t1646 t1649 t1652 t1653 t1654) else (impl_Resume.j0 k t1656 false a0_0 l0_1 l0_2 a0_3 a0_4 a0_5 t1645 t1646 t1649 t1652 t1653 t1654)) else (none)) else (none))))) else (some (t1645, t1646, t1649, t1652, t1653, t1654, 1)))) = some (r1, r2, r3, r4, r5, r6, r7) := H
 have A4 := am A40
 clear A40
 replace H := Option.bind_eq_some_iff.mp H
 obtain ⟨t1657, A50, H⟩ := H
 replace H : (if t1657 = true then ((slices_Contains_int_int.f k l0_1 a1).bind fun t1658 => (if t1658 = true then (some (t1645, t1646, t1649, t1652, t1653, t1654, 4)) else (if t1656 < 0 then (some (t1645, t1646, t1649, t1652, t1653, t1654, 3)) else (if 0 ≤ t1656 then (if t1656 < (l0_2.length : Int) then (if (rd_T67 l0_2 t1656).f1 = true then (impl_Resume.j0 k t1656 (a0_5 == 1000000000) a0_0 l0_1 l0_2 a0_3 a0_4 a0_5 t1645 t1646 t1649 t1652 t1653 t1654) else (impl_Resume.j0 k t1656 false a0_0 l0_1 l0_2 a0_3 a0_4 a0_5 t1645 t1646 t1649 t1652 t1653 t1654)) else (none)) else (none))))) else (some (t1645, t1646, t1649, t1652, t1653, t1654, 1))) = some (r1, r2, r3, r4, r5, r6, r7) := H
 have A5 := am A50
 clear A50
 by_cases c6 : t1657 = true
 ·subst c6
  replace H : ((slices_Contains_int_int.f k l0_1 a1).bind fun t1658 => (if t1658 = true then (some (t1645, t1646, t1649, t1652, t1653, t1654, 4)) else (if t1656 < 0 then (some (t1645, t1646, t1649, t1652, t1653, t1654, 3)) else (if 0 ≤ t1656 then (if t1656 < (l0_2.length : Int) then (if (rd_T67 l0_2 t1656).f1 = true then (impl_Resume.j0 k t1656 (a0_5 == 1000000000) a0_0 l0_1 l0_2 a0_3 a0_4 a0_5 t1645 t1646 t1649 t1652 t1653 t1654) else (impl_Resume.j0 k t1656 false a0_0 l0_1 l0_2 a0_3 a0_4 a0_5 t1645 t1646 t1649 t1652 t1653 t1654)) else (none)) else (none))))) = some (r1, r2, r3, r4, r5, r6, r7) := by rw [if_pos rfl] at H; exact H
  replace H := Option.bind_eq_some_iff.mp H
  obtain ⟨t1658, A70, H⟩ := H
  replace H : (if t1658 = true then (some (t1645, t1646, t1649, t1652, t1653, t1654, 4)) else (if t1656 < 0 then (some (t1645, t1646, t1649, t1652, t1653, t1654, 3)) else (if 0 ≤ t1656 then (if t1656 < (l0_2.length : Int) then (if (rd_T67 l0_2 t1656).f1 = true then (impl_Resume.j0 k t1656 (a0_5 == 1000000000) a0_0 l0_1 l0_2 a0_3 a0_4 a0_5 t1645 t1646 t1649 t1652 t1653 t1654) else (impl_Resume.j0 k t1656 false a0_0 l0_1 l0_2 a0_3 a0_4 a0_5 t1645 t1646 t1649 t1652 t1653 t1654)) else (none)) else (none)))) = some (r1, r2, r3, r4, r5, r6, r7) := H
  have A7 := am A70
  clear A70
  by_cases c8 : t1658 = true
  ·subst c8
   replace H : (some (t1645, t1646, t1649, t1652, t1653, t1654, 4)) = some (r1, r2, r3, r4, r5, r6, r7) := by rw [if_pos rfl] at H; exact H
   simp only [Option.some.injEq, Prod.mk.injEq] at H
   obtain ⟨rfl, rfl, rfl, rfl, rfl, rfl, rfl⟩ := H
   go_enter Try.func49, Try.ntmps49
   go_wp2_with (first | ((with_reducible refine gate_dst (N := 2) rfl ?_); refine box_event ?hg (N := 2) ?hd (cs := #[.bool a0_0, .slice A0_1 l0_1.length c0_1, .slice A0_2 l0_2.length c0_2, .int .i64 a0_3, .int .i64 a0_4, .int .i64 a0_5]) (t := 38) ?hr ?_; (case hd => rfl); (case hg => rfl); (case hr => first | (go_simp; done) | (go_simp; rfl)); intro gb1643 hg w9 hbox hb; have BK1643 := am (hbox); have GW1643 := am ((by rw [hg]; exact (below_size (pkB HB.out)) : w.heap.size ≤ gb1643)); have GE1643 := am ((by rw [hg]; exact (below_size (pkB HB.out)) : w.heap.size ≤ gb1643)); replace HB := am (below_step (pkB HB.out) hb); clear hb hbox hg) | ((with_reducible refine gate_dst (N := 4) rfl ?_); refine box_event ?hg (N := 4) ?hd (cs := #[.bool false, .slice none 0 0, .slice none 0 0, .int .i64 0, .int .i64 0, .int .i64 0]) (t := 38) ?hr ?_; (case hd => rfl); (case hg => rfl); (case hr => first | (go_simp; done) | (go_simp; rfl)); intro gb1644 hg w10 hbox hb; have BK1644 := am (hbox); have GW1644 := am ((by rw [hg]; exact (below_size (pkW HB.out)) : w.heap.size ≤ gb1644)); have GE1644 := am ((by rw [hg]; exact (below_size (pkW HB.out)) : w.heap.size ≤ gb1644)); replace HB := am (below_step (pkW HB.out) hb); have NB1643_1644 := am ((by rw [hg]; exact Nat.ne_of_lt (blk_lt (g := gb1643) (o := .cells #[.bool a0_0, .slice A0_1 l0_1.length c0_1, .slice A0_2 l0_2.length c0_2, .int .i64 a0_3, .int .i64 a0_4, .int .i64 a0_5] 38 (0, 0)) (pkK BK1643.out)) : gb1643 ≠ gb1644)); have NB1644_1643 := am ((by rw [hg]; exact Nat.ne_of_gt (blk_lt (g := gb1643) (o := .cells #[.bool a0_0, .slice A0_1 l0_1.length c0_1, .slice A0_2 l0_2.length c0_2, .int .i64 a0_3, .int .i64 a0_4, .int .i64 a0_5] 38 (0, 0)) (pkK BK1643.out)) : gb1644 ≠ gb1643)); replace BK1643 := am (blk_below (pkK BK1643.out) hb); clear hb hbox hg; have hnb11 := NB1643_1644.out; have hnc11 := NB1644_1643.out; obtain ⟨hcz12_0, hcz12_1, hcz12_2, hcz12_3, hcz12_4, hcz12_5, hfz12_0, hfz12_1, hfz12_2, hfz12_3, hfz12_4, hfz12_5⟩ := bk6 BK1643.out) | ((with_reducible refine gate_callee (f := 71) rfl ?_); refine goesL_ (some 9) rfl rfl Try.func71 (by kernel_rfl) rfl #[.agg #[.bool a0_0, .slice A0_1 l0_1.length c0_1, .slice A0_2 l0_2.length c0_2, .int .i64 a0_3, .int .i64 a0_4, .int .i64 a0_5]] rfl mpx ?_; (with_reducible refine (impl_copyNotify.calls a0_0 _ _ l0_1 _ _ l0_2 a0_3 a0_4 a0_5 t1645 t1646 t1649 t1652 t1653 t1654 _ ?side1 ?side2 ?side3 ?side4 A3.out).mono ?_); (case side1 => exact pkC (Kd.C_below HR0_1.out HB.out)); (case side2 => exact HC0_1.out); (case side3 => exact pkC (Kd.C_below HR0_2.out HB.out)); (case side4 => exact HC0_2.out); rintro e w13 ⟨v1647, v1650, rfl, ho0, ho1, hb⟩; refine ⟨_, rfl, ?_⟩; have HO1648 := am (Kd.R_lower ho0 (below_size (pkW HB.out))); have HO1651 := am (Kd.R_lower ho1 (below_size (pkW HB.out))); replace BK1643 := am (blk_below (pkK BK1643.out) hb); replace BK1644 := am (blk_below (pkK BK1644.out) hb); replace HB := am (below_step (pkW HB.out) hb); (try clear hb ho0 ho1)) | ((with_reducible refine gate_dst (N := 6) rfl ?_); refine box_event ?hg (N := 6) ?hd (cs := #[.bool false, .slice none 0 0, .slice none 0 0, .int .i64 0, .int .i64 0, .int .i64 0]) (t := 38) ?hr ?_; (case hd => rfl); (case hg => rfl); (case hr => first | (go_simp; done) | (go_simp; rfl)); intro gb1655 hg w14 hbox hb; replace HO1648 := am (Kd.R_below (pkR HO1648.out) hb); replace HO1651 := am (Kd.R_below (pkR HO1651.out) hb); have BK1655 := am (hbox); have GW1655 := am ((by rw [hg]; exact (below_size (pkW HB.out)) : w.heap.size ≤ gb1655)); have GE1655 := am ((by rw [hg]; exact (below_size (pkW HB.out)) : w.heap.size ≤ gb1655)); replace HB := am (below_step (pkW HB.out) hb); have NB1643_1655 := am ((by rw [hg]; exact Nat.ne_of_lt (blk_lt (g := gb1643) (o := .cells #[.bool a0_0, .slice A0_1 l0_1.length c0_1, .slice A0_2 l0_2.length c0_2, .int .i64 a0_3, .int .i64 a0_4, .int .i64 a0_5] 38 (0, 0)) (pkK BK1643.out)) : gb1643 ≠ gb1655)); have NB1655_1643 := am ((by rw [hg]; exact Nat.ne_of_gt (blk_lt (g := gb1643) (o := .cells #[.bool a0_0, .slice A0_1 l0_1.length c0_1, .slice A0_2 l0_2.length c0_2, .int .i64 a0_3, .int .i64 a0_4, .int .i64 a0_5] 38 (0, 0)) (pkK BK1643.out)) : gb1655 ≠ gb1643)); replace BK1643 := am (blk_below (pkK BK1643.out) hb); have NB1644_1655 := am ((by rw [hg]; exact Nat.ne_of_lt (blk_lt (g := gb1644) (o := .cells #[.bool false, .slice none 0 0, .slice none 0 0, .int .i64 0, .int .i64 0, .int .i64 0] 38 (0, 0)) (pkK BK1644.out)) : gb1644 ≠ gb1655)); have NB1655_1644 := am ((by rw [hg]; exact Nat.ne_of_gt (blk_lt (g := gb1644) (o := .cells #[.bool false, .slice none 0 0, .slice none 0 0, .int .i64 0, .int .i64 0, .int .i64 0] 38 (0, 0)) (pkK BK1644.out)) : gb1655 ≠ gb1644)); replace BK1644 := am (blk_below (pkK BK1644.out) hb); clear hb hbox hg; have hnb15 := NB1655_1643.out; have hnc15 := NB1643_1655.out; have hnb16 := NB1655_1644.out; have hnc16 := NB1644_1655.out; obtain ⟨hcz17_0, hcz17_1, hcz17_2, hcz17_3, hcz17_4, hcz17_5, hfz17_0, hfz17_1, hfz17_2, hfz17_3, hfz17_4, hfz17_5⟩ := bk6 BK1655.out; obtain ⟨Ao18, co18, eo18⟩ := Kd.R_slice HO1648.out; subst eo18; obtain ⟨Ao19, co19, eo19⟩ := Kd.R_slice HO1651.out; subst eo19; obtain ⟨hcz20_0, hcz20_1, hcz20_2, hcz20_3, hcz20_4, hcz20_5, hfz20_0, hfz20_1, hfz20_2, hfz20_3, hfz20_4, hfz20_5⟩ := bk6 BK1643.out) | ((with_reducible refine gate_callee (f := 78) rfl ?_); refine goesL_ (some 13) rfl rfl Try.func78 (by kernel_rfl) rfl #[.slice A0_2 l0_2.length c0_2, .int .i64 a1] rfl mpx ?_; (with_reducible refine (impl_grantAt.calls k _ _ l0_2 a1 t1656 _ ?side1 ?side2 A4.out).mono ?_); (case side1 => exact Kd.C_below HR0_2.out (pkW HB.out)); (case side2 => exact HC0_2.out); rintro e w21 ⟨rfl, hb⟩; refine ⟨_, rfl, ?_⟩; replace HO1648 := am (Kd.R_below (by (with_reducible repeat (first | apply Kd.R_alloc | apply Kd.R_drewN | apply Kd.R_drew)); exact (Kd.R_mono (Kd.R_far (p := ⟨gb1655, 5, none⟩) (Kd.R_far (p := ⟨gb1655, 4, none⟩) (Kd.R_far (p := ⟨gb1655, 3, none⟩) (Kd.R_far (p := ⟨gb1655, 2, none⟩) (Kd.R_far (p := ⟨gb1655, 1, none⟩) (Kd.R_far (p := ⟨gb1655, 0, none⟩) (Kd.R_types HO1648.out BK1655.out (by decide)) (fun _ hk => hk.2) (.bool t1645)) (fun _ hk => hk.2) (.slice Ao18 t1646.length co18)) (fun _ hk => hk.2) (.slice Ao19 t1649.length co19)) (fun _ hk => hk.2) (.int .i64 t1652)) (fun _ hk => hk.2) (.int .i64 t1653)) (fun _ hk => hk.2) (.int .i64 t1654)) (fun _ h_ => h_.1))) hb); replace HO1651 := am (Kd.R_below (by (with_reducible repeat (first | apply Kd.R_alloc | apply Kd.R_drewN | apply Kd.R_drew)); exact (Kd.R_mono (Kd.R_far (p := ⟨gb1655, 5, none⟩) (Kd.R_far (p := ⟨gb1655, 4, none⟩) (Kd.R_far (p := ⟨gb1655, 3, none⟩) (Kd.R_far (p := ⟨gb1655, 2, none⟩) (Kd.R_far (p := ⟨gb1655, 1, none⟩) (Kd.R_far (p := ⟨gb1655, 0, none⟩) (Kd.R_types HO1651.out BK1655.out (by decide)) (fun _ hk => hk.2) (.bool t1645)) (fun _ hk => hk.2) (.slice Ao18 t1646.length co18)) (fun _ hk => hk.2) (.slice Ao19 t1649.length co19)) (fun _ hk => hk.2) (.int .i64 t1652)) (fun _ hk => hk.2) (.int .i64 t1653)) (fun _ hk => hk.2) (.int .i64 t1654)) (fun _ h_ => h_.1))) hb); replace BK1643 := am (blk_below (g := gb1643) (o := .cells #[.bool a0_0, .slice A0_1 l0_1.length c0_1, .slice A0_2 l0_2.length c0_2, .int .i64 a0_3, .int .i64 a0_4, .int .i64 a0_5] 38 (0, 0)) (by (with_reducible repeat (first | refine blk_drewN ?_ _ | refine blk_drew ?_ | refine blk_alloc ?_ _)); refine blk_far ?_ NB1643_1655.out _; (with_reducible repeat (first | refine blk_drewN ?_ _ | refine blk_drew ?_ | refine blk_alloc ?_ _)); refine blk_far ?_ NB1643_1655.out _; (with_reducible repeat (first | refine blk_drewN ?_ _ | refine blk_drew ?_ | refine blk_alloc ?_ _)); refine blk_far ?_ NB1643_1655.out _; (with_reducible repeat (first | refine blk_drewN ?_ _ | refine blk_drew ?_ | refine blk_alloc ?_ _)); refine blk_far ?_ NB1643_1655.out _; (with_reducible repeat (first | refine blk_drewN ?_ _ | refine blk_drew ?_ | refine blk_alloc ?_ _)); refine blk_far ?_ NB1643_1655.out _; (with_reducible repeat (first | refine blk_drewN ?_ _ | refine blk_drew ?_ | refine blk_alloc ?_ _)); refine blk_far ?_ NB1643_1655.out _; exact pkK BK1643.out) hb); replace BK1644 := am (blk_below (g := gb1644) (o := .cells #[.bool false, .slice none 0 0, .slice none 0 0, .int .i64 0, .int .i64 0, .int .i64 0] 38 (0, 0)) (by (with_reducible repeat (first | refine blk_drewN ?_ _ | refine blk_drew ?_ | refine blk_alloc ?_ _)); refine blk_far ?_ NB1644_1655.out _; (with_reducible repeat (first | refine blk_drewN ?_ _ | refine blk_drew ?_ | refine blk_alloc ?_ _)); refine blk_far ?_ NB1644_1655.out _; (with_reducible repeat (first | refine blk_drewN ?_ _ | refine blk_drew ?_ | refine blk_alloc ?_ _)); refine blk_far ?_ NB1644_1655.out _; (with_reducible repeat (first | refine blk_drewN ?_ _ | refine blk_drew ?_ | refine blk_alloc ?_ _)); refine blk_far ?_ NB1644_1655.out _; (with_reducible repeat (first | refine blk_drewN ?_ _ | refine blk_drew ?_ | refine blk_alloc ?_ _)); refine blk_far ?_ NB1644_1655.out _; (with_reducible repeat (first | refine blk_drewN ?_ _ | refine blk_drew ?_ | refine blk_alloc ?_ _)); refine blk_far ?_ NB1644_1655.out _; exact pkK BK1644.out) hb); replace BK1655 := am (blk_below (g := gb1655) (o := .cells #[.bool t1645, .slice Ao18 t1646.length co18, .slice Ao19 t1649.length co19, .int .i64 t1652, .int .i64 t1653, .int .i64 t1654] 38 (0, 0)) (by (with_reducible repeat (first | refine blk_drewN ?_ _ | refine blk_drew ?_ | refine blk_alloc ?_ _)); refine blk_put (cs := #[.bool t1645, .slice Ao18 t1646.length co18, .slice Ao19 t1649.length co19, .int .i64 t1652, .int .i64 t1653, .int .i64 0]) ?_ 5 _ rfl; (with_reducible repeat (first | refine blk_drewN ?_ _ | refine blk_drew ?_ | refine blk_alloc ?_ _)); refine blk_put (cs := #[.bool t1645, .slice Ao18 t1646.length co18, .slice Ao19 t1649.length co19, .int .i64 t1652, .int .i64 0, .int .i64 0]) ?_ 4 _ rfl; (with_reducible repeat (first | refine blk_drewN ?_ _ | refine blk_drew ?_ | refine blk_alloc ?_ _)); refine blk_put (cs := #[.bool t1645, .slice Ao18 t1646.length co18, .slice Ao19 t1649.length co19, .int .i64 0, .int .i64 0, .int .i64 0]) ?_ 3 _ rfl; (with_reducible repeat (first | refine blk_drewN ?_ _ | refine blk_drew ?_ | refine blk_alloc ?_ _)); refine blk_put (cs := #[.bool t1645, .slice Ao18 t1646.length co18, .slice none 0 0, .int .i64 0, .int .i64 0, .int .i64 0]) ?_ 2 _ rfl; (with_reducible repeat (first | refine blk_drewN ?_ _ | refine blk_drew ?_ | refine blk_alloc ?_ _)); refine blk_put (cs := #[.bool t1645, .slice none 0 0, .slice none 0 0, .int .i64 0, .int .i64 0, .int .i64 0]) ?_ 1 _ rfl; (with_reducible repeat (first | refine blk_drewN ?_ _ | refine blk_drew ?_ | refine blk_alloc ?_ _)); refine blk_put (cs := #[.bool false, .slice none 0 0, .slice none 0 0, .int .i64 0, .int .i64 0, .int .i64 0]) ?_ 0 _ rfl; exact pkK BK1655.out) hb); replace HB := am (below_step (pkW HB.out) hb); (try clear hb); obtain ⟨hcz22_0, hcz22_1, hcz22_2, hcz22_3, hcz22_4, hcz22_5, hfz22_0, hfz22_1, hfz22_2, hfz22_3, hfz22_4, hfz22_5⟩ := bk6 BK1643.out) | ((with_reducible refine gate_callee (f := 22) rfl ?_); refine goesL_ (some 16) rfl rfl Try.func22 (by kernel_rfl) rfl #[.agg #[.bool a0_0, .slice A0_1 l0_1.length c0_1, .slice A0_2 l0_2.length c0_2, .int .i64 a0_3, .int .i64 a0_4, .int .i64 a0_5]] rfl mpx ?_; (with_reducible refine (impl_NotifyOk.calls k a0_0 _ _ l0_1 _ _ l0_2 a0_3 a0_4 a0_5 true _ ?side1 ?side2 ?side3 ?side4 A5.out).mono ?_); (case side1 => exact pkC (Kd.C_below HR0_1.out HB.out)); (case side2 => exact HC0_1.out); (case side3 => exact pkC (Kd.C_below HR0_2.out HB.out)); (case side4 => exact HC0_2.out); rintro e w23 ⟨rfl, hb⟩; refine ⟨_, rfl, ?_⟩; replace HO1648 := am (Kd.R_below (pkR HO1648.out) hb); replace HO1651 := am (Kd.R_below (pkR HO1651.out) hb); replace BK1643 := am (blk_below (pkK BK1643.out) hb); replace BK1644 := am (blk_below (pkK BK1644.out) hb); replace BK1655 := am (blk_below (pkK BK1655.out) hb); replace HB := am (below_step (pkW HB.out) hb); (try clear hb); obtain ⟨hcz24_0, hcz24_1, hcz24_2, hcz24_3, hcz24_4, hcz24_5, hfz24_0, hfz24_1, hfz24_2, hfz24_3, hfz24_4, hfz24_5⟩ := bk6 BK1643.out) | ((with_reducible refine gate_callee (f := 66) rfl ?_); refine goesL_ (some 23) rfl rfl Try.func66 (by kernel_rfl) rfl #[.slice A0_1 l0_1.length c0_1, .int .i64 a1] rfl mpx ?_; (with_reducible refine (slices_Contains_int_int.calls k _ _ l0_1 a1 true _ ?side1 ?side2 A7.out).mono ?_); (case side1 => exact pkC (Kd.C_below HR0_1.out HB.out)); (case side2 => exact HC0_1.out); rintro e w' ⟨rfl, ⟨nd, rfl⟩⟩; refine ⟨_, rfl, ?_⟩; (try (rw [drewN_self w23]; generalize hq_ : World.drewN w23 _ = w23; replace HO1648 : Aside0 (Kd.R (Kd.int .i64) 3 w23 w.heap.size (fun _ => True) (.slice Ao18 t1646.length co18) t1646) := ⟨by rw [← hq_]; exact (pkR HO1648.out)⟩; replace HO1651 : Aside0 (Kd.R k67 67 w23 w.heap.size (fun _ => True) (.slice Ao19 t1649.length co19) t1649) := ⟨by rw [← hq_]; exact (pkR HO1651.out)⟩; replace BK1643 : Aside0 (w23.heap[gb1643]? = some (.cells #[.bool a0_0, .slice A0_1 l0_1.length c0_1, .slice A0_2 l0_2.length c0_2, .int .i64 a0_3, .int .i64 a0_4, .int .i64 a0_5] 38 (0, 0))) := ⟨by rw [← hq_]; exact (pkK BK1643.out)⟩; replace BK1644 : Aside0 (w23.heap[gb1644]? = some (.cells #[.bool false, .slice none 0 0, .slice none 0 0, .int .i64 0, .int .i64 0, .int .i64 0] 38 (0, 0))) := ⟨by rw [← hq_]; exact (pkK BK1644.out)⟩; replace BK1655 : Aside0 (w23.heap[gb1655]? = some (.cells #[.bool t1645, .slice Ao18 t1646.length co18, .slice Ao19 t1649.length co19, .int .i64 t1652, .int .i64 t1653, .int .i64 t1654] 38 (0, 0))) := ⟨by rw [← hq_]; exact (pkK BK1655.out)⟩; replace HB : Aside0 (Below w.heap.size w w23) := ⟨by rw [← hq_]; exact (pkW HB.out)⟩; clear hq_)); obtain ⟨hcz25_0, hcz25_1, hcz25_2, hcz25_3, hcz25_4, hcz25_5, hfz25_0, hfz25_1, hfz25_2, hfz25_3, hfz25_4, hfz25_5⟩ := bk6 BK1655.out; obtain ⟨hcz26_0, hcz26_1, hcz26_2, hcz26_3, hcz26_4, hcz26_5, hfz26_0, hfz26_1, hfz26_2, hfz26_3, hfz26_4, hfz26_5⟩ := bk6 BK1644.out))
   refine bodyPost_ret (results_ct rfl _ _ gb1644 38 #[.bool t1645, .slice Ao18 t1646.length co18, .slice Ao19 t1649.length co19, .int .i64 t1652, .int .i64 t1653, .int .i64 t1654] (0, 0) _ rfl (by (with_reducible repeat (first | refine blk_drewN ?_ _ | refine blk_drew ?_ | refine blk_alloc ?_ _)); refine blk_put (cs := #[.bool t1645, .slice Ao18 t1646.length co18, .slice Ao19 t1649.length co19, .int .i64 t1652, .int .i64 t1653, .int .i64 0]) ?_ 5 _ rfl; (with_reducible repeat (first | refine blk_drewN ?_ _ | refine blk_drew ?_ | refine blk_alloc ?_ _)); refine blk_put (cs := #[.bool t1645, .slice Ao18 t1646.length co18, .slice Ao19 t1649.length co19, .int .i64 t1652, .int .i64 0, .int .i64 0]) ?_ 4 _ rfl; (with_reducible repeat (first | refine blk_drewN ?_ _ | refine blk_drew ?_ | refine blk_alloc ?_ _)); refine blk_put (cs := #[.bool t1645, .slice Ao18 t1646.length co18, .slice Ao19 t1649.length co19, .int .i64 0, .int .i64 0, .int .i64 0]) ?_ 3 _ rfl; (with_reducible repeat (first | refine blk_drewN ?_ _ | refine blk_drew ?_ | refine blk_alloc ?_ _)); refine blk_put (cs := #[.bool t1645, .slice Ao18 t1646.length co18, .slice none 0 0, .int .i64 0, .int .i64 0, .int .i64 0]) ?_ 2 _ rfl; (with_reducible repeat (first | refine blk_drewN ?_ _ | refine blk_drew ?_ | refine blk_alloc ?_ _)); refine blk_put (cs := #[.bool t1645, .slice none 0 0, .slice none 0 0, .int .i64 0, .int .i64 0, .int .i64 0]) ?_ 1 _ rfl; (with_reducible repeat (first | refine blk_drewN ?_ _ | refine blk_drew ?_ | refine blk_alloc ?_ _)); refine blk_put (cs := #[.bool false, .slice none 0 0, .slice none 0 0, .int .i64 0, .int .i64 0, .int .i64 0]) ?_ 0 _ rfl; exact pkK BK1644.out) Try.underlying38 rfl (by kernel_rfl)) rfl ?_
   exact ⟨_, _, rfe, by (with_reducible repeat (first | apply Kd.R_alloc | apply Kd.R_drewN | apply Kd.R_drew)); exact Kd.R_mono (Kd.R_far (p := ⟨gb1644, 5, none⟩) (Kd.R_far (p := ⟨gb1644, 4, none⟩) (Kd.R_far (p := ⟨gb1644, 3, none⟩) (Kd.R_far (p := ⟨gb1644, 2, none⟩) (Kd.R_far (p := ⟨gb1644, 1, none⟩) (Kd.R_far (p := ⟨gb1644, 0, none⟩) (Kd.R_types HO1648.out BK1644.out (by decide)) (fun _ hk => hk.2) (.bool t1645)) (fun _ hk => hk.2) (.slice Ao18 t1646.length co18)) (fun _ hk => hk.2) (.slice Ao19 t1649.length co19)) (fun _ hk => hk.2) (.int .i64 t1652)) (fun _ hk => hk.2) (.int .i64 t1653)) (fun _ hk => hk.2) (.int .i64 t1654)) (fun _ hk => trivial), by (with_reducible repeat (first | apply Kd.R_alloc | apply Kd.R_drewN | apply Kd.R_drew)); exact Kd.R_mono (Kd.R_far (p := ⟨gb1644, 5, none⟩) (Kd.R_far (p := ⟨gb1644, 4, none⟩) (Kd.R_far (p := ⟨gb1644, 3, none⟩) (Kd.R_far (p := ⟨gb1644, 2, none⟩) (Kd.R_far (p := ⟨gb1644, 1, none⟩) (Kd.R_far (p := ⟨gb1644, 0, none⟩) (Kd.R_types HO1651.out BK1644.out (by decide)) (fun _ hk => hk.2) (.bool t1645)) (fun _ hk => hk.2) (.slice Ao18 t1646.length co18)) (fun _ hk => hk.2) (.slice Ao19 t1649.length co19)) (fun _ hk => hk.2) (.int .i64 t1652)) (fun _ hk => hk.2) (.int .i64 t1653)) (fun _ hk => hk.2) (.int .i64 t1654)) (fun _ hk => trivial), pkW HB.out⟩
  ·replace c8 := Bool.eq_false_iff.mpr c8
   subst c8
   replace H : (if t1656 < 0 then (some (t1645, t1646, t1649, t1652, t1653, t1654, 3)) else (if 0 ≤ t1656 then (if t1656 < (l0_2.length : Int) then (if (rd_T67 l0_2 t1656).f1 = true then (impl_Resume.j0 k t1656 (a0_5 == 1000000000) a0_0 l0_1 l0_2 a0_3 a0_4 a0_5 t1645 t1646 t1649 t1652 t1653 t1654) else (impl_Resume.j0 k t1656 false a0_0 l0_1 l0_2 a0_3 a0_4 a0_5 t1645 t1646 t1649 t1652 t1653 t1654)) else (none)) else (none))) = some (r1, r2, r3, r4, r5, r6, r7) := by rw [if_neg (show ¬ (false = true) by decide)] at H; exact H
   by_cases c27 : t1656 < 0
   ·rw [if_pos c27] at H
    have c27b0 : decide (t1656 < 0) = true := decide_eq_true c27
    clear c27
    simp only [Option.some.injEq, Prod.mk.injEq] at H
    obtain ⟨rfl, rfl, rfl, rfl, rfl, rfl, rfl⟩ := H
    go_enter Try.func49, Try.ntmps49
    go_wp2_with (first | ((with_reducible refine gate_dst (N := 2) rfl ?_); refine box_event ?hg (N := 2) ?hd (cs := #[.bool a0_0, .slice A0_1 l0_1.length c0_1, .slice A0_2 l0_2.length c0_2, .int .i64 a0_3, .int .i64 a0_4, .int .i64 a0_5]) (t := 38) ?hr ?_; (case hd => rfl); (case hg => rfl); (case hr => first | (go_simp; done) | (go_simp; rfl)); intro gb1643 hg w28 hbox hb; have BK1643 := am (hbox); have GW1643 := am ((by rw [hg]; exact (below_size (pkB HB.out)) : w.heap.size ≤ gb1643)); have GE1643 := am ((by rw [hg]; exact (below_size (pkB HB.out)) : w.heap.size ≤ gb1643)); replace HB := am (below_step (pkB HB.out) hb); clear hb hbox hg) | ((with_reducible refine gate_dst (N := 4) rfl ?_); refine box_event ?hg (N := 4) ?hd (cs := #[.bool false, .slice none 0 0, .slice none 0 0, .int .i64 0, .int .i64 0, .int .i64 0]) (t := 38) ?hr ?_; (case hd => rfl); (case hg => rfl); (case hr => first | (go_simp; done) | (go_simp; rfl)); intro gb1644 hg w29 hbox hb; have BK1644 := am (hbox); have GW1644 := am ((by rw [hg]; exact (below_size (pkW HB.out)) : w.heap.size ≤ gb1644)); have GE1644 := am ((by rw [hg]; exact (below_size (pkW HB.out)) : w.heap.size ≤ gb1644)); replace HB := am (below_step (pkW HB.out) hb); have NB1643_1644 := am ((by rw [hg]; exact Nat.ne_of_lt (blk_lt (g := gb1643) (o := .cells #[.bool a0_0, .slice A0_1 l0_1.length c0_1, .slice A0_2 l0_2.length c0_2, .int .i64 a0_3, .int .i64 a0_4, .int .i64 a0_5] 38 (0, 0)) (pkK BK1643.out)) : gb1643 ≠ gb1644)); have NB1644_1643 := am ((by rw [hg]; exact Nat.ne_of_gt (blk_lt (g := gb1643) (o := .cells #[.bool a0_0, .slice A0_1 l0_1.length c0_1, .slice A0_2 l0_2.length c0_2, .int .i64 a0_3, .int .i64 a0_4, .int .i64 a0_5] 38 (0, 0)) (pkK BK1643.out)) : gb1644 ≠ gb1643)); replace BK1643 := am (blk_below (pkK BK1643.out) hb); clear hb hbox hg; have hnb30 := NB1643_1644.out; have hnc30 := NB1644_1643.out; obtain ⟨hcz31_0, hcz31_1, hcz31_2, hcz31_3, hcz31_4, hcz31_5, hfz31_0, hfz31_1, hfz31_2, hfz31_3, hfz31_4, hfz31_5⟩ := bk6 BK1643.out) | ((with_reducible refine gate_callee (f := 71) rfl ?_); refine goesL_ (some 9) rfl rfl Try.func71 (by kernel_rfl) rfl #[.agg #[.bool a0_0, .slice A0_1 l0_1.length c0_1, .slice A0_2 l0_2.length c0_2, .int .i64 a0_3, .int .i64 a0_4, .int .i64 a0_5]] rfl mpx ?_; (with_reducible refine (impl_copyNotify.calls a0_0 _ _ l0_1 _ _ l0_2 a0_3 a0_4 a0_5 t1645 t1646 t1649 t1652 t1653 t1654 _ ?side1 ?side2 ?side3 ?side4 A3.out).mono ?_); (case side1 => exact pkC (Kd.C_below HR0_1.out HB.out)); (case side2 => exact HC0_1.out); (case side3 => exact pkC (Kd.C_below HR0_2.out HB.out)); (case side4 => exact HC0_2.out); rintro e w32 ⟨v1647, v1650, rfl, ho0, ho1, hb⟩; refine ⟨_, rfl, ?_⟩; have HO1648 := am (Kd.R_lower ho0 (below_size (pkW HB.out))); have HO1651 := am (Kd.R_lower ho1 (below_size (pkW HB.out))); replace BK1643 := am (blk_below (pkK BK1643.out) hb); replace BK1644 := am (blk_below (pkK BK1644.out) hb); replace HB := am (below_step (pkW HB.out) hb); (try clear hb ho0 ho1)) | ((with_reducible refine gate_dst (N := 6) rfl ?_); refine box_event ?hg (N := 6) ?hd (cs := #[.bool false, .slice none 0 0, .slice none 0 0, .int .i64 0, .int .i64 0, .int .i64 0]) (t := 38) ?hr ?_; (case hd => rfl); (case hg => rfl); (case hr => first | (go_simp; done) | (go_simp; rfl)); intro gb1655 hg w33 hbox hb; replace HO1648 := am (Kd.R_below (pkR HO1648.out) hb); replace HO1651 := am (Kd.R_below (pkR HO1651.out) hb); have BK1655 := am (hbox); have GW1655 := am ((by rw [hg]; exact (below_size (pkW HB.out)) : w.heap.size ≤ gb1655)); have GE1655 := am ((by rw [hg]; exact (below_size (pkW HB.out)) : w.heap.size ≤ gb1655)); replace HB := am (below_step (pkW HB.out) hb); have NB1643_1655 := am ((by rw [hg]; exact Nat.ne_of_lt (blk_lt (g := gb1643) (o := .cells #[.bool a0_0, .slice A0_1 l0_1.length c0_1, .slice A0_2 l0_2.length c0_2, .int .i64 a0_3, .int .i64 a0_4, .int .i64 a0_5] 38 (0, 0)) (pkK BK1643.out)) : gb1643 ≠ gb1655)); have NB1655_1643 := am ((by rw [hg]; exact Nat.ne_of_gt (blk_lt (g := gb1643) (o := .cells #[.bool a0_0, .slice A0_1 l0_1.length c0_1, .slice A0_2 l0_2.length c0_2, .int .i64 a0_3, .int .i64 a0_4, .int .i64 a0_5] 38 (0, 0)) (pkK BK1643.out)) : gb1655 ≠ gb1643)); replace BK1643 := am (blk_below (pkK BK1643.out) hb); have NB1644_1655 := am ((by rw [hg]; exact Nat.ne_of_lt (blk_lt (g := gb1644) (o := .cells #[.bool false, .slice none 0 0, .slice none 0 0, .int .i64 0, .int .i64 0, .int .i64 0] 38 (0, 0)) (pkK BK1644.out)) : gb1644 ≠ gb1655)); have NB1655_1644 := am ((by rw [hg]; exact Nat.ne_of_gt (blk_lt (g := gb1644) (o := .cells #[.bool false, .slice none 0 0, .slice none 0 0, .int .i64 0, .int .i64 0, .int .i64 0] 38 (0, 0)) (pkK BK1644.out)) : gb1655 ≠ gb1644)); replace BK1644 := am (blk_below (pkK BK1644.out) hb); clear hb hbox hg; have hnb34 := NB1655_1643.out; have hnc34 := NB1643_1655.out; have hnb35 := NB1655_1644.out; have hnc35 := NB1644_1655.out; obtain ⟨hcz36_0, hcz36_1, hcz36_2, hcz36_3, hcz36_4, hcz36_5, hfz36_0, hfz36_1, hfz36_2, hfz36_3, hfz36_4, hfz36_5⟩ := bk6 BK1655.out; obtain ⟨Ao37, co37, eo37⟩ := Kd.R_slice HO1648.out; subst eo37; obtain ⟨Ao38, co38, eo38⟩ := Kd.R_slice HO1651.out; subst eo38; obtain ⟨hcz39_0, hcz39_1, hcz39_2, hcz39_3, hcz39_4, hcz39_5, hfz39_0, hfz39_1, hfz39_2, hfz39_3, hfz39_4, hfz39_5⟩ := bk6 BK1643.out) | ((with_reducible refine gate_callee (f := 78) rfl ?_); refine goesL_ (some 13) rfl rfl Try.func78 (by kernel_rfl) rfl #[.slice A0_2 l0_2.length c0_2, .int .i64 a1] rfl mpx ?_; (with_reducible refine (impl_grantAt.calls k _ _ l0_2 a1 t1656 _ ?side1 ?side2 A4.out).mono ?_); (case side1 => exact Kd.C_below HR0_2.out (pkW HB.out)); (case side2 => exact HC0_2.out); rintro e w40 ⟨rfl, hb⟩; refine ⟨_, rfl, ?_⟩; replace HO1648 := am (Kd.R_below (by (with_reducible repeat (first | apply Kd.R_alloc | apply Kd.R_drewN | apply Kd.R_drew)); exact (Kd.R_mono (Kd.R_far (p := ⟨gb1655, 5, none⟩) (Kd.R_far (p := ⟨gb1655, 4, none⟩) (Kd.R_far (p := ⟨gb1655, 3, none⟩) (Kd.R_far (p := ⟨gb1655, 2, none⟩) (Kd.R_far (p := ⟨gb1655, 1, none⟩) (Kd.R_far (p := ⟨gb1655, 0, none⟩) (Kd.R_types HO1648.out BK1655.out (by decide)) (fun _ hk => hk.2) (.bool t1645)) (fun _ hk => hk.2) (.slice Ao37 t1646.length co37)) (fun _ hk => hk.2) (.slice Ao38 t1649.length co38)) (fun _ hk => hk.2) (.int .i64 t1652)) (fun _ hk => hk.2) (.int .i64 t1653)) (fun _ hk => hk.2) (.int .i64 t1654)) (fun _ h_ => h_.1))) hb); replace HO1651 := am (Kd.R_below (by (with_reducible repeat (first | apply Kd.R_alloc | apply Kd.R_drewN | apply Kd.R_drew)); exact (Kd.R_mono (Kd.R_far (p := ⟨gb1655, 5, none⟩) (Kd.R_far (p := ⟨gb1655, 4, none⟩) (Kd.R_far (p := ⟨gb1655, 3, none⟩) (Kd.R_far (p := ⟨gb1655, 2, none⟩) (Kd.R_far (p := ⟨gb1655, 1, none⟩) (Kd.R_far (p := ⟨gb1655, 0, none⟩) (Kd.R_types HO1651.out BK1655.out (by decide)) (fun _ hk => hk.2) (.bool t1645)) (fun _ hk => hk.2) (.slice Ao37 t1646.length co37)) (fun _ hk => hk.2) (.slice Ao38 t1649.length co38)) (fun _ hk => hk.2) (.int .i64 t1652)) (fun _ hk => hk.2) (.int .i64 t1653)) (fun _ hk => hk.2) (.int .i64 t1654)) (fun _ h_ => h_.1))) hb); replace BK1643 := am (blk_below (g := gb1643) (o := .cells #[.bool a0_0, .slice A0_1 l0_1.length c0_1, .slice A0_2 l0_2.length c0_2, .int .i64 a0_3, .int .i64 a0_4, .int .i64 a0_5] 38 (0, 0)) (by (with_reducible repeat (first | refine blk_drewN ?_ _ | refine blk_drew ?_ | refine blk_alloc ?_ _)); refine blk_far ?_ NB1643_1655.out _; (with_reducible repeat (first | refine blk_drewN ?_ _ | refine blk_drew ?_ | refine blk_alloc ?_ _)); refine blk_far ?_ NB1643_1655.out _; (with_reducible repeat (first | refine blk_drewN ?_ _ | refine blk_drew ?_ | refine blk_alloc ?_ _)); refine blk_far ?_ NB1643_1655.out _; (with_reducible repeat (first | refine blk_drewN ?_ _ | refine blk_drew ?_ | refine blk_alloc ?_ _)); refine blk_far ?_ NB1643_1655.out _; (with_reducible repeat (first | refine blk_drewN ?_ _ | refine blk_drew ?_ | refine blk_alloc ?_ _)); refine blk_far ?_ NB1643_1655.out _; (with_reducible repeat (first | refine blk_drewN ?_ _ | refine blk_drew ?_ | refine blk_alloc ?_ _)); refine blk_far ?_ NB1643_1655.out _; exact pkK BK1643.out) hb); replace BK1644 := am (blk_below (g := gb1644) (o := .cells #[.bool false, .slice none 0 0, .slice none 0 0, .int .i64 0, .int .i64 0, .int .i64 0] 38 (0, 0)) (by (with_reducible repeat (first | refine blk_drewN ?_ _ | refine blk_drew ?_ | refine blk_alloc ?_ _)); refine blk_far ?_ NB1644_1655.out _; (with_reducible repeat (first | refine blk_drewN ?_ _ | refine blk_drew ?_ | refine blk_alloc ?_ _)); refine blk_far ?_ NB1644_1655.out _; (with_reducible repeat (first | refine blk_drewN ?_ _ | refine blk_drew ?_ | refine blk_alloc ?_ _)); refine blk_far ?_ NB1644_1655.out _; (with_reducible repeat (first | refine blk_drewN ?_ _ | refine blk_drew ?_ | refine blk_alloc ?_ _)); refine blk_far ?_ NB1644_1655.out _; (with_reducible repeat (first | refine blk_drewN ?_ _ | refine blk_drew ?_ | refine blk_alloc ?_ _)); refine blk_far ?_ NB1644_1655.out _; (with_reducible repeat (first | refine blk_drewN ?_ _ | refine blk_drew ?_ | refine blk_alloc ?_ _)); refine blk_far ?_ NB1644_1655.out _; exact pkK BK1644.out) hb); replace BK1655 := am (blk_below (g := gb1655) (o := .cells #[.bool t1645, .slice Ao37 t1646.length co37, .slice Ao38 t1649.length co38, .int .i64 t1652, .int .i64 t1653, .int .i64 t1654] 38 (0, 0)) (by (with_reducible repeat (first | refine blk_drewN ?_ _ | refine blk_drew ?_ | refine blk_alloc ?_ _)); refine blk_put (cs := #[.bool t1645, .slice Ao37 t1646.length co37, .slice Ao38 t1649.length co38, .int .i64 t1652, .int .i64 t1653, .int .i64 0]) ?_ 5 _ rfl; (with_reducible repeat (first | refine blk_drewN ?_ _ | refine blk_drew ?_ | refine blk_alloc ?_ _)); refine blk_put (cs := #[.bool t1645, .slice Ao37 t1646.length co37, .slice Ao38 t1649.length co38, .int .i64 t1652, .int .i64 0, .int .i64 0]) ?_ 4 _ rfl; (with_reducible repeat (first | refine blk_drewN ?_ _ | refine blk_drew ?_ | refine blk_alloc ?_ _)); refine blk_put (cs := #[.bool t1645, .slice Ao37 t1646.length co37, .slice Ao38 t1649.length co38, .int .i64 0, .int .i64 0, .int .i64 0]) ?_ 3 _ rfl; (with_reducible repeat (first | refine blk_drewN ?_ _ | refine blk_drew ?_ | refine blk_alloc ?_ _)); refine blk_put (cs := #[.bool t1645, .slice Ao37 t1646.length co37, .slice none 0 0, .int .i64 0, .int .i64 0, .int .i64 0]) ?_ 2 _ rfl; (with_reducible repeat (first | refine blk_drewN ?_ _ | refine blk_drew ?_ | refine blk_alloc ?_ _)); refine blk_put (cs := #[.bool t1645, .slice none 0 0, .slice none 0 0, .int .i64 0, .int .i64 0, .int .i64 0]) ?_ 1 _ rfl; (with_reducible repeat (first | refine blk_drewN ?_ _ | refine blk_drew ?_ | refine blk_alloc ?_ _)); refine blk_put (cs := #[.bool false, .slice none 0 0, .slice none 0 0, .int .i64 0, .int .i64 0, .int .i64 0]) ?_ 0 _ rfl; exact pkK BK1655.out) hb); replace HB := am (below_step (pkW HB.out) hb); (try clear hb); obtain ⟨hcz41_0, hcz41_1, hcz41_2, hcz41_3, hcz41_4, hcz41_5, hfz41_0, hfz41_1, hfz41_2, hfz41_3, hfz41_4, hfz41_5⟩ := bk6 BK1643.out) | ((with_reducible refine gate_callee (f := 22) rfl ?_); refine goesL_ (some 16) rfl rfl Try.func22 (by kernel_rfl) rfl #[.agg #[.bool a0_0, .slice A0_1 l0_1.length c0_1, .slice A0_2 l0_2.length c0_2, .int .i64 a0_3, .int .i64 a0_4, .int .i64 a0_5]] rfl mpx ?_; (with_reducible refine (impl_NotifyOk.calls k a0_0 _ _ l0_1 _ _ l0_2 a0_3 a0_4 a0_5 true _ ?side1 ?side2 ?side3 ?side4 A5.out).mono ?_); (case side1 => exact pkC (Kd.C_below HR0_1.out HB.out)); (case side2 => exact HC0_1.out); (case side3 => exact pkC (Kd.C_below HR0_2.out HB.out)); (case side4 => exact HC0_2.out); rintro e w42 ⟨rfl, hb⟩; refine ⟨_, rfl, ?_⟩; replace HO1648 := am (Kd.R_below (pkR HO1648.out) hb); replace HO1651 := am (Kd.R_below (pkR HO1651.out) hb); replace BK1643 := am (blk_below (pkK BK1643.out) hb); replace BK1644 := am (blk_below (pkK BK1644.out) hb); replace BK1655 := am (blk_below (pkK BK1655.out) hb); replace HB := am (below_step (pkW HB.out) hb); (try clear hb); obtain ⟨hcz43_0, hcz43_1, hcz43_2, hcz43_3, hcz43_4, hcz43_5, hfz43_0, hfz43_1, hfz43_2, hfz43_3, hfz43_4, hfz43_5⟩ := bk6 BK1643.out) | ((with_reducible refine gate_callee (f := 66) rfl ?_); refine goesL_ (some 23) rfl rfl Try.func66 (by kernel_rfl) rfl #[.slice A0_1 l0_1.length c0_1, .int .i64 a1] rfl mpx ?_; (with_reducible refine (slices_Contains_int_int.calls k _ _ l0_1 a1 false _ ?side1 ?side2 A7.out).mono ?_); (case side1 => exact pkC (Kd.C_below HR0_1.out HB.out)); (case side2 => exact HC0_1.out); rintro e w' ⟨rfl, ⟨nd, rfl⟩⟩; refine ⟨_, rfl, ?_⟩; (try (rw [drewN_self w42]; generalize hq_ : World.drewN w42 _ = w42; replace HO1648 : Aside0 (Kd.R (Kd.int .i64) 3 w42 w.heap.size (fun _ => True) (.slice Ao37 t1646.length co37) t1646) := ⟨by rw [← hq_]; exact (pkR HO1648.out)⟩; replace HO1651 : Aside0 (Kd.R k67 67 w42 w.heap.size (fun _ => True) (.slice Ao38 t1649.length co38) t1649) := ⟨by rw [← hq_]; exact (pkR HO1651.out)⟩; replace BK1643 : Aside0 (w42.heap[gb1643]? = some (.cells #[.bool a0_0, .slice A0_1 l0_1.length c0_1, .slice A0_2 l0_2.length c0_2, .int .i64 a0_3, .int .i64 a0_4, .int .i64 a0_5] 38 (0, 0))) := ⟨by rw [← hq_]; exact (pkK BK1643.out)⟩; replace BK1644 : Aside0 (w42.heap[gb1644]? = some (.cells #[.bool false, .slice none 0 0, .slice none 0 0, .int .i64 0, .int .i64 0, .int .i64 0] 38 (0, 0))) := ⟨by rw [← hq_]; exact (pkK BK1644.out)⟩; replace BK1655 : Aside0 (w42.heap[gb1655]? = some (.cells #[.bool t1645, .slice Ao37 t1646.length co37, .slice Ao38 t1649.length co38, .int .i64 t1652, .int .i64 t1653, .int .i64 t1654] 38 (0, 0))) := ⟨by rw [← hq_]; exact (pkK BK1655.out)⟩; replace HB : Aside0 (Below w.heap.size w w42) := ⟨by rw [← hq_]; exact (pkW HB.out)⟩; clear hq_)); obtain ⟨hcz44_0, hcz44_1, hcz44_2, hcz44_3, hcz44_4, hcz44_5, hfz44_0, hfz44_1, hfz44_2, hfz44_3, hfz44_4, hfz44_5⟩ := bk6 BK1655.out; obtain ⟨hcz45_0, hcz45_1, hcz45_2, hcz45_3, hcz45_4, hcz45_5, hfz45_0, hfz45_1, hfz45_2, hfz45_3, hfz45_4, hfz45_5⟩ := bk6 BK1644.out))
    refine bodyPost_ret (results_ct rfl _ _ gb1644 38 #[.bool t1645, .slice Ao37 t1646.length co37, .slice Ao38 t1649.length co38, .int .i64 t1652, .int .i64 t1653, .int .i64 t1654] (0, 0) _ rfl (by (with_reducible repeat (first | refine blk_drewN ?_ _ | refine blk_drew ?_ | refine blk_alloc ?_ _)); refine blk_put (cs := #[.bool t1645, .slice Ao37 t1646.length co37, .slice Ao38 t1649.length co38, .int .i64 t1652, .int .i64 t1653, .int .i64 0]) ?_ 5 _ rfl; (with_reducible repeat (first | refine blk_drewN ?_ _ | refine blk_drew ?_ | refine blk_alloc ?_ _)); refine blk_put (cs := #[.bool t1645, .slice Ao37 t1646.length co37, .slice Ao38 t1649.length co38, .int .i64 t1652, .int .i64 0, .int .i64 0]) ?_ 4 _ rfl; (with_reducible repeat (first | refine blk_drewN ?_ _ | refine blk_drew ?_ | refine blk_alloc ?_ _)); refine blk_put (cs := #[.bool t1645, .slice Ao37 t1646.length co37, .slice Ao38 t1649.length co38, .int .i64 0, .int .i64 0, .int .i64 0]) ?_ 3 _ rfl; (with_reducible repeat (first | refine blk_drewN ?_ _ | refine blk_drew ?_ | refine blk_alloc ?_ _)); refine blk_put (cs := #[.bool t1645, .slice Ao37 t1646.length co37, .slice none 0 0, .int .i64 0, .int .i64 0, .int .i64 0]) ?_ 2 _ rfl; (with_reducible repeat (first | refine blk_drewN ?_ _ | refine blk_drew ?_ | refine blk_alloc ?_ _)); refine blk_put (cs := #[.bool t1645, .slice none 0 0, .slice none 0 0, .int .i64 0, .int .i64 0, .int .i64 0]) ?_ 1 _ rfl; (with_reducible repeat (first | refine blk_drewN ?_ _ | refine blk_drew ?_ | refine blk_alloc ?_ _)); refine blk_put (cs := #[.bool false, .slice none 0 0, .slice none 0 0, .int .i64 0, .int .i64 0, .int .i64 0]) ?_ 0 _ rfl; exact pkK BK1644.out) Try.underlying38 rfl (by kernel_rfl)) rfl ?_
    exact ⟨_, _, rfe, by (with_reducible repeat (first | apply Kd.R_alloc | apply Kd.R_drewN | apply Kd.R_drew)); exact Kd.R_mono (Kd.R_far (p := ⟨gb1644, 5, none⟩) (Kd.R_far (p := ⟨gb1644, 4, none⟩) (Kd.R_far (p := ⟨gb1644, 3, none⟩) (Kd.R_far (p := ⟨gb1644, 2, none⟩) (Kd.R_far (p := ⟨gb1644, 1, none⟩) (Kd.R_far (p := ⟨gb1644, 0, none⟩) (Kd.R_types HO1648.out BK1644.out (by decide)) (fun _ hk => hk.2) (.bool t1645)) (fun _ hk => hk.2) (.slice Ao37 t1646.length co37)) (fun _ hk => hk.2) (.slice Ao38 t1649.length co38)) (fun _ hk => hk.2) (.int .i64 t1652)) (fun _ hk => hk.2) (.int .i64 t1653)) (fun _ hk => hk.2) (.int .i64 t1654)) (fun _ hk => trivial), by (with_reducible repeat (first | apply Kd.R_alloc | apply Kd.R_drewN | apply Kd.R_drew)); exact Kd.R_mono (Kd.R_far (p := ⟨gb1644, 5, none⟩) (Kd.R_far (p := ⟨gb1644, 4, none⟩) (Kd.R_far (p := ⟨gb1644, 3, none⟩) (Kd.R_far (p := ⟨gb1644, 2, none⟩) (Kd.R_far (p := ⟨gb1644, 1, none⟩) (Kd.R_far (p := ⟨gb1644, 0, none⟩) (Kd.R_types HO1651.out BK1644.out (by decide)) (fun _ hk => hk.2) (.bool t1645)) (fun _ hk => hk.2) (.slice Ao37 t1646.length co37)) (fun _ hk => hk.2) (.slice Ao38 t1649.length co38)) (fun _ hk => hk.2) (.int .i64 t1652)) (fun _ hk => hk.2) (.int .i64 t1653)) (fun _ hk => hk.2) (.int .i64 t1654)) (fun _ hk => trivial), pkW HB.out⟩
   ·rw [if_neg c27] at H
    have c27b0 : decide (t1656 < 0) = false := decide_eq_false c27
    clear c27
    have HC46 := am H
    clear H
    go_enter Try.func49, Try.ntmps49
    go_upto_region 9 with (first | ((with_reducible refine gate_dst (N := 2) rfl ?_); refine box_event ?hg (N := 2) ?hd (cs := #[.bool a0_0, .slice A0_1 l0_1.length c0_1, .slice A0_2 l0_2.length c0_2, .int .i64 a0_3, .int .i64 a0_4, .int .i64 a0_5]) (t := 38) ?hr ?_; (case hd => rfl); (case hg => rfl); (case hr => first | (go_simp; done) | (go_simp; rfl)); intro gb1643 hg w47 hbox hb; have BK1643 := am (hbox); have GW1643 := am ((by rw [hg]; exact (below_size (pkB HB.out)) : w.heap.size ≤ gb1643)); have GE1643 := am ((by rw [hg]; exact (below_size (pkB HB.out)) : w.heap.size ≤ gb1643)); replace HB := am (below_step (pkB HB.out) hb); clear hb hbox hg) | ((with_reducible refine gate_dst (N := 4) rfl ?_); refine box_event ?hg (N := 4) ?hd (cs := #[.bool false, .slice none 0 0, .slice none 0 0, .int .i64 0, .int .i64 0, .int .i64 0]) (t := 38) ?hr ?_; (case hd => rfl); (case hg => rfl); (case hr => first | (go_simp; done) | (go_simp; rfl)); intro gb1644 hg w48 hbox hb; have BK1644 := am (hbox); have GW1644 := am ((by rw [hg]; exact (below_size (pkW HB.out)) : w.heap.size ≤ gb1644)); have GE1644 := am ((by rw [hg]; exact (below_size (pkW HB.out)) : w.heap.size ≤ gb1644)); replace HB := am (below_step (pkW HB.out) hb); have NB1643_1644 := am ((by rw [hg]; exact Nat.ne_of_lt (blk_lt (g := gb1643) (o := .cells #[.bool a0_0, .slice A0_1 l0_1.length c0_1, .slice A0_2 l0_2.length c0_2, .int .i64 a0_3, .int .i64 a0_4, .int .i64 a0_5] 38 (0, 0)) (pkK BK1643.out)) : gb1643 ≠ gb1644)); have NB1644_1643 := am ((by rw [hg]; exact Nat.ne_of_gt (blk_lt (g := gb1643) (o := .cells #[.bool a0_0, .slice A0_1 l0_1.length c0_1, .slice A0_2 l0_2.length c0_2, .int .i64 a0_3, .int .i64 a0_4, .int .i64 a0_5] 38 (0, 0)) (pkK BK1643.out)) : gb1644 ≠ gb1643)); replace BK1643 := am (blk_below (pkK BK1643.out) hb); clear hb hbox hg; have hnb49 := NB1643_1644.out; have hnc49 := NB1644_1643.out; obtain ⟨hcz50_0, hcz50_1, hcz50_2, hcz50_3, hcz50_4, hcz50_5, hfz50_0, hfz50_1, hfz50_2, hfz50_3, hfz50_4, hfz50_5⟩ := bk6 BK1643.out) | ((with_reducible refine gate_callee (f := 71) rfl ?_); refine goesL_ (some 9) rfl rfl Try.func71 (by kernel_rfl) rfl #[.agg #[.bool a0_0, .slice A0_1 l0_1.length c0_1, .slice A0_2 l0_2.length c0_2, .int .i64 a0_3, .int .i64 a0_4, .int .i64 a0_5]] rfl mpx ?_; (with_reducible refine (impl_copyNotify.calls a0_0 _ _ l0_1 _ _ l0_2 a0_3 a0_4 a0_5 t1645 t1646 t1649 t1652 t1653 t1654 _ ?side1 ?side2 ?side3 ?side4 A3.out).mono ?_); (case side1 => exact pkC (Kd.C_below HR0_1.out HB.out)); (case side2 => exact HC0_1.out); (case side3 => exact pkC (Kd.C_below HR0_2.out HB.out)); (case side4 => exact HC0_2.out); rintro e w51 ⟨v1647, v1650, rfl, ho0, ho1, hb⟩; refine ⟨_, rfl, ?_⟩; have HO1648 := am (Kd.R_lower ho0 (below_size (pkW HB.out))); have HO1651 := am (Kd.R_lower ho1 (below_size (pkW HB.out))); replace BK1643 := am (blk_below (pkK BK1643.out) hb); replace BK1644 := am (blk_below (pkK BK1644.out) hb); replace HB := am (below_step (pkW HB.out) hb); (try clear hb ho0 ho1)) | ((with_reducible refine gate_dst (N := 6) rfl ?_); refine box_event ?hg (N := 6) ?hd (cs := #[.bool false, .slice none 0 0, .slice none 0 0, .int .i64 0, .int .i64 0, .int .i64 0]) (t := 38) ?hr ?_; (case hd => rfl); (case hg => rfl); (case hr => first | (go_simp; done) | (go_simp; rfl)); intro gb1655 hg w52 hbox hb; replace HO1648 := am (Kd.R_below (pkR HO1648.out) hb); replace HO1651 := am (Kd.R_below (pkR HO1651.out) hb); have BK1655 := am (hbox); have GW1655 := am ((by rw [hg]; exact (below_size (pkW HB.out)) : w.heap.size ≤ gb1655)); have GE1655 := am ((by rw [hg]; exact (below_size (pkW HB.out)) : w.heap.size ≤ gb1655)); replace HB := am (below_step (pkW HB.out) hb); have NB1643_1655 := am ((by rw [hg]; exact Nat.ne_of_lt (blk_lt (g := gb1643) (o := .cells #[.bool a0_0, .slice A0_1 l0_1.length c0_1, .slice A0_2 l0_2.length c0_2, .int .i64 a0_3, .int .i64 a0_4, .int .i64 a0_5] 38 (0, 0)) (pkK BK1643.out)) : gb1643 ≠ gb1655)); have NB1655_1643 := am ((by rw [hg]; exact Nat.ne_of_gt (blk_lt (g := gb1643) (o := .cells #[.bool a0_0, .slice A0_1 l0_1.length c0_1, .slice A0_2 l0_2.length c0_2, .int .i64 a0_3, .int .i64 a0_4, .int .i64 a0_5] 38 (0, 0)) (pkK BK1643.out)) : gb1655 ≠ gb1643)); replace BK1643 := am (blk_below (pkK BK1643.out) hb); have NB1644_1655 := am ((by rw [hg]; exact Nat.ne_of_lt (blk_lt (g := gb1644) (o := .cells #[.bool false, .slice none 0 0, .slice none 0 0, .int .i64 0, .int .i64 0, .int .i64 0] 38 (0, 0)) (pkK BK1644.out)) : gb1644 ≠ gb1655)); have NB1655_1644 := am ((by rw [hg]; exact Nat.ne_of_gt (blk_lt (g := gb1644) (o := .cells #[.bool false, .slice none 0 0, .slice none 0 0, .int .i64 0, .int .i64 0, .int .i64 0] 38 (0, 0)) (pkK BK1644.out)) : gb1655 ≠ gb1644)); replace BK1644 := am (blk_below (pkK BK1644.out) hb); clear hb hbox hg; have hnb53 := NB1655_1643.out; have hnc53 := NB1643_1655.out; have hnb54 := NB1655_1644.out; have hnc54 := NB1644_1655.out; obtain ⟨hcz55_0, hcz55_1, hcz55_2, hcz55_3, hcz55_4, hcz55_5, hfz55_0, hfz55_1, hfz55_2, hfz55_3, hfz55_4, hfz55_5⟩ := bk6 BK1655.out; obtain ⟨Ao56, co56, eo56⟩ := Kd.R_slice HO1648.out; subst eo56; obtain ⟨Ao57, co57, eo57⟩ := Kd.R_slice HO1651.out; subst eo57; obtain ⟨hcz58_0, hcz58_1, hcz58_2, hcz58_3, hcz58_4, hcz58_5, hfz58_0, hfz58_1, hfz58_2, hfz58_3, hfz58_4, hfz58_5⟩ := bk6 BK1643.out) | ((with_reducible refine gate_callee (f := 78) rfl ?_); refine goesL_ (some 13) rfl rfl Try.func78 (by kernel_rfl) rfl #[.slice A0_2 l0_2.length c0_2, .int .i64 a1] rfl mpx ?_; (with_reducible refine (impl_grantAt.calls k _ _ l0_2 a1 t1656 _ ?side1 ?side2 A4.out).mono ?_); (case side1 => exact Kd.C_below HR0_2.out (pkW HB.out)); (case side2 => exact HC0_2.out); rintro e w59 ⟨rfl, hb⟩; refine ⟨_, rfl, ?_⟩; replace HO1648 := am (Kd.R_below (by (with_reducible repeat (first | apply Kd.R_alloc | apply Kd.R_drewN | apply Kd.R_drew)); exact (Kd.R_mono (Kd.R_far (p := ⟨gb1655, 5, none⟩) (Kd.R_far (p := ⟨gb1655, 4, none⟩) (Kd.R_far (p := ⟨gb1655, 3, none⟩) (Kd.R_far (p := ⟨gb1655, 2, none⟩) (Kd.R_far (p := ⟨gb1655, 1, none⟩) (Kd.R_far (p := ⟨gb1655, 0, none⟩) (Kd.R_types HO1648.out BK1655.out (by decide)) (fun _ hk => hk.2) (.bool t1645)) (fun _ hk => hk.2) (.slice Ao56 t1646.length co56)) (fun _ hk => hk.2) (.slice Ao57 t1649.length co57)) (fun _ hk => hk.2) (.int .i64 t1652)) (fun _ hk => hk.2) (.int .i64 t1653)) (fun _ hk => hk.2) (.int .i64 t1654)) (fun _ h_ => h_.1))) hb); replace HO1651 := am (Kd.R_below (by (with_reducible repeat (first | apply Kd.R_alloc | apply Kd.R_drewN | apply Kd.R_drew)); exact (Kd.R_mono (Kd.R_far (p := ⟨gb1655, 5, none⟩) (Kd.R_far (p := ⟨gb1655, 4, none⟩) (Kd.R_far (p := ⟨gb1655, 3, none⟩) (Kd.R_far (p := ⟨gb1655, 2, none⟩) (Kd.R_far (p := ⟨gb1655, 1, none⟩) (Kd.R_far (p := ⟨gb1655, 0, none⟩) (Kd.R_types HO1651.out BK1655.out (by decide)) (fun _ hk => hk.2) (.bool t1645)) (fun _ hk => hk.2) (.slice Ao56 t1646.length co56)) (fun _ hk => hk.2) (.slice Ao57 t1649.length co57)) (fun _ hk => hk.2) (.int .i64 t1652)) (fun _ hk => hk.2) (.int .i64 t1653)) (fun _ hk => hk.2) (.int .i64 t1654)) (fun _ h_ => h_.1))) hb); replace BK1643 := am (blk_below (g := gb1643) (o := .cells #[.bool a0_0, .slice A0_1 l0_1.length c0_1, .slice A0_2 l0_2.length c0_2, .int .i64 a0_3, .int .i64 a0_4, .int .i64 a0_5] 38 (0, 0)) (by (with_reducible repeat (first | refine blk_drewN ?_ _ | refine blk_drew ?_ | refine blk_alloc ?_ _)); refine blk_far ?_ NB1643_1655.out _; (with_reducible repeat (first | refine blk_drewN ?_ _ | refine blk_drew ?_ | refine blk_alloc ?_ _)); refine blk_far ?_ NB1643_1655.out _; (with_reducible repeat (first | refine blk_drewN ?_ _ | refine blk_drew ?_ | refine blk_alloc ?_ _)); refine blk_far ?_ NB1643_1655.out _; (with_reducible repeat (first | refine blk_drewN ?_ _ | refine blk_drew ?_ | refine blk_alloc ?_ _)); refine blk_far ?_ NB1643_1655.out _; (with_reducible repeat (first | refine blk_drewN ?_ _ | refine blk_drew ?_ | refine blk_alloc ?_ _)); refine blk_far ?_ NB1643_1655.out _; (with_reducible repeat (first | refine blk_drewN ?_ _ | refine blk_drew ?_ | refine blk_alloc ?_ _)); refine blk_far ?_ NB1643_1655.out _; exact pkK BK1643.out) hb); replace BK1644 := am (blk_below (g := gb1644) (o := .cells #[.bool false, .slice none 0 0, .slice none 0 0, .int .i64 0, .int .i64 0, .int .i64 0] 38 (0, 0)) (by (with_reducible repeat (first | refine blk_drewN ?_ _ | refine blk_drew ?_ | refine blk_alloc ?_ _)); refine blk_far ?_ NB1644_1655.out _; (with_reducible repeat (first | refine blk_drewN ?_ _ | refine blk_drew ?_ | refine blk_alloc ?_ _)); refine blk_far ?_ NB1644_1655.out _; (with_reducible repeat (first | refine blk_drewN ?_ _ | refine blk_drew ?_ | refine blk_alloc ?_ _)); refine blk_far ?_ NB1644_1655.out _; (with_reducible repeat (first | refine blk_drewN ?_ _ | refine blk_drew ?_ | refine blk_alloc ?_ _)); refine blk_far ?_ NB1644_1655.out _; (with_reducible repeat (first | refine blk_drewN ?_ _ | refine blk_drew ?_ | refine blk_alloc ?_ _)); refine blk_far ?_ NB1644_1655.out _; (with_reducible repeat (first | refine blk_drewN ?_ _ | refine blk_drew ?_ | refine blk_alloc ?_ _)); refine blk_far ?_ NB1644_1655.out _; exact pkK BK1644.out) hb); replace BK1655 := am (blk_below (g := gb1655) (o := .cells #[.bool t1645, .slice Ao56 t1646.length co56, .slice Ao57 t1649.length co57, .int .i64 t1652, .int .i64 t1653, .int .i64 t1654] 38 (0, 0)) (by (with_reducible repeat (first | refine blk_drewN ?_ _ | refine blk_drew ?_ | refine blk_alloc ?_ _)); refine blk_put (cs := #[.bool t1645, .slice Ao56 t1646.length co56, .slice Ao57 t1649.length co57, .int .i64 t1652, .int .i64 t1653, .int .i64 0]) ?_ 5 _ rfl; (with_reducible repeat (first | refine blk_drewN ?_ _ | refine blk_drew ?_ | refine blk_alloc ?_ _)); refine blk_put (cs := #[.bool t1645, .slice Ao56 t1646.length co56, .slice Ao57 t1649.length co57, .int .i64 t1652, .int .i64 0, .int .i64 0]) ?_ 4 _ rfl; (with_reducible repeat (first | refine blk_drewN ?_ _ | refine blk_drew ?_ | refine blk_alloc ?_ _)); refine blk_put (cs := #[.bool t1645, .slice Ao56 t1646.length co56, .slice Ao57 t1649.length co57, .int .i64 0, .int .i64 0, .int .i64 0]) ?_ 3 _ rfl; (with_reducible repeat (first | refine blk_drewN ?_ _ | refine blk_drew ?_ | refine blk_alloc ?_ _)); refine blk_put (cs := #[.bool t1645, .slice Ao56 t1646.length co56, .slice none 0 0, .int .i64 0, .int .i64 0, .int .i64 0]) ?_ 2 _ rfl; (with_reducible repeat (first | refine blk_drewN ?_ _ | refine blk_drew ?_ | refine blk_alloc ?_ _)); refine blk_put (cs := #[.bool t1645, .slice none 0 0, .slice none 0 0, .int .i64 0, .int .i64 0, .int .i64 0]) ?_ 1 _ rfl; (with_reducible repeat (first | refine blk_drewN ?_ _ | refine blk_drew ?_ | refine blk_alloc ?_ _)); refine blk_put (cs := #[.bool false, .slice none 0 0, .slice none 0 0, .int .i64 0, .int .i64 0, .int .i64 0]) ?_ 0 _ rfl; exact pkK BK1655.out) hb); replace HB := am (below_step (pkW HB.out) hb); (try clear hb); obtain ⟨hcz60_0, hcz60_1, hcz60_2, hcz60_3, hcz60_4, hcz60_5, hfz60_0, hfz60_1, hfz60_2, hfz60_3, hfz60_4, hfz60_5⟩ := bk6 BK1643.out) | ((with_reducible refine gate_callee (f := 22) rfl ?_); refine goesL_ (some 16) rfl rfl Try.func22 (by kernel_rfl) rfl #[.agg #[.bool a0_0, .slice A0_1 l0_1.length c0_1, .slice A0_2 l0_2.length c0_2, .int .i64 a0_3, .int .i64 a0_4, .int .i64 a0_5]] rfl mpx ?_; (with_reducible refine (impl_NotifyOk.calls k a0_0 _ _ l0_1 _ _ l0_2 a0_3 a0_4 a0_5 true _ ?side1 ?side2 ?side3 ?side4 A5.out).mono ?_); (case side1 => exact pkC (Kd.C_below HR0_1.out HB.out)); (case side2 => exact HC0_1.out); (case side3 => exact pkC (Kd.C_below HR0_2.out HB.out)); (case side4 => exact HC0_2.out); rintro e w61 ⟨rfl, hb⟩; refine ⟨_, rfl, ?_⟩; replace HO1648 := am (Kd.R_below (pkR HO1648.out) hb); replace HO1651 := am (Kd.R_below (pkR HO1651.out) hb); replace BK1643 := am (blk_below (pkK BK1643.out) hb); replace BK1644 := am (blk_below (pkK BK1644.out) hb); replace BK1655 := am (blk_below (pkK BK1655.out) hb); replace HB := am (below_step (pkW HB.out) hb); (try clear hb); obtain ⟨hcz62_0, hcz62_1, hcz62_2, hcz62_3, hcz62_4, hcz62_5, hfz62_0, hfz62_1, hfz62_2, hfz62_3, hfz62_4, hfz62_5⟩ := bk6 BK1643.out) | ((with_reducible refine gate_callee (f := 66) rfl ?_); refine goesL_ (some 23) rfl rfl Try.func66 (by kernel_rfl) rfl #[.slice A0_1 l0_1.length c0_1, .int .i64 a1] rfl mpx ?_; (with_reducible refine (slices_Contains_int_int.calls k _ _ l0_1 a1 false _ ?side1 ?side2 A7.out).mono ?_); (case side1 => exact pkC (Kd.C_below HR0_1.out HB.out)); (case side2 => exact HC0_1.out); rintro e w' ⟨rfl, ⟨nd, rfl⟩⟩; refine ⟨_, rfl, ?_⟩))
    (try simp only [Act.put, List.setIfInBounds_toArray, List.set_cons_zero, List.set_cons_succ])
    go_cut [29] (fun v29 wc => ∃ (kq : Nat) (x29_45 : Bool), v29 = .bool x29_45 ∧ Aside0 (impl_Resume.j0 kq t1656 x29_45 a0_0 l0_1 l0_2 a0_3 a0_4 a0_5 t1645 t1646 t1649 t1652 t1653 t1654 = some (r1, r2, r3, r4, r5, r6, r7)) ∧ Aside0 (kq ≤ k) ∧ Aside0 (Kd.R (Kd.int .i64) 3 wc w.heap.size (fun _ => True) (.slice Ao56 t1646.length co56) t1646) ∧ Aside0 (Kd.R k67 67 wc w.heap.size (fun _ => True) (.slice Ao57 t1649.length co57) t1649) ∧ Aside0 (wc.heap[gb1643]? = some (.cells #[.bool a0_0, (.slice A0_1 l0_1.length c0_1), (.slice A0_2 l0_2.length c0_2), .int .i64 a0_3, .int .i64 a0_4, .int .i64 a0_5] 38 (0, 0))) ∧ Aside0 (wc.heap[gb1644]? = some (.cells #[.bool false, (.slice none 0 0), (.slice none 0 0), .int .i64 0, .int .i64 0, .int .i64 0] 38 (0, 0))) ∧ Aside0 (wc.heap[gb1655]? = some (.cells #[.bool t1645, (.slice Ao56 t1646.length co56), (.slice Ao57 t1649.length co57), .int .i64 t1652, .int .i64 t1653, .int .i64 t1654] 38 (0, 0))) ∧ Aside0 (Below w.heap.size w wc))
    case first =>
     have H := HC46.out
     clear HC46
     by_cases c63 : 0 ≤ t1656
     ·rw [if_pos c63] at H
      have c63b0 : decide (0 ≤ t1656) = true := decide_eq_true c63
      clear c63
      (first | rw [c63b0] | (simp only [i64_w, i32_w]; rw [c63b0]) | skip)
      by_cases c64 : t1656 < (l0_2.length : Int)
      ·rw [if_pos c64] at H
       have c64b0 : decide (t1656 < (l0_2.length : Int)) = true := decide_eq_true c64
       clear c64
       obtain ⟨bq65, hbq65⟩ : ∃ b_ : Bool, b_ = ((rd_T67 l0_2 t1656).f1) := ⟨_, rfl⟩
       replace H : (if bq65 = true then (impl_Resume.j0 k t1656 (a0_5 == 1000000000) a0_0 l0_1 l0_2 a0_3 a0_4 a0_5 t1645 t1646 t1649 t1652 t1653 t1654) else (impl_Resume.j0 k t1656 false a0_0 l0_1 l0_2 a0_3 a0_4 a0_5 t1645 t1646 t1649 t1652 t1653 t1654)) = some (r1, r2, r3, r4, r5, r6, r7) := by rw [← hbq65] at H; exact H
       have Nbq65 := am hbq65
       clear hbq65
       by_cases c66 : bq65 = true
       ·subst c66
        replace H : (impl_Resume.j0 k t1656 (a0_5 == 1000000000) a0_0 l0_1 l0_2 a0_3 a0_4 a0_5 t1645 t1646 t1649 t1652 t1653 t1654) = some (r1, r2, r3, r4, r5, r6, r7) := by rw [if_pos rfl] at H; exact H
        have H' := am H
        clear H
        have hnb67 := NB1643_1644.out
        have hnc67 := NB1644_1643.out
        have hnb68 := NB1643_1655.out
        have hnc68 := NB1655_1643.out
        obtain ⟨hcz69_0, hcz69_1, hcz69_2, hcz69_3, hcz69_4, hcz69_5, hfz69_0, hfz69_1, hfz69_2, hfz69_3, hfz69_4, hfz69_5⟩ := bk6 BK1643.out
        have p1659 : 0 ≤ (t1656 : Int) := ofd
        have q1659 : t1656 < (l0_2.length : Int) := ofd
        obtain ⟨ad1659, e1659, hx1659_0, hx1659_1⟩ := at_T67 HR0_2.out t1656 p1659 q1659
        (try rw [← Nbq65.out] at hx1659_1)
        cases e1659
        replace hx1659_0 := (HB.out.cell (World.block_lt_of_cell? w _ hx1659_0)).trans hx1659_0
        replace hx1659_1 := (HB.out.cell (World.block_lt_of_cell? w _ hx1659_1)).trans hx1659_1
        replace p1659 := eq_true p1659
        replace q1659 := eq_true q1659
        go_wp2
        go_meet
        case rel => exact ⟨_, ((a0_5 == 1000000000)), rfx, H', ⟨by first | omega | exact Nat.le_refl _⟩, ⟨pkR HO1648.out⟩, ⟨pkR HO1651.out⟩, ⟨pkK BK1643.out⟩, ⟨pkK BK1644.out⟩, ⟨pkK BK1655.out⟩, ⟨pkW HB.out⟩⟩
       ·replace c66 := Bool.eq_false_iff.mpr c66
        subst c66
        replace H : (impl_Resume.j0 k t1656 false a0_0 l0_1 l0_2 a0_3 a0_4 a0_5 t1645 t1646 t1649 t1652 t1653 t1654) = some (r1, r2, r3, r4, r5, r6, r7) := by rw [if_neg (show ¬ (false = true) by decide)] at H; exact H
        have H' := am H
        clear H
        have hnb70 := NB1643_1644.out
        have hnc70 := NB1644_1643.out
        have hnb71 := NB1643_1655.out
        have hnc71 := NB1655_1643.out
        obtain ⟨hcz72_0, hcz72_1, hcz72_2, hcz72_3, hcz72_4, hcz72_5, hfz72_0, hfz72_1, hfz72_2, hfz72_3, hfz72_4, hfz72_5⟩ := bk6 BK1643.out
        have p1659 : 0 ≤ (t1656 : Int) := ofd
        have q1659 : t1656 < (l0_2.length : Int) := ofd
        obtain ⟨ad1659, e1659, hx1659_0, hx1659_1⟩ := at_T67 HR0_2.out t1656 p1659 q1659
        (try rw [← Nbq65.out] at hx1659_1)
        cases e1659
        replace hx1659_0 := (HB.out.cell (World.block_lt_of_cell? w _ hx1659_0)).trans hx1659_0
        replace hx1659_1 := (HB.out.cell (World.block_lt_of_cell? w _ hx1659_1)).trans hx1659_1
        replace p1659 := eq_true p1659
        replace q1659 := eq_true q1659
        go_wp2
        go_meet
        case rel => exact ⟨_, (false), rfx, H', ⟨by first | omega | exact Nat.le_refl _⟩, ⟨pkR HO1648.out⟩, ⟨pkR HO1651.out⟩, ⟨pkK BK1643.out⟩, ⟨pkK BK1644.out⟩, ⟨pkK BK1655.out⟩, ⟨pkW HB.out⟩⟩
      ·rw [if_neg c64] at H
       exact absurd H (by simp)
     ·rw [if_neg c63] at H
      exact absurd H (by simp)
    case rest =>
     clear HC46
     try clear c1
     try clear p1
     try clear q1
     try clear hx1
     try clear c2
     try clear p2
     try clear c3
     try clear c4
     try clear c5
     try clear c6
     try clear q6
     try clear c7
     try clear c8
     try clear c11
     try clear c15
     try clear c16
     try clear p16
     try clear q16
     try clear hx16
     try clear c22
     try clear c27
     try clear c27b0
     try clear c30
     try clear c34
     try clear c35
     try clear c49
     try clear c53
     try clear c54
     try clear c63
     try clear c63b0
     try clear c64
     try clear c64b0
     try clear q65
     try clear c66
     try clear c67
     try clear c68
     try clear c70
     try clear c71
     try clear hcz12_0
     try clear hcz12_1
     try clear hcz12_2
     try clear hcz12_3
     try clear hcz12_4
     try clear hcz12_5
     try clear hcz17_0
     try clear hcz17_1
     try clear hcz17_2
     try clear hcz17_3
     try clear hcz17_4
     try clear hcz17_5
     try clear hcz20_0
     try clear hcz20_1
     try clear hcz20_2
     try clear hcz20_3
     try clear hcz20_4
     try clear hcz20_5
     try clear hcz22_0
     try clear hcz22_1
     try clear hcz22_2
     try clear hcz22_3
     try clear hcz22_4
     try clear hcz22_5
     try clear hcz24_0
     try clear hcz24_1
     try clear hcz24_2
     try clear hcz24_3
     try clear hcz24_4
     try clear hcz24_5
     try clear hcz25_0
     try clear hcz25_1
     try clear hcz25_2
     try clear hcz25_3
     try clear hcz25_4
     try clear hcz25_5
     try clear hcz26_0
     try clear hcz26_1
     try clear hcz26_2
     try clear hcz26_3
     try clear hcz26_4
     try clear hcz26_5
     try clear hcz31_0
     try clear hcz31_1
     try clear hcz31_2
     try clear hcz31_3
     try clear hcz31_4
     try clear hcz31_5
     try clear hcz36_0
     try clear hcz36_1
     try clear hcz36_2
     try clear hcz36_3
     try clear hcz36_4
     try clear hcz36_5
     try clear hcz39_0
     try clear hcz39_1
     try clear hcz39_2
     try clear hcz39_3
     try clear hcz39_4
     try clear hcz39_5
     try clear hcz41_0
     try clear hcz41_1
     try clear hcz41_2
     try clear hcz41_3
     try clear hcz41_4
     try clear hcz41_5
     try clear hcz43_0
     try clear hcz43_1
     try clear hcz43_2
     try clear hcz43_3
     try clear hcz43_4
     try clear hcz43_5
     try clear hcz44_0
     try clear hcz44_1
     try clear hcz44_2
     try clear hcz44_3
     try clear hcz44_4
     try clear hcz44_5
     try clear hcz45_0
     try clear hcz45_1
     try clear hcz45_2
     try clear hcz45_3
     try clear hcz45_4
     try clear hcz45_5
     try clear hcz50_0
     try clear hcz50_1
     try clear hcz50_2
     try clear hcz50_3
     try clear hcz50_4
     try clear hcz50_5
     try clear hcz55_0
     try clear hcz55_1
     try clear hcz55_2
     try clear hcz55_3
     try clear hcz55_4
     try clear hcz55_5
     try clear hcz58_0
     try clear hcz58_1
     try clear hcz58_2
     try clear hcz58_3
     try clear hcz58_4
     try clear hcz58_5
     try clear hcz60_0
     try clear hcz60_1
     try clear hcz60_2
     try clear hcz60_3
     try clear hcz60_4
     try clear hcz60_5
     try clear hcz62_0
     try clear hcz62_1
     try clear hcz62_2
     try clear hcz62_3
     try clear hcz62_4
     try clear hcz62_5
     try clear hcz69_0
     try clear hcz69_1
     try clear hcz69_2
     try clear hcz69_3
     try clear hcz69_4
     try clear hcz69_5
     try clear hcz72_0
     try clear hcz72_1
     try clear hcz72_2
     try clear hcz72_3
     try clear hcz72_4
     try clear hcz72_5
     try clear hfz12_0
     try clear hfz12_1
     try clear hfz12_2
     try clear hfz12_3
     try clear hfz12_4
     try clear hfz12_5
     try clear hfz17_0
     try clear hfz17_1
     try clear hfz17_2
     try clear hfz17_3
     try clear hfz17_4
     try clear hfz17_5
     try clear hfz20_0
     try clear hfz20_1
     try clear hfz20_2
     try clear hfz20_3
     try clear hfz20_4
     try clear hfz20_5
     try clear hfz22_0
     try clear hfz22_1
     try clear hfz22_2
     try clear hfz22_3
     try clear hfz22_4
     try clear hfz22_5
     try clear hfz24_0
     try clear hfz24_1
     try clear hfz24_2
     try clear hfz24_3
     try clear hfz24_4
     try clear hfz24_5
     try clear hfz25_0
     try clear hfz25_1
     try clear hfz25_2
     try clear hfz25_3
     try clear hfz25_4
     try clear hfz25_5
     try clear hfz26_0
     try clear hfz26_1
     try clear hfz26_2
     try clear hfz26_3
     try clear hfz26_4
     try clear hfz26_5
     try clear hfz31_0
     try clear hfz31_1
     try clear hfz31_2
     try clear hfz31_3
     try clear hfz31_4
     try clear hfz31_5
     try clear hfz36_0
     try clear hfz36_1
     try clear hfz36_2
     try clear hfz36_3
     try clear hfz36_4
     try clear hfz36_5
     try clear hfz39_0
     try clear hfz39_1
     try clear hfz39_2
     try clear hfz39_3
     try clear hfz39_4
     try clear hfz39_5
     try clear hfz41_0
     try clear hfz41_1
     try clear hfz41_2
     try clear hfz41_3
     try clear hfz41_4
     try clear hfz41_5
     try clear hfz43_0
     try clear hfz43_1
     try clear hfz43_2
     try clear hfz43_3
     try clear hfz43_4
     try clear hfz43_5
     try clear hfz44_0
     try clear hfz44_1
     try clear hfz44_2
     try clear hfz44_3
     try clear hfz44_4
     try clear hfz44_5
     try clear hfz45_0
     try clear hfz45_1
     try clear hfz45_2
     try clear hfz45_3
     try clear hfz45_4
     try clear hfz45_5
     try clear hfz50_0
     try clear hfz50_1
     try clear hfz50_2
     try clear hfz50_3
     try clear hfz50_4
     try clear hfz50_5
     try clear hfz55_0
     try clear hfz55_1
     try clear hfz55_2
     try clear hfz55_3
     try clear hfz55_4
     try clear hfz55_5
     try clear hfz58_0
     try clear hfz58_1
     try clear hfz58_2
     try clear hfz58_3
     try clear hfz58_4
     try clear hfz58_5
     try clear hfz60_0
     try clear hfz60_1
     try clear hfz60_2
     try clear hfz60_3
     try clear hfz60_4
     try clear hfz60_5
     try clear hfz62_0
     try clear hfz62_1
     try clear hfz62_2
     try clear hfz62_3
     try clear hfz62_4
     try clear hfz62_5
     try clear hfz69_0
     try clear hfz69_1
     try clear hfz69_2
     try clear hfz69_3
     try clear hfz69_4
     try clear hfz69_5
     try clear hfz72_0
     try clear hfz72_1
     try clear hfz72_2
     try clear hfz72_3
     try clear hfz72_4
     try clear hfz72_5
     try clear hx1659_0
     try clear hx1659_1
     try clear p1659
     try clear q1659
     obtain ⟨kq, x29_45, rfl, HA, HJ45, HO_1656001, HO_1656002, BK1643, BK1644, BK1655, HB⟩ := hcut
     cases kq with
     | zero => exact absurd HA.out (by simp [impl_Resume.j0])
     | succ kj45 =>
      have H := HA.out
      clear HA
      simp only [impl_Resume.j0] at H
      by_cases c73 : x29_45 = true
      ·subst c73
       replace H : (some (t1645, t1646, t1649, t1652, t1653, t1654, 2)) = some (r1, r2, r3, r4, r5, r6, r7) := by rw [if_pos rfl] at H; exact H
       simp only [Option.some.injEq, Prod.mk.injEq] at H
       obtain ⟨rfl, rfl, rfl, rfl, rfl, rfl, rfl⟩ := H
       have hnb74 := NB1655_1643.out
       have hnc74 := NB1643_1655.out
       have hnb75 := NB1655_1644.out
       have hnc75 := NB1644_1655.out
       obtain ⟨hcz76_0, hcz76_1, hcz76_2, hcz76_3, hcz76_4, hcz76_5, hfz76_0, hfz76_1, hfz76_2, hfz76_3, hfz76_4, hfz76_5⟩ := bk6 BK1655.out
       have hnb77 := NB1644_1643.out
       have hnc77 := NB1643_1644.out
       obtain ⟨hcz78_0, hcz78_1, hcz78_2, hcz78_3, hcz78_4, hcz78_5, hfz78_0, hfz78_1, hfz78_2, hfz78_3, hfz78_4, hfz78_5⟩ := bk6 BK1644.out
       go_wp2
       refine bodyPost_ret (results_ct rfl _ _ gb1644 38 #[.bool t1645, .slice Ao56 t1646.length co56, .slice Ao57 t1649.length co57, .int .i64 t1652, .int .i64 t1653, .int .i64 t1654] (0, 0) _ rfl (by (with_reducible repeat (first | refine blk_drewN ?_ _ | refine blk_drew ?_ | refine blk_alloc ?_ _)); refine blk_put (cs := #[.bool t1645, .slice Ao56 t1646.length co56, .slice Ao57 t1649.length co57, .int .i64 t1652, .int .i64 t1653, .int .i64 0]) ?_ 5 _ rfl; (with_reducible repeat (first | refine blk_drewN ?_ _ | refine blk_drew ?_ | refine blk_alloc ?_ _)); refine blk_put (cs := #[.bool t1645, .slice Ao56 t1646.length co56, .slice Ao57 t1649.length co57, .int .i64 t1652, .int .i64 0, .int .i64 0]) ?_ 4 _ rfl; (with_reducible repeat (first | refine blk_drewN ?_ _ | refine blk_drew ?_ | refine blk_alloc ?_ _)); refine blk_put (cs := #[.bool t1645, .slice Ao56 t1646.length co56, .slice Ao57 t1649.length co57, .int .i64 0, .int .i64 0, .int .i64 0]) ?_ 3 _ rfl; (with_reducible repeat (first | refine blk_drewN ?_ _ | refine blk_drew ?_ | refine blk_alloc ?_ _)); refine blk_put (cs := #[.bool t1645, .slice Ao56 t1646.length co56, .slice none 0 0, .int .i64 0, .int .i64 0, .int .i64 0]) ?_ 2 _ rfl; (with_reducible repeat (first | refine blk_drewN ?_ _ | refine blk_drew ?_ | refine blk_alloc ?_ _)); refine blk_put (cs := #[.bool t1645, .slice none 0 0, .slice none 0 0, .int .i64 0, .int .i64 0, .int .i64 0]) ?_ 1 _ rfl; (with_reducible repeat (first | refine blk_drewN ?_ _ | refine blk_drew ?_ | refine blk_alloc ?_ _)); refine blk_put (cs := #[.bool false, .slice none 0 0, .slice none 0 0, .int .i64 0, .int .i64 0, .int .i64 0]) ?_ 0 _ rfl; exact pkK BK1644.out) Try.underlying38 rfl (by kernel_rfl)) rfl ?_
       exact ⟨_, _, rfe, by (with_reducible repeat (first | apply Kd.R_alloc | apply Kd.R_drewN | apply Kd.R_drew)); exact Kd.R_mono (Kd.R_far (p := ⟨gb1644, 5, none⟩) (Kd.R_far (p := ⟨gb1644, 4, none⟩) (Kd.R_far (p := ⟨gb1644, 3, none⟩) (Kd.R_far (p := ⟨gb1644, 2, none⟩) (Kd.R_far (p := ⟨gb1644, 1, none⟩) (Kd.R_far (p := ⟨gb1644, 0, none⟩) (Kd.R_types HO_1656001.out BK1644.out (by decide)) (fun _ hk => hk.2) (.bool t1645)) (fun _ hk => hk.2) (.slice Ao56 t1646.length co56)) (fun _ hk => hk.2) (.slice Ao57 t1649.length co57)) (fun _ hk => hk.2) (.int .i64 t1652)) (fun _ hk => hk.2) (.int .i64 t1653)) (fun _ hk => hk.2) (.int .i64 t1654)) (fun _ hk => trivial), by (with_reducible repeat (first | apply Kd.R_alloc | apply Kd.R_drewN | apply Kd.R_drew)); exact Kd.R_mono (Kd.R_far (p := ⟨gb1644, 5, none⟩) (Kd.R_far (p := ⟨gb1644, 4, none⟩) (Kd.R_far (p := ⟨gb1644, 3, none⟩) (Kd.R_far (p := ⟨gb1644, 2, none⟩) (Kd.R_far (p := ⟨gb1644, 1, none⟩) (Kd.R_far (p := ⟨gb1644, 0, none⟩) (Kd.R_types HO_1656002.out BK1644.out (by decide)) (fun _ hk => hk.2) (.bool t1645)) (fun _ hk => hk.2) (.slice Ao56 t1646.length co56)) (fun _ hk => hk.2) (.slice Ao57 t1649.length co57)) (fun _ hk => hk.2) (.int .i64 t1652)) (fun _ hk => hk.2) (.int .i64 t1653)) (fun _ hk => hk.2) (.int .i64 t1654)) (fun _ hk => trivial), pkW HB.out⟩
      ·replace c73 := Bool.eq_false_iff.mpr c73
       subst c73
       replace H : (if 0 ≤ t1656 then (if t1656 < (l0_2.length : Int) then (if (rd_T67 l0_2 t1656).f1 = true then ((impl_Grant_80.f t1649 t1656 (wrap64 (t1656 + 1))).bind fun t1661 => (some (t1645, t1646, t1661, t1652, t1653, wrap64 (t1654 + 1), 0))) else ((impl_Grant_80.f t1649 t1656 (wrap64 (t1656 + 1))).bind fun t1664 => (some (t1645, t1646, t1664, t1652, t1653, t1654, 0)))) else (none)) else (none)) = some (r1, r2, r3, r4, r5, r6, r7) := by rw [if_neg (show ¬ (false = true) by decide)] at H; exact H
       by_cases c79 : 0 ≤ t1656
       ·rw [if_pos c79] at H
        have c79b0 : decide (0 ≤ t1656) = true := decide_eq_true c79
        clear c79
        by_cases c80 : t1656 < (l0_2.length : Int)
        ·rw [if_pos c80] at H
         have c80b0 : decide (t1656 < (l0_2.length : Int)) = true := decide_eq_true c80
         clear c80
         obtain ⟨bq81, hbq81⟩ : ∃ b_ : Bool, b_ = ((rd_T67 l0_2 t1656).f1) := ⟨_, rfl⟩
         replace H : (if bq81 = true then ((impl_Grant_80.f t1649 t1656 (wrap64 (t1656 + 1))).bind fun t1661 => (some (t1645, t1646, t1661, t1652, t1653, wrap64 (t1654 + 1), 0))) else ((impl_Grant_80.f t1649 t1656 (wrap64 (t1656 + 1))).bind fun t1664 => (some (t1645, t1646, t1664, t1652, t1653, t1654, 0)))) = some (r1, r2, r3, r4, r5, r6, r7) := by rw [← hbq81] at H; exact H
         have Nbq81 := am hbq81
         clear hbq81
         by_cases c82 : bq81 = true
         ·subst c82
          replace H : ((impl_Grant_80.f t1649 t1656 (wrap64 (t1656 + 1))).bind fun t1661 => (some (t1645, t1646, t1661, t1652, t1653, wrap64 (t1654 + 1), 0))) = some (r1, r2, r3, r4, r5, r6, r7) := by rw [if_pos rfl] at H; exact H
          replace H := Option.bind_eq_some_iff.mp H
          obtain ⟨t1661, A830, H⟩ := H
          replace H : (some (t1645, t1646, t1661, t1652, t1653, wrap64 (t1654 + 1), 0)) = some (r1, r2, r3, r4, r5, r6, r7) := H
          have A83 := am A830
          clear A830
          simp only [Option.some.injEq, Prod.mk.injEq] at H
          obtain ⟨rfl, rfl, rfl, rfl, rfl, rfl, rfl⟩ := H
          have hnb84 := NB1643_1644.out
          have hnc84 := NB1644_1643.out
          have hnb85 := NB1643_1655.out
          have hnc85 := NB1655_1643.out
          obtain ⟨hcz86_0, hcz86_1, hcz86_2, hcz86_3, hcz86_4, hcz86_5, hfz86_0, hfz86_1, hfz86_2, hfz86_3, hfz86_4, hfz86_5⟩ := bk6 BK1643.out
          have p1660 : 0 ≤ (t1656 : Int) := ofd
          have q1660 : t1656 < (l0_2.length : Int) := ofd
          obtain ⟨ad1660, e1660, hx1660_0, hx1660_1⟩ := at_T67 HR0_2.out t1656 p1660 q1660
          (try rw [← Nbq81.out] at hx1660_1)
          cases e1660
          replace hx1660_0 := (HB.out.cell (World.block_lt_of_cell? w _ hx1660_0)).trans hx1660_0
          replace hx1660_1 := (HB.out.cell (World.block_lt_of_cell? w _ hx1660_1)).trans hx1660_1
          replace p1660 := eq_true p1660
          replace q1660 := eq_true q1660
          have hnb87 := NB1655_1644.out
          have hnc87 := NB1644_1655.out
          obtain ⟨hcz88_0, hcz88_1, hcz88_2, hcz88_3, hcz88_4, hcz88_5, hfz88_0, hfz88_1, hfz88_2, hfz88_3, hfz88_4, hfz88_5⟩ := bk6 BK1655.out
          go_wp2_with (first | ((with_reducible refine gate_store (t := 3) (p := 52) rfl ?_); refine store_event (t := 3) (p := 52) (v := ?vo_w89) (w1 := (wc.setCell ⟨gb1655, 5, none⟩ (.int .i64 (wrap64 (t1654 + 1))))) ?hg ?ho ?hn ?hr ?_; (case ho => rfl); (case hg => rfl); (case hn => rfl); (case hr => first | (go_simp; done) | (go_simp; rfl)); intro w89 hw; replace HO_1656001 : Aside0 (Kd.R (Kd.int .i64) 3 w89 w.heap.size (fun _ => True) (.slice Ao56 t1646.length co56) t1646) := ⟨(by rw [hw]; exact (by (with_reducible repeat (first | apply Kd.R_alloc | apply Kd.R_drewN | apply Kd.R_drew)); exact Kd.R_mono (Kd.R_far (p := ⟨gb1655, 5, none⟩) (Kd.R_types HO_1656001.out BK1655.out (by decide)) (fun _ hk => hk.2) (.int .i64 (wrap64 (t1654 + 1)))) (fun _ hk => trivial)))⟩; replace HO_1656002 : Aside0 (Kd.R k67 67 w89 w.heap.size (fun _ => True) (.slice Ao57 t1649.length co57) t1649) := ⟨(by rw [hw]; exact (by (with_reducible repeat (first | apply Kd.R_alloc | apply Kd.R_drewN | apply Kd.R_drew)); exact Kd.R_mono (Kd.R_far (p := ⟨gb1655, 5, none⟩) (Kd.R_types HO_1656002.out BK1655.out (by decide)) (fun _ hk => hk.2) (.int .i64 (wrap64 (t1654 + 1)))) (fun _ hk => trivial)))⟩; replace BK1643 : Aside0 (w89.heap[gb1643]? = some (.cells #[.bool a0_0, .slice A0_1 l0_1.length c0_1, .slice (some ad1660) l0_2.length c0_2, .int .i64 a0_3, .int .i64 a0_4, .int .i64 a0_5] 38 (0, 0))) := ⟨(by rw [hw]; exact (by (with_reducible repeat (first | refine blk_drewN ?_ _ | refine blk_drew ?_ | refine blk_alloc ?_ _)); refine blk_far ?_ NB1643_1655.out _; exact pkK BK1643.out))⟩; replace BK1644 : Aside0 (w89.heap[gb1644]? = some (.cells #[.bool false, .slice none 0 0, .slice none 0 0, .int .i64 0, .int .i64 0, .int .i64 0] 38 (0, 0))) := ⟨(by rw [hw]; exact (by (with_reducible repeat (first | refine blk_drewN ?_ _ | refine blk_drew ?_ | refine blk_alloc ?_ _)); refine blk_far ?_ NB1644_1655.out _; exact pkK BK1644.out))⟩; replace BK1655 : Aside0 (w89.heap[gb1655]? = some (.cells #[.bool t1645, .slice Ao56 t1646.length co56, .slice Ao57 t1649.length co57, .int .i64 t1652, .int .i64 t1653, .int .i64 (wrap64 (t1654 + 1))] 38 (0, 0))) := ⟨(by rw [hw]; exact (by (with_reducible repeat (first | refine blk_drewN ?_ _ | refine blk_drew ?_ | refine blk_alloc ?_ _)); refine blk_put (cs := #[.bool t1645, .slice Ao56 t1646.length co56, .slice Ao57 t1649.length co57, .int .i64 t1652, .int .i64 t1653, .int .i64 t1654]) ?_ 5 _ rfl; exact pkK BK1655.out))⟩; replace HB : Aside0 (Below w.heap.size w w89) := ⟨(by rw [hw]; exact (pkW HB.out))⟩; clear hw; obtain ⟨hcz90_0, hcz90_1, hcz90_2, hcz90_3, hcz90_4, hcz90_5, hfz90_0, hfz90_1, hfz90_2, hfz90_3, hfz90_4, hfz90_5⟩ := bk6 BK1655.out) | ((with_reducible refine gate_callee (f := 80) rfl ?_); refine goesL_ (some 58) rfl rfl Try.func80 (by kernel_rfl) rfl #[.slice Ao57 t1649.length co57, .int .i64 t1656, .int .i64 (wrap64 (t1656 + 1))] rfl mpx ?_; (with_reducible refine (impl_Grant_80.calls (fun k_ => some k_ = (.slice Ao57 t1649.length co57 : Value).ownBlock) (.slice Ao57 t1649.length co57) t1649 t1656 (wrap64 (t1656 + 1)) t1661 w _ ?side1 ?side2 A83.out).mono ?_); (case side1 => repeat (first | (with_reducible first | exact HB.out | apply below_alloc | apply pw_below_drewN | apply below_drew1 | refine below_set ?_ GE1643.out | refine below_set ?_ GE1644.out | refine below_set ?_ GE1655.out) | exact HB.out)); (case side2 => exact Kd.R_tight rfl HO_1656002.out); rintro e w91 ⟨v1662, rfl, ho0, hb, hkp⟩; refine ⟨_, rfl, ?_⟩; replace HO_1656001 := am (Kd.R_mono (ok' := fun k_ => True) (Kd.R_keptB ((Kd.R_apart' HO_1656001.out (Kd.R_typed HO_1656002.out) (by decide))) hkp (fun k_ hk_ hs_ => (hk_.2) hs_)) (fun k_ hk_ => trivial)); replace BK1643 := am (blk_kept (pkK BK1643.out) hkp (fun hs_ => (fun e_ => (Kd.R_ne HO_1656002.out BK1643.out (by decide)) e_) hs_)); replace BK1644 := am (blk_kept (pkK BK1644.out) hkp (fun hs_ => (fun e_ => (Kd.R_ne HO_1656002.out BK1644.out (by decide)) e_) hs_)); replace BK1655 := am (blk_kept (pkK BK1655.out) hkp (fun hs_ => (fun e_ => (Kd.R_ne HO_1656002.out BK1655.out (by decide)) e_) hs_)); have HO1663 := am (Kd.R_mono (ok' := fun k_ => True) ho0 (fun k_ hk_ => trivial)); replace HB := am (hb); clear HO_1656002; (try clear hb); (try clear hkp); (try clear ho0); obtain ⟨Ao92, co92, eo92⟩ := Kd.R_slice HO1663.out; subst eo92; obtain ⟨hcz93_0, hcz93_1, hcz93_2, hcz93_3, hcz93_4, hcz93_5, hfz93_0, hfz93_1, hfz93_2, hfz93_3, hfz93_4, hfz93_5⟩ := bk6 BK1655.out; obtain ⟨hcz94_0, hcz94_1, hcz94_2, hcz94_3, hcz94_4, hcz94_5, hfz94_0, hfz94_1, hfz94_2, hfz94_3, hfz94_4, hfz94_5⟩ := bk6 BK1644.out))
          refine bodyPost_ret (results_ct rfl _ _ gb1644 38 #[.bool t1645, .slice Ao56 t1646.length co56, .slice Ao92 t1661.length co92, .int .i64 t1652, .int .i64 t1653, .int .i64 (wrap64 (t1654 + 1))] (0, 0) _ rfl (by (with_reducible repeat (first | refine blk_drewN ?_ _ | refine blk_drew ?_ | refine blk_alloc ?_ _)); refine blk_put (cs := #[.bool t1645, .slice Ao56 t1646.length co56, .slice Ao92 t1661.length co92, .int .i64 t1652, .int .i64 t1653, .int .i64 0]) ?_ 5 _ rfl; (with_reducible repeat (first | refine blk_drewN ?_ _ | refine blk_drew ?_ | refine blk_alloc ?_ _)); refine blk_put (cs := #[.bool t1645, .slice Ao56 t1646.length co56, .slice Ao92 t1661.length co92, .int .i64 t1652, .int .i64 0, .int .i64 0]) ?_ 4 _ rfl; (with_reducible repeat (first | refine blk_drewN ?_ _ | refine blk_drew ?_ | refine blk_alloc ?_ _)); refine blk_put (cs := #[.bool t1645, .slice Ao56 t1646.length co56, .slice Ao92 t1661.length co92, .int .i64 0, .int .i64 0, .int .i64 0]) ?_ 3 _ rfl; (with_reducible repeat (first | refine blk_drewN ?_ _ | refine blk_drew ?_ | refine blk_alloc ?_ _)); refine blk_put (cs := #[.bool t1645, .slice Ao56 t1646.length co56, .slice none 0 0, .int .i64 0, .int .i64 0, .int .i64 0]) ?_ 2 _ rfl; (with_reducible repeat (first | refine blk_drewN ?_ _ | refine blk_drew ?_ | refine blk_alloc ?_ _)); refine blk_put (cs := #[.bool t1645, .slice none 0 0, .slice none 0 0, .int .i64 0, .int .i64 0, .int .i64 0]) ?_ 1 _ rfl; (with_reducible repeat (first | refine blk_drewN ?_ _ | refine blk_drew ?_ | refine blk_alloc ?_ _)); refine blk_put (cs := #[.bool false, .slice none 0 0, .slice none 0 0, .int .i64 0, .int .i64 0, .int .i64 0]) ?_ 0 _ rfl; (with_reducible repeat (first | refine blk_drewN ?_ _ | refine blk_drew ?_ | refine blk_alloc ?_ _)); refine blk_far ?_ NB1644_1655.out _; exact pkK BK1644.out) Try.underlying38 rfl (by kernel_rfl)) rfl ?_
          exact ⟨_, _, rfe, by (with_reducible repeat (first | apply Kd.R_alloc | apply Kd.R_drewN | apply Kd.R_drew)); exact Kd.R_mono (Kd.R_far (p := ⟨gb1644, 5, none⟩) (Kd.R_far (p := ⟨gb1644, 4, none⟩) (Kd.R_far (p := ⟨gb1644, 3, none⟩) (Kd.R_far (p := ⟨gb1644, 2, none⟩) (Kd.R_far (p := ⟨gb1644, 1, none⟩) (Kd.R_far (p := ⟨gb1644, 0, none⟩) (Kd.R_far (p := ⟨gb1655, 2, none⟩) (Kd.R_types (Kd.R_types HO_1656001.out BK1655.out (by decide)) BK1644.out (by decide)) (fun _ hk => hk.1.2) (.slice Ao92 t1661.length co92)) (fun _ hk => hk.2) (.bool t1645)) (fun _ hk => hk.2) (.slice Ao56 t1646.length co56)) (fun _ hk => hk.2) (.slice Ao92 t1661.length co92)) (fun _ hk => hk.2) (.int .i64 t1652)) (fun _ hk => hk.2) (.int .i64 t1653)) (fun _ hk => hk.2) (.int .i64 (wrap64 (t1654 + 1)))) (fun _ hk => trivial), by (with_reducible repeat (first | apply Kd.R_alloc | apply Kd.R_drewN | apply Kd.R_drew)); exact Kd.R_mono (Kd.R_far (p := ⟨gb1644, 5, none⟩) (Kd.R_far (p := ⟨gb1644, 4, none⟩) (Kd.R_far (p := ⟨gb1644, 3, none⟩) (Kd.R_far (p := ⟨gb1644, 2, none⟩) (Kd.R_far (p := ⟨gb1644, 1, none⟩) (Kd.R_far (p := ⟨gb1644, 0, none⟩) (Kd.R_far (p := ⟨gb1655, 2, none⟩) (Kd.R_types (Kd.R_types HO1663.out BK1655.out (by decide)) BK1644.out (by decide)) (fun _ hk => hk.1.2) (.slice Ao92 t1661.length co92)) (fun _ hk => hk.2) (.bool t1645)) (fun _ hk => hk.2) (.slice Ao56 t1646.length co56)) (fun _ hk => hk.2) (.slice Ao92 t1661.length co92)) (fun _ hk => hk.2) (.int .i64 t1652)) (fun _ hk => hk.2) (.int .i64 t1653)) (fun _ hk => hk.2) (.int .i64 (wrap64 (t1654 + 1)))) (fun _ hk => trivial), pkW HB.out⟩
         ·replace c82 := Bool.eq_false_iff.mpr c82
          subst c82
          replace H : ((impl_Grant_80.f t1649 t1656 (wrap64 (t1656 + 1))).bind fun t1664 => (some (t1645, t1646, t1664, t1652, t1653, t1654, 0))) = some (r1, r2, r3, r4, r5, r6, r7) := by rw [if_neg (show ¬ (false = true) by decide)] at H; exact H
          replace H := Option.bind_eq_some_iff.mp H
          obtain ⟨t1664, A950, H⟩ := H
          replace H : (some (t1645, t1646, t1664, t1652, t1653, t1654, 0)) = some (r1, r2, r3, r4, r5, r6, r7) := H
          have A95 := am A950
          clear A950
          simp only [Option.some.injEq, Prod.mk.injEq] at H
          obtain ⟨rfl, rfl, rfl, rfl, rfl, rfl, rfl⟩ := H
          have hnb96 := NB1643_1644.out
          have hnc96 := NB1644_1643.out
          have hnb97 := NB1643_1655.out
          have hnc97 := NB1655_1643.out
          obtain ⟨hcz98_0, hcz98_1, hcz98_2, hcz98_3, hcz98_4, hcz98_5, hfz98_0, hfz98_1, hfz98_2, hfz98_3, hfz98_4, hfz98_5⟩ := bk6 BK1643.out
          have p1660 : 0 ≤ (t1656 : Int) := ofd
          have q1660 : t1656 < (l0_2.length : Int) := ofd
          obtain ⟨ad1660, e1660, hx1660_0, hx1660_1⟩ := at_T67 HR0_2.out t1656 p1660 q1660
          (try rw [← Nbq81.out] at hx1660_1)
          cases e1660
          replace hx1660_0 := (HB.out.cell (World.block_lt_of_cell? w _ hx1660_0)).trans hx1660_0
          replace hx1660_1 := (HB.out.cell (World.block_lt_of_cell? w _ hx1660_1)).trans hx1660_1
          replace p1660 := eq_true p1660
          replace q1660 := eq_true q1660
          have hnb99 := NB1655_1644.out
          have hnc99 := NB1644_1655.out
          obtain ⟨hcz100_0, hcz100_1, hcz100_2, hcz100_3, hcz100_4, hcz100_5, hfz100_0, hfz100_1, hfz100_2, hfz100_3, hfz100_4, hfz100_5⟩ := bk6 BK1655.out
          go_wp2_with (first | ((with_reducible refine gate_callee (f := 80) rfl ?_); refine goesL_ (some 58) rfl rfl Try.func80 (by kernel_rfl) rfl #[.slice Ao57 t1649.length co57, .int .i64 t1656, .int .i64 (wrap64 (t1656 + 1))] rfl mpx ?_; (with_reducible refine (impl_Grant_80.calls (fun k_ => some k_ = (.slice Ao57 t1649.length co57 : Value).ownBlock) (.slice Ao57 t1649.length co57) t1649 t1656 (wrap64 (t1656 + 1)) t1664 w _ ?side1 ?side2 A95.out).mono ?_); (case side1 => repeat (first | (with_reducible first | exact HB.out | apply below_alloc | apply pw_below_drewN | apply below_drew1 | refine below_set ?_ GE1643.out | refine below_set ?_ GE1644.out | refine below_set ?_ GE1655.out) | exact HB.out)); (case side2 => exact Kd.R_tight rfl HO_1656002.out); rintro e w101 ⟨v1665, rfl, ho0, hb, hkp⟩; refine ⟨_, rfl, ?_⟩; replace HO_1656001 := am (Kd.R_mono (ok' := fun k_ => True) (Kd.R_keptB ((Kd.R_apart' HO_1656001.out (Kd.R_typed HO_1656002.out) (by decide))) hkp (fun k_ hk_ hs_ => (hk_.2) hs_)) (fun k_ hk_ => trivial)); replace BK1643 := am (blk_kept (pkK BK1643.out) hkp (fun hs_ => (fun e_ => (Kd.R_ne HO_1656002.out BK1643.out (by decide)) e_) hs_)); replace BK1644 := am (blk_kept (pkK BK1644.out) hkp (fun hs_ => (fun e_ => (Kd.R_ne HO_1656002.out BK1644.out (by decide)) e_) hs_)); replace BK1655 := am (blk_kept (pkK BK1655.out) hkp (fun hs_ => (fun e_ => (Kd.R_ne HO_1656002.out BK1655.out (by decide)) e_) hs_)); have HO1666 := am (Kd.R_mono (ok' := fun k_ => True) ho0 (fun k_ hk_ => trivial)); replace HB := am (hb); clear HO_1656002; (try clear hb); (try clear hkp); (try clear ho0); obtain ⟨Ao102, co102, eo102⟩ := Kd.R_slice HO1666.out; subst eo102; obtain ⟨hcz103_0, hcz103_1, hcz103_2, hcz103_3, hcz103_4, hcz103_5, hfz103_0, hfz103_1, hfz103_2, hfz103_3, hfz103_4, hfz103_5⟩ := bk6 BK1655.out; obtain ⟨hcz104_0, hcz104_1, hcz104_2, hcz104_3, hcz104_4, hcz104_5, hfz104_0, hfz104_1, hfz104_2, hfz104_3, hfz104_4, hfz104_5⟩ := bk6 BK1644.out))
          refine bodyPost_ret (results_ct rfl _ _ gb1644 38 #[.bool t1645, .slice Ao56 t1646.length co56, .slice Ao102 t1664.length co102, .int .i64 t1652, .int .i64 t1653, .int .i64 t1654] (0, 0) _ rfl (by (with_reducible repeat (first | refine blk_drewN ?_ _ | refine blk_drew ?_ | refine blk_alloc ?_ _)); refine blk_put (cs := #[.bool t1645, .slice Ao56 t1646.length co56, .slice Ao102 t1664.length co102, .int .i64 t1652, .int .i64 t1653, .int .i64 0]) ?_ 5 _ rfl; (with_reducible repeat (first | refine blk_drewN ?_ _ | refine blk_drew ?_ | refine blk_alloc ?_ _)); refine blk_put (cs := #[.bool t1645, .slice Ao56 t1646.length co56, .slice Ao102 t1664.length co102, .int .i64 t1652, .int .i64 0, .int .i64 0]) ?_ 4 _ rfl; (with_reducible repeat (first | refine blk_drewN ?_ _ | refine blk_drew ?_ | refine blk_alloc ?_ _)); refine blk_put (cs := #[.bool t1645, .slice Ao56 t1646.length co56, .slice Ao102 t1664.length co102, .int .i64 0, .int .i64 0, .int .i64 0]) ?_ 3 _ rfl; (with_reducible repeat (first | refine blk_drewN ?_ _ | refine blk_drew ?_ | refine blk_alloc ?_ _)); refine blk_put (cs := #[.bool t1645, .slice Ao56 t1646.length co56, .slice none 0 0, .int .i64 0, .int .i64 0, .int .i64 0]) ?_ 2 _ rfl; (with_reducible repeat (first | refine blk_drewN ?_ _ | refine blk_drew ?_ | refine blk_alloc ?_ _)); refine blk_put (cs := #[.bool t1645, .slice none 0 0, .slice none 0 0, .int .i64 0, .int .i64 0, .int .i64 0]) ?_ 1 _ rfl; (with_reducible repeat (first | refine blk_drewN ?_ _ | refine blk_drew ?_ | refine blk_alloc ?_ _)); refine blk_put (cs := #[.bool false, .slice none 0 0, .slice none 0 0, .int .i64 0, .int .i64 0, .int .i64 0]) ?_ 0 _ rfl; (with_reducible repeat (first | refine blk_drewN ?_ _ | refine blk_drew ?_ | refine blk_alloc ?_ _)); refine blk_far ?_ NB1644_1655.out _; exact pkK BK1644.out) Try.underlying38 rfl (by kernel_rfl)) rfl ?_
          exact ⟨_, _, rfe, by (with_reducible repeat (first | apply Kd.R_alloc | apply Kd.R_drewN | apply Kd.R_drew)); exact Kd.R_mono (Kd.R_far (p := ⟨gb1644, 5, none⟩) (Kd.R_far (p := ⟨gb1644, 4, none⟩) (Kd.R_far (p := ⟨gb1644, 3, none⟩) (Kd.R_far (p := ⟨gb1644, 2, none⟩) (Kd.R_far (p := ⟨gb1644, 1, none⟩) (Kd.R_far (p := ⟨gb1644, 0, none⟩) (Kd.R_far (p := ⟨gb1655, 2, none⟩) (Kd.R_types (Kd.R_types HO_1656001.out BK1655.out (by decide)) BK1644.out (by decide)) (fun _ hk => hk.1.2) (.slice Ao102 t1664.length co102)) (fun _ hk => hk.2) (.bool t1645)) (fun _ hk => hk.2) (.slice Ao56 t1646.length co56)) (fun _ hk => hk.2) (.slice Ao102 t1664.length co102)) (fun _ hk => hk.2) (.int .i64 t1652)) (fun _ hk => hk.2) (.int .i64 t1653)) (fun _ hk => hk.2) (.int .i64 t1654)) (fun _ hk => trivial), by (with_reducible repeat (first | apply Kd.R_alloc | apply Kd.R_drewN | apply Kd.R_drew)); exact Kd.R_mono (Kd.R_far (p := ⟨gb1644, 5, none⟩) (Kd.R_far (p := ⟨gb1644, 4, none⟩) (Kd.R_far (p := ⟨gb1644, 3, none⟩) (Kd.R_far (p := ⟨gb1644, 2, none⟩) (Kd.R_far (p := ⟨gb1644, 1, none⟩) (Kd.R_far (p := ⟨gb1644, 0, none⟩) (Kd.R_far (p := ⟨gb1655, 2, none⟩) (Kd.R_types (Kd.R_types HO1666.out BK1655.out (by decide)) BK1644.out (by decide)) (fun _ hk => hk.1.2) (.slice Ao102 t1664.length co102)) (fun _ hk => hk.2) (.bool t1645)) (fun _ hk => hk.2) (.slice Ao56 t1646.length co56)) (fun _ hk => hk.2) (.slice Ao102 t1664.length co102)) (fun _ hk => hk.2) (.int .i64 t1652)) (fun _ hk => hk.2) (.int .i64 t1653)) (fun _ hk => hk.2) (.int .i64 t1654)) (fun _ hk => trivial), pkW HB.out⟩
        ·rw [if_neg c80] at H
         exact absurd H (by simp)
       ·rw [if_neg c79] at H
        exact absurd H (by simp)
 ·replace c6 := Bool.eq_false_iff.mpr c6
  subst c6
  replace H : (some (t1645, t1646, t1649, t1652, t1653, t1654, 1)) = some (r1, r2, r3, r4, r5, r6, r7) := by rw [if_neg (show ¬ (false = true) by decide)] at H; exact H
  simp only [Option.some.injEq, Prod.mk.injEq] at H
  obtain ⟨rfl, rfl, rfl, rfl, rfl, rfl, rfl⟩ := H
  go_enter Try.func49, Try.ntmps49
  go_wp2_with (first | ((with_reducible refine gate_dst (N := 2) rfl ?_); refine box_event ?hg (N := 2) ?hd (cs := #[.bool a0_0, .slice A0_1 l0_1.length c0_1, .slice A0_2 l0_2.length c0_2, .int .i64 a0_3, .int .i64 a0_4, .int .i64 a0_5]) (t := 38) ?hr ?_; (case hd => rfl); (case hg => rfl); (case hr => first | (go_simp; done) | (go_simp; rfl)); intro gb1643 hg w105 hbox hb; have BK1643 := am (hbox); have GW1643 := am ((by rw [hg]; exact (below_size (pkB HB.out)) : w.heap.size ≤ gb1643)); have GE1643 := am ((by rw [hg]; exact (below_size (pkB HB.out)) : w.heap.size ≤ gb1643)); replace HB := am (below_step (pkB HB.out) hb); clear hb hbox hg) | ((with_reducible refine gate_dst (N := 4) rfl ?_); refine box_event ?hg (N := 4) ?hd (cs := #[.bool false, .slice none 0 0, .slice none 0 0, .int .i64 0, .int .i64 0, .int .i64 0]) (t := 38) ?hr ?_; (case hd => rfl); (case hg => rfl); (case hr => first | (go_simp; done) | (go_simp; rfl)); intro gb1644 hg w106 hbox hb; have BK1644 := am (hbox); have GW1644 := am ((by rw [hg]; exact (below_size (pkW HB.out)) : w.heap.size ≤ gb1644)); have GE1644 := am ((by rw [hg]; exact (below_size (pkW HB.out)) : w.heap.size ≤ gb1644)); replace HB := am (below_step (pkW HB.out) hb); have NB1643_1644 := am ((by rw [hg]; exact Nat.ne_of_lt (blk_lt (g := gb1643) (o := .cells #[.bool a0_0, .slice A0_1 l0_1.length c0_1, .slice A0_2 l0_2.length c0_2, .int .i64 a0_3, .int .i64 a0_4, .int .i64 a0_5] 38 (0, 0)) (pkK BK1643.out)) : gb1643 ≠ gb1644)); have NB1644_1643 := am ((by rw [hg]; exact Nat.ne_of_gt (blk_lt (g := gb1643) (o := .cells #[.bool a0_0, .slice A0_1 l0_1.length c0_1, .slice A0_2 l0_2.length c0_2, .int .i64 a0_3, .int .i64 a0_4, .int .i64 a0_5] 38 (0, 0)) (pkK BK1643.out)) : gb1644 ≠ gb1643)); replace BK1643 := am (blk_below (pkK BK1643.out) hb); clear hb hbox hg; have hnb107 := NB1643_1644.out; have hnc107 := NB1644_1643.out; obtain ⟨hcz108_0, hcz108_1, hcz108_2, hcz108_3, hcz108_4, hcz108_5, hfz108_0, hfz108_1, hfz108_2, hfz108_3, hfz108_4, hfz108_5⟩ := bk6 BK1643.out) | ((with_reducible refine gate_callee (f := 71) rfl ?_); refine goesL_ (some 9) rfl rfl Try.func71 (by kernel_rfl) rfl #[.agg #[.bool a0_0, .slice A0_1 l0_1.length c0_1, .slice A0_2 l0_2.length c0_2, .int .i64 a0_3, .int .i64 a0_4, .int .i64 a0_5]] rfl mpx ?_; (with_reducible refine (impl_copyNotify.calls a0_0 _ _ l0_1 _ _ l0_2 a0_3 a0_4 a0_5 t1645 t1646 t1649 t1652 t1653 t1654 _ ?side1 ?side2 ?side3 ?side4 A3.out).mono ?_); (case side1 => exact pkC (Kd.C_below HR0_1.out HB.out)); (case side2 => exact HC0_1.out); (case side3 => exact pkC (Kd.C_below HR0_2.out HB.out)); (case side4 => exact HC0_2.out); rintro e w109 ⟨v1647, v1650, rfl, ho0, ho1, hb⟩; refine ⟨_, rfl, ?_⟩; have HO1648 := am (Kd.R_lower ho0 (below_size (pkW HB.out))); have HO1651 := am (Kd.R_lower ho1 (below_size (pkW HB.out))); replace BK1643 := am (blk_below (pkK BK1643.out) hb); replace BK1644 := am (blk_below (pkK BK1644.out) hb); replace HB := am (below_step (pkW HB.out) hb); (try clear hb ho0 ho1)) | ((with_reducible refine gate_dst (N := 6) rfl ?_); refine box_event ?hg (N := 6) ?hd (cs := #[.bool false, .slice none 0 0, .slice none 0 0, .int .i64 0, .int .i64 0, .int .i64 0]) (t := 38) ?hr ?_; (case hd => rfl); (case hg => rfl); (case hr => first | (go_simp; done) | (go_simp; rfl)); intro gb1655 hg w110 hbox hb; replace HO1648 := am (Kd.R_below (pkR HO1648.out) hb); replace HO1651 := am (Kd.R_below (pkR HO1651.out) hb); have BK1655 := am (hbox); have GW1655 := am ((by rw [hg]; exact (below_size (pkW HB.out)) : w.heap.size ≤ gb1655)); have GE1655 := am ((by rw [hg]; exact (below_size (pkW HB.out)) : w.heap.size ≤ gb1655)); replace HB := am (below_step (pkW HB.out) hb); have NB1643_1655 := am ((by rw [hg]; exact Nat.ne_of_lt (blk_lt (g := gb1643) (o := .cells #[.bool a0_0, .slice A0_1 l0_1.length c0_1, .slice A0_2 l0_2.length c0_2, .int .i64 a0_3, .int .i64 a0_4, .int .i64 a0_5] 38 (0, 0)) (pkK BK1643.out)) : gb1643 ≠ gb1655)); have NB1655_1643 := am ((by rw [hg]; exact Nat.ne_of_gt (blk_lt (g := gb1643) (o := .cells #[.bool a0_0, .slice A0_1 l0_1.length c0_1, .slice A0_2 l0_2.length c0_2, .int .i64 a0_3, .int .i64 a0_4, .int .i64 a0_5] 38 (0, 0)) (pkK BK1643.out)) : gb1655 ≠ gb1643)); replace BK1643 := am (blk_below (pkK BK1643.out) hb); have NB1644_1655 := am ((by rw [hg]; exact Nat.ne_of_lt (blk_lt (g := gb1644) (o := .cells #[.bool false, .slice none 0 0, .slice none 0 0, .int .i64 0, .int .i64 0, .int .i64 0] 38 (0, 0)) (pkK BK1644.out)) : gb1644 ≠ gb1655)); have NB1655_1644 := am ((by rw [hg]; exact Nat.ne_of_gt (blk_lt (g := gb1644) (o := .cells #[.bool false, .slice none 0 0, .slice none 0 0, .int .i64 0, .int .i64 0, .int .i64 0] 38 (0, 0)) (pkK BK1644.out)) : gb1655 ≠ gb1644)); replace BK1644 := am (blk_below (pkK BK1644.out) hb); clear hb hbox hg; have hnb111 := NB1655_1643.out; have hnc111 := NB1643_1655.out; have hnb112 := NB1655_1644.out; have hnc112 := NB1644_1655.out; obtain ⟨hcz113_0, hcz113_1, hcz113_2, hcz113_3, hcz113_4, hcz113_5, hfz113_0, hfz113_1, hfz113_2, hfz113_3, hfz113_4, hfz113_5⟩ := bk6 BK1655.out; obtain ⟨Ao114, co114, eo114⟩ := Kd.R_slice HO1648.out; subst eo114; obtain ⟨Ao115, co115, eo115⟩ := Kd.R_slice HO1651.out; subst eo115; obtain ⟨hcz116_0, hcz116_1, hcz116_2, hcz116_3, hcz116_4, hcz116_5, hfz116_0, hfz116_1, hfz116_2, hfz116_3, hfz116_4, hfz116_5⟩ := bk6 BK1643.out) | ((with_reducible refine gate_callee (f := 78) rfl ?_); refine goesL_ (some 13) rfl rfl Try.func78 (by kernel_rfl) rfl #[.slice A0_2 l0_2.length c0_2, .int .i64 a1] rfl mpx ?_; (with_reducible refine (impl_grantAt.calls k _ _ l0_2 a1 t1656 _ ?side1 ?side2 A4.out).mono ?_); (case side1 => exact Kd.C_below HR0_2.out (pkW HB.out)); (case side2 => exact HC0_2.out); rintro e w117 ⟨rfl, hb⟩; refine ⟨_, rfl, ?_⟩; replace HO1648 := am (Kd.R_below (by (with_reducible repeat (first | apply Kd.R_alloc | apply Kd.R_drewN | apply Kd.R_drew)); exact (Kd.R_mono (Kd.R_far (p := ⟨gb1655, 5, none⟩) (Kd.R_far (p := ⟨gb1655, 4, none⟩) (Kd.R_far (p := ⟨gb1655, 3, none⟩) (Kd.R_far (p := ⟨gb1655, 2, none⟩) (Kd.R_far (p := ⟨gb1655, 1, none⟩) (Kd.R_far (p := ⟨gb1655, 0, none⟩) (Kd.R_types HO1648.out BK1655.out (by decide)) (fun _ hk => hk.2) (.bool t1645)) (fun _ hk => hk.2) (.slice Ao114 t1646.length co114)) (fun _ hk => hk.2) (.slice Ao115 t1649.length co115)) (fun _ hk => hk.2) (.int .i64 t1652)) (fun _ hk => hk.2) (.int .i64 t1653)) (fun _ hk => hk.2) (.int .i64 t1654)) (fun _ h_ => h_.1))) hb); replace HO1651 := am (Kd.R_below (by (with_reducible repeat (first | apply Kd.R_alloc | apply Kd.R_drewN | apply Kd.R_drew)); exact (Kd.R_mono (Kd.R_far (p := ⟨gb1655, 5, none⟩) (Kd.R_far (p := ⟨gb1655, 4, none⟩) (Kd.R_far (p := ⟨gb1655, 3, none⟩) (Kd.R_far (p := ⟨gb1655, 2, none⟩) (Kd.R_far (p := ⟨gb1655, 1, none⟩) (Kd.R_far (p := ⟨gb1655, 0, none⟩) (Kd.R_types HO1651.out BK1655.out (by decide)) (fun _ hk => hk.2) (.bool t1645)) (fun _ hk => hk.2) (.slice Ao114 t1646.length co114)) (fun _ hk => hk.2) (.slice Ao115 t1649.length co115)) (fun _ hk => hk.2) (.int .i64 t1652)) (fun _ hk => hk.2) (.int .i64 t1653)) (fun _ hk => hk.2) (.int .i64 t1654)) (fun _ h_ => h_.1))) hb); replace BK1643 := am (blk_below (g := gb1643) (o := .cells #[.bool a0_0, .slice A0_1 l0_1.length c0_1, .slice A0_2 l0_2.length c0_2, .int .i64 a0_3, .int .i64 a0_4, .int .i64 a0_5] 38 (0, 0)) (by (with_reducible repeat (first | refine blk_drewN ?_ _ | refine blk_drew ?_ | refine blk_alloc ?_ _)); refine blk_far ?_ NB1643_1655.out _; (with_reducible repeat (first | refine blk_drewN ?_ _ | refine blk_drew ?_ | refine blk_alloc ?_ _)); refine blk_far ?_ NB1643_1655.out _; (with_reducible repeat (first | refine blk_drewN ?_ _ | refine blk_drew ?_ | refine blk_alloc ?_ _)); refine blk_far ?_ NB1643_1655.out _; (with_reducible repeat (first | refine blk_drewN ?_ _ | refine blk_drew ?_ | refine blk_alloc ?_ _)); refine blk_far ?_ NB1643_1655.out _; (with_reducible repeat (first | refine blk_drewN ?_ _ | refine blk_drew ?_ | refine blk_alloc ?_ _)); refine blk_far ?_ NB1643_1655.out _; (with_reducible repeat (first | refine blk_drewN ?_ _ | refine blk_drew ?_ | refine blk_alloc ?_ _)); refine blk_far ?_ NB1643_1655.out _; exact pkK BK1643.out) hb); replace BK1644 := am (blk_below (g := gb1644) (o := .cells #[.bool false, .slice none 0 0, .slice none 0 0, .int .i64 0, .int .i64 0, .int .i64 0] 38 (0, 0)) (by (with_reducible repeat (first | refine blk_drewN ?_ _ | refine blk_drew ?_ | refine blk_alloc ?_ _)); refine blk_far ?_ NB1644_1655.out _; (with_reducible repeat (first | refine blk_drewN ?_ _ | refine blk_drew ?_ | refine blk_alloc ?_ _)); refine blk_far ?_ NB1644_1655.out _; (with_reducible repeat (first | refine blk_drewN ?_ _ | refine blk_drew ?_ | refine blk_alloc ?_ _)); refine blk_far ?_ NB1644_1655.out _; (with_reducible repeat (first | refine blk_drewN ?_ _ | refine blk_drew ?_ | refine blk_alloc ?_ _)); refine blk_far ?_ NB1644_1655.out _; (with_reducible repeat (first | refine blk_drewN ?_ _ | refine blk_drew ?_ | refine blk_alloc ?_ _)); refine blk_far ?_ NB1644_1655.out _; (with_reducible repeat (first | refine blk_drewN ?_ _ | refine blk_drew ?_ | refine blk_alloc ?_ _)); refine blk_far ?_ NB1644_1655.out _; exact pkK BK1644.out) hb); replace BK1655 := am (blk_below (g := gb1655) (o := .cells #[.bool t1645, .slice Ao114 t1646.length co114, .slice Ao115 t1649.length co115, .int .i64 t1652, .int .i64 t1653, .int .i64 t1654] 38 (0, 0)) (by (with_reducible repeat (first | refine blk_drewN ?_ _ | refine blk_drew ?_ | refine blk_alloc ?_ _)); refine blk_put (cs := #[.bool t1645, .slice Ao114 t1646.length co114, .slice Ao115 t1649.length co115, .int .i64 t1652, .int .i64 t1653, .int .i64 0]) ?_ 5 _ rfl; (with_reducible repeat (first | refine blk_drewN ?_ _ | refine blk_drew ?_ | refine blk_alloc ?_ _)); refine blk_put (cs := #[.bool t1645, .slice Ao114 t1646.length co114, .slice Ao115 t1649.length co115, .int .i64 t1652, .int .i64 0, .int .i64 0]) ?_ 4 _ rfl; (with_reducible repeat (first | refine blk_drewN ?_ _ | refine blk_drew ?_ | refine blk_alloc ?_ _)); refine blk_put (cs := #[.bool t1645, .slice Ao114 t1646.length co114, .slice Ao115 t1649.length co115, .int .i64 0, .int .i64 0, .int .i64 0]) ?_ 3 _ rfl; (with_reducible repeat (first | refine blk_drewN ?_ _ | refine blk_drew ?_ | refine blk_alloc ?_ _)); refine blk_put (cs := #[.bool t1645, .slice Ao114 t1646.length co114, .slice none 0 0, .int .i64 0, .int .i64 0, .int .i64 0]) ?_ 2 _ rfl; (with_reducible repeat (first | refine blk_drewN ?_ _ | refine blk_drew ?_ | refine blk_alloc ?_ _)); refine blk_put (cs := #[.bool t1645, .slice none 0 0, .slice none 0 0, .int .i64 0, .int .i64 0, .int .i64 0]) ?_ 1 _ rfl; (with_reducible repeat (first | refine blk_drewN ?_ _ | refine blk_drew ?_ | refine blk_alloc ?_ _)); refine blk_put (cs := #[.bool false, .slice none 0 0, .slice none 0 0, .int .i64 0, .int .i64 0, .int .i64 0]) ?_ 0 _ rfl; exact pkK BK1655.out) hb); replace HB := am (below_step (pkW HB.out) hb); (try clear hb); obtain ⟨hcz118_0, hcz118_1, hcz118_2, hcz118_3, hcz118_4, hcz118_5, hfz118_0, hfz118_1, hfz118_2, hfz118_3, hfz118_4, hfz118_5⟩ := bk6 BK1643.out) | ((with_reducible refine gate_callee (f := 22) rfl ?_); refine goesL_ (some 16) rfl rfl Try.func22 (by kernel_rfl) rfl #[.agg #[.bool a0_0, .slice A0_1 l0_1.length c0_1, .slice A0_2 l0_2.length c0_2, .int .i64 a0_3, .int .i64 a0_4, .int .i64 a0_5]] rfl mpx ?_; (with_reducible refine (impl_NotifyOk.calls k a0_0 _ _ l0_1 _ _ l0_2 a0_3 a0_4 a0_5 false _ ?side1 ?side2 ?side3 ?side4 A5.out).mono ?_); (case side1 => exact pkC (Kd.C_below HR0_1.out HB.out)); (case side2 => exact HC0_1.out); (case side3 => exact pkC (Kd.C_below HR0_2.out HB.out)); (case side4 => exact HC0_2.out); rintro e w119 ⟨rfl, hb⟩; refine ⟨_, rfl, ?_⟩; replace HO1648 := am (Kd.R_below (pkR HO1648.out) hb); replace HO1651 := am (Kd.R_below (pkR HO1651.out) hb); replace BK1643 := am (blk_below (pkK BK1643.out) hb); replace BK1644 := am (blk_below (pkK BK1644.out) hb); replace BK1655 := am (blk_below (pkK BK1655.out) hb); replace HB := am (below_step (pkW HB.out) hb); (try clear hb); obtain ⟨hcz120_0, hcz120_1, hcz120_2, hcz120_3, hcz120_4, hcz120_5, hfz120_0, hfz120_1, hfz120_2, hfz120_3, hfz120_4, hfz120_5⟩ := bk6 BK1655.out; obtain ⟨hcz121_0, hcz121_1, hcz121_2, hcz121_3, hcz121_4, hcz121_5, hfz121_0, hfz121_1, hfz121_2, hfz121_3, hfz121_4, hfz121_5⟩ := bk6 BK1644.out))
  refine bodyPost_ret (results_ct rfl _ _ gb1644 38 #[.bool t1645, .slice Ao114 t1646.length co114, .slice Ao115 t1649.length co115, .int .i64 t1652, .int .i64 t1653, .int .i64 t1654] (0, 0) _ rfl (by (with_reducible repeat (first | refine blk_drewN ?_ _ | refine blk_drew ?_ | refine blk_alloc ?_ _)); refine blk_put (cs := #[.bool t1645, .slice Ao114 t1646.length co114, .slice Ao115 t1649.length co115, .int .i64 t1652, .int .i64 t1653, .int .i64 0]) ?_ 5 _ rfl; (with_reducible repeat (first | refine blk_drewN ?_ _ | refine blk_drew ?_ | refine blk_alloc ?_ _)); refine blk_put (cs := #[.bool t1645, .slice Ao114 t1646.length co114, .slice Ao115 t1649.length co115, .int .i64 t1652, .int .i64 0, .int .i64 0]) ?_ 4 _ rfl; (with_reducible repeat (first | refine blk_drewN ?_ _ | refine blk_drew ?_ | refine blk_alloc ?_ _)); refine blk_put (cs := #[.bool t1645, .slice Ao114 t1646.length co114, .slice Ao115 t1649.length co115, .int .i64 0, .int .i64 0, .int .i64 0]) ?_ 3 _ rfl; (with_reducible repeat (first | refine blk_drewN ?_ _ | refine blk_drew ?_ | refine blk_alloc ?_ _)); refine blk_put (cs := #[.bool t1645, .slice Ao114 t1646.length co114, .slice none 0 0, .int .i64 0, .int .i64 0, .int .i64 0]) ?_ 2 _ rfl; (with_reducible repeat (first | refine blk_drewN ?_ _ | refine blk_drew ?_ | refine blk_alloc ?_ _)); refine blk_put (cs := #[.bool t1645, .slice none 0 0, .slice none 0 0, .int .i64 0, .int .i64 0, .int .i64 0]) ?_ 1 _ rfl; (with_reducible repeat (first | refine blk_drewN ?_ _ | refine blk_drew ?_ | refine blk_alloc ?_ _)); refine blk_put (cs := #[.bool false, .slice none 0 0, .slice none 0 0, .int .i64 0, .int .i64 0, .int .i64 0]) ?_ 0 _ rfl; exact pkK BK1644.out) Try.underlying38 rfl (by kernel_rfl)) rfl ?_
  exact ⟨_, _, rfe, by (with_reducible repeat (first | apply Kd.R_alloc | apply Kd.R_drewN | apply Kd.R_drew)); exact Kd.R_mono (Kd.R_far (p := ⟨gb1644, 5, none⟩) (Kd.R_far (p := ⟨gb1644, 4, none⟩) (Kd.R_far (p := ⟨gb1644, 3, none⟩) (Kd.R_far (p := ⟨gb1644, 2, none⟩) (Kd.R_far (p := ⟨gb1644, 1, none⟩) (Kd.R_far (p := ⟨gb1644, 0, none⟩) (Kd.R_types HO1648.out BK1644.out (by decide)) (fun _ hk => hk.2) (.bool t1645)) (fun _ hk => hk.2) (.slice Ao114 t1646.length co114)) (fun _ hk => hk.2) (.slice Ao115 t1649.length co115)) (fun _ hk => hk.2) (.int .i64 t1652)) (fun _ hk => hk.2) (.int .i64 t1653)) (fun _ hk => hk.2) (.int .i64 t1654)) (fun _ hk => trivial), by (with_reducible repeat (first | apply Kd.R_alloc | apply Kd.R_drewN | apply Kd.R_drew)); exact Kd.R_mono (Kd.R_far (p := ⟨gb1644, 5, none⟩) (Kd.R_far (p := ⟨gb1644, 4, none⟩) (Kd.R_far (p := ⟨gb1644, 3, none⟩) (Kd.R_far (p := ⟨gb1644, 2, none⟩) (Kd.R_far (p := ⟨gb1644, 1, none⟩) (Kd.R_far (p := ⟨gb1644, 0, none⟩) (Kd.R_types HO1651.out BK1644.out (by decide)) (fun _ hk => hk.2) (.bool t1645)) (fun _ hk => hk.2) (.slice Ao114 t1646.length co114)) (fun _ hk => hk.2) (.slice Ao115 t1649.length co115)) (fun _ hk => hk.2) (.int .i64 t1652)) (fun _ hk => hk.2) (.int .i64 t1653)) (fun _ hk => hk.2) (.int .i64 t1654)) (fun _ hk => trivial), pkW HB.out⟩
end Go.Proofs.Ytdagpmnadapbjaa.Z
