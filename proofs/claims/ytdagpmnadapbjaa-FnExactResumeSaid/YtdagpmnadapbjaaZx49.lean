/- The Go functions spec_Resume as Lean functions, each with a proof that its code comes to just these answers; conditions: those of each theorem. -/
import Derived.Test.YtdagpmnadapbjaaZx0
import Derived.Test.YtdagpmnadapbjaaZx2
import Derived.Test.YtdagpmnadapbjaaZx14
import Derived.Test.YtdagpmnadapbjaaZx15
import Derived.Test.YtdagpmnadapbjaaZx32
import Derived.Test.YtdagpmnadapbjaaZx48
namespace Go.Proofs.Ytdagpmnadapbjaa.Z
open Go.RowKit Go.Proofs.YtdagpmnadapbjaaW.PrintWords Go.Proofs.YtdagpmnadapbjaaW.PrintLast Go.Proofs.YtdagpmnadapbjaaW.PrintMore
attribute [local go_sem] max2_int min2_int max_two min_two max_three min_three max_four min_four   -- for this text's walks alone
set_option linter.unusedVariables false
set_option linter.unusedSimpArgs false
def spec_Resume.j0 : Nat → Int → Bool → Bool → List Int → List (S67) → Int → Int → Int → Bool → List Int → List (S67) → Int → Int → Int → Option (Bool × List Int × (List (S67)) × Int × Int × Int × Int)
 | 0, _, _, _, _, _, _, _, _, _, _, _, _, _, _ => none
 | k + 1, x7, x29, x1587000, x1587001, x1587002, x1587003, x1587004, x1587005, x1599000, x1599001, x1599002, x1599003, x1599004, x1599005 => if x29 = true then (some (x1599000, x1599001, x1599002, x1599003, x1599004, x1599005, 2)) else (if 0 ≤ x7 then (if x7 < (x1587002.length : Int) then (if (rd_T67 x1587002 x7).f1 = true then ((spec_l5Drop.f k x1599000 x1599001 x1599002 x1599003 x1599004 (wrap64 (x1599005 + 1)) x7).bind fun bt1604 => (some (bt1604.1, bt1604.2.1, bt1604.2.2.1, bt1604.2.2.2.1, bt1604.2.2.2.2.1, bt1604.2.2.2.2.2, 0))) else ((spec_l5Drop.f k x1599000 x1599001 x1599002 x1599003 x1599004 x1599005 x7).bind fun bt1614 => (some (bt1614.1, bt1614.2.1, bt1614.2.2.1, bt1614.2.2.2.1, bt1614.2.2.2.2.1, bt1614.2.2.2.2.2, 0)))) else (none)) else (none))
def spec_Resume.f (k : Nat) (a0_0 : Bool) (l0_1 : List Int) (l0_2 : List (S67)) (a0_3 : Int) (a0_4 : Int) (a0_5 : Int) (a1 : Int) : Option (Bool × List Int × (List (S67)) × Int × Int × Int × Int) := (spec_l5Copy.f a0_0 l0_1 l0_2 a0_3 a0_4 a0_5).bind fun bt1588 => ((spec_l5At.f k l0_2 a1).bind fun t1599 => ((spec_NotifyOk.f k a0_0 l0_1 l0_2 a0_3 a0_4 a0_5).bind fun t1600 => (if t1600 = true then ((spec_l2Has.f k l0_1 a1).bind fun t1601 => (if t1601 = true then (some (bt1588.1, bt1588.2.1, bt1588.2.2.1, bt1588.2.2.2.1, bt1588.2.2.2.2.1, bt1588.2.2.2.2.2, 4)) else (if t1599 < 0 then (some (bt1588.1, bt1588.2.1, bt1588.2.2.1, bt1588.2.2.2.1, bt1588.2.2.2.2.1, bt1588.2.2.2.2.2, 3)) else (if 0 ≤ t1599 then (if t1599 < (l0_2.length : Int) then (if (rd_T67 l0_2 t1599).f1 = true then (spec_Resume.j0 k t1599 (decide (a0_5 ≥ 1000000000)) a0_0 l0_1 l0_2 a0_3 a0_4 a0_5 bt1588.1 bt1588.2.1 bt1588.2.2.1 bt1588.2.2.2.1 bt1588.2.2.2.2.1 bt1588.2.2.2.2.2) else (spec_Resume.j0 k t1599 false a0_0 l0_1 l0_2 a0_3 a0_4 a0_5 bt1588.1 bt1588.2.1 bt1588.2.2.1 bt1588.2.2.2.1 bt1588.2.2.2.2.1 bt1588.2.2.2.2.2)) else (none)) else (none))))) else (some (bt1588.1, bt1588.2.1, bt1588.2.2.1, bt1588.2.2.2.1, bt1588.2.2.2.2.1, bt1588.2.2.2.2.2, 1)))))
theorem spec_Resume.mono_l : ∀ k, (∀ y0 y1 y2 y3 y4 y5 y6 y7 y8 y9 y10 y11 y12 y13, LeO (spec_Resume.j0 k y0 y1 y2 y3 y4 y5 y6 y7 y8 y9 y10 y11 y12 y13) (spec_Resume.j0 (k + 1) y0 y1 y2 y3 y4 y5 y6 y7 y8 y9 y10 y11 y12 y13))
 | 0 => fun _ _ _ _ _ _ _ _ _ _ _ _ _ _ r h => by simp [spec_Resume.j0] at h
 | k + 1 => by
  have ih0 := spec_Resume.mono_l k
  ·intro y0 y1 y2 y3 y4 y5 y6 y7 y8 y9 y10 y11 y12 y13
   unfold spec_Resume.j0
   repeat' first
   | (with_reducible exact ih0 _ _ _ _ _ _ _ _ _ _ _ _ _ _)
   | (with_reducible exact spec_NotifyOk.mono _ _ _ _ _ _ _)
   | (with_reducible exact spec_l2Has.mono _ _ _)
   | (with_reducible exact spec_l5At.mono _ _ _)
   | (with_reducible exact spec_l5Drop.mono _ _ _ _ _ _ _ _)
   | (with_reducible exact LeO.refl _)
   | (with_reducible exact LeO.none _)
   | (with_reducible refine LeO.ite ?_ ?_)
   | (with_reducible refine LeO.bind ?_ (fun _ => ?_))
theorem spec_Resume.mono : ∀ a0 a1 a2 a3 a4 a5 a6 k, LeO (spec_Resume.f k a0 a1 a2 a3 a4 a5 a6) (spec_Resume.f (k + 1) a0 a1 a2 a3 a4 a5 a6) := by
 intro a0 a1 a2 a3 a4 a5 a6 k
 have ih0 := spec_Resume.mono_l k
 unfold spec_Resume.f
 repeat' first
   | (with_reducible exact ih0 _ _ _ _ _ _ _ _ _ _ _ _ _ _)
   | (with_reducible exact spec_NotifyOk.mono _ _ _ _ _ _ _)
   | (with_reducible exact spec_l2Has.mono _ _ _)
   | (with_reducible exact spec_l5At.mono _ _ _)
   | (with_reducible exact spec_l5Drop.mono _ _ _ _ _ _ _ _)
   | (with_reducible exact LeO.refl _)
   | (with_reducible exact LeO.none _)
   | (with_reducible refine LeO.ite ?_ ?_)
   | (with_reducible refine LeO.bind ?_ (fun _ => ?_))
set_option maxHeartbeats 8000000 in
set_option maxRecDepth 100000 in
theorem spec_Resume.calls (k : Nat) (a0_0 : Bool) (A0_1 : Option Addr) (c0_1 : Nat) (l0_1 : List Int) (A0_2 : Option Addr) (c0_2 : Nat) (l0_2 : List (S67)) (a0_3 : Int) (a0_4 : Int) (a0_5 : Int) (a1 : Int) (r1 : Bool) (r2 : List Int) (r3 : List (S67)) (r4 : Int) (r5 : Int) (r6 : Int) (r7 : Int) (w : World) (hr0_1 : Kd.C (Kd.int .i64) w A0_1 l0_1.length l0_1) (hc0_1 : l0_1.length ≤ c0_1) (hr0_2 : Kd.C k67 w A0_2 l0_2.length l0_2) (hc0_2 : l0_2.length ≤ c0_2) (h : spec_Resume.f k a0_0 l0_1 l0_2 a0_3 a0_4 a0_5 a1 = some (r1, r2, r3, r4, r5, r6, r7)) :
  Calls Try.prog 48 #[.agg #[.bool a0_0, .slice A0_1 l0_1.length c0_1, .slice A0_2 l0_2.length c0_2, .int .i64 a0_3, .int .i64 a0_4, .int .i64 a0_5], .int .i64 a1] w fun e w' => ∃ v1_ v2_ : Value, e = .returned (.tuple #[.agg #[.bool r1, v1_, v2_, .int .i64 r4, .int .i64 r5, .int .i64 r6], .int .i64 r7]) ∧ Kd.R (Kd.int .i64) 3 w' w.heap.size (fun _ => True) v1_ r2 ∧ Kd.R k67 67 w' w.heap.size (fun _ => True) v2_ r3 ∧ Below w.heap.size w w' := by
 have hu38 := Try.underlying38
 have HR0_1 := am hr0_1
 have HC0_1 := am hc0_1
 clear hr0_1 hc0_1
 have HR0_2 := am hr0_2
 have HC0_2 := am hc0_2
 clear hr0_2 hc0_2
 have HB := am (Below.refl w.heap.size w)
 have H : ((spec_l5Copy.f a0_0 l0_1 l0_2 a0_3 a0_4 a0_5).bind fun bt1588 => ((spec_l5At.f k l0_2 a1).bind fun t1599 => ((spec_NotifyOk.f k a0_0 l0_1 l0_2 a0_3 a0_4 a0_5).bind fun t1600 => (if t1600 = true then ((spec_l2Has.f k l0_1 a1).bind fun t1601 => (if t1601 = true then (some (bt1588.1, bt1588.2.1, bt1588.2.2.1, bt1588.2.2.2.1, bt1588.2.2.2.2.1, bt1588.2.2.2.2.2, 4)) else (if t1599 < 0 then (some (bt1588.1, bt1588.2.1, bt1588.2.2.1, bt1588.2.2.2.1, bt1588.2.2.2.2.1, bt1588.2.2.2.2.2, 3)) else (if 0 ≤ t1599 then (if t1599 < (l0_2.length : Int) then (if (rd_T67 l0_2 t1599).f1 = true then (spec_Resume.j0 k t1599 (decide (a0_5 ≥ 1000000000)) a0_0 l0_1 l0_2 a0_3 a0_4 a0_5 bt1588.1 bt1588.2.1 bt1588.2.2.1 bt1588.2.2.2.1 bt1588.2.2.2.2.1 bt1588.2.2.2.2.2) else (spec_Resume.j0 k t1599 false a0_0 l0_1 l0_2 a0_3 a0_4 a0_5 bt1588.1 bt1588.2.1 bt1588.2.2.1 bt1588.2.2.2.1 bt1588.2.2.2.2.1 bt1588.2.2.2.2.2)) else (none)) else (none))))) else (some (bt1588.1, bt1588.2.1, bt1588.2.2.1, bt1588.2.2.2.1, bt1588.2.2.2.2.1, bt1588.2.2.2.2.2, 1)))))) = some (r1, r2, r3, r4, r5, r6, r7) := h
 clear h
 replace H := Option.bind_eq_some_iff.mp H
 obtain ⟨⟨t1588, t1589, t1592, t1595, t1596, t1597⟩, A30, H⟩ := H
 replace H : ((spec_l5At.f k l0_2 a1).bind fun t1599 => ((spec_NotifyOk.f k a0_0 l0_1 l0_2 a0_3 a0_4 a0_5).bind fun t1600 => (if t1600 = true then ((spec_l2Has.f k l0_1 a1).bind fun t1601 => (if t1601 = true then (some (t1588, t1589, t1592, t1595, t1596, t1597, 4)) else (if t1599 < 0 then (some (t1588, t1589, t1592, t1595, t1596, t1597, 3)) else (if 0 ≤ t1599 then (if t1599 < (l0_2.length : Int) then (if (rd_T67 l0_2 t1599).f1 = true then (spec_Resume.j0 k t1599 (decide (a0_5 ≥ 1000000000)) a0_0 l0_1 l0_2 a0_3 a0_4 a0_5 t1588 t1589 t1592 t1595 t1596 t1597) else (spec_Resume.j0 k t1599 false a0_0 l0_1 l0_2 a0_3 a0_4 a0_5 t1588 t1589 t1592 t1595 t1596 t1597)) else (none)) else (none))))) else (some (t1588, t1589, t1592, t1595, t1596, t1597, 1))))) = some (r1, r2, r3, r4, r5, r6, r7) := H
 have A3 := am A30
 clear A30
 replace H := Option.bind_eq_some_iff.mp H
 obtain ⟨t1599, A40, H⟩ := H
 replace H : ((spec_NotifyOk.f k a0_0 l0_1 l0_2 a0_3 a0_4 a0_5).bind fun t1600 => (if t1600 = true then ((spec_l2Has.f k l0_1 a1).bind fun t1601 => (if t1601 = true then (some (t1588, t1589, t1592, t1595, t1596, t1597, 4)) else (if t1599 < 0 then (some (t1588, t1589, t1592, t1595, t1596, t1597, 3)) else (if 0 ≤ t1599 then (if t1599 < (l0_2.length : Int) then (if (rd_T67 l0_2 t1599).f1 = true then (spec_Resume.j0 k t1599 (decide (a0_5 ≥ 1000000000)) a0_0 l0_1 l0_2 a0_3 a0_4 a0_5 t1588 t1589 t1592 t1595 t1596 t1597) else (spec_Resume.j0 k t1599 false a0_0 l0_1 l0_2 a0_3 a0_4 a0_5 t1588 t1589 t1592 t1595 t1596 t1597)) else (none)) else (none))))) else (some (t1588, t1589, t1592, t1595, t1596, t1597, 1)))) = some (r1, r2, r3, r4, r5, r6, r7) := H
 have A4 := am A40
 clear A40
 replace H := Option.bind_eq_some_iff.mp H
 obtain ⟨t1600, A50, H⟩ := H
 replace H : (if t1600 = true then ((spec_l2Has.f k l0_1 a1).bind fun t1601 => (if t1601 = true then (some (t1588, t1589, t1592, t1595, t1596, t1597, 4)) else (if t1599 < 0 then (some (t1588, t1589, t1592, t1595, t1596, t1597, 3)) else (if 0 ≤ t1599 then (if t1599 < (l0_2.length : Int) then (if (rd_T67 l0_2 t1599).f1 = true then (spec_Resume.j0 k t1599 (decide (a0_5 ≥ 1000000000)) a0_0 l0_1 l0_2 a0_3 a0_4 a0_5 t1588 t1589 t1592 t1595 t1596 t1597) else (spec_Resume.j0 k t1599 false a0_0 l0_1 l0_2 a0_3 a0_4 a0_5 t1588 t1589 t1592 t1595 t1596 t1597)) else (none)) else (none))))) else (some (t1588, t1589, t1592, t1595, t1596, t1597, 1))) = some (r1, r2, r3, r4, r5, r6, r7) := H
 have A5 := am A50
 clear A50
 by_cases c6 : t1600 = true
 ·subst c6
  replace H : ((spec_l2Has.f k l0_1 a1).bind fun t1601 => (if t1601 = true then (some (t1588, t1589, t1592, t1595, t1596, t1597, 4)) else (if t1599 < 0 then (some (t1588, t1589, t1592, t1595, t1596, t1597, 3)) else (if 0 ≤ t1599 then (if t1599 < (l0_2.length : Int) then (if (rd_T67 l0_2 t1599).f1 = true then (spec_Resume.j0 k t1599 (decide (a0_5 ≥ 1000000000)) a0_0 l0_1 l0_2 a0_3 a0_4 a0_5 t1588 t1589 t1592 t1595 t1596 t1597) else (spec_Resume.j0 k t1599 false a0_0 l0_1 l0_2 a0_3 a0_4 a0_5 t1588 t1589 t1592 t1595 t1596 t1597)) else (none)) else (none))))) = some (r1, r2, r3, r4, r5, r6, r7) := by rw [if_pos rfl] at H; exact H
  replace H := Option.bind_eq_some_iff.mp H
  obtain ⟨t1601, A70, H⟩ := H
  replace H : (if t1601 = true then (some (t1588, t1589, t1592, t1595, t1596, t1597, 4)) else (if t1599 < 0 then (some (t1588, t1589, t1592, t1595, t1596, t1597, 3)) else (if 0 ≤ t1599 then (if t1599 < (l0_2.length : Int) then (if (rd_T67 l0_2 t1599).f1 = true then (spec_Resume.j0 k t1599 (decide (a0_5 ≥ 1000000000)) a0_0 l0_1 l0_2 a0_3 a0_4 a0_5 t1588 t1589 t1592 t1595 t1596 t1597) else (spec_Resume.j0 k t1599 false a0_0 l0_1 l0_2 a0_3 a0_4 a0_5 t1588 t1589 t1592 t1595 t1596 t1597)) else (none)) else (none)))) = some (r1, r2, r3, r4, r5, r6, r7) := H
  have A7 := am A70
  clear A70
  by_cases c8 : t1601 = true
  ·subst c8
   replace H : (some (t1588, t1589, t1592, t1595, t1596, t1597, 4)) = some (r1, r2, r3, r4, r5, r6, r7) := by rw [if_pos rfl] at H; exact H
   simp only [Option.some.injEq, Prod.mk.injEq] at H
   obtain ⟨rfl, rfl, rfl, rfl, rfl, rfl, rfl⟩ := H
   go_enter Try.func48, Try.ntmps48
   go_wp2_with (first | ((with_reducible refine gate_dst (N := 2) rfl ?_); refine box_event ?hg (N := 2) ?hd (cs := #[.bool a0_0, .slice A0_1 l0_1.length c0_1, .slice A0_2 l0_2.length c0_2, .int .i64 a0_3, .int .i64 a0_4, .int .i64 a0_5]) (t := 38) ?hr ?_; (case hd => rfl); (case hg => rfl); (case hr => first | (go_simp; done) | (go_simp; rfl)); intro gb1586 hg w9 hbox hb; have BK1586 := am (hbox); have GW1586 := am ((by rw [hg]; exact (below_size (pkB HB.out)) : w.heap.size ≤ gb1586)); have GE1586 := am ((by rw [hg]; exact (below_size (pkB HB.out)) : w.heap.size ≤ gb1586)); replace HB := am (below_step (pkB HB.out) hb); clear hb hbox hg) | ((with_reducible refine gate_dst (N := 4) rfl ?_); refine box_event ?hg (N := 4) ?hd (cs := #[.bool false, .slice none 0 0, .slice none 0 0, .int .i64 0, .int .i64 0, .int .i64 0]) (t := 38) ?hr ?_; (case hd => rfl); (case hg => rfl); (case hr => first | (go_simp; done) | (go_simp; rfl)); intro gb1587 hg w10 hbox hb; have BK1587 := am (hbox); have GW1587 := am ((by rw [hg]; exact (below_size (pkW HB.out)) : w.heap.size ≤ gb1587)); have GE1587 := am ((by rw [hg]; exact (below_size (pkW HB.out)) : w.heap.size ≤ gb1587)); replace HB := am (below_step (pkW HB.out) hb); have NB1586_1587 := am ((by rw [hg]; exact Nat.ne_of_lt (blk_lt (g := gb1586) (o := .cells #[.bool a0_0, .slice A0_1 l0_1.length c0_1, .slice A0_2 l0_2.length c0_2, .int .i64 a0_3, .int .i64 a0_4, .int .i64 a0_5] 38 (0, 0)) (pkK BK1586.out)) : gb1586 ≠ gb1587)); have NB1587_1586 := am ((by rw [hg]; exact Nat.ne_of_gt (blk_lt (g := gb1586) (o := .cells #[.bool a0_0, .slice A0_1 l0_1.length c0_1, .slice A0_2 l0_2.length c0_2, .int .i64 a0_3, .int .i64 a0_4, .int .i64 a0_5] 38 (0, 0)) (pkK BK1586.out)) : gb1587 ≠ gb1586)); replace BK1586 := am (blk_below (pkK BK1586.out) hb); clear hb hbox hg; have hnb11 := NB1586_1587.out; have hnc11 := NB1587_1586.out; obtain ⟨hcz12_0, hcz12_1, hcz12_2, hcz12_3, hcz12_4, hcz12_5, hfz12_0, hfz12_1, hfz12_2, hfz12_3, hfz12_4, hfz12_5⟩ := bk6 BK1586.out) | ((with_reducible refine gate_callee (f := 69) rfl ?_); refine goesL_ (some 9) rfl rfl Try.func69 (by kernel_rfl) rfl #[.agg #[.bool a0_0, .slice A0_1 l0_1.length c0_1, .slice A0_2 l0_2.length c0_2, .int .i64 a0_3, .int .i64 a0_4, .int .i64 a0_5]] rfl mpx ?_; (with_reducible refine (spec_l5Copy.calls a0_0 _ _ l0_1 _ _ l0_2 a0_3 a0_4 a0_5 t1588 t1589 t1592 t1595 t1596 t1597 _ ?side1 ?side2 ?side3 ?side4 A3.out).mono ?_); (case side1 => exact pkC (Kd.C_below HR0_1.out HB.out)); (case side2 => exact HC0_1.out); (case side3 => exact pkC (Kd.C_below HR0_2.out HB.out)); (case side4 => exact HC0_2.out); rintro e w13 ⟨v1590, v1593, rfl, ho0, ho1, hb⟩; refine ⟨_, rfl, ?_⟩; have HO1591 := am (Kd.R_lower ho0 (below_size (pkW HB.out))); have HO1594 := am (Kd.R_lower ho1 (below_size (pkW HB.out))); replace BK1586 := am (blk_below (pkK BK1586.out) hb); replace BK1587 := am (blk_below (pkK BK1587.out) hb); replace HB := am (below_step (pkW HB.out) hb); (try clear hb ho0 ho1)) | ((with_reducible refine gate_dst (N := 6) rfl ?_); refine box_event ?hg (N := 6) ?hd (cs := #[.bool false, .slice none 0 0, .slice none 0 0, .int .i64 0, .int .i64 0, .int .i64 0]) (t := 38) ?hr ?_; (case hd => rfl); (case hg => rfl); (case hr => first | (go_simp; done) | (go_simp; rfl)); intro gb1598 hg w14 hbox hb; replace HO1591 := am (Kd.R_below (pkR HO1591.out) hb); replace HO1594 := am (Kd.R_below (pkR HO1594.out) hb); have BK1598 := am (hbox); have GW1598 := am ((by rw [hg]; exact (below_size (pkW HB.out)) : w.heap.size ≤ gb1598)); have GE1598 := am ((by rw [hg]; exact (below_size (pkW HB.out)) : w.heap.size ≤ gb1598)); replace HB := am (below_step (pkW HB.out) hb); have NB1586_1598 := am ((by rw [hg]; exact Nat.ne_of_lt (blk_lt (g := gb1586) (o := .cells #[.bool a0_0, .slice A0_1 l0_1.length c0_1, .slice A0_2 l0_2.length c0_2, .int .i64 a0_3, .int .i64 a0_4, .int .i64 a0_5] 38 (0, 0)) (pkK BK1586.out)) : gb1586 ≠ gb1598)); have NB1598_1586 := am ((by rw [hg]; exact Nat.ne_of_gt (blk_lt (g := gb1586) (o := .cells #[.bool a0_0, .slice A0_1 l0_1.length c0_1, .slice A0_2 l0_2.length c0_2, .int .i64 a0_3, .int .i64 a0_4, .int .i64 a0_5] 38 (0, 0)) (pkK BK1586.out)) : gb1598 ≠ gb1586)); replace BK1586 := am (blk_below (pkK BK1586.out) hb); have NB1587_1598 := am ((by rw [hg]; exact Nat.ne_of_lt (blk_lt (g := gb1587) (o := .cells #[.bool false, .slice none 0 0, .slice none 0 0, .int .i64 0, .int .i64 0, .int .i64 0] 38 (0, 0)) (pkK BK1587.out)) : gb1587 ≠ gb1598)); have NB1598_1587 := am ((by rw [hg]; exact Nat.ne_of_gt (blk_lt (g := gb1587) (o := .cells #[.bool false, .slice none 0 0, .slice none 0 0, .int .i64 0, .int .i64 0, .int .i64 0] 38 (0, 0)) (pkK BK1587.out)) : gb1598 ≠ gb1587)); replace BK1587 := am (blk_below (pkK BK1587.out) hb); clear hb hbox hg; have hnb15 := NB1598_1586.out; have hnc15 := NB1586_1598.out; have hnb16 := NB1598_1587.out; have hnc16 := NB1587_1598.out; obtain ⟨hcz17_0, hcz17_1, hcz17_2, hcz17_3, hcz17_4, hcz17_5, hfz17_0, hfz17_1, hfz17_2, hfz17_3, hfz17_4, hfz17_5⟩ := bk6 BK1598.out; obtain ⟨Ao18, co18, eo18⟩ := Kd.R_slice HO1591.out; subst eo18; obtain ⟨Ao19, co19, eo19⟩ := Kd.R_slice HO1594.out; subst eo19; obtain ⟨hcz20_0, hcz20_1, hcz20_2, hcz20_3, hcz20_4, hcz20_5, hfz20_0, hfz20_1, hfz20_2, hfz20_3, hfz20_4, hfz20_5⟩ := bk6 BK1586.out) | ((with_reducible refine gate_callee (f := 59) rfl ?_); refine goesL_ (some 13) rfl rfl Try.func59 (by kernel_rfl) rfl #[.slice A0_2 l0_2.length c0_2, .int .i64 a1] rfl mpx ?_; (with_reducible refine (spec_l5At.calls k _ _ l0_2 a1 t1599 _ ?side1 ?side2 A4.out).mono ?_); (case side1 => exact Kd.C_below HR0_2.out (pkW HB.out)); (case side2 => exact HC0_2.out); rintro e w' ⟨rfl, ⟨nd, rfl⟩⟩; refine ⟨_, rfl, ?_⟩) | ((with_reducible refine gate_callee (f := 20) rfl ?_); refine goesL_ (some 16) rfl rfl Try.func20 (by kernel_rfl) rfl #[.agg #[.bool a0_0, .slice A0_1 l0_1.length c0_1, .slice A0_2 l0_2.length c0_2, .int .i64 a0_3, .int .i64 a0_4, .int .i64 a0_5]] rfl mpx ?_; (with_reducible refine (spec_NotifyOk.calls k a0_0 _ _ l0_1 _ _ l0_2 a0_3 a0_4 a0_5 true _ ?side1 ?side2 ?side3 ?side4 A5.out).mono ?_); (case side1 => exact Kd.C_below HR0_1.out (pkW HB.out)); (case side2 => exact HC0_1.out); (case side3 => exact Kd.C_below HR0_2.out (pkW HB.out)); (case side4 => exact HC0_2.out); rintro e w21 ⟨rfl, hb⟩; refine ⟨_, rfl, ?_⟩; replace HO1591 := am (Kd.R_below (by (with_reducible repeat (first | apply Kd.R_alloc | apply Kd.R_drewN | apply Kd.R_drew)); exact (Kd.R_mono (Kd.R_far (p := ⟨gb1598, 5, none⟩) (Kd.R_far (p := ⟨gb1598, 4, none⟩) (Kd.R_far (p := ⟨gb1598, 3, none⟩) (Kd.R_far (p := ⟨gb1598, 2, none⟩) (Kd.R_far (p := ⟨gb1598, 1, none⟩) (Kd.R_far (p := ⟨gb1598, 0, none⟩) (Kd.R_types HO1591.out BK1598.out (by decide)) (fun _ hk => hk.2) (.bool t1588)) (fun _ hk => hk.2) (.slice Ao18 t1589.length co18)) (fun _ hk => hk.2) (.slice Ao19 t1592.length co19)) (fun _ hk => hk.2) (.int .i64 t1595)) (fun _ hk => hk.2) (.int .i64 t1596)) (fun _ hk => hk.2) (.int .i64 t1597)) (fun _ h_ => h_.1))) hb); replace HO1594 := am (Kd.R_below (by (with_reducible repeat (first | apply Kd.R_alloc | apply Kd.R_drewN | apply Kd.R_drew)); exact (Kd.R_mono (Kd.R_far (p := ⟨gb1598, 5, none⟩) (Kd.R_far (p := ⟨gb1598, 4, none⟩) (Kd.R_far (p := ⟨gb1598, 3, none⟩) (Kd.R_far (p := ⟨gb1598, 2, none⟩) (Kd.R_far (p := ⟨gb1598, 1, none⟩) (Kd.R_far (p := ⟨gb1598, 0, none⟩) (Kd.R_types HO1594.out BK1598.out (by decide)) (fun _ hk => hk.2) (.bool t1588)) (fun _ hk => hk.2) (.slice Ao18 t1589.length co18)) (fun _ hk => hk.2) (.slice Ao19 t1592.length co19)) (fun _ hk => hk.2) (.int .i64 t1595)) (fun _ hk => hk.2) (.int .i64 t1596)) (fun _ hk => hk.2) (.int .i64 t1597)) (fun _ h_ => h_.1))) hb); replace BK1586 := am (blk_below (g := gb1586) (o := .cells #[.bool a0_0, .slice A0_1 l0_1.length c0_1, .slice A0_2 l0_2.length c0_2, .int .i64 a0_3, .int .i64 a0_4, .int .i64 a0_5] 38 (0, 0)) (by (with_reducible repeat (first | refine blk_drewN ?_ _ | refine blk_drew ?_ | refine blk_alloc ?_ _)); refine blk_far ?_ NB1586_1598.out _; (with_reducible repeat (first | refine blk_drewN ?_ _ | refine blk_drew ?_ | refine blk_alloc ?_ _)); refine blk_far ?_ NB1586_1598.out _; (with_reducible repeat (first | refine blk_drewN ?_ _ | refine blk_drew ?_ | refine blk_alloc ?_ _)); refine blk_far ?_ NB1586_1598.out _; (with_reducible repeat (first | refine blk_drewN ?_ _ | refine blk_drew ?_ | refine blk_alloc ?_ _)); refine blk_far ?_ NB1586_1598.out _; (with_reducible repeat (first | refine blk_drewN ?_ _ | refine blk_drew ?_ | refine blk_alloc ?_ _)); refine blk_far ?_ NB1586_1598.out _; (with_reducible repeat (first | refine blk_drewN ?_ _ | refine blk_drew ?_ | refine blk_alloc ?_ _)); refine blk_far ?_ NB1586_1598.out _; exact pkK BK1586.out) hb); replace BK1587 := am (blk_below (g := gb1587) (o := .cells #[.bool false, .slice none 0 0, .slice none 0 0, .int .i64 0, .int .i64 0, .int .i64 0] 38 (0, 0)) (by (with_reducible repeat (first | refine blk_drewN ?_ _ | refine blk_drew ?_ | refine blk_alloc ?_ _)); refine blk_far ?_ NB1587_1598.out _; (with_reducible repeat (first | refine blk_drewN ?_ _ | refine blk_drew ?_ | refine blk_alloc ?_ _)); refine blk_far ?_ NB1587_1598.out _; (with_reducible repeat (first | refine blk_drewN ?_ _ | refine blk_drew ?_ | refine blk_alloc ?_ _)); refine blk_far ?_ NB1587_1598.out _; (with_reducible repeat (first | refine blk_drewN ?_ _ | refine blk_drew ?_ | refine blk_alloc ?_ _)); refine blk_far ?_ NB1587_1598.out _; (with_reducible repeat (first | refine blk_drewN ?_ _ | refine blk_drew ?_ | refine blk_alloc ?_ _)); refine blk_far ?_ NB1587_1598.out _; (with_reducible repeat (first | refine blk_drewN ?_ _ | refine blk_drew ?_ | refine blk_alloc ?_ _)); refine blk_far ?_ NB1587_1598.out _; exact pkK BK1587.out) hb); replace BK1598 := am (blk_below (g := gb1598) (o := .cells #[.bool t1588, .slice Ao18 t1589.length co18, .slice Ao19 t1592.length co19, .int .i64 t1595, .int .i64 t1596, .int .i64 t1597] 38 (0, 0)) (by (with_reducible repeat (first | refine blk_drewN ?_ _ | refine blk_drew ?_ | refine blk_alloc ?_ _)); refine blk_put (cs := #[.bool t1588, .slice Ao18 t1589.length co18, .slice Ao19 t1592.length co19, .int .i64 t1595, .int .i64 t1596, .int .i64 0]) ?_ 5 _ rfl; (with_reducible repeat (first | refine blk_drewN ?_ _ | refine blk_drew ?_ | refine blk_alloc ?_ _)); refine blk_put (cs := #[.bool t1588, .slice Ao18 t1589.length co18, .slice Ao19 t1592.length co19, .int .i64 t1595, .int .i64 0, .int .i64 0]) ?_ 4 _ rfl; (with_reducible repeat (first | refine blk_drewN ?_ _ | refine blk_drew ?_ | refine blk_alloc ?_ _)); refine blk_put (cs := #[.bool t1588, .slice Ao18 t1589.length co18, .slice Ao19 t1592.length co19, .int .i64 0, .int .i64 0, .int .i64 0]) ?_ 3 _ rfl; (with_reducible repeat (first | refine blk_drewN ?_ _ | refine blk_drew ?_ | refine blk_alloc ?_ _)); refine blk_put (cs := #[.bool t1588, .slice Ao18 t1589.length co18, .slice none 0 0, .int .i64 0, .int .i64 0, .int .i64 0]) ?_ 2 _ rfl; (with_reducible repeat (first | refine blk_drewN ?_ _ | refine blk_drew ?_ | refine blk_alloc ?_ _)); refine blk_put (cs := #[.bool t1588, .slice none 0 0, .slice none 0 0, .int .i64 0, .int .i64 0, .int .i64 0]) ?_ 1 _ rfl; (with_reducible repeat (first | refine blk_drewN ?_ _ | refine blk_drew ?_ | refine blk_alloc ?_ _)); refine blk_put (cs := #[.bool false, .slice none 0 0, .slice none 0 0, .int .i64 0, .int .i64 0, .int .i64 0]) ?_ 0 _ rfl; exact pkK BK1598.out) hb); replace HB := am (below_step (pkW HB.out) hb); (try clear hb); obtain ⟨hcz22_0, hcz22_1, hcz22_2, hcz22_3, hcz22_4, hcz22_5, hfz22_0, hfz22_1, hfz22_2, hfz22_3, hfz22_4, hfz22_5⟩ := bk6 BK1586.out) | ((with_reducible refine gate_callee (f := 60) rfl ?_); refine goesL_ (some 23) rfl rfl Try.func60 (by kernel_rfl) rfl #[.slice A0_1 l0_1.length c0_1, .int .i64 a1] rfl mpx ?_; (with_reducible refine (spec_l2Has.calls k _ _ l0_1 a1 true _ ?side1 ?side2 A7.out).mono ?_); (case side1 => exact pkC (Kd.C_below HR0_1.out HB.out)); (case side2 => exact HC0_1.out); rintro e w' ⟨rfl, ⟨nd, rfl⟩⟩; refine ⟨_, rfl, ?_⟩; (try (rw [drewN_self w21]; generalize hq_ : World.drewN w21 _ = w21; replace HO1591 : Aside0 (Kd.R (Kd.int .i64) 3 w21 w.heap.size (fun _ => True) (.slice Ao18 t1589.length co18) t1589) := ⟨by rw [← hq_]; exact (pkR HO1591.out)⟩; replace HO1594 : Aside0 (Kd.R k67 67 w21 w.heap.size (fun _ => True) (.slice Ao19 t1592.length co19) t1592) := ⟨by rw [← hq_]; exact (pkR HO1594.out)⟩; replace BK1586 : Aside0 (w21.heap[gb1586]? = some (.cells #[.bool a0_0, .slice A0_1 l0_1.length c0_1, .slice A0_2 l0_2.length c0_2, .int .i64 a0_3, .int .i64 a0_4, .int .i64 a0_5] 38 (0, 0))) := ⟨by rw [← hq_]; exact (pkK BK1586.out)⟩; replace BK1587 : Aside0 (w21.heap[gb1587]? = some (.cells #[.bool false, .slice none 0 0, .slice none 0 0, .int .i64 0, .int .i64 0, .int .i64 0] 38 (0, 0))) := ⟨by rw [← hq_]; exact (pkK BK1587.out)⟩; replace BK1598 : Aside0 (w21.heap[gb1598]? = some (.cells #[.bool t1588, .slice Ao18 t1589.length co18, .slice Ao19 t1592.length co19, .int .i64 t1595, .int .i64 t1596, .int .i64 t1597] 38 (0, 0))) := ⟨by rw [← hq_]; exact (pkK BK1598.out)⟩; replace HB : Aside0 (Below w.heap.size w w21) := ⟨by rw [← hq_]; exact (pkW HB.out)⟩; clear hq_)); obtain ⟨hcz23_0, hcz23_1, hcz23_2, hcz23_3, hcz23_4, hcz23_5, hfz23_0, hfz23_1, hfz23_2, hfz23_3, hfz23_4, hfz23_5⟩ := bk6 BK1598.out; obtain ⟨hcz24_0, hcz24_1, hcz24_2, hcz24_3, hcz24_4, hcz24_5, hfz24_0, hfz24_1, hfz24_2, hfz24_3, hfz24_4, hfz24_5⟩ := bk6 BK1587.out))
   refine bodyPost_ret (results_ct rfl _ _ gb1587 38 #[.bool t1588, .slice Ao18 t1589.length co18, .slice Ao19 t1592.length co19, .int .i64 t1595, .int .i64 t1596, .int .i64 t1597] (0, 0) _ rfl (by (with_reducible repeat (first | refine blk_drewN ?_ _ | refine blk_drew ?_ | refine blk_alloc ?_ _)); refine blk_put (cs := #[.bool t1588, .slice Ao18 t1589.length co18, .slice Ao19 t1592.length co19, .int .i64 t1595, .int .i64 t1596, .int .i64 0]) ?_ 5 _ rfl; (with_reducible repeat (first | refine blk_drewN ?_ _ | refine blk_drew ?_ | refine blk_alloc ?_ _)); refine blk_put (cs := #[.bool t1588, .slice Ao18 t1589.length co18, .slice Ao19 t1592.length co19, .int .i64 t1595, .int .i64 0, .int .i64 0]) ?_ 4 _ rfl; (with_reducible repeat (first | refine blk_drewN ?_ _ | refine blk_drew ?_ | refine blk_alloc ?_ _)); refine blk_put (cs := #[.bool t1588, .slice Ao18 t1589.length co18, .slice Ao19 t1592.length co19, .int .i64 0, .int .i64 0, .int .i64 0]) ?_ 3 _ rfl; (with_reducible repeat (first | refine blk_drewN ?_ _ | refine blk_drew ?_ | refine blk_alloc ?_ _)); refine blk_put (cs := #[.bool t1588, .slice Ao18 t1589.length co18, .slice none 0 0, .int .i64 0, .int .i64 0, .int .i64 0]) ?_ 2 _ rfl; (with_reducible repeat (first | refine blk_drewN ?_ _ | refine blk_drew ?_ | refine blk_alloc ?_ _)); refine blk_put (cs := #[.bool t1588, .slice none 0 0, .slice none 0 0, .int .i64 0, .int .i64 0, .int .i64 0]) ?_ 1 _ rfl; (with_reducible repeat (first | refine blk_drewN ?_ _ | refine blk_drew ?_ | refine blk_alloc ?_ _)); refine blk_put (cs := #[.bool false, .slice none 0 0, .slice none 0 0, .int .i64 0, .int .i64 0, .int .i64 0]) ?_ 0 _ rfl; exact pkK BK1587.out) Try.underlying38 rfl (by kernel_rfl)) rfl ?_
   exact ⟨_, _, rfe, by (with_reducible repeat (first | apply Kd.R_alloc | apply Kd.R_drewN | apply Kd.R_drew)); exact Kd.R_mono (Kd.R_far (p := ⟨gb1587, 5, none⟩) (Kd.R_far (p := ⟨gb1587, 4, none⟩) (Kd.R_far (p := ⟨gb1587, 3, none⟩) (Kd.R_far (p := ⟨gb1587, 2, none⟩) (Kd.R_far (p := ⟨gb1587, 1, none⟩) (Kd.R_far (p := ⟨gb1587, 0, none⟩) (Kd.R_types HO1591.out BK1587.out (by decide)) (fun _ hk => hk.2) (.bool t1588)) (fun _ hk => hk.2) (.slice Ao18 t1589.length co18)) (fun _ hk => hk.2) (.slice Ao19 t1592.length co19)) (fun _ hk => hk.2) (.int .i64 t1595)) (fun _ hk => hk.2) (.int .i64 t1596)) (fun _ hk => hk.2) (.int .i64 t1597)) (fun _ hk => trivial), by (with_reducible repeat (first | apply Kd.R_alloc | apply Kd.R_drewN | apply Kd.R_drew)); exact Kd.R_mono (Kd.R_far (p := ⟨gb1587, 5, none⟩) (Kd.R_far (p := ⟨gb1587, 4, none⟩) (Kd.R_far (p := ⟨gb1587, 3, none⟩) (Kd.R_far (p := ⟨gb1587, 2, none⟩) (Kd.R_far (p := ⟨gb1587, 1, none⟩) (Kd.R_far (p := ⟨gb1587, 0, none⟩) (Kd.R_types HO1594.out BK1587.out (by decide)) (fun _ hk => hk.2) (.bool t1588)) (fun _ hk => hk.2) (.slice Ao18 t1589.length co18)) (fun _ hk => hk.2) (.slice Ao19 t1592.length co19)) (fun _ hk => hk.2) (.int .i64 t1595)) (fun _ hk => hk.2) (.int .i64 t1596)) (fun _ hk => hk.2) (.int .i64 t1597)) (fun _ hk => trivial), pkW HB.out⟩
  ·replace c8 := Bool.eq_false_iff.mpr c8
   subst c8
   replace H : (if t1599 < 0 then (some (t1588, t1589, t1592, t1595, t1596, t1597, 3)) else (if 0 ≤ t1599 then (if t1599 < (l0_2.length : Int) then (if (rd_T67 l0_2 t1599).f1 = true then (spec_Resume.j0 k t1599 (decide (a0_5 ≥ 1000000000)) a0_0 l0_1 l0_2 a0_3 a0_4 a0_5 t1588 t1589 t1592 t1595 t1596 t1597) else (spec_Resume.j0 k t1599 false a0_0 l0_1 l0_2 a0_3 a0_4 a0_5 t1588 t1589 t1592 t1595 t1596 t1597)) else (none)) else (none))) = some (r1, r2, r3, r4, r5, r6, r7) := by rw [if_neg (show ¬ (false = true) by decide)] at H; exact H
   by_cases c25 : t1599 < 0
   ·rw [if_pos c25] at H
    have c25b0 : decide (t1599 < 0) = true := decide_eq_true c25
    clear c25
    simp only [Option.some.injEq, Prod.mk.injEq] at H
    obtain ⟨rfl, rfl, rfl, rfl, rfl, rfl, rfl⟩ := H
    go_enter Try.func48, Try.ntmps48
    go_wp2_with (first | ((with_reducible refine gate_dst (N := 2) rfl ?_); refine box_event ?hg (N := 2) ?hd (cs := #[.bool a0_0, .slice A0_1 l0_1.length c0_1, .slice A0_2 l0_2.length c0_2, .int .i64 a0_3, .int .i64 a0_4, .int .i64 a0_5]) (t := 38) ?hr ?_; (case hd => rfl); (case hg => rfl); (case hr => first | (go_simp; done) | (go_simp; rfl)); intro gb1586 hg w26 hbox hb; have BK1586 := am (hbox); have GW1586 := am ((by rw [hg]; exact (below_size (pkB HB.out)) : w.heap.size ≤ gb1586)); have GE1586 := am ((by rw [hg]; exact (below_size (pkB HB.out)) : w.heap.size ≤ gb1586)); replace HB := am (below_step (pkB HB.out) hb); clear hb hbox hg) | ((with_reducible refine gate_dst (N := 4) rfl ?_); refine box_event ?hg (N := 4) ?hd (cs := #[.bool false, .slice none 0 0, .slice none 0 0, .int .i64 0, .int .i64 0, .int .i64 0]) (t := 38) ?hr ?_; (case hd => rfl); (case hg => rfl); (case hr => first | (go_simp; done) | (go_simp; rfl)); intro gb1587 hg w27 hbox hb; have BK1587 := am (hbox); have GW1587 := am ((by rw [hg]; exact (below_size (pkW HB.out)) : w.heap.size ≤ gb1587)); have GE1587 := am ((by rw [hg]; exact (below_size (pkW HB.out)) : w.heap.size ≤ gb1587)); replace HB := am (below_step (pkW HB.out) hb); have NB1586_1587 := am ((by rw [hg]; exact Nat.ne_of_lt (blk_lt (g := gb1586) (o := .cells #[.bool a0_0, .slice A0_1 l0_1.length c0_1, .slice A0_2 l0_2.length c0_2, .int .i64 a0_3, .int .i64 a0_4, .int .i64 a0_5] 38 (0, 0)) (pkK BK1586.out)) : gb1586 ≠ gb1587)); have NB1587_1586 := am ((by rw [hg]; exact Nat.ne_of_gt (blk_lt (g := gb1586) (o := .cells #[.bool a0_0, .slice A0_1 l0_1.length c0_1, .slice A0_2 l0_2.length c0_2, .int .i64 a0_3, .int .i64 a0_4, .int .i64 a0_5] 38 (0, 0)) (pkK BK1586.out)) : gb1587 ≠ gb1586)); replace BK1586 := am (blk_below (pkK BK1586.out) hb); clear hb hbox hg; have hnb28 := NB1586_1587.out; have hnc28 := NB1587_1586.out; obtain ⟨hcz29_0, hcz29_1, hcz29_2, hcz29_3, hcz29_4, hcz29_5, hfz29_0, hfz29_1, hfz29_2, hfz29_3, hfz29_4, hfz29_5⟩ := bk6 BK1586.out) | ((with_reducible refine gate_callee (f := 69) rfl ?_); refine goesL_ (some 9) rfl rfl Try.func69 (by kernel_rfl) rfl #[.agg #[.bool a0_0, .slice A0_1 l0_1.length c0_1, .slice A0_2 l0_2.length c0_2, .int .i64 a0_3, .int .i64 a0_4, .int .i64 a0_5]] rfl mpx ?_; (with_reducible refine (spec_l5Copy.calls a0_0 _ _ l0_1 _ _ l0_2 a0_3 a0_4 a0_5 t1588 t1589 t1592 t1595 t1596 t1597 _ ?side1 ?side2 ?side3 ?side4 A3.out).mono ?_); (case side1 => exact pkC (Kd.C_below HR0_1.out HB.out)); (case side2 => exact HC0_1.out); (case side3 => exact pkC (Kd.C_below HR0_2.out HB.out)); (case side4 => exact HC0_2.out); rintro e w30 ⟨v1590, v1593, rfl, ho0, ho1, hb⟩; refine ⟨_, rfl, ?_⟩; have HO1591 := am (Kd.R_lower ho0 (below_size (pkW HB.out))); have HO1594 := am (Kd.R_lower ho1 (below_size (pkW HB.out))); replace BK1586 := am (blk_below (pkK BK1586.out) hb); replace BK1587 := am (blk_below (pkK BK1587.out) hb); replace HB := am (below_step (pkW HB.out) hb); (try clear hb ho0 ho1)) | ((with_reducible refine gate_dst (N := 6) rfl ?_); refine box_event ?hg (N := 6) ?hd (cs := #[.bool false, .slice none 0 0, .slice none 0 0, .int .i64 0, .int .i64 0, .int .i64 0]) (t := 38) ?hr ?_; (case hd => rfl); (case hg => rfl); (case hr => first | (go_simp; done) | (go_simp; rfl)); intro gb1598 hg w31 hbox hb; replace HO1591 := am (Kd.R_below (pkR HO1591.out) hb); replace HO1594 := am (Kd.R_below (pkR HO1594.out) hb); have BK1598 := am (hbox); have GW1598 := am ((by rw [hg]; exact (below_size (pkW HB.out)) : w.heap.size ≤ gb1598)); have GE1598 := am ((by rw [hg]; exact (below_size (pkW HB.out)) : w.heap.size ≤ gb1598)); replace HB := am (below_step (pkW HB.out) hb); have NB1586_1598 := am ((by rw [hg]; exact Nat.ne_of_lt (blk_lt (g := gb1586) (o := .cells #[.bool a0_0, .slice A0_1 l0_1.length c0_1, .slice A0_2 l0_2.length c0_2, .int .i64 a0_3, .int .i64 a0_4, .int .i64 a0_5] 38 (0, 0)) (pkK BK1586.out)) : gb1586 ≠ gb1598)); have NB1598_1586 := am ((by rw [hg]; exact Nat.ne_of_gt (blk_lt (g := gb1586) (o := .cells #[.bool a0_0, .slice A0_1 l0_1.length c0_1, .slice A0_2 l0_2.length c0_2, .int .i64 a0_3, .int .i64 a0_4, .int .i64 a0_5] 38 (0, 0)) (pkK BK1586.out)) : gb1598 ≠ gb1586)); replace BK1586 := am (blk_below (pkK BK1586.out) hb); have NB1587_1598 := am ((by rw [hg]; exact Nat.ne_of_lt (blk_lt (g := gb1587) (o := .cells #[.bool false, .slice none 0 0, .slice none 0 0, .int .i64 0, .int .i64 0, .int .i64 0] 38 (0, 0)) (pkK BK1587.out)) : gb1587 ≠ gb1598)); have NB1598_1587 := am ((by rw [hg]; exact Nat.ne_of_gt (blk_lt (g := gb1587) (o := .cells #[.bool false, .slice none 0 0, .slice none 0 0, .int .i64 0, .int .i64 0, .int .i64 0] 38 (0, 0)) (pkK BK1587.out)) : gb1598 ≠ gb1587)); replace BK1587 := am (blk_below (pkK BK1587.out) hb); clear hb hbox hg; have hnb32 := NB1598_1586.out; have hnc32 := NB1586_1598.out; have hnb33 := NB1598_1587.out; have hnc33 := NB1587_1598.out; obtain ⟨hcz34_0, hcz34_1, hcz34_2, hcz34_3, hcz34_4, hcz34_5, hfz34_0, hfz34_1, hfz34_2, hfz34_3, hfz34_4, hfz34_5⟩ := bk6 BK1598.out; obtain ⟨Ao35, co35, eo35⟩ := Kd.R_slice HO1591.out; subst eo35; obtain ⟨Ao36, co36, eo36⟩ := Kd.R_slice HO1594.out; subst eo36; obtain ⟨hcz37_0, hcz37_1, hcz37_2, hcz37_3, hcz37_4, hcz37_5, hfz37_0, hfz37_1, hfz37_2, hfz37_3, hfz37_4, hfz37_5⟩ := bk6 BK1586.out) | ((with_reducible refine gate_callee (f := 59) rfl ?_); refine goesL_ (some 13) rfl rfl Try.func59 (by kernel_rfl) rfl #[.slice A0_2 l0_2.length c0_2, .int .i64 a1] rfl mpx ?_; (with_reducible refine (spec_l5At.calls k _ _ l0_2 a1 t1599 _ ?side1 ?side2 A4.out).mono ?_); (case side1 => exact Kd.C_below HR0_2.out (pkW HB.out)); (case side2 => exact HC0_2.out); rintro e w' ⟨rfl, ⟨nd, rfl⟩⟩; refine ⟨_, rfl, ?_⟩) | ((with_reducible refine gate_callee (f := 20) rfl ?_); refine goesL_ (some 16) rfl rfl Try.func20 (by kernel_rfl) rfl #[.agg #[.bool a0_0, .slice A0_1 l0_1.length c0_1, .slice A0_2 l0_2.length c0_2, .int .i64 a0_3, .int .i64 a0_4, .int .i64 a0_5]] rfl mpx ?_; (with_reducible refine (spec_NotifyOk.calls k a0_0 _ _ l0_1 _ _ l0_2 a0_3 a0_4 a0_5 true _ ?side1 ?side2 ?side3 ?side4 A5.out).mono ?_); (case side1 => exact Kd.C_below HR0_1.out (pkW HB.out)); (case side2 => exact HC0_1.out); (case side3 => exact Kd.C_below HR0_2.out (pkW HB.out)); (case side4 => exact HC0_2.out); rintro e w38 ⟨rfl, hb⟩; refine ⟨_, rfl, ?_⟩; replace HO1591 := am (Kd.R_below (by (with_reducible repeat (first | apply Kd.R_alloc | apply Kd.R_drewN | apply Kd.R_drew)); exact (Kd.R_mono (Kd.R_far (p := ⟨gb1598, 5, none⟩) (Kd.R_far (p := ⟨gb1598, 4, none⟩) (Kd.R_far (p := ⟨gb1598, 3, none⟩) (Kd.R_far (p := ⟨gb1598, 2, none⟩) (Kd.R_far (p := ⟨gb1598, 1, none⟩) (Kd.R_far (p := ⟨gb1598, 0, none⟩) (Kd.R_types HO1591.out BK1598.out (by decide)) (fun _ hk => hk.2) (.bool t1588)) (fun _ hk => hk.2) (.slice Ao35 t1589.length co35)) (fun _ hk => hk.2) (.slice Ao36 t1592.length co36)) (fun _ hk => hk.2) (.int .i64 t1595)) (fun _ hk => hk.2) (.int .i64 t1596)) (fun _ hk => hk.2) (.int .i64 t1597)) (fun _ h_ => h_.1))) hb); replace HO1594 := am (Kd.R_below (by (with_reducible repeat (first | apply Kd.R_alloc | apply Kd.R_drewN | apply Kd.R_drew)); exact (Kd.R_mono (Kd.R_far (p := ⟨gb1598, 5, none⟩) (Kd.R_far (p := ⟨gb1598, 4, none⟩) (Kd.R_far (p := ⟨gb1598, 3, none⟩) (Kd.R_far (p := ⟨gb1598, 2, none⟩) (Kd.R_far (p := ⟨gb1598, 1, none⟩) (Kd.R_far (p := ⟨gb1598, 0, none⟩) (Kd.R_types HO1594.out BK1598.out (by decide)) (fun _ hk => hk.2) (.bool t1588)) (fun _ hk => hk.2) (.slice Ao35 t1589.length co35)) (fun _ hk => hk.2) (.slice Ao36 t1592.length co36)) (fun _ hk => hk.2) (.int .i64 t1595)) (fun _ hk => hk.2) (.int .i64 t1596)) (fun _ hk => hk.2) (.int .i64 t1597)) (fun _ h_ => h_.1))) hb); replace BK1586 := am (blk_below (g := gb1586) (o := .cells #[.bool a0_0, .slice A0_1 l0_1.length c0_1, .slice A0_2 l0_2.length c0_2, .int .i64 a0_3, .int .i64 a0_4, .int .i64 a0_5] 38 (0, 0)) (by (with_reducible repeat (first | refine blk_drewN ?_ _ | refine blk_drew ?_ | refine blk_alloc ?_ _)); refine blk_far ?_ NB1586_1598.out _; (with_reducible repeat (first | refine blk_drewN ?_ _ | refine blk_drew ?_ | refine blk_alloc ?_ _)); refine blk_far ?_ NB1586_1598.out _; (with_reducible repeat (first | refine blk_drewN ?_ _ | refine blk_drew ?_ | refine blk_alloc ?_ _)); refine blk_far ?_ NB1586_1598.out _; (with_reducible repeat (first | refine blk_drewN ?_ _ | refine blk_drew ?_ | refine blk_alloc ?_ _)); refine blk_far ?_ NB1586_1598.out _; (with_reducible repeat (first | refine blk_drewN ?_ _ | refine blk_drew ?_ | refine blk_alloc ?_ _)); refine blk_far ?_ NB1586_1598.out _; (with_reducible repeat (first | refine blk_drewN ?_ _ | refine blk_drew ?_ | refine blk_alloc ?_ _)); refine blk_far ?_ NB1586_1598.out _; exact pkK BK1586.out) hb); replace BK1587 := am (blk_below (g := gb1587) (o := .cells #[.bool false, .slice none 0 0, .slice none 0 0, .int .i64 0, .int .i64 0, .int .i64 0] 38 (0, 0)) (by (with_reducible repeat (first | refine blk_drewN ?_ _ | refine blk_drew ?_ | refine blk_alloc ?_ _)); refine blk_far ?_ NB1587_1598.out _; (with_reducible repeat (first | refine blk_drewN ?_ _ | refine blk_drew ?_ | refine blk_alloc ?_ _)); refine blk_far ?_ NB1587_1598.out _; (with_reducible repeat (first | refine blk_drewN ?_ _ | refine blk_drew ?_ | refine blk_alloc ?_ _)); refine blk_far ?_ NB1587_1598.out _; (with_reducible repeat (first | refine blk_drewN ?_ _ | refine blk_drew ?_ | refine blk_alloc ?_ _)); refine blk_far ?_ NB1587_1598.out _; (with_reducible repeat (first | refine blk_drewN ?_ _ | refine blk_drew ?_ | refine blk_alloc ?_ _)); refine blk_far ?_ NB1587_1598.out _; (with_reducible repeat (first | refine blk_drewN ?_ _ | refine blk_drew ?_ | refine blk_alloc ?_ _)); refine blk_far ?_ NB1587_1598.out _; exact pkK BK1587.out) hb); replace BK1598 := am (blk_below (g := gb1598) (o := .cells #[.bool t1588, .slice Ao35 t1589.length co35, .slice Ao36 t1592.length co36, .int .i64 t1595, .int .i64 t1596, .int .i64 t1597] 38 (0, 0)) (by (with_reducible repeat (first | refine blk_drewN ?_ _ | refine blk_drew ?_ | refine blk_alloc ?_ _)); refine blk_put (cs := #[.bool t1588, .slice Ao35 t1589.length co35, .slice Ao36 t1592.length co36, .int .i64 t1595, .int .i64 t1596, .int .i64 0]) ?_ 5 _ rfl; (with_reducible repeat (first | refine blk_drewN ?_ _ | refine blk_drew ?_ | refine blk_alloc ?_ _)); refine blk_put (cs := #[.bool t1588, .slice Ao35 t1589.length co35, .slice Ao36 t1592.length co36, .int .i64 t1595, .int .i64 0, .int .i64 0]) ?_ 4 _ rfl; (with_reducible repeat (first | refine blk_drewN ?_ _ | refine blk_drew ?_ | refine blk_alloc ?_ _)); refine blk_put (cs := #[.bool t1588, .slice Ao35 t1589.length co35, .slice Ao36 t1592.length co36, .int .i64 0, .int .i64 0, .int .i64 0]) ?_ 3 _ rfl; (with_reducible repeat (first | refine blk_drewN ?_ _ | refine blk_drew ?_ | refine blk_alloc ?_ _)); refine blk_put (cs := #[.bool t1588, .slice Ao35 t1589.length co35, .slice none 0 0, .int .i64 0, .int .i64 0, .int .i64 0]) ?_ 2 _ rfl; (with_reducible repeat (first | refine blk_drewN ?_ _ | refine blk_drew ?_ | refine blk_alloc ?_ _)); refine blk_put (cs := #[.bool t1588, .slice none 0 0, .slice none 0 0, .int .i64 0, .int .i64 0, .int .i64 0]) ?_ 1 _ rfl; (with_reducible repeat (first | refine blk_drewN ?_ _ | refine blk_drew ?_ | refine blk_alloc ?_ _)); refine blk_put (cs := #[.bool false, .slice none 0 0, .slice none 0 0, .int .i64 0, .int .i64 0, .int .i64 0]) ?_ 0 _ rfl; exact pkK BK1598.out) hb); replace HB := am (below_step (pkW HB.out) hb); (try clear hb); obtain ⟨hcz39_0, hcz39_1, hcz39_2, hcz39_3, hcz39_4, hcz39_5, hfz39_0, hfz39_1, hfz39_2, hfz39_3, hfz39_4, hfz39_5⟩ := bk6 BK1586.out) | ((with_reducible refine gate_callee (f := 60) rfl ?_); refine goesL_ (some 23) rfl rfl Try.func60 (by kernel_rfl) rfl #[.slice A0_1 l0_1.length c0_1, .int .i64 a1] rfl mpx ?_; (with_reducible refine (spec_l2Has.calls k _ _ l0_1 a1 false _ ?side1 ?side2 A7.out).mono ?_); (case side1 => exact pkC (Kd.C_below HR0_1.out HB.out)); (case side2 => exact HC0_1.out); rintro e w' ⟨rfl, ⟨nd, rfl⟩⟩; refine ⟨_, rfl, ?_⟩; (try (rw [drewN_self w38]; generalize hq_ : World.drewN w38 _ = w38; replace HO1591 : Aside0 (Kd.R (Kd.int .i64) 3 w38 w.heap.size (fun _ => True) (.slice Ao35 t1589.length co35) t1589) := ⟨by rw [← hq_]; exact (pkR HO1591.out)⟩; replace HO1594 : Aside0 (Kd.R k67 67 w38 w.heap.size (fun _ => True) (.slice Ao36 t1592.length co36) t1592) := ⟨by rw [← hq_]; exact (pkR HO1594.out)⟩; replace BK1586 : Aside0 (w38.heap[gb1586]? = some (.cells #[.bool a0_0, .slice A0_1 l0_1.length c0_1, .slice A0_2 l0_2.length c0_2, .int .i64 a0_3, .int .i64 a0_4, .int .i64 a0_5] 38 (0, 0))) := ⟨by rw [← hq_]; exact (pkK BK1586.out)⟩; replace BK1587 : Aside0 (w38.heap[gb1587]? = some (.cells #[.bool false, .slice none 0 0, .slice none 0 0, .int .i64 0, .int .i64 0, .int .i64 0] 38 (0, 0))) := ⟨by rw [← hq_]; exact (pkK BK1587.out)⟩; replace BK1598 : Aside0 (w38.heap[gb1598]? = some (.cells #[.bool t1588, .slice Ao35 t1589.length co35, .slice Ao36 t1592.length co36, .int .i64 t1595, .int .i64 t1596, .int .i64 t1597] 38 (0, 0))) := ⟨by rw [← hq_]; exact (pkK BK1598.out)⟩; replace HB : Aside0 (Below w.heap.size w w38) := ⟨by rw [← hq_]; exact (pkW HB.out)⟩; clear hq_)); obtain ⟨hcz40_0, hcz40_1, hcz40_2, hcz40_3, hcz40_4, hcz40_5, hfz40_0, hfz40_1, hfz40_2, hfz40_3, hfz40_4, hfz40_5⟩ := bk6 BK1598.out; obtain ⟨hcz41_0, hcz41_1, hcz41_2, hcz41_3, hcz41_4, hcz41_5, hfz41_0, hfz41_1, hfz41_2, hfz41_3, hfz41_4, hfz41_5⟩ := bk6 BK1587.out))
    refine bodyPost_ret (results_ct rfl _ _ gb1587 38 #[.bool t1588, .slice Ao35 t1589.length co35, .slice Ao36 t1592.length co36, .int .i64 t1595, .int .i64 t1596, .int .i64 t1597] (0, 0) _ rfl (by (with_reducible repeat (first | refine blk_drewN ?_ _ | refine blk_drew ?_ | refine blk_alloc ?_ _)); refine blk_put (cs := #[.bool t1588, .slice Ao35 t1589.length co35, .slice Ao36 t1592.length co36, .int .i64 t1595, .int .i64 t1596, .int .i64 0]) ?_ 5 _ rfl; (with_reducible repeat (first | refine blk_drewN ?_ _ | refine blk_drew ?_ | refine blk_alloc ?_ _)); refine blk_put (cs := #[.bool t1588, .slice Ao35 t1589.length co35, .slice Ao36 t1592.length co36, .int .i64 t1595, .int .i64 0, .int .i64 0]) ?_ 4 _ rfl; (with_reducible repeat (first | refine blk_drewN ?_ _ | refine blk_drew ?_ | refine blk_alloc ?_ _)); refine blk_put (cs := #[.bool t1588, .slice Ao35 t1589.length co35, .slice Ao36 t1592.length co36, .int .i64 0, .int .i64 0, .int .i64 0]) ?_ 3 _ rfl; (with_reducible repeat (first | refine blk_drewN ?_ _ | refine blk_drew ?_ | refine blk_alloc ?_ _)); refine blk_put (cs := #[.bool t1588, .slice Ao35 t1589.length co35, .slice none 0 0, .int .i64 0, .int .i64 0, .int .i64 0]) ?_ 2 _ rfl; (with_reducible repeat (first | refine blk_drewN ?_ _ | refine blk_drew ?_ | refine blk_alloc ?_ _)); refine blk_put (cs := #[.bool t1588, .slice none 0 0, .slice none 0 0, .int .i64 0, .int .i64 0, .int .i64 0]) ?_ 1 _ rfl; (with_reducible repeat (first | refine blk_drewN ?_ _ | refine blk_drew ?_ | refine blk_alloc ?_ _)); refine blk_put (cs := #[.bool false, .slice none 0 0, .slice none 0 0, .int .i64 0, .int .i64 0, .int .i64 0]) ?_ 0 _ rfl; exact pkK BK1587.out) Try.underlying38 rfl (by kernel_rfl)) rfl ?_
    exact ⟨_, _, rfe, by (with_reducible repeat (first | apply Kd.R_alloc | apply Kd.R_drewN | apply Kd.R_drew)); exact Kd.R_mono (Kd.R_far (p := ⟨gb1587, 5, none⟩) (Kd.R_far (p := ⟨gb1587, 4, none⟩) (Kd.R_far (p := ⟨gb1587, 3, none⟩) (Kd.R_far (p := ⟨gb1587, 2, none⟩) (Kd.R_far (p := ⟨gb1587, 1, none⟩) (Kd.R_far (p := ⟨gb1587, 0, none⟩) (Kd.R_types HO1591.out BK1587.out (by decide)) (fun _ hk => hk.2) (.bool t1588)) (fun _ hk => hk.2) (.slice Ao35 t1589.length co35)) (fun _ hk => hk.2) (.slice Ao36 t1592.length co36)) (fun _ hk => hk.2) (.int .i64 t1595)) (fun _ hk => hk.2) (.int .i64 t1596)) (fun _ hk => hk.2) (.int .i64 t1597)) (fun _ hk => trivial), by (with_reducible repeat (first | apply Kd.R_alloc | apply Kd.R_drewN | apply Kd.R_drew)); exact Kd.R_mono (Kd.R_far (p := ⟨gb1587, 5, none⟩) (Kd.R_far (p := ⟨gb1587, 4, none⟩) (Kd.R_far (p := ⟨gb1587, 3, none⟩) (Kd.R_far (p := ⟨gb1587, 2, none⟩) (Kd.R_far (p := ⟨gb1587, 1, none⟩) (Kd.R_far (p := ⟨gb1587, 0, none⟩) (Kd.R_types HO1594.out BK1587.out (by decide)) (fun _ hk => hk.2) (.bool t1588)) (fun _ hk => hk.2) (.slice Ao35 t1589.length co35)) (fun _ hk => hk.2) (.slice Ao36 t1592.length co36)) (fun _ hk => hk.2) (.int .i64 t1595)) (fun _ hk => hk.2) (.int .i64 t1596)) (fun _ hk => hk.2) (.int .i64 t1597)) (fun _ hk => trivial), pkW HB.out⟩
   ·rw [if_neg c25] at H
    have c25b0 : decide (t1599 < 0) = false := decide_eq_false c25
    clear c25
    have HC42 := am H
    clear H
    go_enter Try.func48, Try.ntmps48
    go_upto_region 9 with (first | ((with_reducible refine gate_dst (N := 2) rfl ?_); refine box_event ?hg (N := 2) ?hd (cs := #[.bool a0_0, .slice A0_1 l0_1.length c0_1, .slice A0_2 l0_2.length c0_2, .int .i64 a0_3, .int .i64 a0_4, .int .i64 a0_5]) (t := 38) ?hr ?_; (case hd => rfl); (case hg => rfl); (case hr => first | (go_simp; done) | (go_simp; rfl)); intro gb1586 hg w43 hbox hb; have BK1586 := am (hbox); have GW1586 := am ((by rw [hg]; exact (below_size (pkB HB.out)) : w.heap.size ≤ gb1586)); have GE1586 := am ((by rw [hg]; exact (below_size (pkB HB.out)) : w.heap.size ≤ gb1586)); replace HB := am (below_step (pkB HB.out) hb); clear hb hbox hg) | ((with_reducible refine gate_dst (N := 4) rfl ?_); refine box_event ?hg (N := 4) ?hd (cs := #[.bool false, .slice none 0 0, .slice none 0 0, .int .i64 0, .int .i64 0, .int .i64 0]) (t := 38) ?hr ?_; (case hd => rfl); (case hg => rfl); (case hr => first | (go_simp; done) | (go_simp; rfl)); intro gb1587 hg w44 hbox hb; have BK1587 := am (hbox); have GW1587 := am ((by rw [hg]; exact (below_size (pkW HB.out)) : w.heap.size ≤ gb1587)); have GE1587 := am ((by rw [hg]; exact (below_size (pkW HB.out)) : w.heap.size ≤ gb1587)); replace HB := am (below_step (pkW HB.out) hb); have NB1586_1587 := am ((by rw [hg]; exact Nat.ne_of_lt (blk_lt (g := gb1586) (o := .cells #[.bool a0_0, .slice A0_1 l0_1.length c0_1, .slice A0_2 l0_2.length c0_2, .int .i64 a0_3, .int .i64 a0_4, .int .i64 a0_5] 38 (0, 0)) (pkK BK1586.out)) : gb1586 ≠ gb1587)); have NB1587_1586 := am ((by rw [hg]; exact Nat.ne_of_gt (blk_lt (g := gb1586) (o := .cells #[.bool a0_0, .slice A0_1 l0_1.length c0_1, .slice A0_2 l0_2.length c0_2, .int .i64 a0_3, .int .i64 a0_4, .int .i64 a0_5] 38 (0, 0)) (pkK BK1586.out)) : gb1587 ≠ gb1586)); replace BK1586 := am (blk_below (pkK BK1586.out) hb); clear hb hbox hg; have hnb45 := NB1586_1587.out; have hnc45 := NB1587_1586.out; obtain ⟨hcz46_0, hcz46_1, hcz46_2, hcz46_3, hcz46_4, hcz46_5, hfz46_0, hfz46_1, hfz46_2, hfz46_3, hfz46_4, hfz46_5⟩ := bk6 BK1586.out) | ((with_reducible refine gate_callee (f := 69) rfl ?_); refine goesL_ (some 9) rfl rfl Try.func69 (by kernel_rfl) rfl #[.agg #[.bool a0_0, .slice A0_1 l0_1.length c0_1, .slice A0_2 l0_2.length c0_2, .int .i64 a0_3, .int .i64 a0_4, .int .i64 a0_5]] rfl mpx ?_; (with_reducible refine (spec_l5Copy.calls a0_0 _ _ l0_1 _ _ l0_2 a0_3 a0_4 a0_5 t1588 t1589 t1592 t1595 t1596 t1597 _ ?side1 ?side2 ?side3 ?side4 A3.out).mono ?_); (case side1 => exact pkC (Kd.C_below HR0_1.out HB.out)); (case side2 => exact HC0_1.out); (case side3 => exact pkC (Kd.C_below HR0_2.out HB.out)); (case side4 => exact HC0_2.out); rintro e w47 ⟨v1590, v1593, rfl, ho0, ho1, hb⟩; refine ⟨_, rfl, ?_⟩; have HO1591 := am (Kd.R_lower ho0 (below_size (pkW HB.out))); have HO1594 := am (Kd.R_lower ho1 (below_size (pkW HB.out))); replace BK1586 := am (blk_below (pkK BK1586.out) hb); replace BK1587 := am (blk_below (pkK BK1587.out) hb); replace HB := am (below_step (pkW HB.out) hb); (try clear hb ho0 ho1)) | ((with_reducible refine gate_dst (N := 6) rfl ?_); refine box_event ?hg (N := 6) ?hd (cs := #[.bool false, .slice none 0 0, .slice none 0 0, .int .i64 0, .int .i64 0, .int .i64 0]) (t := 38) ?hr ?_; (case hd => rfl); (case hg => rfl); (case hr => first | (go_simp; done) | (go_simp; rfl)); intro gb1598 hg w48 hbox hb; replace HO1591 := am (Kd.R_below (pkR HO1591.out) hb); replace HO1594 := am (Kd.R_below (pkR HO1594.out) hb); have BK1598 := am (hbox); have GW1598 := am ((by rw [hg]; exact (below_size (pkW HB.out)) : w.heap.size ≤ gb1598)); have GE1598 := am ((by rw [hg]; exact (below_size (pkW HB.out)) : w.heap.size ≤ gb1598)); replace HB := am (below_step (pkW HB.out) hb); have NB1586_1598 := am ((by rw [hg]; exact Nat.ne_of_lt (blk_lt (g := gb1586) (o := .cells #[.bool a0_0, .slice A0_1 l0_1.length c0_1, .slice A0_2 l0_2.length c0_2, .int .i64 a0_3, .int .i64 a0_4, .int .i64 a0_5] 38 (0, 0)) (pkK BK1586.out)) : gb1586 ≠ gb1598)); have NB1598_1586 := am ((by rw [hg]; exact Nat.ne_of_gt (blk_lt (g := gb1586) (o := .cells #[.bool a0_0, .slice A0_1 l0_1.length c0_1, .slice A0_2 l0_2.length c0_2, .int .i64 a0_3, .int .i64 a0_4, .int .i64 a0_5] 38 (0, 0)) (pkK BK1586.out)) : gb1598 ≠ gb1586)); replace BK1586 := am (blk_below (pkK BK1586.out) hb); have NB1587_1598 := am ((by rw [hg]; exact Nat.ne_of_lt (blk_lt (g := gb1587) (o := .cells #[.bool false, .slice none 0 0, .slice none 0 0, .int .i64 0, .int .i64 0, .int .i64 0] 38 (0, 0)) (pkK BK1587.out)) : gb1587 ≠ gb1598)); have NB1598_1587 := am ((by rw [hg]; exact Nat.ne_of_gt (blk_lt (g := gb1587) (o := .cells #[.bool false, .slice none 0 0, .slice none 0 0, .int .i64 0, .int .i64 0, .int .i64 0] 38 (0, 0)) (pkK BK1587.out)) : gb1598 ≠ gb1587)); replace BK1587 := am (blk_below (pkK BK1587.out) hb); clear hb hbox hg; have hnb49 := NB1598_1586.out; have hnc49 := NB1586_1598.out; have hnb50 := NB1598_1587.out; have hnc50 := NB1587_1598.out; obtain ⟨hcz51_0, hcz51_1, hcz51_2, hcz51_3, hcz51_4, hcz51_5, hfz51_0, hfz51_1, hfz51_2, hfz51_3, hfz51_4, hfz51_5⟩ := bk6 BK1598.out; obtain ⟨Ao52, co52, eo52⟩ := Kd.R_slice HO1591.out; subst eo52; obtain ⟨Ao53, co53, eo53⟩ := Kd.R_slice HO1594.out; subst eo53; obtain ⟨hcz54_0, hcz54_1, hcz54_2, hcz54_3, hcz54_4, hcz54_5, hfz54_0, hfz54_1, hfz54_2, hfz54_3, hfz54_4, hfz54_5⟩ := bk6 BK1586.out) | ((with_reducible refine gate_callee (f := 59) rfl ?_); refine goesL_ (some 13) rfl rfl Try.func59 (by kernel_rfl) rfl #[.slice A0_2 l0_2.length c0_2, .int .i64 a1] rfl mpx ?_; (with_reducible refine (spec_l5At.calls k _ _ l0_2 a1 t1599 _ ?side1 ?side2 A4.out).mono ?_); (case side1 => exact Kd.C_below HR0_2.out (pkW HB.out)); (case side2 => exact HC0_2.out); rintro e w' ⟨rfl, ⟨nd, rfl⟩⟩; refine ⟨_, rfl, ?_⟩) | ((with_reducible refine gate_callee (f := 20) rfl ?_); refine goesL_ (some 16) rfl rfl Try.func20 (by kernel_rfl) rfl #[.agg #[.bool a0_0, .slice A0_1 l0_1.length c0_1, .slice A0_2 l0_2.length c0_2, .int .i64 a0_3, .int .i64 a0_4, .int .i64 a0_5]] rfl mpx ?_; (with_reducible refine (spec_NotifyOk.calls k a0_0 _ _ l0_1 _ _ l0_2 a0_3 a0_4 a0_5 true _ ?side1 ?side2 ?side3 ?side4 A5.out).mono ?_); (case side1 => exact Kd.C_below HR0_1.out (pkW HB.out)); (case side2 => exact HC0_1.out); (case side3 => exact Kd.C_below HR0_2.out (pkW HB.out)); (case side4 => exact HC0_2.out); rintro e w55 ⟨rfl, hb⟩; refine ⟨_, rfl, ?_⟩; replace HO1591 := am (Kd.R_below (by (with_reducible repeat (first | apply Kd.R_alloc | apply Kd.R_drewN | apply Kd.R_drew)); exact (Kd.R_mono (Kd.R_far (p := ⟨gb1598, 5, none⟩) (Kd.R_far (p := ⟨gb1598, 4, none⟩) (Kd.R_far (p := ⟨gb1598, 3, none⟩) (Kd.R_far (p := ⟨gb1598, 2, none⟩) (Kd.R_far (p := ⟨gb1598, 1, none⟩) (Kd.R_far (p := ⟨gb1598, 0, none⟩) (Kd.R_types HO1591.out BK1598.out (by decide)) (fun _ hk => hk.2) (.bool t1588)) (fun _ hk => hk.2) (.slice Ao52 t1589.length co52)) (fun _ hk => hk.2) (.slice Ao53 t1592.length co53)) (fun _ hk => hk.2) (.int .i64 t1595)) (fun _ hk => hk.2) (.int .i64 t1596)) (fun _ hk => hk.2) (.int .i64 t1597)) (fun _ h_ => h_.1))) hb); replace HO1594 := am (Kd.R_below (by (with_reducible repeat (first | apply Kd.R_alloc | apply Kd.R_drewN | apply Kd.R_drew)); exact (Kd.R_mono (Kd.R_far (p := ⟨gb1598, 5, none⟩) (Kd.R_far (p := ⟨gb1598, 4, none⟩) (Kd.R_far (p := ⟨gb1598, 3, none⟩) (Kd.R_far (p := ⟨gb1598, 2, none⟩) (Kd.R_far (p := ⟨gb1598, 1, none⟩) (Kd.R_far (p := ⟨gb1598, 0, none⟩) (Kd.R_types HO1594.out BK1598.out (by decide)) (fun _ hk => hk.2) (.bool t1588)) (fun _ hk => hk.2) (.slice Ao52 t1589.length co52)) (fun _ hk => hk.2) (.slice Ao53 t1592.length co53)) (fun _ hk => hk.2) (.int .i64 t1595)) (fun _ hk => hk.2) (.int .i64 t1596)) (fun _ hk => hk.2) (.int .i64 t1597)) (fun _ h_ => h_.1))) hb); replace BK1586 := am (blk_below (g := gb1586) (o := .cells #[.bool a0_0, .slice A0_1 l0_1.length c0_1, .slice A0_2 l0_2.length c0_2, .int .i64 a0_3, .int .i64 a0_4, .int .i64 a0_5] 38 (0, 0)) (by (with_reducible repeat (first | refine blk_drewN ?_ _ | refine blk_drew ?_ | refine blk_alloc ?_ _)); refine blk_far ?_ NB1586_1598.out _; (with_reducible repeat (first | refine blk_drewN ?_ _ | refine blk_drew ?_ | refine blk_alloc ?_ _)); refine blk_far ?_ NB1586_1598.out _; (with_reducible repeat (first | refine blk_drewN ?_ _ | refine blk_drew ?_ | refine blk_alloc ?_ _)); refine blk_far ?_ NB1586_1598.out _; (with_reducible repeat (first | refine blk_drewN ?_ _ | refine blk_drew ?_ | refine blk_alloc ?_ _)); refine blk_far ?_ NB1586_1598.out _; (with_reducible repeat (first | refine blk_drewN ?_ _ | refine blk_drew ?_ | refine blk_alloc ?_ _)); refine blk_far ?_ NB1586_1598.out _; (with_reducible repeat (first | refine blk_drewN ?_ _ | refine blk_drew ?_ | refine blk_alloc ?_ _)); refine blk_far ?_ NB1586_1598.out _; exact pkK BK1586.out) hb); replace BK1587 := am (blk_below (g := gb1587) (o := .cells #[.bool false, .slice none 0 0, .slice none 0 0, .int .i64 0, .int .i64 0, .int .i64 0] 38 (0, 0)) (by (with_reducible repeat (first | refine blk_drewN ?_ _ | refine blk_drew ?_ | refine blk_alloc ?_ _)); refine blk_far ?_ NB1587_1598.out _; (with_reducible repeat (first | refine blk_drewN ?_ _ | refine blk_drew ?_ | refine blk_alloc ?_ _)); refine blk_far ?_ NB1587_1598.out _; (with_reducible repeat (first | refine blk_drewN ?_ _ | refine blk_drew ?_ | refine blk_alloc ?_ _)); refine blk_far ?_ NB1587_1598.out _; (with_reducible repeat (first | refine blk_drewN ?_ _ | refine blk_drew ?_ | refine blk_alloc ?_ _)); refine blk_far ?_ NB1587_1598.out _; (with_reducible repeat (first | refine blk_drewN ?_ _ | refine blk_drew ?_ | refine blk_alloc ?_ _)); refine blk_far ?_ NB1587_1598.out _; (with_reducible repeat (first | refine blk_drewN ?_ _ | refine blk_drew ?_ | refine blk_alloc ?_ _)); refine blk_far ?_ NB1587_1598.out _; exact pkK BK1587.out) hb); replace BK1598 := am (blk_below (g := gb1598) (o := .cells #[.bool t1588, .slice Ao52 t1589.length co52, .slice Ao53 t1592.length co53, .int .i64 t1595, .int .i64 t1596, .int .i64 t1597] 38 (0, 0)) (by (with_reducible repeat (first | refine blk_drewN ?_ _ | refine blk_drew ?_ | refine blk_alloc ?_ _)); refine blk_put (cs := #[.bool t1588, .slice Ao52 t1589.length co52, .slice Ao53 t1592.length co53, .int .i64 t1595, .int .i64 t1596, .int .i64 0]) ?_ 5 _ rfl; (with_reducible repeat (first | refine blk_drewN ?_ _ | refine blk_drew ?_ | refine blk_alloc ?_ _)); refine blk_put (cs := #[.bool t1588, .slice Ao52 t1589.length co52, .slice Ao53 t1592.length co53, .int .i64 t1595, .int .i64 0, .int .i64 0]) ?_ 4 _ rfl; (with_reducible repeat (first | refine blk_drewN ?_ _ | refine blk_drew ?_ | refine blk_alloc ?_ _)); refine blk_put (cs := #[.bool t1588, .slice Ao52 t1589.length co52, .slice Ao53 t1592.length co53, .int .i64 0, .int .i64 0, .int .i64 0]) ?_ 3 _ rfl; (with_reducible repeat (first | refine blk_drewN ?_ _ | refine blk_drew ?_ | refine blk_alloc ?_ _)); refine blk_put (cs := #[.bool t1588, .slice Ao52 t1589.length co52, .slice none 0 0, .int .i64 0, .int .i64 0, .int .i64 0]) ?_ 2 _ rfl; (with_reducible repeat (first | refine blk_drewN ?_ _ | refine blk_drew ?_ | refine blk_alloc ?_ _)); refine blk_put (cs := #[.bool t1588, .slice none 0 0, .slice none 0 0, .int .i64 0, .int .i64 0, .int .i64 0]) ?_ 1 _ rfl; (with_reducible repeat (first | refine blk_drewN ?_ _ | refine blk_drew ?_ | refine blk_alloc ?_ _)); refine blk_put (cs := #[.bool false, .slice none 0 0, .slice none 0 0, .int .i64 0, .int .i64 0, .int .i64 0]) ?_ 0 _ rfl; exact pkK BK1598.out) hb); replace HB := am (below_step (pkW HB.out) hb); (try clear hb); obtain ⟨hcz56_0, hcz56_1, hcz56_2, hcz56_3, hcz56_4, hcz56_5, hfz56_0, hfz56_1, hfz56_2, hfz56_3, hfz56_4, hfz56_5⟩ := bk6 BK1586.out) | ((with_reducible refine gate_callee (f := 60) rfl ?_); refine goesL_ (some 23) rfl rfl Try.func60 (by kernel_rfl) rfl #[.slice A0_1 l0_1.length c0_1, .int .i64 a1] rfl mpx ?_; (with_reducible refine (spec_l2Has.calls k _ _ l0_1 a1 false _ ?side1 ?side2 A7.out).mono ?_); (case side1 => exact pkC (Kd.C_below HR0_1.out HB.out)); (case side2 => exact HC0_1.out); rintro e w' ⟨rfl, ⟨nd, rfl⟩⟩; refine ⟨_, rfl, ?_⟩))
    (try simp only [Act.put, List.setIfInBounds_toArray, List.set_cons_zero, List.set_cons_succ])
    go_cut [29] (fun v29 wc => ∃ (kq : Nat) (x29_41 : Bool), v29 = .bool x29_41 ∧ Aside0 (spec_Resume.j0 kq t1599 x29_41 a0_0 l0_1 l0_2 a0_3 a0_4 a0_5 t1588 t1589 t1592 t1595 t1596 t1597 = some (r1, r2, r3, r4, r5, r6, r7)) ∧ Aside0 (kq ≤ k) ∧ Aside0 (Kd.R (Kd.int .i64) 3 wc w.heap.size (fun _ => True) (.slice Ao52 t1589.length co52) t1589) ∧ Aside0 (Kd.R k67 67 wc w.heap.size (fun _ => True) (.slice Ao53 t1592.length co53) t1592) ∧ Aside0 (wc.heap[gb1586]? = some (.cells #[.bool a0_0, (.slice A0_1 l0_1.length c0_1), (.slice A0_2 l0_2.length c0_2), .int .i64 a0_3, .int .i64 a0_4, .int .i64 a0_5] 38 (0, 0))) ∧ Aside0 (wc.heap[gb1587]? = some (.cells #[.bool false, (.slice none 0 0), (.slice none 0 0), .int .i64 0, .int .i64 0, .int .i64 0] 38 (0, 0))) ∧ Aside0 (wc.heap[gb1598]? = some (.cells #[.bool t1588, (.slice Ao52 t1589.length co52), (.slice Ao53 t1592.length co53), .int .i64 t1595, .int .i64 t1596, .int .i64 t1597] 38 (0, 0))) ∧ Aside0 (Below w.heap.size w wc))
    case first =>
     have H := HC42.out
     clear HC42
     by_cases c57 : 0 ≤ t1599
     ·rw [if_pos c57] at H
      have c57b0 : decide (0 ≤ t1599) = true := decide_eq_true c57
      clear c57
      (first | rw [c57b0] | (simp only [i64_w, i32_w]; rw [c57b0]) | skip)
      by_cases c58 : t1599 < (l0_2.length : Int)
      ·rw [if_pos c58] at H
       have c58b0 : decide (t1599 < (l0_2.length : Int)) = true := decide_eq_true c58
       clear c58
       obtain ⟨bq59, hbq59⟩ : ∃ b_ : Bool, b_ = ((rd_T67 l0_2 t1599).f1) := ⟨_, rfl⟩
       replace H : (if bq59 = true then (spec_Resume.j0 k t1599 (decide (a0_5 ≥ 1000000000)) a0_0 l0_1 l0_2 a0_3 a0_4 a0_5 t1588 t1589 t1592 t1595 t1596 t1597) else (spec_Resume.j0 k t1599 false a0_0 l0_1 l0_2 a0_3 a0_4 a0_5 t1588 t1589 t1592 t1595 t1596 t1597)) = some (r1, r2, r3, r4, r5, r6, r7) := by rw [← hbq59] at H; exact H
       have Nbq59 := am hbq59
       clear hbq59
       by_cases c60 : bq59 = true
       ·subst c60
        replace H : (spec_Resume.j0 k t1599 (decide (a0_5 ≥ 1000000000)) a0_0 l0_1 l0_2 a0_3 a0_4 a0_5 t1588 t1589 t1592 t1595 t1596 t1597) = some (r1, r2, r3, r4, r5, r6, r7) := by rw [if_pos rfl] at H; exact H
        have H' := am H
        clear H
        have hnb61 := NB1586_1587.out
        have hnc61 := NB1587_1586.out
        have hnb62 := NB1586_1598.out
        have hnc62 := NB1598_1586.out
        obtain ⟨hcz63_0, hcz63_1, hcz63_2, hcz63_3, hcz63_4, hcz63_5, hfz63_0, hfz63_1, hfz63_2, hfz63_3, hfz63_4, hfz63_5⟩ := bk6 BK1586.out
        have p1602 : 0 ≤ (t1599 : Int) := ofd
        have q1602 : t1599 < (l0_2.length : Int) := ofd
        obtain ⟨ad1602, e1602, hx1602_0, hx1602_1⟩ := at_T67 HR0_2.out t1599 p1602 q1602
        (try rw [← Nbq59.out] at hx1602_1)
        cases e1602
        replace hx1602_0 := (HB.out.cell (World.block_lt_of_cell? w _ hx1602_0)).trans hx1602_0
        replace hx1602_1 := (HB.out.cell (World.block_lt_of_cell? w _ hx1602_1)).trans hx1602_1
        replace p1602 := eq_true p1602
        replace q1602 := eq_true q1602
        go_wp2
        go_meet
        case rel => exact ⟨_, (decide (a0_5 ≥ 1000000000)), rfx, H', ⟨by first | omega | exact Nat.le_refl _⟩, ⟨pkR HO1591.out⟩, ⟨pkR HO1594.out⟩, ⟨pkK BK1586.out⟩, ⟨pkK BK1587.out⟩, ⟨pkK BK1598.out⟩, ⟨pkW HB.out⟩⟩
       ·replace c60 := Bool.eq_false_iff.mpr c60
        subst c60
        replace H : (spec_Resume.j0 k t1599 false a0_0 l0_1 l0_2 a0_3 a0_4 a0_5 t1588 t1589 t1592 t1595 t1596 t1597) = some (r1, r2, r3, r4, r5, r6, r7) := by rw [if_neg (show ¬ (false = true) by decide)] at H; exact H
        have H' := am H
        clear H
        have hnb64 := NB1586_1587.out
        have hnc64 := NB1587_1586.out
        have hnb65 := NB1586_1598.out
        have hnc65 := NB1598_1586.out
        obtain ⟨hcz66_0, hcz66_1, hcz66_2, hcz66_3, hcz66_4, hcz66_5, hfz66_0, hfz66_1, hfz66_2, hfz66_3, hfz66_4, hfz66_5⟩ := bk6 BK1586.out
        have p1602 : 0 ≤ (t1599 : Int) := ofd
        have q1602 : t1599 < (l0_2.length : Int) := ofd
        obtain ⟨ad1602, e1602, hx1602_0, hx1602_1⟩ := at_T67 HR0_2.out t1599 p1602 q1602
        (try rw [← Nbq59.out] at hx1602_1)
        cases e1602
        replace hx1602_0 := (HB.out.cell (World.block_lt_of_cell? w _ hx1602_0)).trans hx1602_0
        replace hx1602_1 := (HB.out.cell (World.block_lt_of_cell? w _ hx1602_1)).trans hx1602_1
        replace p1602 := eq_true p1602
        replace q1602 := eq_true q1602
        go_wp2
        go_meet
        case rel => exact ⟨_, (false), rfx, H', ⟨by first | omega | exact Nat.le_refl _⟩, ⟨pkR HO1591.out⟩, ⟨pkR HO1594.out⟩, ⟨pkK BK1586.out⟩, ⟨pkK BK1587.out⟩, ⟨pkK BK1598.out⟩, ⟨pkW HB.out⟩⟩
      ·rw [if_neg c58] at H
       exact absurd H (by simp)
     ·rw [if_neg c57] at H
      exact absurd H (by simp)
    case rest =>
     clear HC42
     try clear c1
     try clear p1
     try clear q1
     try clear hx1
     try clear c2
     try clear p2
     try clear c3
     try clear c4
     try clear c5
     try clear q5
     try clear c6
     try clear c8
     try clear c11
     try clear c15
     try clear c16
     try clear p16
     try clear q16
     try clear hx16
     try clear c20
     try clear c25
     try clear c25b0
     try clear c28
     try clear c32
     try clear c33
     try clear c45
     try clear c48
     try clear c49
     try clear c50
     try clear c57
     try clear c57b0
     try clear c58
     try clear c58b0
     try clear c59
     try clear q59
     try clear c60
     try clear c61
     try clear c62
     try clear c64
     try clear c65
     try clear hcz12_0
     try clear hcz12_1
     try clear hcz12_2
     try clear hcz12_3
     try clear hcz12_4
     try clear hcz12_5
     try clear hcz17_0
     try clear hcz17_1
     try clear hcz17_2
     try clear hcz17_3
     try clear hcz17_4
     try clear hcz17_5
     try clear hcz20_0
     try clear hcz20_1
     try clear hcz20_2
     try clear hcz20_3
     try clear hcz20_4
     try clear hcz20_5
     try clear hcz22_0
     try clear hcz22_1
     try clear hcz22_2
     try clear hcz22_3
     try clear hcz22_4
     try clear hcz22_5
     try clear hcz23_0
     try clear hcz23_1
     try clear hcz23_2
     try clear hcz23_3
     try clear hcz23_4
     try clear hcz23_5
     try clear hcz24_0
     try clear hcz24_1
     try clear hcz24_2
     try clear hcz24_3
     try clear hcz24_4
     try clear hcz24_5
     try clear hcz29_0
     try clear hcz29_1
     try clear hcz29_2
     try clear hcz29_3
     try clear hcz29_4
     try clear hcz29_5
     try clear hcz34_0
     try clear hcz34_1
     try clear hcz34_2
     try clear hcz34_3
     try clear hcz34_4
     try clear hcz34_5
     try clear hcz37_0
     try clear hcz37_1
     try clear hcz37_2
     try clear hcz37_3
     try clear hcz37_4
     try clear hcz37_5
     try clear hcz39_0
     try clear hcz39_1
     try clear hcz39_2
     try clear hcz39_3
     try clear hcz39_4
     try clear hcz39_5
     try clear hcz40_0
     try clear hcz40_1
     try clear hcz40_2
     try clear hcz40_3
     try clear hcz40_4
     try clear hcz40_5
     try clear hcz41_0
     try clear hcz41_1
     try clear hcz41_2
     try clear hcz41_3
     try clear hcz41_4
     try clear hcz41_5
     try clear hcz46_0
     try clear hcz46_1
     try clear hcz46_2
     try clear hcz46_3
     try clear hcz46_4
     try clear hcz46_5
     try clear hcz51_0
     try clear hcz51_1
     try clear hcz51_2
     try clear hcz51_3
     try clear hcz51_4
     try clear hcz51_5
     try clear hcz54_0
     try clear hcz54_1
     try clear hcz54_2
     try clear hcz54_3
     try clear hcz54_4
     try clear hcz54_5
     try clear hcz56_0
     try clear hcz56_1
     try clear hcz56_2
     try clear hcz56_3
     try clear hcz56_4
     try clear hcz56_5
     try clear hcz63_0
     try clear hcz63_1
     try clear hcz63_2
     try clear hcz63_3
     try clear hcz63_4
     try clear hcz63_5
     try clear hcz66_0
     try clear hcz66_1
     try clear hcz66_2
     try clear hcz66_3
     try clear hcz66_4
     try clear hcz66_5
     try clear hfz12_0
     try clear hfz12_1
     try clear hfz12_2
     try clear hfz12_3
     try clear hfz12_4
     try clear hfz12_5
     try clear hfz17_0
     try clear hfz17_1
     try clear hfz17_2
     try clear hfz17_3
     try clear hfz17_4
     try clear hfz17_5
     try clear hfz20_0
     try clear hfz20_1
     try clear hfz20_2
     try clear hfz20_3
     try clear hfz20_4
     try clear hfz20_5
     try clear hfz22_0
     try clear hfz22_1
     try clear hfz22_2
     try clear hfz22_3
     try clear hfz22_4
     try clear hfz22_5
     try clear hfz23_0
     try clear hfz23_1
     try clear hfz23_2
     try clear hfz23_3
     try clear hfz23_4
     try clear hfz23_5
     try clear hfz24_0
     try clear hfz24_1
     try clear hfz24_2
     try clear hfz24_3
     try clear hfz24_4
     try clear hfz24_5
     try clear hfz29_0
     try clear hfz29_1
     try clear hfz29_2
     try clear hfz29_3
     try clear hfz29_4
     try clear hfz29_5
     try clear hfz34_0
     try clear hfz34_1
     try clear hfz34_2
     try clear hfz34_3
     try clear hfz34_4
     try clear hfz34_5
     try clear hfz37_0
     try clear hfz37_1
     try clear hfz37_2
     try clear hfz37_3
     try clear hfz37_4
     try clear hfz37_5
     try clear hfz39_0
     try clear hfz39_1
     try clear hfz39_2
     try clear hfz39_3
     try clear hfz39_4
     try clear hfz39_5
     try clear hfz40_0
     try clear hfz40_1
     try clear hfz40_2
     try clear hfz40_3
     try clear hfz40_4
     try clear hfz40_5
     try clear hfz41_0
     try clear hfz41_1
     try clear hfz41_2
     try clear hfz41_3
     try clear hfz41_4
     try clear hfz41_5
     try clear hfz46_0
     try clear hfz46_1
     try clear hfz46_2
     try clear hfz46_3
     try clear hfz46_4
     try clear hfz46_5
     try clear hfz51_0
     try clear hfz51_1
     try clear hfz51_2
     try clear hfz51_3
     try clear hfz51_4
     try clear hfz51_5
     try clear hfz54_0
     try clear hfz54_1
     try clear hfz54_2
     try clear hfz54_3
     try clear hfz54_4
     try clear hfz54_5
     try clear hfz56_0
     try clear hfz56_1
     try clear hfz56_2
     try clear hfz56_3
     try clear hfz56_4
     try clear hfz56_5
     try clear hfz63_0
     try clear hfz63_1
     try clear hfz63_2
     try clear hfz63_3
     try clear hfz63_4
     try clear hfz63_5
     try clear hfz66_0
     try clear hfz66_1
     try clear hfz66_2
     try clear hfz66_3
     try clear hfz66_4
     try clear hfz66_5
     try clear hx1602_0
     try clear hx1602_1
     try clear p1602
     try clear q1602
     obtain ⟨kq, x29_41, rfl, HA, HJ41, HO_1599001, HO_1599002, BK1586, BK1587, BK1598, HB⟩ := hcut
     cases kq with
     | zero => exact absurd HA.out (by simp [spec_Resume.j0])
     | succ kj41 =>
      have H := HA.out
      clear HA
      simp only [spec_Resume.j0] at H
      by_cases c67 : x29_41 = true
      ·subst c67
       replace H : (some (t1588, t1589, t1592, t1595, t1596, t1597, 2)) = some (r1, r2, r3, r4, r5, r6, r7) := by rw [if_pos rfl] at H; exact H
       simp only [Option.some.injEq, Prod.mk.injEq] at H
       obtain ⟨rfl, rfl, rfl, rfl, rfl, rfl, rfl⟩ := H
       have hnb68 := NB1598_1586.out
       have hnc68 := NB1586_1598.out
       have hnb69 := NB1598_1587.out
       have hnc69 := NB1587_1598.out
       obtain ⟨hcz70_0, hcz70_1, hcz70_2, hcz70_3, hcz70_4, hcz70_5, hfz70_0, hfz70_1, hfz70_2, hfz70_3, hfz70_4, hfz70_5⟩ := bk6 BK1598.out
       have hnb71 := NB1587_1586.out
       have hnc71 := NB1586_1587.out
       obtain ⟨hcz72_0, hcz72_1, hcz72_2, hcz72_3, hcz72_4, hcz72_5, hfz72_0, hfz72_1, hfz72_2, hfz72_3, hfz72_4, hfz72_5⟩ := bk6 BK1587.out
       go_wp2
       refine bodyPost_ret (results_ct rfl _ _ gb1587 38 #[.bool t1588, .slice Ao52 t1589.length co52, .slice Ao53 t1592.length co53, .int .i64 t1595, .int .i64 t1596, .int .i64 t1597] (0, 0) _ rfl (by (with_reducible repeat (first | refine blk_drewN ?_ _ | refine blk_drew ?_ | refine blk_alloc ?_ _)); refine blk_put (cs := #[.bool t1588, .slice Ao52 t1589.length co52, .slice Ao53 t1592.length co53, .int .i64 t1595, .int .i64 t1596, .int .i64 0]) ?_ 5 _ rfl; (with_reducible repeat (first | refine blk_drewN ?_ _ | refine blk_drew ?_ | refine blk_alloc ?_ _)); refine blk_put (cs := #[.bool t1588, .slice Ao52 t1589.length co52, .slice Ao53 t1592.length co53, .int .i64 t1595, .int .i64 0, .int .i64 0]) ?_ 4 _ rfl; (with_reducible repeat (first | refine blk_drewN ?_ _ | refine blk_drew ?_ | refine blk_alloc ?_ _)); refine blk_put (cs := #[.bool t1588, .slice Ao52 t1589.length co52, .slice Ao53 t1592.length co53, .int .i64 0, .int .i64 0, .int .i64 0]) ?_ 3 _ rfl; (with_reducible repeat (first | refine blk_drewN ?_ _ | refine blk_drew ?_ | refine blk_alloc ?_ _)); refine blk_put (cs := #[.bool t1588, .slice Ao52 t1589.length co52, .slice none 0 0, .int .i64 0, .int .i64 0, .int .i64 0]) ?_ 2 _ rfl; (with_reducible repeat (first | refine blk_drewN ?_ _ | refine blk_drew ?_ | refine blk_alloc ?_ _)); refine blk_put (cs := #[.bool t1588, .slice none 0 0, .slice none 0 0, .int .i64 0, .int .i64 0, .int .i64 0]) ?_ 1 _ rfl; (with_reducible repeat (first | refine blk_drewN ?_ _ | refine blk_drew ?_ | refine blk_alloc ?_ _)); refine blk_put (cs := #[.bool false, .slice none 0 0, .slice none 0 0, .int .i64 0, .int .i64 0, .int .i64 0]) ?_ 0 _ rfl; exact pkK BK1587.out) Try.underlying38 rfl (by kernel_rfl)) rfl ?_
       exact ⟨_, _, rfe, by (with_reducible repeat (first | apply Kd.R_alloc | apply Kd.R_drewN | apply Kd.R_drew)); exact Kd.R_mono (Kd.R_far (p := ⟨gb1587, 5, none⟩) (Kd.R_far (p := ⟨gb1587, 4, none⟩) (Kd.R_far (p := ⟨gb1587, 3, none⟩) (Kd.R_far (p := ⟨gb1587, 2, none⟩) (Kd.R_far (p := ⟨gb1587, 1, none⟩) (Kd.R_far (p := ⟨gb1587, 0, none⟩) (Kd.R_types HO_1599001.out BK1587.out (by decide)) (fun _ hk => hk.2) (.bool t1588)) (fun _ hk => hk.2) (.slice Ao52 t1589.length co52)) (fun _ hk => hk.2) (.slice Ao53 t1592.length co53)) (fun _ hk => hk.2) (.int .i64 t1595)) (fun _ hk => hk.2) (.int .i64 t1596)) (fun _ hk => hk.2) (.int .i64 t1597)) (fun _ hk => trivial), by (with_reducible repeat (first | apply Kd.R_alloc | apply Kd.R_drewN | apply Kd.R_drew)); exact Kd.R_mono (Kd.R_far (p := ⟨gb1587, 5, none⟩) (Kd.R_far (p := ⟨gb1587, 4, none⟩) (Kd.R_far (p := ⟨gb1587, 3, none⟩) (Kd.R_far (p := ⟨gb1587, 2, none⟩) (Kd.R_far (p := ⟨gb1587, 1, none⟩) (Kd.R_far (p := ⟨gb1587, 0, none⟩) (Kd.R_types HO_1599002.out BK1587.out (by decide)) (fun _ hk => hk.2) (.bool t1588)) (fun _ hk => hk.2) (.slice Ao52 t1589.length co52)) (fun _ hk => hk.2) (.slice Ao53 t1592.length co53)) (fun _ hk => hk.2) (.int .i64 t1595)) (fun _ hk => hk.2) (.int .i64 t1596)) (fun _ hk => hk.2) (.int .i64 t1597)) (fun _ hk => trivial), pkW HB.out⟩
      ·replace c67 := Bool.eq_false_iff.mpr c67
       subst c67
       replace H : (if 0 ≤ t1599 then (if t1599 < (l0_2.length : Int) then (if (rd_T67 l0_2 t1599).f1 = true then ((spec_l5Drop.f kj41 t1588 t1589 t1592 t1595 t1596 (wrap64 (t1597 + 1)) t1599).bind fun bt1604 => (some (bt1604.1, bt1604.2.1, bt1604.2.2.1, bt1604.2.2.2.1, bt1604.2.2.2.2.1, bt1604.2.2.2.2.2, 0))) else ((spec_l5Drop.f kj41 t1588 t1589 t1592 t1595 t1596 t1597 t1599).bind fun bt1614 => (some (bt1614.1, bt1614.2.1, bt1614.2.2.1, bt1614.2.2.2.1, bt1614.2.2.2.2.1, bt1614.2.2.2.2.2, 0)))) else (none)) else (none)) = some (r1, r2, r3, r4, r5, r6, r7) := by rw [if_neg (show ¬ (false = true) by decide)] at H; exact H
       by_cases c73 : 0 ≤ t1599
       ·rw [if_pos c73] at H
        have c73b0 : decide (0 ≤ t1599) = true := decide_eq_true c73
        clear c73
        by_cases c74 : t1599 < (l0_2.length : Int)
        ·rw [if_pos c74] at H
         have c74b0 : decide (t1599 < (l0_2.length : Int)) = true := decide_eq_true c74
         clear c74
         obtain ⟨bq75, hbq75⟩ : ∃ b_ : Bool, b_ = ((rd_T67 l0_2 t1599).f1) := ⟨_, rfl⟩
         replace H : (if bq75 = true then ((spec_l5Drop.f kj41 t1588 t1589 t1592 t1595 t1596 (wrap64 (t1597 + 1)) t1599).bind fun bt1604 => (some (bt1604.1, bt1604.2.1, bt1604.2.2.1, bt1604.2.2.2.1, bt1604.2.2.2.2.1, bt1604.2.2.2.2.2, 0))) else ((spec_l5Drop.f kj41 t1588 t1589 t1592 t1595 t1596 t1597 t1599).bind fun bt1614 => (some (bt1614.1, bt1614.2.1, bt1614.2.2.1, bt1614.2.2.2.1, bt1614.2.2.2.2.1, bt1614.2.2.2.2.2, 0)))) = some (r1, r2, r3, r4, r5, r6, r7) := by rw [← hbq75] at H; exact H
         have Nbq75 := am hbq75
         clear hbq75
         by_cases c76 : bq75 = true
         ·subst c76
          replace H : ((spec_l5Drop.f kj41 t1588 t1589 t1592 t1595 t1596 (wrap64 (t1597 + 1)) t1599).bind fun bt1604 => (some (bt1604.1, bt1604.2.1, bt1604.2.2.1, bt1604.2.2.2.1, bt1604.2.2.2.2.1, bt1604.2.2.2.2.2, 0))) = some (r1, r2, r3, r4, r5, r6, r7) := by rw [if_pos rfl] at H; exact H
          replace H := Option.bind_eq_some_iff.mp H
          obtain ⟨⟨t1604, t1605, t1608, t1611, t1612, t1613⟩, A770, H⟩ := H
          replace H : (some (t1604, t1605, t1608, t1611, t1612, t1613, 0)) = some (r1, r2, r3, r4, r5, r6, r7) := H
          have A77 := am A770
          clear A770
          simp only [Option.some.injEq, Prod.mk.injEq] at H
          obtain ⟨rfl, rfl, rfl, rfl, rfl, rfl, rfl⟩ := H
          have hnb78 := NB1586_1587.out
          have hnc78 := NB1587_1586.out
          have hnb79 := NB1586_1598.out
          have hnc79 := NB1598_1586.out
          obtain ⟨hcz80_0, hcz80_1, hcz80_2, hcz80_3, hcz80_4, hcz80_5, hfz80_0, hfz80_1, hfz80_2, hfz80_3, hfz80_4, hfz80_5⟩ := bk6 BK1586.out
          have p1603 : 0 ≤ (t1599 : Int) := ofd
          have q1603 : t1599 < (l0_2.length : Int) := ofd
          obtain ⟨ad1603, e1603, hx1603_0, hx1603_1⟩ := at_T67 HR0_2.out t1599 p1603 q1603
          (try rw [← Nbq75.out] at hx1603_1)
          cases e1603
          replace hx1603_0 := (HB.out.cell (World.block_lt_of_cell? w _ hx1603_0)).trans hx1603_0
          replace hx1603_1 := (HB.out.cell (World.block_lt_of_cell? w _ hx1603_1)).trans hx1603_1
          replace p1603 := eq_true p1603
          replace q1603 := eq_true q1603
          have hnb81 := NB1598_1587.out
          have hnc81 := NB1587_1598.out
          obtain ⟨hcz82_0, hcz82_1, hcz82_2, hcz82_3, hcz82_4, hcz82_5, hfz82_0, hfz82_1, hfz82_2, hfz82_3, hfz82_4, hfz82_5⟩ := bk6 BK1598.out
          go_wp2_with (first | ((with_reducible refine gate_store (t := 3) (p := 51) rfl ?_); refine store_event (t := 3) (p := 51) (v := ?vo_w83) (w1 := (wc.setCell ⟨gb1598, 5, none⟩ (.int .i64 (wrap64 (t1597 + 1))))) ?hg ?ho ?hn ?hr ?_; (case ho => rfl); (case hg => rfl); (case hn => rfl); (case hr => first | (go_simp; done) | (go_simp; rfl)); intro w83 hw; replace HO_1599001 : Aside0 (Kd.R (Kd.int .i64) 3 w83 w.heap.size (fun _ => True) (.slice Ao52 t1589.length co52) t1589) := ⟨(by rw [hw]; exact (by (with_reducible repeat (first | apply Kd.R_alloc | apply Kd.R_drewN | apply Kd.R_drew)); exact Kd.R_mono (Kd.R_far (p := ⟨gb1598, 5, none⟩) (Kd.R_types HO_1599001.out BK1598.out (by decide)) (fun _ hk => hk.2) (.int .i64 (wrap64 (t1597 + 1)))) (fun _ hk => trivial)))⟩; replace HO_1599002 : Aside0 (Kd.R k67 67 w83 w.heap.size (fun _ => True) (.slice Ao53 t1592.length co53) t1592) := ⟨(by rw [hw]; exact (by (with_reducible repeat (first | apply Kd.R_alloc | apply Kd.R_drewN | apply Kd.R_drew)); exact Kd.R_mono (Kd.R_far (p := ⟨gb1598, 5, none⟩) (Kd.R_types HO_1599002.out BK1598.out (by decide)) (fun _ hk => hk.2) (.int .i64 (wrap64 (t1597 + 1)))) (fun _ hk => trivial)))⟩; replace BK1586 : Aside0 (w83.heap[gb1586]? = some (.cells #[.bool a0_0, .slice A0_1 l0_1.length c0_1, .slice (some ad1603) l0_2.length c0_2, .int .i64 a0_3, .int .i64 a0_4, .int .i64 a0_5] 38 (0, 0))) := ⟨(by rw [hw]; exact (by (with_reducible repeat (first | refine blk_drewN ?_ _ | refine blk_drew ?_ | refine blk_alloc ?_ _)); refine blk_far ?_ NB1586_1598.out _; exact pkK BK1586.out))⟩; replace BK1587 : Aside0 (w83.heap[gb1587]? = some (.cells #[.bool false, .slice none 0 0, .slice none 0 0, .int .i64 0, .int .i64 0, .int .i64 0] 38 (0, 0))) := ⟨(by rw [hw]; exact (by (with_reducible repeat (first | refine blk_drewN ?_ _ | refine blk_drew ?_ | refine blk_alloc ?_ _)); refine blk_far ?_ NB1587_1598.out _; exact pkK BK1587.out))⟩; replace BK1598 : Aside0 (w83.heap[gb1598]? = some (.cells #[.bool t1588, .slice Ao52 t1589.length co52, .slice Ao53 t1592.length co53, .int .i64 t1595, .int .i64 t1596, .int .i64 (wrap64 (t1597 + 1))] 38 (0, 0))) := ⟨(by rw [hw]; exact (by (with_reducible repeat (first | refine blk_drewN ?_ _ | refine blk_drew ?_ | refine blk_alloc ?_ _)); refine blk_put (cs := #[.bool t1588, .slice Ao52 t1589.length co52, .slice Ao53 t1592.length co53, .int .i64 t1595, .int .i64 t1596, .int .i64 t1597]) ?_ 5 _ rfl; exact pkK BK1598.out))⟩; replace HB : Aside0 (Below w.heap.size w w83) := ⟨(by rw [hw]; exact (pkW HB.out))⟩; clear hw; obtain ⟨hcz84_0, hcz84_1, hcz84_2, hcz84_3, hcz84_4, hcz84_5, hfz84_0, hfz84_1, hfz84_2, hfz84_3, hfz84_4, hfz84_5⟩ := bk6 BK1598.out) | ((with_reducible refine gate_callee (f := 79) rfl ?_); refine goesL_ (some 54) rfl rfl Try.func79 (by kernel_rfl) rfl #[.agg #[.bool t1588, .slice Ao52 t1589.length co52, .slice Ao53 t1592.length co53, .int .i64 t1595, .int .i64 t1596, .int .i64 (wrap64 (t1597 + 1))], .int .i64 t1599] rfl mpx ?_; (with_reducible refine (spec_l5Drop.calls kj41 t1588 (fun k_ => some k_ = (.slice Ao52 t1589.length co52 : Value).ownBlock) (.slice Ao52 t1589.length co52) t1589 _ _ t1592 t1595 t1596 (wrap64 (t1597 + 1)) t1599 t1604 t1605 t1608 t1611 t1612 t1613 w _ ?side1 ?side2 ?side3 ?side4 A77.out).mono ?_); (case side1 => repeat (first | (with_reducible first | exact HB.out | apply below_alloc | apply pw_below_drewN | apply below_drew1 | refine below_set ?_ GE1586.out | refine below_set ?_ GE1587.out | refine below_set ?_ GE1598.out) | exact HB.out)); (case side2 => exact Kd.R_tight rfl HO_1599001.out); (case side3 => exact Kd.C_kept_own ((Kd.R_apart' HO_1599002.out (Kd.R_typed HO_1599001.out) (by decide))) (fun k_ hk_ hs_ => (hk_.2) hs_)); (case side4 => exact (Kd.R_reads' HO_1599002.out).2.1); rintro e w85 ⟨v1606, v1609, rfl, ho0, ho1, hb, hkp⟩; refine ⟨_, rfl, ?_⟩; replace BK1586 := am (blk_kept (pkK BK1586.out) hkp (fun hs_ => (fun e_ => (Kd.R_ne HO_1599001.out BK1586.out (by decide)) e_) hs_)); replace BK1587 := am (blk_kept (pkK BK1587.out) hkp (fun hs_ => (fun e_ => (Kd.R_ne HO_1599001.out BK1587.out (by decide)) e_) hs_)); replace BK1598 := am (blk_kept (pkK BK1598.out) hkp (fun hs_ => (fun e_ => (Kd.R_ne HO_1599001.out BK1598.out (by decide)) e_) hs_)); have HO1607 := am (Kd.R_mono (ok' := fun k_ => True) ho0 (fun k_ hk_ => trivial)); have HO1610 := am (Kd.R_mono (ok' := fun k_ => some k_ ≠ (.slice Ao53 t1592.length co53 : Value).ownBlock) ho1 (fun k_ hk_ => Or.elim hk_ (fun hs_ => fun e_ => ((((Kd.R_apart' HO_1599002.out (Kd.R_typed HO_1599001.out) (by decide))).1 k_ e_.symm).2) hs_) (fun hn_ => (Kd.fresh' (Kd.R_lt (pkR HO_1599002.out)) k_ hn_)))); replace HO_1599002 := am (Kd.R_mono (ok' := fun k_ => some k_ ≠ (v1609 : Value).ownBlock) (Kd.R_keptB ((Kd.R_apart' HO_1599002.out (Kd.R_typed HO_1599001.out) (by decide))) hkp (fun k_ hk_ hs_ => (hk_.2) hs_)) (fun k_ hk_ => fun e_ => Or.elim (ho1.1 k_ e_.symm) (fun hs_ => hk_.2.1 hs_) (fun hn_ => Nat.not_le.2 hk_.2.2 hn_))); replace HB := am (hb); clear HO_1599001; (try clear hb); (try clear hkp); (try clear ho0 ho1); obtain ⟨hcz86_0, hcz86_1, hcz86_2, hcz86_3, hcz86_4, hcz86_5, hfz86_0, hfz86_1, hfz86_2, hfz86_3, hfz86_4, hfz86_5⟩ := bk6 BK1587.out; obtain ⟨Ao87, co87, eo87⟩ := Kd.R_slice HO1607.out; subst eo87; obtain ⟨Ao88, co88, eo88⟩ := Kd.R_slice HO1610.out; subst eo88))
          refine bodyPost_ret (results_ct rfl _ _ gb1587 38 #[.bool t1604, .slice Ao87 t1605.length co87, .slice Ao88 t1608.length co88, .int .i64 t1611, .int .i64 t1612, .int .i64 t1613] (0, 0) _ rfl (by (with_reducible repeat (first | refine blk_drewN ?_ _ | refine blk_drew ?_ | refine blk_alloc ?_ _)); refine blk_put (cs := #[.bool t1604, .slice Ao87 t1605.length co87, .slice Ao88 t1608.length co88, .int .i64 t1611, .int .i64 t1612, .int .i64 0]) ?_ 5 _ rfl; (with_reducible repeat (first | refine blk_drewN ?_ _ | refine blk_drew ?_ | refine blk_alloc ?_ _)); refine blk_put (cs := #[.bool t1604, .slice Ao87 t1605.length co87, .slice Ao88 t1608.length co88, .int .i64 t1611, .int .i64 0, .int .i64 0]) ?_ 4 _ rfl; (with_reducible repeat (first | refine blk_drewN ?_ _ | refine blk_drew ?_ | refine blk_alloc ?_ _)); refine blk_put (cs := #[.bool t1604, .slice Ao87 t1605.length co87, .slice Ao88 t1608.length co88, .int .i64 0, .int .i64 0, .int .i64 0]) ?_ 3 _ rfl; (with_reducible repeat (first | refine blk_drewN ?_ _ | refine blk_drew ?_ | refine blk_alloc ?_ _)); refine blk_put (cs := #[.bool t1604, .slice Ao87 t1605.length co87, .slice none 0 0, .int .i64 0, .int .i64 0, .int .i64 0]) ?_ 2 _ rfl; (with_reducible repeat (first | refine blk_drewN ?_ _ | refine blk_drew ?_ | refine blk_alloc ?_ _)); refine blk_put (cs := #[.bool t1604, .slice none 0 0, .slice none 0 0, .int .i64 0, .int .i64 0, .int .i64 0]) ?_ 1 _ rfl; (with_reducible repeat (first | refine blk_drewN ?_ _ | refine blk_drew ?_ | refine blk_alloc ?_ _)); refine blk_put (cs := #[.bool false, .slice none 0 0, .slice none 0 0, .int .i64 0, .int .i64 0, .int .i64 0]) ?_ 0 _ rfl; exact pkK BK1587.out) Try.underlying38 rfl (by kernel_rfl)) rfl ?_
          exact ⟨_, _, rfe, by (with_reducible repeat (first | apply Kd.R_alloc | apply Kd.R_drewN | apply Kd.R_drew)); exact Kd.R_mono (Kd.R_far (p := ⟨gb1587, 5, none⟩) (Kd.R_far (p := ⟨gb1587, 4, none⟩) (Kd.R_far (p := ⟨gb1587, 3, none⟩) (Kd.R_far (p := ⟨gb1587, 2, none⟩) (Kd.R_far (p := ⟨gb1587, 1, none⟩) (Kd.R_far (p := ⟨gb1587, 0, none⟩) (Kd.R_types HO1607.out BK1587.out (by decide)) (fun _ hk => hk.2) (.bool t1604)) (fun _ hk => hk.2) (.slice Ao87 t1605.length co87)) (fun _ hk => hk.2) (.slice Ao88 t1608.length co88)) (fun _ hk => hk.2) (.int .i64 t1611)) (fun _ hk => hk.2) (.int .i64 t1612)) (fun _ hk => hk.2) (.int .i64 t1613)) (fun _ hk => trivial), by (with_reducible repeat (first | apply Kd.R_alloc | apply Kd.R_drewN | apply Kd.R_drew)); exact Kd.R_mono (Kd.R_far (p := ⟨gb1587, 5, none⟩) (Kd.R_far (p := ⟨gb1587, 4, none⟩) (Kd.R_far (p := ⟨gb1587, 3, none⟩) (Kd.R_far (p := ⟨gb1587, 2, none⟩) (Kd.R_far (p := ⟨gb1587, 1, none⟩) (Kd.R_far (p := ⟨gb1587, 0, none⟩) (Kd.R_types HO1610.out BK1587.out (by decide)) (fun _ hk => hk.2) (.bool t1604)) (fun _ hk => hk.2) (.slice Ao87 t1605.length co87)) (fun _ hk => hk.2) (.slice Ao88 t1608.length co88)) (fun _ hk => hk.2) (.int .i64 t1611)) (fun _ hk => hk.2) (.int .i64 t1612)) (fun _ hk => hk.2) (.int .i64 t1613)) (fun _ hk => trivial), pkW HB.out⟩
         ·replace c76 := Bool.eq_false_iff.mpr c76
          subst c76
          replace H : ((spec_l5Drop.f kj41 t1588 t1589 t1592 t1595 t1596 t1597 t1599).bind fun bt1614 => (some (bt1614.1, bt1614.2.1, bt1614.2.2.1, bt1614.2.2.2.1, bt1614.2.2.2.2.1, bt1614.2.2.2.2.2, 0))) = some (r1, r2, r3, r4, r5, r6, r7) := by rw [if_neg (show ¬ (false = true) by decide)] at H; exact H
          replace H := Option.bind_eq_some_iff.mp H
          obtain ⟨⟨t1614, t1615, t1618, t1621, t1622, t1623⟩, A890, H⟩ := H
          replace H : (some (t1614, t1615, t1618, t1621, t1622, t1623, 0)) = some (r1, r2, r3, r4, r5, r6, r7) := H
          have A89 := am A890
          clear A890
          simp only [Option.some.injEq, Prod.mk.injEq] at H
          obtain ⟨rfl, rfl, rfl, rfl, rfl, rfl, rfl⟩ := H
          have hnb90 := NB1586_1587.out
          have hnc90 := NB1587_1586.out
          have hnb91 := NB1586_1598.out
          have hnc91 := NB1598_1586.out
          obtain ⟨hcz92_0, hcz92_1, hcz92_2, hcz92_3, hcz92_4, hcz92_5, hfz92_0, hfz92_1, hfz92_2, hfz92_3, hfz92_4, hfz92_5⟩ := bk6 BK1586.out
          have p1603 : 0 ≤ (t1599 : Int) := ofd
          have q1603 : t1599 < (l0_2.length : Int) := ofd
          obtain ⟨ad1603, e1603, hx1603_0, hx1603_1⟩ := at_T67 HR0_2.out t1599 p1603 q1603
          (try rw [← Nbq75.out] at hx1603_1)
          cases e1603
          replace hx1603_0 := (HB.out.cell (World.block_lt_of_cell? w _ hx1603_0)).trans hx1603_0
          replace hx1603_1 := (HB.out.cell (World.block_lt_of_cell? w _ hx1603_1)).trans hx1603_1
          replace p1603 := eq_true p1603
          replace q1603 := eq_true q1603
          have hnb93 := NB1598_1587.out
          have hnc93 := NB1587_1598.out
          obtain ⟨hcz94_0, hcz94_1, hcz94_2, hcz94_3, hcz94_4, hcz94_5, hfz94_0, hfz94_1, hfz94_2, hfz94_3, hfz94_4, hfz94_5⟩ := bk6 BK1598.out
          go_wp2_with (first | ((with_reducible refine gate_callee (f := 79) rfl ?_); refine goesL_ (some 54) rfl rfl Try.func79 (by kernel_rfl) rfl #[.agg #[.bool t1588, .slice Ao52 t1589.length co52, .slice Ao53 t1592.length co53, .int .i64 t1595, .int .i64 t1596, .int .i64 t1597], .int .i64 t1599] rfl mpx ?_; (with_reducible refine (spec_l5Drop.calls kj41 t1588 (fun k_ => some k_ = (.slice Ao52 t1589.length co52 : Value).ownBlock) (.slice Ao52 t1589.length co52) t1589 _ _ t1592 t1595 t1596 t1597 t1599 t1614 t1615 t1618 t1621 t1622 t1623 w _ ?side1 ?side2 ?side3 ?side4 A89.out).mono ?_); (case side1 => repeat (first | (with_reducible first | exact HB.out | apply below_alloc | apply pw_below_drewN | apply below_drew1 | refine below_set ?_ GE1586.out | refine below_set ?_ GE1587.out | refine below_set ?_ GE1598.out) | exact HB.out)); (case side2 => exact Kd.R_tight rfl HO_1599001.out); (case side3 => exact Kd.C_kept_own ((Kd.R_apart' HO_1599002.out (Kd.R_typed HO_1599001.out) (by decide))) (fun k_ hk_ hs_ => (hk_.2) hs_)); (case side4 => exact (Kd.R_reads' HO_1599002.out).2.1); rintro e w95 ⟨v1616, v1619, rfl, ho0, ho1, hb, hkp⟩; refine ⟨_, rfl, ?_⟩; replace BK1586 := am (blk_kept (pkK BK1586.out) hkp (fun hs_ => (fun e_ => (Kd.R_ne HO_1599001.out BK1586.out (by decide)) e_) hs_)); replace BK1587 := am (blk_kept (pkK BK1587.out) hkp (fun hs_ => (fun e_ => (Kd.R_ne HO_1599001.out BK1587.out (by decide)) e_) hs_)); replace BK1598 := am (blk_kept (pkK BK1598.out) hkp (fun hs_ => (fun e_ => (Kd.R_ne HO_1599001.out BK1598.out (by decide)) e_) hs_)); have HO1617 := am (Kd.R_mono (ok' := fun k_ => True) ho0 (fun k_ hk_ => trivial)); have HO1620 := am (Kd.R_mono (ok' := fun k_ => some k_ ≠ (.slice Ao53 t1592.length co53 : Value).ownBlock) ho1 (fun k_ hk_ => Or.elim hk_ (fun hs_ => fun e_ => ((((Kd.R_apart' HO_1599002.out (Kd.R_typed HO_1599001.out) (by decide))).1 k_ e_.symm).2) hs_) (fun hn_ => (Kd.fresh' (Kd.R_lt (pkR HO_1599002.out)) k_ hn_)))); replace HO_1599002 := am (Kd.R_mono (ok' := fun k_ => some k_ ≠ (v1619 : Value).ownBlock) (Kd.R_keptB ((Kd.R_apart' HO_1599002.out (Kd.R_typed HO_1599001.out) (by decide))) hkp (fun k_ hk_ hs_ => (hk_.2) hs_)) (fun k_ hk_ => fun e_ => Or.elim (ho1.1 k_ e_.symm) (fun hs_ => hk_.2.1 hs_) (fun hn_ => Nat.not_le.2 hk_.2.2 hn_))); replace HB := am (hb); clear HO_1599001; (try clear hb); (try clear hkp); (try clear ho0 ho1); obtain ⟨hcz96_0, hcz96_1, hcz96_2, hcz96_3, hcz96_4, hcz96_5, hfz96_0, hfz96_1, hfz96_2, hfz96_3, hfz96_4, hfz96_5⟩ := bk6 BK1587.out; obtain ⟨Ao97, co97, eo97⟩ := Kd.R_slice HO1617.out; subst eo97; obtain ⟨Ao98, co98, eo98⟩ := Kd.R_slice HO1620.out; subst eo98))
          refine bodyPost_ret (results_ct rfl _ _ gb1587 38 #[.bool t1614, .slice Ao97 t1615.length co97, .slice Ao98 t1618.length co98, .int .i64 t1621, .int .i64 t1622, .int .i64 t1623] (0, 0) _ rfl (by (with_reducible repeat (first | refine blk_drewN ?_ _ | refine blk_drew ?_ | refine blk_alloc ?_ _)); refine blk_put (cs := #[.bool t1614, .slice Ao97 t1615.length co97, .slice Ao98 t1618.length co98, .int .i64 t1621, .int .i64 t1622, .int .i64 0]) ?_ 5 _ rfl; (with_reducible repeat (first | refine blk_drewN ?_ _ | refine blk_drew ?_ | refine blk_alloc ?_ _)); refine blk_put (cs := #[.bool t1614, .slice Ao97 t1615.length co97, .slice Ao98 t1618.length co98, .int .i64 t1621, .int .i64 0, .int .i64 0]) ?_ 4 _ rfl; (with_reducible repeat (first | refine blk_drewN ?_ _ | refine blk_drew ?_ | refine blk_alloc ?_ _)); refine blk_put (cs := #[.bool t1614, .slice Ao97 t1615.length co97, .slice Ao98 t1618.length co98, .int .i64 0, .int .i64 0, .int .i64 0]) ?_ 3 _ rfl; (with_reducible repeat (first | refine blk_drewN ?_ _ | refine blk_drew ?_ | refine blk_alloc ?_ _)); refine blk_put (cs := #[.bool t1614, .slice Ao97 t1615.length co97, .slice none 0 0, .int .i64 0, .int .i64 0, .int .i64 0]) ?_ 2 _ rfl; (with_reducible repeat (first | refine blk_drewN ?_ _ | refine blk_drew ?_ | refine blk_alloc ?_ _)); refine blk_put (cs := #[.bool t1614, .slice none 0 0, .slice none 0 0, .int .i64 0, .int .i64 0, .int .i64 0]) ?_ 1 _ rfl; (with_reducible repeat (first | refine blk_drewN ?_ _ | refine blk_drew ?_ | refine blk_alloc ?_ _)); refine blk_put (cs := #[.bool false, .slice none 0 0, .slice none 0 0, .int .i64 0, .int .i64 0, .int .i64 0]) ?_ 0 _ rfl; exact pkK BK1587.out) Try.underlying38 rfl (by kernel_rfl)) rfl ?_
          exact ⟨_, _, rfe, by (with_reducible repeat (first | apply Kd.R_alloc | apply Kd.R_drewN | apply Kd.R_drew)); exact Kd.R_mono (Kd.R_far (p := ⟨gb1587, 5, none⟩) (Kd.R_far (p := ⟨gb1587, 4, none⟩) (Kd.R_far (p := ⟨gb1587, 3, none⟩) (Kd.R_far (p := ⟨gb1587, 2, none⟩) (Kd.R_far (p := ⟨gb1587, 1, none⟩) (Kd.R_far (p := ⟨gb1587, 0, none⟩) (Kd.R_types HO1617.out BK1587.out (by decide)) (fun _ hk => hk.2) (.bool t1614)) (fun _ hk => hk.2) (.slice Ao97 t1615.length co97)) (fun _ hk => hk.2) (.slice Ao98 t1618.length co98)) (fun _ hk => hk.2) (.int .i64 t1621)) (fun _ hk => hk.2) (.int .i64 t1622)) (fun _ hk => hk.2) (.int .i64 t1623)) (fun _ hk => trivial), by (with_reducible repeat (first | apply Kd.R_alloc | apply Kd.R_drewN | apply Kd.R_drew)); exact Kd.R_mono (Kd.R_far (p := ⟨gb1587, 5, none⟩) (Kd.R_far (p := ⟨gb1587, 4, none⟩) (Kd.R_far (p := ⟨gb1587, 3, none⟩) (Kd.R_far (p := ⟨gb1587, 2, none⟩) (Kd.R_far (p := ⟨gb1587, 1, none⟩) (Kd.R_far (p := ⟨gb1587, 0, none⟩) (Kd.R_types HO1620.out BK1587.out (by decide)) (fun _ hk => hk.2) (.bool t1614)) (fun _ hk => hk.2) (.slice Ao97 t1615.length co97)) (fun _ hk => hk.2) (.slice Ao98 t1618.length co98)) (fun _ hk => hk.2) (.int .i64 t1621)) (fun _ hk => hk.2) (.int .i64 t1622)) (fun _ hk => hk.2) (.int .i64 t1623)) (fun _ hk => trivial), pkW HB.out⟩
        ·rw [if_neg c74] at H
         exact absurd H (by simp)
       ·rw [if_neg c73] at H
        exact absurd H (by simp)
 ·replace c6 := Bool.eq_false_iff.mpr c6
  subst c6
  replace H : (some (t1588, t1589, t1592, t1595, t1596, t1597, 1)) = some (r1, r2, r3, r4, r5, r6, r7) := by rw [if_neg (show ¬ (false = true) by decide)] at H; exact H
  simp only [Option.some.injEq, Prod.mk.injEq] at H
  obtain ⟨rfl, rfl, rfl, rfl, rfl, rfl, rfl⟩ := H
  go_enter Try.func48, Try.ntmps48
  go_wp2_with (first | ((with_reducible refine gate_dst (N := 2) rfl ?_); refine box_event ?hg (N := 2) ?hd (cs := #[.bool a0_0, .slice A0_1 l0_1.length c0_1, .slice A0_2 l0_2.length c0_2, .int .i64 a0_3, .int .i64 a0_4, .int .i64 a0_5]) (t := 38) ?hr ?_; (case hd => rfl); (case hg => rfl); (case hr => first | (go_simp; done) | (go_simp; rfl)); intro gb1586 hg w99 hbox hb; have BK1586 := am (hbox); have GW1586 := am ((by rw [hg]; exact (below_size (pkB HB.out)) : w.heap.size ≤ gb1586)); have GE1586 := am ((by rw [hg]; exact (below_size (pkB HB.out)) : w.heap.size ≤ gb1586)); replace HB := am (below_step (pkB HB.out) hb); clear hb hbox hg) | ((with_reducible refine gate_dst (N := 4) rfl ?_); refine box_event ?hg (N := 4) ?hd (cs := #[.bool false, .slice none 0 0, .slice none 0 0, .int .i64 0, .int .i64 0, .int .i64 0]) (t := 38) ?hr ?_; (case hd => rfl); (case hg => rfl); (case hr => first | (go_simp; done) | (go_simp; rfl)); intro gb1587 hg w100 hbox hb; have BK1587 := am (hbox); have GW1587 := am ((by rw [hg]; exact (below_size (pkW HB.out)) : w.heap.size ≤ gb1587)); have GE1587 := am ((by rw [hg]; exact (below_size (pkW HB.out)) : w.heap.size ≤ gb1587)); replace HB := am (below_step (pkW HB.out) hb); have NB1586_1587 := am ((by rw [hg]; exact Nat.ne_of_lt (blk_lt (g := gb1586) (o := .cells #[.bool a0_0, .slice A0_1 l0_1.length c0_1, .slice A0_2 l0_2.length c0_2, .int .i64 a0_3, .int .i64 a0_4, .int .i64 a0_5] 38 (0, 0)) (pkK BK1586.out)) : gb1586 ≠ gb1587)); have NB1587_1586 := am ((by rw [hg]; exact Nat.ne_of_gt (blk_lt (g := gb1586) (o := .cells #[.bool a0_0, .slice A0_1 l0_1.length c0_1, .slice A0_2 l0_2.length c0_2, .int .i64 a0_3, .int .i64 a0_4, .int .i64 a0_5] 38 (0, 0)) (pkK BK1586.out)) : gb1587 ≠ gb1586)); replace BK1586 := am (blk_below (pkK BK1586.out) hb); clear hb hbox hg; have hnb101 := NB1586_1587.out; have hnc101 := NB1587_1586.out; obtain ⟨hcz102_0, hcz102_1, hcz102_2, hcz102_3, hcz102_4, hcz102_5, hfz102_0, hfz102_1, hfz102_2, hfz102_3, hfz102_4, hfz102_5⟩ := bk6 BK1586.out) | ((with_reducible refine gate_callee (f := 69) rfl ?_); refine goesL_ (some 9) rfl rfl Try.func69 (by kernel_rfl) rfl #[.agg #[.bool a0_0, .slice A0_1 l0_1.length c0_1, .slice A0_2 l0_2.length c0_2, .int .i64 a0_3, .int .i64 a0_4, .int .i64 a0_5]] rfl mpx ?_; (with_reducible refine (spec_l5Copy.calls a0_0 _ _ l0_1 _ _ l0_2 a0_3 a0_4 a0_5 t1588 t1589 t1592 t1595 t1596 t1597 _ ?side1 ?side2 ?side3 ?side4 A3.out).mono ?_); (case side1 => exact pkC (Kd.C_below HR0_1.out HB.out)); (case side2 => exact HC0_1.out); (case side3 => exact pkC (Kd.C_below HR0_2.out HB.out)); (case side4 => exact HC0_2.out); rintro e w103 ⟨v1590, v1593, rfl, ho0, ho1, hb⟩; refine ⟨_, rfl, ?_⟩; have HO1591 := am (Kd.R_lower ho0 (below_size (pkW HB.out))); have HO1594 := am (Kd.R_lower ho1 (below_size (pkW HB.out))); replace BK1586 := am (blk_below (pkK BK1586.out) hb); replace BK1587 := am (blk_below (pkK BK1587.out) hb); replace HB := am (below_step (pkW HB.out) hb); (try clear hb ho0 ho1)) | ((with_reducible refine gate_dst (N := 6) rfl ?_); refine box_event ?hg (N := 6) ?hd (cs := #[.bool false, .slice none 0 0, .slice none 0 0, .int .i64 0, .int .i64 0, .int .i64 0]) (t := 38) ?hr ?_; (case hd => rfl); (case hg => rfl); (case hr => first | (go_simp; done) | (go_simp; rfl)); intro gb1598 hg w104 hbox hb; replace HO1591 := am (Kd.R_below (pkR HO1591.out) hb); replace HO1594 := am (Kd.R_below (pkR HO1594.out) hb); have BK1598 := am (hbox); have GW1598 := am ((by rw [hg]; exact (below_size (pkW HB.out)) : w.heap.size ≤ gb1598)); have GE1598 := am ((by rw [hg]; exact (below_size (pkW HB.out)) : w.heap.size ≤ gb1598)); replace HB := am (below_step (pkW HB.out) hb); have NB1586_1598 := am ((by rw [hg]; exact Nat.ne_of_lt (blk_lt (g := gb1586) (o := .cells #[.bool a0_0, .slice A0_1 l0_1.length c0_1, .slice A0_2 l0_2.length c0_2, .int .i64 a0_3, .int .i64 a0_4, .int .i64 a0_5] 38 (0, 0)) (pkK BK1586.out)) : gb1586 ≠ gb1598)); have NB1598_1586 := am ((by rw [hg]; exact Nat.ne_of_gt (blk_lt (g := gb1586) (o := .cells #[.bool a0_0, .slice A0_1 l0_1.length c0_1, .slice A0_2 l0_2.length c0_2, .int .i64 a0_3, .int .i64 a0_4, .int .i64 a0_5] 38 (0, 0)) (pkK BK1586.out)) : gb1598 ≠ gb1586)); replace BK1586 := am (blk_below (pkK BK1586.out) hb); have NB1587_1598 := am ((by rw [hg]; exact Nat.ne_of_lt (blk_lt (g := gb1587) (o := .cells #[.bool false, .slice none 0 0, .slice none 0 0, .int .i64 0, .int .i64 0, .int .i64 0] 38 (0, 0)) (pkK BK1587.out)) : gb1587 ≠ gb1598)); have NB1598_1587 := am ((by rw [hg]; exact Nat.ne_of_gt (blk_lt (g := gb1587) (o := .cells #[.bool false, .slice none 0 0, .slice none 0 0, .int .i64 0, .int .i64 0, .int .i64 0] 38 (0, 0)) (pkK BK1587.out)) : gb1598 ≠ gb1587)); replace BK1587 := am (blk_below (pkK BK1587.out) hb); clear hb hbox hg; have hnb105 := NB1598_1586.out; have hnc105 := NB1586_1598.out; have hnb106 := NB1598_1587.out; have hnc106 := NB1587_1598.out; obtain ⟨hcz107_0, hcz107_1, hcz107_2, hcz107_3, hcz107_4, hcz107_5, hfz107_0, hfz107_1, hfz107_2, hfz107_3, hfz107_4, hfz107_5⟩ := bk6 BK1598.out; obtain ⟨Ao108, co108, eo108⟩ := Kd.R_slice HO1591.out; subst eo108; obtain ⟨Ao109, co109, eo109⟩ := Kd.R_slice HO1594.out; subst eo109; obtain ⟨hcz110_0, hcz110_1, hcz110_2, hcz110_3, hcz110_4, hcz110_5, hfz110_0, hfz110_1, hfz110_2, hfz110_3, hfz110_4, hfz110_5⟩ := bk6 BK1586.out) | ((with_reducible refine gate_callee (f := 59) rfl ?_); refine goesL_ (some 13) rfl rfl Try.func59 (by kernel_rfl) rfl #[.slice A0_2 l0_2.length c0_2, .int .i64 a1] rfl mpx ?_; (with_reducible refine (spec_l5At.calls k _ _ l0_2 a1 t1599 _ ?side1 ?side2 A4.out).mono ?_); (case side1 => exact Kd.C_below HR0_2.out (pkW HB.out)); (case side2 => exact HC0_2.out); rintro e w' ⟨rfl, ⟨nd, rfl⟩⟩; refine ⟨_, rfl, ?_⟩) | ((with_reducible refine gate_callee (f := 20) rfl ?_); refine goesL_ (some 16) rfl rfl Try.func20 (by kernel_rfl) rfl #[.agg #[.bool a0_0, .slice A0_1 l0_1.length c0_1, .slice A0_2 l0_2.length c0_2, .int .i64 a0_3, .int .i64 a0_4, .int .i64 a0_5]] rfl mpx ?_; (with_reducible refine (spec_NotifyOk.calls k a0_0 _ _ l0_1 _ _ l0_2 a0_3 a0_4 a0_5 false _ ?side1 ?side2 ?side3 ?side4 A5.out).mono ?_); (case side1 => exact Kd.C_below HR0_1.out (pkW HB.out)); (case side2 => exact HC0_1.out); (case side3 => exact Kd.C_below HR0_2.out (pkW HB.out)); (case side4 => exact HC0_2.out); rintro e w111 ⟨rfl, hb⟩; refine ⟨_, rfl, ?_⟩; replace HO1591 := am (Kd.R_below (by (with_reducible repeat (first | apply Kd.R_alloc | apply Kd.R_drewN | apply Kd.R_drew)); exact (Kd.R_mono (Kd.R_far (p := ⟨gb1598, 5, none⟩) (Kd.R_far (p := ⟨gb1598, 4, none⟩) (Kd.R_far (p := ⟨gb1598, 3, none⟩) (Kd.R_far (p := ⟨gb1598, 2, none⟩) (Kd.R_far (p := ⟨gb1598, 1, none⟩) (Kd.R_far (p := ⟨gb1598, 0, none⟩) (Kd.R_types HO1591.out BK1598.out (by decide)) (fun _ hk => hk.2) (.bool t1588)) (fun _ hk => hk.2) (.slice Ao108 t1589.length co108)) (fun _ hk => hk.2) (.slice Ao109 t1592.length co109)) (fun _ hk => hk.2) (.int .i64 t1595)) (fun _ hk => hk.2) (.int .i64 t1596)) (fun _ hk => hk.2) (.int .i64 t1597)) (fun _ h_ => h_.1))) hb); replace HO1594 := am (Kd.R_below (by (with_reducible repeat (first | apply Kd.R_alloc | apply Kd.R_drewN | apply Kd.R_drew)); exact (Kd.R_mono (Kd.R_far (p := ⟨gb1598, 5, none⟩) (Kd.R_far (p := ⟨gb1598, 4, none⟩) (Kd.R_far (p := ⟨gb1598, 3, none⟩) (Kd.R_far (p := ⟨gb1598, 2, none⟩) (Kd.R_far (p := ⟨gb1598, 1, none⟩) (Kd.R_far (p := ⟨gb1598, 0, none⟩) (Kd.R_types HO1594.out BK1598.out (by decide)) (fun _ hk => hk.2) (.bool t1588)) (fun _ hk => hk.2) (.slice Ao108 t1589.length co108)) (fun _ hk => hk.2) (.slice Ao109 t1592.length co109)) (fun _ hk => hk.2) (.int .i64 t1595)) (fun _ hk => hk.2) (.int .i64 t1596)) (fun _ hk => hk.2) (.int .i64 t1597)) (fun _ h_ => h_.1))) hb); replace BK1586 := am (blk_below (g := gb1586) (o := .cells #[.bool a0_0, .slice A0_1 l0_1.length c0_1, .slice A0_2 l0_2.length c0_2, .int .i64 a0_3, .int .i64 a0_4, .int .i64 a0_5] 38 (0, 0)) (by (with_reducible repeat (first | refine blk_drewN ?_ _ | refine blk_drew ?_ | refine blk_alloc ?_ _)); refine blk_far ?_ NB1586_1598.out _; (with_reducible repeat (first | refine blk_drewN ?_ _ | refine blk_drew ?_ | refine blk_alloc ?_ _)); refine blk_far ?_ NB1586_1598.out _; (with_reducible repeat (first | refine blk_drewN ?_ _ | refine blk_drew ?_ | refine blk_alloc ?_ _)); refine blk_far ?_ NB1586_1598.out _; (with_reducible repeat (first | refine blk_drewN ?_ _ | refine blk_drew ?_ | refine blk_alloc ?_ _)); refine blk_far ?_ NB1586_1598.out _; (with_reducible repeat (first | refine blk_drewN ?_ _ | refine blk_drew ?_ | refine blk_alloc ?_ _)); refine blk_far ?_ NB1586_1598.out _; (with_reducible repeat (first | refine blk_drewN ?_ _ | refine blk_drew ?_ | refine blk_alloc ?_ _)); refine blk_far ?_ NB1586_1598.out _; exact pkK BK1586.out) hb); replace BK1587 := am (blk_below (g := gb1587) (o := .cells #[.bool false, .slice none 0 0, .slice none 0 0, .int .i64 0, .int .i64 0, .int .i64 0] 38 (0, 0)) (by (with_reducible repeat (first | refine blk_drewN ?_ _ | refine blk_drew ?_ | refine blk_alloc ?_ _)); refine blk_far ?_ NB1587_1598.out _; (with_reducible repeat (first | refine blk_drewN ?_ _ | refine blk_drew ?_ | refine blk_alloc ?_ _)); refine blk_far ?_ NB1587_1598.out _; (with_reducible repeat (first | refine blk_drewN ?_ _ | refine blk_drew ?_ | refine blk_alloc ?_ _)); refine blk_far ?_ NB1587_1598.out _; (with_reducible repeat (first | refine blk_drewN ?_ _ | refine blk_drew ?_ | refine blk_alloc ?_ _)); refine blk_far ?_ NB1587_1598.out _; (with_reducible repeat (first | refine blk_drewN ?_ _ | refine blk_drew ?_ | refine blk_alloc ?_ _)); refine blk_far ?_ NB1587_1598.out _; (with_reducible repeat (first | refine blk_drewN ?_ _ | refine blk_drew ?_ | refine blk_alloc ?_ _)); refine blk_far ?_ NB1587_1598.out _; exact pkK BK1587.out) hb); replace BK1598 := am (blk_below (g := gb1598) (o := .cells #[.bool t1588, .slice Ao108 t1589.length co108, .slice Ao109 t1592.length co109, .int .i64 t1595, .int .i64 t1596, .int .i64 t1597] 38 (0, 0)) (by (with_reducible repeat (first | refine blk_drewN ?_ _ | refine blk_drew ?_ | refine blk_alloc ?_ _)); refine blk_put (cs := #[.bool t1588, .slice Ao108 t1589.length co108, .slice Ao109 t1592.length co109, .int .i64 t1595, .int .i64 t1596, .int .i64 0]) ?_ 5 _ rfl; (with_reducible repeat (first | refine blk_drewN ?_ _ | refine blk_drew ?_ | refine blk_alloc ?_ _)); refine blk_put (cs := #[.bool t1588, .slice Ao108 t1589.length co108, .slice Ao109 t1592.length co109, .int .i64 t1595, .int .i64 0, .int .i64 0]) ?_ 4 _ rfl; (with_reducible repeat (first | refine blk_drewN ?_ _ | refine blk_drew ?_ | refine blk_alloc ?_ _)); refine blk_put (cs := #[.bool t1588, .slice Ao108 t1589.length co108, .slice Ao109 t1592.length co109, .int .i64 0, .int .i64 0, .int .i64 0]) ?_ 3 _ rfl; (with_reducible repeat (first | refine blk_drewN ?_ _ | refine blk_drew ?_ | refine blk_alloc ?_ _)); refine blk_put (cs := #[.bool t1588, .slice Ao108 t1589.length co108, .slice none 0 0, .int .i64 0, .int .i64 0, .int .i64 0]) ?_ 2 _ rfl; (with_reducible repeat (first | refine blk_drewN ?_ _ | refine blk_drew ?_ | refine blk_alloc ?_ _)); refine blk_put (cs := #[.bool t1588, .slice none 0 0, .slice none 0 0, .int .i64 0, .int .i64 0, .int .i64 0]) ?_ 1 _ rfl; (with_reducible repeat (first | refine blk_drewN ?_ _ | refine blk_drew ?_ | refine blk_alloc ?_ _)); refine blk_put (cs := #[.bool false, .slice none 0 0, .slice none 0 0, .int .i64 0, .int .i64 0, .int .i64 0]) ?_ 0 _ rfl; exact pkK BK1598.out) hb); replace HB := am (below_step (pkW HB.out) hb); (try clear hb); obtain ⟨hcz112_0, hcz112_1, hcz112_2, hcz112_3, hcz112_4, hcz112_5, hfz112_0, hfz112_1, hfz112_2, hfz112_3, hfz112_4, hfz112_5⟩ := bk6 BK1598.out; obtain ⟨hcz113_0, hcz113_1, hcz113_2, hcz113_3, hcz113_4, hcz113_5, hfz113_0, hfz113_1, hfz113_2, hfz113_3, hfz113_4, hfz113_5⟩ := bk6 BK1587.out))
  refine bodyPost_ret (results_ct rfl _ _ gb1587 38 #[.bool t1588, .slice Ao108 t1589.length co108, .slice Ao109 t1592.length co109, .int .i64 t1595, .int .i64 t1596, .int .i64 t1597] (0, 0) _ rfl (by (with_reducible repeat (first | refine blk_drewN ?_ _ | refine blk_drew ?_ | refine blk_alloc ?_ _)); refine blk_put (cs := #[.bool t1588, .slice Ao108 t1589.length co108, .slice Ao109 t1592.length co109, .int .i64 t1595, .int .i64 t1596, .int .i64 0]) ?_ 5 _ rfl; (with_reducible repeat (first | refine blk_drewN ?_ _ | refine blk_drew ?_ | refine blk_alloc ?_ _)); refine blk_put (cs := #[.bool t1588, .slice Ao108 t1589.length co108, .slice Ao109 t1592.length co109, .int .i64 t1595, .int .i64 0, .int .i64 0]) ?_ 4 _ rfl; (with_reducible repeat (first | refine blk_drewN ?_ _ | refine blk_drew ?_ | refine blk_alloc ?_ _)); refine blk_put (cs := #[.bool t1588, .slice Ao108 t1589.length co108, .slice Ao109 t1592.length co109, .int .i64 0, .int .i64 0, .int .i64 0]) ?_ 3 _ rfl; (with_reducible repeat (first | refine blk_drewN ?_ _ | refine blk_drew ?_ | refine blk_alloc ?_ _)); refine blk_put (cs := #[.bool t1588, .slice Ao108 t1589.length co108, .slice none 0 0, .int .i64 0, .int .i64 0, .int .i64 0]) ?_ 2 _ rfl; (with_reducible repeat (first | refine blk_drewN ?_ _ | refine blk_drew ?_ | refine blk_alloc ?_ _)); refine blk_put (cs := #[.bool t1588, .slice none 0 0, .slice none 0 0, .int .i64 0, .int .i64 0, .int .i64 0]) ?_ 1 _ rfl; (with_reducible repeat (first | refine blk_drewN ?_ _ | refine blk_drew ?_ | refine blk_alloc ?_ _)); refine blk_put (cs := #[.bool false, .slice none 0 0, .slice none 0 0, .int .i64 0, .int .i64 0, .int .i64 0]) ?_ 0 _ rfl; exact pkK BK1587.out) Try.underlying38 rfl (by kernel_rfl)) rfl ?_
  exact ⟨_, _, rfe, by (with_reducible repeat (first | apply Kd.R_alloc | apply Kd.R_drewN | apply Kd.R_drew)); exact Kd.R_mono (Kd.R_far (p := ⟨gb1587, 5, none⟩) (Kd.R_far (p := ⟨gb1587, 4, none⟩) (Kd.R_far (p := ⟨gb1587, 3, none⟩) (Kd.R_far (p := ⟨gb1587, 2, none⟩) (Kd.R_far (p := ⟨gb1587, 1, none⟩) (Kd.R_far (p := ⟨gb1587, 0, none⟩) (Kd.R_types HO1591.out BK1587.out (by decide)) (fun _ hk => hk.2) (.bool t1588)) (fun _ hk => hk.2) (.slice Ao108 t1589.length co108)) (fun _ hk => hk.2) (.slice Ao109 t1592.length co109)) (fun _ hk => hk.2) (.int .i64 t1595)) (fun _ hk => hk.2) (.int .i64 t1596)) (fun _ hk => hk.2) (.int .i64 t1597)) (fun _ hk => trivial), by (with_reducible repeat (first | apply Kd.R_alloc | apply Kd.R_drewN | apply Kd.R_drew)); exact Kd.R_mono (Kd.R_far (p := ⟨gb1587, 5, none⟩) (Kd.R_far (p := ⟨gb1587, 4, none⟩) (Kd.R_far (p := ⟨gb1587, 3, none⟩) (Kd.R_far (p := ⟨gb1587, 2, none⟩) (Kd.R_far (p := ⟨gb1587, 1, none⟩) (Kd.R_far (p := ⟨gb1587, 0, none⟩) (Kd.R_types HO1594.out BK1587.out (by decide)) (fun _ hk => hk.2) (.bool t1588)) (fun _ hk => hk.2) (.slice Ao108 t1589.length co108)) (fun _ hk => hk.2) (.slice Ao109 t1592.length co109)) (fun _ hk => hk.2) (.int .i64 t1595)) (fun _ hk => hk.2) (.int .i64 t1596)) (fun _ hk => hk.2) (.int .i64 t1597)) (fun _ hk => trivial), pkW HB.out⟩
end Go.Proofs.Ytdagpmnadapbjaa.Z
