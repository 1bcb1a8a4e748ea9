/- The Go functions spec_Stand as Lean functions, each with a proof that its code comes to just these answers; conditions: those of each theorem. -/
import Derived.Test.YtdagpmnadapbjaaZx0
import Derived.Test.YtdagpmnadapbjaaZx1
import Derived.Test.YtdagpmnadapbjaaZx2
import Derived.Test.YtdagpmnadapbjaaZx5
import Derived.Test.YtdagpmnadapbjaaZx20
namespace Go.Proofs.Ytdagpmnadapbjaa.Z
open Go.RowKit Go.Proofs.YtdagpmnadapbjaaW.PrintWords Go.Proofs.YtdagpmnadapbjaaW.PrintLast Go.Proofs.YtdagpmnadapbjaaW.PrintMore
attribute [local go_sem] max2_int min2_int max_two min_two max_three min_three max_four min_four   -- for this text's walks alone
set_option linter.unusedVariables false
set_option linter.unusedSimpArgs false
mutual
def spec_Stand.j2 : Nat → Int → Bool → Bool → List Int → List Int → Int → Int → Int → Bool → Bool → List Int → List Int → Int → Int → Int → Option (Bool × Bool × List Int × List Int × Int × Int × Int × Int)
 | 0, _, _, _, _, _, _, _, _, _, _, _, _, _, _, _ => none
 | k + 1, x1, x460000, x460001, x460002, x460003, x460004, x460005, x460006, x473000, x473001, x473002, x473003, x473004, x473005, x473006 => if x460001 = true then (if x460000 = true then (some (x473000, false, x473002, x473003, x473004, x473005, wrap64 (x473006 + 1), 0)) else (some (x473000, x473001, x473002, x473003, x473004, x473005, x473006, 0))) else (if x473002.length < 17592186044416 then (some (x473000, x473001, (x473002 ++ [x1]), x473003, x473004, x473005, x473006, 4)) else (none))
def spec_Stand.j0 : Nat → Int → Bool → Bool → Bool → List Int → List Int → Int → Int → Int → Bool → Bool → List Int → List Int → Int → Int → Int → Option (Bool × Bool × List Int × List Int × Int × Int × Int × Int)
 | 0, _, _, _, _, _, _, _, _, _, _, _, _, _, _, _, _ => none
 | k + 1, x1, x9, x460000, x460001, x460002, x460003, x460004, x460005, x460006, x473000, x473001, x473002, x473003, x473004, x473005, x473006 => if x9 = true then (some (x473000, x473001, x473002, x473003, x473004, x473005, x473006, 1)) else ((spec_l2Has.f k x460002 x1).bind fun t475 => (if t475 = true then (spec_Stand.j1 k x1 true x460000 x460001 x460002 x460003 x460004 x460005 x460006 x473000 x473001 x473002 x473003 x473004 x473005 x473006) else ((spec_l2Has.f k x460003 x1).bind fun t476 => (spec_Stand.j1 k x1 t476 x460000 x460001 x460002 x460003 x460004 x460005 x460006 x473000 x473001 x473002 x473003 x473004 x473005 x473006))))
def spec_Stand.j1 : Nat → Int → Bool → Bool → Bool → List Int → List Int → Int → Int → Int → Bool → Bool → List Int → List Int → Int → Int → Int → Option (Bool × Bool × List Int × List Int × Int × Int × Int × Int)
 | 0, _, _, _, _, _, _, _, _, _, _, _, _, _, _, _, _ => none
 | k + 1, x1, x19, x460000, x460001, x460002, x460003, x460004, x460005, x460006, x473000, x473001, x473002, x473003, x473004, x473005, x473006 => if x19 = true then (some (x473000, x473001, x473002, x473003, x473004, x473005, x473006, 5)) else (if x460000 = true then (if x460006 ≥ 1000000000 then (some (x473000, x473001, x473002, x473003, x473004, x473005, x473006, 2)) else (if x460001 = true then (spec_Stand.j2 k x1 x460000 x460001 x460002 x460003 x460004 x460005 x460006 x473000 x473001 x473002 x473003 x473004 x473005 x473006) else (if (x460002.length : Int) ≥ 32 then (some (x473000, x473001, x473002, x473003, x473004, x473005, x473006, 2)) else (spec_Stand.j2 k x1 x460000 x460001 x460002 x460003 x460004 x460005 x460006 x473000 x473001 x473002 x473003 x473004 x473005 x473006)))) else (if x460001 = true then (spec_Stand.j2 k x1 x460000 x460001 x460002 x460003 x460004 x460005 x460006 x473000 x473001 x473002 x473003 x473004 x473005 x473006) else (if (x460002.length : Int) ≥ 32 then (some (x473000, x473001, x473002, x473003, x473004, x473005, x473006, 2)) else (spec_Stand.j2 k x1 x460000 x460001 x460002 x460003 x460004 x460005 x460006 x473000 x473001 x473002 x473003 x473004 x473005 x473006))))
end
def spec_Stand.f (k : Nat) (a0_0 : Bool) (a0_1 : Bool) (l0_2 : List Int) (l0_3 : List Int) (a0_4 : Int) (a0_5 : Int) (a0_6 : Int) (a1 : Int) : Option (Bool × Bool × List Int × List Int × Int × Int × Int × Int) := (spec_l6Copy.f a0_0 a0_1 l0_2 l0_3 a0_4 a0_5 a0_6).bind fun bt461 => ((spec_EventOk.f k a0_0 a0_1 l0_2 l0_3 a0_4 a0_5 a0_6).bind fun t473 => (if t473 = true then ((spec_l2Client.f a1).bind fun t474 => (spec_Stand.j0 k a1 (!t474) a0_0 a0_1 l0_2 l0_3 a0_4 a0_5 a0_6 bt461.1 bt461.2.1 bt461.2.2.1 bt461.2.2.2.1 bt461.2.2.2.2.1 bt461.2.2.2.2.2.1 bt461.2.2.2.2.2.2)) else (spec_Stand.j0 k a1 true a0_0 a0_1 l0_2 l0_3 a0_4 a0_5 a0_6 bt461.1 bt461.2.1 bt461.2.2.1 bt461.2.2.2.1 bt461.2.2.2.2.1 bt461.2.2.2.2.2.1 bt461.2.2.2.2.2.2)))
theorem spec_Stand.mono_l : ∀ k, (∀ y0 y1 y2 y3 y4 y5 y6 y7 y8 y9 y10 y11 y12 y13 y14, LeO (spec_Stand.j2 k y0 y1 y2 y3 y4 y5 y6 y7 y8 y9 y10 y11 y12 y13 y14) (spec_Stand.j2 (k + 1) y0 y1 y2 y3 y4 y5 y6 y7 y8 y9 y10 y11 y12 y13 y14)) ∧ (∀ y0 y1 y2 y3 y4 y5 y6 y7 y8 y9 y10 y11 y12 y13 y14 y15, LeO (spec_Stand.j0 k y0 y1 y2 y3 y4 y5 y6 y7 y8 y9 y10 y11 y12 y13 y14 y15) (spec_Stand.j0 (k + 1) y0 y1 y2 y3 y4 y5 y6 y7 y8 y9 y10 y11 y12 y13 y14 y15)) ∧ (∀ y0 y1 y2 y3 y4 y5 y6 y7 y8 y9 y10 y11 y12 y13 y14 y15, LeO (spec_Stand.j1 k y0 y1 y2 y3 y4 y5 y6 y7 y8 y9 y10 y11 y12 y13 y14 y15) (spec_Stand.j1 (k + 1) y0 y1 y2 y3 y4 y5 y6 y7 y8 y9 y10 y11 y12 y13 y14 y15))
 | 0 => ⟨fun _ _ _ _ _ _ _ _ _ _ _ _ _ _ _ r h => by simp [spec_Stand.j2] at h, fun _ _ _ _ _ _ _ _ _ _ _ _ _ _ _ _ r h => by simp [spec_Stand.j0] at h, fun _ _ _ _ _ _ _ _ _ _ _ _ _ _ _ _ r h => by simp [spec_Stand.j1] at h⟩
 | k + 1 => by
  obtain ⟨ih0, ih1, ih2⟩ := spec_Stand.mono_l k
  refine ⟨?_, ?_, ?_⟩
  ·intro y0 y1 y2 y3 y4 y5 y6 y7 y8 y9 y10 y11 y12 y13 y14
   unfold spec_Stand.j2
   repeat' first
   | (with_reducible exact ih0 _ _ _ _ _ _ _ _ _ _ _ _ _ _ _)
   | (with_reducible exact ih1 _ _ _ _ _ _ _ _ _ _ _ _ _ _ _ _)
   | (with_reducible exact ih2 _ _ _ _ _ _ _ _ _ _ _ _ _ _ _ _)
   | (with_reducible exact spec_EventOk.mono _ _ _ _ _ _ _ _)
   | (with_reducible exact spec_l2Has.mono _ _ _)
   | (with_reducible exact LeO.refl _)
   | (with_reducible exact LeO.none _)
   | (with_reducible refine LeO.ite ?_ ?_)
   | (with_reducible refine LeO.bind ?_ (fun _ => ?_))
  ·intro y0 y1 y2 y3 y4 y5 y6 y7 y8 y9 y10 y11 y12 y13 y14 y15
   unfold spec_Stand.j0
   repeat' first
   | (with_reducible exact ih0 _ _ _ _ _ _ _ _ _ _ _ _ _ _ _)
   | (with_reducible exact ih1 _ _ _ _ _ _ _ _ _ _ _ _ _ _ _ _)
   | (with_reducible exact ih2 _ _ _ _ _ _ _ _ _ _ _ _ _ _ _ _)
   | (with_reducible exact spec_EventOk.mono _ _ _ _ _ _ _ _)
   | (with_reducible exact spec_l2Has.mono _ _ _)
   | (with_reducible exact LeO.refl _)
   | (with_reducible exact LeO.none _)
   | (with_reducible refine LeO.ite ?_ ?_)
   | (with_reducible refine LeO.bind ?_ (fun _ => ?_))
  ·intro y0 y1 y2 y3 y4 y5 y6 y7 y8 y9 y10 y11 y12 y13 y14 y15
   unfold spec_Stand.j1
   repeat' first
   | (with_reducible exact ih0 _ _ _ _ _ _ _ _ _ _ _ _ _ _ _)
   | (with_reducible exact ih1 _ _ _ _ _ _ _ _ _ _ _ _ _ _ _ _)
   | (with_reducible exact ih2 _ _ _ _ _ _ _ _ _ _ _ _ _ _ _ _)
   | (with_reducible exact spec_EventOk.mono _ _ _ _ _ _ _ _)
   | (with_reducible exact spec_l2Has.mono _ _ _)
   | (with_reducible exact LeO.refl _)
   | (with_reducible exact LeO.none _)
   | (with_reducible refine LeO.ite ?_ ?_)
   | (with_reducible refine LeO.bind ?_ (fun _ => ?_))
theorem spec_Stand.mono : ∀ a0 a1 a2 a3 a4 a5 a6 a7 k, LeO (spec_Stand.f k a0 a1 a2 a3 a4 a5 a6 a7) (spec_Stand.f (k + 1) a0 a1 a2 a3 a4 a5 a6 a7) := by
 intro a0 a1 a2 a3 a4 a5 a6 a7 k
 obtain ⟨ih0, ih1, ih2⟩ := spec_Stand.mono_l k
 unfold spec_Stand.f
 repeat' first
   | (with_reducible exact ih0 _ _ _ _ _ _ _ _ _ _ _ _ _ _ _)
   | (with_reducible exact ih1 _ _ _ _ _ _ _ _ _ _ _ _ _ _ _ _)
   | (with_reducible exact ih2 _ _ _ _ _ _ _ _ _ _ _ _ _ _ _ _)
   | (with_reducible exact spec_EventOk.mono _ _ _ _ _ _ _ _)
   | (with_reducible exact spec_l2Has.mono _ _ _)
   | (with_reducible exact LeO.refl _)
   | (with_reducible exact LeO.none _)
   | (with_reducible refine LeO.ite ?_ ?_)
   | (with_reducible refine LeO.bind ?_ (fun _ => ?_))
set_option maxHeartbeats 8000000 in
set_option maxRecDepth 100000 in
theorem spec_Stand.calls (k : Nat) (a0_0 : Bool) (a0_1 : Bool) (A0_2 : Option Addr) (c0_2 : Nat) (l0_2 : List Int) (A0_3 : Option Addr) (c0_3 : Nat) (l0_3 : List Int) (a0_4 : Int) (a0_5 : Int) (a0_6 : Int) (a1 : Int) (r1 : Bool) (r2 : Bool) (r3 : List Int) (r4 : List Int) (r5 : Int) (r6 : Int) (r7 : Int) (r8 : Int) (w : World) (hr0_2 : Kd.C (Kd.int .i64) w A0_2 l0_2.length l0_2) (hc0_2 : l0_2.length ≤ c0_2) (hr0_3 : Kd.C (Kd.int .i64) w A0_3 l0_3.length l0_3) (hc0_3 : l0_3.length ≤ c0_3) (h : spec_Stand.f k a0_0 a0_1 l0_2 l0_3 a0_4 a0_5 a0_6 a1 = some (r1, r2, r3, r4, r5, r6, r7, r8)) :
  Calls Try.prog 28 #[.agg #[.bool a0_0, .bool a0_1, .slice A0_2 l0_2.length c0_2, .slice A0_3 l0_3.length c0_3, .int .i64 a0_4, .int .i64 a0_5, .int .i64 a0_6], .int .i64 a1] w fun e w' => ∃ v2_ v3_ : Value, e = .returned (.tuple #[.agg #[.bool r1, .bool r2, v2_, v3_, .int .i64 r5, .int .i64 r6, .int .i64 r7], .int .i64 r8]) ∧ Kd.R (Kd.int .i64) 3 w' w.heap.size (fun k_ => some k_ ≠ (v3_ : Value).ownBlock) v2_ r3 ∧ Kd.R (Kd.int .i64) 3 w' w.heap.size (fun k_ => some k_ ≠ (v2_ : Value).ownBlock) v3_ r4 ∧ Below w.heap.size w w' := by
 have hu27 := Try.underlying27
 have HR0_2 := am hr0_2
 have HC0_2 := am hc0_2
 clear hr0_2 hc0_2
 have HR0_3 := am hr0_3
 have HC0_3 := am hc0_3
 clear hr0_3 hc0_3
 have HB := am (Below.refl w.heap.size w)
 have H : ((spec_l6Copy.f a0_0 a0_1 l0_2 l0_3 a0_4 a0_5 a0_6).bind fun bt461 => ((spec_EventOk.f k a0_0 a0_1 l0_2 l0_3 a0_4 a0_5 a0_6).bind fun t473 => (if t473 = true then ((spec_l2Client.f a1).bind fun t474 => (spec_Stand.j0 k a1 (!t474) a0_0 a0_1 l0_2 l0_3 a0_4 a0_5 a0_6 bt461.1 bt461.2.1 bt461.2.2.1 bt461.2.2.2.1 bt461.2.2.2.2.1 bt461.2.2.2.2.2.1 bt461.2.2.2.2.2.2)) else (spec_Stand.j0 k a1 true a0_0 a0_1 l0_2 l0_3 a0_4 a0_5 a0_6 bt461.1 bt461.2.1 bt461.2.2.1 bt461.2.2.2.1 bt461.2.2.2.2.1 bt461.2.2.2.2.2.1 bt461.2.2.2.2.2.2)))) = some (r1, r2, r3, r4, r5, r6, r7, r8) := h
 clear h
 replace H := Option.bind_eq_some_iff.mp H
 obtain ⟨⟨t461, t462, t463, t466, t469, t470, t471⟩, A30, H⟩ := H
 replace H : ((spec_EventOk.f k a0_0 a0_1 l0_2 l0_3 a0_4 a0_5 a0_6).bind fun t473 => (if t473 = true then ((spec_l2Client.f a1).bind fun t474 => (spec_Stand.j0 k a1 (!t474) a0_0 a0_1 l0_2 l0_3 a0_4 a0_5 a0_6 t461 t462 t463 t466 t469 t470 t471)) else (spec_Stand.j0 k a1 true a0_0 a0_1 l0_2 l0_3 a0_4 a0_5 a0_6 t461 t462 t463 t466 t469 t470 t471))) = some (r1, r2, r3, r4, r5, r6, r7, r8) := H
 have A3 := am A30
 clear A30
 have HC4 := am H
 clear H
 go_enter Try.func28, Try.ntmps28
 go_upto_block 0 with (first | ((with_reducible refine gate_dst (N := 2) rfl ?_); (try (refine gate_guard (by rfl) ?_; dsimp only)); refine box_event ?hg (N := 2) ?hd (cs := #[.bool a0_0, .bool a0_1, .slice A0_2 l0_2.length c0_2, .slice A0_3 l0_3.length c0_3, .int .i64 a0_4, .int .i64 a0_5, .int .i64 a0_6]) (t := 27) ?hr ?_; (case hd => rfl); (case hg => rfl); (case hr => first | (go_simp; done) | (go_simp; rfl)); intro gb459 hg w5 hbox hb; have BK459 := am (hbox); have GW459 := am ((by rw [hg]; exact (below_size (pkB HB.out)) : w.heap.size ≤ gb459)); have GE459 := am ((by rw [hg]; exact (below_size (pkB HB.out)) : w.heap.size ≤ gb459)); replace HB := am (below_step (pkB HB.out) hb); clear hb hbox hg) | ((with_reducible refine gate_dst (N := 4) rfl ?_); (try (refine gate_guard (by rfl) ?_; dsimp only)); refine box_event ?hg (N := 4) ?hd (cs := #[.bool false, .bool false, .slice none 0 0, .slice none 0 0, .int .i64 0, .int .i64 0, .int .i64 0]) (t := 27) ?hr ?_; (case hd => rfl); (case hg => rfl); (case hr => first | (go_simp; done) | (go_simp; rfl)); intro gb460 hg w6 hbox hb; have BK460 := am (hbox); have GW460 := am ((by rw [hg]; exact (below_size (pkW HB.out)) : w.heap.size ≤ gb460)); have GE460 := am ((by rw [hg]; exact (below_size (pkW HB.out)) : w.heap.size ≤ gb460)); replace HB := am (below_step (pkW HB.out) hb); have NB459_460 := am ((by rw [hg]; exact Nat.ne_of_lt (blk_lt (g := gb459) (o := .cells #[.bool a0_0, .bool a0_1, .slice A0_2 l0_2.length c0_2, .slice A0_3 l0_3.length c0_3, .int .i64 a0_4, .int .i64 a0_5, .int .i64 a0_6] 27 (0, 0)) (pkK BK459.out)) : gb459 ≠ gb460)); have NB460_459 := am ((by rw [hg]; exact Nat.ne_of_gt (blk_lt (g := gb459) (o := .cells #[.bool a0_0, .bool a0_1, .slice A0_2 l0_2.length c0_2, .slice A0_3 l0_3.length c0_3, .int .i64 a0_4, .int .i64 a0_5, .int .i64 a0_6] 27 (0, 0)) (pkK BK459.out)) : gb460 ≠ gb459)); replace BK459 := am (blk_below (pkK BK459.out) hb); clear hb hbox hg; have hnb7 := NB459_460.out; have hnc7 := NB460_459.out; obtain ⟨hcz8_0, hcz8_1, hcz8_2, hcz8_3, hcz8_4, hcz8_5, hcz8_6, hfz8_0, hfz8_1, hfz8_2, hfz8_3, hfz8_4, hfz8_5, hfz8_6⟩ := bk7 BK459.out) | ((with_reducible refine gate_callee (f := 63) rfl ?_); refine goesL_ (some 8) rfl rfl Try.func63 (by kernel_rfl) rfl #[.agg #[.bool a0_0, .bool a0_1, .slice A0_2 l0_2.length c0_2, .slice A0_3 l0_3.length c0_3, .int .i64 a0_4, .int .i64 a0_5, .int .i64 a0_6]] rfl mpx ?_; (with_reducible refine (spec_l6Copy.calls a0_0 a0_1 _ _ l0_2 _ _ l0_3 a0_4 a0_5 a0_6 t461 t462 t463 t466 t469 t470 t471 _ ?side1 ?side2 ?side3 ?side4 A3.out).mono ?_); (case side1 => exact pkC (Kd.C_below HR0_2.out HB.out)); (case side2 => exact HC0_2.out); (case side3 => exact pkC (Kd.C_below HR0_3.out HB.out)); (case side4 => exact HC0_3.out); rintro e w9 ⟨v464, v467, rfl, ho0, ho1, hb⟩; refine ⟨_, rfl, ?_⟩; have HO465 := am (Kd.R_lower ho0 (below_size (pkW HB.out))); have HO468 := am (Kd.R_lower ho1 (below_size (pkW HB.out))); replace BK459 := am (blk_below (pkK BK459.out) hb); replace BK460 := am (blk_below (pkK BK460.out) hb); replace HB := am (below_step (pkW HB.out) hb); (try clear hb ho0 ho1)) | ((with_reducible refine gate_dst (N := 6) rfl ?_); (try (refine gate_guard (by rfl) ?_; dsimp only)); refine box_event ?hg (N := 6) ?hd (cs := #[.bool false, .bool false, .slice none 0 0, .slice none 0 0, .int .i64 0, .int .i64 0, .int .i64 0]) (t := 27) ?hr ?_; (case hd => rfl); (case hg => rfl); (case hr => first | (go_simp; done) | (go_simp; rfl)); intro gb472 hg w10 hbox hb; replace HO465 := am (Kd.R_below (pkR HO465.out) hb); replace HO468 := am (Kd.R_below (pkR HO468.out) hb); have BK472 := am (hbox); have GW472 := am ((by rw [hg]; exact (below_size (pkW HB.out)) : w.heap.size ≤ gb472)); have GE472 := am ((by rw [hg]; exact (below_size (pkW HB.out)) : w.heap.size ≤ gb472)); replace HB := am (below_step (pkW HB.out) hb); have NB459_472 := am ((by rw [hg]; exact Nat.ne_of_lt (blk_lt (g := gb459) (o := .cells #[.bool a0_0, .bool a0_1, .slice A0_2 l0_2.length c0_2, .slice A0_3 l0_3.length c0_3, .int .i64 a0_4, .int .i64 a0_5, .int .i64 a0_6] 27 (0, 0)) (pkK BK459.out)) : gb459 ≠ gb472)); have NB472_459 := am ((by rw [hg]; exact Nat.ne_of_gt (blk_lt (g := gb459) (o := .cells #[.bool a0_0, .bool a0_1, .slice A0_2 l0_2.length c0_2, .slice A0_3 l0_3.length c0_3, .int .i64 a0_4, .int .i64 a0_5, .int .i64 a0_6] 27 (0, 0)) (pkK BK459.out)) : gb472 ≠ gb459)); replace BK459 := am (blk_below (pkK BK459.out) hb); have NB460_472 := am ((by rw [hg]; exact Nat.ne_of_lt (blk_lt (g := gb460) (o := .cells #[.bool false, .bool false, .slice none 0 0, .slice none 0 0, .int .i64 0, .int .i64 0, .int .i64 0] 27 (0, 0)) (pkK BK460.out)) : gb460 ≠ gb472)); have NB472_460 := am ((by rw [hg]; exact Nat.ne_of_gt (blk_lt (g := gb460) (o := .cells #[.bool false, .bool false, .slice none 0 0, .slice none 0 0, .int .i64 0, .int .i64 0, .int .i64 0] 27 (0, 0)) (pkK BK460.out)) : gb472 ≠ gb460)); replace BK460 := am (blk_below (pkK BK460.out) hb); clear hb hbox hg; have hnb11 := NB472_459.out; have hnc11 := NB459_472.out; have hnb12 := NB472_460.out; have hnc12 := NB460_472.out; obtain ⟨hcz13_0, hcz13_1, hcz13_2, hcz13_3, hcz13_4, hcz13_5, hcz13_6, hfz13_0, hfz13_1, hfz13_2, hfz13_3, hfz13_4, hfz13_5, hfz13_6⟩ := bk7 BK472.out; obtain ⟨Ao14, co14, eo14⟩ := Kd.R_slice HO465.out; subst eo14; obtain ⟨Ao15, co15, eo15⟩ := Kd.R_slice HO468.out; subst eo15))
 (try simp only [Act.put, List.setIfInBounds_toArray, List.set_cons_zero, List.set_cons_succ])
 go_cut [] (fun wc => ∃ (kq : Nat) (x461000_3 : Bool) (x461001_3 : Bool) (x461004_3 : Int) (x461005_3 : Int) (x461006_3 : Int), Aside0 (spec_Stand.j2 kq a1 a0_0 a0_1 l0_2 l0_3 a0_4 a0_5 a0_6 t461 t462 t463 t466 t469 t470 t471 = some (r1, r2, r3, r4, r5, r6, r7, r8)) ∧ Aside0 (kq ≤ k) ∧ Aside0 (Kd.R (Kd.int .i64) 3 wc w.heap.size (fun k_ => some k_ ≠ ((.slice Ao15 t466.length co15) : Value).ownBlock) (.slice Ao14 t463.length co14) t463) ∧ Aside0 (Kd.R (Kd.int .i64) 3 wc w.heap.size (fun k_ => some k_ ≠ ((.slice Ao14 t463.length co14) : Value).ownBlock) (.slice Ao15 t466.length co15) t466) ∧ Aside0 (wc.heap[gb459]? = some (.cells #[.bool a0_0, .bool a0_1, (.slice A0_2 l0_2.length c0_2), (.slice A0_3 l0_3.length c0_3), .int .i64 a0_4, .int .i64 a0_5, .int .i64 a0_6] 27 (0, 0))) ∧ Aside0 (wc.heap[gb460]? = some (.cells #[.bool x461000_3, .bool x461001_3, (.slice none 0 0), (.slice none 0 0), .int .i64 x461004_3, .int .i64 x461005_3, .int .i64 x461006_3] 27 (0, 0))) ∧ Aside0 (wc.heap[gb472]? = some (.cells #[.bool t461, .bool t462, (.slice Ao14 t463.length co14), (.slice Ao15 t466.length co15), .int .i64 t469, .int .i64 t470, .int .i64 t471] 27 (0, 0))) ∧ Aside0 (Below w.heap.size w wc))
 case first =>
  have H := HC4.out
  clear HC4
  have HC16 := am H
  clear H
  go_upto_region 2 with (fail)
  go_cut [9] (fun v9 wc => ∃ (kq : Nat) (x9_15 : Bool), v9 = .bool x9_15 ∧ Aside0 (spec_Stand.j0 kq a1 x9_15 a0_0 a0_1 l0_2 l0_3 a0_4 a0_5 a0_6 t461 t462 t463 t466 t469 t470 t471 = some (r1, r2, r3, r4, r5, r6, r7, r8)) ∧ Aside0 (kq ≤ k) ∧ Aside0 (Kd.R (Kd.int .i64) 3 wc w.heap.size (fun k_ => some k_ ≠ ((.slice Ao15 t466.length co15) : Value).ownBlock) (.slice Ao14 t463.length co14) t463) ∧ Aside0 (Kd.R (Kd.int .i64) 3 wc w.heap.size (fun k_ => some k_ ≠ ((.slice Ao14 t463.length co14) : Value).ownBlock) (.slice Ao15 t466.length co15) t466) ∧ Aside0 (wc.heap[gb459]? = some (.cells #[.bool a0_0, .bool a0_1, (.slice A0_2 l0_2.length c0_2), (.slice A0_3 l0_3.length c0_3), .int .i64 a0_4, .int .i64 a0_5, .int .i64 a0_6] 27 (0, 0))) ∧ Aside0 (wc.heap[gb460]? = some (.cells #[.bool false, .bool false, (.slice none 0 0), (.slice none 0 0), .int .i64 0, .int .i64 0, .int .i64 0] 27 (0, 0))) ∧ Aside0 (wc.heap[gb472]? = some (.cells #[.bool t461, .bool t462, (.slice Ao14 t463.length co14), (.slice Ao15 t466.length co15), .int .i64 t469, .int .i64 t470, .int .i64 t471] 27 (0, 0))) ∧ Aside0 (Below w.heap.size w wc))
  case first =>
   have H := HC16.out
   clear HC16
   replace H := Option.bind_eq_some_iff.mp H
   obtain ⟨t473, A170, H⟩ := H
   replace H : (if t473 = true then ((spec_l2Client.f a1).bind fun t474 => (spec_Stand.j0 k a1 (!t474) a0_0 a0_1 l0_2 l0_3 a0_4 a0_5 a0_6 t461 t462 t463 t466 t469 t470 t471)) else (spec_Stand.j0 k a1 true a0_0 a0_1 l0_2 l0_3 a0_4 a0_5 a0_6 t461 t462 t463 t466 t469 t470 t471)) = some (r1, r2, r3, r4, r5, r6, r7, r8) := H
   have A17 := am A170
   clear A170
   by_cases c18 : t473 = true
   ·subst c18
    replace H : ((spec_l2Client.f a1).bind fun t474 => (spec_Stand.j0 k a1 (!t474) a0_0 a0_1 l0_2 l0_3 a0_4 a0_5 a0_6 t461 t462 t463 t466 t469 t470 t471)) = some (r1, r2, r3, r4, r5, r6, r7, r8) := by rw [if_pos rfl] at H; exact H
    replace H := Option.bind_eq_some_iff.mp H
    obtain ⟨t474, A190, H⟩ := H
    replace H : (spec_Stand.j0 k a1 (!t474) a0_0 a0_1 l0_2 l0_3 a0_4 a0_5 a0_6 t461 t462 t463 t466 t469 t470 t471) = some (r1, r2, r3, r4, r5, r6, r7, r8) := H
    have A19 := am A190
    clear A190
    have H' := am H
    clear H
    have hnb20 := NB459_460.out
    have hnc20 := NB460_459.out
    have hnb21 := NB459_472.out
    have hnc21 := NB472_459.out
    obtain ⟨hcz22_0, hcz22_1, hcz22_2, hcz22_3, hcz22_4, hcz22_5, hcz22_6, hfz22_0, hfz22_1, hfz22_2, hfz22_3, hfz22_4, hfz22_5, hfz22_6⟩ := bk7 BK459.out
    go_wp2_with (first | ((with_reducible refine gate_callee (f := 15) rfl ?_); refine goesL_ (some 11) rfl rfl Try.func15 (by kernel_rfl) rfl #[.agg #[.bool a0_0, .bool a0_1, .slice A0_2 l0_2.length c0_2, .slice A0_3 l0_3.length c0_3, .int .i64 a0_4, .int .i64 a0_5, .int .i64 a0_6]] rfl mpx ?_; (with_reducible refine (spec_EventOk.calls k a0_0 a0_1 _ _ l0_2 _ _ l0_3 a0_4 a0_5 a0_6 true _ ?side1 ?side2 ?side3 ?side4 A17.out).mono ?_); (case side1 => exact Kd.C_below HR0_2.out (pkW HB.out)); (case side2 => exact HC0_2.out); (case side3 => exact Kd.C_below HR0_3.out (pkW HB.out)); (case side4 => exact HC0_3.out); rintro e w23 ⟨rfl, hb⟩; refine ⟨_, rfl, ?_⟩; replace HO465 := am (Kd.R_below (by (with_reducible repeat (first | apply Kd.R_alloc | apply Kd.R_drewN | apply Kd.R_drew)); exact (Kd.R_mono (Kd.R_far (p := ⟨gb472, 6, none⟩) (Kd.R_far (p := ⟨gb472, 5, none⟩) (Kd.R_far (p := ⟨gb472, 4, none⟩) (Kd.R_far (p := ⟨gb472, 3, none⟩) (Kd.R_far (p := ⟨gb472, 2, none⟩) (Kd.R_far (p := ⟨gb472, 1, none⟩) (Kd.R_far (p := ⟨gb472, 0, none⟩) (Kd.R_types HO465.out BK472.out (by decide)) (fun _ hk => hk.2) (.bool t461)) (fun _ hk => hk.2) (.bool t462)) (fun _ hk => hk.2) (.slice Ao14 t463.length co14)) (fun _ hk => hk.2) (.slice Ao15 t466.length co15)) (fun _ hk => hk.2) (.int .i64 t469)) (fun _ hk => hk.2) (.int .i64 t470)) (fun _ hk => hk.2) (.int .i64 t471)) (fun _ h_ => h_.1))) hb); replace HO468 := am (Kd.R_below (by (with_reducible repeat (first | apply Kd.R_alloc | apply Kd.R_drewN | apply Kd.R_drew)); exact (Kd.R_mono (Kd.R_far (p := ⟨gb472, 6, none⟩) (Kd.R_far (p := ⟨gb472, 5, none⟩) (Kd.R_far (p := ⟨gb472, 4, none⟩) (Kd.R_far (p := ⟨gb472, 3, none⟩) (Kd.R_far (p := ⟨gb472, 2, none⟩) (Kd.R_far (p := ⟨gb472, 1, none⟩) (Kd.R_far (p := ⟨gb472, 0, none⟩) (Kd.R_types HO468.out BK472.out (by decide)) (fun _ hk => hk.2) (.bool t461)) (fun _ hk => hk.2) (.bool t462)) (fun _ hk => hk.2) (.slice Ao14 t463.length co14)) (fun _ hk => hk.2) (.slice Ao15 t466.length co15)) (fun _ hk => hk.2) (.int .i64 t469)) (fun _ hk => hk.2) (.int .i64 t470)) (fun _ hk => hk.2) (.int .i64 t471)) (fun _ h_ => h_.1))) hb); replace BK459 := am (blk_below (g := gb459) (o := .cells #[.bool a0_0, .bool a0_1, .slice A0_2 l0_2.length c0_2, .slice A0_3 l0_3.length c0_3, .int .i64 a0_4, .int .i64 a0_5, .int .i64 a0_6] 27 (0, 0)) (by (with_reducible repeat (first | refine blk_drewN ?_ _ | refine blk_drew ?_ | refine blk_alloc ?_ _)); refine blk_far ?_ NB459_472.out _; (with_reducible repeat (first | refine blk_drewN ?_ _ | refine blk_drew ?_ | refine blk_alloc ?_ _)); refine blk_far ?_ NB459_472.out _; (with_reducible repeat (first | refine blk_drewN ?_ _ | refine blk_drew ?_ | refine blk_alloc ?_ _)); refine blk_far ?_ NB459_472.out _; (with_reducible repeat (first | refine blk_drewN ?_ _ | refine blk_drew ?_ | refine blk_alloc ?_ _)); refine blk_far ?_ NB459_472.out _; (with_reducible repeat (first | refine blk_drewN ?_ _ | refine blk_drew ?_ | refine blk_alloc ?_ _)); refine blk_far ?_ NB459_472.out _; (with_reducible repeat (first | refine blk_drewN ?_ _ | refine blk_drew ?_ | refine blk_alloc ?_ _)); refine blk_far ?_ NB459_472.out _; (with_reducible repeat (first | refine blk_drewN ?_ _ | refine blk_drew ?_ | refine blk_alloc ?_ _)); refine blk_far ?_ NB459_472.out _; exact pkK BK459.out) hb); replace BK460 := am (blk_below (g := gb460) (o := .cells #[.bool false, .bool false, .slice none 0 0, .slice none 0 0, .int .i64 0, .int .i64 0, .int .i64 0] 27 (0, 0)) (by (with_reducible repeat (first | refine blk_drewN ?_ _ | refine blk_drew ?_ | refine blk_alloc ?_ _)); refine blk_far ?_ NB460_472.out _; (with_reducible repeat (first | refine blk_drewN ?_ _ | refine blk_drew ?_ | refine blk_alloc ?_ _)); refine blk_far ?_ NB460_472.out _; (with_reducible repeat (first | refine blk_drewN ?_ _ | refine blk_drew ?_ | refine blk_alloc ?_ _)); refine blk_far ?_ NB460_472.out _; (with_reducible repeat (first | refine blk_drewN ?_ _ | refine blk_drew ?_ | refine blk_alloc ?_ _)); refine blk_far ?_ NB460_472.out _; (with_reducible repeat (first | refine blk_drewN ?_ _ | refine blk_drew ?_ | refine blk_alloc ?_ _)); refine blk_far ?_ NB460_472.out _; (with_reducible repeat (first | refine blk_drewN ?_ _ | refine blk_drew ?_ | refine blk_alloc ?_ _)); refine blk_far ?_ NB460_472.out _; (with_reducible repeat (first | refine blk_drewN ?_ _ | refine blk_drew ?_ | refine blk_alloc ?_ _)); refine blk_far ?_ NB460_472.out _; exact pkK BK460.out) hb); replace BK472 := am (blk_below (g := gb472) (o := .cells #[.bool t461, .bool t462, .slice Ao14 t463.length co14, .slice Ao15 t466.length co15, .int .i64 t469, .int .i64 t470, .int .i64 t471] 27 (0, 0)) (by (with_reducible repeat (first | refine blk_drewN ?_ _ | refine blk_drew ?_ | refine blk_alloc ?_ _)); refine blk_put (cs := #[.bool t461, .bool t462, .slice Ao14 t463.length co14, .slice Ao15 t466.length co15, .int .i64 t469, .int .i64 t470, .int .i64 0]) ?_ 6 _ rfl; (with_reducible repeat (first | refine blk_drewN ?_ _ | refine blk_drew ?_ | refine blk_alloc ?_ _)); refine blk_put (cs := #[.bool t461, .bool t462, .slice Ao14 t463.length co14, .slice Ao15 t466.length co15, .int .i64 t469, .int .i64 0, .int .i64 0]) ?_ 5 _ rfl; (with_reducible repeat (first | refine blk_drewN ?_ _ | refine blk_drew ?_ | refine blk_alloc ?_ _)); refine blk_put (cs := #[.bool t461, .bool t462, .slice Ao14 t463.length co14, .slice Ao15 t466.length co15, .int .i64 0, .int .i64 0, .int .i64 0]) ?_ 4 _ rfl; (with_reducible repeat (first | refine blk_drewN ?_ _ | refine blk_drew ?_ | refine blk_alloc ?_ _)); refine blk_put (cs := #[.bool t461, .bool t462, .slice Ao14 t463.length co14, .slice none 0 0, .int .i64 0, .int .i64 0, .int .i64 0]) ?_ 3 _ rfl; (with_reducible repeat (first | refine blk_drewN ?_ _ | refine blk_drew ?_ | refine blk_alloc ?_ _)); refine blk_put (cs := #[.bool t461, .bool t462, .slice none 0 0, .slice none 0 0, .int .i64 0, .int .i64 0, .int .i64 0]) ?_ 2 _ rfl; (with_reducible repeat (first | refine blk_drewN ?_ _ | refine blk_drew ?_ | refine blk_alloc ?_ _)); refine blk_put (cs := #[.bool t461, .bool false, .slice none 0 0, .slice none 0 0, .int .i64 0, .int .i64 0, .int .i64 0]) ?_ 1 _ rfl; (with_reducible repeat (first | refine blk_drewN ?_ _ | refine blk_drew ?_ | refine blk_alloc ?_ _)); refine blk_put (cs := #[.bool false, .bool false, .slice none 0 0, .slice none 0 0, .int .i64 0, .int .i64 0, .int .i64 0]) ?_ 0 _ rfl; exact pkK BK472.out) hb); replace HB := am (below_step (pkW HB.out) hb); (try clear hb)) | (go_at_call 58; (with_reducible refine (spec_l2Client.calls a1 t474 _ A19.out).mono ?_); rintro e w' ⟨rfl, ⟨nd, rfl⟩⟩))
    go_meet
    case rel => exact ⟨_, (!t474), rfx, H', ⟨by first | omega | exact Nat.le_refl _⟩, ⟨pkR HO465.out⟩, ⟨pkR HO468.out⟩, ⟨pkK BK459.out⟩, ⟨pkK BK460.out⟩, ⟨pkK BK472.out⟩, ⟨pkW HB.out⟩⟩
   ·replace c18 := Bool.eq_false_iff.mpr c18
    subst c18
    replace H : (spec_Stand.j0 k a1 true a0_0 a0_1 l0_2 l0_3 a0_4 a0_5 a0_6 t461 t462 t463 t466 t469 t470 t471) = some (r1, r2, r3, r4, r5, r6, r7, r8) := by rw [if_neg (show ¬ (false = true) by decide)] at H; exact H
    have H' := am H
    clear H
    have hnb24 := NB459_460.out
    have hnc24 := NB460_459.out
    have hnb25 := NB459_472.out
    have hnc25 := NB472_459.out
    obtain ⟨hcz26_0, hcz26_1, hcz26_2, hcz26_3, hcz26_4, hcz26_5, hcz26_6, hfz26_0, hfz26_1, hfz26_2, hfz26_3, hfz26_4, hfz26_5, hfz26_6⟩ := bk7 BK459.out
    go_wp2_with (first | ((with_reducible refine gate_callee (f := 15) rfl ?_); refine goesL_ (some 11) rfl rfl Try.func15 (by kernel_rfl) rfl #[.agg #[.bool a0_0, .bool a0_1, .slice A0_2 l0_2.length c0_2, .slice A0_3 l0_3.length c0_3, .int .i64 a0_4, .int .i64 a0_5, .int .i64 a0_6]] rfl mpx ?_; (with_reducible refine (spec_EventOk.calls k a0_0 a0_1 _ _ l0_2 _ _ l0_3 a0_4 a0_5 a0_6 false _ ?side1 ?side2 ?side3 ?side4 A17.out).mono ?_); (case side1 => exact Kd.C_below HR0_2.out (pkW HB.out)); (case side2 => exact HC0_2.out); (case side3 => exact Kd.C_below HR0_3.out (pkW HB.out)); (case side4 => exact HC0_3.out); rintro e w27 ⟨rfl, hb⟩; refine ⟨_, rfl, ?_⟩; replace HO465 := am (Kd.R_below (by (with_reducible repeat (first | apply Kd.R_alloc | apply Kd.R_drewN | apply Kd.R_drew)); exact (Kd.R_mono (Kd.R_far (p := ⟨gb472, 6, none⟩) (Kd.R_far (p := ⟨gb472, 5, none⟩) (Kd.R_far (p := ⟨gb472, 4, none⟩) (Kd.R_far (p := ⟨gb472, 3, none⟩) (Kd.R_far (p := ⟨gb472, 2, none⟩) (Kd.R_far (p := ⟨gb472, 1, none⟩) (Kd.R_far (p := ⟨gb472, 0, none⟩) (Kd.R_types HO465.out BK472.out (by decide)) (fun _ hk => hk.2) (.bool t461)) (fun _ hk => hk.2) (.bool t462)) (fun _ hk => hk.2) (.slice Ao14 t463.length co14)) (fun _ hk => hk.2) (.slice Ao15 t466.length co15)) (fun _ hk => hk.2) (.int .i64 t469)) (fun _ hk => hk.2) (.int .i64 t470)) (fun _ hk => hk.2) (.int .i64 t471)) (fun _ h_ => h_.1))) hb); replace HO468 := am (Kd.R_below (by (with_reducible repeat (first | apply Kd.R_alloc | apply Kd.R_drewN | apply Kd.R_drew)); exact (Kd.R_mono (Kd.R_far (p := ⟨gb472, 6, none⟩) (Kd.R_far (p := ⟨gb472, 5, none⟩) (Kd.R_far (p := ⟨gb472, 4, none⟩) (Kd.R_far (p := ⟨gb472, 3, none⟩) (Kd.R_far (p := ⟨gb472, 2, none⟩) (Kd.R_far (p := ⟨gb472, 1, none⟩) (Kd.R_far (p := ⟨gb472, 0, none⟩) (Kd.R_types HO468.out BK472.out (by decide)) (fun _ hk => hk.2) (.bool t461)) (fun _ hk => hk.2) (.bool t462)) (fun _ hk => hk.2) (.slice Ao14 t463.length co14)) (fun _ hk => hk.2) (.slice Ao15 t466.length co15)) (fun _ hk => hk.2) (.int .i64 t469)) (fun _ hk => hk.2) (.int .i64 t470)) (fun _ hk => hk.2) (.int .i64 t471)) (fun _ h_ => h_.1))) hb); replace BK459 := am (blk_below (g := gb459) (o := .cells #[.bool a0_0, .bool a0_1, .slice A0_2 l0_2.length c0_2, .slice A0_3 l0_3.length c0_3, .int .i64 a0_4, .int .i64 a0_5, .int .i64 a0_6] 27 (0, 0)) (by (with_reducible repeat (first | refine blk_drewN ?_ _ | refine blk_drew ?_ | refine blk_alloc ?_ _)); refine blk_far ?_ NB459_472.out _; (with_reducible repeat (first | refine blk_drewN ?_ _ | refine blk_drew ?_ | refine blk_alloc ?_ _)); refine blk_far ?_ NB459_472.out _; (with_reducible repeat (first | refine blk_drewN ?_ _ | refine blk_drew ?_ | refine blk_alloc ?_ _)); refine blk_far ?_ NB459_472.out _; (with_reducible repeat (first | refine blk_drewN ?_ _ | refine blk_drew ?_ | refine blk_alloc ?_ _)); refine blk_far ?_ NB459_472.out _; (with_reducible repeat (first | refine blk_drewN ?_ _ | refine blk_drew ?_ | refine blk_alloc ?_ _)); refine blk_far ?_ NB459_472.out _; (with_reducible repeat (first | refine blk_drewN ?_ _ | refine blk_drew ?_ | refine blk_alloc ?_ _)); refine blk_far ?_ NB459_472.out _; (with_reducible repeat (first | refine blk_drewN ?_ _ | refine blk_drew ?_ | refine blk_alloc ?_ _)); refine blk_far ?_ NB459_472.out _; exact pkK BK459.out) hb); replace BK460 := am (blk_below (g := gb460) (o := .cells #[.bool false, .bool false, .slice none 0 0, .slice none 0 0, .int .i64 0, .int .i64 0, .int .i64 0] 27 (0, 0)) (by (with_reducible repeat (first | refine blk_drewN ?_ _ | refine blk_drew ?_ | refine blk_alloc ?_ _)); refine blk_far ?_ NB460_472.out _; (with_reducible repeat (first | refine blk_drewN ?_ _ | refine blk_drew ?_ | refine blk_alloc ?_ _)); refine blk_far ?_ NB460_472.out _; (with_reducible repeat (first | refine blk_drewN ?_ _ | refine blk_drew ?_ | refine blk_alloc ?_ _)); refine blk_far ?_ NB460_472.out _; (with_reducible repeat (first | refine blk_drewN ?_ _ | refine blk_drew ?_ | refine blk_alloc ?_ _)); refine blk_far ?_ NB460_472.out _; (with_reducible repeat (first | refine blk_drewN ?_ _ | refine blk_drew ?_ | refine blk_alloc ?_ _)); refine blk_far ?_ NB460_472.out _; (with_reducible repeat (first | refine blk_drewN ?_ _ | refine blk_drew ?_ | refine blk_alloc ?_ _)); refine blk_far ?_ NB460_472.out _; (with_reducible repeat (first | refine blk_drewN ?_ _ | refine blk_drew ?_ | refine blk_alloc ?_ _)); refine blk_far ?_ NB460_472.out _; exact pkK BK460.out) hb); replace BK472 := am (blk_below (g := gb472) (o := .cells #[.bool t461, .bool t462, .slice Ao14 t463.length co14, .slice Ao15 t466.length co15, .int .i64 t469, .int .i64 t470, .int .i64 t471] 27 (0, 0)) (by (with_reducible repeat (first | refine blk_drewN ?_ _ | refine blk_drew ?_ | refine blk_alloc ?_ _)); refine blk_put (cs := #[.bool t461, .bool t462, .slice Ao14 t463.length co14, .slice Ao15 t466.length co15, .int .i64 t469, .int .i64 t470, .int .i64 0]) ?_ 6 _ rfl; (with_reducible repeat (first | refine blk_drewN ?_ _ | refine blk_drew ?_ | refine blk_alloc ?_ _)); refine blk_put (cs := #[.bool t461, .bool t462, .slice Ao14 t463.length co14, .slice Ao15 t466.length co15, .int .i64 t469, .int .i64 0, .int .i64 0]) ?_ 5 _ rfl; (with_reducible repeat (first | refine blk_drewN ?_ _ | refine blk_drew ?_ | refine blk_alloc ?_ _)); refine blk_put (cs := #[.bool t461, .bool t462, .slice Ao14 t463.length co14, .slice Ao15 t466.length co15, .int .i64 0, .int .i64 0, .int .i64 0]) ?_ 4 _ rfl; (with_reducible repeat (first | refine blk_drewN ?_ _ | refine blk_drew ?_ | refine blk_alloc ?_ _)); refine blk_put (cs := #[.bool t461, .bool t462, .slice Ao14 t463.length co14, .slice none 0 0, .int .i64 0, .int .i64 0, .int .i64 0]) ?_ 3 _ rfl; (with_reducible repeat (first | refine blk_drewN ?_ _ | refine blk_drew ?_ | refine blk_alloc ?_ _)); refine blk_put (cs := #[.bool t461, .bool t462, .slice none 0 0, .slice none 0 0, .int .i64 0, .int .i64 0, .int .i64 0]) ?_ 2 _ rfl; (with_reducible repeat (first | refine blk_drewN ?_ _ | refine blk_drew ?_ | refine blk_alloc ?_ _)); refine blk_put (cs := #[.bool t461, .bool false, .slice none 0 0, .slice none 0 0, .int .i64 0, .int .i64 0, .int .i64 0]) ?_ 1 _ rfl; (with_reducible repeat (first | refine blk_drewN ?_ _ | refine blk_drew ?_ | refine blk_alloc ?_ _)); refine blk_put (cs := #[.bool false, .bool false, .slice none 0 0, .slice none 0 0, .int .i64 0, .int .i64 0, .int .i64 0]) ?_ 0 _ rfl; exact pkK BK472.out) hb); replace HB := am (below_step (pkW HB.out) hb); (try clear hb)))
    go_meet
    case rel => exact ⟨_, (true), rfx, H', ⟨by first | omega | exact Nat.le_refl _⟩, ⟨pkR HO465.out⟩, ⟨pkR HO468.out⟩, ⟨pkK BK459.out⟩, ⟨pkK BK460.out⟩, ⟨pkK BK472.out⟩, ⟨pkW HB.out⟩⟩
  case rest =>
   clear HC16
   try clear c1
   try clear c2
   try clear p2
   try clear c6
   try clear c7
   try clear c11
   try clear c12
   try clear c15
   try clear c18
   try clear c20
   try clear c21
   try clear c24
   try clear c25
   try clear hcz13_0
   try clear hcz13_1
   try clear hcz13_2
   try clear hcz13_3
   try clear hcz13_4
   try clear hcz13_5
   try clear hcz13_6
   try clear hcz22_0
   try clear hcz22_1
   try clear hcz22_2
   try clear hcz22_3
   try clear hcz22_4
   try clear hcz22_5
   try clear hcz22_6
   try clear hcz26_0
   try clear hcz26_1
   try clear hcz26_2
   try clear hcz26_3
   try clear hcz26_4
   try clear hcz26_5
   try clear hcz26_6
   try clear hcz8_0
   try clear hcz8_1
   try clear hcz8_2
   try clear hcz8_3
   try clear hcz8_4
   try clear hcz8_5
   try clear hcz8_6
   try clear hfz13_0
   try clear hfz13_1
   try clear hfz13_2
   try clear hfz13_3
   try clear hfz13_4
   try clear hfz13_5
   try clear hfz13_6
   try clear hfz22_0
   try clear hfz22_1
   try clear hfz22_2
   try clear hfz22_3
   try clear hfz22_4
   try clear hfz22_5
   try clear hfz22_6
   try clear hfz26_0
   try clear hfz26_1
   try clear hfz26_2
   try clear hfz26_3
   try clear hfz26_4
   try clear hfz26_5
   try clear hfz26_6
   try clear hfz8_0
   try clear hfz8_1
   try clear hfz8_2
   try clear hfz8_3
   try clear hfz8_4
   try clear hfz8_5
   try clear hfz8_6
   obtain ⟨kq, x9_15, rfl, HA, HJ15, HO_473002, HO_473003, BK459, BK460, BK472, HB⟩ := hcut
   cases kq with
   | zero => exact absurd HA.out (by simp [spec_Stand.j0])
   | succ kj15 =>
    have H := HA.out
    clear HA
    simp only [spec_Stand.j0] at H
    by_cases c28 : x9_15 = true
    ·subst c28
     replace H : (some (t461, t462, t463, t466, t469, t470, t471, 1)) = some (r1, r2, r3, r4, r5, r6, r7, r8) := by rw [if_pos rfl] at H; exact H
     simp only [Option.some.injEq, Prod.mk.injEq] at H
     obtain ⟨rfl, rfl, rfl, rfl, rfl, rfl, rfl, rfl⟩ := H
     have hnb29 := NB472_459.out
     have hnc29 := NB459_472.out
     have hnb30 := NB472_460.out
     have hnc30 := NB460_472.out
     obtain ⟨hcz31_0, hcz31_1, hcz31_2, hcz31_3, hcz31_4, hcz31_5, hcz31_6, hfz31_0, hfz31_1, hfz31_2, hfz31_3, hfz31_4, hfz31_5, hfz31_6⟩ := bk7 BK472.out
     have hnb32 := NB460_459.out
     have hnc32 := NB459_460.out
     obtain ⟨hcz33_0, hcz33_1, hcz33_2, hcz33_3, hcz33_4, hcz33_5, hcz33_6, hfz33_0, hfz33_1, hfz33_2, hfz33_3, hfz33_4, hfz33_5, hfz33_6⟩ := bk7 BK460.out
     go_wp2
     refine bodyPost_ret (results_ct rfl _ _ gb460 27 #[.bool t461, .bool t462, .slice Ao14 t463.length co14, .slice Ao15 t466.length co15, .int .i64 t469, .int .i64 t470, .int .i64 t471] (0, 0) _ rfl (by (with_reducible repeat (first | refine blk_drewN ?_ _ | refine blk_drew ?_ | refine blk_alloc ?_ _)); refine blk_put (cs := #[.bool t461, .bool t462, .slice Ao14 t463.length co14, .slice Ao15 t466.length co15, .int .i64 t469, .int .i64 t470, .int .i64 0]) ?_ 6 _ rfl; (with_reducible repeat (first | refine blk_drewN ?_ _ | refine blk_drew ?_ | refine blk_alloc ?_ _)); refine blk_put (cs := #[.bool t461, .bool t462, .slice Ao14 t463.length co14, .slice Ao15 t466.length co15, .int .i64 t469, .int .i64 0, .int .i64 0]) ?_ 5 _ rfl; (with_reducible repeat (first | refine blk_drewN ?_ _ | refine blk_drew ?_ | refine blk_alloc ?_ _)); refine blk_put (cs := #[.bool t461, .bool t462, .slice Ao14 t463.length co14, .slice Ao15 t466.length co15, .int .i64 0, .int .i64 0, .int .i64 0]) ?_ 4 _ rfl; (with_reducible repeat (first | refine blk_drewN ?_ _ | refine blk_drew ?_ | refine blk_alloc ?_ _)); refine blk_put (cs := #[.bool t461, .bool t462, .slice Ao14 t463.length co14, .slice none 0 0, .int .i64 0, .int .i64 0, .int .i64 0]) ?_ 3 _ rfl; (with_reducible repeat (first | refine blk_drewN ?_ _ | refine blk_drew ?_ | refine blk_alloc ?_ _)); refine blk_put (cs := #[.bool t461, .bool t462, .slice none 0 0, .slice none 0 0, .int .i64 0, .int .i64 0, .int .i64 0]) ?_ 2 _ rfl; (with_reducible repeat (first | refine blk_drewN ?_ _ | refine blk_drew ?_ | refine blk_alloc ?_ _)); refine blk_put (cs := #[.bool t461, .bool false, .slice none 0 0, .slice none 0 0, .int .i64 0, .int .i64 0, .int .i64 0]) ?_ 1 _ rfl; (with_reducible repeat (first | refine blk_drewN ?_ _ | refine blk_drew ?_ | refine blk_alloc ?_ _)); refine blk_put (cs := #[.bool false, .bool false, .slice none 0 0, .slice none 0 0, .int .i64 0, .int .i64 0, .int .i64 0]) ?_ 0 _ rfl; exact pkK BK460.out) Try.underlying27 rfl (by kernel_rfl)) rfl ?_
     exact ⟨_, _, rfe, by (with_reducible repeat (first | apply Kd.R_alloc | apply Kd.R_drewN | apply Kd.R_drew)); exact Kd.R_mono (Kd.R_far (p := ⟨gb460, 6, none⟩) (Kd.R_far (p := ⟨gb460, 5, none⟩) (Kd.R_far (p := ⟨gb460, 4, none⟩) (Kd.R_far (p := ⟨gb460, 3, none⟩) (Kd.R_far (p := ⟨gb460, 2, none⟩) (Kd.R_far (p := ⟨gb460, 1, none⟩) (Kd.R_far (p := ⟨gb460, 0, none⟩) (Kd.R_types HO_473002.out BK460.out (by decide)) (fun _ hk => hk.2) (.bool t461)) (fun _ hk => hk.2) (.bool t462)) (fun _ hk => hk.2) (.slice Ao14 t463.length co14)) (fun _ hk => hk.2) (.slice Ao15 t466.length co15)) (fun _ hk => hk.2) (.int .i64 t469)) (fun _ hk => hk.2) (.int .i64 t470)) (fun _ hk => hk.2) (.int .i64 t471)) (fun _ hk => hk.1), by (with_reducible repeat (first | apply Kd.R_alloc | apply Kd.R_drewN | apply Kd.R_drew)); exact Kd.R_mono (Kd.R_far (p := ⟨gb460, 6, none⟩) (Kd.R_far (p := ⟨gb460, 5, none⟩) (Kd.R_far (p := ⟨gb460, 4, none⟩) (Kd.R_far (p := ⟨gb460, 3, none⟩) (Kd.R_far (p := ⟨gb460, 2, none⟩) (Kd.R_far (p := ⟨gb460, 1, none⟩) (Kd.R_far (p := ⟨gb460, 0, none⟩) (Kd.R_types HO_473003.out BK460.out (by decide)) (fun _ hk => hk.2) (.bool t461)) (fun _ hk => hk.2) (.bool t462)) (fun _ hk => hk.2) (.slice Ao14 t463.length co14)) (fun _ hk => hk.2) (.slice Ao15 t466.length co15)) (fun _ hk => hk.2) (.int .i64 t469)) (fun _ hk => hk.2) (.int .i64 t470)) (fun _ hk => hk.2) (.int .i64 t471)) (fun _ hk => hk.1), pkW HB.out⟩
    ·replace c28 := Bool.eq_false_iff.mpr c28
     subst c28
     replace H : ((spec_l2Has.f kj15 l0_2 a1).bind fun t475 => (if t475 = true then (spec_Stand.j1 kj15 a1 true a0_0 a0_1 l0_2 l0_3 a0_4 a0_5 a0_6 t461 t462 t463 t466 t469 t470 t471) else ((spec_l2Has.f kj15 l0_3 a1).bind fun t476 => (spec_Stand.j1 kj15 a1 t476 a0_0 a0_1 l0_2 l0_3 a0_4 a0_5 a0_6 t461 t462 t463 t466 t469 t470 t471)))) = some (r1, r2, r3, r4, r5, r6, r7, r8) := by rw [if_neg (show ¬ (false = true) by decide)] at H; exact H
     have HC34 := am H
     clear H
     go_upto_region 4 with (fail)
     go_cut [19] (fun v19 wc => ∃ (kq : Nat) (x19_33 : Bool), v19 = .bool x19_33 ∧ Aside0 (spec_Stand.j1 kq a1 x19_33 a0_0 a0_1 l0_2 l0_3 a0_4 a0_5 a0_6 t461 t462 t463 t466 t469 t470 t471 = some (r1, r2, r3, r4, r5, r6, r7, r8)) ∧ Aside0 (kq ≤ kj15) ∧ Aside0 (Kd.R (Kd.int .i64) 3 wc w.heap.size (fun k_ => some k_ ≠ ((.slice Ao15 t466.length co15) : Value).ownBlock) (.slice Ao14 t463.length co14) t463) ∧ Aside0 (Kd.R (Kd.int .i64) 3 wc w.heap.size (fun k_ => some k_ ≠ ((.slice Ao14 t463.length co14) : Value).ownBlock) (.slice Ao15 t466.length co15) t466) ∧ Aside0 (wc.heap[gb459]? = some (.cells #[.bool a0_0, .bool a0_1, (.slice A0_2 l0_2.length c0_2), (.slice A0_3 l0_3.length c0_3), .int .i64 a0_4, .int .i64 a0_5, .int .i64 a0_6] 27 (0, 0))) ∧ Aside0 (wc.heap[gb460]? = some (.cells #[.bool false, .bool false, (.slice none 0 0), (.slice none 0 0), .int .i64 0, .int .i64 0, .int .i64 0] 27 (0, 0))) ∧ Aside0 (wc.heap[gb472]? = some (.cells #[.bool t461, .bool t462, (.slice Ao14 t463.length co14), (.slice Ao15 t466.length co15), .int .i64 t469, .int .i64 t470, .int .i64 t471] 27 (0, 0))) ∧ Aside0 (Below w.heap.size w wc))
     case first =>
      have H := HC34.out
      clear HC34
      replace H := Option.bind_eq_some_iff.mp H
      obtain ⟨t475, A350, H⟩ := H
      replace H : (if t475 = true then (spec_Stand.j1 kj15 a1 true a0_0 a0_1 l0_2 l0_3 a0_4 a0_5 a0_6 t461 t462 t463 t466 t469 t470 t471) else ((spec_l2Has.f kj15 l0_3 a1).bind fun t476 => (spec_Stand.j1 kj15 a1 t476 a0_0 a0_1 l0_2 l0_3 a0_4 a0_5 a0_6 t461 t462 t463 t466 t469 t470 t471))) = some (r1, r2, r3, r4, r5, r6, r7, r8) := H
      have A35 := am A350
      clear A350
      by_cases c36 : t475 = true
      ·subst c36
       replace H : (spec_Stand.j1 kj15 a1 true a0_0 a0_1 l0_2 l0_3 a0_4 a0_5 a0_6 t461 t462 t463 t466 t469 t470 t471) = some (r1, r2, r3, r4, r5, r6, r7, r8) := by rw [if_pos rfl] at H; exact H
       have H' := am H
       clear H
       have hnb37 := NB459_460.out
       have hnc37 := NB460_459.out
       have hnb38 := NB459_472.out
       have hnc38 := NB472_459.out
       obtain ⟨hcz39_0, hcz39_1, hcz39_2, hcz39_3, hcz39_4, hcz39_5, hcz39_6, hfz39_0, hfz39_1, hfz39_2, hfz39_3, hfz39_4, hfz39_5, hfz39_6⟩ := bk7 BK459.out
       go_wp2_with (first | ((with_reducible refine gate_callee (f := 60) rfl ?_); refine goesL_ (some 23) rfl rfl Try.func60 (by kernel_rfl) rfl #[.slice A0_2 l0_2.length c0_2, .int .i64 a1] rfl mpx ?_; (with_reducible refine (spec_l2Has.calls kj15 _ _ l0_2 a1 true _ ?side1 ?side2 A35.out).mono ?_); (case side1 => exact pkC (Kd.C_below HR0_2.out HB.out)); (case side2 => exact HC0_2.out); rintro e w' ⟨rfl, ⟨nd, rfl⟩⟩; refine ⟨_, rfl, ?_⟩))
       go_meet
       case rel => exact ⟨_, (true), rfx, H', ⟨by have := HJ15.out; first | omega | exact Nat.le_refl _⟩, ⟨pkR HO_473002.out⟩, ⟨pkR HO_473003.out⟩, ⟨pkK BK459.out⟩, ⟨pkK BK460.out⟩, ⟨pkK BK472.out⟩, ⟨pkW HB.out⟩⟩
      ·replace c36 := Bool.eq_false_iff.mpr c36
       subst c36
       replace H : ((spec_l2Has.f kj15 l0_3 a1).bind fun t476 => (spec_Stand.j1 kj15 a1 t476 a0_0 a0_1 l0_2 l0_3 a0_4 a0_5 a0_6 t461 t462 t463 t466 t469 t470 t471)) = some (r1, r2, r3, r4, r5, r6, r7, r8) := by rw [if_neg (show ¬ (false = true) by decide)] at H; exact H
       replace H := Option.bind_eq_some_iff.mp H
       obtain ⟨t476, A400, H⟩ := H
       replace H : (spec_Stand.j1 kj15 a1 t476 a0_0 a0_1 l0_2 l0_3 a0_4 a0_5 a0_6 t461 t462 t463 t466 t469 t470 t471) = some (r1, r2, r3, r4, r5, r6, r7, r8) := H
       have A40 := am A400
       clear A400
       have H' := am H
       clear H
       have hnb41 := NB459_460.out
       have hnc41 := NB460_459.out
       have hnb42 := NB459_472.out
       have hnc42 := NB472_459.out
       obtain ⟨hcz43_0, hcz43_1, hcz43_2, hcz43_3, hcz43_4, hcz43_5, hcz43_6, hfz43_0, hfz43_1, hfz43_2, hfz43_3, hfz43_4, hfz43_5, hfz43_6⟩ := bk7 BK459.out
       go_wp2_with (first | ((with_reducible refine gate_callee (f := 60) rfl ?_); refine goesL_ (some 23) rfl rfl Try.func60 (by kernel_rfl) rfl #[.slice A0_2 l0_2.length c0_2, .int .i64 a1] rfl mpx ?_; (with_reducible refine (spec_l2Has.calls kj15 _ _ l0_2 a1 false _ ?side1 ?side2 A35.out).mono ?_); (case side1 => exact pkC (Kd.C_below HR0_2.out HB.out)); (case side2 => exact HC0_2.out); rintro e w' ⟨rfl, ⟨nd, rfl⟩⟩; refine ⟨_, rfl, ?_⟩) | (go_at_call 60; (with_reducible refine (spec_l2Has.calls kj15 _ _ l0_3 a1 t476 _ ?side1 ?side2 A40.out).mono ?_); (case side1 => repeat (first | exact (Kd.C_below HR0_3.out (pkW HB.out)) | (with_reducible refine Kd.C_alloc ?_ _) | (with_reducible refine Kd.C_drewN ?_ _) | (with_reducible refine Kd.C_drew ?_))); (case side2 => exact HC0_3.out); rintro e w' ⟨rfl, ⟨nd, rfl⟩⟩))
       go_meet
       case rel => exact ⟨_, (t476), rfx, H', ⟨by have := HJ15.out; first | omega | exact Nat.le_refl _⟩, ⟨pkR HO_473002.out⟩, ⟨pkR HO_473003.out⟩, ⟨pkK BK459.out⟩, ⟨pkK BK460.out⟩, ⟨pkK BK472.out⟩, ⟨pkW HB.out⟩⟩
     case rest =>
      clear HC34
      try clear c1
      try clear c2
      try clear p2
      try clear c3
      try clear c4
      try clear c6
      try clear c7
      try clear c11
      try clear c12
      try clear c15
      try clear c18
      try clear c20
      try clear c21
      try clear c24
      try clear c25
      try clear c28
      try clear c29
      try clear c30
      try clear c32
      try clear c36
      try clear c37
      try clear c38
      try clear c41
      try clear c42
      try clear hcz13_0
      try clear hcz13_1
      try clear hcz13_2
      try clear hcz13_3
      try clear hcz13_4
      try clear hcz13_5
      try clear hcz13_6
      try clear hcz22_0
      try clear hcz22_1
      try clear hcz22_2
      try clear hcz22_3
      try clear hcz22_4
      try clear hcz22_5
      try clear hcz22_6
      try clear hcz26_0
      try clear hcz26_1
      try clear hcz26_2
      try clear hcz26_3
      try clear hcz26_4
      try clear hcz26_5
      try clear hcz26_6
      try clear hcz31_0
      try clear hcz31_1
      try clear hcz31_2
      try clear hcz31_3
      try clear hcz31_4
      try clear hcz31_5
      try clear hcz31_6
      try clear hcz33_0
      try clear hcz33_1
      try clear hcz33_2
      try clear hcz33_3
      try clear hcz33_4
      try clear hcz33_5
      try clear hcz33_6
      try clear hcz39_0
      try clear hcz39_1
      try clear hcz39_2
      try clear hcz39_3
      try clear hcz39_4
      try clear hcz39_5
      try clear hcz39_6
      try clear hcz43_0
      try clear hcz43_1
      try clear hcz43_2
      try clear hcz43_3
      try clear hcz43_4
      try clear hcz43_5
      try clear hcz43_6
      try clear hcz8_0
      try clear hcz8_1
      try clear hcz8_2
      try clear hcz8_3
      try clear hcz8_4
      try clear hcz8_5
      try clear hcz8_6
      try clear hfz13_0
      try clear hfz13_1
      try clear hfz13_2
      try clear hfz13_3
      try clear hfz13_4
      try clear hfz13_5
      try clear hfz13_6
      try clear hfz22_0
      try clear hfz22_1
      try clear hfz22_2
      try clear hfz22_3
      try clear hfz22_4
      try clear hfz22_5
      try clear hfz22_6
      try clear hfz26_0
      try clear hfz26_1
      try clear hfz26_2
      try clear hfz26_3
      try clear hfz26_4
      try clear hfz26_5
      try clear hfz26_6
      try clear hfz31_0
      try clear hfz31_1
      try clear hfz31_2
      try clear hfz31_3
      try clear hfz31_4
      try clear hfz31_5
      try clear hfz31_6
      try clear hfz33_0
      try clear hfz33_1
      try clear hfz33_2
      try clear hfz33_3
      try clear hfz33_4
      try clear hfz33_5
      try clear hfz33_6
      try clear hfz39_0
      try clear hfz39_1
      try clear hfz39_2
      try clear hfz39_3
      try clear hfz39_4
      try clear hfz39_5
      try clear hfz39_6
      try clear hfz43_0
      try clear hfz43_1
      try clear hfz43_2
      try clear hfz43_3
      try clear hfz43_4
      try clear hfz43_5
      try clear hfz43_6
      try clear hfz8_0
      try clear hfz8_1
      try clear hfz8_2
      try clear hfz8_3
      try clear hfz8_4
      try clear hfz8_5
      try clear hfz8_6
      try clear p2
      obtain ⟨kq, x19_33, rfl, HA, HJ33, HO_473002, HO_473003, BK459, BK460, BK472, HB⟩ := hcut
      cases kq with
      | zero => exact absurd HA.out (by simp [spec_Stand.j1])
      | succ kj33 =>
       have H := HA.out
       clear HA
       simp only [spec_Stand.j1] at H
       by_cases c44 : x19_33 = true
       ·subst c44
        replace H : (some (t461, t462, t463, t466, t469, t470, t471, 5)) = some (r1, r2, r3, r4, r5, r6, r7, r8) := by rw [if_pos rfl] at H; exact H
        simp only [Option.some.injEq, Prod.mk.injEq] at H
        obtain ⟨rfl, rfl, rfl, rfl, rfl, rfl, rfl, rfl⟩ := H
        have hnb45 := NB472_459.out
        have hnc45 := NB459_472.out
        have hnb46 := NB472_460.out
        have hnc46 := NB460_472.out
        obtain ⟨hcz47_0, hcz47_1, hcz47_2, hcz47_3, hcz47_4, hcz47_5, hcz47_6, hfz47_0, hfz47_1, hfz47_2, hfz47_3, hfz47_4, hfz47_5, hfz47_6⟩ := bk7 BK472.out
        have hnb48 := NB460_459.out
        have hnc48 := NB459_460.out
        obtain ⟨hcz49_0, hcz49_1, hcz49_2, hcz49_3, hcz49_4, hcz49_5, hcz49_6, hfz49_0, hfz49_1, hfz49_2, hfz49_3, hfz49_4, hfz49_5, hfz49_6⟩ := bk7 BK460.out
        go_wp2
        refine bodyPost_ret (results_ct rfl _ _ gb460 27 #[.bool t461, .bool t462, .slice Ao14 t463.length co14, .slice Ao15 t466.length co15, .int .i64 t469, .int .i64 t470, .int .i64 t471] (0, 0) _ rfl (by (with_reducible repeat (first | refine blk_drewN ?_ _ | refine blk_drew ?_ | refine blk_alloc ?_ _)); refine blk_put (cs := #[.bool t461, .bool t462, .slice Ao14 t463.length co14, .slice Ao15 t466.length co15, .int .i64 t469, .int .i64 t470, .int .i64 0]) ?_ 6 _ rfl; (with_reducible repeat (first | refine blk_drewN ?_ _ | refine blk_drew ?_ | refine blk_alloc ?_ _)); refine blk_put (cs := #[.bool t461, .bool t462, .slice Ao14 t463.length co14, .slice Ao15 t466.length co15, .int .i64 t469, .int .i64 0, .int .i64 0]) ?_ 5 _ rfl; (with_reducible repeat (first | refine blk_drewN ?_ _ | refine blk_drew ?_ | refine blk_alloc ?_ _)); refine blk_put (cs := #[.bool t461, .bool t462, .slice Ao14 t463.length co14, .slice Ao15 t466.length co15, .int .i64 0, .int .i64 0, .int .i64 0]) ?_ 4 _ rfl; (with_reducible repeat (first | refine blk_drewN ?_ _ | refine blk_drew ?_ | refine blk_alloc ?_ _)); refine blk_put (cs := #[.bool t461, .bool t462, .slice Ao14 t463.length co14, .slice none 0 0, .int .i64 0, .int .i64 0, .int .i64 0]) ?_ 3 _ rfl; (with_reducible repeat (first | refine blk_drewN ?_ _ | refine blk_drew ?_ | refine blk_alloc ?_ _)); refine blk_put (cs := #[.bool t461, .bool t462, .slice none 0 0, .slice none 0 0, .int .i64 0, .int .i64 0, .int .i64 0]) ?_ 2 _ rfl; (with_reducible repeat (first | refine blk_drewN ?_ _ | refine blk_drew ?_ | refine blk_alloc ?_ _)); refine blk_put (cs := #[.bool t461, .bool false, .slice none 0 0, .slice none 0 0, .int .i64 0, .int .i64 0, .int .i64 0]) ?_ 1 _ rfl; (with_reducible repeat (first | refine blk_drewN ?_ _ | refine blk_drew ?_ | refine blk_alloc ?_ _)); refine blk_put (cs := #[.bool false, .bool false, .slice none 0 0, .slice none 0 0, .int .i64 0, .int .i64 0, .int .i64 0]) ?_ 0 _ rfl; exact pkK BK460.out) Try.underlying27 rfl (by kernel_rfl)) rfl ?_
        exact ⟨_, _, rfe, by (with_reducible repeat (first | apply Kd.R_alloc | apply Kd.R_drewN | apply Kd.R_drew)); exact Kd.R_mono (Kd.R_far (p := ⟨gb460, 6, none⟩) (Kd.R_far (p := ⟨gb460, 5, none⟩) (Kd.R_far (p := ⟨gb460, 4, none⟩) (Kd.R_far (p := ⟨gb460, 3, none⟩) (Kd.R_far (p := ⟨gb460, 2, none⟩) (Kd.R_far (p := ⟨gb460, 1, none⟩) (Kd.R_far (p := ⟨gb460, 0, none⟩) (Kd.R_types HO_473002.out BK460.out (by decide)) (fun _ hk => hk.2) (.bool t461)) (fun _ hk => hk.2) (.bool t462)) (fun _ hk => hk.2) (.slice Ao14 t463.length co14)) (fun _ hk => hk.2) (.slice Ao15 t466.length co15)) (fun _ hk => hk.2) (.int .i64 t469)) (fun _ hk => hk.2) (.int .i64 t470)) (fun _ hk => hk.2) (.int .i64 t471)) (fun _ hk => hk.1), by (with_reducible repeat (first | apply Kd.R_alloc | apply Kd.R_drewN | apply Kd.R_drew)); exact Kd.R_mono (Kd.R_far (p := ⟨gb460, 6, none⟩) (Kd.R_far (p := ⟨gb460, 5, none⟩) (Kd.R_far (p := ⟨gb460, 4, none⟩) (Kd.R_far (p := ⟨gb460, 3, none⟩) (Kd.R_far (p := ⟨gb460, 2, none⟩) (Kd.R_far (p := ⟨gb460, 1, none⟩) (Kd.R_far (p := ⟨gb460, 0, none⟩) (Kd.R_types HO_473003.out BK460.out (by decide)) (fun _ hk => hk.2) (.bool t461)) (fun _ hk => hk.2) (.bool t462)) (fun _ hk => hk.2) (.slice Ao14 t463.length co14)) (fun _ hk => hk.2) (.slice Ao15 t466.length co15)) (fun _ hk => hk.2) (.int .i64 t469)) (fun _ hk => hk.2) (.int .i64 t470)) (fun _ hk => hk.2) (.int .i64 t471)) (fun _ hk => hk.1), pkW HB.out⟩
       ·replace c44 := Bool.eq_false_iff.mpr c44
        subst c44
        replace H : (if a0_0 = true then (if a0_6 ≥ 1000000000 then (some (t461, t462, t463, t466, t469, t470, t471, 2)) else (if a0_1 = true then (spec_Stand.j2 kj33 a1 a0_0 a0_1 l0_2 l0_3 a0_4 a0_5 a0_6 t461 t462 t463 t466 t469 t470 t471) else (if (l0_2.length : Int) ≥ 32 then (some (t461, t462, t463, t466, t469, t470, t471, 2)) else (spec_Stand.j2 kj33 a1 a0_0 a0_1 l0_2 l0_3 a0_4 a0_5 a0_6 t461 t462 t463 t466 t469 t470 t471)))) else (if a0_1 = true then (spec_Stand.j2 kj33 a1 a0_0 a0_1 l0_2 l0_3 a0_4 a0_5 a0_6 t461 t462 t463 t466 t469 t470 t471) else (if (l0_2.length : Int) ≥ 32 then (some (t461, t462, t463, t466, t469, t470, t471, 2)) else (spec_Stand.j2 kj33 a1 a0_0 a0_1 l0_2 l0_3 a0_4 a0_5 a0_6 t461 t462 t463 t466 t469 t470 t471)))) = some (r1, r2, r3, r4, r5, r6, r7, r8) := by rw [if_neg (show ¬ (false = true) by decide)] at H; exact H
        by_cases c50 : a0_0 = true
        ·subst c50
         replace H : (if a0_6 ≥ 1000000000 then (some (t461, t462, t463, t466, t469, t470, t471, 2)) else (if a0_1 = true then (spec_Stand.j2 kj33 a1 true a0_1 l0_2 l0_3 a0_4 a0_5 a0_6 t461 t462 t463 t466 t469 t470 t471) else (if (l0_2.length : Int) ≥ 32 then (some (t461, t462, t463, t466, t469, t470, t471, 2)) else (spec_Stand.j2 kj33 a1 true a0_1 l0_2 l0_3 a0_4 a0_5 a0_6 t461 t462 t463 t466 t469 t470 t471)))) = some (r1, r2, r3, r4, r5, r6, r7, r8) := by rw [if_pos rfl] at H; exact H
         by_cases c51 : a0_6 ≥ 1000000000
         ·rw [if_pos c51] at H
          have c51b0 : decide (1000000000 ≤ a0_6) = true := decide_eq_true c51
          clear c51
          simp only [Option.some.injEq, Prod.mk.injEq] at H
          obtain ⟨rfl, rfl, rfl, rfl, rfl, rfl, rfl, rfl⟩ := H
          have hnb52 := NB459_460.out
          have hnc52 := NB460_459.out
          have hnb53 := NB459_472.out
          have hnc53 := NB472_459.out
          obtain ⟨hcz54_0, hcz54_1, hcz54_2, hcz54_3, hcz54_4, hcz54_5, hcz54_6, hfz54_0, hfz54_1, hfz54_2, hfz54_3, hfz54_4, hfz54_5, hfz54_6⟩ := bk7 BK459.out
          have hnb55 := NB472_460.out
          have hnc55 := NB460_472.out
          obtain ⟨hcz56_0, hcz56_1, hcz56_2, hcz56_3, hcz56_4, hcz56_5, hcz56_6, hfz56_0, hfz56_1, hfz56_2, hfz56_3, hfz56_4, hfz56_5, hfz56_6⟩ := bk7 BK472.out
          obtain ⟨hcz57_0, hcz57_1, hcz57_2, hcz57_3, hcz57_4, hcz57_5, hcz57_6, hfz57_0, hfz57_1, hfz57_2, hfz57_3, hfz57_4, hfz57_5, hfz57_6⟩ := bk7 BK460.out
          go_wp2
          refine bodyPost_ret (results_ct rfl _ _ gb460 27 #[.bool t461, .bool t462, .slice Ao14 t463.length co14, .slice Ao15 t466.length co15, .int .i64 t469, .int .i64 t470, .int .i64 t471] (0, 0) _ rfl (by (with_reducible repeat (first | refine blk_drewN ?_ _ | refine blk_drew ?_ | refine blk_alloc ?_ _)); refine blk_put (cs := #[.bool t461, .bool t462, .slice Ao14 t463.length co14, .slice Ao15 t466.length co15, .int .i64 t469, .int .i64 t470, .int .i64 0]) ?_ 6 _ rfl; (with_reducible repeat (first | refine blk_drewN ?_ _ | refine blk_drew ?_ | refine blk_alloc ?_ _)); refine blk_put (cs := #[.bool t461, .bool t462, .slice Ao14 t463.length co14, .slice Ao15 t466.length co15, .int .i64 t469, .int .i64 0, .int .i64 0]) ?_ 5 _ rfl; (with_reducible repeat (first | refine blk_drewN ?_ _ | refine blk_drew ?_ | refine blk_alloc ?_ _)); refine blk_put (cs := #[.bool t461, .bool t462, .slice Ao14 t463.length co14, .slice Ao15 t466.length co15, .int .i64 0, .int .i64 0, .int .i64 0]) ?_ 4 _ rfl; (with_reducible repeat (first | refine blk_drewN ?_ _ | refine blk_drew ?_ | refine blk_alloc ?_ _)); refine blk_put (cs := #[.bool t461, .bool t462, .slice Ao14 t463.length co14, .slice none 0 0, .int .i64 0, .int .i64 0, .int .i64 0]) ?_ 3 _ rfl; (with_reducible repeat (first | refine blk_drewN ?_ _ | refine blk_drew ?_ | refine blk_alloc ?_ _)); refine blk_put (cs := #[.bool t461, .bool t462, .slice none 0 0, .slice none 0 0, .int .i64 0, .int .i64 0, .int .i64 0]) ?_ 2 _ rfl; (with_reducible repeat (first | refine blk_drewN ?_ _ | refine blk_drew ?_ | refine blk_alloc ?_ _)); refine blk_put (cs := #[.bool t461, .bool false, .slice none 0 0, .slice none 0 0, .int .i64 0, .int .i64 0, .int .i64 0]) ?_ 1 _ rfl; (with_reducible repeat (first | refine blk_drewN ?_ _ | refine blk_drew ?_ | refine blk_alloc ?_ _)); refine blk_put (cs := #[.bool false, .bool false, .slice none 0 0, .slice none 0 0, .int .i64 0, .int .i64 0, .int .i64 0]) ?_ 0 _ rfl; exact pkK BK460.out) Try.underlying27 rfl (by kernel_rfl)) rfl ?_
          exact ⟨_, _, rfe, by (with_reducible repeat (first | apply Kd.R_alloc | apply Kd.R_drewN | apply Kd.R_drew)); exact Kd.R_mono (Kd.R_far (p := ⟨gb460, 6, none⟩) (Kd.R_far (p := ⟨gb460, 5, none⟩) (Kd.R_far (p := ⟨gb460, 4, none⟩) (Kd.R_far (p := ⟨gb460, 3, none⟩) (Kd.R_far (p := ⟨gb460, 2, none⟩) (Kd.R_far (p := ⟨gb460, 1, none⟩) (Kd.R_far (p := ⟨gb460, 0, none⟩) (Kd.R_types HO_473002.out BK460.out (by decide)) (fun _ hk => hk.2) (.bool t461)) (fun _ hk => hk.2) (.bool t462)) (fun _ hk => hk.2) (.slice Ao14 t463.length co14)) (fun _ hk => hk.2) (.slice Ao15 t466.length co15)) (fun _ hk => hk.2) (.int .i64 t469)) (fun _ hk => hk.2) (.int .i64 t470)) (fun _ hk => hk.2) (.int .i64 t471)) (fun _ hk => hk.1), by (with_reducible repeat (first | apply Kd.R_alloc | apply Kd.R_drewN | apply Kd.R_drew)); exact Kd.R_mono (Kd.R_far (p := ⟨gb460, 6, none⟩) (Kd.R_far (p := ⟨gb460, 5, none⟩) (Kd.R_far (p := ⟨gb460, 4, none⟩) (Kd.R_far (p := ⟨gb460, 3, none⟩) (Kd.R_far (p := ⟨gb460, 2, none⟩) (Kd.R_far (p := ⟨gb460, 1, none⟩) (Kd.R_far (p := ⟨gb460, 0, none⟩) (Kd.R_types HO_473003.out BK460.out (by decide)) (fun _ hk => hk.2) (.bool t461)) (fun _ hk => hk.2) (.bool t462)) (fun _ hk => hk.2) (.slice Ao14 t463.length co14)) (fun _ hk => hk.2) (.slice Ao15 t466.length co15)) (fun _ hk => hk.2) (.int .i64 t469)) (fun _ hk => hk.2) (.int .i64 t470)) (fun _ hk => hk.2) (.int .i64 t471)) (fun _ hk => hk.1), pkW HB.out⟩
         ·rw [if_neg c51] at H
          have c51b0 : decide (1000000000 ≤ a0_6) = false := decide_eq_false c51
          clear c51
          by_cases c58 : a0_1 = true
          ·subst c58
           replace H : (spec_Stand.j2 kj33 a1 true true l0_2 l0_3 a0_4 a0_5 a0_6 t461 t462 t463 t466 t469 t470 t471) = some (r1, r2, r3, r4, r5, r6, r7, r8) := by rw [if_pos rfl] at H; exact H
           have H' := am H
           clear H
           have hnb59 := NB459_460.out
           have hnc59 := NB460_459.out
           have hnb60 := NB459_472.out
           have hnc60 := NB472_459.out
           obtain ⟨hcz61_0, hcz61_1, hcz61_2, hcz61_3, hcz61_4, hcz61_5, hcz61_6, hfz61_0, hfz61_1, hfz61_2, hfz61_3, hfz61_4, hfz61_5, hfz61_6⟩ := bk7 BK459.out
           go_wp2
           go_meet
           case rel => exact ⟨_, (false), (false), (0), (0), (0), H', ⟨by have := HJ15.out; have := HJ33.out; first | omega | exact Nat.le_refl _⟩, ⟨pkR HO_473002.out⟩, ⟨pkR HO_473003.out⟩, ⟨pkK BK459.out⟩, ⟨pkK BK460.out⟩, ⟨pkK BK472.out⟩, ⟨pkW HB.out⟩⟩
          ·replace c58 := Bool.eq_false_iff.mpr c58
           subst c58
           replace H : (if (l0_2.length : Int) ≥ 32 then (some (t461, t462, t463, t466, t469, t470, t471, 2)) else (spec_Stand.j2 kj33 a1 true false l0_2 l0_3 a0_4 a0_5 a0_6 t461 t462 t463 t466 t469 t470 t471)) = some (r1, r2, r3, r4, r5, r6, r7, r8) := by rw [if_neg (show ¬ (false = true) by decide)] at H; exact H
           by_cases c62 : (l0_2.length : Int) ≥ 32
           ·rw [if_pos c62] at H
            have c62b0 : decide (32 ≤ (l0_2.length : Int)) = true := decide_eq_true c62
            have c62b1 : decide (32 ≤ l0_2.length) = true := decide_eq_true (by omega)
            clear c62
            simp only [Option.some.injEq, Prod.mk.injEq] at H
            obtain ⟨rfl, rfl, rfl, rfl, rfl, rfl, rfl, rfl⟩ := H
            have hnb63 := NB459_460.out
            have hnc63 := NB460_459.out
            have hnb64 := NB459_472.out
            have hnc64 := NB472_459.out
            obtain ⟨hcz65_0, hcz65_1, hcz65_2, hcz65_3, hcz65_4, hcz65_5, hcz65_6, hfz65_0, hfz65_1, hfz65_2, hfz65_3, hfz65_4, hfz65_5, hfz65_6⟩ := bk7 BK459.out
            have hnb66 := NB472_460.out
            have hnc66 := NB460_472.out
            obtain ⟨hcz67_0, hcz67_1, hcz67_2, hcz67_3, hcz67_4, hcz67_5, hcz67_6, hfz67_0, hfz67_1, hfz67_2, hfz67_3, hfz67_4, hfz67_5, hfz67_6⟩ := bk7 BK472.out
            obtain ⟨hcz68_0, hcz68_1, hcz68_2, hcz68_3, hcz68_4, hcz68_5, hcz68_6, hfz68_0, hfz68_1, hfz68_2, hfz68_3, hfz68_4, hfz68_5, hfz68_6⟩ := bk7 BK460.out
            go_wp2
            refine bodyPost_ret (results_ct rfl _ _ gb460 27 #[.bool t461, .bool t462, .slice Ao14 t463.length co14, .slice Ao15 t466.length co15, .int .i64 t469, .int .i64 t470, .int .i64 t471] (0, 0) _ rfl (by (with_reducible repeat (first | refine blk_drewN ?_ _ | refine blk_drew ?_ | refine blk_alloc ?_ _)); refine blk_put (cs := #[.bool t461, .bool t462, .slice Ao14 t463.length co14, .slice Ao15 t466.length co15, .int .i64 t469, .int .i64 t470, .int .i64 0]) ?_ 6 _ rfl; (with_reducible repeat (first | refine blk_drewN ?_ _ | refine blk_drew ?_ | refine blk_alloc ?_ _)); refine blk_put (cs := #[.bool t461, .bool t462, .slice Ao14 t463.length co14, .slice Ao15 t466.length co15, .int .i64 t469, .int .i64 0, .int .i64 0]) ?_ 5 _ rfl; (with_reducible repeat (first | refine blk_drewN ?_ _ | refine blk_drew ?_ | refine blk_alloc ?_ _)); refine blk_put (cs := #[.bool t461, .bool t462, .slice Ao14 t463.length co14, .slice Ao15 t466.length co15, .int .i64 0, .int .i64 0, .int .i64 0]) ?_ 4 _ rfl; (with_reducible repeat (first | refine blk_drewN ?_ _ | refine blk_drew ?_ | refine blk_alloc ?_ _)); refine blk_put (cs := #[.bool t461, .bool t462, .slice Ao14 t463.length co14, .slice none 0 0, .int .i64 0, .int .i64 0, .int .i64 0]) ?_ 3 _ rfl; (with_reducible repeat (first | refine blk_drewN ?_ _ | refine blk_drew ?_ | refine blk_alloc ?_ _)); refine blk_put (cs := #[.bool t461, .bool t462, .slice none 0 0, .slice none 0 0, .int .i64 0, .int .i64 0, .int .i64 0]) ?_ 2 _ rfl; (with_reducible repeat (first | refine blk_drewN ?_ _ | refine blk_drew ?_ | refine blk_alloc ?_ _)); refine blk_put (cs := #[.bool t461, .bool false, .slice none 0 0, .slice none 0 0, .int .i64 0, .int .i64 0, .int .i64 0]) ?_ 1 _ rfl; (with_reducible repeat (first | refine blk_drewN ?_ _ | refine blk_drew ?_ | refine blk_alloc ?_ _)); refine blk_put (cs := #[.bool false, .bool false, .slice none 0 0, .slice none 0 0, .int .i64 0, .int .i64 0, .int .i64 0]) ?_ 0 _ rfl; exact pkK BK460.out) Try.underlying27 rfl (by kernel_rfl)) rfl ?_
            exact ⟨_, _, rfe, by (with_reducible repeat (first | apply Kd.R_alloc | apply Kd.R_drewN | apply Kd.R_drew)); exact Kd.R_mono (Kd.R_far (p := ⟨gb460, 6, none⟩) (Kd.R_far (p := ⟨gb460, 5, none⟩) (Kd.R_far (p := ⟨gb460, 4, none⟩) (Kd.R_far (p := ⟨gb460, 3, none⟩) (Kd.R_far (p := ⟨gb460, 2, none⟩) (Kd.R_far (p := ⟨gb460, 1, none⟩) (Kd.R_far (p := ⟨gb460, 0, none⟩) (Kd.R_types HO_473002.out BK460.out (by decide)) (fun _ hk => hk.2) (.bool t461)) (fun _ hk => hk.2) (.bool t462)) (fun _ hk => hk.2) (.slice Ao14 t463.length co14)) (fun _ hk => hk.2) (.slice Ao15 t466.length co15)) (fun _ hk => hk.2) (.int .i64 t469)) (fun _ hk => hk.2) (.int .i64 t470)) (fun _ hk => hk.2) (.int .i64 t471)) (fun _ hk => hk.1), by (with_reducible repeat (first | apply Kd.R_alloc | apply Kd.R_drewN | apply Kd.R_drew)); exact Kd.R_mono (Kd.R_far (p := ⟨gb460, 6, none⟩) (Kd.R_far (p := ⟨gb460, 5, none⟩) (Kd.R_far (p := ⟨gb460, 4, none⟩) (Kd.R_far (p := ⟨gb460, 3, none⟩) (Kd.R_far (p := ⟨gb460, 2, none⟩) (Kd.R_far (p := ⟨gb460, 1, none⟩) (Kd.R_far (p := ⟨gb460, 0, none⟩) (Kd.R_types HO_473003.out BK460.out (by decide)) (fun _ hk => hk.2) (.bool t461)) (fun _ hk => hk.2) (.bool t462)) (fun _ hk => hk.2) (.slice Ao14 t463.length co14)) (fun _ hk => hk.2) (.slice Ao15 t466.length co15)) (fun _ hk => hk.2) (.int .i64 t469)) (fun _ hk => hk.2) (.int .i64 t470)) (fun _ hk => hk.2) (.int .i64 t471)) (fun _ hk => hk.1), pkW HB.out⟩
           ·rw [if_neg c62] at H
            have c62b0 : decide (32 ≤ (l0_2.length : Int)) = false := decide_eq_false c62
            have c62b1 : decide (32 ≤ l0_2.length) = false := decide_eq_false (by omega)
            clear c62
            have H' := am H
            clear H
            have hnb69 := NB459_460.out
            have hnc69 := NB460_459.out
            have hnb70 := NB459_472.out
            have hnc70 := NB472_459.out
            obtain ⟨hcz71_0, hcz71_1, hcz71_2, hcz71_3, hcz71_4, hcz71_5, hcz71_6, hfz71_0, hfz71_1, hfz71_2, hfz71_3, hfz71_4, hfz71_5, hfz71_6⟩ := bk7 BK459.out
            go_wp2
            go_meet
            case rel => exact ⟨_, (false), (false), (0), (0), (0), H', ⟨by have := HJ15.out; have := HJ33.out; first | omega | exact Nat.le_refl _⟩, ⟨pkR HO_473002.out⟩, ⟨pkR HO_473003.out⟩, ⟨pkK BK459.out⟩, ⟨pkK BK460.out⟩, ⟨pkK BK472.out⟩, ⟨pkW HB.out⟩⟩
        ·replace c50 := Bool.eq_false_iff.mpr c50
         subst c50
         replace H : (if a0_1 = true then (spec_Stand.j2 kj33 a1 false a0_1 l0_2 l0_3 a0_4 a0_5 a0_6 t461 t462 t463 t466 t469 t470 t471) else (if (l0_2.length : Int) ≥ 32 then (some (t461, t462, t463, t466, t469, t470, t471, 2)) else (spec_Stand.j2 kj33 a1 false a0_1 l0_2 l0_3 a0_4 a0_5 a0_6 t461 t462 t463 t466 t469 t470 t471))) = some (r1, r2, r3, r4, r5, r6, r7, r8) := by rw [if_neg (show ¬ (false = true) by decide)] at H; exact H
         by_cases c72 : a0_1 = true
         ·subst c72
          replace H : (spec_Stand.j2 kj33 a1 false true l0_2 l0_3 a0_4 a0_5 a0_6 t461 t462 t463 t466 t469 t470 t471) = some (r1, r2, r3, r4, r5, r6, r7, r8) := by rw [if_pos rfl] at H; exact H
          have H' := am H
          clear H
          have hnb73 := NB459_460.out
          have hnc73 := NB460_459.out
          have hnb74 := NB459_472.out
          have hnc74 := NB472_459.out
          obtain ⟨hcz75_0, hcz75_1, hcz75_2, hcz75_3, hcz75_4, hcz75_5, hcz75_6, hfz75_0, hfz75_1, hfz75_2, hfz75_3, hfz75_4, hfz75_5, hfz75_6⟩ := bk7 BK459.out
          go_wp2
          go_meet
          case rel => exact ⟨_, (false), (false), (0), (0), (0), H', ⟨by have := HJ15.out; have := HJ33.out; first | omega | exact Nat.le_refl _⟩, ⟨pkR HO_473002.out⟩, ⟨pkR HO_473003.out⟩, ⟨pkK BK459.out⟩, ⟨pkK BK460.out⟩, ⟨pkK BK472.out⟩, ⟨pkW HB.out⟩⟩
         ·replace c72 := Bool.eq_false_iff.mpr c72
          subst c72
          replace H : (if (l0_2.length : Int) ≥ 32 then (some (t461, t462, t463, t466, t469, t470, t471, 2)) else (spec_Stand.j2 kj33 a1 false false l0_2 l0_3 a0_4 a0_5 a0_6 t461 t462 t463 t466 t469 t470 t471)) = some (r1, r2, r3, r4, r5, r6, r7, r8) := by rw [if_neg (show ¬ (false = true) by decide)] at H; exact H
          by_cases c76 : (l0_2.length : Int) ≥ 32
          ·rw [if_pos c76] at H
           have c76b0 : decide (32 ≤ (l0_2.length : Int)) = true := decide_eq_true c76
           have c76b1 : decide (32 ≤ l0_2.length) = true := decide_eq_true (by omega)
           clear c76
           simp only [Option.some.injEq, Prod.mk.injEq] at H
           obtain ⟨rfl, rfl, rfl, rfl, rfl, rfl, rfl, rfl⟩ := H
           have hnb77 := NB459_460.out
           have hnc77 := NB460_459.out
           have hnb78 := NB459_472.out
           have hnc78 := NB472_459.out
           obtain ⟨hcz79_0, hcz79_1, hcz79_2, hcz79_3, hcz79_4, hcz79_5, hcz79_6, hfz79_0, hfz79_1, hfz79_2, hfz79_3, hfz79_4, hfz79_5, hfz79_6⟩ := bk7 BK459.out
           have hnb80 := NB472_460.out
           have hnc80 := NB460_472.out
           obtain ⟨hcz81_0, hcz81_1, hcz81_2, hcz81_3, hcz81_4, hcz81_5, hcz81_6, hfz81_0, hfz81_1, hfz81_2, hfz81_3, hfz81_4, hfz81_5, hfz81_6⟩ := bk7 BK472.out
           obtain ⟨hcz82_0, hcz82_1, hcz82_2, hcz82_3, hcz82_4, hcz82_5, hcz82_6, hfz82_0, hfz82_1, hfz82_2, hfz82_3, hfz82_4, hfz82_5, hfz82_6⟩ := bk7 BK460.out
           go_wp2
           refine bodyPost_ret (results_ct rfl _ _ gb460 27 #[.bool t461, .bool t462, .slice Ao14 t463.length co14, .slice Ao15 t466.length co15, .int .i64 t469, .int .i64 t470, .int .i64 t471] (0, 0) _ rfl (by (with_reducible repeat (first | refine blk_drewN ?_ _ | refine blk_drew ?_ | refine blk_alloc ?_ _)); refine blk_put (cs := #[.bool t461, .bool t462, .slice Ao14 t463.length co14, .slice Ao15 t466.length co15, .int .i64 t469, .int .i64 t470, .int .i64 0]) ?_ 6 _ rfl; (with_reducible repeat (first | refine blk_drewN ?_ _ | refine blk_drew ?_ | refine blk_alloc ?_ _)); refine blk_put (cs := #[.bool t461, .bool t462, .slice Ao14 t463.length co14, .slice Ao15 t466.length co15, .int .i64 t469, .int .i64 0, .int .i64 0]) ?_ 5 _ rfl; (with_reducible repeat (first | refine blk_drewN ?_ _ | refine blk_drew ?_ | refine blk_alloc ?_ _)); refine blk_put (cs := #[.bool t461, .bool t462, .slice Ao14 t463.length co14, .slice Ao15 t466.length co15, .int .i64 0, .int .i64 0, .int .i64 0]) ?_ 4 _ rfl; (with_reducible repeat (first | refine blk_drewN ?_ _ | refine blk_drew ?_ | refine blk_alloc ?_ _)); refine blk_put (cs := #[.bool t461, .bool t462, .slice Ao14 t463.length co14, .slice none 0 0, .int .i64 0, .int .i64 0, .int .i64 0]) ?_ 3 _ rfl; (with_reducible repeat (first | refine blk_drewN ?_ _ | refine blk_drew ?_ | refine blk_alloc ?_ _)); refine blk_put (cs := #[.bool t461, .bool t462, .slice none 0 0, .slice none 0 0, .int .i64 0, .int .i64 0, .int .i64 0]) ?_ 2 _ rfl; (with_reducible repeat (first | refine blk_drewN ?_ _ | refine blk_drew ?_ | refine blk_alloc ?_ _)); refine blk_put (cs := #[.bool t461, .bool false, .slice none 0 0, .slice none 0 0, .int .i64 0, .int .i64 0, .int .i64 0]) ?_ 1 _ rfl; (with_reducible repeat (first | refine blk_drewN ?_ _ | refine blk_drew ?_ | refine blk_alloc ?_ _)); refine blk_put (cs := #[.bool false, .bool false, .slice none 0 0, .slice none 0 0, .int .i64 0, .int .i64 0, .int .i64 0]) ?_ 0 _ rfl; exact pkK BK460.out) Try.underlying27 rfl (by kernel_rfl)) rfl ?_
           exact ⟨_, _, rfe, by (with_reducible repeat (first | apply Kd.R_alloc | apply Kd.R_drewN | apply Kd.R_drew)); exact Kd.R_mono (Kd.R_far (p := ⟨gb460, 6, none⟩) (Kd.R_far (p := ⟨gb460, 5, none⟩) (Kd.R_far (p := ⟨gb460, 4, none⟩) (Kd.R_far (p := ⟨gb460, 3, none⟩) (Kd.R_far (p := ⟨gb460, 2, none⟩) (Kd.R_far (p := ⟨gb460, 1, none⟩) (Kd.R_far (p := ⟨gb460, 0, none⟩) (Kd.R_types HO_473002.out BK460.out (by decide)) (fun _ hk => hk.2) (.bool t461)) (fun _ hk => hk.2) (.bool t462)) (fun _ hk => hk.2) (.slice Ao14 t463.length co14)) (fun _ hk => hk.2) (.slice Ao15 t466.length co15)) (fun _ hk => hk.2) (.int .i64 t469)) (fun _ hk => hk.2) (.int .i64 t470)) (fun _ hk => hk.2) (.int .i64 t471)) (fun _ hk => hk.1), by (with_reducible repeat (first | apply Kd.R_alloc | apply Kd.R_drewN | apply Kd.R_drew)); exact Kd.R_mono (Kd.R_far (p := ⟨gb460, 6, none⟩) (Kd.R_far (p := ⟨gb460, 5, none⟩) (Kd.R_far (p := ⟨gb460, 4, none⟩) (Kd.R_far (p := ⟨gb460, 3, none⟩) (Kd.R_far (p := ⟨gb460, 2, none⟩) (Kd.R_far (p := ⟨gb460, 1, none⟩) (Kd.R_far (p := ⟨gb460, 0, none⟩) (Kd.R_types HO_473003.out BK460.out (by decide)) (fun _ hk => hk.2) (.bool t461)) (fun _ hk => hk.2) (.bool t462)) (fun _ hk => hk.2) (.slice Ao14 t463.length co14)) (fun _ hk => hk.2) (.slice Ao15 t466.length co15)) (fun _ hk => hk.2) (.int .i64 t469)) (fun _ hk => hk.2) (.int .i64 t470)) (fun _ hk => hk.2) (.int .i64 t471)) (fun _ hk => hk.1), pkW HB.out⟩
          ·rw [if_neg c76] at H
           have c76b0 : decide (32 ≤ (l0_2.length : Int)) = false := decide_eq_false c76
           have c76b1 : decide (32 ≤ l0_2.length) = false := decide_eq_false (by omega)
           clear c76
           have H' := am H
           clear H
           have hnb83 := NB459_460.out
           have hnc83 := NB460_459.out
           have hnb84 := NB459_472.out
           have hnc84 := NB472_459.out
           obtain ⟨hcz85_0, hcz85_1, hcz85_2, hcz85_3, hcz85_4, hcz85_5, hcz85_6, hfz85_0, hfz85_1, hfz85_2, hfz85_3, hfz85_4, hfz85_5, hfz85_6⟩ := bk7 BK459.out
           go_wp2
           go_meet
           case rel => exact ⟨_, (false), (false), (0), (0), (0), H', ⟨by have := HJ15.out; have := HJ33.out; first | omega | exact Nat.le_refl _⟩, ⟨pkR HO_473002.out⟩, ⟨pkR HO_473003.out⟩, ⟨pkK BK459.out⟩, ⟨pkK BK460.out⟩, ⟨pkK BK472.out⟩, ⟨pkW HB.out⟩⟩
 case rest =>
  clear HC4
  try clear c1
  try clear c2
  try clear p2
  try clear c3
  try clear c4
  try clear c5
  try clear c6
  try clear c7
  try clear c8
  try clear c11
  try clear c12
  try clear c15
  try clear c18
  try clear c20
  try clear c21
  try clear c24
  try clear c25
  try clear c28
  try clear c29
  try clear c30
  try clear c32
  try clear c36
  try clear c37
  try clear c38
  try clear c41
  try clear c42
  try clear c44
  try clear c45
  try clear c46
  try clear c48
  try clear c50
  try clear c51
  try clear c51b0
  try clear c52
  try clear c53
  try clear c55
  try clear c58
  try clear c59
  try clear c60
  try clear c62
  try clear c62b0
  try clear c62b1
  try clear c63
  try clear c64
  try clear c66
  try clear c69
  try clear c70
  try clear c72
  try clear c73
  try clear c74
  try clear c76
  try clear c76b0
  try clear c76b1
  try clear c77
  try clear c78
  try clear c80
  try clear c83
  try clear c84
  try clear hcz13_0
  try clear hcz13_1
  try clear hcz13_2
  try clear hcz13_3
  try clear hcz13_4
  try clear hcz13_5
  try clear hcz13_6
  try clear hcz22_0
  try clear hcz22_1
  try clear hcz22_2
  try clear hcz22_3
  try clear hcz22_4
  try clear hcz22_5
  try clear hcz22_6
  try clear hcz26_0
  try clear hcz26_1
  try clear hcz26_2
  try clear hcz26_3
  try clear hcz26_4
  try clear hcz26_5
  try clear hcz26_6
  try clear hcz31_0
  try clear hcz31_1
  try clear hcz31_2
  try clear hcz31_3
  try clear hcz31_4
  try clear hcz31_5
  try clear hcz31_6
  try clear hcz33_0
  try clear hcz33_1
  try clear hcz33_2
  try clear hcz33_3
  try clear hcz33_4
  try clear hcz33_5
  try clear hcz33_6
  try clear hcz39_0
  try clear hcz39_1
  try clear hcz39_2
  try clear hcz39_3
  try clear hcz39_4
  try clear hcz39_5
  try clear hcz39_6
  try clear hcz43_0
  try clear hcz43_1
  try clear hcz43_2
  try clear hcz43_3
  try clear hcz43_4
  try clear hcz43_5
  try clear hcz43_6
  try clear hcz47_0
  try clear hcz47_1
  try clear hcz47_2
  try clear hcz47_3
  try clear hcz47_4
  try clear hcz47_5
  try clear hcz47_6
  try clear hcz49_0
  try clear hcz49_1
  try clear hcz49_2
  try clear hcz49_3
  try clear hcz49_4
  try clear hcz49_5
  try clear hcz49_6
  try clear hcz54_0
  try clear hcz54_1
  try clear hcz54_2
  try clear hcz54_3
  try clear hcz54_4
  try clear hcz54_5
  try clear hcz54_6
  try clear hcz56_0
  try clear hcz56_1
  try clear hcz56_2
  try clear hcz56_3
  try clear hcz56_4
  try clear hcz56_5
  try clear hcz56_6
  try clear hcz57_0
  try clear hcz57_1
  try clear hcz57_2
  try clear hcz57_3
  try clear hcz57_4
  try clear hcz57_5
  try clear hcz57_6
  try clear hcz61_0
  try clear hcz61_1
  try clear hcz61_2
  try clear hcz61_3
  try clear hcz61_4
  try clear hcz61_5
  try clear hcz61_6
  try clear hcz65_0
  try clear hcz65_1
  try clear hcz65_2
  try clear hcz65_3
  try clear hcz65_4
  try clear hcz65_5
  try clear hcz65_6
  try clear hcz67_0
  try clear hcz67_1
  try clear hcz67_2
  try clear hcz67_3
  try clear hcz67_4
  try clear hcz67_5
  try clear hcz67_6
  try clear hcz68_0
  try clear hcz68_1
  try clear hcz68_2
  try clear hcz68_3
  try clear hcz68_4
  try clear hcz68_5
  try clear hcz68_6
  try clear hcz71_0
  try clear hcz71_1
  try clear hcz71_2
  try clear hcz71_3
  try clear hcz71_4
  try clear hcz71_5
  try clear hcz71_6
  try clear hcz75_0
  try clear hcz75_1
  try clear hcz75_2
  try clear hcz75_3
  try clear hcz75_4
  try clear hcz75_5
  try clear hcz75_6
  try clear hcz79_0
  try clear hcz79_1
  try clear hcz79_2
  try clear hcz79_3
  try clear hcz79_4
  try clear hcz79_5
  try clear hcz79_6
  try clear hcz81_0
  try clear hcz81_1
  try clear hcz81_2
  try clear hcz81_3
  try clear hcz81_4
  try clear hcz81_5
  try clear hcz81_6
  try clear hcz82_0
  try clear hcz82_1
  try clear hcz82_2
  try clear hcz82_3
  try clear hcz82_4
  try clear hcz82_5
  try clear hcz82_6
  try clear hcz85_0
  try clear hcz85_1
  try clear hcz85_2
  try clear hcz85_3
  try clear hcz85_4
  try clear hcz85_5
  try clear hcz85_6
  try clear hcz8_0
  try clear hcz8_1
  try clear hcz8_2
  try clear hcz8_3
  try clear hcz8_4
  try clear hcz8_5
  try clear hcz8_6
  try clear hfz13_0
  try clear hfz13_1
  try clear hfz13_2
  try clear hfz13_3
  try clear hfz13_4
  try clear hfz13_5
  try clear hfz13_6
  try clear hfz22_0
  try clear hfz22_1
  try clear hfz22_2
  try clear hfz22_3
  try clear hfz22_4
  try clear hfz22_5
  try clear hfz22_6
  try clear hfz26_0
  try clear hfz26_1
  try clear hfz26_2
  try clear hfz26_3
  try clear hfz26_4
  try clear hfz26_5
  try clear hfz26_6
  try clear hfz31_0
  try clear hfz31_1
  try clear hfz31_2
  try clear hfz31_3
  try clear hfz31_4
  try clear hfz31_5
  try clear hfz31_6
  try clear hfz33_0
  try clear hfz33_1
  try clear hfz33_2
  try clear hfz33_3
  try clear hfz33_4
  try clear hfz33_5
  try clear hfz33_6
  try clear hfz39_0
  try clear hfz39_1
  try clear hfz39_2
  try clear hfz39_3
  try clear hfz39_4
  try clear hfz39_5
  try clear hfz39_6
  try clear hfz43_0
  try clear hfz43_1
  try clear hfz43_2
  try clear hfz43_3
  try clear hfz43_4
  try clear hfz43_5
  try clear hfz43_6
  try clear hfz47_0
  try clear hfz47_1
  try clear hfz47_2
  try clear hfz47_3
  try clear hfz47_4
  try clear hfz47_5
  try clear hfz47_6
  try clear hfz49_0
  try clear hfz49_1
  try clear hfz49_2
  try clear hfz49_3
  try clear hfz49_4
  try clear hfz49_5
  try clear hfz49_6
  try clear hfz54_0
  try clear hfz54_1
  try clear hfz54_2
  try clear hfz54_3
  try clear hfz54_4
  try clear hfz54_5
  try clear hfz54_6
  try clear hfz56_0
  try clear hfz56_1
  try clear hfz56_2
  try clear hfz56_3
  try clear hfz56_4
  try clear hfz56_5
  try clear hfz56_6
  try clear hfz57_0
  try clear hfz57_1
  try clear hfz57_2
  try clear hfz57_3
  try clear hfz57_4
  try clear hfz57_5
  try clear hfz57_6
  try clear hfz61_0
  try clear hfz61_1
  try clear hfz61_2
  try clear hfz61_3
  try clear hfz61_4
  try clear hfz61_5
  try clear hfz61_6
  try clear hfz65_0
  try clear hfz65_1
  try clear hfz65_2
  try clear hfz65_3
  try clear hfz65_4
  try clear hfz65_5
  try clear hfz65_6
  try clear hfz67_0
  try clear hfz67_1
  try clear hfz67_2
  try clear hfz67_3
  try clear hfz67_4
  try clear hfz67_5
  try clear hfz67_6
  try clear hfz68_0
  try clear hfz68_1
  try clear hfz68_2
  try clear hfz68_3
  try clear hfz68_4
  try clear hfz68_5
  try clear hfz68_6
  try clear hfz71_0
  try clear hfz71_1
  try clear hfz71_2
  try clear hfz71_3
  try clear hfz71_4
  try clear hfz71_5
  try clear hfz71_6
  try clear hfz75_0
  try clear hfz75_1
  try clear hfz75_2
  try clear hfz75_3
  try clear hfz75_4
  try clear hfz75_5
  try clear hfz75_6
  try clear hfz79_0
  try clear hfz79_1
  try clear hfz79_2
  try clear hfz79_3
  try clear hfz79_4
  try clear hfz79_5
  try clear hfz79_6
  try clear hfz81_0
  try clear hfz81_1
  try clear hfz81_2
  try clear hfz81_3
  try clear hfz81_4
  try clear hfz81_5
  try clear hfz81_6
  try clear hfz82_0
  try clear hfz82_1
  try clear hfz82_2
  try clear hfz82_3
  try clear hfz82_4
  try clear hfz82_5
  try clear hfz82_6
  try clear hfz85_0
  try clear hfz85_1
  try clear hfz85_2
  try clear hfz85_3
  try clear hfz85_4
  try clear hfz85_5
  try clear hfz85_6
  try clear hfz8_0
  try clear hfz8_1
  try clear hfz8_2
  try clear hfz8_3
  try clear hfz8_4
  try clear hfz8_5
  try clear hfz8_6
  try clear p2
  obtain ⟨kq, x461000_3, x461001_3, x461004_3, x461005_3, x461006_3, HA, HJ3, HO_473002, HO_473003, BK459, BK460, BK472, HB⟩ := hcut
  cases kq with
  | zero => exact absurd HA.out (by simp [spec_Stand.j2])
  | succ kj3 =>
   have H := HA.out
   clear HA
   simp only [spec_Stand.j2] at H
   by_cases c86 : a0_1 = true
   ·subst c86
    replace H : (if a0_0 = true then (some (t461, false, t463, t466, t469, t470, wrap64 (t471 + 1), 0)) else (some (t461, t462, t463, t466, t469, t470, t471, 0))) = some (r1, r2, r3, r4, r5, r6, r7, r8) := by rw [if_pos rfl] at H; exact H
    by_cases c87 : a0_0 = true
    ·subst c87
     replace H : (some (t461, false, t463, t466, t469, t470, wrap64 (t471 + 1), 0)) = some (r1, r2, r3, r4, r5, r6, r7, r8) := by rw [if_pos rfl] at H; exact H
     simp only [Option.some.injEq, Prod.mk.injEq] at H
     obtain ⟨rfl, rfl, rfl, rfl, rfl, rfl, rfl, rfl⟩ := H
     have hnb88 := NB459_460.out
     have hnc88 := NB460_459.out
     have hnb89 := NB459_472.out
     have hnc89 := NB472_459.out
     obtain ⟨hcz90_0, hcz90_1, hcz90_2, hcz90_3, hcz90_4, hcz90_5, hcz90_6, hfz90_0, hfz90_1, hfz90_2, hfz90_3, hfz90_4, hfz90_5, hfz90_6⟩ := bk7 BK459.out
     have hnb91 := NB472_460.out
     have hnc91 := NB460_472.out
     obtain ⟨hcz92_0, hcz92_1, hcz92_2, hcz92_3, hcz92_4, hcz92_5, hcz92_6, hfz92_0, hfz92_1, hfz92_2, hfz92_3, hfz92_4, hfz92_5, hfz92_6⟩ := bk7 BK472.out
     obtain ⟨hcz93_0, hcz93_1, hcz93_2, hcz93_3, hcz93_4, hcz93_5, hcz93_6, hfz93_0, hfz93_1, hfz93_2, hfz93_3, hfz93_4, hfz93_5, hfz93_6⟩ := bk7 BK460.out
     go_wp2
     refine bodyPost_ret (results_ct rfl _ _ gb460 27 #[.bool t461, .bool false, .slice Ao14 t463.length co14, .slice Ao15 t466.length co15, .int .i64 t469, .int .i64 t470, .int .i64 (wrap64 (t471 + 1))] (0, 0) _ rfl (by (with_reducible repeat (first | refine blk_drewN ?_ _ | refine blk_drew ?_ | refine blk_alloc ?_ _)); refine blk_put (cs := #[.bool t461, .bool false, .slice Ao14 t463.length co14, .slice Ao15 t466.length co15, .int .i64 t469, .int .i64 t470, .int .i64 x461006_3]) ?_ 6 _ rfl; (with_reducible repeat (first | refine blk_drewN ?_ _ | refine blk_drew ?_ | refine blk_alloc ?_ _)); refine blk_put (cs := #[.bool t461, .bool false, .slice Ao14 t463.length co14, .slice Ao15 t466.length co15, .int .i64 t469, .int .i64 x461005_3, .int .i64 x461006_3]) ?_ 5 _ rfl; (with_reducible repeat (first | refine blk_drewN ?_ _ | refine blk_drew ?_ | refine blk_alloc ?_ _)); refine blk_put (cs := #[.bool t461, .bool false, .slice Ao14 t463.length co14, .slice Ao15 t466.length co15, .int .i64 x461004_3, .int .i64 x461005_3, .int .i64 x461006_3]) ?_ 4 _ rfl; (with_reducible repeat (first | refine blk_drewN ?_ _ | refine blk_drew ?_ | refine blk_alloc ?_ _)); refine blk_put (cs := #[.bool t461, .bool false, .slice Ao14 t463.length co14, .slice none 0 0, .int .i64 x461004_3, .int .i64 x461005_3, .int .i64 x461006_3]) ?_ 3 _ rfl; (with_reducible repeat (first | refine blk_drewN ?_ _ | refine blk_drew ?_ | refine blk_alloc ?_ _)); refine blk_put (cs := #[.bool t461, .bool false, .slice none 0 0, .slice none 0 0, .int .i64 x461004_3, .int .i64 x461005_3, .int .i64 x461006_3]) ?_ 2 _ rfl; (with_reducible repeat (first | refine blk_drewN ?_ _ | refine blk_drew ?_ | refine blk_alloc ?_ _)); refine blk_put (cs := #[.bool t461, .bool x461001_3, .slice none 0 0, .slice none 0 0, .int .i64 x461004_3, .int .i64 x461005_3, .int .i64 x461006_3]) ?_ 1 _ rfl; (with_reducible repeat (first | refine blk_drewN ?_ _ | refine blk_drew ?_ | refine blk_alloc ?_ _)); refine blk_put (cs := #[.bool x461000_3, .bool x461001_3, .slice none 0 0, .slice none 0 0, .int .i64 x461004_3, .int .i64 x461005_3, .int .i64 x461006_3]) ?_ 0 _ rfl; (with_reducible repeat (first | refine blk_drewN ?_ _ | refine blk_drew ?_ | refine blk_alloc ?_ _)); refine blk_far ?_ NB460_472.out _; (with_reducible repeat (first | refine blk_drewN ?_ _ | refine blk_drew ?_ | refine blk_alloc ?_ _)); refine blk_far ?_ NB460_472.out _; exact pkK BK460.out) Try.underlying27 rfl (by kernel_rfl)) rfl ?_
     exact ⟨_, _, rfe, by (with_reducible repeat (first | apply Kd.R_alloc | apply Kd.R_drewN | apply Kd.R_drew)); exact Kd.R_mono (Kd.R_far (p := ⟨gb460, 6, none⟩) (Kd.R_far (p := ⟨gb460, 5, none⟩) (Kd.R_far (p := ⟨gb460, 4, none⟩) (Kd.R_far (p := ⟨gb460, 3, none⟩) (Kd.R_far (p := ⟨gb460, 2, none⟩) (Kd.R_far (p := ⟨gb460, 1, none⟩) (Kd.R_far (p := ⟨gb460, 0, none⟩) (Kd.R_far (p := ⟨gb472, 6, none⟩) (Kd.R_far (p := ⟨gb472, 1, none⟩) (Kd.R_types (Kd.R_types HO_473002.out BK472.out (by decide)) BK460.out (by decide)) (fun _ hk => hk.1.2) (.bool false)) (fun _ hk => hk.1.2) (.int .i64 (wrap64 (t471 + 1)))) (fun _ hk => hk.2) (.bool t461)) (fun _ hk => hk.2) (.bool false)) (fun _ hk => hk.2) (.slice Ao14 t463.length co14)) (fun _ hk => hk.2) (.slice Ao15 t466.length co15)) (fun _ hk => hk.2) (.int .i64 t469)) (fun _ hk => hk.2) (.int .i64 t470)) (fun _ hk => hk.2) (.int .i64 (wrap64 (t471 + 1)))) (fun _ hk => hk.1.1), by (with_reducible repeat (first | apply Kd.R_alloc | apply Kd.R_drewN | apply Kd.R_drew)); exact Kd.R_mono (Kd.R_far (p := ⟨gb460, 6, none⟩) (Kd.R_far (p := ⟨gb460, 5, none⟩) (Kd.R_far (p := ⟨gb460, 4, none⟩) (Kd.R_far (p := ⟨gb460, 3, none⟩) (Kd.R_far (p := ⟨gb460, 2, none⟩) (Kd.R_far (p := ⟨gb460, 1, none⟩) (Kd.R_far (p := ⟨gb460, 0, none⟩) (Kd.R_far (p := ⟨gb472, 6, none⟩) (Kd.R_far (p := ⟨gb472, 1, none⟩) (Kd.R_types (Kd.R_types HO_473003.out BK472.out (by decide)) BK460.out (by decide)) (fun _ hk => hk.1.2) (.bool false)) (fun _ hk => hk.1.2) (.int .i64 (wrap64 (t471 + 1)))) (fun _ hk => hk.2) (.bool t461)) (fun _ hk => hk.2) (.bool false)) (fun _ hk => hk.2) (.slice Ao14 t463.length co14)) (fun _ hk => hk.2) (.slice Ao15 t466.length co15)) (fun _ hk => hk.2) (.int .i64 t469)) (fun _ hk => hk.2) (.int .i64 t470)) (fun _ hk => hk.2) (.int .i64 (wrap64 (t471 + 1)))) (fun _ hk => hk.1.1), pkW HB.out⟩
    ·replace c87 := Bool.eq_false_iff.mpr c87
     subst c87
     replace H : (some (t461, t462, t463, t466, t469, t470, t471, 0)) = some (r1, r2, r3, r4, r5, r6, r7, r8) := by rw [if_neg (show ¬ (false = true) by decide)] at H; exact H
     simp only [Option.some.injEq, Prod.mk.injEq] at H
     obtain ⟨rfl, rfl, rfl, rfl, rfl, rfl, rfl, rfl⟩ := H
     have hnb94 := NB459_460.out
     have hnc94 := NB460_459.out
     have hnb95 := NB459_472.out
     have hnc95 := NB472_459.out
     obtain ⟨hcz96_0, hcz96_1, hcz96_2, hcz96_3, hcz96_4, hcz96_5, hcz96_6, hfz96_0, hfz96_1, hfz96_2, hfz96_3, hfz96_4, hfz96_5, hfz96_6⟩ := bk7 BK459.out
     have hnb97 := NB472_460.out
     have hnc97 := NB460_472.out
     obtain ⟨hcz98_0, hcz98_1, hcz98_2, hcz98_3, hcz98_4, hcz98_5, hcz98_6, hfz98_0, hfz98_1, hfz98_2, hfz98_3, hfz98_4, hfz98_5, hfz98_6⟩ := bk7 BK472.out
     obtain ⟨hcz99_0, hcz99_1, hcz99_2, hcz99_3, hcz99_4, hcz99_5, hcz99_6, hfz99_0, hfz99_1, hfz99_2, hfz99_3, hfz99_4, hfz99_5, hfz99_6⟩ := bk7 BK460.out
     go_wp2
     refine bodyPost_ret (results_ct rfl _ _ gb460 27 #[.bool t461, .bool t462, .slice Ao14 t463.length co14, .slice Ao15 t466.length co15, .int .i64 t469, .int .i64 t470, .int .i64 t471] (0, 0) _ rfl (by (with_reducible repeat (first | refine blk_drewN ?_ _ | refine blk_drew ?_ | refine blk_alloc ?_ _)); refine blk_put (cs := #[.bool t461, .bool t462, .slice Ao14 t463.length co14, .slice Ao15 t466.length co15, .int .i64 t469, .int .i64 t470, .int .i64 x461006_3]) ?_ 6 _ rfl; (with_reducible repeat (first | refine blk_drewN ?_ _ | refine blk_drew ?_ | refine blk_alloc ?_ _)); refine blk_put (cs := #[.bool t461, .bool t462, .slice Ao14 t463.length co14, .slice Ao15 t466.length co15, .int .i64 t469, .int .i64 x461005_3, .int .i64 x461006_3]) ?_ 5 _ rfl; (with_reducible repeat (first | refine blk_drewN ?_ _ | refine blk_drew ?_ | refine blk_alloc ?_ _)); refine blk_put (cs := #[.bool t461, .bool t462, .slice Ao14 t463.length co14, .slice Ao15 t466.length co15, .int .i64 x461004_3, .int .i64 x461005_3, .int .i64 x461006_3]) ?_ 4 _ rfl; (with_reducible repeat (first | refine blk_drewN ?_ _ | refine blk_drew ?_ | refine blk_alloc ?_ _)); refine blk_put (cs := #[.bool t461, .bool t462, .slice Ao14 t463.length co14, .slice none 0 0, .int .i64 x461004_3, .int .i64 x461005_3, .int .i64 x461006_3]) ?_ 3 _ rfl; (with_reducible repeat (first | refine blk_drewN ?_ _ | refine blk_drew ?_ | refine blk_alloc ?_ _)); refine blk_put (cs := #[.bool t461, .bool t462, .slice none 0 0, .slice none 0 0, .int .i64 x461004_3, .int .i64 x461005_3, .int .i64 x461006_3]) ?_ 2 _ rfl; (with_reducible repeat (first | refine blk_drewN ?_ _ | refine blk_drew ?_ | refine blk_alloc ?_ _)); refine blk_put (cs := #[.bool t461, .bool x461001_3, .slice none 0 0, .slice none 0 0, .int .i64 x461004_3, .int .i64 x461005_3, .int .i64 x461006_3]) ?_ 1 _ rfl; (with_reducible repeat (first | refine blk_drewN ?_ _ | refine blk_drew ?_ | refine blk_alloc ?_ _)); refine blk_put (cs := #[.bool x461000_3, .bool x461001_3, .slice none 0 0, .slice none 0 0, .int .i64 x461004_3, .int .i64 x461005_3, .int .i64 x461006_3]) ?_ 0 _ rfl; exact pkK BK460.out) Try.underlying27 rfl (by kernel_rfl)) rfl ?_
     exact ⟨_, _, rfe, by (with_reducible repeat (first | apply Kd.R_alloc | apply Kd.R_drewN | apply Kd.R_drew)); exact Kd.R_mono (Kd.R_far (p := ⟨gb460, 6, none⟩) (Kd.R_far (p := ⟨gb460, 5, none⟩) (Kd.R_far (p := ⟨gb460, 4, none⟩) (Kd.R_far (p := ⟨gb460, 3, none⟩) (Kd.R_far (p := ⟨gb460, 2, none⟩) (Kd.R_far (p := ⟨gb460, 1, none⟩) (Kd.R_far (p := ⟨gb460, 0, none⟩) (Kd.R_types HO_473002.out BK460.out (by decide)) (fun _ hk => hk.2) (.bool t461)) (fun _ hk => hk.2) (.bool t462)) (fun _ hk => hk.2) (.slice Ao14 t463.length co14)) (fun _ hk => hk.2) (.slice Ao15 t466.length co15)) (fun _ hk => hk.2) (.int .i64 t469)) (fun _ hk => hk.2) (.int .i64 t470)) (fun _ hk => hk.2) (.int .i64 t471)) (fun _ hk => hk.1), by (with_reducible repeat (first | apply Kd.R_alloc | apply Kd.R_drewN | apply Kd.R_drew)); exact Kd.R_mono (Kd.R_far (p := ⟨gb460, 6, none⟩) (Kd.R_far (p := ⟨gb460, 5, none⟩) (Kd.R_far (p := ⟨gb460, 4, none⟩) (Kd.R_far (p := ⟨gb460, 3, none⟩) (Kd.R_far (p := ⟨gb460, 2, none⟩) (Kd.R_far (p := ⟨gb460, 1, none⟩) (Kd.R_far (p := ⟨gb460, 0, none⟩) (Kd.R_types HO_473003.out BK460.out (by decide)) (fun _ hk => hk.2) (.bool t461)) (fun _ hk => hk.2) (.bool t462)) (fun _ hk => hk.2) (.slice Ao14 t463.length co14)) (fun _ hk => hk.2) (.slice Ao15 t466.length co15)) (fun _ hk => hk.2) (.int .i64 t469)) (fun _ hk => hk.2) (.int .i64 t470)) (fun _ hk => hk.2) (.int .i64 t471)) (fun _ hk => hk.1), pkW HB.out⟩
   ·replace c86 := Bool.eq_false_iff.mpr c86
    subst c86
    replace H : (if t463.length < 17592186044416 then (some (t461, t462, (t463 ++ [a1]), t466, t469, t470, t471, 4)) else (none)) = some (r1, r2, r3, r4, r5, r6, r7, r8) := by rw [if_neg (show ¬ (false = true) by decide)] at H; exact H
    by_cases c100 : t463.length < 17592186044416
    ·rw [if_pos c100] at H
     have LMc100 := am c100
     clear c100
     obtain ⟨y477, hy477⟩ : ∃ y_ : List Int, y_ = (t463 ++ [a1]) := ⟨_, rfl⟩
     replace H : (some (t461, t462, y477, t466, t469, t470, t471, 4)) = some (r1, r2, r3, r4, r5, r6, r7, r8) := by first | (rw [hy477]; with_reducible exact H) | (have H2_ := (Option.bind_some _ _).symm.trans H; rw [hy477]; with_reducible exact H2_) | (have H2_ := (Option.bind_some _ _).symm.trans H; with_reducible exact H2_) | with_reducible exact H | (rw [hy477]; exact H) | exact H
     have Ny477 := am hy477
     clear hy477
     simp only [Option.some.injEq, Prod.mk.injEq] at H
     obtain ⟨rfl, rfl, rfl, rfl, rfl, rfl, rfl, rfl⟩ := H
     have hnb101 := NB459_460.out
     have hnc101 := NB460_459.out
     have hnb102 := NB459_472.out
     have hnc102 := NB472_459.out
     obtain ⟨hcz103_0, hcz103_1, hcz103_2, hcz103_3, hcz103_4, hcz103_5, hcz103_6, hfz103_0, hfz103_1, hfz103_2, hfz103_3, hfz103_4, hfz103_5, hfz103_6⟩ := bk7 BK459.out
     have hnb104 := NB472_460.out
     have hnc104 := NB460_472.out
     obtain ⟨hcz105_0, hcz105_1, hcz105_2, hcz105_3, hcz105_4, hcz105_5, hcz105_6, hfz105_0, hfz105_1, hfz105_2, hfz105_3, hfz105_4, hfz105_5, hfz105_6⟩ := bk7 BK472.out
     go_wp2_with (first | ((with_reducible refine gate_builtin (b := .append) (xs := #[.tmp 62, .tmp 64]) rfl ?_); (try (refine gate_guard (by rfl) ?_; dsimp only)); at_builtin; refine Kd.R_append (Kd.int .i64) (w0 := w) w.heap.size rfl (.tmp 62) (.tmp 64) 22 3 (.int .i64 0) 8 rfl Try.underlying22 info3 rfl (by decide) (by omega) (.slice Ao14 t463.length co14) t463 a1 [.int .i64 a1] (fun k_ => some k_ ≠ (.slice Ao15 t466.length co15 : Value).ownBlock) (fun _ => False) rfl rfl ?aP (fun _ hk => hk.elim) ?aF ?aO ?aB ?aS ?aL ?_; (case aP => exact rfl); (case aB => exact (pkW HB.out)); (case aF => exact (fun k_ hk => Kd.fresh' (Kd.R_lt (pkR HO_473003.out)) k_ hk)); (case aO => exact (pkR HO_473002.out)); (case aS => exact (below_size (pkW HB.out))); (case aL => have := LMc100.out; omega); intro v478 w106 ho hb hg hat; rw [← Ny477.out] at ho; replace HO_473003 := am (Kd.R_after (ok := (fun _ => True)) (by (with_reducible repeat (first | apply Kd.R_alloc | apply Kd.R_drewN | apply Kd.R_drew)); exact Kd.R_mono HO_473003.out (fun _ hk => ⟨trivial, hk⟩)) hg hat); replace BK459 := am (blk_grown (g := gb459) (o := .cells #[.bool a0_0, .bool false, .slice A0_2 l0_2.length c0_2, .slice A0_3 l0_3.length c0_3, .int .i64 a0_4, .int .i64 a0_5, .int .i64 a0_6] 27 (0, 0)) (pkK BK459.out) hg (Kd.R_ne HO_473002.out BK459.out (by decide))); replace BK460 := am (blk_grown (g := gb460) (o := .cells #[.bool x461000_3, .bool x461001_3, .slice none 0 0, .slice none 0 0, .int .i64 x461004_3, .int .i64 x461005_3, .int .i64 x461006_3] 27 (0, 0)) (pkK BK460.out) hg (Kd.R_ne HO_473002.out BK460.out (by decide))); replace BK472 := am (blk_grown (g := gb472) (o := .cells #[.bool t461, .bool t462, .slice Ao14 t463.length co14, .slice Ao15 t466.length co15, .int .i64 t469, .int .i64 t470, .int .i64 t471] 27 (0, 0)) (pkK BK472.out) hg (Kd.R_ne HO_473002.out BK472.out (by decide))); replace HB := am (hb); have HO479 := am (ho); clear HO_473002; clear ho hb hg hat; obtain ⟨Ao107, co107, eo107⟩ := Kd.R_slice HO479.out; subst eo107; obtain ⟨hcz108_0, hcz108_1, hcz108_2, hcz108_3, hcz108_4, hcz108_5, hcz108_6, hfz108_0, hfz108_1, hfz108_2, hfz108_3, hfz108_4, hfz108_5, hfz108_6⟩ := bk7 BK472.out; obtain ⟨hcz109_0, hcz109_1, hcz109_2, hcz109_3, hcz109_4, hcz109_5, hcz109_6, hfz109_0, hfz109_1, hfz109_2, hfz109_3, hfz109_4, hfz109_5, hfz109_6⟩ := bk7 BK460.out))
     refine bodyPost_ret (results_ct rfl _ _ gb460 27 #[.bool t461, .bool t462, .slice Ao107 y477.length co107, .slice Ao15 t466.length co15, .int .i64 t469, .int .i64 t470, .int .i64 t471] (0, 0) _ rfl (by (with_reducible repeat (first | refine blk_drewN ?_ _ | refine blk_drew ?_ | refine blk_alloc ?_ _)); refine blk_put (cs := #[.bool t461, .bool t462, .slice Ao107 y477.length co107, .slice Ao15 t466.length co15, .int .i64 t469, .int .i64 t470, .int .i64 x461006_3]) ?_ 6 _ rfl; (with_reducible repeat (first | refine blk_drewN ?_ _ | refine blk_drew ?_ | refine blk_alloc ?_ _)); refine blk_put (cs := #[.bool t461, .bool t462, .slice Ao107 y477.length co107, .slice Ao15 t466.length co15, .int .i64 t469, .int .i64 x461005_3, .int .i64 x461006_3]) ?_ 5 _ rfl; (with_reducible repeat (first | refine blk_drewN ?_ _ | refine blk_drew ?_ | refine blk_alloc ?_ _)); refine blk_put (cs := #[.bool t461, .bool t462, .slice Ao107 y477.length co107, .slice Ao15 t466.length co15, .int .i64 x461004_3, .int .i64 x461005_3, .int .i64 x461006_3]) ?_ 4 _ rfl; (with_reducible repeat (first | refine blk_drewN ?_ _ | refine blk_drew ?_ | refine blk_alloc ?_ _)); refine blk_put (cs := #[.bool t461, .bool t462, .slice Ao107 y477.length co107, .slice none 0 0, .int .i64 x461004_3, .int .i64 x461005_3, .int .i64 x461006_3]) ?_ 3 _ rfl; (with_reducible repeat (first | refine blk_drewN ?_ _ | refine blk_drew ?_ | refine blk_alloc ?_ _)); refine blk_put (cs := #[.bool t461, .bool t462, .slice none 0 0, .slice none 0 0, .int .i64 x461004_3, .int .i64 x461005_3, .int .i64 x461006_3]) ?_ 2 _ rfl; (with_reducible repeat (first | refine blk_drewN ?_ _ | refine blk_drew ?_ | refine blk_alloc ?_ _)); refine blk_put (cs := #[.bool t461, .bool x461001_3, .slice none 0 0, .slice none 0 0, .int .i64 x461004_3, .int .i64 x461005_3, .int .i64 x461006_3]) ?_ 1 _ rfl; (with_reducible repeat (first | refine blk_drewN ?_ _ | refine blk_drew ?_ | refine blk_alloc ?_ _)); refine blk_put (cs := #[.bool x461000_3, .bool x461001_3, .slice none 0 0, .slice none 0 0, .int .i64 x461004_3, .int .i64 x461005_3, .int .i64 x461006_3]) ?_ 0 _ rfl; (with_reducible repeat (first | refine blk_drewN ?_ _ | refine blk_drew ?_ | refine blk_alloc ?_ _)); refine blk_far ?_ NB460_472.out _; exact pkK BK460.out) Try.underlying27 rfl (by kernel_rfl)) rfl ?_
     exact ⟨_, _, rfe, by (with_reducible repeat (first | apply Kd.R_alloc | apply Kd.R_drewN | apply Kd.R_drew)); exact Kd.R_mono (Kd.R_far (p := ⟨gb460, 6, none⟩) (Kd.R_far (p := ⟨gb460, 5, none⟩) (Kd.R_far (p := ⟨gb460, 4, none⟩) (Kd.R_far (p := ⟨gb460, 3, none⟩) (Kd.R_far (p := ⟨gb460, 2, none⟩) (Kd.R_far (p := ⟨gb460, 1, none⟩) (Kd.R_far (p := ⟨gb460, 0, none⟩) (Kd.R_far (p := ⟨gb472, 2, none⟩) (Kd.R_types (Kd.R_types HO479.out BK472.out (by decide)) BK460.out (by decide)) (fun _ hk => hk.1.2) (.slice Ao107 y477.length co107)) (fun _ hk => hk.2) (.bool t461)) (fun _ hk => hk.2) (.bool t462)) (fun _ hk => hk.2) (.slice Ao107 y477.length co107)) (fun _ hk => hk.2) (.slice Ao15 t466.length co15)) (fun _ hk => hk.2) (.int .i64 t469)) (fun _ hk => hk.2) (.int .i64 t470)) (fun _ hk => hk.2) (.int .i64 t471)) (fun _ hk => hk.1.1), by (with_reducible repeat (first | apply Kd.R_alloc | apply Kd.R_drewN | apply Kd.R_drew)); exact Kd.R_mono (Kd.R_far (p := ⟨gb460, 6, none⟩) (Kd.R_far (p := ⟨gb460, 5, none⟩) (Kd.R_far (p := ⟨gb460, 4, none⟩) (Kd.R_far (p := ⟨gb460, 3, none⟩) (Kd.R_far (p := ⟨gb460, 2, none⟩) (Kd.R_far (p := ⟨gb460, 1, none⟩) (Kd.R_far (p := ⟨gb460, 0, none⟩) (Kd.R_far (p := ⟨gb472, 2, none⟩) (Kd.R_types (Kd.R_types HO_473003.out BK472.out (by decide)) BK460.out (by decide)) (fun _ hk => hk.1.2) (.slice Ao107 y477.length co107)) (fun _ hk => hk.2) (.bool t461)) (fun _ hk => hk.2) (.bool t462)) (fun _ hk => hk.2) (.slice Ao107 y477.length co107)) (fun _ hk => hk.2) (.slice Ao15 t466.length co15)) (fun _ hk => hk.2) (.int .i64 t469)) (fun _ hk => hk.2) (.int .i64 t470)) (fun _ hk => hk.2) (.int .i64 t471)) (fun _ hk => hk.1.1.2), pkW HB.out⟩
    ·rw [if_neg c100] at H
     exact absurd H (by simp)
end Go.Proofs.Ytdagpmnadapbjaa.Z
