/- The Go functions impl_Await as Lean functions, each with a proof that its code comes to just these answers; conditions: those of each theorem. -/
import Derived.Test.YtdagpmnadapbjaaZx0
import Derived.Test.YtdagpmnadapbjaaZx7
import Derived.Test.YtdagpmnadapbjaaZx17
import Derived.Test.YtdagpmnadapbjaaZx34
import Derived.Test.YtdagpmnadapbjaaZx45
namespace Go.Proofs.Ytdagpmnadapbjaa.Z
open Go.RowKit Go.Proofs.YtdagpmnadapbjaaW.PrintWords Go.Proofs.YtdagpmnadapbjaaW.PrintLast Go.Proofs.YtdagpmnadapbjaaW.PrintMore
attribute [local go_sem] max2_int min2_int max_two min_two max_three min_three max_four min_four   -- for this text's walks alone
set_option linter.unusedVariables false
set_option linter.unusedSimpArgs false
mutual
def impl_Await.j0 : Nat → Int → Bool → Bool → List Int → List (S67) → Int → Int → Int → Bool → List Int → List (S67) → Int → Int → Int → Option (Bool × List Int × (List (S67)) × Int × Int × Int × Int)
 | 0, _, _, _, _, _, _, _, _, _, _, _, _, _, _ => none
 | k + 1, x1, x9, x1365000, x1365001, x1365002, x1365003, x1365004, x1365005, x1377000, x1377001, x1377002, x1377003, x1377004, x1377005 => if x9 = true then (some (x1377000, x1377001, x1377002, x1377003, x1377004, x1377005, 1)) else ((slices_Contains_int_int.f k x1365001 x1).bind fun t1379 => (if t1379 = true then (impl_Await.j1 k x1 true x1365000 x1365001 x1365002 x1365003 x1365004 x1365005 x1377000 x1377001 x1377002 x1377003 x1377004 x1377005) else ((impl_grantAt.f k x1365002 x1).bind fun t1380 => (impl_Await.j1 k x1 (decide (t1380 ≥ 0)) x1365000 x1365001 x1365002 x1365003 x1365004 x1365005 x1377000 x1377001 x1377002 x1377003 x1377004 x1377005))))
def impl_Await.j1 : Nat → Int → Bool → Bool → List Int → List (S67) → Int → Int → Int → Bool → List Int → List (S67) → Int → Int → Int → Option (Bool × List Int × (List (S67)) × Int × Int × Int × Int)
 | 0, _, _, _, _, _, _, _, _, _, _, _, _, _, _ => none
 | k + 1, x1, x19, x1365000, x1365001, x1365002, x1365003, x1365004, x1365005, x1377000, x1377001, x1377002, x1377003, x1377004, x1377005 => if x19 = true then (some (x1377000, x1377001, x1377002, x1377003, x1377004, x1377005, 5)) else (if x1365005 = 1000000000 then (impl_Await.j2 k x1 true x1365000 x1365001 x1365002 x1365003 x1365004 x1365005 x1377000 x1377001 x1377002 x1377003 x1377004 x1377005) else (if x1365000 = true then (impl_Await.j2 k x1 false x1365000 x1365001 x1365002 x1365003 x1365004 x1365005 x1377000 x1377001 x1377002 x1377003 x1377004 x1377005) else (impl_Await.j2 k x1 ((x1365001.length : Int) == 32) x1365000 x1365001 x1365002 x1365003 x1365004 x1365005 x1377000 x1377001 x1377002 x1377003 x1377004 x1377005)))
def impl_Await.j2 : Nat → Int → Bool → Bool → List Int → List (S67) → Int → Int → Int → Bool → List Int → List (S67) → Int → Int → Int → Option (Bool × List Int × (List (S67)) × Int × Int × Int × Int)
 | 0, _, _, _, _, _, _, _, _, _, _, _, _, _, _ => none
 | k + 1, x1, x32, x1365000, x1365001, x1365002, x1365003, x1365004, x1365005, x1377000, x1377001, x1377002, x1377003, x1377004, x1377005 => if x32 = true then (some (x1377000, x1377001, x1377002, x1377003, x1377004, x1377005, 2)) else (if x1365000 = true then (some (false, x1377001, x1377002, x1377003, x1377004, wrap64 (x1377005 + 1), 0)) else (if x1377001.length < 17592186044416 then (some (x1377000, (x1377001 ++ [x1]), x1377002, x1377003, x1377004, x1377005, 4)) else (none)))
end
def impl_Await.f (k : Nat) (a0_0 : Bool) (l0_1 : List Int) (l0_2 : List (S67)) (a0_3 : Int) (a0_4 : Int) (a0_5 : Int) (a1 : Int) : Option (Bool × List Int × (List (S67)) × Int × Int × Int × Int) := (impl_copyNotify.f a0_0 l0_1 l0_2 a0_3 a0_4 a0_5).bind fun bt1366 => ((impl_NotifyOk.f k a0_0 l0_1 l0_2 a0_3 a0_4 a0_5).bind fun t1377 => (if t1377 = true then ((impl_isClient.f a1).bind fun t1378 => (impl_Await.j0 k a1 (!t1378) a0_0 l0_1 l0_2 a0_3 a0_4 a0_5 bt1366.1 bt1366.2.1 bt1366.2.2.1 bt1366.2.2.2.1 bt1366.2.2.2.2.1 bt1366.2.2.2.2.2)) else (impl_Await.j0 k a1 true a0_0 l0_1 l0_2 a0_3 a0_4 a0_5 bt1366.1 bt1366.2.1 bt1366.2.2.1 bt1366.2.2.2.1 bt1366.2.2.2.2.1 bt1366.2.2.2.2.2)))
theorem impl_Await.mono_l : ∀ k, (∀ y0 y1 y2 y3 y4 y5 y6 y7 y8 y9 y10 y11 y12 y13, LeO (impl_Await.j0 k y0 y1 y2 y3 y4 y5 y6 y7 y8 y9 y10 y11 y12 y13) (impl_Await.j0 (k + 1) y0 y1 y2 y3 y4 y5 y6 y7 y8 y9 y10 y11 y12 y13)) ∧ (∀ y0 y1 y2 y3 y4 y5 y6 y7 y8 y9 y10 y11 y12 y13, LeO (impl_Await.j1 k y0 y1 y2 y3 y4 y5 y6 y7 y8 y9 y10 y11 y12 y13) (impl_Await.j1 (k + 1) y0 y1 y2 y3 y4 y5 y6 y7 y8 y9 y10 y11 y12 y13)) ∧ (∀ y0 y1 y2 y3 y4 y5 y6 y7 y8 y9 y10 y11 y12 y13, LeO (impl_Await.j2 k y0 y1 y2 y3 y4 y5 y6 y7 y8 y9 y10 y11 y12 y13) (impl_Await.j2 (k + 1) y0 y1 y2 y3 y4 y5 y6 y7 y8 y9 y10 y11 y12 y13))
 | 0 => ⟨fun _ _ _ _ _ _ _ _ _ _ _ _ _ _ r h => by simp [impl_Await.j0] at h, fun _ _ _ _ _ _ _ _ _ _ _ _ _ _ r h => by simp [impl_Await.j1] at h, fun _ _ _ _ _ _ _ _ _ _ _ _ _ _ r h => by simp [impl_Await.j2] at h⟩
 | k + 1 => by
  obtain ⟨ih0, ih1, ih2⟩ := impl_Await.mono_l k
  refine ⟨?_, ?_, ?_⟩
  ·intro y0 y1 y2 y3 y4 y5 y6 y7 y8 y9 y10 y11 y12 y13
   unfold impl_Await.j0
   repeat' first
   | (with_reducible exact ih0 _ _ _ _ _ _ _ _ _ _ _ _ _ _)
   | (with_reducible exact ih1 _ _ _ _ _ _ _ _ _ _ _ _ _ _)
   | (with_reducible exact ih2 _ _ _ _ _ _ _ _ _ _ _ _ _ _)
   | (with_reducible exact impl_NotifyOk.mono _ _ _ _ _ _ _)
   | (with_reducible exact impl_grantAt.mono _ _ _)
   | (with_reducible exact slices_Contains_int_int.mono _ _ _)
   | (with_reducible exact LeO.refl _)
   | (with_reducible exact LeO.none _)
   | (with_reducible refine LeO.ite ?_ ?_)
   | (with_reducible refine LeO.bind ?_ (fun _ => ?_))
  ·intro y0 y1 y2 y3 y4 y5 y6 y7 y8 y9 y10 y11 y12 y13
   unfold impl_Await.j1
   repeat' first
   | (with_reducible exact ih0 _ _ _ _ _ _ _ _ _ _ _ _ _ _)
   | (with_reducible exact ih1 _ _ _ _ _ _ _ _ _ _ _ _ _ _)
   | (with_reducible exact ih2 _ _ _ _ _ _ _ _ _ _ _ _ _ _)
   | (with_reducible exact impl_NotifyOk.mono _ _ _ _ _ _ _)
   | (with_reducible exact impl_grantAt.mono _ _ _)
   | (with_reducible exact slices_Contains_int_int.mono _ _ _)
   | (with_reducible exact LeO.refl _)
   | (with_reducible exact LeO.none _)
   | (with_reducible refine LeO.ite ?_ ?_)
   | (with_reducible refine LeO.bind ?_ (fun _ => ?_))
  ·intro y0 y1 y2 y3 y4 y5 y6 y7 y8 y9 y10 y11 y12 y13
   unfold impl_Await.j2
   repeat' first
   | (with_reducible exact ih0 _ _ _ _ _ _ _ _ _ _ _ _ _ _)
   | (with_reducible exact ih1 _ _ _ _ _ _ _ _ _ _ _ _ _ _)
   | (with_reducible exact ih2 _ _ _ _ _ _ _ _ _ _ _ _ _ _)
   | (with_reducible exact impl_NotifyOk.mono _ _ _ _ _ _ _)
   | (with_reducible exact impl_grantAt.mono _ _ _)
   | (with_reducible exact slices_Contains_int_int.mono _ _ _)
   | (with_reducible exact LeO.refl _)
   | (with_reducible exact LeO.none _)
   | (with_reducible refine LeO.ite ?_ ?_)
   | (with_reducible refine LeO.bind ?_ (fun _ => ?_))
theorem impl_Await.mono : ∀ a0 a1 a2 a3 a4 a5 a6 k, LeO (impl_Await.f k a0 a1 a2 a3 a4 a5 a6) (impl_Await.f (k + 1) a0 a1 a2 a3 a4 a5 a6) := by
 intro a0 a1 a2 a3 a4 a5 a6 k
 obtain ⟨ih0, ih1, ih2⟩ := impl_Await.mono_l k
 unfold impl_Await.f
 repeat' first
   | (with_reducible exact ih0 _ _ _ _ _ _ _ _ _ _ _ _ _ _)
   | (with_reducible exact ih1 _ _ _ _ _ _ _ _ _ _ _ _ _ _)
   | (with_reducible exact ih2 _ _ _ _ _ _ _ _ _ _ _ _ _ _)
   | (with_reducible exact impl_NotifyOk.mono _ _ _ _ _ _ _)
   | (with_reducible exact impl_grantAt.mono _ _ _)
   | (with_reducible exact slices_Contains_int_int.mono _ _ _)
   | (with_reducible exact LeO.refl _)
   | (with_reducible exact LeO.none _)
   | (with_reducible refine LeO.ite ?_ ?_)
   | (with_reducible refine LeO.bind ?_ (fun _ => ?_))
set_option maxHeartbeats 8000000 in
set_option maxRecDepth 100000 in
theorem impl_Await.calls (k : Nat) (a0_0 : Bool) (A0_1 : Option Addr) (c0_1 : Nat) (l0_1 : List Int) (A0_2 : Option Addr) (c0_2 : Nat) (l0_2 : List (S67)) (a0_3 : Int) (a0_4 : Int) (a0_5 : Int) (a1 : Int) (r1 : Bool) (r2 : List Int) (r3 : List (S67)) (r4 : Int) (r5 : Int) (r6 : Int) (r7 : Int) (w : World) (hr0_1 : Kd.C (Kd.int .i64) w A0_1 l0_1.length l0_1) (hc0_1 : l0_1.length ≤ c0_1) (hr0_2 : Kd.C k67 w A0_2 l0_2.length l0_2) (hc0_2 : l0_2.length ≤ c0_2) (h : impl_Await.f k a0_0 l0_1 l0_2 a0_3 a0_4 a0_5 a1 = some (r1, r2, r3, r4, r5, r6, r7)) :
  Calls Try.prog 44 #[.agg #[.bool a0_0, .slice A0_1 l0_1.length c0_1, .slice A0_2 l0_2.length c0_2, .int .i64 a0_3, .int .i64 a0_4, .int .i64 a0_5], .int .i64 a1] w fun e w' => ∃ v1_ v2_ : Value, e = .returned (.tuple #[.agg #[.bool r1, v1_, v2_, .int .i64 r4, .int .i64 r5, .int .i64 r6], .int .i64 r7]) ∧ Kd.R (Kd.int .i64) 3 w' w.heap.size (fun _ => True) v1_ r2 ∧ Kd.R k67 67 w' w.heap.size (fun _ => True) v2_ r3 ∧ Below w.heap.size w w' := by
 have hu38 := Try.underlying38
 have HR0_1 := am hr0_1
 have HC0_1 := am hc0_1
 clear hr0_1 hc0_1
 have HR0_2 := am hr0_2
 have HC0_2 := am hc0_2
 clear hr0_2 hc0_2
 have HB := am (Below.refl w.heap.size w)
 have H : ((impl_copyNotify.f a0_0 l0_1 l0_2 a0_3 a0_4 a0_5).bind fun bt1366 => ((impl_NotifyOk.f k a0_0 l0_1 l0_2 a0_3 a0_4 a0_5).bind fun t1377 => (if t1377 = true then ((impl_isClient.f a1).bind fun t1378 => (impl_Await.j0 k a1 (!t1378) a0_0 l0_1 l0_2 a0_3 a0_4 a0_5 bt1366.1 bt1366.2.1 bt1366.2.2.1 bt1366.2.2.2.1 bt1366.2.2.2.2.1 bt1366.2.2.2.2.2)) else (impl_Await.j0 k a1 true a0_0 l0_1 l0_2 a0_3 a0_4 a0_5 bt1366.1 bt1366.2.1 bt1366.2.2.1 bt1366.2.2.2.1 bt1366.2.2.2.2.1 bt1366.2.2.2.2.2)))) = some (r1, r2, r3, r4, r5, r6, r7) := h
 clear h
 replace H := Option.bind_eq_some_iff.mp H
 obtain ⟨⟨t1366, t1367, t1370, t1373, t1374, t1375⟩, A30, H⟩ := H
 replace H : ((impl_NotifyOk.f k a0_0 l0_1 l0_2 a0_3 a0_4 a0_5).bind fun t1377 => (if t1377 = true then ((impl_isClient.f a1).bind fun t1378 => (impl_Await.j0 k a1 (!t1378) a0_0 l0_1 l0_2 a0_3 a0_4 a0_5 t1366 t1367 t1370 t1373 t1374 t1375)) else (impl_Await.j0 k a1 true a0_0 l0_1 l0_2 a0_3 a0_4 a0_5 t1366 t1367 t1370 t1373 t1374 t1375))) = some (r1, r2, r3, r4, r5, r6, r7) := H
 have A3 := am A30
 clear A30
 have HC4 := am H
 clear H
 go_enter Try.func44, Try.ntmps44
 go_upto_region 2 with (first | ((with_reducible refine gate_dst (N := 2) rfl ?_); (try (refine gate_guard (by rfl) ?_; dsimp only)); refine box_event ?hg (N := 2) ?hd (cs := #[.bool a0_0, .slice A0_1 l0_1.length c0_1, .slice A0_2 l0_2.length c0_2, .int .i64 a0_3, .int .i64 a0_4, .int .i64 a0_5]) (t := 38) ?hr ?_; (case hd => rfl); (case hg => rfl); (case hr => first | (go_simp; done) | (go_simp; rfl)); intro gb1364 hg w5 hbox hb; have BK1364 := am (hbox); have GW1364 := am ((by rw [hg]; exact (below_size (pkB HB.out)) : w.heap.size ≤ gb1364)); have GE1364 := am ((by rw [hg]; exact (below_size (pkB HB.out)) : w.heap.size ≤ gb1364)); replace HB := am (below_step (pkB HB.out) hb); clear hb hbox hg) | ((with_reducible refine gate_dst (N := 4) rfl ?_); (try (refine gate_guard (by rfl) ?_; dsimp only)); refine box_event ?hg (N := 4) ?hd (cs := #[.bool false, .slice none 0 0, .slice none 0 0, .int .i64 0, .int .i64 0, .int .i64 0]) (t := 38) ?hr ?_; (case hd => rfl); (case hg => rfl); (case hr => first | (go_simp; done) | (go_simp; rfl)); intro gb1365 hg w6 hbox hb; have BK1365 := am (hbox); have GW1365 := am ((by rw [hg]; exact (below_size (pkW HB.out)) : w.heap.size ≤ gb1365)); have GE1365 := am ((by rw [hg]; exact (below_size (pkW HB.out)) : w.heap.size ≤ gb1365)); replace HB := am (below_step (pkW HB.out) hb); have NB1364_1365 := am ((by rw [hg]; exact Nat.ne_of_lt (blk_lt (g := gb1364) (o := .cells #[.bool a0_0, .slice A0_1 l0_1.length c0_1, .slice A0_2 l0_2.length c0_2, .int .i64 a0_3, .int .i64 a0_4, .int .i64 a0_5] 38 (0, 0)) (pkK BK1364.out)) : gb1364 ≠ gb1365)); have NB1365_1364 := am ((by rw [hg]; exact Nat.ne_of_gt (blk_lt (g := gb1364) (o := .cells #[.bool a0_0, .slice A0_1 l0_1.length c0_1, .slice A0_2 l0_2.length c0_2, .int .i64 a0_3, .int .i64 a0_4, .int .i64 a0_5] 38 (0, 0)) (pkK BK1364.out)) : gb1365 ≠ gb1364)); replace BK1364 := am (blk_below (pkK BK1364.out) hb); clear hb hbox hg; have hnb7 := NB1364_1365.out; have hnc7 := NB1365_1364.out; obtain ⟨hcz8_0, hcz8_1, hcz8_2, hcz8_3, hcz8_4, hcz8_5, hfz8_0, hfz8_1, hfz8_2, hfz8_3, hfz8_4, hfz8_5⟩ := bk6 BK1364.out) | ((with_reducible refine gate_callee (f := 71) rfl ?_); refine goesL_ (some 8) rfl rfl Try.func71 (by kernel_rfl) rfl #[.agg #[.bool a0_0, .slice A0_1 l0_1.length c0_1, .slice A0_2 l0_2.length c0_2, .int .i64 a0_3, .int .i64 a0_4, .int .i64 a0_5]] rfl mpx ?_; (with_reducible refine (impl_copyNotify.calls a0_0 _ _ l0_1 _ _ l0_2 a0_3 a0_4 a0_5 t1366 t1367 t1370 t1373 t1374 t1375 _ ?side1 ?side2 ?side3 ?side4 A3.out).mono ?_); (case side1 => exact pkC (Kd.C_below HR0_1.out HB.out)); (case side2 => exact HC0_1.out); (case side3 => exact pkC (Kd.C_below HR0_2.out HB.out)); (case side4 => exact HC0_2.out); rintro e w9 ⟨v1368, v1371, rfl, ho0, ho1, hb⟩; refine ⟨_, rfl, ?_⟩; have HO1369 := am (Kd.R_lower ho0 (below_size (pkW HB.out))); have HO1372 := am (Kd.R_lower ho1 (below_size (pkW HB.out))); replace BK1364 := am (blk_below (pkK BK1364.out) hb); replace BK1365 := am (blk_below (pkK BK1365.out) hb); replace HB := am (below_step (pkW HB.out) hb); (try clear hb ho0 ho1)) | ((with_reducible refine gate_dst (N := 6) rfl ?_); (try (refine gate_guard (by rfl) ?_; dsimp only)); refine box_event ?hg (N := 6) ?hd (cs := #[.bool false, .slice none 0 0, .slice none 0 0, .int .i64 0, .int .i64 0, .int .i64 0]) (t := 38) ?hr ?_; (case hd => rfl); (case hg => rfl); (case hr => first | (go_simp; done) | (go_simp; rfl)); intro gb1376 hg w10 hbox hb; replace HO1369 := am (Kd.R_below (pkR HO1369.out) hb); replace HO1372 := am (Kd.R_below (pkR HO1372.out) hb); have BK1376 := am (hbox); have GW1376 := am ((by rw [hg]; exact (below_size (pkW HB.out)) : w.heap.size ≤ gb1376)); have GE1376 := am ((by rw [hg]; exact (below_size (pkW HB.out)) : w.heap.size ≤ gb1376)); replace HB := am (below_step (pkW HB.out) hb); have NB1364_1376 := am ((by rw [hg]; exact Nat.ne_of_lt (blk_lt (g := gb1364) (o := .cells #[.bool a0_0, .slice A0_1 l0_1.length c0_1, .slice A0_2 l0_2.length c0_2, .int .i64 a0_3, .int .i64 a0_4, .int .i64 a0_5] 38 (0, 0)) (pkK BK1364.out)) : gb1364 ≠ gb1376)); have NB1376_1364 := am ((by rw [hg]; exact Nat.ne_of_gt (blk_lt (g := gb1364) (o := .cells #[.bool a0_0, .slice A0_1 l0_1.length c0_1, .slice A0_2 l0_2.length c0_2, .int .i64 a0_3, .int .i64 a0_4, .int .i64 a0_5] 38 (0, 0)) (pkK BK1364.out)) : gb1376 ≠ gb1364)); replace BK1364 := am (blk_below (pkK BK1364.out) hb); have NB1365_1376 := am ((by rw [hg]; exact Nat.ne_of_lt (blk_lt (g := gb1365) (o := .cells #[.bool false, .slice none 0 0, .slice none 0 0, .int .i64 0, .int .i64 0, .int .i64 0] 38 (0, 0)) (pkK BK1365.out)) : gb1365 ≠ gb1376)); have NB1376_1365 := am ((by rw [hg]; exact Nat.ne_of_gt (blk_lt (g := gb1365) (o := .cells #[.bool false, .slice none 0 0, .slice none 0 0, .int .i64 0, .int .i64 0, .int .i64 0] 38 (0, 0)) (pkK BK1365.out)) : gb1376 ≠ gb1365)); replace BK1365 := am (blk_below (pkK BK1365.out) hb); clear hb hbox hg; have hnb11 := NB1376_1364.out; have hnc11 := NB1364_1376.out; have hnb12 := NB1376_1365.out; have hnc12 := NB1365_1376.out; obtain ⟨hcz13_0, hcz13_1, hcz13_2, hcz13_3, hcz13_4, hcz13_5, hfz13_0, hfz13_1, hfz13_2, hfz13_3, hfz13_4, hfz13_5⟩ := bk6 BK1376.out; obtain ⟨Ao14, co14, eo14⟩ := Kd.R_slice HO1369.out; subst eo14; obtain ⟨Ao15, co15, eo15⟩ := Kd.R_slice HO1372.out; subst eo15))
 (try simp only [Act.put, List.setIfInBounds_toArray, List.set_cons_zero, List.set_cons_succ])
 go_cut [9] (fun v9 wc => ∃ (kq : Nat) (x9_3 : Bool), v9 = .bool x9_3 ∧ Aside0 (impl_Await.j0 kq a1 x9_3 a0_0 l0_1 l0_2 a0_3 a0_4 a0_5 t1366 t1367 t1370 t1373 t1374 t1375 = some (r1, r2, r3, r4, r5, r6, r7)) ∧ Aside0 (kq ≤ k) ∧ Aside0 (Kd.R (Kd.int .i64) 3 wc w.heap.size (fun _ => True) (.slice Ao14 t1367.length co14) t1367) ∧ Aside0 (Kd.R k67 67 wc w.heap.size (fun _ => True) (.slice Ao15 t1370.length co15) t1370) ∧ Aside0 (wc.heap[gb1364]? = some (.cells #[.bool a0_0, (.slice A0_1 l0_1.length c0_1), (.slice A0_2 l0_2.length c0_2), .int .i64 a0_3, .int .i64 a0_4, .int .i64 a0_5] 38 (0, 0))) ∧ Aside0 (wc.heap[gb1365]? = some (.cells #[.bool false, (.slice none 0 0), (.slice none 0 0), .int .i64 0, .int .i64 0, .int .i64 0] 38 (0, 0))) ∧ Aside0 (wc.heap[gb1376]? = some (.cells #[.bool t1366, (.slice Ao14 t1367.length co14), (.slice Ao15 t1370.length co15), .int .i64 t1373, .int .i64 t1374, .int .i64 t1375] 38 (0, 0))) ∧ Aside0 (Below w.heap.size w wc))
 case first =>
  have H := HC4.out
  clear HC4
  replace H := Option.bind_eq_some_iff.mp H
  obtain ⟨t1377, A160, H⟩ := H
  replace H : (if t1377 = true then ((impl_isClient.f a1).bind fun t1378 => (impl_Await.j0 k a1 (!t1378) a0_0 l0_1 l0_2 a0_3 a0_4 a0_5 t1366 t1367 t1370 t1373 t1374 t1375)) else (impl_Await.j0 k a1 true a0_0 l0_1 l0_2 a0_3 a0_4 a0_5 t1366 t1367 t1370 t1373 t1374 t1375)) = some (r1, r2, r3, r4, r5, r6, r7) := H
  have A16 := am A160
  clear A160
  by_cases c17 : t1377 = true
  ·subst c17
   replace H : ((impl_isClient.f a1).bind fun t1378 => (impl_Await.j0 k a1 (!t1378) a0_0 l0_1 l0_2 a0_3 a0_4 a0_5 t1366 t1367 t1370 t1373 t1374 t1375)) = some (r1, r2, r3, r4, r5, r6, r7) := by rw [if_pos rfl] at H; exact H
   replace H := Option.bind_eq_some_iff.mp H
   obtain ⟨t1378, A180, H⟩ := H
   replace H : (impl_Await.j0 k a1 (!t1378) a0_0 l0_1 l0_2 a0_3 a0_4 a0_5 t1366 t1367 t1370 t1373 t1374 t1375) = some (r1, r2, r3, r4, r5, r6, r7) := H
   have A18 := am A180
   clear A180
   have H' := am H
   clear H
   have hnb19 := NB1364_1365.out
   have hnc19 := NB1365_1364.out
   have hnb20 := NB1364_1376.out
   have hnc20 := NB1376_1364.out
   obtain ⟨hcz21_0, hcz21_1, hcz21_2, hcz21_3, hcz21_4, hcz21_5, hfz21_0, hfz21_1, hfz21_2, hfz21_3, hfz21_4, hfz21_5⟩ := bk6 BK1364.out
   go_wp2_with (first | ((with_reducible refine gate_callee (f := 22) rfl ?_); refine goesL_ (some 11) rfl rfl Try.func22 (by kernel_rfl) rfl #[.agg #[.bool a0_0, .slice A0_1 l0_1.length c0_1, .slice A0_2 l0_2.length c0_2, .int .i64 a0_3, .int .i64 a0_4, .int .i64 a0_5]] rfl mpx ?_; (with_reducible refine (impl_NotifyOk.calls k a0_0 _ _ l0_1 _ _ l0_2 a0_3 a0_4 a0_5 true _ ?side1 ?side2 ?side3 ?side4 A16.out).mono ?_); (case side1 => exact Kd.C_below HR0_1.out (pkW HB.out)); (case side2 => exact HC0_1.out); (case side3 => exact Kd.C_below HR0_2.out (pkW HB.out)); (case side4 => exact HC0_2.out); rintro e w22 ⟨rfl, hb⟩; refine ⟨_, rfl, ?_⟩; replace HO1369 := am (Kd.R_below (by (with_reducible repeat (first | apply Kd.R_alloc | apply Kd.R_drewN | apply Kd.R_drew)); exact (Kd.R_mono (Kd.R_far (p := ⟨gb1376, 5, none⟩) (Kd.R_far (p := ⟨gb1376, 4, none⟩) (Kd.R_far (p := ⟨gb1376, 3, none⟩) (Kd.R_far (p := ⟨gb1376, 2, none⟩) (Kd.R_far (p := ⟨gb1376, 1, none⟩) (Kd.R_far (p := ⟨gb1376, 0, none⟩) (Kd.R_types HO1369.out BK1376.out (by decide)) (fun _ hk => hk.2) (.bool t1366)) (fun _ hk => hk.2) (.slice Ao14 t1367.length co14)) (fun _ hk => hk.2) (.slice Ao15 t1370.length co15)) (fun _ hk => hk.2) (.int .i64 t1373)) (fun _ hk => hk.2) (.int .i64 t1374)) (fun _ hk => hk.2) (.int .i64 t1375)) (fun _ h_ => h_.1))) hb); replace HO1372 := am (Kd.R_below (by (with_reducible repeat (first | apply Kd.R_alloc | apply Kd.R_drewN | apply Kd.R_drew)); exact (Kd.R_mono (Kd.R_far (p := ⟨gb1376, 5, none⟩) (Kd.R_far (p := ⟨gb1376, 4, none⟩) (Kd.R_far (p := ⟨gb1376, 3, none⟩) (Kd.R_far (p := ⟨gb1376, 2, none⟩) (Kd.R_far (p := ⟨gb1376, 1, none⟩) (Kd.R_far (p := ⟨gb1376, 0, none⟩) (Kd.R_types HO1372.out BK1376.out (by decide)) (fun _ hk => hk.2) (.bool t1366)) (fun _ hk => hk.2) (.slice Ao14 t1367.length co14)) (fun _ hk => hk.2) (.slice Ao15 t1370.length co15)) (fun _ hk => hk.2) (.int .i64 t1373)) (fun _ hk => hk.2) (.int .i64 t1374)) (fun _ hk => hk.2) (.int .i64 t1375)) (fun _ h_ => h_.1))) hb); replace BK1364 := am (blk_below (g := gb1364) (o := .cells #[.bool a0_0, .slice A0_1 l0_1.length c0_1, .slice A0_2 l0_2.length c0_2, .int .i64 a0_3, .int .i64 a0_4, .int .i64 a0_5] 38 (0, 0)) (by (with_reducible repeat (first | refine blk_drewN ?_ _ | refine blk_drew ?_ | refine blk_alloc ?_ _)); refine blk_far ?_ NB1364_1376.out _; (with_reducible repeat (first | refine blk_drewN ?_ _ | refine blk_drew ?_ | refine blk_alloc ?_ _)); refine blk_far ?_ NB1364_1376.out _; (with_reducible repeat (first | refine blk_drewN ?_ _ | refine blk_drew ?_ | refine blk_alloc ?_ _)); refine blk_far ?_ NB1364_1376.out _; (with_reducible repeat (first | refine blk_drewN ?_ _ | refine blk_drew ?_ | refine blk_alloc ?_ _)); refine blk_far ?_ NB1364_1376.out _; (with_reducible repeat (first | refine blk_drewN ?_ _ | refine blk_drew ?_ | refine blk_alloc ?_ _)); refine blk_far ?_ NB1364_1376.out _; (with_reducible repeat (first | refine blk_drewN ?_ _ | refine blk_drew ?_ | refine blk_alloc ?_ _)); refine blk_far ?_ NB1364_1376.out _; exact pkK BK1364.out) hb); replace BK1365 := am (blk_below (g := gb1365) (o := .cells #[.bool false, .slice none 0 0, .slice none 0 0, .int .i64 0, .int .i64 0, .int .i64 0] 38 (0, 0)) (by (with_reducible repeat (first | refine blk_drewN ?_ _ | refine blk_drew ?_ | refine blk_alloc ?_ _)); refine blk_far ?_ NB1365_1376.out _; (with_reducible repeat (first | refine blk_drewN ?_ _ | refine blk_drew ?_ | refine blk_alloc ?_ _)); refine blk_far ?_ NB1365_1376.out _; (with_reducible repeat (first | refine blk_drewN ?_ _ | refine blk_drew ?_ | refine blk_alloc ?_ _)); refine blk_far ?_ NB1365_1376.out _; (with_reducible repeat (first | refine blk_drewN ?_ _ | refine blk_drew ?_ | refine blk_alloc ?_ _)); refine blk_far ?_ NB1365_1376.out _; (with_reducible repeat (first | refine blk_drewN ?_ _ | refine blk_drew ?_ | refine blk_alloc ?_ _)); refine blk_far ?_ NB1365_1376.out _; (with_reducible repeat (first | refine blk_drewN ?_ _ | refine blk_drew ?_ | refine blk_alloc ?_ _)); refine blk_far ?_ NB1365_1376.out _; exact pkK BK1365.out) hb); replace BK1376 := am (blk_below (g := gb1376) (o := .cells #[.bool t1366, .slice Ao14 t1367.length co14, .slice Ao15 t1370.length co15, .int .i64 t1373, .int .i64 t1374, .int .i64 t1375] 38 (0, 0)) (by (with_reducible repeat (first | refine blk_drewN ?_ _ | refine blk_drew ?_ | refine blk_alloc ?_ _)); refine blk_put (cs := #[.bool t1366, .slice Ao14 t1367.length co14, .slice Ao15 t1370.length co15, .int .i64 t1373, .int .i64 t1374, .int .i64 0]) ?_ 5 _ rfl; (with_reducible repeat (first | refine blk_drewN ?_ _ | refine blk_drew ?_ | refine blk_alloc ?_ _)); refine blk_put (cs := #[.bool t1366, .slice Ao14 t1367.length co14, .slice Ao15 t1370.length co15, .int .i64 t1373, .int .i64 0, .int .i64 0]) ?_ 4 _ rfl; (with_reducible repeat (first | refine blk_drewN ?_ _ | refine blk_drew ?_ | refine blk_alloc ?_ _)); refine blk_put (cs := #[.bool t1366, .slice Ao14 t1367.length co14, .slice Ao15 t1370.length co15, .int .i64 0, .int .i64 0, .int .i64 0]) ?_ 3 _ rfl; (with_reducible repeat (first | refine blk_drewN ?_ _ | refine blk_drew ?_ | refine blk_alloc ?_ _)); refine blk_put (cs := #[.bool t1366, .slice Ao14 t1367.length co14, .slice none 0 0, .int .i64 0, .int .i64 0, .int .i64 0]) ?_ 2 _ rfl; (with_reducible repeat (first | refine blk_drewN ?_ _ | refine blk_drew ?_ | refine blk_alloc ?_ _)); refine blk_put (cs := #[.bool t1366, .slice none 0 0, .slice none 0 0, .int .i64 0, .int .i64 0, .int .i64 0]) ?_ 1 _ rfl; (with_reducible repeat (first | refine blk_drewN ?_ _ | refine blk_drew ?_ | refine blk_alloc ?_ _)); refine blk_put (cs := #[.bool false, .slice none 0 0, .slice none 0 0, .int .i64 0, .int .i64 0, .int .i64 0]) ?_ 0 _ rfl; exact pkK BK1376.out) hb); replace HB := am (below_step (pkW HB.out) hb); (try clear hb)) | (go_at_call 65; (with_reducible refine (impl_isClient.calls a1 t1378 _ A18.out).mono ?_); rintro e w' ⟨rfl, ⟨nd, rfl⟩⟩))
   go_meet
   case rel => exact ⟨_, (!t1378), rfx, H', ⟨by first | omega | exact Nat.le_refl _⟩, ⟨pkR HO1369.out⟩, ⟨pkR HO1372.out⟩, ⟨pkK BK1364.out⟩, ⟨pkK BK1365.out⟩, ⟨pkK BK1376.out⟩, ⟨pkW HB.out⟩⟩
  ·replace c17 := Bool.eq_false_iff.mpr c17
   subst c17
   replace H : (impl_Await.j0 k a1 true a0_0 l0_1 l0_2 a0_3 a0_4 a0_5 t1366 t1367 t1370 t1373 t1374 t1375) = some (r1, r2, r3, r4, r5, r6, r7) := by rw [if_neg (show ¬ (false = true) by decide)] at H; exact H
   have H' := am H
   clear H
   have hnb23 := NB1364_1365.out
   have hnc23 := NB1365_1364.out
   have hnb24 := NB1364_1376.out
   have hnc24 := NB1376_1364.out
   obtain ⟨hcz25_0, hcz25_1, hcz25_2, hcz25_3, hcz25_4, hcz25_5, hfz25_0, hfz25_1, hfz25_2, hfz25_3, hfz25_4, hfz25_5⟩ := bk6 BK1364.out
   go_wp2_with (first | ((with_reducible refine gate_callee (f := 22) rfl ?_); refine goesL_ (some 11) rfl rfl Try.func22 (by kernel_rfl) rfl #[.agg #[.bool a0_0, .slice A0_1 l0_1.length c0_1, .slice A0_2 l0_2.length c0_2, .int .i64 a0_3, .int .i64 a0_4, .int .i64 a0_5]] rfl mpx ?_; (with_reducible refine (impl_NotifyOk.calls k a0_0 _ _ l0_1 _ _ l0_2 a0_3 a0_4 a0_5 false _ ?side1 ?side2 ?side3 ?side4 A16.out).mono ?_); (case side1 => exact Kd.C_below HR0_1.out (pkW HB.out)); (case side2 => exact HC0_1.out); (case side3 => exact Kd.C_below HR0_2.out (pkW HB.out)); (case side4 => exact HC0_2.out); rintro e w26 ⟨rfl, hb⟩; refine ⟨_, rfl, ?_⟩; replace HO1369 := am (Kd.R_below (by (with_reducible repeat (first | apply Kd.R_alloc | apply Kd.R_drewN | apply Kd.R_drew)); exact (Kd.R_mono (Kd.R_far (p := ⟨gb1376, 5, none⟩) (Kd.R_far (p := ⟨gb1376, 4, none⟩) (Kd.R_far (p := ⟨gb1376, 3, none⟩) (Kd.R_far (p := ⟨gb1376, 2, none⟩) (Kd.R_far (p := ⟨gb1376, 1, none⟩) (Kd.R_far (p := ⟨gb1376, 0, none⟩) (Kd.R_types HO1369.out BK1376.out (by decide)) (fun _ hk => hk.2) (.bool t1366)) (fun _ hk => hk.2) (.slice Ao14 t1367.length co14)) (fun _ hk => hk.2) (.slice Ao15 t1370.length co15)) (fun _ hk => hk.2) (.int .i64 t1373)) (fun _ hk => hk.2) (.int .i64 t1374)) (fun _ hk => hk.2) (.int .i64 t1375)) (fun _ h_ => h_.1))) hb); replace HO1372 := am (Kd.R_below (by (with_reducible repeat (first | apply Kd.R_alloc | apply Kd.R_drewN | apply Kd.R_drew)); exact (Kd.R_mono (Kd.R_far (p := ⟨gb1376, 5, none⟩) (Kd.R_far (p := ⟨gb1376, 4, none⟩) (Kd.R_far (p := ⟨gb1376, 3, none⟩) (Kd.R_far (p := ⟨gb1376, 2, none⟩) (Kd.R_far (p := ⟨gb1376, 1, none⟩) (Kd.R_far (p := ⟨gb1376, 0, none⟩) (Kd.R_types HO1372.out BK1376.out (by decide)) (fun _ hk => hk.2) (.bool t1366)) (fun _ hk => hk.2) (.slice Ao14 t1367.length co14)) (fun _ hk => hk.2) (.slice Ao15 t1370.length co15)) (fun _ hk => hk.2) (.int .i64 t1373)) (fun _ hk => hk.2) (.int .i64 t1374)) (fun _ hk => hk.2) (.int .i64 t1375)) (fun _ h_ => h_.1))) hb); replace BK1364 := am (blk_below (g := gb1364) (o := .cells #[.bool a0_0, .slice A0_1 l0_1.length c0_1, .slice A0_2 l0_2.length c0_2, .int .i64 a0_3, .int .i64 a0_4, .int .i64 a0_5] 38 (0, 0)) (by (with_reducible repeat (first | refine blk_drewN ?_ _ | refine blk_drew ?_ | refine blk_alloc ?_ _)); refine blk_far ?_ NB1364_1376.out _; (with_reducible repeat (first | refine blk_drewN ?_ _ | refine blk_drew ?_ | refine blk_alloc ?_ _)); refine blk_far ?_ NB1364_1376.out _; (with_reducible repeat (first | refine blk_drewN ?_ _ | refine blk_drew ?_ | refine blk_alloc ?_ _)); refine blk_far ?_ NB1364_1376.out _; (with_reducible repeat (first | refine blk_drewN ?_ _ | refine blk_drew ?_ | refine blk_alloc ?_ _)); refine blk_far ?_ NB1364_1376.out _; (with_reducible repeat (first | refine blk_drewN ?_ _ | refine blk_drew ?_ | refine blk_alloc ?_ _)); refine blk_far ?_ NB1364_1376.out _; (with_reducible repeat (first | refine blk_drewN ?_ _ | refine blk_drew ?_ | refine blk_alloc ?_ _)); refine blk_far ?_ NB1364_1376.out _; exact pkK BK1364.out) hb); replace BK1365 := am (blk_below (g := gb1365) (o := .cells #[.bool false, .slice none 0 0, .slice none 0 0, .int .i64 0, .int .i64 0, .int .i64 0] 38 (0, 0)) (by (with_reducible repeat (first | refine blk_drewN ?_ _ | refine blk_drew ?_ | refine blk_alloc ?_ _)); refine blk_far ?_ NB1365_1376.out _; (with_reducible repeat (first | refine blk_drewN ?_ _ | refine blk_drew ?_ | refine blk_alloc ?_ _)); refine blk_far ?_ NB1365_1376.out _; (with_reducible repeat (first | refine blk_drewN ?_ _ | refine blk_drew ?_ | refine blk_alloc ?_ _)); refine blk_far ?_ NB1365_1376.out _; (with_reducible repeat (first | refine blk_drewN ?_ _ | refine blk_drew ?_ | refine blk_alloc ?_ _)); refine blk_far ?_ NB1365_1376.out _; (with_reducible repeat (first | refine blk_drewN ?_ _ | refine blk_drew ?_ | refine blk_alloc ?_ _)); refine blk_far ?_ NB1365_1376.out _; (with_reducible repeat (first | refine blk_drewN ?_ _ | refine blk_drew ?_ | refine blk_alloc ?_ _)); refine blk_far ?_ NB1365_1376.out _; exact pkK BK1365.out) hb); replace BK1376 := am (blk_below (g := gb1376) (o := .cells #[.bool t1366, .slice Ao14 t1367.length co14, .slice Ao15 t1370.length co15, .int .i64 t1373, .int .i64 t1374, .int .i64 t1375] 38 (0, 0)) (by (with_reducible repeat (first | refine blk_drewN ?_ _ | refine blk_drew ?_ | refine blk_alloc ?_ _)); refine blk_put (cs := #[.bool t1366, .slice Ao14 t1367.length co14, .slice Ao15 t1370.length co15, .int .i64 t1373, .int .i64 t1374, .int .i64 0]) ?_ 5 _ rfl; (with_reducible repeat (first | refine blk_drewN ?_ _ | refine blk_drew ?_ | refine blk_alloc ?_ _)); refine blk_put (cs := #[.bool t1366, .slice Ao14 t1367.length co14, .slice Ao15 t1370.length co15, .int .i64 t1373, .int .i64 0, .int .i64 0]) ?_ 4 _ rfl; (with_reducible repeat (first | refine blk_drewN ?_ _ | refine blk_drew ?_ | refine blk_alloc ?_ _)); refine blk_put (cs := #[.bool t1366, .slice Ao14 t1367.length co14, .slice Ao15 t1370.length co15, .int .i64 0, .int .i64 0, .int .i64 0]) ?_ 3 _ rfl; (with_reducible repeat (first | refine blk_drewN ?_ _ | refine blk_drew ?_ | refine blk_alloc ?_ _)); refine blk_put (cs := #[.bool t1366, .slice Ao14 t1367.length co14, .slice none 0 0, .int .i64 0, .int .i64 0, .int .i64 0]) ?_ 2 _ rfl; (with_reducible repeat (first | refine blk_drewN ?_ _ | refine blk_drew ?_ | refine blk_alloc ?_ _)); refine blk_put (cs := #[.bool t1366, .slice none 0 0, .slice none 0 0, .int .i64 0, .int .i64 0, .int .i64 0]) ?_ 1 _ rfl; (with_reducible repeat (first | refine blk_drewN ?_ _ | refine blk_drew ?_ | refine blk_alloc ?_ _)); refine blk_put (cs := #[.bool false, .slice none 0 0, .slice none 0 0, .int .i64 0, .int .i64 0, .int .i64 0]) ?_ 0 _ rfl; exact pkK BK1376.out) hb); replace HB := am (below_step (pkW HB.out) hb); (try clear hb)))
   go_meet
   case rel => exact ⟨_, (true), rfx, H', ⟨by first | omega | exact Nat.le_refl _⟩, ⟨pkR HO1369.out⟩, ⟨pkR HO1372.out⟩, ⟨pkK BK1364.out⟩, ⟨pkK BK1365.out⟩, ⟨pkK BK1376.out⟩, ⟨pkW HB.out⟩⟩
 case rest =>
  clear HC4
  try clear c1
  try clear c2
  try clear p2
  try clear c4
  try clear c7
  try clear c11
  try clear c12
  try clear c17
  try clear c19
  try clear c20
  try clear c22
  try clear c23
  try clear c24
  try clear hcz13_0
  try clear hcz13_1
  try clear hcz13_2
  try clear hcz13_3
  try clear hcz13_4
  try clear hcz13_5
  try clear hcz21_0
  try clear hcz21_1
  try clear hcz21_2
  try clear hcz21_3
  try clear hcz21_4
  try clear hcz21_5
  try clear hcz25_0
  try clear hcz25_1
  try clear hcz25_2
  try clear hcz25_3
  try clear hcz25_4
  try clear hcz25_5
  try clear hcz8_0
  try clear hcz8_1
  try clear hcz8_2
  try clear hcz8_3
  try clear hcz8_4
  try clear hcz8_5
  try clear hfz13_0
  try clear hfz13_1
  try clear hfz13_2
  try clear hfz13_3
  try clear hfz13_4
  try clear hfz13_5
  try clear hfz21_0
  try clear hfz21_1
  try clear hfz21_2
  try clear hfz21_3
  try clear hfz21_4
  try clear hfz21_5
  try clear hfz25_0
  try clear hfz25_1
  try clear hfz25_2
  try clear hfz25_3
  try clear hfz25_4
  try clear hfz25_5
  try clear hfz8_0
  try clear hfz8_1
  try clear hfz8_2
  try clear hfz8_3
  try clear hfz8_4
  try clear hfz8_5
  obtain ⟨kq, x9_3, rfl, HA, HJ3, HO_1377001, HO_1377002, BK1364, BK1365, BK1376, HB⟩ := hcut
  cases kq with
  | zero => exact absurd HA.out (by simp [impl_Await.j0])
  | succ kj3 =>
   have H := HA.out
   clear HA
   simp only [impl_Await.j0] at H
   by_cases c27 : x9_3 = true
   ·subst c27
    replace H : (some (t1366, t1367, t1370, t1373, t1374, t1375, 1)) = some (r1, r2, r3, r4, r5, r6, r7) := by rw [if_pos rfl] at H; exact H
    simp only [Option.some.injEq, Prod.mk.injEq] at H
    obtain ⟨rfl, rfl, rfl, rfl, rfl, rfl, rfl⟩ := H
    have hnb28 := NB1376_1364.out
    have hnc28 := NB1364_1376.out
    have hnb29 := NB1376_1365.out
    have hnc29 := NB1365_1376.out
    obtain ⟨hcz30_0, hcz30_1, hcz30_2, hcz30_3, hcz30_4, hcz30_5, hfz30_0, hfz30_1, hfz30_2, hfz30_3, hfz30_4, hfz30_5⟩ := bk6 BK1376.out
    have hnb31 := NB1365_1364.out
    have hnc31 := NB1364_1365.out
    obtain ⟨hcz32_0, hcz32_1, hcz32_2, hcz32_3, hcz32_4, hcz32_5, hfz32_0, hfz32_1, hfz32_2, hfz32_3, hfz32_4, hfz32_5⟩ := bk6 BK1365.out
    go_wp2
    refine bodyPost_ret (results_ct rfl _ _ gb1365 38 #[.bool t1366, .slice Ao14 t1367.length co14, .slice Ao15 t1370.length co15, .int .i64 t1373, .int .i64 t1374, .int .i64 t1375] (0, 0) _ rfl (by (with_reducible repeat (first | refine blk_drewN ?_ _ | refine blk_drew ?_ | refine blk_alloc ?_ _)); refine blk_put (cs := #[.bool t1366, .slice Ao14 t1367.length co14, .slice Ao15 t1370.length co15, .int .i64 t1373, .int .i64 t1374, .int .i64 0]) ?_ 5 _ rfl; (with_reducible repeat (first | refine blk_drewN ?_ _ | refine blk_drew ?_ | refine blk_alloc ?_ _)); refine blk_put (cs := #[.bool t1366, .slice Ao14 t1367.length co14, .slice Ao15 t1370.length co15, .int .i64 t1373, .int .i64 0, .int .i64 0]) ?_ 4 _ rfl; (with_reducible repeat (first | refine blk_drewN ?_ _ | refine blk_drew ?_ | refine blk_alloc ?_ _)); refine blk_put (cs := #[.bool t1366, .slice Ao14 t1367.length co14, .slice Ao15 t1370.length co15, .int .i64 0, .int .i64 0, .int .i64 0]) ?_ 3 _ rfl; (with_reducible repeat (first | refine blk_drewN ?_ _ | refine blk_drew ?_ | refine blk_alloc ?_ _)); refine blk_put (cs := #[.bool t1366, .slice Ao14 t1367.length co14, .slice none 0 0, .int .i64 0, .int .i64 0, .int .i64 0]) ?_ 2 _ rfl; (with_reducible repeat (first | refine blk_drewN ?_ _ | refine blk_drew ?_ | refine blk_alloc ?_ _)); refine blk_put (cs := #[.bool t1366, .slice none 0 0, .slice none 0 0, .int .i64 0, .int .i64 0, .int .i64 0]) ?_ 1 _ rfl; (with_reducible repeat (first | refine blk_drewN ?_ _ | refine blk_drew ?_ | refine blk_alloc ?_ _)); refine blk_put (cs := #[.bool false, .slice none 0 0, .slice none 0 0, .int .i64 0, .int .i64 0, .int .i64 0]) ?_ 0 _ rfl; exact pkK BK1365.out) Try.underlying38 rfl (by kernel_rfl)) rfl ?_
    exact ⟨_, _, rfe, by (with_reducible repeat (first | apply Kd.R_alloc | apply Kd.R_drewN | apply Kd.R_drew)); exact Kd.R_mono (Kd.R_far (p := ⟨gb1365, 5, none⟩) (Kd.R_far (p := ⟨gb1365, 4, none⟩) (Kd.R_far (p := ⟨gb1365, 3, none⟩) (Kd.R_far (p := ⟨gb1365, 2, none⟩) (Kd.R_far (p := ⟨gb1365, 1, none⟩) (Kd.R_far (p := ⟨gb1365, 0, none⟩) (Kd.R_types HO_1377001.out BK1365.out (by decide)) (fun _ hk => hk.2) (.bool t1366)) (fun _ hk => hk.2) (.slice Ao14 t1367.length co14)) (fun _ hk => hk.2) (.slice Ao15 t1370.length co15)) (fun _ hk => hk.2) (.int .i64 t1373)) (fun _ hk => hk.2) (.int .i64 t1374)) (fun _ hk => hk.2) (.int .i64 t1375)) (fun _ hk => trivial), by (with_reducible repeat (first | apply Kd.R_alloc | apply Kd.R_drewN | apply Kd.R_drew)); exact Kd.R_mono (Kd.R_far (p := ⟨gb1365, 5, none⟩) (Kd.R_far (p := ⟨gb1365, 4, none⟩) (Kd.R_far (p := ⟨gb1365, 3, none⟩) (Kd.R_far (p := ⟨gb1365, 2, none⟩) (Kd.R_far (p := ⟨gb1365, 1, none⟩) (Kd.R_far (p := ⟨gb1365, 0, none⟩) (Kd.R_types HO_1377002.out BK1365.out (by decide)) (fun _ hk => hk.2) (.bool t1366)) (fun _ hk => hk.2) (.slice Ao14 t1367.length co14)) (fun _ hk => hk.2) (.slice Ao15 t1370.length co15)) (fun _ hk => hk.2) (.int .i64 t1373)) (fun _ hk => hk.2) (.int .i64 t1374)) (fun _ hk => hk.2) (.int .i64 t1375)) (fun _ hk => trivial), pkW HB.out⟩
   ·replace c27 := Bool.eq_false_iff.mpr c27
    subst c27
    replace H : ((slices_Contains_int_int.f kj3 l0_1 a1).bind fun t1379 => (if t1379 = true then (impl_Await.j1 kj3 a1 true a0_0 l0_1 l0_2 a0_3 a0_4 a0_5 t1366 t1367 t1370 t1373 t1374 t1375) else ((impl_grantAt.f kj3 l0_2 a1).bind fun t1380 => (impl_Await.j1 kj3 a1 (decide (t1380 ≥ 0)) a0_0 l0_1 l0_2 a0_3 a0_4 a0_5 t1366 t1367 t1370 t1373 t1374 t1375)))) = some (r1, r2, r3, r4, r5, r6, r7) := by rw [if_neg (show ¬ (false = true) by decide)] at H; exact H
    have HC33 := am H
    clear H
    go_upto_region 4 with (fail)
    go_cut [19] (fun v19 wc => ∃ (kq : Nat) (x19_32 : Bool), v19 = .bool x19_32 ∧ Aside0 (impl_Await.j1 kq a1 x19_32 a0_0 l0_1 l0_2 a0_3 a0_4 a0_5 t1366 t1367 t1370 t1373 t1374 t1375 = some (r1, r2, r3, r4, r5, r6, r7)) ∧ Aside0 (kq ≤ kj3) ∧ Aside0 (Kd.R (Kd.int .i64) 3 wc w.heap.size (fun _ => True) (.slice Ao14 t1367.length co14) t1367) ∧ Aside0 (Kd.R k67 67 wc w.heap.size (fun _ => True) (.slice Ao15 t1370.length co15) t1370) ∧ Aside0 (wc.heap[gb1364]? = some (.cells #[.bool a0_0, (.slice A0_1 l0_1.length c0_1), (.slice A0_2 l0_2.length c0_2), .int .i64 a0_3, .int .i64 a0_4, .int .i64 a0_5] 38 (0, 0))) ∧ Aside0 (wc.heap[gb1365]? = some (.cells #[.bool false, (.slice none 0 0), (.slice none 0 0), .int .i64 0, .int .i64 0, .int .i64 0] 38 (0, 0))) ∧ Aside0 (wc.heap[gb1376]? = some (.cells #[.bool t1366, (.slice Ao14 t1367.length co14), (.slice Ao15 t1370.length co15), .int .i64 t1373, .int .i64 t1374, .int .i64 t1375] 38 (0, 0))) ∧ Aside0 (Below w.heap.size w wc))
    case first =>
     have H := HC33.out
     clear HC33
     replace H := Option.bind_eq_some_iff.mp H
     obtain ⟨t1379, A340, H⟩ := H
     replace H : (if t1379 = true then (impl_Await.j1 kj3 a1 true a0_0 l0_1 l0_2 a0_3 a0_4 a0_5 t1366 t1367 t1370 t1373 t1374 t1375) else ((impl_grantAt.f kj3 l0_2 a1).bind fun t1380 => (impl_Await.j1 kj3 a1 (decide (t1380 ≥ 0)) a0_0 l0_1 l0_2 a0_3 a0_4 a0_5 t1366 t1367 t1370 t1373 t1374 t1375))) = some (r1, r2, r3, r4, r5, r6, r7) := H
     have A34 := am A340
     clear A340
     by_cases c35 : t1379 = true
     ·subst c35
      replace H : (impl_Await.j1 kj3 a1 true a0_0 l0_1 l0_2 a0_3 a0_4 a0_5 t1366 t1367 t1370 t1373 t1374 t1375) = some (r1, r2, r3, r4, r5, r6, r7) := by rw [if_pos rfl] at H; exact H
      have H' := am H
      clear H
      have hnb36 := NB1364_1365.out
      have hnc36 := NB1365_1364.out
      have hnb37 := NB1364_1376.out
      have hnc37 := NB1376_1364.out
      obtain ⟨hcz38_0, hcz38_1, hcz38_2, hcz38_3, hcz38_4, hcz38_5, hfz38_0, hfz38_1, hfz38_2, hfz38_3, hfz38_4, hfz38_5⟩ := bk6 BK1364.out
      go_wp2_with (first | ((with_reducible refine gate_callee (f := 66) rfl ?_); refine goesL_ (some 23) rfl rfl Try.func66 (by kernel_rfl) rfl #[.slice A0_1 l0_1.length c0_1, .int .i64 a1] rfl mpx ?_; (with_reducible refine (slices_Contains_int_int.calls kj3 _ _ l0_1 a1 true _ ?side1 ?side2 A34.out).mono ?_); (case side1 => exact pkC (Kd.C_below HR0_1.out HB.out)); (case side2 => exact HC0_1.out); rintro e w' ⟨rfl, ⟨nd, rfl⟩⟩; refine ⟨_, rfl, ?_⟩))
      go_meet
      case rel => exact ⟨_, (true), rfx, H', ⟨by have := HJ3.out; first | omega | exact Nat.le_refl _⟩, ⟨pkR HO_1377001.out⟩, ⟨pkR HO_1377002.out⟩, ⟨pkK BK1364.out⟩, ⟨pkK BK1365.out⟩, ⟨pkK BK1376.out⟩, ⟨pkW HB.out⟩⟩
     ·replace c35 := Bool.eq_false_iff.mpr c35
      subst c35
      replace H : ((impl_grantAt.f kj3 l0_2 a1).bind fun t1380 => (impl_Await.j1 kj3 a1 (decide (t1380 ≥ 0)) a0_0 l0_1 l0_2 a0_3 a0_4 a0_5 t1366 t1367 t1370 t1373 t1374 t1375)) = some (r1, r2, r3, r4, r5, r6, r7) := by rw [if_neg (show ¬ (false = true) by decide)] at H; exact H
      replace H := Option.bind_eq_some_iff.mp H
      obtain ⟨t1380, A390, H⟩ := H
      replace H : (impl_Await.j1 kj3 a1 (decide (t1380 ≥ 0)) a0_0 l0_1 l0_2 a0_3 a0_4 a0_5 t1366 t1367 t1370 t1373 t1374 t1375) = some (r1, r2, r3, r4, r5, r6, r7) := H
      have A39 := am A390
      clear A390
      have H' := am H
      clear H
      have hnb40 := NB1364_1365.out
      have hnc40 := NB1365_1364.out
      have hnb41 := NB1364_1376.out
      have hnc41 := NB1376_1364.out
      obtain ⟨hcz42_0, hcz42_1, hcz42_2, hcz42_3, hcz42_4, hcz42_5, hfz42_0, hfz42_1, hfz42_2, hfz42_3, hfz42_4, hfz42_5⟩ := bk6 BK1364.out
      go_wp2_with (first | ((with_reducible refine gate_callee (f := 66) rfl ?_); refine goesL_ (some 23) rfl rfl Try.func66 (by kernel_rfl) rfl #[.slice A0_1 l0_1.length c0_1, .int .i64 a1] rfl mpx ?_; (with_reducible refine (slices_Contains_int_int.calls kj3 _ _ l0_1 a1 false _ ?side1 ?side2 A34.out).mono ?_); (case side1 => exact pkC (Kd.C_below HR0_1.out HB.out)); (case side2 => exact HC0_1.out); rintro e w' ⟨rfl, ⟨nd, rfl⟩⟩; refine ⟨_, rfl, ?_⟩) | (go_at_call 78; (with_reducible refine (impl_grantAt.calls kj3 _ _ l0_2 a1 t1380 _ ?side1 ?side2 A39.out).mono ?_); (case side1 => repeat (first | exact (Kd.C_below HR0_2.out (pkW HB.out)) | (with_reducible refine Kd.C_alloc ?_ _) | (with_reducible refine Kd.C_drewN ?_ _) | (with_reducible refine Kd.C_drew ?_))); (case side2 => exact HC0_2.out); rintro e w43 ⟨rfl, hb⟩; replace HO_1377001 := am (Kd.R_below (pkR HO_1377001.out) hb); replace HO_1377002 := am (Kd.R_below (pkR HO_1377002.out) hb); replace BK1364 := am (blk_below (pkK BK1364.out) hb); replace BK1365 := am (blk_below (pkK BK1365.out) hb); replace BK1376 := am (blk_below (pkK BK1376.out) hb); replace HB := am (below_step (pkW HB.out) hb); (try clear hb)))
      go_meet
      case rel => exact ⟨_, (decide (t1380 ≥ 0)), rfx, H', ⟨by have := HJ3.out; first | omega | exact Nat.le_refl _⟩, ⟨pkR HO_1377001.out⟩, ⟨pkR HO_1377002.out⟩, ⟨pkK BK1364.out⟩, ⟨pkK BK1365.out⟩, ⟨pkK BK1376.out⟩, ⟨pkW HB.out⟩⟩
    case rest =>
     clear HC33
     try clear c1
     try clear c2
     try clear p2
     try clear c3
     try clear c4
     try clear c6
     try clear c7
     try clear c11
     try clear c12
     try clear c17
     try clear c19
     try clear c20
     try clear c22
     try clear c23
     try clear c24
     try clear c27
     try clear c28
     try clear c29
     try clear c31
     try clear c35
     try clear c36
     try clear c37
     try clear c40
     try clear c41
     try clear hcz13_0
     try clear hcz13_1
     try clear hcz13_2
     try clear hcz13_3
     try clear hcz13_4
     try clear hcz13_5
     try clear hcz21_0
     try clear hcz21_1
     try clear hcz21_2
     try clear hcz21_3
     try clear hcz21_4
     try clear hcz21_5
     try clear hcz25_0
     try clear hcz25_1
     try clear hcz25_2
     try clear hcz25_3
     try clear hcz25_4
     try clear hcz25_5
     try clear hcz30_0
     try clear hcz30_1
     try clear hcz30_2
     try clear hcz30_3
     try clear hcz30_4
     try clear hcz30_5
     try clear hcz32_0
     try clear hcz32_1
     try clear hcz32_2
     try clear hcz32_3
     try clear hcz32_4
     try clear hcz32_5
     try clear hcz38_0
     try clear hcz38_1
     try clear hcz38_2
     try clear hcz38_3
     try clear hcz38_4
     try clear hcz38_5
     try clear hcz42_0
     try clear hcz42_1
     try clear hcz42_2
     try clear hcz42_3
     try clear hcz42_4
     try clear hcz42_5
     try clear hcz8_0
     try clear hcz8_1
     try clear hcz8_2
     try clear hcz8_3
     try clear hcz8_4
     try clear hcz8_5
     try clear hfz13_0
     try clear hfz13_1
     try clear hfz13_2
     try clear hfz13_3
     try clear hfz13_4
     try clear hfz13_5
     try clear hfz21_0
     try clear hfz21_1
     try clear hfz21_2
     try clear hfz21_3
     try clear hfz21_4
     try clear hfz21_5
     try clear hfz25_0
     try clear hfz25_1
     try clear hfz25_2
     try clear hfz25_3
     try clear hfz25_4
     try clear hfz25_5
     try clear hfz30_0
     try clear hfz30_1
     try clear hfz30_2
     try clear hfz30_3
     try clear hfz30_4
     try clear hfz30_5
     try clear hfz32_0
     try clear hfz32_1
     try clear hfz32_2
     try clear hfz32_3
     try clear hfz32_4
     try clear hfz32_5
     try clear hfz38_0
     try clear hfz38_1
     try clear hfz38_2
     try clear hfz38_3
     try clear hfz38_4
     try clear hfz38_5
     try clear hfz42_0
     try clear hfz42_1
     try clear hfz42_2
     try clear hfz42_3
     try clear hfz42_4
     try clear hfz42_5
     try clear hfz8_0
     try clear hfz8_1
     try clear hfz8_2
     try clear hfz8_3
     try clear hfz8_4
     try clear hfz8_5
     try clear p2
     obtain ⟨kq, x19_32, rfl, HA, HJ32, HO_1377001, HO_1377002, BK1364, BK1365, BK1376, HB⟩ := hcut
     cases kq with
     | zero => exact absurd HA.out (by simp [impl_Await.j1])
     | succ kj32 =>
      have H := HA.out
      clear HA
      simp only [impl_Await.j1] at H
      by_cases c44 : x19_32 = true
      ·subst c44
       replace H : (some (t1366, t1367, t1370, t1373, t1374, t1375, 5)) = some (r1, r2, r3, r4, r5, r6, r7) := by rw [if_pos rfl] at H; exact H
       simp only [Option.some.injEq, Prod.mk.injEq] at H
       obtain ⟨rfl, rfl, rfl, rfl, rfl, rfl, rfl⟩ := H
       have hnb45 := NB1376_1364.out
       have hnc45 := NB1364_1376.out
       have hnb46 := NB1376_1365.out
       have hnc46 := NB1365_1376.out
       obtain ⟨hcz47_0, hcz47_1, hcz47_2, hcz47_3, hcz47_4, hcz47_5, hfz47_0, hfz47_1, hfz47_2, hfz47_3, hfz47_4, hfz47_5⟩ := bk6 BK1376.out
       have hnb48 := NB1365_1364.out
       have hnc48 := NB1364_1365.out
       obtain ⟨hcz49_0, hcz49_1, hcz49_2, hcz49_3, hcz49_4, hcz49_5, hfz49_0, hfz49_1, hfz49_2, hfz49_3, hfz49_4, hfz49_5⟩ := bk6 BK1365.out
       go_wp2
       refine bodyPost_ret (results_ct rfl _ _ gb1365 38 #[.bool t1366, .slice Ao14 t1367.length co14, .slice Ao15 t1370.length co15, .int .i64 t1373, .int .i64 t1374, .int .i64 t1375] (0, 0) _ rfl (by (with_reducible repeat (first | refine blk_drewN ?_ _ | refine blk_drew ?_ | refine blk_alloc ?_ _)); refine blk_put (cs := #[.bool t1366, .slice Ao14 t1367.length co14, .slice Ao15 t1370.length co15, .int .i64 t1373, .int .i64 t1374, .int .i64 0]) ?_ 5 _ rfl; (with_reducible repeat (first | refine blk_drewN ?_ _ | refine blk_drew ?_ | refine blk_alloc ?_ _)); refine blk_put (cs := #[.bool t1366, .slice Ao14 t1367.length co14, .slice Ao15 t1370.length co15, .int .i64 t1373, .int .i64 0, .int .i64 0]) ?_ 4 _ rfl; (with_reducible repeat (first | refine blk_drewN ?_ _ | refine blk_drew ?_ | refine blk_alloc ?_ _)); refine blk_put (cs := #[.bool t1366, .slice Ao14 t1367.length co14, .slice Ao15 t1370.length co15, .int .i64 0, .int .i64 0, .int .i64 0]) ?_ 3 _ rfl; (with_reducible repeat (first | refine blk_drewN ?_ _ | refine blk_drew ?_ | refine blk_alloc ?_ _)); refine blk_put (cs := #[.bool t1366, .slice Ao14 t1367.length co14, .slice none 0 0, .int .i64 0, .int .i64 0, .int .i64 0]) ?_ 2 _ rfl; (with_reducible repeat (first | refine blk_drewN ?_ _ | refine blk_drew ?_ | refine blk_alloc ?_ _)); refine blk_put (cs := #[.bool t1366, .slice none 0 0, .slice none 0 0, .int .i64 0, .int .i64 0, .int .i64 0]) ?_ 1 _ rfl; (with_reducible repeat (first | refine blk_drewN ?_ _ | refine blk_drew ?_ | refine blk_alloc ?_ _)); refine blk_put (cs := #[.bool false, .slice none 0 0, .slice none 0 0, .int .i64 0, .int .i64 0, .int .i64 0]) ?_ 0 _ rfl; exact pkK BK1365.out) Try.underlying38 rfl (by kernel_rfl)) rfl ?_
       exact ⟨_, _, rfe, by (with_reducible repeat (first | apply Kd.R_alloc | apply Kd.R_drewN | apply Kd.R_drew)); exact Kd.R_mono (Kd.R_far (p := ⟨gb1365, 5, none⟩) (Kd.R_far (p := ⟨gb1365, 4, none⟩) (Kd.R_far (p := ⟨gb1365, 3, none⟩) (Kd.R_far (p := ⟨gb1365, 2, none⟩) (Kd.R_far (p := ⟨gb1365, 1, none⟩) (Kd.R_far (p := ⟨gb1365, 0, none⟩) (Kd.R_types HO_1377001.out BK1365.out (by decide)) (fun _ hk => hk.2) (.bool t1366)) (fun _ hk => hk.2) (.slice Ao14 t1367.length co14)) (fun _ hk => hk.2) (.slice Ao15 t1370.length co15)) (fun _ hk => hk.2) (.int .i64 t1373)) (fun _ hk => hk.2) (.int .i64 t1374)) (fun _ hk => hk.2) (.int .i64 t1375)) (fun _ hk => trivial), by (with_reducible repeat (first | apply Kd.R_alloc | apply Kd.R_drewN | apply Kd.R_drew)); exact Kd.R_mono (Kd.R_far (p := ⟨gb1365, 5, none⟩) (Kd.R_far (p := ⟨gb1365, 4, none⟩) (Kd.R_far (p := ⟨gb1365, 3, none⟩) (Kd.R_far (p := ⟨gb1365, 2, none⟩) (Kd.R_far (p := ⟨gb1365, 1, none⟩) (Kd.R_far (p := ⟨gb1365, 0, none⟩) (Kd.R_types HO_1377002.out BK1365.out (by decide)) (fun _ hk => hk.2) (.bool t1366)) (fun _ hk => hk.2) (.slice Ao14 t1367.length co14)) (fun _ hk => hk.2) (.slice Ao15 t1370.length co15)) (fun _ hk => hk.2) (.int .i64 t1373)) (fun _ hk => hk.2) (.int .i64 t1374)) (fun _ hk => hk.2) (.int .i64 t1375)) (fun _ hk => trivial), pkW HB.out⟩
      ·replace c44 := Bool.eq_false_iff.mpr c44
       subst c44
       replace H : (if a0_5 = 1000000000 then (impl_Await.j2 kj32 a1 true a0_0 l0_1 l0_2 a0_3 a0_4 a0_5 t1366 t1367 t1370 t1373 t1374 t1375) else (if a0_0 = true then (impl_Await.j2 kj32 a1 false a0_0 l0_1 l0_2 a0_3 a0_4 a0_5 t1366 t1367 t1370 t1373 t1374 t1375) else (impl_Await.j2 kj32 a1 ((l0_1.length : Int) == 32) a0_0 l0_1 l0_2 a0_3 a0_4 a0_5 t1366 t1367 t1370 t1373 t1374 t1375))) = some (r1, r2, r3, r4, r5, r6, r7) := by rw [if_neg (show ¬ (false = true) by decide)] at H; exact H
       have HC50 := am H
       clear H
       go_upto_region 6 with (fail)
       go_cut [32] (fun v32 wc => ∃ (kq : Nat) (x32_49 : Bool), v32 = .bool x32_49 ∧ Aside0 (impl_Await.j2 kq a1 x32_49 a0_0 l0_1 l0_2 a0_3 a0_4 a0_5 t1366 t1367 t1370 t1373 t1374 t1375 = some (r1, r2, r3, r4, r5, r6, r7)) ∧ Aside0 (kq ≤ kj32) ∧ Aside0 (Kd.R (Kd.int .i64) 3 wc w.heap.size (fun _ => True) (.slice Ao14 t1367.length co14) t1367) ∧ Aside0 (Kd.R k67 67 wc w.heap.size (fun _ => True) (.slice Ao15 t1370.length co15) t1370) ∧ Aside0 (wc.heap[gb1364]? = some (.cells #[.bool a0_0, (.slice A0_1 l0_1.length c0_1), (.slice A0_2 l0_2.length c0_2), .int .i64 a0_3, .int .i64 a0_4, .int .i64 a0_5] 38 (0, 0))) ∧ Aside0 (wc.heap[gb1365]? = some (.cells #[.bool false, (.slice none 0 0), (.slice none 0 0), .int .i64 0, .int .i64 0, .int .i64 0] 38 (0, 0))) ∧ Aside0 (wc.heap[gb1376]? = some (.cells #[.bool t1366, (.slice Ao14 t1367.length co14), (.slice Ao15 t1370.length co15), .int .i64 t1373, .int .i64 t1374, .int .i64 t1375] 38 (0, 0))) ∧ Aside0 (Below w.heap.size w wc))
       case first =>
        have H := HC50.out
        clear HC50
        by_cases c51 : a0_5 = 1000000000
        ·rw [if_pos c51] at H
         have c51b0 : (a0_5 == 1000000000) = true := beq_iff_eq.mpr c51
         have c51b1 : (a0_5 != 1000000000) = false := bne_eq_false_iff_eq.mpr c51
         clear c51
         (first | rw [c51b0] | (simp only [i64_w, i32_w]; rw [c51b0]) | skip)
         have H' := am H
         clear H
         have hnb52 := NB1364_1365.out
         have hnc52 := NB1365_1364.out
         have hnb53 := NB1364_1376.out
         have hnc53 := NB1376_1364.out
         obtain ⟨hcz54_0, hcz54_1, hcz54_2, hcz54_3, hcz54_4, hcz54_5, hfz54_0, hfz54_1, hfz54_2, hfz54_3, hfz54_4, hfz54_5⟩ := bk6 BK1364.out
         go_wp2
         go_meet
         case rel => exact ⟨_, (true), rfx, H', ⟨by have := HJ3.out; have := HJ32.out; first | omega | exact Nat.le_refl _⟩, ⟨pkR HO_1377001.out⟩, ⟨pkR HO_1377002.out⟩, ⟨pkK BK1364.out⟩, ⟨pkK BK1365.out⟩, ⟨pkK BK1376.out⟩, ⟨pkW HB.out⟩⟩
        ·rw [if_neg c51] at H
         have c51b0 : (a0_5 == 1000000000) = false := beq_eq_false_iff_ne.mpr c51
         have c51b1 : (a0_5 != 1000000000) = true := bne_iff_ne.mpr c51
         (first | rw [c51b0] | (simp only [i64_w, i32_w]; rw [c51b0]) | skip)
         by_cases c55 : a0_0 = true
         ·subst c55
          replace H : (impl_Await.j2 kj32 a1 false true l0_1 l0_2 a0_3 a0_4 a0_5 t1366 t1367 t1370 t1373 t1374 t1375) = some (r1, r2, r3, r4, r5, r6, r7) := by rw [if_pos rfl] at H; exact H
          have H' := am H
          clear H
          have hnb56 := NB1364_1365.out
          have hnc56 := NB1365_1364.out
          have hnb57 := NB1364_1376.out
          have hnc57 := NB1376_1364.out
          obtain ⟨hcz58_0, hcz58_1, hcz58_2, hcz58_3, hcz58_4, hcz58_5, hfz58_0, hfz58_1, hfz58_2, hfz58_3, hfz58_4, hfz58_5⟩ := bk6 BK1364.out
          go_wp2
          go_meet
          case rel => exact ⟨_, (false), rfx, H', ⟨by have := HJ3.out; have := HJ32.out; first | omega | exact Nat.le_refl _⟩, ⟨pkR HO_1377001.out⟩, ⟨pkR HO_1377002.out⟩, ⟨pkK BK1364.out⟩, ⟨pkK BK1365.out⟩, ⟨pkK BK1376.out⟩, ⟨pkW HB.out⟩⟩
         ·replace c55 := Bool.eq_false_iff.mpr c55
          subst c55
          replace H : (impl_Await.j2 kj32 a1 ((l0_1.length : Int) == 32) false l0_1 l0_2 a0_3 a0_4 a0_5 t1366 t1367 t1370 t1373 t1374 t1375) = some (r1, r2, r3, r4, r5, r6, r7) := by rw [if_neg (show ¬ (false = true) by decide)] at H; exact H
          have H' := am H
          clear H
          have hnb59 := NB1364_1365.out
          have hnc59 := NB1365_1364.out
          have hnb60 := NB1364_1376.out
          have hnc60 := NB1376_1364.out
          obtain ⟨hcz61_0, hcz61_1, hcz61_2, hcz61_3, hcz61_4, hcz61_5, hfz61_0, hfz61_1, hfz61_2, hfz61_3, hfz61_4, hfz61_5⟩ := bk6 BK1364.out
          go_wp2
          go_meet
          case rel => exact ⟨_, (((l0_1.length : Int) == 32)), rfx, H', ⟨by have := HJ3.out; have := HJ32.out; first | omega | exact Nat.le_refl _⟩, ⟨pkR HO_1377001.out⟩, ⟨pkR HO_1377002.out⟩, ⟨pkK BK1364.out⟩, ⟨pkK BK1365.out⟩, ⟨pkK BK1376.out⟩, ⟨pkW HB.out⟩⟩
       case rest =>
        clear HC50
        try clear c1
        try clear c2
        try clear p2
        try clear c3
        try clear c4
        try clear c5
        try clear c6
        try clear c7
        try clear c11
        try clear c12
        try clear c17
        try clear c19
        try clear c20
        try clear c22
        try clear c23
        try clear c24
        try clear c27
        try clear c28
        try clear c29
        try clear c31
        try clear c35
        try clear c36
        try clear c37
        try clear c40
        try clear c41
        try clear c44
        try clear c45
        try clear c46
        try clear c48
        try clear c51
        try clear c51b0
        try clear c51b1
        try clear c52
        try clear c53
        try clear c55
        try clear c56
        try clear c57
        try clear c59
        try clear c60
        try clear hcz13_0
        try clear hcz13_1
        try clear hcz13_2
        try clear hcz13_3
        try clear hcz13_4
        try clear hcz13_5
        try clear hcz21_0
        try clear hcz21_1
        try clear hcz21_2
        try clear hcz21_3
        try clear hcz21_4
        try clear hcz21_5
        try clear hcz25_0
        try clear hcz25_1
        try clear hcz25_2
        try clear hcz25_3
        try clear hcz25_4
        try clear hcz25_5
        try clear hcz30_0
        try clear hcz30_1
        try clear hcz30_2
        try clear hcz30_3
        try clear hcz30_4
        try clear hcz30_5
        try clear hcz32_0
        try clear hcz32_1
        try clear hcz32_2
        try clear hcz32_3
        try clear hcz32_4
        try clear hcz32_5
        try clear hcz38_0
        try clear hcz38_1
        try clear hcz38_2
        try clear hcz38_3
        try clear hcz38_4
        try clear hcz38_5
        try clear hcz42_0
        try clear hcz42_1
        try clear hcz42_2
        try clear hcz42_3
        try clear hcz42_4
        try clear hcz42_5
        try clear hcz47_0
        try clear hcz47_1
        try clear hcz47_2
        try clear hcz47_3
        try clear hcz47_4
        try clear hcz47_5
        try clear hcz49_0
        try clear hcz49_1
        try clear hcz49_2
        try clear hcz49_3
        try clear hcz49_4
        try clear hcz49_5
        try clear hcz54_0
        try clear hcz54_1
        try clear hcz54_2
        try clear hcz54_3
        try clear hcz54_4
        try clear hcz54_5
        try clear hcz58_0
        try clear hcz58_1
        try clear hcz58_2
        try clear hcz58_3
        try clear hcz58_4
        try clear hcz58_5
        try clear hcz61_0
        try clear hcz61_1
        try clear hcz61_2
        try clear hcz61_3
        try clear hcz61_4
        try clear hcz61_5
        try clear hcz8_0
        try clear hcz8_1
        try clear hcz8_2
        try clear hcz8_3
        try clear hcz8_4
        try clear hcz8_5
        try clear hfz13_0
        try clear hfz13_1
        try clear hfz13_2
        try clear hfz13_3
        try clear hfz13_4
        try clear hfz13_5
        try clear hfz21_0
        try clear hfz21_1
        try clear hfz21_2
        try clear hfz21_3
        try clear hfz21_4
        try clear hfz21_5
        try clear hfz25_0
        try clear hfz25_1
        try clear hfz25_2
        try clear hfz25_3
        try clear hfz25_4
        try clear hfz25_5
        try clear hfz30_0
        try clear hfz30_1
        try clear hfz30_2
        try clear hfz30_3
        try clear hfz30_4
        try clear hfz30_5
        try clear hfz32_0
        try clear hfz32_1
        try clear hfz32_2
        try clear hfz32_3
        try clear hfz32_4
        try clear hfz32_5
        try clear hfz38_0
        try clear hfz38_1
        try clear hfz38_2
        try clear hfz38_3
        try clear hfz38_4
        try clear hfz38_5
        try clear hfz42_0
        try clear hfz42_1
        try clear hfz42_2
        try clear hfz42_3
        try clear hfz42_4
        try clear hfz42_5
        try clear hfz47_0
        try clear hfz47_1
        try clear hfz47_2
        try clear hfz47_3
        try clear hfz47_4
        try clear hfz47_5
        try clear hfz49_0
        try clear hfz49_1
        try clear hfz49_2
        try clear hfz49_3
        try clear hfz49_4
        try clear hfz49_5
        try clear hfz54_0
        try clear hfz54_1
        try clear hfz54_2
        try clear hfz54_3
        try clear hfz54_4
        try clear hfz54_5
        try clear hfz58_0
        try clear hfz58_1
        try clear hfz58_2
        try clear hfz58_3
        try clear hfz58_4
        try clear hfz58_5
        try clear hfz61_0
        try clear hfz61_1
        try clear hfz61_2
        try clear hfz61_3
        try clear hfz61_4
        try clear hfz61_5
        try clear hfz8_0
        try clear hfz8_1
        try clear hfz8_2
        try clear hfz8_3
        try clear hfz8_4
        try clear hfz8_5
        try clear p2
        obtain ⟨kq, x32_49, rfl, HA, HJ49, HO_1377001, HO_1377002, BK1364, BK1365, BK1376, HB⟩ := hcut
        cases kq with
        | zero => exact absurd HA.out (by simp [impl_Await.j2])
        | succ kj49 =>
         have H := HA.out
         clear HA
         simp only [impl_Await.j2] at H
         by_cases c62 : x32_49 = true
         ·subst c62
          replace H : (some (t1366, t1367, t1370, t1373, t1374, t1375, 2)) = some (r1, r2, r3, r4, r5, r6, r7) := by rw [if_pos rfl] at H; exact H
          simp only [Option.some.injEq, Prod.mk.injEq] at H
          obtain ⟨rfl, rfl, rfl, rfl, rfl, rfl, rfl⟩ := H
          have hnb63 := NB1376_1364.out
          have hnc63 := NB1364_1376.out
          have hnb64 := NB1376_1365.out
          have hnc64 := NB1365_1376.out
          obtain ⟨hcz65_0, hcz65_1, hcz65_2, hcz65_3, hcz65_4, hcz65_5, hfz65_0, hfz65_1, hfz65_2, hfz65_3, hfz65_4, hfz65_5⟩ := bk6 BK1376.out
          have hnb66 := NB1365_1364.out
          have hnc66 := NB1364_1365.out
          obtain ⟨hcz67_0, hcz67_1, hcz67_2, hcz67_3, hcz67_4, hcz67_5, hfz67_0, hfz67_1, hfz67_2, hfz67_3, hfz67_4, hfz67_5⟩ := bk6 BK1365.out
          go_wp2
          refine bodyPost_ret (results_ct rfl _ _ gb1365 38 #[.bool t1366, .slice Ao14 t1367.length co14, .slice Ao15 t1370.length co15, .int .i64 t1373, .int .i64 t1374, .int .i64 t1375] (0, 0) _ rfl (by (with_reducible repeat (first | refine blk_drewN ?_ _ | refine blk_drew ?_ | refine blk_alloc ?_ _)); refine blk_put (cs := #[.bool t1366, .slice Ao14 t1367.length co14, .slice Ao15 t1370.length co15, .int .i64 t1373, .int .i64 t1374, .int .i64 0]) ?_ 5 _ rfl; (with_reducible repeat (first | refine blk_drewN ?_ _ | refine blk_drew ?_ | refine blk_alloc ?_ _)); refine blk_put (cs := #[.bool t1366, .slice Ao14 t1367.length co14, .slice Ao15 t1370.length co15, .int .i64 t1373, .int .i64 0, .int .i64 0]) ?_ 4 _ rfl; (with_reducible repeat (first | refine blk_drewN ?_ _ | refine blk_drew ?_ | refine blk_alloc ?_ _)); refine blk_put (cs := #[.bool t1366, .slice Ao14 t1367.length co14, .slice Ao15 t1370.length co15, .int .i64 0, .int .i64 0, .int .i64 0]) ?_ 3 _ rfl; (with_reducible repeat (first | refine blk_drewN ?_ _ | refine blk_drew ?_ | refine blk_alloc ?_ _)); refine blk_put (cs := #[.bool t1366, .slice Ao14 t1367.length co14, .slice none 0 0, .int .i64 0, .int .i64 0, .int .i64 0]) ?_ 2 _ rfl; (with_reducible repeat (first | refine blk_drewN ?_ _ | refine blk_drew ?_ | refine blk_alloc ?_ _)); refine blk_put (cs := #[.bool t1366, .slice none 0 0, .slice none 0 0, .int .i64 0, .int .i64 0, .int .i64 0]) ?_ 1 _ rfl; (with_reducible repeat (first | refine blk_drewN ?_ _ | refine blk_drew ?_ | refine blk_alloc ?_ _)); refine blk_put (cs := #[.bool false, .slice none 0 0, .slice none 0 0, .int .i64 0, .int .i64 0, .int .i64 0]) ?_ 0 _ rfl; exact pkK BK1365.out) Try.underlying38 rfl (by kernel_rfl)) rfl ?_
          exact ⟨_, _, rfe, by (with_reducible repeat (first | apply Kd.R_alloc | apply Kd.R_drewN | apply Kd.R_drew)); exact Kd.R_mono (Kd.R_far (p := ⟨gb1365, 5, none⟩) (Kd.R_far (p := ⟨gb1365, 4, none⟩) (Kd.R_far (p := ⟨gb1365, 3, none⟩) (Kd.R_far (p := ⟨gb1365, 2, none⟩) (Kd.R_far (p := ⟨gb1365, 1, none⟩) (Kd.R_far (p := ⟨gb1365, 0, none⟩) (Kd.R_types HO_1377001.out BK1365.out (by decide)) (fun _ hk => hk.2) (.bool t1366)) (fun _ hk => hk.2) (.slice Ao14 t1367.length co14)) (fun _ hk => hk.2) (.slice Ao15 t1370.length co15)) (fun _ hk => hk.2) (.int .i64 t1373)) (fun _ hk => hk.2) (.int .i64 t1374)) (fun _ hk => hk.2) (.int .i64 t1375)) (fun _ hk => trivial), by (with_reducible repeat (first | apply Kd.R_alloc | apply Kd.R_drewN | apply Kd.R_drew)); exact Kd.R_mono (Kd.R_far (p := ⟨gb1365, 5, none⟩) (Kd.R_far (p := ⟨gb1365, 4, none⟩) (Kd.R_far (p := ⟨gb1365, 3, none⟩) (Kd.R_far (p := ⟨gb1365, 2, none⟩) (Kd.R_far (p := ⟨gb1365, 1, none⟩) (Kd.R_far (p := ⟨gb1365, 0, none⟩) (Kd.R_types HO_1377002.out BK1365.out (by decide)) (fun _ hk => hk.2) (.bool t1366)) (fun _ hk => hk.2) (.slice Ao14 t1367.length co14)) (fun _ hk => hk.2) (.slice Ao15 t1370.length co15)) (fun _ hk => hk.2) (.int .i64 t1373)) (fun _ hk => hk.2) (.int .i64 t1374)) (fun _ hk => hk.2) (.int .i64 t1375)) (fun _ hk => trivial), pkW HB.out⟩
         ·replace c62 := Bool.eq_false_iff.mpr c62
          subst c62
          replace H : (if a0_0 = true then (some (false, t1367, t1370, t1373, t1374, wrap64 (t1375 + 1), 0)) else (if t1367.length < 17592186044416 then (some (t1366, (t1367 ++ [a1]), t1370, t1373, t1374, t1375, 4)) else (none))) = some (r1, r2, r3, r4, r5, r6, r7) := by rw [if_neg (show ¬ (false = true) by decide)] at H; exact H
          by_cases c68 : a0_0 = true
          ·subst c68
           replace H : (some (false, t1367, t1370, t1373, t1374, wrap64 (t1375 + 1), 0)) = some (r1, r2, r3, r4, r5, r6, r7) := by rw [if_pos rfl] at H; exact H
           simp only [Option.some.injEq, Prod.mk.injEq] at H
           obtain ⟨rfl, rfl, rfl, rfl, rfl, rfl, rfl⟩ := H
           have hnb69 := NB1364_1365.out
           have hnc69 := NB1365_1364.out
           have hnb70 := NB1364_1376.out
           have hnc70 := NB1376_1364.out
           obtain ⟨hcz71_0, hcz71_1, hcz71_2, hcz71_3, hcz71_4, hcz71_5, hfz71_0, hfz71_1, hfz71_2, hfz71_3, hfz71_4, hfz71_5⟩ := bk6 BK1364.out
           have hnb72 := NB1376_1365.out
           have hnc72 := NB1365_1376.out
           obtain ⟨hcz73_0, hcz73_1, hcz73_2, hcz73_3, hcz73_4, hcz73_5, hfz73_0, hfz73_1, hfz73_2, hfz73_3, hfz73_4, hfz73_5⟩ := bk6 BK1376.out
           obtain ⟨hcz74_0, hcz74_1, hcz74_2, hcz74_3, hcz74_4, hcz74_5, hfz74_0, hfz74_1, hfz74_2, hfz74_3, hfz74_4, hfz74_5⟩ := bk6 BK1365.out
           go_wp2
           refine bodyPost_ret (results_ct rfl _ _ gb1365 38 #[.bool false, .slice Ao14 t1367.length co14, .slice Ao15 t1370.length co15, .int .i64 t1373, .int .i64 t1374, .int .i64 (wrap64 (t1375 + 1))] (0, 0) _ rfl (by (with_reducible repeat (first | refine blk_drewN ?_ _ | refine blk_drew ?_ | refine blk_alloc ?_ _)); refine blk_put (cs := #[.bool false, .slice Ao14 t1367.length co14, .slice Ao15 t1370.length co15, .int .i64 t1373, .int .i64 t1374, .int .i64 0]) ?_ 5 _ rfl; (with_reducible repeat (first | refine blk_drewN ?_ _ | refine blk_drew ?_ | refine blk_alloc ?_ _)); refine blk_put (cs := #[.bool false, .slice Ao14 t1367.length co14, .slice Ao15 t1370.length co15, .int .i64 t1373, .int .i64 0, .int .i64 0]) ?_ 4 _ rfl; (with_reducible repeat (first | refine blk_drewN ?_ _ | refine blk_drew ?_ | refine blk_alloc ?_ _)); refine blk_put (cs := #[.bool false, .slice Ao14 t1367.length co14, .slice Ao15 t1370.length co15, .int .i64 0, .int .i64 0, .int .i64 0]) ?_ 3 _ rfl; (with_reducible repeat (first | refine blk_drewN ?_ _ | refine blk_drew ?_ | refine blk_alloc ?_ _)); refine blk_put (cs := #[.bool false, .slice Ao14 t1367.length co14, .slice none 0 0, .int .i64 0, .int .i64 0, .int .i64 0]) ?_ 2 _ rfl; (with_reducible repeat (first | refine blk_drewN ?_ _ | refine blk_drew ?_ | refine blk_alloc ?_ _)); refine blk_put (cs := #[.bool false, .slice none 0 0, .slice none 0 0, .int .i64 0, .int .i64 0, .int .i64 0]) ?_ 1 _ rfl; (with_reducible repeat (first | refine blk_drewN ?_ _ | refine blk_drew ?_ | refine blk_alloc ?_ _)); refine blk_put (cs := #[.bool false, .slice none 0 0, .slice none 0 0, .int .i64 0, .int .i64 0, .int .i64 0]) ?_ 0 _ rfl; (with_reducible repeat (first | refine blk_drewN ?_ _ | refine blk_drew ?_ | refine blk_alloc ?_ _)); refine blk_far ?_ NB1365_1376.out _; (with_reducible repeat (first | refine blk_drewN ?_ _ | refine blk_drew ?_ | refine blk_alloc ?_ _)); refine blk_far ?_ NB1365_1376.out _; exact pkK BK1365.out) Try.underlying38 rfl (by kernel_rfl)) rfl ?_
           exact ⟨_, _, rfe, by (with_reducible repeat (first | apply Kd.R_alloc | apply Kd.R_drewN | apply Kd.R_drew)); exact Kd.R_mono (Kd.R_far (p := ⟨gb1365, 5, none⟩) (Kd.R_far (p := ⟨gb1365, 4, none⟩) (Kd.R_far (p := ⟨gb1365, 3, none⟩) (Kd.R_far (p := ⟨gb1365, 2, none⟩) (Kd.R_far (p := ⟨gb1365, 1, none⟩) (Kd.R_far (p := ⟨gb1365, 0, none⟩) (Kd.R_far (p := ⟨gb1376, 5, none⟩) (Kd.R_far (p := ⟨gb1376, 0, none⟩) (Kd.R_types (Kd.R_types HO_1377001.out BK1376.out (by decide)) BK1365.out (by decide)) (fun _ hk => hk.1.2) (.bool false)) (fun _ hk => hk.1.2) (.int .i64 (wrap64 (t1375 + 1)))) (fun _ hk => hk.2) (.bool false)) (fun _ hk => hk.2) (.slice Ao14 t1367.length co14)) (fun _ hk => hk.2) (.slice Ao15 t1370.length co15)) (fun _ hk => hk.2) (.int .i64 t1373)) (fun _ hk => hk.2) (.int .i64 t1374)) (fun _ hk => hk.2) (.int .i64 (wrap64 (t1375 + 1)))) (fun _ hk => trivial), by (with_reducible repeat (first | apply Kd.R_alloc | apply Kd.R_drewN | apply Kd.R_drew)); exact Kd.R_mono (Kd.R_far (p := ⟨gb1365, 5, none⟩) (Kd.R_far (p := ⟨gb1365, 4, none⟩) (Kd.R_far (p := ⟨gb1365, 3, none⟩) (Kd.R_far (p := ⟨gb1365, 2, none⟩) (Kd.R_far (p := ⟨gb1365, 1, none⟩) (Kd.R_far (p := ⟨gb1365, 0, none⟩) (Kd.R_far (p := ⟨gb1376, 5, none⟩) (Kd.R_far (p := ⟨gb1376, 0, none⟩) (Kd.R_types (Kd.R_types HO_1377002.out BK1376.out (by decide)) BK1365.out (by decide)) (fun _ hk => hk.1.2) (.bool false)) (fun _ hk => hk.1.2) (.int .i64 (wrap64 (t1375 + 1)))) (fun _ hk => hk.2) (.bool false)) (fun _ hk => hk.2) (.slice Ao14 t1367.length co14)) (fun _ hk => hk.2) (.slice Ao15 t1370.length co15)) (fun _ hk => hk.2) (.int .i64 t1373)) (fun _ hk => hk.2) (.int .i64 t1374)) (fun _ hk => hk.2) (.int .i64 (wrap64 (t1375 + 1)))) (fun _ hk => trivial), pkW HB.out⟩
          ·replace c68 := Bool.eq_false_iff.mpr c68
           subst c68
           replace H : (if t1367.length < 17592186044416 then (some (t1366, (t1367 ++ [a1]), t1370, t1373, t1374, t1375, 4)) else (none)) = some (r1, r2, r3, r4, r5, r6, r7) := by rw [if_neg (show ¬ (false = true) by decide)] at H; exact H
           by_cases c75 : t1367.length < 17592186044416
           ·rw [if_pos c75] at H
            have LMc75 := am c75
            clear c75
            obtain ⟨y1381, hy1381⟩ : ∃ y_ : List Int, y_ = (t1367 ++ [a1]) := ⟨_, rfl⟩
            replace H : (some (t1366, y1381, t1370, t1373, t1374, t1375, 4)) = some (r1, r2, r3, r4, r5, r6, r7) := by first | (rw [hy1381]; with_reducible exact H) | (have H2_ := (Option.bind_some _ _).symm.trans H; rw [hy1381]; with_reducible exact H2_) | (have H2_ := (Option.bind_some _ _).symm.trans H; with_reducible exact H2_) | with_reducible exact H | (rw [hy1381]; exact H) | exact H
            have Ny1381 := am hy1381
            clear hy1381
            simp only [Option.some.injEq, Prod.mk.injEq] at H
            obtain ⟨rfl, rfl, rfl, rfl, rfl, rfl, rfl⟩ := H
            have hnb76 := NB1364_1365.out
            have hnc76 := NB1365_1364.out
            have hnb77 := NB1364_1376.out
            have hnc77 := NB1376_1364.out
            obtain ⟨hcz78_0, hcz78_1, hcz78_2, hcz78_3, hcz78_4, hcz78_5, hfz78_0, hfz78_1, hfz78_2, hfz78_3, hfz78_4, hfz78_5⟩ := bk6 BK1364.out
            have hnb79 := NB1376_1365.out
            have hnc79 := NB1365_1376.out
            obtain ⟨hcz80_0, hcz80_1, hcz80_2, hcz80_3, hcz80_4, hcz80_5, hfz80_0, hfz80_1, hfz80_2, hfz80_3, hfz80_4, hfz80_5⟩ := bk6 BK1376.out
            go_wp2_with (first | ((with_reducible refine gate_builtin (b := .append) (xs := #[.tmp 58, .tmp 60]) rfl ?_); (try (refine gate_guard (by rfl) ?_; dsimp only)); at_builtin; refine Kd.R_append (Kd.int .i64) (w0 := w) w.heap.size rfl (.tmp 58) (.tmp 60) 22 3 (.int .i64 0) 8 rfl Try.underlying22 info3 rfl (by decide) (by omega) (.slice Ao14 t1367.length co14) t1367 a1 [.int .i64 a1] (fun _ => True) (fun _ => False) rfl rfl ?aP (fun _ hk => hk.elim) ?aF ?aO ?aB ?aS ?aL ?_; (case aP => exact rfl); (case aB => exact (pkW HB.out)); (case aF => exact (fun _ _ => trivial)); (case aO => exact (pkR HO_1377001.out)); (case aS => exact (below_size (pkW HB.out))); (case aL => have := LMc75.out; omega); intro v1382 w81 ho hb hg hat; rw [← Ny1381.out] at ho; replace HO_1377002 := am (Kd.R_over' (pkR HO_1377002.out) (Kd.R_typed (pkR HO_1377001.out)) (by decide) hg); replace BK1364 := am (blk_grown (g := gb1364) (o := .cells #[.bool false, .slice A0_1 l0_1.length c0_1, .slice A0_2 l0_2.length c0_2, .int .i64 a0_3, .int .i64 a0_4, .int .i64 a0_5] 38 (0, 0)) (pkK BK1364.out) hg (Kd.R_ne HO_1377001.out BK1364.out (by decide))); replace BK1365 := am (blk_grown (g := gb1365) (o := .cells #[.bool false, .slice none 0 0, .slice none 0 0, .int .i64 0, .int .i64 0, .int .i64 0] 38 (0, 0)) (pkK BK1365.out) hg (Kd.R_ne HO_1377001.out BK1365.out (by decide))); replace BK1376 := am (blk_grown (g := gb1376) (o := .cells #[.bool t1366, .slice Ao14 t1367.length co14, .slice Ao15 t1370.length co15, .int .i64 t1373, .int .i64 t1374, .int .i64 t1375] 38 (0, 0)) (pkK BK1376.out) hg (Kd.R_ne HO_1377001.out BK1376.out (by decide))); replace HB := am (hb); have HO1383 := am (ho); clear HO_1377001; clear ho hb hg hat; obtain ⟨Ao82, co82, eo82⟩ := Kd.R_slice HO1383.out; subst eo82; obtain ⟨hcz83_0, hcz83_1, hcz83_2, hcz83_3, hcz83_4, hcz83_5, hfz83_0, hfz83_1, hfz83_2, hfz83_3, hfz83_4, hfz83_5⟩ := bk6 BK1376.out; obtain ⟨hcz84_0, hcz84_1, hcz84_2, hcz84_3, hcz84_4, hcz84_5, hfz84_0, hfz84_1, hfz84_2, hfz84_3, hfz84_4, hfz84_5⟩ := bk6 BK1365.out))
            refine bodyPost_ret (results_ct rfl _ _ gb1365 38 #[.bool t1366, .slice Ao82 y1381.length co82, .slice Ao15 t1370.length co15, .int .i64 t1373, .int .i64 t1374, .int .i64 t1375] (0, 0) _ rfl (by (with_reducible repeat (first | refine blk_drewN ?_ _ | refine blk_drew ?_ | refine blk_alloc ?_ _)); refine blk_put (cs := #[.bool t1366, .slice Ao82 y1381.length co82, .slice Ao15 t1370.length co15, .int .i64 t1373, .int .i64 t1374, .int .i64 0]) ?_ 5 _ rfl; (with_reducible repeat (first | refine blk_drewN ?_ _ | refine blk_drew ?_ | refine blk_alloc ?_ _)); refine blk_put (cs := #[.bool t1366, .slice Ao82 y1381.length co82, .slice Ao15 t1370.length co15, .int .i64 t1373, .int .i64 0, .int .i64 0]) ?_ 4 _ rfl; (with_reducible repeat (first | refine blk_drewN ?_ _ | refine blk_drew ?_ | refine blk_alloc ?_ _)); refine blk_put (cs := #[.bool t1366, .slice Ao82 y1381.length co82, .slice Ao15 t1370.length co15, .int .i64 0, .int .i64 0, .int .i64 0]) ?_ 3 _ rfl; (with_reducible repeat (first | refine blk_drewN ?_ _ | refine blk_drew ?_ | refine blk_alloc ?_ _)); refine blk_put (cs := #[.bool t1366, .slice Ao82 y1381.length co82, .slice none 0 0, .int .i64 0, .int .i64 0, .int .i64 0]) ?_ 2 _ rfl; (with_reducible repeat (first | refine blk_drewN ?_ _ | refine blk_drew ?_ | refine blk_alloc ?_ _)); refine blk_put (cs := #[.bool t1366, .slice none 0 0, .slice none 0 0, .int .i64 0, .int .i64 0, .int .i64 0]) ?_ 1 _ rfl; (with_reducible repeat (first | refine blk_drewN ?_ _ | refine blk_drew ?_ | refine blk_alloc ?_ _)); refine blk_put (cs := #[.bool false, .slice none 0 0, .slice none 0 0, .int .i64 0, .int .i64 0, .int .i64 0]) ?_ 0 _ rfl; (with_reducible repeat (first | refine blk_drewN ?_ _ | refine blk_drew ?_ | refine blk_alloc ?_ _)); refine blk_far ?_ NB1365_1376.out _; exact pkK BK1365.out) Try.underlying38 rfl (by kernel_rfl)) rfl ?_
            exact ⟨_, _, rfe, by (with_reducible repeat (first | apply Kd.R_alloc | apply Kd.R_drewN | apply Kd.R_drew)); exact Kd.R_mono (Kd.R_far (p := ⟨gb1365, 5, none⟩) (Kd.R_far (p := ⟨gb1365, 4, none⟩) (Kd.R_far (p := ⟨gb1365, 3, none⟩) (Kd.R_far (p := ⟨gb1365, 2, none⟩) (Kd.R_far (p := ⟨gb1365, 1, none⟩) (Kd.R_far (p := ⟨gb1365, 0, none⟩) (Kd.R_far (p := ⟨gb1376, 1, none⟩) (Kd.R_types (Kd.R_types HO1383.out BK1376.out (by decide)) BK1365.out (by decide)) (fun _ hk => hk.1.2) (.slice Ao82 y1381.length co82)) (fun _ hk => hk.2) (.bool t1366)) (fun _ hk => hk.2) (.slice Ao82 y1381.length co82)) (fun _ hk => hk.2) (.slice Ao15 t1370.length co15)) (fun _ hk => hk.2) (.int .i64 t1373)) (fun _ hk => hk.2) (.int .i64 t1374)) (fun _ hk => hk.2) (.int .i64 t1375)) (fun _ hk => trivial), by (with_reducible repeat (first | apply Kd.R_alloc | apply Kd.R_drewN | apply Kd.R_drew)); exact Kd.R_mono (Kd.R_far (p := ⟨gb1365, 5, none⟩) (Kd.R_far (p := ⟨gb1365, 4, none⟩) (Kd.R_far (p := ⟨gb1365, 3, none⟩) (Kd.R_far (p := ⟨gb1365, 2, none⟩) (Kd.R_far (p := ⟨gb1365, 1, none⟩) (Kd.R_far (p := ⟨gb1365, 0, none⟩) (Kd.R_far (p := ⟨gb1376, 1, none⟩) (Kd.R_types (Kd.R_types HO_1377002.out BK1376.out (by decide)) BK1365.out (by decide)) (fun _ hk => hk.1.2) (.slice Ao82 y1381.length co82)) (fun _ hk => hk.2) (.bool t1366)) (fun _ hk => hk.2) (.slice Ao82 y1381.length co82)) (fun _ hk => hk.2) (.slice Ao15 t1370.length co15)) (fun _ hk => hk.2) (.int .i64 t1373)) (fun _ hk => hk.2) (.int .i64 t1374)) (fun _ hk => hk.2) (.int .i64 t1375)) (fun _ hk => trivial), pkW HB.out⟩
           ·rw [if_neg c75] at H
            exact absurd H (by simp)
end Go.Proofs.Ytdagpmnadapbjaa.Z
