/- The Go functions spec_Await as Lean functions, each with a proof that its code comes to just these answers; conditions: those of each theorem. -/
import Derived.Test.YtdagpmnadapbjaaZx0
import Derived.Test.YtdagpmnadapbjaaZx1
import Derived.Test.YtdagpmnadapbjaaZx2
import Derived.Test.YtdagpmnadapbjaaZx14
import Derived.Test.YtdagpmnadapbjaaZx15
import Derived.Test.YtdagpmnadapbjaaZx32
namespace Go.Proofs.Ytdagpmnadapbjaa.Z
open Go.RowKit Go.Proofs.YtdagpmnadapbjaaW.PrintWords Go.Proofs.YtdagpmnadapbjaaW.PrintLast Go.Proofs.YtdagpmnadapbjaaW.PrintMore
attribute [local go_sem] max2_int min2_int max_two min_two max_three min_three max_four min_four   -- for this text's walks alone
set_option linter.unusedVariables false
set_option linter.unusedSimpArgs false
mutual
def spec_Await.j0 : Nat → Int → Bool → Bool → List Int → List (S67) → Int → Int → Int → Bool → List Int → List (S67) → Int → Int → Int → Option (Bool × List Int × (List (S67)) × Int × Int × Int × Int)
 | 0, _, _, _, _, _, _, _, _, _, _, _, _, _, _ => none
 | k + 1, x1, x9, x1343000, x1343001, x1343002, x1343003, x1343004, x1343005, x1355000, x1355001, x1355002, x1355003, x1355004, x1355005 => if x9 = true then (some (x1355000, x1355001, x1355002, x1355003, x1355004, x1355005, 1)) else ((spec_l2Has.f k x1343001 x1).bind fun t1357 => (if t1357 = true then (spec_Await.j1 k x1 true x1343000 x1343001 x1343002 x1343003 x1343004 x1343005 x1355000 x1355001 x1355002 x1355003 x1355004 x1355005) else ((spec_l5At.f k x1343002 x1).bind fun t1358 => (spec_Await.j1 k x1 (decide (t1358 ≥ 0)) x1343000 x1343001 x1343002 x1343003 x1343004 x1343005 x1355000 x1355001 x1355002 x1355003 x1355004 x1355005))))
def spec_Await.j1 : Nat → Int → Bool → Bool → List Int → List (S67) → Int → Int → Int → Bool → List Int → List (S67) → Int → Int → Int → Option (Bool × List Int × (List (S67)) × Int × Int × Int × Int)
 | 0, _, _, _, _, _, _, _, _, _, _, _, _, _, _ => none
 | k + 1, x1, x19, x1343000, x1343001, x1343002, x1343003, x1343004, x1343005, x1355000, x1355001, x1355002, x1355003, x1355004, x1355005 => if x19 = true then (some (x1355000, x1355001, x1355002, x1355003, x1355004, x1355005, 5)) else (if x1343005 ≥ 1000000000 then (spec_Await.j2 k x1 true x1343000 x1343001 x1343002 x1343003 x1343004 x1343005 x1355000 x1355001 x1355002 x1355003 x1355004 x1355005) else (if x1343000 = true then (spec_Await.j2 k x1 false x1343000 x1343001 x1343002 x1343003 x1343004 x1343005 x1355000 x1355001 x1355002 x1355003 x1355004 x1355005) else (spec_Await.j2 k x1 (decide ((x1343001.length : Int) ≥ 32)) x1343000 x1343001 x1343002 x1343003 x1343004 x1343005 x1355000 x1355001 x1355002 x1355003 x1355004 x1355005)))
def spec_Await.j2 : Nat → Int → Bool → Bool → List Int → List (S67) → Int → Int → Int → Bool → List Int → List (S67) → Int → Int → Int → Option (Bool × List Int × (List (S67)) × Int × Int × Int × Int)
 | 0, _, _, _, _, _, _, _, _, _, _, _, _, _, _ => none
 | k + 1, x1, x32, x1343000, x1343001, x1343002, x1343003, x1343004, x1343005, x1355000, x1355001, x1355002, x1355003, x1355004, x1355005 => if x32 = true then (some (x1355000, x1355001, x1355002, x1355003, x1355004, x1355005, 2)) else (if x1343000 = true then (some (false, x1355001, x1355002, x1355003, x1355004, wrap64 (x1355005 + 1), 0)) else (if x1355001.length < 17592186044416 then (some (x1355000, (x1355001 ++ [x1]), x1355002, x1355003, x1355004, x1355005, 4)) else (none)))
end
def spec_Await.f (k : Nat) (a0_0 : Bool) (l0_1 : List Int) (l0_2 : List (S67)) (a0_3 : Int) (a0_4 : Int) (a0_5 : Int) (a1 : Int) : Option (Bool × List Int × (List (S67)) × Int × Int × Int × Int) := (spec_l5Copy.f a0_0 l0_1 l0_2 a0_3 a0_4 a0_5).bind fun bt1344 => ((spec_NotifyOk.f k a0_0 l0_1 l0_2 a0_3 a0_4 a0_5).bind fun t1355 => (if t1355 = true then ((spec_l2Client.f a1).bind fun t1356 => (spec_Await.j0 k a1 (!t1356) a0_0 l0_1 l0_2 a0_3 a0_4 a0_5 bt1344.1 bt1344.2.1 bt1344.2.2.1 bt1344.2.2.2.1 bt1344.2.2.2.2.1 bt1344.2.2.2.2.2)) else (spec_Await.j0 k a1 true a0_0 l0_1 l0_2 a0_3 a0_4 a0_5 bt1344.1 bt1344.2.1 bt1344.2.2.1 bt1344.2.2.2.1 bt1344.2.2.2.2.1 bt1344.2.2.2.2.2)))
theorem spec_Await.mono_l : ∀ k, (∀ y0 y1 y2 y3 y4 y5 y6 y7 y8 y9 y10 y11 y12 y13, LeO (spec_Await.j0 k y0 y1 y2 y3 y4 y5 y6 y7 y8 y9 y10 y11 y12 y13) (spec_Await.j0 (k + 1) y0 y1 y2 y3 y4 y5 y6 y7 y8 y9 y10 y11 y12 y13)) ∧ (∀ y0 y1 y2 y3 y4 y5 y6 y7 y8 y9 y10 y11 y12 y13, LeO (spec_Await.j1 k y0 y1 y2 y3 y4 y5 y6 y7 y8 y9 y10 y11 y12 y13) (spec_Await.j1 (k + 1) y0 y1 y2 y3 y4 y5 y6 y7 y8 y9 y10 y11 y12 y13)) ∧ (∀ y0 y1 y2 y3 y4 y5 y6 y7 y8 y9 y10 y11 y12 y13, LeO (spec_Await.j2 k y0 y1 y2 y3 y4 y5 y6 y7 y8 y9 y10 y11 y12 y13) (spec_Await.j2 (k + 1) y0 y1 y2 y3 y4 y5 y6 y7 y8 y9 y10 y11 y12 y13))
 | 0 => ⟨fun _ _ _ _ _ _ _ _ _ _ _ _ _ _ r h => by simp [spec_Await.j0] at h, fun _ _ _ _ _ _ _ _ _ _ _ _ _ _ r h => by simp [spec_Await.j1] at h, fun _ _ _ _ _ _ _ _ _ _ _ _ _ _ r h => by simp [spec_Await.j2] at h⟩
 | k + 1 => by
  obtain ⟨ih0, ih1, ih2⟩ := spec_Await.mono_l k
  refine ⟨?_, ?_, ?_⟩
  ·intro y0 y1 y2 y3 y4 y5 y6 y7 y8 y9 y10 y11 y12 y13
   unfold spec_Await.j0
   repeat' first
   | (with_reducible exact ih0 _ _ _ _ _ _ _ _ _ _ _ _ _ _)
   | (with_reducible exact ih1 _ _ _ _ _ _ _ _ _ _ _ _ _ _)
   | (with_reducible exact ih2 _ _ _ _ _ _ _ _ _ _ _ _ _ _)
   | (with_reducible exact spec_NotifyOk.mono _ _ _ _ _ _ _)
   | (with_reducible exact spec_l2Has.mono _ _ _)
   | (with_reducible exact spec_l5At.mono _ _ _)
   | (with_reducible exact LeO.refl _)
   | (with_reducible exact LeO.none _)
   | (with_reducible refine LeO.ite ?_ ?_)
   | (with_reducible refine LeO.bind ?_ (fun _ => ?_))
  ·intro y0 y1 y2 y3 y4 y5 y6 y7 y8 y9 y10 y11 y12 y13
   unfold spec_Await.j1
   repeat' first
   | (with_reducible exact ih0 _ _ _ _ _ _ _ _ _ _ _ _ _ _)
   | (with_reducible exact ih1 _ _ _ _ _ _ _ _ _ _ _ _ _ _)
   | (with_reducible exact ih2 _ _ _ _ _ _ _ _ _ _ _ _ _ _)
   | (with_reducible exact spec_NotifyOk.mono _ _ _ _ _ _ _)
   | (with_reducible exact spec_l2Has.mono _ _ _)
   | (with_reducible exact spec_l5At.mono _ _ _)
   | (with_reducible exact LeO.refl _)
   | (with_reducible exact LeO.none _)
   | (with_reducible refine LeO.ite ?_ ?_)
   | (with_reducible refine LeO.bind ?_ (fun _ => ?_))
  ·intro y0 y1 y2 y3 y4 y5 y6 y7 y8 y9 y10 y11 y12 y13
   unfold spec_Await.j2
   repeat' first
   | (with_reducible exact ih0 _ _ _ _ _ _ _ _ _ _ _ _ _ _)
   | (with_reducible exact ih1 _ _ _ _ _ _ _ _ _ _ _ _ _ _)
   | (with_reducible exact ih2 _ _ _ _ _ _ _ _ _ _ _ _ _ _)
   | (with_reducible exact spec_NotifyOk.mono _ _ _ _ _ _ _)
   | (with_reducible exact spec_l2Has.mono _ _ _)
   | (with_reducible exact spec_l5At.mono _ _ _)
   | (with_reducible exact LeO.refl _)
   | (with_reducible exact LeO.none _)
   | (with_reducible refine LeO.ite ?_ ?_)
   | (with_reducible refine LeO.bind ?_ (fun _ => ?_))
theorem spec_Await.mono : ∀ a0 a1 a2 a3 a4 a5 a6 k, LeO (spec_Await.f k a0 a1 a2 a3 a4 a5 a6) (spec_Await.f (k + 1) a0 a1 a2 a3 a4 a5 a6) := by
 intro a0 a1 a2 a3 a4 a5 a6 k
 obtain ⟨ih0, ih1, ih2⟩ := spec_Await.mono_l k
 unfold spec_Await.f
 repeat' first
   | (with_reducible exact ih0 _ _ _ _ _ _ _ _ _ _ _ _ _ _)
   | (with_reducible exact ih1 _ _ _ _ _ _ _ _ _ _ _ _ _ _)
   | (with_reducible exact ih2 _ _ _ _ _ _ _ _ _ _ _ _ _ _)
   | (with_reducible exact spec_NotifyOk.mono _ _ _ _ _ _ _)
   | (with_reducible exact spec_l2Has.mono _ _ _)
   | (with_reducible exact spec_l5At.mono _ _ _)
   | (with_reducible exact LeO.refl _)
   | (with_reducible exact LeO.none _)
   | (with_reducible refine LeO.ite ?_ ?_)
   | (with_reducible refine LeO.bind ?_ (fun _ => ?_))
set_option maxHeartbeats 8000000 in
set_option maxRecDepth 100000 in
theorem spec_Await.calls (k : Nat) (a0_0 : Bool) (A0_1 : Option Addr) (c0_1 : Nat) (l0_1 : List Int) (A0_2 : Option Addr) (c0_2 : Nat) (l0_2 : List (S67)) (a0_3 : Int) (a0_4 : Int) (a0_5 : Int) (a1 : Int) (r1 : Bool) (r2 : List Int) (r3 : List (S67)) (r4 : Int) (r5 : Int) (r6 : Int) (r7 : Int) (w : World) (hr0_1 : Kd.C (Kd.int .i64) w A0_1 l0_1.length l0_1) (hc0_1 : l0_1.length ≤ c0_1) (hr0_2 : Kd.C k67 w A0_2 l0_2.length l0_2) (hc0_2 : l0_2.length ≤ c0_2) (h : spec_Await.f k a0_0 l0_1 l0_2 a0_3 a0_4 a0_5 a1 = some (r1, r2, r3, r4, r5, r6, r7)) :
  Calls Try.prog 43 #[.agg #[.bool a0_0, .slice A0_1 l0_1.length c0_1, .slice A0_2 l0_2.length c0_2, .int .i64 a0_3, .int .i64 a0_4, .int .i64 a0_5], .int .i64 a1] w fun e w' => ∃ v1_ v2_ : Value, e = .returned (.tuple #[.agg #[.bool r1, v1_, v2_, .int .i64 r4, .int .i64 r5, .int .i64 r6], .int .i64 r7]) ∧ Kd.R (Kd.int .i64) 3 w' w.heap.size (fun _ => True) v1_ r2 ∧ Kd.R k67 67 w' w.heap.size (fun _ => True) v2_ r3 ∧ Below w.heap.size w w' := by
 have hu38 := Try.underlying38
 have HR0_1 := am hr0_1
 have HC0_1 := am hc0_1
 clear hr0_1 hc0_1
 have HR0_2 := am hr0_2
 have HC0_2 := am hc0_2
 clear hr0_2 hc0_2
 have HB := am (Below.refl w.heap.size w)
 have H : ((spec_l5Copy.f a0_0 l0_1 l0_2 a0_3 a0_4 a0_5).bind fun bt1344 => ((spec_NotifyOk.f k a0_0 l0_1 l0_2 a0_3 a0_4 a0_5).bind fun t1355 => (if t1355 = true then ((spec_l2Client.f a1).bind fun t1356 => (spec_Await.j0 k a1 (!t1356) a0_0 l0_1 l0_2 a0_3 a0_4 a0_5 bt1344.1 bt1344.2.1 bt1344.2.2.1 bt1344.2.2.2.1 bt1344.2.2.2.2.1 bt1344.2.2.2.2.2)) else (spec_Await.j0 k a1 true a0_0 l0_1 l0_2 a0_3 a0_4 a0_5 bt1344.1 bt1344.2.1 bt1344.2.2.1 bt1344.2.2.2.1 bt1344.2.2.2.2.1 bt1344.2.2.2.2.2)))) = some (r1, r2, r3, r4, r5, r6, r7) := h
 clear h
 replace H := Option.bind_eq_some_iff.mp H
 obtain ⟨⟨t1344, t1345, t1348, t1351, t1352, t1353⟩, A30, H⟩ := H
 replace H : ((spec_NotifyOk.f k a0_0 l0_1 l0_2 a0_3 a0_4 a0_5).bind fun t1355 => (if t1355 = true then ((spec_l2Client.f a1).bind fun t1356 => (spec_Await.j0 k a1 (!t1356) a0_0 l0_1 l0_2 a0_3 a0_4 a0_5 t1344 t1345 t1348 t1351 t1352 t1353)) else (spec_Await.j0 k a1 true a0_0 l0_1 l0_2 a0_3 a0_4 a0_5 t1344 t1345 t1348 t1351 t1352 t1353))) = some (r1, r2, r3, r4, r5, r6, r7) := H
 have A3 := am A30
 clear A30
 have HC4 := am H
 clear H
 go_enter Try.func43, Try.ntmps43
 go_upto_region 2 with (first | ((with_reducible refine gate_dst (N := 2) rfl ?_); (try (refine gate_guard (by rfl) ?_; dsimp only)); refine box_event ?hg (N := 2) ?hd (cs := #[.bool a0_0, .slice A0_1 l0_1.length c0_1, .slice A0_2 l0_2.length c0_2, .int .i64 a0_3, .int .i64 a0_4, .int .i64 a0_5]) (t := 38) ?hr ?_; (case hd => rfl); (case hg => rfl); (case hr => first | (go_simp; done) | (go_simp; rfl)); intro gb1342 hg w5 hbox hb; have BK1342 := am (hbox); have GW1342 := am ((by rw [hg]; exact (below_size (pkB HB.out)) : w.heap.size ≤ gb1342)); have GE1342 := am ((by rw [hg]; exact (below_size (pkB HB.out)) : w.heap.size ≤ gb1342)); replace HB := am (below_step (pkB HB.out) hb); clear hb hbox hg) | ((with_reducible refine gate_dst (N := 4) rfl ?_); (try (refine gate_guard (by rfl) ?_; dsimp only)); refine box_event ?hg (N := 4) ?hd (cs := #[.bool false, .slice none 0 0, .slice none 0 0, .int .i64 0, .int .i64 0, .int .i64 0]) (t := 38) ?hr ?_; (case hd => rfl); (case hg => rfl); (case hr => first | (go_simp; done) | (go_simp; rfl)); intro gb1343 hg w6 hbox hb; have BK1343 := am (hbox); have GW1343 := am ((by rw [hg]; exact (below_size (pkW HB.out)) : w.heap.size ≤ gb1343)); have GE1343 := am ((by rw [hg]; exact (below_size (pkW HB.out)) : w.heap.size ≤ gb1343)); replace HB := am (below_step (pkW HB.out) hb); have NB1342_1343 := am ((by rw [hg]; exact Nat.ne_of_lt (blk_lt (g := gb1342) (o := .cells #[.bool a0_0, .slice A0_1 l0_1.length c0_1, .slice A0_2 l0_2.length c0_2, .int .i64 a0_3, .int .i64 a0_4, .int .i64 a0_5] 38 (0, 0)) (pkK BK1342.out)) : gb1342 ≠ gb1343)); have NB1343_1342 := am ((by rw [hg]; exact Nat.ne_of_gt (blk_lt (g := gb1342) (o := .cells #[.bool a0_0, .slice A0_1 l0_1.length c0_1, .slice A0_2 l0_2.length c0_2, .int .i64 a0_3, .int .i64 a0_4, .int .i64 a0_5] 38 (0, 0)) (pkK BK1342.out)) : gb1343 ≠ gb1342)); replace BK1342 := am (blk_below (pkK BK1342.out) hb); clear hb hbox hg; have hnb7 := NB1342_1343.out; have hnc7 := NB1343_1342.out; obtain ⟨hcz8_0, hcz8_1, hcz8_2, hcz8_3, hcz8_4, hcz8_5, hfz8_0, hfz8_1, hfz8_2, hfz8_3, hfz8_4, hfz8_5⟩ := bk6 BK1342.out) | ((with_reducible refine gate_callee (f := 69) rfl ?_); refine goesL_ (some 8) rfl rfl Try.func69 (by kernel_rfl) rfl #[.agg #[.bool a0_0, .slice A0_1 l0_1.length c0_1, .slice A0_2 l0_2.length c0_2, .int .i64 a0_3, .int .i64 a0_4, .int .i64 a0_5]] rfl mpx ?_; (with_reducible refine (spec_l5Copy.calls a0_0 _ _ l0_1 _ _ l0_2 a0_3 a0_4 a0_5 t1344 t1345 t1348 t1351 t1352 t1353 _ ?side1 ?side2 ?side3 ?side4 A3.out).mono ?_); (case side1 => exact pkC (Kd.C_below HR0_1.out HB.out)); (case side2 => exact HC0_1.out); (case side3 => exact pkC (Kd.C_below HR0_2.out HB.out)); (case side4 => exact HC0_2.out); rintro e w9 ⟨v1346, v1349, rfl, ho0, ho1, hb⟩; refine ⟨_, rfl, ?_⟩; have HO1347 := am (Kd.R_lower ho0 (below_size (pkW HB.out))); have HO1350 := am (Kd.R_lower ho1 (below_size (pkW HB.out))); replace BK1342 := am (blk_below (pkK BK1342.out) hb); replace BK1343 := am (blk_below (pkK BK1343.out) hb); replace HB := am (below_step (pkW HB.out) hb); (try clear hb ho0 ho1)) | ((with_reducible refine gate_dst (N := 6) rfl ?_); (try (refine gate_guard (by rfl) ?_; dsimp only)); refine box_event ?hg (N := 6) ?hd (cs := #[.bool false, .slice none 0 0, .slice none 0 0, .int .i64 0, .int .i64 0, .int .i64 0]) (t := 38) ?hr ?_; (case hd => rfl); (case hg => rfl); (case hr => first | (go_simp; done) | (go_simp; rfl)); intro gb1354 hg w10 hbox hb; replace HO1347 := am (Kd.R_below (pkR HO1347.out) hb); replace HO1350 := am (Kd.R_below (pkR HO1350.out) hb); have BK1354 := am (hbox); have GW1354 := am ((by rw [hg]; exact (below_size (pkW HB.out)) : w.heap.size ≤ gb1354)); have GE1354 := am ((by rw [hg]; exact (below_size (pkW HB.out)) : w.heap.size ≤ gb1354)); replace HB := am (below_step (pkW HB.out) hb); have NB1342_1354 := am ((by rw [hg]; exact Nat.ne_of_lt (blk_lt (g := gb1342) (o := .cells #[.bool a0_0, .slice A0_1 l0_1.length c0_1, .slice A0_2 l0_2.length c0_2, .int .i64 a0_3, .int .i64 a0_4, .int .i64 a0_5] 38 (0, 0)) (pkK BK1342.out)) : gb1342 ≠ gb1354)); have NB1354_1342 := am ((by rw [hg]; exact Nat.ne_of_gt (blk_lt (g := gb1342) (o := .cells #[.bool a0_0, .slice A0_1 l0_1.length c0_1, .slice A0_2 l0_2.length c0_2, .int .i64 a0_3, .int .i64 a0_4, .int .i64 a0_5] 38 (0, 0)) (pkK BK1342.out)) : gb1354 ≠ gb1342)); replace BK1342 := am (blk_below (pkK BK1342.out) hb); have NB1343_1354 := am ((by rw [hg]; exact Nat.ne_of_lt (blk_lt (g := gb1343) (o := .cells #[.bool false, .slice none 0 0, .slice none 0 0, .int .i64 0, .int .i64 0, .int .i64 0] 38 (0, 0)) (pkK BK1343.out)) : gb1343 ≠ gb1354)); have NB1354_1343 := am ((by rw [hg]; exact Nat.ne_of_gt (blk_lt (g := gb1343) (o := .cells #[.bool false, .slice none 0 0, .slice none 0 0, .int .i64 0, .int .i64 0, .int .i64 0] 38 (0, 0)) (pkK BK1343.out)) : gb1354 ≠ gb1343)); replace BK1343 := am (blk_below (pkK BK1343.out) hb); clear hb hbox hg; have hnb11 := NB1354_1342.out; have hnc11 := NB1342_1354.out; have hnb12 := NB1354_1343.out; have hnc12 := NB1343_1354.out; obtain ⟨hcz13_0, hcz13_1, hcz13_2, hcz13_3, hcz13_4, hcz13_5, hfz13_0, hfz13_1, hfz13_2, hfz13_3, hfz13_4, hfz13_5⟩ := bk6 BK1354.out; obtain ⟨Ao14, co14, eo14⟩ := Kd.R_slice HO1347.out; subst eo14; obtain ⟨Ao15, co15, eo15⟩ := Kd.R_slice HO1350.out; subst eo15))
 (try simp only [Act.put, List.setIfInBounds_toArray, List.set_cons_zero, List.set_cons_succ])
 go_cut [9] (fun v9 wc => ∃ (kq : Nat) (x9_3 : Bool), v9 = .bool x9_3 ∧ Aside0 (spec_Await.j0 kq a1 x9_3 a0_0 l0_1 l0_2 a0_3 a0_4 a0_5 t1344 t1345 t1348 t1351 t1352 t1353 = some (r1, r2, r3, r4, r5, r6, r7)) ∧ Aside0 (kq ≤ k) ∧ Aside0 (Kd.R (Kd.int .i64) 3 wc w.heap.size (fun _ => True) (.slice Ao14 t1345.length co14) t1345) ∧ Aside0 (Kd.R k67 67 wc w.heap.size (fun _ => True) (.slice Ao15 t1348.length co15) t1348) ∧ Aside0 (wc.heap[gb1342]? = some (.cells #[.bool a0_0, (.slice A0_1 l0_1.length c0_1), (.slice A0_2 l0_2.length c0_2), .int .i64 a0_3, .int .i64 a0_4, .int .i64 a0_5] 38 (0, 0))) ∧ Aside0 (wc.heap[gb1343]? = some (.cells #[.bool false, (.slice none 0 0), (.slice none 0 0), .int .i64 0, .int .i64 0, .int .i64 0] 38 (0, 0))) ∧ Aside0 (wc.heap[gb1354]? = some (.cells #[.bool t1344, (.slice Ao14 t1345.length co14), (.slice Ao15 t1348.length co15), .int .i64 t1351, .int .i64 t1352, .int .i64 t1353] 38 (0, 0))) ∧ Aside0 (Below w.heap.size w wc))
 case first =>
  have H := HC4.out
  clear HC4
  replace H := Option.bind_eq_some_iff.mp H
  obtain ⟨t1355, A160, H⟩ := H
  replace H : (if t1355 = true then ((spec_l2Client.f a1).bind fun t1356 => (spec_Await.j0 k a1 (!t1356) a0_0 l0_1 l0_2 a0_3 a0_4 a0_5 t1344 t1345 t1348 t1351 t1352 t1353)) else (spec_Await.j0 k a1 true a0_0 l0_1 l0_2 a0_3 a0_4 a0_5 t1344 t1345 t1348 t1351 t1352 t1353)) = some (r1, r2, r3, r4, r5, r6, r7) := H
  have A16 := am A160
  clear A160
  by_cases c17 : t1355 = true
  ·subst c17
   replace H : ((spec_l2Client.f a1).bind fun t1356 => (spec_Await.j0 k a1 (!t1356) a0_0 l0_1 l0_2 a0_3 a0_4 a0_5 t1344 t1345 t1348 t1351 t1352 t1353)) = some (r1, r2, r3, r4, r5, r6, r7) := by rw [if_pos rfl] at H; exact H
   replace H := Option.bind_eq_some_iff.mp H
   obtain ⟨t1356, A180, H⟩ := H
   replace H : (spec_Await.j0 k a1 (!t1356) a0_0 l0_1 l0_2 a0_3 a0_4 a0_5 t1344 t1345 t1348 t1351 t1352 t1353) = some (r1, r2, r3, r4, r5, r6, r7) := H
   have A18 := am A180
   clear A180
   have H' := am H
   clear H
   have hnb19 := NB1342_1343.out
   have hnc19 := NB1343_1342.out
   have hnb20 := NB1342_1354.out
   have hnc20 := NB1354_1342.out
   obtain ⟨hcz21_0, hcz21_1, hcz21_2, hcz21_3, hcz21_4, hcz21_5, hfz21_0, hfz21_1, hfz21_2, hfz21_3, hfz21_4, hfz21_5⟩ := bk6 BK1342.out
   go_wp2_with (first | ((with_reducible refine gate_callee (f := 20) rfl ?_); refine goesL_ (some 11) rfl rfl Try.func20 (by kernel_rfl) rfl #[.agg #[.bool a0_0, .slice A0_1 l0_1.length c0_1, .slice A0_2 l0_2.length c0_2, .int .i64 a0_3, .int .i64 a0_4, .int .i64 a0_5]] rfl mpx ?_; (with_reducible refine (spec_NotifyOk.calls k a0_0 _ _ l0_1 _ _ l0_2 a0_3 a0_4 a0_5 true _ ?side1 ?side2 ?side3 ?side4 A16.out).mono ?_); (case side1 => exact Kd.C_below HR0_1.out (pkW HB.out)); (case side2 => exact HC0_1.out); (case side3 => exact Kd.C_below HR0_2.out (pkW HB.out)); (case side4 => exact HC0_2.out); rintro e w22 ⟨rfl, hb⟩; refine ⟨_, rfl, ?_⟩; replace HO1347 := am (Kd.R_below (by (with_reducible repeat (first | apply Kd.R_alloc | apply Kd.R_drewN | apply Kd.R_drew)); exact (Kd.R_mono (Kd.R_far (p := ⟨gb1354, 5, none⟩) (Kd.R_far (p := ⟨gb1354, 4, none⟩) (Kd.R_far (p := ⟨gb1354, 3, none⟩) (Kd.R_far (p := ⟨gb1354, 2, none⟩) (Kd.R_far (p := ⟨gb1354, 1, none⟩) (Kd.R_far (p := ⟨gb1354, 0, none⟩) (Kd.R_types HO1347.out BK1354.out (by decide)) (fun _ hk => hk.2) (.bool t1344)) (fun _ hk => hk.2) (.slice Ao14 t1345.length co14)) (fun _ hk => hk.2) (.slice Ao15 t1348.length co15)) (fun _ hk => hk.2) (.int .i64 t1351)) (fun _ hk => hk.2) (.int .i64 t1352)) (fun _ hk => hk.2) (.int .i64 t1353)) (fun _ h_ => h_.1))) hb); replace HO1350 := am (Kd.R_below (by (with_reducible repeat (first | apply Kd.R_alloc | apply Kd.R_drewN | apply Kd.R_drew)); exact (Kd.R_mono (Kd.R_far (p := ⟨gb1354, 5, none⟩) (Kd.R_far (p := ⟨gb1354, 4, none⟩) (Kd.R_far (p := ⟨gb1354, 3, none⟩) (Kd.R_far (p := ⟨gb1354, 2, none⟩) (Kd.R_far (p := ⟨gb1354, 1, none⟩) (Kd.R_far (p := ⟨gb1354, 0, none⟩) (Kd.R_types HO1350.out BK1354.out (by decide)) (fun _ hk => hk.2) (.bool t1344)) (fun _ hk => hk.2) (.slice Ao14 t1345.length co14)) (fun _ hk => hk.2) (.slice Ao15 t1348.length co15)) (fun _ hk => hk.2) (.int .i64 t1351)) (fun _ hk => hk.2) (.int .i64 t1352)) (fun _ hk => hk.2) (.int .i64 t1353)) (fun _ h_ => h_.1))) hb); replace BK1342 := am (blk_below (g := gb1342) (o := .cells #[.bool a0_0, .slice A0_1 l0_1.length c0_1, .slice A0_2 l0_2.length c0_2, .int .i64 a0_3, .int .i64 a0_4, .int .i64 a0_5] 38 (0, 0)) (by (with_reducible repeat (first | refine blk_drewN ?_ _ | refine blk_drew ?_ | refine blk_alloc ?_ _)); refine blk_far ?_ NB1342_1354.out _; (with_reducible repeat (first | refine blk_drewN ?_ _ | refine blk_drew ?_ | refine blk_alloc ?_ _)); refine blk_far ?_ NB1342_1354.out _; (with_reducible repeat (first | refine blk_drewN ?_ _ | refine blk_drew ?_ | refine blk_alloc ?_ _)); refine blk_far ?_ NB1342_1354.out _; (with_reducible repeat (first | refine blk_drewN ?_ _ | refine blk_drew ?_ | refine blk_alloc ?_ _)); refine blk_far ?_ NB1342_1354.out _; (with_reducible repeat (first | refine blk_drewN ?_ _ | refine blk_drew ?_ | refine blk_alloc ?_ _)); refine blk_far ?_ NB1342_1354.out _; (with_reducible repeat (first | refine blk_drewN ?_ _ | refine blk_drew ?_ | refine blk_alloc ?_ _)); refine blk_far ?_ NB1342_1354.out _; exact pkK BK1342.out) hb); replace BK1343 := am (blk_below (g := gb1343) (o := .cells #[.bool false, .slice none 0 0, .slice none 0 0, .int .i64 0, .int .i64 0, .int .i64 0] 38 (0, 0)) (by (with_reducible repeat (first | refine blk_drewN ?_ _ | refine blk_drew ?_ | refine blk_alloc ?_ _)); refine blk_far ?_ NB1343_1354.out _; (with_reducible repeat (first | refine blk_drewN ?_ _ | refine blk_drew ?_ | refine blk_alloc ?_ _)); refine blk_far ?_ NB1343_1354.out _; (with_reducible repeat (first | refine blk_drewN ?_ _ | refine blk_drew ?_ | refine blk_alloc ?_ _)); refine blk_far ?_ NB1343_1354.out _; (with_reducible repeat (first | refine blk_drewN ?_ _ | refine blk_drew ?_ | refine blk_alloc ?_ _)); refine blk_far ?_ NB1343_1354.out _; (with_reducible repeat (first | refine blk_drewN ?_ _ | refine blk_drew ?_ | refine blk_alloc ?_ _)); refine blk_far ?_ NB1343_1354.out _; (with_reducible repeat (first | refine blk_drewN ?_ _ | refine blk_drew ?_ | refine blk_alloc ?_ _)); refine blk_far ?_ NB1343_1354.out _; exact pkK BK1343.out) hb); replace BK1354 := am (blk_below (g := gb1354) (o := .cells #[.bool t1344, .slice Ao14 t1345.length co14, .slice Ao15 t1348.length co15, .int .i64 t1351, .int .i64 t1352, .int .i64 t1353] 38 (0, 0)) (by (with_reducible repeat (first | refine blk_drewN ?_ _ | refine blk_drew ?_ | refine blk_alloc ?_ _)); refine blk_put (cs := #[.bool t1344, .slice Ao14 t1345.length co14, .slice Ao15 t1348.length co15, .int .i64 t1351, .int .i64 t1352, .int .i64 0]) ?_ 5 _ rfl; (with_reducible repeat (first | refine blk_drewN ?_ _ | refine blk_drew ?_ | refine blk_alloc ?_ _)); refine blk_put (cs := #[.bool t1344, .slice Ao14 t1345.length co14, .slice Ao15 t1348.length co15, .int .i64 t1351, .int .i64 0, .int .i64 0]) ?_ 4 _ rfl; (with_reducible repeat (first | refine blk_drewN ?_ _ | refine blk_drew ?_ | refine blk_alloc ?_ _)); refine blk_put (cs := #[.bool t1344, .slice Ao14 t1345.length co14, .slice Ao15 t1348.length co15, .int .i64 0, .int .i64 0, .int .i64 0]) ?_ 3 _ rfl; (with_reducible repeat (first | refine blk_drewN ?_ _ | refine blk_drew ?_ | refine blk_alloc ?_ _)); refine blk_put (cs := #[.bool t1344, .slice Ao14 t1345.length co14, .slice none 0 0, .int .i64 0, .int .i64 0, .int .i64 0]) ?_ 2 _ rfl; (with_reducible repeat (first | refine blk_drewN ?_ _ | refine blk_drew ?_ | refine blk_alloc ?_ _)); refine blk_put (cs := #[.bool t1344, .slice none 0 0, .slice none 0 0, .int .i64 0, .int .i64 0, .int .i64 0]) ?_ 1 _ rfl; (with_reducible repeat (first | refine blk_drewN ?_ _ | refine blk_drew ?_ | refine blk_alloc ?_ _)); refine blk_put (cs := #[.bool false, .slice none 0 0, .slice none 0 0, .int .i64 0, .int .i64 0, .int .i64 0]) ?_ 0 _ rfl; exact pkK BK1354.out) hb); replace HB := am (below_step (pkW HB.out) hb); (try clear hb)) | (go_at_call 58; (with_reducible refine (spec_l2Client.calls a1 t1356 _ A18.out).mono ?_); rintro e w' ⟨rfl, ⟨nd, rfl⟩⟩))
   go_meet
   case rel => exact ⟨_, (!t1356), rfx, H', ⟨by first | omega | exact Nat.le_refl _⟩, ⟨pkR HO1347.out⟩, ⟨pkR HO1350.out⟩, ⟨pkK BK1342.out⟩, ⟨pkK BK1343.out⟩, ⟨pkK BK1354.out⟩, ⟨pkW HB.out⟩⟩
  ·replace c17 := Bool.eq_false_iff.mpr c17
   subst c17
   replace H : (spec_Await.j0 k a1 true a0_0 l0_1 l0_2 a0_3 a0_4 a0_5 t1344 t1345 t1348 t1351 t1352 t1353) = some (r1, r2, r3, r4, r5, r6, r7) := by rw [if_neg (show ¬ (false = true) by decide)] at H; exact H
   have H' := am H
   clear H
   have hnb23 := NB1342_1343.out
   have hnc23 := NB1343_1342.out
   have hnb24 := NB1342_1354.out
   have hnc24 := NB1354_1342.out
   obtain ⟨hcz25_0, hcz25_1, hcz25_2, hcz25_3, hcz25_4, hcz25_5, hfz25_0, hfz25_1, hfz25_2, hfz25_3, hfz25_4, hfz25_5⟩ := bk6 BK1342.out
   go_wp2_with (first | ((with_reducible refine gate_callee (f := 20) rfl ?_); refine goesL_ (some 11) rfl rfl Try.func20 (by kernel_rfl) rfl #[.agg #[.bool a0_0, .slice A0_1 l0_1.length c0_1, .slice A0_2 l0_2.length c0_2, .int .i64 a0_3, .int .i64 a0_4, .int .i64 a0_5]] rfl mpx ?_; (with_reducible refine (spec_NotifyOk.calls k a0_0 _ _ l0_1 _ _ l0_2 a0_3 a0_4 a0_5 false _ ?side1 ?side2 ?side3 ?side4 A16.out).mono ?_); (case side1 => exact Kd.C_below HR0_1.out (pkW HB.out)); (case side2 => exact HC0_1.out); (case side3 => exact Kd.C_below HR0_2.out (pkW HB.out)); (case side4 => exact HC0_2.out); rintro e w26 ⟨rfl, hb⟩; refine ⟨_, rfl, ?_⟩; replace HO1347 := am (Kd.R_below (by (with_reducible repeat (first | apply Kd.R_alloc | apply Kd.R_drewN | apply Kd.R_drew)); exact (Kd.R_mono (Kd.R_far (p := ⟨gb1354, 5, none⟩) (Kd.R_far (p := ⟨gb1354, 4, none⟩) (Kd.R_far (p := ⟨gb1354, 3, none⟩) (Kd.R_far (p := ⟨gb1354, 2, none⟩) (Kd.R_far (p := ⟨gb1354, 1, none⟩) (Kd.R_far (p := ⟨gb1354, 0, none⟩) (Kd.R_types HO1347.out BK1354.out (by decide)) (fun _ hk => hk.2) (.bool t1344)) (fun _ hk => hk.2) (.slice Ao14 t1345.length co14)) (fun _ hk => hk.2) (.slice Ao15 t1348.length co15)) (fun _ hk => hk.2) (.int .i64 t1351)) (fun _ hk => hk.2) (.int .i64 t1352)) (fun _ hk => hk.2) (.int .i64 t1353)) (fun _ h_ => h_.1))) hb); replace HO1350 := am (Kd.R_below (by (with_reducible repeat (first | apply Kd.R_alloc | apply Kd.R_drewN | apply Kd.R_drew)); exact (Kd.R_mono (Kd.R_far (p := ⟨gb1354, 5, none⟩) (Kd.R_far (p := ⟨gb1354, 4, none⟩) (Kd.R_far (p := ⟨gb1354, 3, none⟩) (Kd.R_far (p := ⟨gb1354, 2, none⟩) (Kd.R_far (p := ⟨gb1354, 1, none⟩) (Kd.R_far (p := ⟨gb1354, 0, none⟩) (Kd.R_types HO1350.out BK1354.out (by decide)) (fun _ hk => hk.2) (.bool t1344)) (fun _ hk => hk.2) (.slice Ao14 t1345.length co14)) (fun _ hk => hk.2) (.slice Ao15 t1348.length co15)) (fun _ hk => hk.2) (.int .i64 t1351)) (fun _ hk => hk.2) (.int .i64 t1352)) (fun _ hk => hk.2) (.int .i64 t1353)) (fun _ h_ => h_.1))) hb); replace BK1342 := am (blk_below (g := gb1342) (o := .cells #[.bool a0_0, .slice A0_1 l0_1.length c0_1, .slice A0_2 l0_2.length c0_2, .int .i64 a0_3, .int .i64 a0_4, .int .i64 a0_5] 38 (0, 0)) (by (with_reducible repeat (first | refine blk_drewN ?_ _ | refine blk_drew ?_ | refine blk_alloc ?_ _)); refine blk_far ?_ NB1342_1354.out _; (with_reducible repeat (first | refine blk_drewN ?_ _ | refine blk_drew ?_ | refine blk_alloc ?_ _)); refine blk_far ?_ NB1342_1354.out _; (with_reducible repeat (first | refine blk_drewN ?_ _ | refine blk_drew ?_ | refine blk_alloc ?_ _)); refine blk_far ?_ NB1342_1354.out _; (with_reducible repeat (first | refine blk_drewN ?_ _ | refine blk_drew ?_ | refine blk_alloc ?_ _)); refine blk_far ?_ NB1342_1354.out _; (with_reducible repeat (first | refine blk_drewN ?_ _ | refine blk_drew ?_ | refine blk_alloc ?_ _)); refine blk_far ?_ NB1342_1354.out _; (with_reducible repeat (first | refine blk_drewN ?_ _ | refine blk_drew ?_ | refine blk_alloc ?_ _)); refine blk_far ?_ NB1342_1354.out _; exact pkK BK1342.out) hb); replace BK1343 := am (blk_below (g := gb1343) (o := .cells #[.bool false, .slice none 0 0, .slice none 0 0, .int .i64 0, .int .i64 0, .int .i64 0] 38 (0, 0)) (by (with_reducible repeat (first | refine blk_drewN ?_ _ | refine blk_drew ?_ | refine blk_alloc ?_ _)); refine blk_far ?_ NB1343_1354.out _; (with_reducible repeat (first | refine blk_drewN ?_ _ | refine blk_drew ?_ | refine blk_alloc ?_ _)); refine blk_far ?_ NB1343_1354.out _; (with_reducible repeat (first | refine blk_drewN ?_ _ | refine blk_drew ?_ | refine blk_alloc ?_ _)); refine blk_far ?_ NB1343_1354.out _; (with_reducible repeat (first | refine blk_drewN ?_ _ | refine blk_drew ?_ | refine blk_alloc ?_ _)); refine blk_far ?_ NB1343_1354.out _; (with_reducible repeat (first | refine blk_drewN ?_ _ | refine blk_drew ?_ | refine blk_alloc ?_ _)); refine blk_far ?_ NB1343_1354.out _; (with_reducible repeat (first | refine blk_drewN ?_ _ | refine blk_drew ?_ | refine blk_alloc ?_ _)); refine blk_far ?_ NB1343_1354.out _; exact pkK BK1343.out) hb); replace BK1354 := am (blk_below (g := gb1354) (o := .cells #[.bool t1344, .slice Ao14 t1345.length co14, .slice Ao15 t1348.length co15, .int .i64 t1351, .int .i64 t1352, .int .i64 t1353] 38 (0, 0)) (by (with_reducible repeat (first | refine blk_drewN ?_ _ | refine blk_drew ?_ | refine blk_alloc ?_ _)); refine blk_put (cs := #[.bool t1344, .slice Ao14 t1345.length co14, .slice Ao15 t1348.length co15, .int .i64 t1351, .int .i64 t1352, .int .i64 0]) ?_ 5 _ rfl; (with_reducible repeat (first | refine blk_drewN ?_ _ | refine blk_drew ?_ | refine blk_alloc ?_ _)); refine blk_put (cs := #[.bool t1344, .slice Ao14 t1345.length co14, .slice Ao15 t1348.length co15, .int .i64 t1351, .int .i64 0, .int .i64 0]) ?_ 4 _ rfl; (with_reducible repeat (first | refine blk_drewN ?_ _ | refine blk_drew ?_ | refine blk_alloc ?_ _)); refine blk_put (cs := #[.bool t1344, .slice Ao14 t1345.length co14, .slice Ao15 t1348.length co15, .int .i64 0, .int .i64 0, .int .i64 0]) ?_ 3 _ rfl; (with_reducible repeat (first | refine blk_drewN ?_ _ | refine blk_drew ?_ | refine blk_alloc ?_ _)); refine blk_put (cs := #[.bool t1344, .slice Ao14 t1345.length co14, .slice none 0 0, .int .i64 0, .int .i64 0, .int .i64 0]) ?_ 2 _ rfl; (with_reducible repeat (first | refine blk_drewN ?_ _ | refine blk_drew ?_ | refine blk_alloc ?_ _)); refine blk_put (cs := #[.bool t1344, .slice none 0 0, .slice none 0 0, .int .i64 0, .int .i64 0, .int .i64 0]) ?_ 1 _ rfl; (with_reducible repeat (first | refine blk_drewN ?_ _ | refine blk_drew ?_ | refine blk_alloc ?_ _)); refine blk_put (cs := #[.bool false, .slice none 0 0, .slice none 0 0, .int .i64 0, .int .i64 0, .int .i64 0]) ?_ 0 _ rfl; exact pkK BK1354.out) hb); replace HB := am (below_step (pkW HB.out) hb); (try clear hb)))
   go_meet
   case rel => exact ⟨_, (true), rfx, H', ⟨by first | omega | exact Nat.le_refl _⟩, ⟨pkR HO1347.out⟩, ⟨pkR HO1350.out⟩, ⟨pkK BK1342.out⟩, ⟨pkK BK1343.out⟩, ⟨pkK BK1354.out⟩, ⟨pkW HB.out⟩⟩
 case rest =>
  clear HC4
  try clear c1
  try clear c2
  try clear p2
  try clear c4
  try clear c6
  try clear c7
  try clear c11
  try clear c12
  try clear c17
  try clear c19
  try clear c20
  try clear c23
  try clear c24
  try clear hcz13_0
  try clear hcz13_1
  try clear hcz13_2
  try clear hcz13_3
  try clear hcz13_4
  try clear hcz13_5
  try clear hcz21_0
  try clear hcz21_1
  try clear hcz21_2
  try clear hcz21_3
  try clear hcz21_4
  try clear hcz21_5
  try clear hcz25_0
  try clear hcz25_1
  try clear hcz25_2
  try clear hcz25_3
  try clear hcz25_4
  try clear hcz25_5
  try clear hcz8_0
  try clear hcz8_1
  try clear hcz8_2
  try clear hcz8_3
  try clear hcz8_4
  try clear hcz8_5
  try clear hfz13_0
  try clear hfz13_1
  try clear hfz13_2
  try clear hfz13_3
  try clear hfz13_4
  try clear hfz13_5
  try clear hfz21_0
  try clear hfz21_1
  try clear hfz21_2
  try clear hfz21_3
  try clear hfz21_4
  try clear hfz21_5
  try clear hfz25_0
  try clear hfz25_1
  try clear hfz25_2
  try clear hfz25_3
  try clear hfz25_4
  try clear hfz25_5
  try clear hfz8_0
  try clear hfz8_1
  try clear hfz8_2
  try clear hfz8_3
  try clear hfz8_4
  try clear hfz8_5
  obtain ⟨kq, x9_3, rfl, HA, HJ3, HO_1355001, HO_1355002, BK1342, BK1343, BK1354, HB⟩ := hcut
  cases kq with
  | zero => exact absurd HA.out (by simp [spec_Await.j0])
  | succ kj3 =>
   have H := HA.out
   clear HA
   simp only [spec_Await.j0] at H
   by_cases c27 : x9_3 = true
   ·subst c27
    replace H : (some (t1344, t1345, t1348, t1351, t1352, t1353, 1)) = some (r1, r2, r3, r4, r5, r6, r7) := by rw [if_pos rfl] at H; exact H
    simp only [Option.some.injEq, Prod.mk.injEq] at H
    obtain ⟨rfl, rfl, rfl, rfl, rfl, rfl, rfl⟩ := H
    have hnb28 := NB1354_1342.out
    have hnc28 := NB1342_1354.out
    have hnb29 := NB1354_1343.out
    have hnc29 := NB1343_1354.out
    obtain ⟨hcz30_0, hcz30_1, hcz30_2, hcz30_3, hcz30_4, hcz30_5, hfz30_0, hfz30_1, hfz30_2, hfz30_3, hfz30_4, hfz30_5⟩ := bk6 BK1354.out
    have hnb31 := NB1343_1342.out
    have hnc31 := NB1342_1343.out
    obtain ⟨hcz32_0, hcz32_1, hcz32_2, hcz32_3, hcz32_4, hcz32_5, hfz32_0, hfz32_1, hfz32_2, hfz32_3, hfz32_4, hfz32_5⟩ := bk6 BK1343.out
    go_wp2
    refine bodyPost_ret (results_ct rfl _ _ gb1343 38 #[.bool t1344, .slice Ao14 t1345.length co14, .slice Ao15 t1348.length co15, .int .i64 t1351, .int .i64 t1352, .int .i64 t1353] (0, 0) _ rfl (by (with_reducible repeat (first | refine blk_drewN ?_ _ | refine blk_drew ?_ | refine blk_alloc ?_ _)); refine blk_put (cs := #[.bool t1344, .slice Ao14 t1345.length co14, .slice Ao15 t1348.length co15, .int .i64 t1351, .int .i64 t1352, .int .i64 0]) ?_ 5 _ rfl; (with_reducible repeat (first | refine blk_drewN ?_ _ | refine blk_drew ?_ | refine blk_alloc ?_ _)); refine blk_put (cs := #[.bool t1344, .slice Ao14 t1345.length co14, .slice Ao15 t1348.length co15, .int .i64 t1351, .int .i64 0, .int .i64 0]) ?_ 4 _ rfl; (with_reducible repeat (first | refine blk_drewN ?_ _ | refine blk_drew ?_ | refine blk_alloc ?_ _)); refine blk_put (cs := #[.bool t1344, .slice Ao14 t1345.length co14, .slice Ao15 t1348.length co15, .int .i64 0, .int .i64 0, .int .i64 0]) ?_ 3 _ rfl; (with_reducible repeat (first | refine blk_drewN ?_ _ | refine blk_drew ?_ | refine blk_alloc ?_ _)); refine blk_put (cs := #[.bool t1344, .slice Ao14 t1345.length co14, .slice none 0 0, .int .i64 0, .int .i64 0, .int .i64 0]) ?_ 2 _ rfl; (with_reducible repeat (first | refine blk_drewN ?_ _ | refine blk_drew ?_ | refine blk_alloc ?_ _)); refine blk_put (cs := #[.bool t1344, .slice none 0 0, .slice none 0 0, .int .i64 0, .int .i64 0, .int .i64 0]) ?_ 1 _ rfl; (with_reducible repeat (first | refine blk_drewN ?_ _ | refine blk_drew ?_ | refine blk_alloc ?_ _)); refine blk_put (cs := #[.bool false, .slice none 0 0, .slice none 0 0, .int .i64 0, .int .i64 0, .int .i64 0]) ?_ 0 _ rfl; exact pkK BK1343.out) Try.underlying38 rfl (by kernel_rfl)) rfl ?_
    exact ⟨_, _, rfe, by (with_reducible repeat (first | apply Kd.R_alloc | apply Kd.R_drewN | apply Kd.R_drew)); exact Kd.R_mono (Kd.R_far (p := ⟨gb1343, 5, none⟩) (Kd.R_far (p := ⟨gb1343, 4, none⟩) (Kd.R_far (p := ⟨gb1343, 3, none⟩) (Kd.R_far (p := ⟨gb1343, 2, none⟩) (Kd.R_far (p := ⟨gb1343, 1, none⟩) (Kd.R_far (p := ⟨gb1343, 0, none⟩) (Kd.R_types HO_1355001.out BK1343.out (by decide)) (fun _ hk => hk.2) (.bool t1344)) (fun _ hk => hk.2) (.slice Ao14 t1345.length co14)) (fun _ hk => hk.2) (.slice Ao15 t1348.length co15)) (fun _ hk => hk.2) (.int .i64 t1351)) (fun _ hk => hk.2) (.int .i64 t1352)) (fun _ hk => hk.2) (.int .i64 t1353)) (fun _ hk => trivial), by (with_reducible repeat (first | apply Kd.R_alloc | apply Kd.R_drewN | apply Kd.R_drew)); exact Kd.R_mono (Kd.R_far (p := ⟨gb1343, 5, none⟩) (Kd.R_far (p := ⟨gb1343, 4, none⟩) (Kd.R_far (p := ⟨gb1343, 3, none⟩) (Kd.R_far (p := ⟨gb1343, 2, none⟩) (Kd.R_far (p := ⟨gb1343, 1, none⟩) (Kd.R_far (p := ⟨gb1343, 0, none⟩) (Kd.R_types HO_1355002.out BK1343.out (by decide)) (fun _ hk => hk.2) (.bool t1344)) (fun _ hk => hk.2) (.slice Ao14 t1345.length co14)) (fun _ hk => hk.2) (.slice Ao15 t1348.length co15)) (fun _ hk => hk.2) (.int .i64 t1351)) (fun _ hk => hk.2) (.int .i64 t1352)) (fun _ hk => hk.2) (.int .i64 t1353)) (fun _ hk => trivial), pkW HB.out⟩
   ·replace c27 := Bool.eq_false_iff.mpr c27
    subst c27
    replace H : ((spec_l2Has.f kj3 l0_1 a1).bind fun t1357 => (if t1357 = true then (spec_Await.j1 kj3 a1 true a0_0 l0_1 l0_2 a0_3 a0_4 a0_5 t1344 t1345 t1348 t1351 t1352 t1353) else ((spec_l5At.f kj3 l0_2 a1).bind fun t1358 => (spec_Await.j1 kj3 a1 (decide (t1358 ≥ 0)) a0_0 l0_1 l0_2 a0_3 a0_4 a0_5 t1344 t1345 t1348 t1351 t1352 t1353)))) = some (r1, r2, r3, r4, r5, r6, r7) := by rw [if_neg (show ¬ (false = true) by decide)] at H; exact H
    have HC33 := am H
    clear H
    go_upto_region 4 with (fail)
    go_cut [19] (fun v19 wc => ∃ (kq : Nat) (x19_32 : Bool), v19 = .bool x19_32 ∧ Aside0 (spec_Await.j1 kq a1 x19_32 a0_0 l0_1 l0_2 a0_3 a0_4 a0_5 t1344 t1345 t1348 t1351 t1352 t1353 = some (r1, r2, r3, r4, r5, r6, r7)) ∧ Aside0 (kq ≤ kj3) ∧ Aside0 (Kd.R (Kd.int .i64) 3 wc w.heap.size (fun _ => True) (.slice Ao14 t1345.length co14) t1345) ∧ Aside0 (Kd.R k67 67 wc w.heap.size (fun _ => True) (.slice Ao15 t1348.length co15) t1348) ∧ Aside0 (wc.heap[gb1342]? = some (.cells #[.bool a0_0, (.slice A0_1 l0_1.length c0_1), (.slice A0_2 l0_2.length c0_2), .int .i64 a0_3, .int .i64 a0_4, .int .i64 a0_5] 38 (0, 0))) ∧ Aside0 (wc.heap[gb1343]? = some (.cells #[.bool false, (.slice none 0 0), (.slice none 0 0), .int .i64 0, .int .i64 0, .int .i64 0] 38 (0, 0))) ∧ Aside0 (wc.heap[gb1354]? = some (.cells #[.bool t1344, (.slice Ao14 t1345.length co14), (.slice Ao15 t1348.length co15), .int .i64 t1351, .int .i64 t1352, .int .i64 t1353] 38 (0, 0))) ∧ Aside0 (Below w.heap.size w wc))
    case first =>
     have H := HC33.out
     clear HC33
     replace H := Option.bind_eq_some_iff.mp H
     obtain ⟨t1357, A340, H⟩ := H
     replace H : (if t1357 = true then (spec_Await.j1 kj3 a1 true a0_0 l0_1 l0_2 a0_3 a0_4 a0_5 t1344 t1345 t1348 t1351 t1352 t1353) else ((spec_l5At.f kj3 l0_2 a1).bind fun t1358 => (spec_Await.j1 kj3 a1 (decide (t1358 ≥ 0)) a0_0 l0_1 l0_2 a0_3 a0_4 a0_5 t1344 t1345 t1348 t1351 t1352 t1353))) = some (r1, r2, r3, r4, r5, r6, r7) := H
     have A34 := am A340
     clear A340
     by_cases c35 : t1357 = true
     ·subst c35
      replace H : (spec_Await.j1 kj3 a1 true a0_0 l0_1 l0_2 a0_3 a0_4 a0_5 t1344 t1345 t1348 t1351 t1352 t1353) = some (r1, r2, r3, r4, r5, r6, r7) := by rw [if_pos rfl] at H; exact H
      have H' := am H
      clear H
      have hnb36 := NB1342_1343.out
      have hnc36 := NB1343_1342.out
      have hnb37 := NB1342_1354.out
      have hnc37 := NB1354_1342.out
      obtain ⟨hcz38_0, hcz38_1, hcz38_2, hcz38_3, hcz38_4, hcz38_5, hfz38_0, hfz38_1, hfz38_2, hfz38_3, hfz38_4, hfz38_5⟩ := bk6 BK1342.out
      go_wp2_with (first | ((with_reducible refine gate_callee (f := 60) rfl ?_); refine goesL_ (some 23) rfl rfl Try.func60 (by kernel_rfl) rfl #[.slice A0_1 l0_1.length c0_1, .int .i64 a1] rfl mpx ?_; (with_reducible refine (spec_l2Has.calls kj3 _ _ l0_1 a1 true _ ?side1 ?side2 A34.out).mono ?_); (case side1 => exact pkC (Kd.C_below HR0_1.out HB.out)); (case side2 => exact HC0_1.out); rintro e w' ⟨rfl, ⟨nd, rfl⟩⟩; refine ⟨_, rfl, ?_⟩))
      go_meet
      case rel => exact ⟨_, (true), rfx, H', ⟨by have := HJ3.out; first | omega | exact Nat.le_refl _⟩, ⟨pkR HO_1355001.out⟩, ⟨pkR HO_1355002.out⟩, ⟨pkK BK1342.out⟩, ⟨pkK BK1343.out⟩, ⟨pkK BK1354.out⟩, ⟨pkW HB.out⟩⟩
     ·replace c35 := Bool.eq_false_iff.mpr c35
      subst c35
      replace H : ((spec_l5At.f kj3 l0_2 a1).bind fun t1358 => (spec_Await.j1 kj3 a1 (decide (t1358 ≥ 0)) a0_0 l0_1 l0_2 a0_3 a0_4 a0_5 t1344 t1345 t1348 t1351 t1352 t1353)) = some (r1, r2, r3, r4, r5, r6, r7) := by rw [if_neg (show ¬ (false = true) by decide)] at H; exact H
      replace H := Option.bind_eq_some_iff.mp H
      obtain ⟨t1358, A390, H⟩ := H
      replace H : (spec_Await.j1 kj3 a1 (decide (t1358 ≥ 0)) a0_0 l0_1 l0_2 a0_3 a0_4 a0_5 t1344 t1345 t1348 t1351 t1352 t1353) = some (r1, r2, r3, r4, r5, r6, r7) := H
      have A39 := am A390
      clear A390
      have H' := am H
      clear H
      have hnb40 := NB1342_1343.out
      have hnc40 := NB1343_1342.out
      have hnb41 := NB1342_1354.out
      have hnc41 := NB1354_1342.out
      obtain ⟨hcz42_0, hcz42_1, hcz42_2, hcz42_3, hcz42_4, hcz42_5, hfz42_0, hfz42_1, hfz42_2, hfz42_3, hfz42_4, hfz42_5⟩ := bk6 BK1342.out
      go_wp2_with (first | ((with_reducible refine gate_callee (f := 60) rfl ?_); refine goesL_ (some 23) rfl rfl Try.func60 (by kernel_rfl) rfl #[.slice A0_1 l0_1.length c0_1, .int .i64 a1] rfl mpx ?_; (with_reducible refine (spec_l2Has.calls kj3 _ _ l0_1 a1 false _ ?side1 ?side2 A34.out).mono ?_); (case side1 => exact pkC (Kd.C_below HR0_1.out HB.out)); (case side2 => exact HC0_1.out); rintro e w' ⟨rfl, ⟨nd, rfl⟩⟩; refine ⟨_, rfl, ?_⟩) | (go_at_call 59; (with_reducible refine (spec_l5At.calls kj3 _ _ l0_2 a1 t1358 _ ?side1 ?side2 A39.out).mono ?_); (case side1 => repeat (first | exact (Kd.C_below HR0_2.out (pkW HB.out)) | (with_reducible refine Kd.C_alloc ?_ _) | (with_reducible refine Kd.C_drewN ?_ _) | (with_reducible refine Kd.C_drew ?_))); (case side2 => exact HC0_2.out); rintro e w' ⟨rfl, ⟨nd, rfl⟩⟩))
      go_meet
      case rel => exact ⟨_, (decide (t1358 ≥ 0)), rfx, H', ⟨by have := HJ3.out; first | omega | exact Nat.le_refl _⟩, ⟨pkR HO_1355001.out⟩, ⟨pkR HO_1355002.out⟩, ⟨pkK BK1342.out⟩, ⟨pkK BK1343.out⟩, ⟨pkK BK1354.out⟩, ⟨pkW HB.out⟩⟩
    case rest =>
     clear HC33
     try clear c1
     try clear c2
     try clear p2
     try clear c3
     try clear c4
     try clear c6
     try clear c7
     try clear c11
     try clear c12
     try clear c17
     try clear c19
     try clear c20
     try clear c23
     try clear c24
     try clear c27
     try clear c28
     try clear c29
     try clear c31
     try clear c35
     try clear c36
     try clear c37
     try clear c40
     try clear c41
     try clear hcz13_0
     try clear hcz13_1
     try clear hcz13_2
     try clear hcz13_3
     try clear hcz13_4
     try clear hcz13_5
     try clear hcz21_0
     try clear hcz21_1
     try clear hcz21_2
     try clear hcz21_3
     try clear hcz21_4
     try clear hcz21_5
     try clear hcz25_0
     try clear hcz25_1
     try clear hcz25_2
     try clear hcz25_3
     try clear hcz25_4
     try clear hcz25_5
     try clear hcz30_0
     try clear hcz30_1
     try clear hcz30_2
     try clear hcz30_3
     try clear hcz30_4
     try clear hcz30_5
     try clear hcz32_0
     try clear hcz32_1
     try clear hcz32_2
     try clear hcz32_3
     try clear hcz32_4
     try clear hcz32_5
     try clear hcz38_0
     try clear hcz38_1
     try clear hcz38_2
     try clear hcz38_3
     try clear hcz38_4
     try clear hcz38_5
     try clear hcz42_0
     try clear hcz42_1
     try clear hcz42_2
     try clear hcz42_3
     try clear hcz42_4
     try clear hcz42_5
     try clear hcz8_0
     try clear hcz8_1
     try clear hcz8_2
     try clear hcz8_3
     try clear hcz8_4
     try clear hcz8_5
     try clear hfz13_0
     try clear hfz13_1
     try clear hfz13_2
     try clear hfz13_3
     try clear hfz13_4
     try clear hfz13_5
     try clear hfz21_0
     try clear hfz21_1
     try clear hfz21_2
     try clear hfz21_3
     try clear hfz21_4
     try clear hfz21_5
     try clear hfz25_0
     try clear hfz25_1
     try clear hfz25_2
     try clear hfz25_3
     try clear hfz25_4
     try clear hfz25_5
     try clear hfz30_0
     try clear hfz30_1
     try clear hfz30_2
     try clear hfz30_3
     try clear hfz30_4
     try clear hfz30_5
     try clear hfz32_0
     try clear hfz32_1
     try clear hfz32_2
     try clear hfz32_3
     try clear hfz32_4
     try clear hfz32_5
     try clear hfz38_0
     try clear hfz38_1
     try clear hfz38_2
     try clear hfz38_3
     try clear hfz38_4
     try clear hfz38_5
     try clear hfz42_0
     try clear hfz42_1
     try clear hfz42_2
     try clear hfz42_3
     try clear hfz42_4
     try clear hfz42_5
     try clear hfz8_0
     try clear hfz8_1
     try clear hfz8_2
     try clear hfz8_3
     try clear hfz8_4
     try clear hfz8_5
     try clear p2
     obtain ⟨kq, x19_32, rfl, HA, HJ32, HO_1355001, HO_1355002, BK1342, BK1343, BK1354, HB⟩ := hcut
     cases kq with
     | zero => exact absurd HA.out (by simp [spec_Await.j1])
     | succ kj32 =>
      have H := HA.out
      clear HA
      simp only [spec_Await.j1] at H
      by_cases c43 : x19_32 = true
      ·subst c43
       replace H : (some (t1344, t1345, t1348, t1351, t1352, t1353, 5)) = some (r1, r2, r3, r4, r5, r6, r7) := by rw [if_pos rfl] at H; exact H
       simp only [Option.some.injEq, Prod.mk.injEq] at H
       obtain ⟨rfl, rfl, rfl, rfl, rfl, rfl, rfl⟩ := H
       have hnb44 := NB1354_1342.out
       have hnc44 := NB1342_1354.out
       have hnb45 := NB1354_1343.out
       have hnc45 := NB1343_1354.out
       obtain ⟨hcz46_0, hcz46_1, hcz46_2, hcz46_3, hcz46_4, hcz46_5, hfz46_0, hfz46_1, hfz46_2, hfz46_3, hfz46_4, hfz46_5⟩ := bk6 BK1354.out
       have hnb47 := NB1343_1342.out
       have hnc47 := NB1342_1343.out
       obtain ⟨hcz48_0, hcz48_1, hcz48_2, hcz48_3, hcz48_4, hcz48_5, hfz48_0, hfz48_1, hfz48_2, hfz48_3, hfz48_4, hfz48_5⟩ := bk6 BK1343.out
       go_wp2
       refine bodyPost_ret (results_ct rfl _ _ gb1343 38 #[.bool t1344, .slice Ao14 t1345.length co14, .slice Ao15 t1348.length co15, .int .i64 t1351, .int .i64 t1352, .int .i64 t1353] (0, 0) _ rfl (by (with_reducible repeat (first | refine blk_drewN ?_ _ | refine blk_drew ?_ | refine blk_alloc ?_ _)); refine blk_put (cs := #[.bool t1344, .slice Ao14 t1345.length co14, .slice Ao15 t1348.length co15, .int .i64 t1351, .int .i64 t1352, .int .i64 0]) ?_ 5 _ rfl; (with_reducible repeat (first | refine blk_drewN ?_ _ | refine blk_drew ?_ | refine blk_alloc ?_ _)); refine blk_put (cs := #[.bool t1344, .slice Ao14 t1345.length co14, .slice Ao15 t1348.length co15, .int .i64 t1351, .int .i64 0, .int .i64 0]) ?_ 4 _ rfl; (with_reducible repeat (first | refine blk_drewN ?_ _ | refine blk_drew ?_ | refine blk_alloc ?_ _)); refine blk_put (cs := #[.bool t1344, .slice Ao14 t1345.length co14, .slice Ao15 t1348.length co15, .int .i64 0, .int .i64 0, .int .i64 0]) ?_ 3 _ rfl; (with_reducible repeat (first | refine blk_drewN ?_ _ | refine blk_drew ?_ | refine blk_alloc ?_ _)); refine blk_put (cs := #[.bool t1344, .slice Ao14 t1345.length co14, .slice none 0 0, .int .i64 0, .int .i64 0, .int .i64 0]) ?_ 2 _ rfl; (with_reducible repeat (first | refine blk_drewN ?_ _ | refine blk_drew ?_ | refine blk_alloc ?_ _)); refine blk_put (cs := #[.bool t1344, .slice none 0 0, .slice none 0 0, .int .i64 0, .int .i64 0, .int .i64 0]) ?_ 1 _ rfl; (with_reducible repeat (first | refine blk_drewN ?_ _ | refine blk_drew ?_ | refine blk_alloc ?_ _)); refine blk_put (cs := #[.bool false, .slice none 0 0, .slice none 0 0, .int .i64 0, .int .i64 0, .int .i64 0]) ?_ 0 _ rfl; exact pkK BK1343.out) Try.underlying38 rfl (by kernel_rfl)) rfl ?_
       exact ⟨_, _, rfe, by (with_reducible repeat (first | apply Kd.R_alloc | apply Kd.R_drewN | apply Kd.R_drew)); exact Kd.R_mono (Kd.R_far (p := ⟨gb1343, 5, none⟩) (Kd.R_far (p := ⟨gb1343, 4, none⟩) (Kd.R_far (p := ⟨gb1343, 3, none⟩) (Kd.R_far (p := ⟨gb1343, 2, none⟩) (Kd.R_far (p := ⟨gb1343, 1, none⟩) (Kd.R_far (p := ⟨gb1343, 0, none⟩) (Kd.R_types HO_1355001.out BK1343.out (by decide)) (fun _ hk => hk.2) (.bool t1344)) (fun _ hk => hk.2) (.slice Ao14 t1345.length co14)) (fun _ hk => hk.2) (.slice Ao15 t1348.length co15)) (fun _ hk => hk.2) (.int .i64 t1351)) (fun _ hk => hk.2) (.int .i64 t1352)) (fun _ hk => hk.2) (.int .i64 t1353)) (fun _ hk => trivial), by (with_reducible repeat (first | apply Kd.R_alloc | apply Kd.R_drewN | apply Kd.R_drew)); exact Kd.R_mono (Kd.R_far (p := ⟨gb1343, 5, none⟩) (Kd.R_far (p := ⟨gb1343, 4, none⟩) (Kd.R_far (p := ⟨gb1343, 3, none⟩) (Kd.R_far (p := ⟨gb1343, 2, none⟩) (Kd.R_far (p := ⟨gb1343, 1, none⟩) (Kd.R_far (p := ⟨gb1343, 0, none⟩) (Kd.R_types HO_1355002.out BK1343.out (by decide)) (fun _ hk => hk.2) (.bool t1344)) (fun _ hk => hk.2) (.slice Ao14 t1345.length co14)) (fun _ hk => hk.2) (.slice Ao15 t1348.length co15)) (fun _ hk => hk.2) (.int .i64 t1351)) (fun _ hk => hk.2) (.int .i64 t1352)) (fun _ hk => hk.2) (.int .i64 t1353)) (fun _ hk => trivial), pkW HB.out⟩
      ·replace c43 := Bool.eq_false_iff.mpr c43
       subst c43
       replace H : (if a0_5 ≥ 1000000000 then (spec_Await.j2 kj32 a1 true a0_0 l0_1 l0_2 a0_3 a0_4 a0_5 t1344 t1345 t1348 t1351 t1352 t1353) else (if a0_0 = true then (spec_Await.j2 kj32 a1 false a0_0 l0_1 l0_2 a0_3 a0_4 a0_5 t1344 t1345 t1348 t1351 t1352 t1353) else (spec_Await.j2 kj32 a1 (decide ((l0_1.length : Int) ≥ 32)) a0_0 l0_1 l0_2 a0_3 a0_4 a0_5 t1344 t1345 t1348 t1351 t1352 t1353))) = some (r1, r2, r3, r4, r5, r6, r7) := by rw [if_neg (show ¬ (false = true) by decide)] at H; exact H
       have HC49 := am H
       clear H
       go_upto_region 6 with (fail)
       go_cut [32] (fun v32 wc => ∃ (kq : Nat) (x32_48 : Bool), v32 = .bool x32_48 ∧ Aside0 (spec_Await.j2 kq a1 x32_48 a0_0 l0_1 l0_2 a0_3 a0_4 a0_5 t1344 t1345 t1348 t1351 t1352 t1353 = some (r1, r2, r3, r4, r5, r6, r7)) ∧ Aside0 (kq ≤ kj32) ∧ Aside0 (Kd.R (Kd.int .i64) 3 wc w.heap.size (fun _ => True) (.slice Ao14 t1345.length co14) t1345) ∧ Aside0 (Kd.R k67 67 wc w.heap.size (fun _ => True) (.slice Ao15 t1348.length co15) t1348) ∧ Aside0 (wc.heap[gb1342]? = some (.cells #[.bool a0_0, (.slice A0_1 l0_1.length c0_1), (.slice A0_2 l0_2.length c0_2), .int .i64 a0_3, .int .i64 a0_4, .int .i64 a0_5] 38 (0, 0))) ∧ Aside0 (wc.heap[gb1343]? = some (.cells #[.bool false, (.slice none 0 0), (.slice none 0 0), .int .i64 0, .int .i64 0, .int .i64 0] 38 (0, 0))) ∧ Aside0 (wc.heap[gb1354]? = some (.cells #[.bool t1344, (.slice Ao14 t1345.length co14), (.slice Ao15 t1348.length co15), .int .i64 t1351, .int .i64 t1352, .int .i64 t1353] 38 (0, 0))) ∧ Aside0 (Below w.heap.size w wc))
       case first =>
        have H := HC49.out
        clear HC49
        by_cases c50 : a0_5 ≥ 1000000000
        ·rw [if_pos c50] at H
         have c50b0 : decide (1000000000 ≤ a0_5) = true := decide_eq_true c50
         clear c50
         (first | rw [c50b0] | (simp only [i64_w, i32_w]; rw [c50b0]) | skip)
         have H' := am H
         clear H
         have hnb51 := NB1342_1343.out
         have hnc51 := NB1343_1342.out
         have hnb52 := NB1342_1354.out
         have hnc52 := NB1354_1342.out
         obtain ⟨hcz53_0, hcz53_1, hcz53_2, hcz53_3, hcz53_4, hcz53_5, hfz53_0, hfz53_1, hfz53_2, hfz53_3, hfz53_4, hfz53_5⟩ := bk6 BK1342.out
         go_wp2
         go_meet
         case rel => exact ⟨_, (true), rfx, H', ⟨by have := HJ3.out; have := HJ32.out; first | omega | exact Nat.le_refl _⟩, ⟨pkR HO_1355001.out⟩, ⟨pkR HO_1355002.out⟩, ⟨pkK BK1342.out⟩, ⟨pkK BK1343.out⟩, ⟨pkK BK1354.out⟩, ⟨pkW HB.out⟩⟩
        ·rw [if_neg c50] at H
         have c50b0 : decide (1000000000 ≤ a0_5) = false := decide_eq_false c50
         clear c50
         (first | rw [c50b0] | (simp only [i64_w, i32_w]; rw [c50b0]) | skip)
         by_cases c54 : a0_0 = true
         ·subst c54
          replace H : (spec_Await.j2 kj32 a1 false true l0_1 l0_2 a0_3 a0_4 a0_5 t1344 t1345 t1348 t1351 t1352 t1353) = some (r1, r2, r3, r4, r5, r6, r7) := by rw [if_pos rfl] at H; exact H
          have H' := am H
          clear H
          have hnb55 := NB1342_1343.out
          have hnc55 := NB1343_1342.out
          have hnb56 := NB1342_1354.out
          have hnc56 := NB1354_1342.out
          obtain ⟨hcz57_0, hcz57_1, hcz57_2, hcz57_3, hcz57_4, hcz57_5, hfz57_0, hfz57_1, hfz57_2, hfz57_3, hfz57_4, hfz57_5⟩ := bk6 BK1342.out
          go_wp2
          go_meet
          case rel => exact ⟨_, (false), rfx, H', ⟨by have := HJ3.out; have := HJ32.out; first | omega | exact Nat.le_refl _⟩, ⟨pkR HO_1355001.out⟩, ⟨pkR HO_1355002.out⟩, ⟨pkK BK1342.out⟩, ⟨pkK BK1343.out⟩, ⟨pkK BK1354.out⟩, ⟨pkW HB.out⟩⟩
         ·replace c54 := Bool.eq_false_iff.mpr c54
          subst c54
          replace H : (spec_Await.j2 kj32 a1 (decide ((l0_1.length : Int) ≥ 32)) false l0_1 l0_2 a0_3 a0_4 a0_5 t1344 t1345 t1348 t1351 t1352 t1353) = some (r1, r2, r3, r4, r5, r6, r7) := by rw [if_neg (show ¬ (false = true) by decide)] at H; exact H
          have H' := am H
          clear H
          have hnb58 := NB1342_1343.out
          have hnc58 := NB1343_1342.out
          have hnb59 := NB1342_1354.out
          have hnc59 := NB1354_1342.out
          obtain ⟨hcz60_0, hcz60_1, hcz60_2, hcz60_3, hcz60_4, hcz60_5, hfz60_0, hfz60_1, hfz60_2, hfz60_3, hfz60_4, hfz60_5⟩ := bk6 BK1342.out
          go_wp2
          go_meet
          case rel => exact ⟨_, (decide ((l0_1.length : Int) ≥ 32)), rfx, H', ⟨by have := HJ3.out; have := HJ32.out; first | omega | exact Nat.le_refl _⟩, ⟨pkR HO_1355001.out⟩, ⟨pkR HO_1355002.out⟩, ⟨pkK BK1342.out⟩, ⟨pkK BK1343.out⟩, ⟨pkK BK1354.out⟩, ⟨pkW HB.out⟩⟩
       case rest =>
        clear HC49
        try clear c1
        try clear c2
        try clear p2
        try clear c3
        try clear c4
        try clear c5
        try clear c6
        try clear c7
        try clear c11
        try clear c12
        try clear c17
        try clear c19
        try clear c20
        try clear c23
        try clear c24
        try clear c27
        try clear c28
        try clear c29
        try clear c31
        try clear c35
        try clear c36
        try clear c37
        try clear c40
        try clear c41
        try clear c43
        try clear c44
        try clear c45
        try clear c47
        try clear c50
        try clear c50b0
        try clear c51
        try clear c52
        try clear c54
        try clear c55
        try clear c56
        try clear c58
        try clear c59
        try clear c60
        try clear hcz13_0
        try clear hcz13_1
        try clear hcz13_2
        try clear hcz13_3
        try clear hcz13_4
        try clear hcz13_5
        try clear hcz21_0
        try clear hcz21_1
        try clear hcz21_2
        try clear hcz21_3
        try clear hcz21_4
        try clear hcz21_5
        try clear hcz25_0
        try clear hcz25_1
        try clear hcz25_2
        try clear hcz25_3
        try clear hcz25_4
        try clear hcz25_5
        try clear hcz30_0
        try clear hcz30_1
        try clear hcz30_2
        try clear hcz30_3
        try clear hcz30_4
        try clear hcz30_5
        try clear hcz32_0
        try clear hcz32_1
        try clear hcz32_2
        try clear hcz32_3
        try clear hcz32_4
        try clear hcz32_5
        try clear hcz38_0
        try clear hcz38_1
        try clear hcz38_2
        try clear hcz38_3
        try clear hcz38_4
        try clear hcz38_5
        try clear hcz42_0
        try clear hcz42_1
        try clear hcz42_2
        try clear hcz42_3
        try clear hcz42_4
        try clear hcz42_5
        try clear hcz46_0
        try clear hcz46_1
        try clear hcz46_2
        try clear hcz46_3
        try clear hcz46_4
        try clear hcz46_5
        try clear hcz48_0
        try clear hcz48_1
        try clear hcz48_2
        try clear hcz48_3
        try clear hcz48_4
        try clear hcz48_5
        try clear hcz53_0
        try clear hcz53_1
        try clear hcz53_2
        try clear hcz53_3
        try clear hcz53_4
        try clear hcz53_5
        try clear hcz57_0
        try clear hcz57_1
        try clear hcz57_2
        try clear hcz57_3
        try clear hcz57_4
        try clear hcz57_5
        try clear hcz60_0
        try clear hcz60_1
        try clear hcz60_2
        try clear hcz60_3
        try clear hcz60_4
        try clear hcz60_5
        try clear hcz8_0
        try clear hcz8_1
        try clear hcz8_2
        try clear hcz8_3
        try clear hcz8_4
        try clear hcz8_5
        try clear hfz13_0
        try clear hfz13_1
        try clear hfz13_2
        try clear hfz13_3
        try clear hfz13_4
        try clear hfz13_5
        try clear hfz21_0
        try clear hfz21_1
        try clear hfz21_2
        try clear hfz21_3
        try clear hfz21_4
        try clear hfz21_5
        try clear hfz25_0
        try clear hfz25_1
        try clear hfz25_2
        try clear hfz25_3
        try clear hfz25_4
        try clear hfz25_5
        try clear hfz30_0
        try clear hfz30_1
        try clear hfz30_2
        try clear hfz30_3
        try clear hfz30_4
        try clear hfz30_5
        try clear hfz32_0
        try clear hfz32_1
        try clear hfz32_2
        try clear hfz32_3
        try clear hfz32_4
        try clear hfz32_5
        try clear hfz38_0
        try clear hfz38_1
        try clear hfz38_2
        try clear hfz38_3
        try clear hfz38_4
        try clear hfz38_5
        try clear hfz42_0
        try clear hfz42_1
        try clear hfz42_2
        try clear hfz42_3
        try clear hfz42_4
        try clear hfz42_5
        try clear hfz46_0
        try clear hfz46_1
        try clear hfz46_2
        try clear hfz46_3
        try clear hfz46_4
        try clear hfz46_5
        try clear hfz48_0
        try clear hfz48_1
        try clear hfz48_2
        try clear hfz48_3
        try clear hfz48_4
        try clear hfz48_5
        try clear hfz53_0
        try clear hfz53_1
        try clear hfz53_2
        try clear hfz53_3
        try clear hfz53_4
        try clear hfz53_5
        try clear hfz57_0
        try clear hfz57_1
        try clear hfz57_2
        try clear hfz57_3
        try clear hfz57_4
        try clear hfz57_5
        try clear hfz60_0
        try clear hfz60_1
        try clear hfz60_2
        try clear hfz60_3
        try clear hfz60_4
        try clear hfz60_5
        try clear hfz8_0
        try clear hfz8_1
        try clear hfz8_2
        try clear hfz8_3
        try clear hfz8_4
        try clear hfz8_5
        try clear p2
        obtain ⟨kq, x32_48, rfl, HA, HJ48, HO_1355001, HO_1355002, BK1342, BK1343, BK1354, HB⟩ := hcut
        cases kq with
        | zero => exact absurd HA.out (by simp [spec_Await.j2])
        | succ kj48 =>
         have H := HA.out
         clear HA
         simp only [spec_Await.j2] at H
         by_cases c61 : x32_48 = true
         ·subst c61
          replace H : (some (t1344, t1345, t1348, t1351, t1352, t1353, 2)) = some (r1, r2, r3, r4, r5, r6, r7) := by rw [if_pos rfl] at H; exact H
          simp only [Option.some.injEq, Prod.mk.injEq] at H
          obtain ⟨rfl, rfl, rfl, rfl, rfl, rfl, rfl⟩ := H
          have hnb62 := NB1354_1342.out
          have hnc62 := NB1342_1354.out
          have hnb63 := NB1354_1343.out
          have hnc63 := NB1343_1354.out
          obtain ⟨hcz64_0, hcz64_1, hcz64_2, hcz64_3, hcz64_4, hcz64_5, hfz64_0, hfz64_1, hfz64_2, hfz64_3, hfz64_4, hfz64_5⟩ := bk6 BK1354.out
          have hnb65 := NB1343_1342.out
          have hnc65 := NB1342_1343.out
          obtain ⟨hcz66_0, hcz66_1, hcz66_2, hcz66_3, hcz66_4, hcz66_5, hfz66_0, hfz66_1, hfz66_2, hfz66_3, hfz66_4, hfz66_5⟩ := bk6 BK1343.out
          go_wp2
          refine bodyPost_ret (results_ct rfl _ _ gb1343 38 #[.bool t1344, .slice Ao14 t1345.length co14, .slice Ao15 t1348.length co15, .int .i64 t1351, .int .i64 t1352, .int .i64 t1353] (0, 0) _ rfl (by (with_reducible repeat (first | refine blk_drewN ?_ _ | refine blk_drew ?_ | refine blk_alloc ?_ _)); refine blk_put (cs := #[.bool t1344, .slice Ao14 t1345.length co14, .slice Ao15 t1348.length co15, .int .i64 t1351, .int .i64 t1352, .int .i64 0]) ?_ 5 _ rfl; (with_reducible repeat (first | refine blk_drewN ?_ _ | refine blk_drew ?_ | refine blk_alloc ?_ _)); refine blk_put (cs := #[.bool t1344, .slice Ao14 t1345.length co14, .slice Ao15 t1348.length co15, .int .i64 t1351, .int .i64 0, .int .i64 0]) ?_ 4 _ rfl; (with_reducible repeat (first | refine blk_drewN ?_ _ | refine blk_drew ?_ | refine blk_alloc ?_ _)); refine blk_put (cs := #[.bool t1344, .slice Ao14 t1345.length co14, .slice Ao15 t1348.length co15, .int .i64 0, .int .i64 0, .int .i64 0]) ?_ 3 _ rfl; (with_reducible repeat (first | refine blk_drewN ?_ _ | refine blk_drew ?_ | refine blk_alloc ?_ _)); refine blk_put (cs := #[.bool t1344, .slice Ao14 t1345.length co14, .slice none 0 0, .int .i64 0, .int .i64 0, .int .i64 0]) ?_ 2 _ rfl; (with_reducible repeat (first | refine blk_drewN ?_ _ | refine blk_drew ?_ | refine blk_alloc ?_ _)); refine blk_put (cs := #[.bool t1344, .slice none 0 0, .slice none 0 0, .int .i64 0, .int .i64 0, .int .i64 0]) ?_ 1 _ rfl; (with_reducible repeat (first | refine blk_drewN ?_ _ | refine blk_drew ?_ | refine blk_alloc ?_ _)); refine blk_put (cs := #[.bool false, .slice none 0 0, .slice none 0 0, .int .i64 0, .int .i64 0, .int .i64 0]) ?_ 0 _ rfl; exact pkK BK1343.out) Try.underlying38 rfl (by kernel_rfl)) rfl ?_
          exact ⟨_, _, rfe, by (with_reducible repeat (first | apply Kd.R_alloc | apply Kd.R_drewN | apply Kd.R_drew)); exact Kd.R_mono (Kd.R_far (p := ⟨gb1343, 5, none⟩) (Kd.R_far (p := ⟨gb1343, 4, none⟩) (Kd.R_far (p := ⟨gb1343, 3, none⟩) (Kd.R_far (p := ⟨gb1343, 2, none⟩) (Kd.R_far (p := ⟨gb1343, 1, none⟩) (Kd.R_far (p := ⟨gb1343, 0, none⟩) (Kd.R_types HO_1355001.out BK1343.out (by decide)) (fun _ hk => hk.2) (.bool t1344)) (fun _ hk => hk.2) (.slice Ao14 t1345.length co14)) (fun _ hk => hk.2) (.slice Ao15 t1348.length co15)) (fun _ hk => hk.2) (.int .i64 t1351)) (fun _ hk => hk.2) (.int .i64 t1352)) (fun _ hk => hk.2) (.int .i64 t1353)) (fun _ hk => trivial), by (with_reducible repeat (first | apply Kd.R_alloc | apply Kd.R_drewN | apply Kd.R_drew)); exact Kd.R_mono (Kd.R_far (p := ⟨gb1343, 5, none⟩) (Kd.R_far (p := ⟨gb1343, 4, none⟩) (Kd.R_far (p := ⟨gb1343, 3, none⟩) (Kd.R_far (p := ⟨gb1343, 2, none⟩) (Kd.R_far (p := ⟨gb1343, 1, none⟩) (Kd.R_far (p := ⟨gb1343, 0, none⟩) (Kd.R_types HO_1355002.out BK1343.out (by decide)) (fun _ hk => hk.2) (.bool t1344)) (fun _ hk => hk.2) (.slice Ao14 t1345.length co14)) (fun _ hk => hk.2) (.slice Ao15 t1348.length co15)) (fun _ hk => hk.2) (.int .i64 t1351)) (fun _ hk => hk.2) (.int .i64 t1352)) (fun _ hk => hk.2) (.int .i64 t1353)) (fun _ hk => trivial), pkW HB.out⟩
         ·replace c61 := Bool.eq_false_iff.mpr c61
          subst c61
          replace H : (if a0_0 = true then (some (false, t1345, t1348, t1351, t1352, wrap64 (t1353 + 1), 0)) else (if t1345.length < 17592186044416 then (some (t1344, (t1345 ++ [a1]), t1348, t1351, t1352, t1353, 4)) else (none))) = some (r1, r2, r3, r4, r5, r6, r7) := by rw [if_neg (show ¬ (false = true) by decide)] at H; exact H
          by_cases c67 : a0_0 = true
          ·subst c67
           replace H : (some (false, t1345, t1348, t1351, t1352, wrap64 (t1353 + 1), 0)) = some (r1, r2, r3, r4, r5, r6, r7) := by rw [if_pos rfl] at H; exact H
           simp only [Option.some.injEq, Prod.mk.injEq] at H
           obtain ⟨rfl, rfl, rfl, rfl, rfl, rfl, rfl⟩ := H
           have hnb68 := NB1342_1343.out
           have hnc68 := NB1343_1342.out
           have hnb69 := NB1342_1354.out
           have hnc69 := NB1354_1342.out
           obtain ⟨hcz70_0, hcz70_1, hcz70_2, hcz70_3, hcz70_4, hcz70_5, hfz70_0, hfz70_1, hfz70_2, hfz70_3, hfz70_4, hfz70_5⟩ := bk6 BK1342.out
           have hnb71 := NB1354_1343.out
           have hnc71 := NB1343_1354.out
           obtain ⟨hcz72_0, hcz72_1, hcz72_2, hcz72_3, hcz72_4, hcz72_5, hfz72_0, hfz72_1, hfz72_2, hfz72_3, hfz72_4, hfz72_5⟩ := bk6 BK1354.out
           obtain ⟨hcz73_0, hcz73_1, hcz73_2, hcz73_3, hcz73_4, hcz73_5, hfz73_0, hfz73_1, hfz73_2, hfz73_3, hfz73_4, hfz73_5⟩ := bk6 BK1343.out
           go_wp2
           refine bodyPost_ret (results_ct rfl _ _ gb1343 38 #[.bool false, .slice Ao14 t1345.length co14, .slice Ao15 t1348.length co15, .int .i64 t1351, .int .i64 t1352, .int .i64 (wrap64 (t1353 + 1))] (0, 0) _ rfl (by (with_reducible repeat (first | refine blk_drewN ?_ _ | refine blk_drew ?_ | refine blk_alloc ?_ _)); refine blk_put (cs := #[.bool false, .slice Ao14 t1345.length co14, .slice Ao15 t1348.length co15, .int .i64 t1351, .int .i64 t1352, .int .i64 0]) ?_ 5 _ rfl; (with_reducible repeat (first | refine blk_drewN ?_ _ | refine blk_drew ?_ | refine blk_alloc ?_ _)); refine blk_put (cs := #[.bool false, .slice Ao14 t1345.length co14, .slice Ao15 t1348.length co15, .int .i64 t1351, .int .i64 0, .int .i64 0]) ?_ 4 _ rfl; (with_reducible repeat (first | refine blk_drewN ?_ _ | refine blk_drew ?_ | refine blk_alloc ?_ _)); refine blk_put (cs := #[.bool false, .slice Ao14 t1345.length co14, .slice Ao15 t1348.length co15, .int .i64 0, .int .i64 0, .int .i64 0]) ?_ 3 _ rfl; (with_reducible repeat (first | refine blk_drewN ?_ _ | refine blk_drew ?_ | refine blk_alloc ?_ _)); refine blk_put (cs := #[.bool false, .slice Ao14 t1345.length co14, .slice none 0 0, .int .i64 0, .int .i64 0, .int .i64 0]) ?_ 2 _ rfl; (with_reducible repeat (first | refine blk_drewN ?_ _ | refine blk_drew ?_ | refine blk_alloc ?_ _)); refine blk_put (cs := #[.bool false, .slice none 0 0, .slice none 0 0, .int .i64 0, .int .i64 0, .int .i64 0]) ?_ 1 _ rfl; (with_reducible repeat (first | refine blk_drewN ?_ _ | refine blk_drew ?_ | refine blk_alloc ?_ _)); refine blk_put (cs := #[.bool false, .slice none 0 0, .slice none 0 0, .int .i64 0, .int .i64 0, .int .i64 0]) ?_ 0 _ rfl; (with_reducible repeat (first | refine blk_drewN ?_ _ | refine blk_drew ?_ | refine blk_alloc ?_ _)); refine blk_far ?_ NB1343_1354.out _; (with_reducible repeat (first | refine blk_drewN ?_ _ | refine blk_drew ?_ | refine blk_alloc ?_ _)); refine blk_far ?_ NB1343_1354.out _; exact pkK BK1343.out) Try.underlying38 rfl (by kernel_rfl)) rfl ?_
           exact ⟨_, _, rfe, by (with_reducible repeat (first | apply Kd.R_alloc | apply Kd.R_drewN | apply Kd.R_drew)); exact Kd.R_mono (Kd.R_far (p := ⟨gb1343, 5, none⟩) (Kd.R_far (p := ⟨gb1343, 4, none⟩) (Kd.R_far (p := ⟨gb1343, 3, none⟩) (Kd.R_far (p := ⟨gb1343, 2, none⟩) (Kd.R_far (p := ⟨gb1343, 1, none⟩) (Kd.R_far (p := ⟨gb1343, 0, none⟩) (Kd.R_far (p := ⟨gb1354, 5, none⟩) (Kd.R_far (p := ⟨gb1354, 0, none⟩) (Kd.R_types (Kd.R_types HO_1355001.out BK1354.out (by decide)) BK1343.out (by decide)) (fun _ hk => hk.1.2) (.bool false)) (fun _ hk => hk.1.2) (.int .i64 (wrap64 (t1353 + 1)))) (fun _ hk => hk.2) (.bool false)) (fun _ hk => hk.2) (.slice Ao14 t1345.length co14)) (fun _ hk => hk.2) (.slice Ao15 t1348.length co15)) (fun _ hk => hk.2) (.int .i64 t1351)) (fun _ hk => hk.2) (.int .i64 t1352)) (fun _ hk => hk.2) (.int .i64 (wrap64 (t1353 + 1)))) (fun _ hk => trivial), by (with_reducible repeat (first | apply Kd.R_alloc | apply Kd.R_drewN | apply Kd.R_drew)); exact Kd.R_mono (Kd.R_far (p := ⟨gb1343, 5, none⟩) (Kd.R_far (p := ⟨gb1343, 4, none⟩) (Kd.R_far (p := ⟨gb1343, 3, none⟩) (Kd.R_far (p := ⟨gb1343, 2, none⟩) (Kd.R_far (p := ⟨gb1343, 1, none⟩) (Kd.R_far (p := ⟨gb1343, 0, none⟩) (Kd.R_far (p := ⟨gb1354, 5, none⟩) (Kd.R_far (p := ⟨gb1354, 0, none⟩) (Kd.R_types (Kd.R_types HO_1355002.out BK1354.out (by decide)) BK1343.out (by decide)) (fun _ hk => hk.1.2) (.bool false)) (fun _ hk => hk.1.2) (.int .i64 (wrap64 (t1353 + 1)))) (fun _ hk => hk.2) (.bool false)) (fun _ hk => hk.2) (.slice Ao14 t1345.length co14)) (fun _ hk => hk.2) (.slice Ao15 t1348.length co15)) (fun _ hk => hk.2) (.int .i64 t1351)) (fun _ hk => hk.2) (.int .i64 t1352)) (fun _ hk => hk.2) (.int .i64 (wrap64 (t1353 + 1)))) (fun _ hk => trivial), pkW HB.out⟩
          ·replace c67 := Bool.eq_false_iff.mpr c67
           subst c67
           replace H : (if t1345.length < 17592186044416 then (some (t1344, (t1345 ++ [a1]), t1348, t1351, t1352, t1353, 4)) else (none)) = some (r1, r2, r3, r4, r5, r6, r7) := by rw [if_neg (show ¬ (false = true) by decide)] at H; exact H
           by_cases c74 : t1345.length < 17592186044416
           ·rw [if_pos c74] at H
            have LMc74 := am c74
            clear c74
            obtain ⟨y1359, hy1359⟩ : ∃ y_ : List Int, y_ = (t1345 ++ [a1]) := ⟨_, rfl⟩
            replace H : (some (t1344, y1359, t1348, t1351, t1352, t1353, 4)) = some (r1, r2, r3, r4, r5, r6, r7) := by first | (rw [hy1359]; with_reducible exact H) | (have H2_ := (Option.bind_some _ _).symm.trans H; rw [hy1359]; with_reducible exact H2_) | (have H2_ := (Option.bind_some _ _).symm.trans H; with_reducible exact H2_) | with_reducible exact H | (rw [hy1359]; exact H) | exact H
            have Ny1359 := am hy1359
            clear hy1359
            simp only [Option.some.injEq, Prod.mk.injEq] at H
            obtain ⟨rfl, rfl, rfl, rfl, rfl, rfl, rfl⟩ := H
            have hnb75 := NB1342_1343.out
            have hnc75 := NB1343_1342.out
            have hnb76 := NB1342_1354.out
            have hnc76 := NB1354_1342.out
            obtain ⟨hcz77_0, hcz77_1, hcz77_2, hcz77_3, hcz77_4, hcz77_5, hfz77_0, hfz77_1, hfz77_2, hfz77_3, hfz77_4, hfz77_5⟩ := bk6 BK1342.out
            have hnb78 := NB1354_1343.out
            have hnc78 := NB1343_1354.out
            obtain ⟨hcz79_0, hcz79_1, hcz79_2, hcz79_3, hcz79_4, hcz79_5, hfz79_0, hfz79_1, hfz79_2, hfz79_3, hfz79_4, hfz79_5⟩ := bk6 BK1354.out
            go_wp2_with (first | ((with_reducible refine gate_builtin (b := .append) (xs := #[.tmp 57, .tmp 59]) rfl ?_); (try (refine gate_guard (by rfl) ?_; dsimp only)); at_builtin; refine Kd.R_append (Kd.int .i64) (w0 := w) w.heap.size rfl (.tmp 57) (.tmp 59) 22 3 (.int .i64 0) 8 rfl Try.underlying22 info3 rfl (by decide) (by omega) (.slice Ao14 t1345.length co14) t1345 a1 [.int .i64 a1] (fun _ => True) (fun _ => False) rfl rfl ?aP (fun _ hk => hk.elim) ?aF ?aO ?aB ?aS ?aL ?_; (case aP => exact rfl); (case aB => exact (pkW HB.out)); (case aF => exact (fun _ _ => trivial)); (case aO => exact (pkR HO_1355001.out)); (case aS => exact (below_size (pkW HB.out))); (case aL => have := LMc74.out; omega); intro v1360 w80 ho hb hg hat; rw [← Ny1359.out] at ho; replace HO_1355002 := am (Kd.R_over' (pkR HO_1355002.out) (Kd.R_typed (pkR HO_1355001.out)) (by decide) hg); replace BK1342 := am (blk_grown (g := gb1342) (o := .cells #[.bool false, .slice A0_1 l0_1.length c0_1, .slice A0_2 l0_2.length c0_2, .int .i64 a0_3, .int .i64 a0_4, .int .i64 a0_5] 38 (0, 0)) (pkK BK1342.out) hg (Kd.R_ne HO_1355001.out BK1342.out (by decide))); replace BK1343 := am (blk_grown (g := gb1343) (o := .cells #[.bool false, .slice none 0 0, .slice none 0 0, .int .i64 0, .int .i64 0, .int .i64 0] 38 (0, 0)) (pkK BK1343.out) hg (Kd.R_ne HO_1355001.out BK1343.out (by decide))); replace BK1354 := am (blk_grown (g := gb1354) (o := .cells #[.bool t1344, .slice Ao14 t1345.length co14, .slice Ao15 t1348.length co15, .int .i64 t1351, .int .i64 t1352, .int .i64 t1353] 38 (0, 0)) (pkK BK1354.out) hg (Kd.R_ne HO_1355001.out BK1354.out (by decide))); replace HB := am (hb); have HO1361 := am (ho); clear HO_1355001; clear ho hb hg hat; obtain ⟨Ao81, co81, eo81⟩ := Kd.R_slice HO1361.out; subst eo81; obtain ⟨hcz82_0, hcz82_1, hcz82_2, hcz82_3, hcz82_4, hcz82_5, hfz82_0, hfz82_1, hfz82_2, hfz82_3, hfz82_4, hfz82_5⟩ := bk6 BK1354.out; obtain ⟨hcz83_0, hcz83_1, hcz83_2, hcz83_3, hcz83_4, hcz83_5, hfz83_0, hfz83_1, hfz83_2, hfz83_3, hfz83_4, hfz83_5⟩ := bk6 BK1343.out))
            refine bodyPost_ret (results_ct rfl _ _ gb1343 38 #[.bool t1344, .slice Ao81 y1359.length co81, .slice Ao15 t1348.length co15, .int .i64 t1351, .int .i64 t1352, .int .i64 t1353] (0, 0) _ rfl (by (with_reducible repeat (first | refine blk_drewN ?_ _ | refine blk_drew ?_ | refine blk_alloc ?_ _)); refine blk_put (cs := #[.bool t1344, .slice Ao81 y1359.length co81, .slice Ao15 t1348.length co15, .int .i64 t1351, .int .i64 t1352, .int .i64 0]) ?_ 5 _ rfl; (with_reducible repeat (first | refine blk_drewN ?_ _ | refine blk_drew ?_ | refine blk_alloc ?_ _)); refine blk_put (cs := #[.bool t1344, .slice Ao81 y1359.length co81, .slice Ao15 t1348.length co15, .int .i64 t1351, .int .i64 0, .int .i64 0]) ?_ 4 _ rfl; (with_reducible repeat (first | refine blk_drewN ?_ _ | refine blk_drew ?_ | refine blk_alloc ?_ _)); refine blk_put (cs := #[.bool t1344, .slice Ao81 y1359.length co81, .slice Ao15 t1348.length co15, .int .i64 0, .int .i64 0, .int .i64 0]) ?_ 3 _ rfl; (with_reducible repeat (first | refine blk_drewN ?_ _ | refine blk_drew ?_ | refine blk_alloc ?_ _)); refine blk_put (cs := #[.bool t1344, .slice Ao81 y1359.length co81, .slice none 0 0, .int .i64 0, .int .i64 0, .int .i64 0]) ?_ 2 _ rfl; (with_reducible repeat (first | refine blk_drewN ?_ _ | refine blk_drew ?_ | refine blk_alloc ?_ _)); refine blk_put (cs := #[.bool t1344, .slice none 0 0, .slice none 0 0, .int .i64 0, .int .i64 0, .int .i64 0]) ?_ 1 _ rfl; (with_reducible repeat (first | refine blk_drewN ?_ _ | refine blk_drew ?_ | refine blk_alloc ?_ _)); refine blk_put (cs := #[.bool false, .slice none 0 0, .slice none 0 0, .int .i64 0, .int .i64 0, .int .i64 0]) ?_ 0 _ rfl; (with_reducible repeat (first | refine blk_drewN ?_ _ | refine blk_drew ?_ | refine blk_alloc ?_ _)); refine blk_far ?_ NB1343_1354.out _; exact pkK BK1343.out) Try.underlying38 rfl (by kernel_rfl)) rfl ?_
            exact ⟨_, _, rfe, by (with_reducible repeat (first | apply Kd.R_alloc | apply Kd.R_drewN | apply Kd.R_drew)); exact Kd.R_mono (Kd.R_far (p := ⟨gb1343, 5, none⟩) (Kd.R_far (p := ⟨gb1343, 4, none⟩) (Kd.R_far (p := ⟨gb1343, 3, none⟩) (Kd.R_far (p := ⟨gb1343, 2, none⟩) (Kd.R_far (p := ⟨gb1343, 1, none⟩) (Kd.R_far (p := ⟨gb1343, 0, none⟩) (Kd.R_far (p := ⟨gb1354, 1, none⟩) (Kd.R_types (Kd.R_types HO1361.out BK1354.out (by decide)) BK1343.out (by decide)) (fun _ hk => hk.1.2) (.slice Ao81 y1359.length co81)) (fun _ hk => hk.2) (.bool t1344)) (fun _ hk => hk.2) (.slice Ao81 y1359.length co81)) (fun _ hk => hk.2) (.slice Ao15 t1348.length co15)) (fun _ hk => hk.2) (.int .i64 t1351)) (fun _ hk => hk.2) (.int .i64 t1352)) (fun _ hk => hk.2) (.int .i64 t1353)) (fun _ hk => trivial), by (with_reducible repeat (first | apply Kd.R_alloc | apply Kd.R_drewN | apply Kd.R_drew)); exact Kd.R_mono (Kd.R_far (p := ⟨gb1343, 5, none⟩) (Kd.R_far (p := ⟨gb1343, 4, none⟩) (Kd.R_far (p := ⟨gb1343, 3, none⟩) (Kd.R_far (p := ⟨gb1343, 2, none⟩) (Kd.R_far (p := ⟨gb1343, 1, none⟩) (Kd.R_far (p := ⟨gb1343, 0, none⟩) (Kd.R_far (p := ⟨gb1354, 1, none⟩) (Kd.R_types (Kd.R_types HO_1355002.out BK1354.out (by decide)) BK1343.out (by decide)) (fun _ hk => hk.1.2) (.slice Ao81 y1359.length co81)) (fun _ hk => hk.2) (.bool t1344)) (fun _ hk => hk.2) (.slice Ao81 y1359.length co81)) (fun _ hk => hk.2) (.slice Ao15 t1348.length co15)) (fun _ hk => hk.2) (.int .i64 t1351)) (fun _ hk => hk.2) (.int .i64 t1352)) (fun _ hk => hk.2) (.int .i64 t1353)) (fun _ hk => trivial), pkW HB.out⟩
           ·rw [if_neg c74] at H
            exact absurd H (by simp)
end Go.Proofs.Ytdagpmnadapbjaa.Z
