/- The Go functions spec_Changed as Lean functions, each with a proof that its code comes to just these answers; conditions: those of each theorem. -/
import Derived.Test.YtalehmhjddnmoaaZx0
import Derived.Test.YtalehmhjddnmoaaZx4
import Derived.Test.YtalehmhjddnmoaaZx11
namespace Go.Proofs.Ytalehmhjddnmoaa.Z
open Go.RowKit Go.Proofs.YtalehmhjddnmoaaW.PrintWords Go.Proofs.YtalehmhjddnmoaaW.PrintLast Go.Proofs.YtalehmhjddnmoaaW.PrintMore
attribute [local go_sem] max2_int min2_int max_two min_two max_three min_three max_four min_four   -- for this text's walks alone
set_option linter.unusedVariables false
set_option linter.unusedSimpArgs false
mutual
def spec_Changed.j0 : Nat → Bool → Int → Int → ByteArray → Int → Int → Int → ByteArray → Int → Int → ByteArray → Option (Int × Int × ByteArray × Bool)
 | 0, _, _, _, _, _, _, _, _, _, _, _ => none
 | k + 1, x17, x339000, x339001, x339002, x340000, x340001, x340002, x340003, x342000, x342001, x342002 => if x17 = true then (some (0, 0, (⟨#[]⟩ : ByteArray), false)) else (if x340000 = 1 then ((spec_MsgOk.f k x342000 x342001 x342002).bind fun t344 => (if t344 = true then (some (x342000, x342001, x342002, true)) else (some (0, 0, (⟨#[]⟩ : ByteArray), false)))) else (if x340000 = 2 then (if x339000 = 1 then (spec_Changed.j1 k (x340001 != 1) x339000 x339001 x339002 x340000 x340001 x340002 x340003 x342000 x342001 x342002) else (spec_Changed.j1 k true x339000 x339001 x339002 x340000 x340001 x340002 x340003 x342000 x342001 x342002)) else (if x340000 = 3 then (if x339000 = 2 then (spec_Changed.j2 k (x340001 != 2) x339000 x339001 x339002 x340000 x340001 x340002 x340003 x342000 x342001 x342002) else (spec_Changed.j2 k true x339000 x339001 x339002 x340000 x340001 x340002 x340003 x342000 x342001 x342002)) else (if x340000 = 4 then ((spec_MsgLess.f k x340001 x340002 x340003 x339000 x339001 x339002).bind fun t347 => (if t347 = true then ((spec_MsgOk.f k x339000 x339001 x339002).bind fun t348 => (if t348 = true then (some (x339000, x339001, x339002, true)) else (some (0, 0, (⟨#[]⟩ : ByteArray), false)))) else ((spec_MsgOk.f k x342000 x342001 x342002).bind fun t349 => (if t349 = true then (some (x342000, x342001, x342002, true)) else (some (0, 0, (⟨#[]⟩ : ByteArray), false)))))) else (some (0, 0, (⟨#[]⟩ : ByteArray), false))))))
def spec_Changed.j1 : Nat → Bool → Int → Int → ByteArray → Int → Int → Int → ByteArray → Int → Int → ByteArray → Option (Int × Int × ByteArray × Bool)
 | 0, _, _, _, _, _, _, _, _, _, _, _ => none
 | k + 1, x34, x339000, x339001, x339002, x340000, x340001, x340002, x340003, x342000, x342001, x342002 => if x34 = true then (some (0, 0, (⟨#[]⟩ : ByteArray), false)) else ((spec_MsgOk.f k x342000 (wrap64 (x339001 + x340002)) x342002).bind fun t345 => (if t345 = true then (some (x342000, wrap64 (x339001 + x340002), x342002, true)) else (some (0, 0, (⟨#[]⟩ : ByteArray), false))))
def spec_Changed.j2 : Nat → Bool → Int → Int → ByteArray → Int → Int → Int → ByteArray → Int → Int → ByteArray → Option (Int × Int × ByteArray × Bool)
 | 0, _, _, _, _, _, _, _, _, _, _, _ => none
 | k + 1, x53, x339000, x339001, x339002, x340000, x340001, x340002, x340003, x342000, x342001, x342002 => if x53 = true then (some (0, 0, (⟨#[]⟩ : ByteArray), false)) else (if x339002.size + x340003.size ≤ 9223372036854775807 then ((spec_MsgOk.f k x342000 x342001 (x339002 ++ x340003)).bind fun t346 => (if t346 = true then (some (x342000, x342001, x339002 ++ x340003, true)) else (some (0, 0, (⟨#[]⟩ : ByteArray), false)))) else (none))
end
def spec_Changed.f (k : Nat) (a0_0 : Int) (a0_1 : Int) (a0_2 : ByteArray) (a1_0 : Int) (a1_1 : Int) (a1_2 : Int) (a1_3 : ByteArray) : Option (Int × Int × ByteArray × Bool) := (spec_MsgOk.f k a0_0 a0_1 a0_2).bind fun t342 => (if t342 = true then ((spec_MsgOk.f k a1_1 a1_2 a1_3).bind fun t343 => (spec_Changed.j0 k (!t343) a0_0 a0_1 a0_2 a1_0 a1_1 a1_2 a1_3 a1_1 a1_2 a1_3)) else (spec_Changed.j0 k true a0_0 a0_1 a0_2 a1_0 a1_1 a1_2 a1_3 a1_1 a1_2 a1_3))
theorem spec_Changed.mono_l : ∀ k, (∀ y0 y1 y2 y3 y4 y5 y6 y7 y8 y9 y10, LeO (spec_Changed.j0 k y0 y1 y2 y3 y4 y5 y6 y7 y8 y9 y10) (spec_Changed.j0 (k + 1) y0 y1 y2 y3 y4 y5 y6 y7 y8 y9 y10)) ∧ (∀ y0 y1 y2 y3 y4 y5 y6 y7 y8 y9 y10, LeO (spec_Changed.j1 k y0 y1 y2 y3 y4 y5 y6 y7 y8 y9 y10) (spec_Changed.j1 (k + 1) y0 y1 y2 y3 y4 y5 y6 y7 y8 y9 y10)) ∧ (∀ y0 y1 y2 y3 y4 y5 y6 y7 y8 y9 y10, LeO (spec_Changed.j2 k y0 y1 y2 y3 y4 y5 y6 y7 y8 y9 y10) (spec_Changed.j2 (k + 1) y0 y1 y2 y3 y4 y5 y6 y7 y8 y9 y10))
 | 0 => ⟨fun _ _ _ _ _ _ _ _ _ _ _ r h => by simp [spec_Changed.j0] at h, fun _ _ _ _ _ _ _ _ _ _ _ r h => by simp [spec_Changed.j1] at h, fun _ _ _ _ _ _ _ _ _ _ _ r h => by simp [spec_Changed.j2] at h⟩
 | k + 1 => by
  obtain ⟨ih0, ih1, ih2⟩ := spec_Changed.mono_l k
  refine ⟨?_, ?_, ?_⟩
  ·intro y0 y1 y2 y3 y4 y5 y6 y7 y8 y9 y10
   unfold spec_Changed.j0
   repeat' first
   | (with_reducible exact ih0 _ _ _ _ _ _ _ _ _ _ _)
   | (with_reducible exact ih1 _ _ _ _ _ _ _ _ _ _ _)
   | (with_reducible exact ih2 _ _ _ _ _ _ _ _ _ _ _)
   | (with_reducible exact spec_MsgLess.mono _ _ _ _ _ _ _)
   | (with_reducible exact spec_MsgOk.mono _ _ _ _)
   | (with_reducible exact LeO.refl _)
   | (with_reducible exact LeO.none _)
   | (with_reducible refine LeO.ite ?_ ?_)
   | (with_reducible refine LeO.bind ?_ (fun _ => ?_))
  ·intro y0 y1 y2 y3 y4 y5 y6 y7 y8 y9 y10
   unfold spec_Changed.j1
   repeat' first
   | (with_reducible exact ih0 _ _ _ _ _ _ _ _ _ _ _)
   | (with_reducible exact ih1 _ _ _ _ _ _ _ _ _ _ _)
   | (with_reducible exact ih2 _ _ _ _ _ _ _ _ _ _ _)
   | (with_reducible exact spec_MsgLess.mono _ _ _ _ _ _ _)
   | (with_reducible exact spec_MsgOk.mono _ _ _ _)
   | (with_reducible exact LeO.refl _)
   | (with_reducible exact LeO.none _)
   | (with_reducible refine LeO.ite ?_ ?_)
   | (with_reducible refine LeO.bind ?_ (fun _ => ?_))
  ·intro y0 y1 y2 y3 y4 y5 y6 y7 y8 y9 y10
   unfold spec_Changed.j2
   repeat' first
   | (with_reducible exact ih0 _ _ _ _ _ _ _ _ _ _ _)
   | (with_reducible exact ih1 _ _ _ _ _ _ _ _ _ _ _)
   | (with_reducible exact ih2 _ _ _ _ _ _ _ _ _ _ _)
   | (with_reducible exact spec_MsgLess.mono _ _ _ _ _ _ _)
   | (with_reducible exact spec_MsgOk.mono _ _ _ _)
   | (with_reducible exact LeO.refl _)
   | (with_reducible exact LeO.none _)
   | (with_reducible refine LeO.ite ?_ ?_)
   | (with_reducible refine LeO.bind ?_ (fun _ => ?_))
theorem spec_Changed.mono : ∀ a0 a1 a2 a3 a4 a5 a6 k, LeO (spec_Changed.f k a0 a1 a2 a3 a4 a5 a6) (spec_Changed.f (k + 1) a0 a1 a2 a3 a4 a5 a6) := by
 intro a0 a1 a2 a3 a4 a5 a6 k
 obtain ⟨ih0, ih1, ih2⟩ := spec_Changed.mono_l k
 unfold spec_Changed.f
 repeat' first
   | (with_reducible exact ih0 _ _ _ _ _ _ _ _ _ _ _)
   | (with_reducible exact ih1 _ _ _ _ _ _ _ _ _ _ _)
   | (with_reducible exact ih2 _ _ _ _ _ _ _ _ _ _ _)
   | (with_reducible exact spec_MsgLess.mono _ _ _ _ _ _ _)
   | (with_reducible exact spec_MsgOk.mono _ _ _ _)
   | (with_reducible exact LeO.refl _)
   | (with_reducible exact LeO.none _)
   | (with_reducible refine LeO.ite ?_ ?_)
   | (with_reducible refine LeO.bind ?_ (fun _ => ?_))
set_option maxHeartbeats 8000000 in
set_option maxRecDepth 100000 in
theorem spec_Changed.calls (k : Nat) (a0_0 : Int) (a0_1 : Int) (a0_2 : ByteArray) (a1_0 : Int) (a1_1 : Int) (a1_2 : Int) (a1_3 : ByteArray) (r1 : Int) (r2 : Int) (r3 : ByteArray) (r4 : Bool) (w : World) (h : spec_Changed.f k a0_0 a0_1 a0_2 a1_0 a1_1 a1_2 a1_3 = some (r1, r2, r3, r4)) :
  Calls Try.prog 26 #[.agg #[.int .i64 a0_0, .int .i64 a0_1, .string a0_2], .agg #[.int .i64 a1_0, .int .i64 a1_1, .int .i64 a1_2, .string a1_3]] w fun e w' => e = .returned (.tuple #[.agg #[.int .i64 r1, .int .i64 r2, .string r3], .bool r4]) ∧ Below w.heap.size w w' := by
 have hu27 := Try.underlying27
 have hu45 := Try.underlying45
 have HB := am (Below.refl w.heap.size w)
 have H : ((spec_MsgOk.f k a0_0 a0_1 a0_2).bind fun t342 => (if t342 = true then ((spec_MsgOk.f k a1_1 a1_2 a1_3).bind fun t343 => (spec_Changed.j0 k (!t343) a0_0 a0_1 a0_2 a1_0 a1_1 a1_2 a1_3 a1_1 a1_2 a1_3)) else (spec_Changed.j0 k true a0_0 a0_1 a0_2 a1_0 a1_1 a1_2 a1_3 a1_1 a1_2 a1_3))) = some (r1, r2, r3, r4) := h
 clear h
 have HC3 := am H
 clear H
 go_enter Try.func26, Try.ntmps26
 go_upto_region 2 with (first | ((with_reducible refine gate_dst (N := 2) rfl ?_); refine box_event ?hg (N := 2) ?hd (cs := #[.int .i64 a0_0, .int .i64 a0_1, .string a0_2]) (t := 27) ?hr ?_; (case hd => rfl); (case hg => rfl); (case hr => first | (go_simp; done) | (go_simp; rfl)); intro gb338 hg w4 hbox hb; have BK338 := am (hbox); have GW338 := am ((by rw [hg]; exact (below_size (pkB HB.out)) : w.heap.size ≤ gb338)); have GE338 := am ((by rw [hg]; exact (below_size (pkB HB.out)) : w.heap.size ≤ gb338)); replace HB := am (below_step (pkB HB.out) hb); clear hb hbox hg) | ((with_reducible refine gate_dst (N := 3) rfl ?_); refine box_event ?hg (N := 3) ?hd (cs := #[.int .i64 a1_0, .int .i64 a1_1, .int .i64 a1_2, .string a1_3]) (t := 45) ?hr ?_; (case hd => rfl); (case hg => rfl); (case hr => first | (go_simp; done) | (go_simp; rfl)); intro gb339 hg w5 hbox hb; have BK339 := am (hbox); have GW339 := am ((by rw [hg]; exact (below_size (pkW HB.out)) : w.heap.size ≤ gb339)); have GE339 := am ((by rw [hg]; exact (below_size (pkW HB.out)) : w.heap.size ≤ gb339)); replace HB := am (below_step (pkW HB.out) hb); have NB338_339 := am ((by rw [hg]; exact Nat.ne_of_lt (blk_lt (g := gb338) (o := .cells #[.int .i64 a0_0, .int .i64 a0_1, .string a0_2] 27 (0, 0)) (pkK BK338.out)) : gb338 ≠ gb339)); have NB339_338 := am ((by rw [hg]; exact Nat.ne_of_gt (blk_lt (g := gb338) (o := .cells #[.int .i64 a0_0, .int .i64 a0_1, .string a0_2] 27 (0, 0)) (pkK BK338.out)) : gb339 ≠ gb338)); replace BK338 := am (blk_below (pkK BK338.out) hb); clear hb hbox hg) | ((with_reducible refine gate_dst (N := 4) rfl ?_); refine box_event ?hg (N := 4) ?hd (cs := #[.int .i64 0, .int .i64 0, .string (⟨#[]⟩ : ByteArray)]) (t := 27) ?hr ?_; (case hd => rfl); (case hg => rfl); (case hr => first | (go_simp; done) | (go_simp; rfl)); intro gb340 hg w6 hbox hb; have BK340 := am (hbox); have GW340 := am ((by rw [hg]; exact (below_size (pkW HB.out)) : w.heap.size ≤ gb340)); have GE340 := am ((by rw [hg]; exact (below_size (pkW HB.out)) : w.heap.size ≤ gb340)); replace HB := am (below_step (pkW HB.out) hb); have NB338_340 := am ((by rw [hg]; exact Nat.ne_of_lt (blk_lt (g := gb338) (o := .cells #[.int .i64 a0_0, .int .i64 a0_1, .string a0_2] 27 (0, 0)) (pkK BK338.out)) : gb338 ≠ gb340)); have NB340_338 := am ((by rw [hg]; exact Nat.ne_of_gt (blk_lt (g := gb338) (o := .cells #[.int .i64 a0_0, .int .i64 a0_1, .string a0_2] 27 (0, 0)) (pkK BK338.out)) : gb340 ≠ gb338)); replace BK338 := am (blk_below (pkK BK338.out) hb); have NB339_340 := am ((by rw [hg]; exact Nat.ne_of_lt (blk_lt (g := gb339) (o := .cells #[.int .i64 a1_0, .int .i64 a1_1, .int .i64 a1_2, .string a1_3] 45 (0, 0)) (pkK BK339.out)) : gb339 ≠ gb340)); have NB340_339 := am ((by rw [hg]; exact Nat.ne_of_gt (blk_lt (g := gb339) (o := .cells #[.int .i64 a1_0, .int .i64 a1_1, .int .i64 a1_2, .string a1_3] 45 (0, 0)) (pkK BK339.out)) : gb340 ≠ gb339)); replace BK339 := am (blk_below (pkK BK339.out) hb); clear hb hbox hg; have hnb7 := NB339_338.out; have hnc7 := NB338_339.out; have hnb8 := NB339_340.out; have hnc8 := NB340_339.out; obtain ⟨hcz9_0, hcz9_1, hcz9_2, hcz9_3, hfz9_0, hfz9_1, hfz9_2, hfz9_3⟩ := bk4 BK339.out) | ((with_reducible refine gate_dst (N := 6) rfl ?_); refine box_event ?hg (N := 6) ?hd (cs := #[.int .i64 0, .int .i64 0, .string (⟨#[]⟩ : ByteArray)]) (t := 27) ?hr ?_; (case hd => rfl); (case hg => rfl); (case hr => first | (go_simp; done) | (go_simp; rfl)); intro gb341 hg w10 hbox hb; have BK341 := am (hbox); have GW341 := am ((by rw [hg]; exact (below_size (pkW HB.out)) : w.heap.size ≤ gb341)); have GE341 := am ((by rw [hg]; exact (below_size (pkW HB.out)) : w.heap.size ≤ gb341)); replace HB := am (below_step (pkW HB.out) hb); have NB338_341 := am ((by rw [hg]; exact Nat.ne_of_lt (blk_lt (g := gb338) (o := .cells #[.int .i64 a0_0, .int .i64 a0_1, .string a0_2] 27 (0, 0)) (pkK BK338.out)) : gb338 ≠ gb341)); have NB341_338 := am ((by rw [hg]; exact Nat.ne_of_gt (blk_lt (g := gb338) (o := .cells #[.int .i64 a0_0, .int .i64 a0_1, .string a0_2] 27 (0, 0)) (pkK BK338.out)) : gb341 ≠ gb338)); replace BK338 := am (blk_below (pkK BK338.out) hb); have NB339_341 := am ((by rw [hg]; exact Nat.ne_of_lt (blk_lt (g := gb339) (o := .cells #[.int .i64 a1_0, .int .i64 a1_1, .int .i64 a1_2, .string a1_3] 45 (0, 0)) (pkK BK339.out)) : gb339 ≠ gb341)); have NB341_339 := am ((by rw [hg]; exact Nat.ne_of_gt (blk_lt (g := gb339) (o := .cells #[.int .i64 a1_0, .int .i64 a1_1, .int .i64 a1_2, .string a1_3] 45 (0, 0)) (pkK BK339.out)) : gb341 ≠ gb339)); replace BK339 := am (blk_below (pkK BK339.out) hb); have NB340_341 := am ((by rw [hg]; exact Nat.ne_of_lt (blk_lt (g := gb340) (o := .cells #[.int .i64 0, .int .i64 0, .string (⟨#[]⟩ : ByteArray)] 27 (0, 0)) (pkK BK340.out)) : gb340 ≠ gb341)); have NB341_340 := am ((by rw [hg]; exact Nat.ne_of_gt (blk_lt (g := gb340) (o := .cells #[.int .i64 0, .int .i64 0, .string (⟨#[]⟩ : ByteArray)] 27 (0, 0)) (pkK BK340.out)) : gb341 ≠ gb340)); replace BK340 := am (blk_below (pkK BK340.out) hb); clear hb hbox hg; have hnb11 := NB341_338.out; have hnc11 := NB338_341.out; have hnb12 := NB341_339.out; have hnc12 := NB339_341.out; have hnb13 := NB341_340.out; have hnc13 := NB340_341.out; obtain ⟨hcz14_0, hcz14_1, hcz14_2, hfz14_0, hfz14_1, hfz14_2⟩ := bk3 BK341.out))
 (try simp only [Act.put, List.setIfInBounds_toArray, List.set_cons_zero, List.set_cons_succ])
 go_cut [17] (fun v17 wc => ∃ (kq : Nat) (x17_2 : Bool), v17 = .bool x17_2 ∧ Aside0 (spec_Changed.j0 kq x17_2 a0_0 a0_1 a0_2 a1_0 a1_1 a1_2 a1_3 a1_1 a1_2 a1_3 = some (r1, r2, r3, r4)) ∧ Aside0 (kq ≤ k) ∧ Aside0 (wc.heap[gb338]? = some (.cells #[.int .i64 a0_0, .int .i64 a0_1, .string a0_2] 27 (0, 0))) ∧ Aside0 (wc.heap[gb339]? = some (.cells #[.int .i64 a1_0, .int .i64 a1_1, .int .i64 a1_2, .string a1_3] 45 (0, 0))) ∧ Aside0 (wc.heap[gb340]? = some (.cells #[.int .i64 0, .int .i64 0, .string (⟨#[]⟩ : ByteArray)] 27 (0, 0))) ∧ Aside0 (wc.heap[gb341]? = some (.cells #[.int .i64 a1_1, .int .i64 a1_2, .string a1_3] 27 (0, 0))) ∧ Aside0 (Below w.heap.size w wc))
 case first =>
  have H := HC3.out
  clear HC3
  replace H := Option.bind_eq_some_iff.mp H
  obtain ⟨t342, A150, H⟩ := H
  replace H : (if t342 = true then ((spec_MsgOk.f k a1_1 a1_2 a1_3).bind fun t343 => (spec_Changed.j0 k (!t343) a0_0 a0_1 a0_2 a1_0 a1_1 a1_2 a1_3 a1_1 a1_2 a1_3)) else (spec_Changed.j0 k true a0_0 a0_1 a0_2 a1_0 a1_1 a1_2 a1_3 a1_1 a1_2 a1_3)) = some (r1, r2, r3, r4) := H
  have A15 := am A150
  clear A150
  by_cases c16 : t342 = true
  ·subst c16
   replace H : ((spec_MsgOk.f k a1_1 a1_2 a1_3).bind fun t343 => (spec_Changed.j0 k (!t343) a0_0 a0_1 a0_2 a1_0 a1_1 a1_2 a1_3 a1_1 a1_2 a1_3)) = some (r1, r2, r3, r4) := by rw [if_pos rfl] at H; exact H
   replace H := Option.bind_eq_some_iff.mp H
   obtain ⟨t343, A170, H⟩ := H
   replace H : (spec_Changed.j0 k (!t343) a0_0 a0_1 a0_2 a1_0 a1_1 a1_2 a1_3 a1_1 a1_2 a1_3) = some (r1, r2, r3, r4) := H
   have A17 := am A170
   clear A170
   have H' := am H
   clear H
   have hnb18 := NB338_339.out
   have hnc18 := NB339_338.out
   have hnb19 := NB338_340.out
   have hnc19 := NB340_338.out
   have hnb20 := NB338_341.out
   have hnc20 := NB341_338.out
   obtain ⟨hcz21_0, hcz21_1, hcz21_2, hfz21_0, hfz21_1, hfz21_2⟩ := bk3 BK338.out
   go_wp2_with (first | ((with_reducible refine gate_callee (f := 13) rfl ?_); refine goesL_ (some 10) rfl rfl Try.func13 (by kernel_rfl) rfl #[.agg #[.int .i64 a0_0, .int .i64 a0_1, .string a0_2]] rfl mpx ?_; (with_reducible refine (spec_MsgOk.calls k a0_0 a0_1 a0_2 true _ A15.out).mono ?_); rintro e w22 ⟨rfl, hb⟩; refine ⟨_, rfl, ?_⟩; replace BK338 := am (blk_below (g := gb338) (o := .cells #[.int .i64 a0_0, .int .i64 a0_1, .string a0_2] 27 (0, 0)) (by (with_reducible repeat (first | refine blk_drewN ?_ _ | refine blk_drew ?_ | refine blk_alloc ?_ _)); refine blk_far ?_ NB338_341.out _; (with_reducible repeat (first | refine blk_drewN ?_ _ | refine blk_drew ?_ | refine blk_alloc ?_ _)); refine blk_far ?_ NB338_341.out _; (with_reducible repeat (first | refine blk_drewN ?_ _ | refine blk_drew ?_ | refine blk_alloc ?_ _)); refine blk_far ?_ NB338_341.out _; exact pkK BK338.out) hb); replace BK339 := am (blk_below (g := gb339) (o := .cells #[.int .i64 a1_0, .int .i64 a1_1, .int .i64 a1_2, .string a1_3] 45 (0, 0)) (by (with_reducible repeat (first | refine blk_drewN ?_ _ | refine blk_drew ?_ | refine blk_alloc ?_ _)); refine blk_far ?_ NB339_341.out _; (with_reducible repeat (first | refine blk_drewN ?_ _ | refine blk_drew ?_ | refine blk_alloc ?_ _)); refine blk_far ?_ NB339_341.out _; (with_reducible repeat (first | refine blk_drewN ?_ _ | refine blk_drew ?_ | refine blk_alloc ?_ _)); refine blk_far ?_ NB339_341.out _; exact pkK BK339.out) hb); replace BK340 := am (blk_below (g := gb340) (o := .cells #[.int .i64 0, .int .i64 0, .string (⟨#[]⟩ : ByteArray)] 27 (0, 0)) (by (with_reducible repeat (first | refine blk_drewN ?_ _ | refine blk_drew ?_ | refine blk_alloc ?_ _)); refine blk_far ?_ NB340_341.out _; (with_reducible repeat (first | refine blk_drewN ?_ _ | refine blk_drew ?_ | refine blk_alloc ?_ _)); refine blk_far ?_ NB340_341.out _; (with_reducible repeat (first | refine blk_drewN ?_ _ | refine blk_drew ?_ | refine blk_alloc ?_ _)); refine blk_far ?_ NB340_341.out _; exact pkK BK340.out) hb); replace BK341 := am (blk_below (g := gb341) (o := .cells #[.int .i64 a1_1, .int .i64 a1_2, .string a1_3] 27 (0, 0)) (by (with_reducible repeat (first | refine blk_drewN ?_ _ | refine blk_drew ?_ | refine blk_alloc ?_ _)); refine blk_put (cs := #[.int .i64 a1_1, .int .i64 a1_2, .string (⟨#[]⟩ : ByteArray)]) ?_ 2 _ rfl; (with_reducible repeat (first | refine blk_drewN ?_ _ | refine blk_drew ?_ | refine blk_alloc ?_ _)); refine blk_put (cs := #[.int .i64 a1_1, .int .i64 0, .string (⟨#[]⟩ : ByteArray)]) ?_ 1 _ rfl; (with_reducible repeat (first | refine blk_drewN ?_ _ | refine blk_drew ?_ | refine blk_alloc ?_ _)); refine blk_put (cs := #[.int .i64 0, .int .i64 0, .string (⟨#[]⟩ : ByteArray)]) ?_ 0 _ rfl; exact pkK BK341.out) hb); replace HB := am (below_step (pkW HB.out) hb); (try clear hb); have hnb23 := NB339_340.out; have hnc23 := NB340_339.out; have hnb24 := NB339_341.out; have hnc24 := NB341_339.out; obtain ⟨hcz25_0, hcz25_1, hcz25_2, hcz25_3, hfz25_0, hfz25_1, hfz25_2, hfz25_3⟩ := bk4 BK339.out) | (go_at_call 13; (with_reducible refine (spec_MsgOk.calls k a1_1 a1_2 a1_3 t343 _ A17.out).mono ?_); rintro e w26 ⟨rfl, hb⟩; replace BK338 := am (blk_below (pkK BK338.out) hb); replace BK339 := am (blk_below (pkK BK339.out) hb); replace BK340 := am (blk_below (pkK BK340.out) hb); replace BK341 := am (blk_below (pkK BK341.out) hb); replace HB := am (below_step (pkW HB.out) hb); (try clear hb)))
   go_meet
   case rel => exact ⟨_, (!t343), rfx, H', ⟨by first | omega | exact Nat.le_refl _⟩, ⟨pkK BK338.out⟩, ⟨pkK BK339.out⟩, ⟨pkK BK340.out⟩, ⟨pkK BK341.out⟩, ⟨pkW HB.out⟩⟩
  ·replace c16 := Bool.eq_false_iff.mpr c16
   subst c16
   replace H : (spec_Changed.j0 k true a0_0 a0_1 a0_2 a1_0 a1_1 a1_2 a1_3 a1_1 a1_2 a1_3) = some (r1, r2, r3, r4) := by rw [if_neg (show ¬ (false = true) by decide)] at H; exact H
   have H' := am H
   clear H
   have hnb27 := NB338_339.out
   have hnc27 := NB339_338.out
   have hnb28 := NB338_340.out
   have hnc28 := NB340_338.out
   have hnb29 := NB338_341.out
   have hnc29 := NB341_338.out
   obtain ⟨hcz30_0, hcz30_1, hcz30_2, hfz30_0, hfz30_1, hfz30_2⟩ := bk3 BK338.out
   go_wp2_with (first | ((with_reducible refine gate_callee (f := 13) rfl ?_); refine goesL_ (some 10) rfl rfl Try.func13 (by kernel_rfl) rfl #[.agg #[.int .i64 a0_0, .int .i64 a0_1, .string a0_2]] rfl mpx ?_; (with_reducible refine (spec_MsgOk.calls k a0_0 a0_1 a0_2 false _ A15.out).mono ?_); rintro e w31 ⟨rfl, hb⟩; refine ⟨_, rfl, ?_⟩; replace BK338 := am (blk_below (g := gb338) (o := .cells #[.int .i64 a0_0, .int .i64 a0_1, .string a0_2] 27 (0, 0)) (by (with_reducible repeat (first | refine blk_drewN ?_ _ | refine blk_drew ?_ | refine blk_alloc ?_ _)); refine blk_far ?_ NB338_341.out _; (with_reducible repeat (first | refine blk_drewN ?_ _ | refine blk_drew ?_ | refine blk_alloc ?_ _)); refine blk_far ?_ NB338_341.out _; (with_reducible repeat (first | refine blk_drewN ?_ _ | refine blk_drew ?_ | refine blk_alloc ?_ _)); refine blk_far ?_ NB338_341.out _; exact pkK BK338.out) hb); replace BK339 := am (blk_below (g := gb339) (o := .cells #[.int .i64 a1_0, .int .i64 a1_1, .int .i64 a1_2, .string a1_3] 45 (0, 0)) (by (with_reducible repeat (first | refine blk_drewN ?_ _ | refine blk_drew ?_ | refine blk_alloc ?_ _)); refine blk_far ?_ NB339_341.out _; (with_reducible repeat (first | refine blk_drewN ?_ _ | refine blk_drew ?_ | refine blk_alloc ?_ _)); refine blk_far ?_ NB339_341.out _; (with_reducible repeat (first | refine blk_drewN ?_ _ | refine blk_drew ?_ | refine blk_alloc ?_ _)); refine blk_far ?_ NB339_341.out _; exact pkK BK339.out) hb); replace BK340 := am (blk_below (g := gb340) (o := .cells #[.int .i64 0, .int .i64 0, .string (⟨#[]⟩ : ByteArray)] 27 (0, 0)) (by (with_reducible repeat (first | refine blk_drewN ?_ _ | refine blk_drew ?_ | refine blk_alloc ?_ _)); refine blk_far ?_ NB340_341.out _; (with_reducible repeat (first | refine blk_drewN ?_ _ | refine blk_drew ?_ | refine blk_alloc ?_ _)); refine blk_far ?_ NB340_341.out _; (with_reducible repeat (first | refine blk_drewN ?_ _ | refine blk_drew ?_ | refine blk_alloc ?_ _)); refine blk_far ?_ NB340_341.out _; exact pkK BK340.out) hb); replace BK341 := am (blk_below (g := gb341) (o := .cells #[.int .i64 a1_1, .int .i64 a1_2, .string a1_3] 27 (0, 0)) (by (with_reducible repeat (first | refine blk_drewN ?_ _ | refine blk_drew ?_ | refine blk_alloc ?_ _)); refine blk_put (cs := #[.int .i64 a1_1, .int .i64 a1_2, .string (⟨#[]⟩ : ByteArray)]) ?_ 2 _ rfl; (with_reducible repeat (first | refine blk_drewN ?_ _ | refine blk_drew ?_ | refine blk_alloc ?_ _)); refine blk_put (cs := #[.int .i64 a1_1, .int .i64 0, .string (⟨#[]⟩ : ByteArray)]) ?_ 1 _ rfl; (with_reducible repeat (first | refine blk_drewN ?_ _ | refine blk_drew ?_ | refine blk_alloc ?_ _)); refine blk_put (cs := #[.int .i64 0, .int .i64 0, .string (⟨#[]⟩ : ByteArray)]) ?_ 0 _ rfl; exact pkK BK341.out) hb); replace HB := am (below_step (pkW HB.out) hb); (try clear hb)))
   go_meet
   case rel => exact ⟨_, (true), rfx, H', ⟨by first | omega | exact Nat.le_refl _⟩, ⟨pkK BK338.out⟩, ⟨pkK BK339.out⟩, ⟨pkK BK340.out⟩, ⟨pkK BK341.out⟩, ⟨pkW HB.out⟩⟩
 case rest =>
  clear HC3
  try clear c1
  try clear c2
  try clear p2
  try clear c7
  try clear c8
  try clear c11
  try clear c12
  try clear c13
  try clear c16
  try clear c18
  try clear c19
  try clear c20
  try clear c23
  try clear c24
  try clear c26
  try clear c27
  try clear c28
  try clear c29
  try clear hcz14_0
  try clear hcz14_1
  try clear hcz14_2
  try clear hcz21_0
  try clear hcz21_1
  try clear hcz21_2
  try clear hcz25_0
  try clear hcz25_1
  try clear hcz25_2
  try clear hcz25_3
  try clear hcz30_0
  try clear hcz30_1
  try clear hcz30_2
  try clear hcz9_0
  try clear hcz9_1
  try clear hcz9_2
  try clear hcz9_3
  try clear hfz14_0
  try clear hfz14_1
  try clear hfz14_2
  try clear hfz21_0
  try clear hfz21_1
  try clear hfz21_2
  try clear hfz25_0
  try clear hfz25_1
  try clear hfz25_2
  try clear hfz25_3
  try clear hfz30_0
  try clear hfz30_1
  try clear hfz30_2
  try clear hfz9_0
  try clear hfz9_1
  try clear hfz9_2
  try clear hfz9_3
  obtain ⟨kq, x17_2, rfl, HA, HJ2, BK338, BK339, BK340, BK341, HB⟩ := hcut
  cases kq with
  | zero => exact absurd HA.out (by simp [spec_Changed.j0])
  | succ kj2 =>
   have H := HA.out
   clear HA
   simp only [spec_Changed.j0] at H
   by_cases c32 : x17_2 = true
   ·subst c32
    replace H : (some (0, 0, (⟨#[]⟩ : ByteArray), false)) = some (r1, r2, r3, r4) := by rw [if_pos rfl] at H; exact H
    simp only [Option.some.injEq, Prod.mk.injEq] at H
    obtain ⟨rfl, rfl, rfl, rfl⟩ := H
    have hnb33 := NB340_338.out
    have hnc33 := NB338_340.out
    have hnb34 := NB340_339.out
    have hnc34 := NB339_340.out
    have hnb35 := NB340_341.out
    have hnc35 := NB341_340.out
    obtain ⟨hcz36_0, hcz36_1, hcz36_2, hfz36_0, hfz36_1, hfz36_2⟩ := bk3 BK340.out
    go_wp2
    refine bodyPost_ret (results_ct rfl _ _ gb340 27 #[.int .i64 0, .int .i64 0, .string (⟨#[]⟩ : ByteArray)] (0, 0) _ rfl (by (with_reducible repeat (first | refine blk_drewN ?_ _ | refine blk_drew ?_ | refine blk_alloc ?_ _)); refine blk_put (cs := #[.int .i64 0, .int .i64 0, .string (⟨#[]⟩ : ByteArray)]) ?_ 2 _ rfl; (with_reducible repeat (first | refine blk_drewN ?_ _ | refine blk_drew ?_ | refine blk_alloc ?_ _)); refine blk_put (cs := #[.int .i64 0, .int .i64 0, .string (⟨#[]⟩ : ByteArray)]) ?_ 1 _ rfl; (with_reducible repeat (first | refine blk_drewN ?_ _ | refine blk_drew ?_ | refine blk_alloc ?_ _)); refine blk_put (cs := #[.int .i64 0, .int .i64 0, .string (⟨#[]⟩ : ByteArray)]) ?_ 0 _ rfl; exact pkK BK340.out) Try.underlying27 rfl (by kernel_rfl)) rfl ?_
    exact ⟨rfe, pkW HB.out⟩
   ·replace c32 := Bool.eq_false_iff.mpr c32
    subst c32
    replace H : (if a1_0 = 1 then ((spec_MsgOk.f kj2 a1_1 a1_2 a1_3).bind fun t344 => (if t344 = true then (some (a1_1, a1_2, a1_3, true)) else (some (0, 0, (⟨#[]⟩ : ByteArray), false)))) else (if a1_0 = 2 then (if a0_0 = 1 then (spec_Changed.j1 kj2 (a1_1 != 1) a0_0 a0_1 a0_2 a1_0 a1_1 a1_2 a1_3 a1_1 a1_2 a1_3) else (spec_Changed.j1 kj2 true a0_0 a0_1 a0_2 a1_0 a1_1 a1_2 a1_3 a1_1 a1_2 a1_3)) else (if a1_0 = 3 then (if a0_0 = 2 then (spec_Changed.j2 kj2 (a1_1 != 2) a0_0 a0_1 a0_2 a1_0 a1_1 a1_2 a1_3 a1_1 a1_2 a1_3) else (spec_Changed.j2 kj2 true a0_0 a0_1 a0_2 a1_0 a1_1 a1_2 a1_3 a1_1 a1_2 a1_3)) else (if a1_0 = 4 then ((spec_MsgLess.f kj2 a1_1 a1_2 a1_3 a0_0 a0_1 a0_2).bind fun t347 => (if t347 = true then ((spec_MsgOk.f kj2 a0_0 a0_1 a0_2).bind fun t348 => (if t348 = true then (some (a0_0, a0_1, a0_2, true)) else (some (0, 0, (⟨#[]⟩ : ByteArray), false)))) else ((spec_MsgOk.f kj2 a1_1 a1_2 a1_3).bind fun t349 => (if t349 = true then (some (a1_1, a1_2, a1_3, true)) else (some (0, 0, (⟨#[]⟩ : ByteArray), false)))))) else (some (0, 0, (⟨#[]⟩ : ByteArray), false)))))) = some (r1, r2, r3, r4) := by rw [if_neg (show ¬ (false = true) by decide)] at H; exact H
    by_cases c37 : a1_0 = 1
    ·rw [if_pos c37] at H
     have c37b0 : (a1_0 == 1) = true := beq_iff_eq.mpr c37
     have c37b1 : (a1_0 != 1) = false := bne_eq_false_iff_eq.mpr c37
     clear c37
     replace H := Option.bind_eq_some_iff.mp H
     obtain ⟨t344, A380, H⟩ := H
     replace H : (if t344 = true then (some (a1_1, a1_2, a1_3, true)) else (some (0, 0, (⟨#[]⟩ : ByteArray), false))) = some (r1, r2, r3, r4) := H
     have A38 := am A380
     clear A380
     by_cases c39 : t344 = true
     ·subst c39
      replace H : (some (a1_1, a1_2, a1_3, true)) = some (r1, r2, r3, r4) := by rw [if_pos rfl] at H; exact H
      simp only [Option.some.injEq, Prod.mk.injEq] at H
      obtain ⟨rfl, rfl, rfl, rfl⟩ := H
      have hnb40 := NB339_338.out
      have hnc40 := NB338_339.out
      have hnb41 := NB339_340.out
      have hnc41 := NB340_339.out
      have hnb42 := NB339_341.out
      have hnc42 := NB341_339.out
      obtain ⟨hcz43_0, hcz43_1, hcz43_2, hcz43_3, hfz43_0, hfz43_1, hfz43_2, hfz43_3⟩ := bk4 BK339.out
      have hnb44 := NB341_338.out
      have hnc44 := NB338_341.out
      have hnb45 := NB341_340.out
      have hnc45 := NB340_341.out
      obtain ⟨hcz46_0, hcz46_1, hcz46_2, hfz46_0, hfz46_1, hfz46_2⟩ := bk3 BK341.out
      go_wp2_with (first | ((with_reducible refine gate_callee (f := 13) rfl ?_); refine goesL_ (some 70) rfl rfl Try.func13 (by kernel_rfl) rfl #[.agg #[.int .i64 a1_1, .int .i64 a1_2, .string a1_3]] rfl mpx ?_; (with_reducible refine (spec_MsgOk.calls kj2 a1_1 a1_2 a1_3 true _ A38.out).mono ?_); rintro e w47 ⟨rfl, hb⟩; refine ⟨_, rfl, ?_⟩; replace BK338 := am (blk_below (pkK BK338.out) hb); replace BK339 := am (blk_below (pkK BK339.out) hb); replace BK340 := am (blk_below (pkK BK340.out) hb); replace BK341 := am (blk_below (pkK BK341.out) hb); replace HB := am (below_step (pkW HB.out) hb); (try clear hb); obtain ⟨hcz48_0, hcz48_1, hcz48_2, hfz48_0, hfz48_1, hfz48_2⟩ := bk3 BK341.out; have hnb49 := NB340_338.out; have hnc49 := NB338_340.out; obtain ⟨hcz50_0, hcz50_1, hcz50_2, hfz50_0, hfz50_1, hfz50_2⟩ := bk3 BK340.out))
      refine bodyPost_ret (results_ct rfl _ _ gb340 27 #[.int .i64 a1_1, .int .i64 a1_2, .string a1_3] (0, 0) _ rfl (by (with_reducible repeat (first | refine blk_drewN ?_ _ | refine blk_drew ?_ | refine blk_alloc ?_ _)); refine blk_put (cs := #[.int .i64 a1_1, .int .i64 a1_2, .string (⟨#[]⟩ : ByteArray)]) ?_ 2 _ rfl; (with_reducible repeat (first | refine blk_drewN ?_ _ | refine blk_drew ?_ | refine blk_alloc ?_ _)); refine blk_put (cs := #[.int .i64 a1_1, .int .i64 0, .string (⟨#[]⟩ : ByteArray)]) ?_ 1 _ rfl; (with_reducible repeat (first | refine blk_drewN ?_ _ | refine blk_drew ?_ | refine blk_alloc ?_ _)); refine blk_put (cs := #[.int .i64 0, .int .i64 0, .string (⟨#[]⟩ : ByteArray)]) ?_ 0 _ rfl; exact pkK BK340.out) Try.underlying27 rfl (by kernel_rfl)) rfl ?_
      exact ⟨rfe, pkW HB.out⟩
     ·replace c39 := Bool.eq_false_iff.mpr c39
      subst c39
      replace H : (some (0, 0, (⟨#[]⟩ : ByteArray), false)) = some (r1, r2, r3, r4) := by rw [if_neg (show ¬ (false = true) by decide)] at H; exact H
      simp only [Option.some.injEq, Prod.mk.injEq] at H
      obtain ⟨rfl, rfl, rfl, rfl⟩ := H
      have hnb51 := NB339_338.out
      have hnc51 := NB338_339.out
      have hnb52 := NB339_340.out
      have hnc52 := NB340_339.out
      have hnb53 := NB339_341.out
      have hnc53 := NB341_339.out
      obtain ⟨hcz54_0, hcz54_1, hcz54_2, hcz54_3, hfz54_0, hfz54_1, hfz54_2, hfz54_3⟩ := bk4 BK339.out
      have hnb55 := NB341_338.out
      have hnc55 := NB338_341.out
      have hnb56 := NB341_340.out
      have hnc56 := NB340_341.out
      obtain ⟨hcz57_0, hcz57_1, hcz57_2, hfz57_0, hfz57_1, hfz57_2⟩ := bk3 BK341.out
      go_wp2_with (first | ((with_reducible refine gate_callee (f := 13) rfl ?_); refine goesL_ (some 70) rfl rfl Try.func13 (by kernel_rfl) rfl #[.agg #[.int .i64 a1_1, .int .i64 a1_2, .string a1_3]] rfl mpx ?_; (with_reducible refine (spec_MsgOk.calls kj2 a1_1 a1_2 a1_3 false _ A38.out).mono ?_); rintro e w58 ⟨rfl, hb⟩; refine ⟨_, rfl, ?_⟩; replace BK338 := am (blk_below (pkK BK338.out) hb); replace BK339 := am (blk_below (pkK BK339.out) hb); replace BK340 := am (blk_below (pkK BK340.out) hb); replace BK341 := am (blk_below (pkK BK341.out) hb); replace HB := am (below_step (pkW HB.out) hb); (try clear hb); have hnb59 := NB340_338.out; have hnc59 := NB338_340.out; obtain ⟨hcz60_0, hcz60_1, hcz60_2, hfz60_0, hfz60_1, hfz60_2⟩ := bk3 BK340.out))
      refine bodyPost_ret (results_ct rfl _ _ gb340 27 #[.int .i64 0, .int .i64 0, .string (⟨#[]⟩ : ByteArray)] (0, 0) _ rfl (by (with_reducible repeat (first | refine blk_drewN ?_ _ | refine blk_drew ?_ | refine blk_alloc ?_ _)); refine blk_put (cs := #[.int .i64 0, .int .i64 0, .string (⟨#[]⟩ : ByteArray)]) ?_ 2 _ rfl; (with_reducible repeat (first | refine blk_drewN ?_ _ | refine blk_drew ?_ | refine blk_alloc ?_ _)); refine blk_put (cs := #[.int .i64 0, .int .i64 0, .string (⟨#[]⟩ : ByteArray)]) ?_ 1 _ rfl; (with_reducible repeat (first | refine blk_drewN ?_ _ | refine blk_drew ?_ | refine blk_alloc ?_ _)); refine blk_put (cs := #[.int .i64 0, .int .i64 0, .string (⟨#[]⟩ : ByteArray)]) ?_ 0 _ rfl; exact pkK BK340.out) Try.underlying27 rfl (by kernel_rfl)) rfl ?_
      exact ⟨rfe, pkW HB.out⟩
    ·rw [if_neg c37] at H
     have c37b0 : (a1_0 == 1) = false := beq_eq_false_iff_ne.mpr c37
     have c37b1 : (a1_0 != 1) = true := bne_iff_ne.mpr c37
     by_cases c61 : a1_0 = 2
     ·rw [if_pos c61] at H
      have c61b0 : (a1_0 == 2) = true := beq_iff_eq.mpr c61
      have c61b1 : (a1_0 != 2) = false := bne_eq_false_iff_eq.mpr c61
      clear c61
      have HC62 := am H
      clear H
      have hnb63 := NB339_338.out
      have hnc63 := NB338_339.out
      have hnb64 := NB339_340.out
      have hnc64 := NB340_339.out
      have hnb65 := NB339_341.out
      have hnc65 := NB341_339.out
      obtain ⟨hcz66_0, hcz66_1, hcz66_2, hcz66_3, hfz66_0, hfz66_1, hfz66_2, hfz66_3⟩ := bk4 BK339.out
      go_upto_region 8 with (fail)
      go_cut [34] (fun v34 wc => ∃ (kq : Nat) (x34_61 : Bool), v34 = .bool x34_61 ∧ Aside0 (spec_Changed.j1 kq x34_61 a0_0 a0_1 a0_2 a1_0 a1_1 a1_2 a1_3 a1_1 a1_2 a1_3 = some (r1, r2, r3, r4)) ∧ Aside0 (kq ≤ kj2) ∧ Aside0 (wc.heap[gb338]? = some (.cells #[.int .i64 a0_0, .int .i64 a0_1, .string a0_2] 27 (0, 0))) ∧ Aside0 (wc.heap[gb339]? = some (.cells #[.int .i64 a1_0, .int .i64 a1_1, .int .i64 a1_2, .string a1_3] 45 (0, 0))) ∧ Aside0 (wc.heap[gb340]? = some (.cells #[.int .i64 0, .int .i64 0, .string (⟨#[]⟩ : ByteArray)] 27 (0, 0))) ∧ Aside0 (wc.heap[gb341]? = some (.cells #[.int .i64 a1_1, .int .i64 a1_2, .string a1_3] 27 (0, 0))) ∧ Aside0 (Below w.heap.size w wc))
      case first =>
       have H := HC62.out
       clear HC62
       by_cases c67 : a0_0 = 1
       ·rw [if_pos c67] at H
        have c67b0 : (a0_0 == 1) = true := beq_iff_eq.mpr c67
        have c67b1 : (a0_0 != 1) = false := bne_eq_false_iff_eq.mpr c67
        clear c67
        (first | rw [c67b0] | (simp only [i64_w, i32_w]; rw [c67b0]) | skip)
        have H' := am H
        clear H
        have hnb68 := NB338_339.out
        have hnc68 := NB339_338.out
        have hnb69 := NB338_340.out
        have hnc69 := NB340_338.out
        have hnb70 := NB338_341.out
        have hnc70 := NB341_338.out
        obtain ⟨hcz71_0, hcz71_1, hcz71_2, hfz71_0, hfz71_1, hfz71_2⟩ := bk3 BK338.out
        have hnb72 := NB339_340.out
        have hnc72 := NB340_339.out
        have hnb73 := NB339_341.out
        have hnc73 := NB341_339.out
        obtain ⟨hcz74_0, hcz74_1, hcz74_2, hcz74_3, hfz74_0, hfz74_1, hfz74_2, hfz74_3⟩ := bk4 BK339.out
        go_wp2
        go_meet
        case rel => exact ⟨_, ((a1_1 != 1)), rfx, H', ⟨by have := HJ2.out; first | omega | exact Nat.le_refl _⟩, ⟨pkK BK338.out⟩, ⟨pkK BK339.out⟩, ⟨pkK BK340.out⟩, ⟨pkK BK341.out⟩, ⟨pkW HB.out⟩⟩
       ·rw [if_neg c67] at H
        have c67b0 : (a0_0 == 1) = false := beq_eq_false_iff_ne.mpr c67
        have c67b1 : (a0_0 != 1) = true := bne_iff_ne.mpr c67
        (first | rw [c67b0] | (simp only [i64_w, i32_w]; rw [c67b0]) | skip)
        have H' := am H
        clear H
        have hnb75 := NB338_339.out
        have hnc75 := NB339_338.out
        have hnb76 := NB338_340.out
        have hnc76 := NB340_338.out
        have hnb77 := NB338_341.out
        have hnc77 := NB341_338.out
        obtain ⟨hcz78_0, hcz78_1, hcz78_2, hfz78_0, hfz78_1, hfz78_2⟩ := bk3 BK338.out
        go_wp2
        go_meet
        case rel => exact ⟨_, (true), rfx, H', ⟨by have := HJ2.out; first | omega | exact Nat.le_refl _⟩, ⟨pkK BK338.out⟩, ⟨pkK BK339.out⟩, ⟨pkK BK340.out⟩, ⟨pkK BK341.out⟩, ⟨pkW HB.out⟩⟩
      case rest =>
       clear HC62
       try clear c1
       try clear c2
       try clear p2
       try clear c3
       try clear c4
       try clear c5
       try clear c6
       try clear c7
       try clear c8
       try clear c11
       try clear c12
       try clear c13
       try clear c16
       try clear c18
       try clear c19
       try clear c20
       try clear c23
       try clear c24
       try clear c26
       try clear c27
       try clear c28
       try clear c29
       try clear c32
       try clear c33
       try clear c34
       try clear c35
       try clear c37
       try clear c37b0
       try clear c37b1
       try clear c39
       try clear c40
       try clear c41
       try clear c42
       try clear c44
       try clear c45
       try clear c49
       try clear c51
       try clear c52
       try clear c53
       try clear c55
       try clear c56
       try clear c59
       try clear c61
       try clear c61b0
       try clear c61b1
       try clear c63
       try clear c64
       try clear c65
       try clear c67
       try clear c67b0
       try clear c67b1
       try clear c68
       try clear c69
       try clear c70
       try clear c72
       try clear c73
       try clear c75
       try clear c76
       try clear c77
       try clear hcz14_0
       try clear hcz14_1
       try clear hcz14_2
       try clear hcz21_0
       try clear hcz21_1
       try clear hcz21_2
       try clear hcz25_0
       try clear hcz25_1
       try clear hcz25_2
       try clear hcz25_3
       try clear hcz30_0
       try clear hcz30_1
       try clear hcz30_2
       try clear hcz36_0
       try clear hcz36_1
       try clear hcz36_2
       try clear hcz43_0
       try clear hcz43_1
       try clear hcz43_2
       try clear hcz43_3
       try clear hcz46_0
       try clear hcz46_1
       try clear hcz46_2
       try clear hcz48_0
       try clear hcz48_1
       try clear hcz48_2
       try clear hcz50_0
       try clear hcz50_1
       try clear hcz50_2
       try clear hcz54_0
       try clear hcz54_1
       try clear hcz54_2
       try clear hcz54_3
       try clear hcz57_0
       try clear hcz57_1
       try clear hcz57_2
       try clear hcz60_0
       try clear hcz60_1
       try clear hcz60_2
       try clear hcz66_0
       try clear hcz66_1
       try clear hcz66_2
       try clear hcz66_3
       try clear hcz71_0
       try clear hcz71_1
       try clear hcz71_2
       try clear hcz74_0
       try clear hcz74_1
       try clear hcz74_2
       try clear hcz74_3
       try clear hcz78_0
       try clear hcz78_1
       try clear hcz78_2
       try clear hcz9_0
       try clear hcz9_1
       try clear hcz9_2
       try clear hcz9_3
       try clear hfz14_0
       try clear hfz14_1
       try clear hfz14_2
       try clear hfz21_0
       try clear hfz21_1
       try clear hfz21_2
       try clear hfz25_0
       try clear hfz25_1
       try clear hfz25_2
       try clear hfz25_3
       try clear hfz30_0
       try clear hfz30_1
       try clear hfz30_2
       try clear hfz36_0
       try clear hfz36_1
       try clear hfz36_2
       try clear hfz43_0
       try clear hfz43_1
       try clear hfz43_2
       try clear hfz43_3
       try clear hfz46_0
       try clear hfz46_1
       try clear hfz46_2
       try clear hfz48_0
       try clear hfz48_1
       try clear hfz48_2
       try clear hfz50_0
       try clear hfz50_1
       try clear hfz50_2
       try clear hfz54_0
       try clear hfz54_1
       try clear hfz54_2
       try clear hfz54_3
       try clear hfz57_0
       try clear hfz57_1
       try clear hfz57_2
       try clear hfz60_0
       try clear hfz60_1
       try clear hfz60_2
       try clear hfz66_0
       try clear hfz66_1
       try clear hfz66_2
       try clear hfz66_3
       try clear hfz71_0
       try clear hfz71_1
       try clear hfz71_2
       try clear hfz74_0
       try clear hfz74_1
       try clear hfz74_2
       try clear hfz74_3
       try clear hfz78_0
       try clear hfz78_1
       try clear hfz78_2
       try clear hfz9_0
       try clear hfz9_1
       try clear hfz9_2
       try clear hfz9_3
       try clear p2
       obtain ⟨kq, x34_61, rfl, HA, HJ61, BK338, BK339, BK340, BK341, HB⟩ := hcut
       cases kq with
       | zero => exact absurd HA.out (by simp [spec_Changed.j1])
       | succ kj61 =>
        have H := HA.out
        clear HA
        simp only [spec_Changed.j1] at H
        by_cases c79 : x34_61 = true
        ·subst c79
         replace H : (some (0, 0, (⟨#[]⟩ : ByteArray), false)) = some (r1, r2, r3, r4) := by rw [if_pos rfl] at H; exact H
         simp only [Option.some.injEq, Prod.mk.injEq] at H
         obtain ⟨rfl, rfl, rfl, rfl⟩ := H
         have hnb80 := NB340_338.out
         have hnc80 := NB338_340.out
         have hnb81 := NB340_339.out
         have hnc81 := NB339_340.out
         have hnb82 := NB340_341.out
         have hnc82 := NB341_340.out
         obtain ⟨hcz83_0, hcz83_1, hcz83_2, hfz83_0, hfz83_1, hfz83_2⟩ := bk3 BK340.out
         go_wp2
         refine bodyPost_ret (results_ct rfl _ _ gb340 27 #[.int .i64 0, .int .i64 0, .string (⟨#[]⟩ : ByteArray)] (0, 0) _ rfl (by (with_reducible repeat (first | refine blk_drewN ?_ _ | refine blk_drew ?_ | refine blk_alloc ?_ _)); refine blk_put (cs := #[.int .i64 0, .int .i64 0, .string (⟨#[]⟩ : ByteArray)]) ?_ 2 _ rfl; (with_reducible repeat (first | refine blk_drewN ?_ _ | refine blk_drew ?_ | refine blk_alloc ?_ _)); refine blk_put (cs := #[.int .i64 0, .int .i64 0, .string (⟨#[]⟩ : ByteArray)]) ?_ 1 _ rfl; (with_reducible repeat (first | refine blk_drewN ?_ _ | refine blk_drew ?_ | refine blk_alloc ?_ _)); refine blk_put (cs := #[.int .i64 0, .int .i64 0, .string (⟨#[]⟩ : ByteArray)]) ?_ 0 _ rfl; exact pkK BK340.out) Try.underlying27 rfl (by kernel_rfl)) rfl ?_
         exact ⟨rfe, pkW HB.out⟩
        ·replace c79 := Bool.eq_false_iff.mpr c79
         subst c79
         replace H : ((spec_MsgOk.f kj61 a1_1 (wrap64 (a0_1 + a1_2)) a1_3).bind fun t345 => (if t345 = true then (some (a1_1, wrap64 (a0_1 + a1_2), a1_3, true)) else (some (0, 0, (⟨#[]⟩ : ByteArray), false)))) = some (r1, r2, r3, r4) := by rw [if_neg (show ¬ (false = true) by decide)] at H; exact H
         replace H := Option.bind_eq_some_iff.mp H
         obtain ⟨t345, A840, H⟩ := H
         replace H : (if t345 = true then (some (a1_1, wrap64 (a0_1 + a1_2), a1_3, true)) else (some (0, 0, (⟨#[]⟩ : ByteArray), false))) = some (r1, r2, r3, r4) := H
         have A84 := am A840
         clear A840
         by_cases c85 : t345 = true
         ·subst c85
          replace H : (some (a1_1, wrap64 (a0_1 + a1_2), a1_3, true)) = some (r1, r2, r3, r4) := by rw [if_pos rfl] at H; exact H
          simp only [Option.some.injEq, Prod.mk.injEq] at H
          obtain ⟨rfl, rfl, rfl, rfl⟩ := H
          have hnb86 := NB338_339.out
          have hnc86 := NB339_338.out
          have hnb87 := NB338_340.out
          have hnc87 := NB340_338.out
          have hnb88 := NB338_341.out
          have hnc88 := NB341_338.out
          obtain ⟨hcz89_0, hcz89_1, hcz89_2, hfz89_0, hfz89_1, hfz89_2⟩ := bk3 BK338.out
          have hnb90 := NB339_340.out
          have hnc90 := NB340_339.out
          have hnb91 := NB339_341.out
          have hnc91 := NB341_339.out
          obtain ⟨hcz92_0, hcz92_1, hcz92_2, hcz92_3, hfz92_0, hfz92_1, hfz92_2, hfz92_3⟩ := bk4 BK339.out
          have hnb93 := NB341_340.out
          have hnc93 := NB340_341.out
          obtain ⟨hcz94_0, hcz94_1, hcz94_2, hfz94_0, hfz94_1, hfz94_2⟩ := bk3 BK341.out
          go_wp2_with (first | ((with_reducible refine gate_callee (f := 13) rfl ?_); refine goesL_ (some 70) rfl rfl Try.func13 (by kernel_rfl) rfl #[.agg #[.int .i64 a1_1, .int .i64 (wrap64 (a0_1 + a1_2)), .string a1_3]] rfl mpx ?_; (with_reducible refine (spec_MsgOk.calls kj61 a1_1 (wrap64 (a0_1 + a1_2)) a1_3 true _ A84.out).mono ?_); rintro e w95 ⟨rfl, hb⟩; refine ⟨_, rfl, ?_⟩; replace BK338 := am (blk_below (g := gb338) (o := .cells #[.int .i64 a0_0, .int .i64 a0_1, .string a0_2] 27 (0, 0)) (by (with_reducible repeat (first | refine blk_drewN ?_ _ | refine blk_drew ?_ | refine blk_alloc ?_ _)); refine blk_far ?_ NB338_341.out _; exact pkK BK338.out) hb); replace BK339 := am (blk_below (g := gb339) (o := .cells #[.int .i64 a1_0, .int .i64 a1_1, .int .i64 a1_2, .string a1_3] 45 (0, 0)) (by (with_reducible repeat (first | refine blk_drewN ?_ _ | refine blk_drew ?_ | refine blk_alloc ?_ _)); refine blk_far ?_ NB339_341.out _; exact pkK BK339.out) hb); replace BK340 := am (blk_below (g := gb340) (o := .cells #[.int .i64 0, .int .i64 0, .string (⟨#[]⟩ : ByteArray)] 27 (0, 0)) (by (with_reducible repeat (first | refine blk_drewN ?_ _ | refine blk_drew ?_ | refine blk_alloc ?_ _)); refine blk_far ?_ NB340_341.out _; exact pkK BK340.out) hb); replace BK341 := am (blk_below (g := gb341) (o := .cells #[.int .i64 a1_1, .int .i64 (wrap64 (a0_1 + a1_2)), .string a1_3] 27 (0, 0)) (by (with_reducible repeat (first | refine blk_drewN ?_ _ | refine blk_drew ?_ | refine blk_alloc ?_ _)); refine blk_put (cs := #[.int .i64 a1_1, .int .i64 a1_2, .string a1_3]) ?_ 1 _ rfl; exact pkK BK341.out) hb); replace HB := am (below_step (pkW HB.out) hb); (try clear hb); obtain ⟨hcz96_0, hcz96_1, hcz96_2, hfz96_0, hfz96_1, hfz96_2⟩ := bk3 BK341.out; obtain ⟨hcz97_0, hcz97_1, hcz97_2, hfz97_0, hfz97_1, hfz97_2⟩ := bk3 BK340.out))
          refine bodyPost_ret (results_ct rfl _ _ gb340 27 #[.int .i64 a1_1, .int .i64 (wrap64 (a0_1 + a1_2)), .string a1_3] (0, 0) _ rfl (by (with_reducible repeat (first | refine blk_drewN ?_ _ | refine blk_drew ?_ | refine blk_alloc ?_ _)); refine blk_put (cs := #[.int .i64 a1_1, .int .i64 (wrap64 (a0_1 + a1_2)), .string (⟨#[]⟩ : ByteArray)]) ?_ 2 _ rfl; (with_reducible repeat (first | refine blk_drewN ?_ _ | refine blk_drew ?_ | refine blk_alloc ?_ _)); refine blk_put (cs := #[.int .i64 a1_1, .int .i64 0, .string (⟨#[]⟩ : ByteArray)]) ?_ 1 _ rfl; (with_reducible repeat (first | refine blk_drewN ?_ _ | refine blk_drew ?_ | refine blk_alloc ?_ _)); refine blk_put (cs := #[.int .i64 0, .int .i64 0, .string (⟨#[]⟩ : ByteArray)]) ?_ 0 _ rfl; exact pkK BK340.out) Try.underlying27 rfl (by kernel_rfl)) rfl ?_
          exact ⟨rfe, pkW HB.out⟩
         ·replace c85 := Bool.eq_false_iff.mpr c85
          subst c85
          replace H : (some (0, 0, (⟨#[]⟩ : ByteArray), false)) = some (r1, r2, r3, r4) := by rw [if_neg (show ¬ (false = true) by decide)] at H; exact H
          simp only [Option.some.injEq, Prod.mk.injEq] at H
          obtain ⟨rfl, rfl, rfl, rfl⟩ := H
          have hnb98 := NB338_339.out
          have hnc98 := NB339_338.out
          have hnb99 := NB338_340.out
          have hnc99 := NB340_338.out
          have hnb100 := NB338_341.out
          have hnc100 := NB341_338.out
          obtain ⟨hcz101_0, hcz101_1, hcz101_2, hfz101_0, hfz101_1, hfz101_2⟩ := bk3 BK338.out
          have hnb102 := NB339_340.out
          have hnc102 := NB340_339.out
          have hnb103 := NB339_341.out
          have hnc103 := NB341_339.out
          obtain ⟨hcz104_0, hcz104_1, hcz104_2, hcz104_3, hfz104_0, hfz104_1, hfz104_2, hfz104_3⟩ := bk4 BK339.out
          have hnb105 := NB341_340.out
          have hnc105 := NB340_341.out
          obtain ⟨hcz106_0, hcz106_1, hcz106_2, hfz106_0, hfz106_1, hfz106_2⟩ := bk3 BK341.out
          go_wp2_with (first | ((with_reducible refine gate_callee (f := 13) rfl ?_); refine goesL_ (some 70) rfl rfl Try.func13 (by kernel_rfl) rfl #[.agg #[.int .i64 a1_1, .int .i64 (wrap64 (a0_1 + a1_2)), .string a1_3]] rfl mpx ?_; (with_reducible refine (spec_MsgOk.calls kj61 a1_1 (wrap64 (a0_1 + a1_2)) a1_3 false _ A84.out).mono ?_); rintro e w107 ⟨rfl, hb⟩; refine ⟨_, rfl, ?_⟩; replace BK338 := am (blk_below (g := gb338) (o := .cells #[.int .i64 a0_0, .int .i64 a0_1, .string a0_2] 27 (0, 0)) (by (with_reducible repeat (first | refine blk_drewN ?_ _ | refine blk_drew ?_ | refine blk_alloc ?_ _)); refine blk_far ?_ NB338_341.out _; exact pkK BK338.out) hb); replace BK339 := am (blk_below (g := gb339) (o := .cells #[.int .i64 a1_0, .int .i64 a1_1, .int .i64 a1_2, .string a1_3] 45 (0, 0)) (by (with_reducible repeat (first | refine blk_drewN ?_ _ | refine blk_drew ?_ | refine blk_alloc ?_ _)); refine blk_far ?_ NB339_341.out _; exact pkK BK339.out) hb); replace BK340 := am (blk_below (g := gb340) (o := .cells #[.int .i64 0, .int .i64 0, .string (⟨#[]⟩ : ByteArray)] 27 (0, 0)) (by (with_reducible repeat (first | refine blk_drewN ?_ _ | refine blk_drew ?_ | refine blk_alloc ?_ _)); refine blk_far ?_ NB340_341.out _; exact pkK BK340.out) hb); replace BK341 := am (blk_below (g := gb341) (o := .cells #[.int .i64 a1_1, .int .i64 (wrap64 (a0_1 + a1_2)), .string a1_3] 27 (0, 0)) (by (with_reducible repeat (first | refine blk_drewN ?_ _ | refine blk_drew ?_ | refine blk_alloc ?_ _)); refine blk_put (cs := #[.int .i64 a1_1, .int .i64 a1_2, .string a1_3]) ?_ 1 _ rfl; exact pkK BK341.out) hb); replace HB := am (below_step (pkW HB.out) hb); (try clear hb); obtain ⟨hcz108_0, hcz108_1, hcz108_2, hfz108_0, hfz108_1, hfz108_2⟩ := bk3 BK340.out))
          refine bodyPost_ret (results_ct rfl _ _ gb340 27 #[.int .i64 0, .int .i64 0, .string (⟨#[]⟩ : ByteArray)] (0, 0) _ rfl (by (with_reducible repeat (first | refine blk_drewN ?_ _ | refine blk_drew ?_ | refine blk_alloc ?_ _)); refine blk_put (cs := #[.int .i64 0, .int .i64 0, .string (⟨#[]⟩ : ByteArray)]) ?_ 2 _ rfl; (with_reducible repeat (first | refine blk_drewN ?_ _ | refine blk_drew ?_ | refine blk_alloc ?_ _)); refine blk_put (cs := #[.int .i64 0, .int .i64 0, .string (⟨#[]⟩ : ByteArray)]) ?_ 1 _ rfl; (with_reducible repeat (first | refine blk_drewN ?_ _ | refine blk_drew ?_ | refine blk_alloc ?_ _)); refine blk_put (cs := #[.int .i64 0, .int .i64 0, .string (⟨#[]⟩ : ByteArray)]) ?_ 0 _ rfl; exact pkK BK340.out) Try.underlying27 rfl (by kernel_rfl)) rfl ?_
          exact ⟨rfe, pkW HB.out⟩
     ·rw [if_neg c61] at H
      have c61b0 : (a1_0 == 2) = false := beq_eq_false_iff_ne.mpr c61
      have c61b1 : (a1_0 != 2) = true := bne_iff_ne.mpr c61
      by_cases c109 : a1_0 = 3
      ·rw [if_pos c109] at H
       have c109b0 : (a1_0 == 3) = true := beq_iff_eq.mpr c109
       have c109b1 : (a1_0 != 3) = false := bne_eq_false_iff_eq.mpr c109
       clear c109
       have HC110 := am H
       clear H
       have hnb111 := NB339_338.out
       have hnc111 := NB338_339.out
       have hnb112 := NB339_340.out
       have hnc112 := NB340_339.out
       have hnb113 := NB339_341.out
       have hnc113 := NB341_339.out
       obtain ⟨hcz114_0, hcz114_1, hcz114_2, hcz114_3, hfz114_0, hfz114_1, hfz114_2, hfz114_3⟩ := bk4 BK339.out
       go_upto_region 12 with (fail)
       go_cut [53] (fun v53 wc => ∃ (kq : Nat) (x53_109 : Bool), v53 = .bool x53_109 ∧ Aside0 (spec_Changed.j2 kq x53_109 a0_0 a0_1 a0_2 a1_0 a1_1 a1_2 a1_3 a1_1 a1_2 a1_3 = some (r1, r2, r3, r4)) ∧ Aside0 (kq ≤ kj2) ∧ Aside0 (wc.heap[gb338]? = some (.cells #[.int .i64 a0_0, .int .i64 a0_1, .string a0_2] 27 (0, 0))) ∧ Aside0 (wc.heap[gb339]? = some (.cells #[.int .i64 a1_0, .int .i64 a1_1, .int .i64 a1_2, .string a1_3] 45 (0, 0))) ∧ Aside0 (wc.heap[gb340]? = some (.cells #[.int .i64 0, .int .i64 0, .string (⟨#[]⟩ : ByteArray)] 27 (0, 0))) ∧ Aside0 (wc.heap[gb341]? = some (.cells #[.int .i64 a1_1, .int .i64 a1_2, .string a1_3] 27 (0, 0))) ∧ Aside0 (Below w.heap.size w wc))
       case first =>
        have H := HC110.out
        clear HC110
        by_cases c115 : a0_0 = 2
        ·rw [if_pos c115] at H
         have c115b0 : (a0_0 == 2) = true := beq_iff_eq.mpr c115
         have c115b1 : (a0_0 != 2) = false := bne_eq_false_iff_eq.mpr c115
         clear c115
         (first | rw [c115b0] | (simp only [i64_w, i32_w]; rw [c115b0]) | skip)
         have H' := am H
         clear H
         have hnb116 := NB338_339.out
         have hnc116 := NB339_338.out
         have hnb117 := NB338_340.out
         have hnc117 := NB340_338.out
         have hnb118 := NB338_341.out
         have hnc118 := NB341_338.out
         obtain ⟨hcz119_0, hcz119_1, hcz119_2, hfz119_0, hfz119_1, hfz119_2⟩ := bk3 BK338.out
         have hnb120 := NB339_340.out
         have hnc120 := NB340_339.out
         have hnb121 := NB339_341.out
         have hnc121 := NB341_339.out
         obtain ⟨hcz122_0, hcz122_1, hcz122_2, hcz122_3, hfz122_0, hfz122_1, hfz122_2, hfz122_3⟩ := bk4 BK339.out
         go_wp2
         go_meet
         case rel => exact ⟨_, ((a1_1 != 2)), rfx, H', ⟨by have := HJ2.out; first | omega | exact Nat.le_refl _⟩, ⟨pkK BK338.out⟩, ⟨pkK BK339.out⟩, ⟨pkK BK340.out⟩, ⟨pkK BK341.out⟩, ⟨pkW HB.out⟩⟩
        ·rw [if_neg c115] at H
         have c115b0 : (a0_0 == 2) = false := beq_eq_false_iff_ne.mpr c115
         have c115b1 : (a0_0 != 2) = true := bne_iff_ne.mpr c115
         (first | rw [c115b0] | (simp only [i64_w, i32_w]; rw [c115b0]) | skip)
         have H' := am H
         clear H
         have hnb123 := NB338_339.out
         have hnc123 := NB339_338.out
         have hnb124 := NB338_340.out
         have hnc124 := NB340_338.out
         have hnb125 := NB338_341.out
         have hnc125 := NB341_338.out
         obtain ⟨hcz126_0, hcz126_1, hcz126_2, hfz126_0, hfz126_1, hfz126_2⟩ := bk3 BK338.out
         go_wp2
         go_meet
         case rel => exact ⟨_, (true), rfx, H', ⟨by have := HJ2.out; first | omega | exact Nat.le_refl _⟩, ⟨pkK BK338.out⟩, ⟨pkK BK339.out⟩, ⟨pkK BK340.out⟩, ⟨pkK BK341.out⟩, ⟨pkW HB.out⟩⟩
       case rest =>
        clear HC110
        try clear c1
        try clear c2
        try clear p2
        try clear c3
        try clear c4
        try clear c5
        try clear c6
        try clear p6
        try clear c7
        try clear c8
        try clear c9
        try clear c10
        try clear c11
        try clear c12
        try clear c13
        try clear c16
        try clear c18
        try clear c19
        try clear c20
        try clear c23
        try clear c24
        try clear c26
        try clear c27
        try clear c28
        try clear c29
        try clear c32
        try clear c33
        try clear c34
        try clear c35
        try clear c37
        try clear c37b0
        try clear c37b1
        try clear c39
        try clear c40
        try clear c41
        try clear c42
        try clear c44
        try clear c45
        try clear c49
        try clear c51
        try clear c52
        try clear c53
        try clear c55
        try clear c56
        try clear c59
        try clear c61
        try clear c61b0
        try clear c61b1
        try clear c63
        try clear c64
        try clear p64
        try clear c65
        try clear c67
        try clear c67b0
        try clear c67b1
        try clear c68
        try clear c69
        try clear c70
        try clear c72
        try clear c73
        try clear c75
        try clear c76
        try clear c77
        try clear c79
        try clear c80
        try clear c81
        try clear c82
        try clear c85
        try clear c86
        try clear c87
        try clear c88
        try clear c90
        try clear c91
        try clear c93
        try clear c98
        try clear c99
        try clear c100
        try clear c102
        try clear c103
        try clear c105
        try clear c109
        try clear c109b0
        try clear c109b1
        try clear c111
        try clear c112
        try clear c113
        try clear c115
        try clear c115b0
        try clear c115b1
        try clear c116
        try clear c117
        try clear c118
        try clear c120
        try clear c121
        try clear c123
        try clear c124
        try clear c125
        try clear hcz101_0
        try clear hcz101_1
        try clear hcz101_2
        try clear hcz104_0
        try clear hcz104_1
        try clear hcz104_2
        try clear hcz104_3
        try clear hcz106_0
        try clear hcz106_1
        try clear hcz106_2
        try clear hcz108_0
        try clear hcz108_1
        try clear hcz108_2
        try clear hcz114_0
        try clear hcz114_1
        try clear hcz114_2
        try clear hcz114_3
        try clear hcz119_0
        try clear hcz119_1
        try clear hcz119_2
        try clear hcz122_0
        try clear hcz122_1
        try clear hcz122_2
        try clear hcz122_3
        try clear hcz126_0
        try clear hcz126_1
        try clear hcz126_2
        try clear hcz14_0
        try clear hcz14_1
        try clear hcz14_2
        try clear hcz21_0
        try clear hcz21_1
        try clear hcz21_2
        try clear hcz25_0
        try clear hcz25_1
        try clear hcz25_2
        try clear hcz25_3
        try clear hcz30_0
        try clear hcz30_1
        try clear hcz30_2
        try clear hcz36_0
        try clear hcz36_1
        try clear hcz36_2
        try clear hcz43_0
        try clear hcz43_1
        try clear hcz43_2
        try clear hcz43_3
        try clear hcz46_0
        try clear hcz46_1
        try clear hcz46_2
        try clear hcz48_0
        try clear hcz48_1
        try clear hcz48_2
        try clear hcz50_0
        try clear hcz50_1
        try clear hcz50_2
        try clear hcz54_0
        try clear hcz54_1
        try clear hcz54_2
        try clear hcz54_3
        try clear hcz57_0
        try clear hcz57_1
        try clear hcz57_2
        try clear hcz60_0
        try clear hcz60_1
        try clear hcz60_2
        try clear hcz66_0
        try clear hcz66_1
        try clear hcz66_2
        try clear hcz66_3
        try clear hcz71_0
        try clear hcz71_1
        try clear hcz71_2
        try clear hcz74_0
        try clear hcz74_1
        try clear hcz74_2
        try clear hcz74_3
        try clear hcz78_0
        try clear hcz78_1
        try clear hcz78_2
        try clear hcz83_0
        try clear hcz83_1
        try clear hcz83_2
        try clear hcz89_0
        try clear hcz89_1
        try clear hcz89_2
        try clear hcz92_0
        try clear hcz92_1
        try clear hcz92_2
        try clear hcz92_3
        try clear hcz94_0
        try clear hcz94_1
        try clear hcz94_2
        try clear hcz96_0
        try clear hcz96_1
        try clear hcz96_2
        try clear hcz97_0
        try clear hcz97_1
        try clear hcz97_2
        try clear hcz9_0
        try clear hcz9_1
        try clear hcz9_2
        try clear hcz9_3
        try clear hfz101_0
        try clear hfz101_1
        try clear hfz101_2
        try clear hfz104_0
        try clear hfz104_1
        try clear hfz104_2
        try clear hfz104_3
        try clear hfz106_0
        try clear hfz106_1
        try clear hfz106_2
        try clear hfz108_0
        try clear hfz108_1
        try clear hfz108_2
        try clear hfz114_0
        try clear hfz114_1
        try clear hfz114_2
        try clear hfz114_3
        try clear hfz119_0
        try clear hfz119_1
        try clear hfz119_2
        try clear hfz122_0
        try clear hfz122_1
        try clear hfz122_2
        try clear hfz122_3
        try clear hfz126_0
        try clear hfz126_1
        try clear hfz126_2
        try clear hfz14_0
        try clear hfz14_1
        try clear hfz14_2
        try clear hfz21_0
        try clear hfz21_1
        try clear hfz21_2
        try clear hfz25_0
        try clear hfz25_1
        try clear hfz25_2
        try clear hfz25_3
        try clear hfz30_0
        try clear hfz30_1
        try clear hfz30_2
        try clear hfz36_0
        try clear hfz36_1
        try clear hfz36_2
        try clear hfz43_0
        try clear hfz43_1
        try clear hfz43_2
        try clear hfz43_3
        try clear hfz46_0
        try clear hfz46_1
        try clear hfz46_2
        try clear hfz48_0
        try clear hfz48_1
        try clear hfz48_2
        try clear hfz50_0
        try clear hfz50_1
        try clear hfz50_2
        try clear hfz54_0
        try clear hfz54_1
        try clear hfz54_2
        try clear hfz54_3
        try clear hfz57_0
        try clear hfz57_1
        try clear hfz57_2
        try clear hfz60_0
        try clear hfz60_1
        try clear hfz60_2
        try clear hfz66_0
        try clear hfz66_1
        try clear hfz66_2
        try clear hfz66_3
        try clear hfz71_0
        try clear hfz71_1
        try clear hfz71_2
        try clear hfz74_0
        try clear hfz74_1
        try clear hfz74_2
        try clear hfz74_3
        try clear hfz78_0
        try clear hfz78_1
        try clear hfz78_2
        try clear hfz83_0
        try clear hfz83_1
        try clear hfz83_2
        try clear hfz89_0
        try clear hfz89_1
        try clear hfz89_2
        try clear hfz92_0
        try clear hfz92_1
        try clear hfz92_2
        try clear hfz92_3
        try clear hfz94_0
        try clear hfz94_1
        try clear hfz94_2
        try clear hfz96_0
        try clear hfz96_1
        try clear hfz96_2
        try clear hfz97_0
        try clear hfz97_1
        try clear hfz97_2
        try clear hfz9_0
        try clear hfz9_1
        try clear hfz9_2
        try clear hfz9_3
        try clear p2
        obtain ⟨kq, x53_109, rfl, HA, HJ109, BK338, BK339, BK340, BK341, HB⟩ := hcut
        cases kq with
        | zero => exact absurd HA.out (by simp [spec_Changed.j2])
        | succ kj109 =>
         have H := HA.out
         clear HA
         simp only [spec_Changed.j2] at H
         by_cases c127 : x53_109 = true
         ·subst c127
          replace H : (some (0, 0, (⟨#[]⟩ : ByteArray), false)) = some (r1, r2, r3, r4) := by rw [if_pos rfl] at H; exact H
          simp only [Option.some.injEq, Prod.mk.injEq] at H
          obtain ⟨rfl, rfl, rfl, rfl⟩ := H
          have hnb128 := NB340_338.out
          have hnc128 := NB338_340.out
          have hnb129 := NB340_339.out
          have hnc129 := NB339_340.out
          have hnb130 := NB340_341.out
          have hnc130 := NB341_340.out
          obtain ⟨hcz131_0, hcz131_1, hcz131_2, hfz131_0, hfz131_1, hfz131_2⟩ := bk3 BK340.out
          go_wp2
          refine bodyPost_ret (results_ct rfl _ _ gb340 27 #[.int .i64 0, .int .i64 0, .string (⟨#[]⟩ : ByteArray)] (0, 0) _ rfl (by (with_reducible repeat (first | refine blk_drewN ?_ _ | refine blk_drew ?_ | refine blk_alloc ?_ _)); refine blk_put (cs := #[.int .i64 0, .int .i64 0, .string (⟨#[]⟩ : ByteArray)]) ?_ 2 _ rfl; (with_reducible repeat (first | refine blk_drewN ?_ _ | refine blk_drew ?_ | refine blk_alloc ?_ _)); refine blk_put (cs := #[.int .i64 0, .int .i64 0, .string (⟨#[]⟩ : ByteArray)]) ?_ 1 _ rfl; (with_reducible repeat (first | refine blk_drewN ?_ _ | refine blk_drew ?_ | refine blk_alloc ?_ _)); refine blk_put (cs := #[.int .i64 0, .int .i64 0, .string (⟨#[]⟩ : ByteArray)]) ?_ 0 _ rfl; exact pkK BK340.out) Try.underlying27 rfl (by kernel_rfl)) rfl ?_
          exact ⟨rfe, pkW HB.out⟩
         ·replace c127 := Bool.eq_false_iff.mpr c127
          subst c127
          replace H : (if a0_2.size + a1_3.size ≤ 9223372036854775807 then ((spec_MsgOk.f kj109 a1_1 a1_2 (a0_2 ++ a1_3)).bind fun t346 => (if t346 = true then (some (a1_1, a1_2, a0_2 ++ a1_3, true)) else (some (0, 0, (⟨#[]⟩ : ByteArray), false)))) else (none)) = some (r1, r2, r3, r4) := by rw [if_neg (show ¬ (false = true) by decide)] at H; exact H
          by_cases c132 : a0_2.size + a1_3.size ≤ 9223372036854775807
          ·rw [if_pos c132] at H
           have c132b0 := eq_true c132
           have c132b1 : decide (a0_2.size + a1_3.size ≤ 9223372036854775807) = true := decide_eq_true c132
           try have c132b2 : (9223372036854775807 < a0_2.size + a1_3.size) = False := eq_false (Nat.not_lt.2 c132)
           replace H := Option.bind_eq_some_iff.mp H
           obtain ⟨t346, A1330, H⟩ := H
           replace H : (if t346 = true then (some (a1_1, a1_2, a0_2 ++ a1_3, true)) else (some (0, 0, (⟨#[]⟩ : ByteArray), false))) = some (r1, r2, r3, r4) := H
           have A133 := am A1330
           clear A1330
           by_cases c134 : t346 = true
           ·subst c134
            replace H : (some (a1_1, a1_2, a0_2 ++ a1_3, true)) = some (r1, r2, r3, r4) := by rw [if_pos rfl] at H; exact H
            simp only [Option.some.injEq, Prod.mk.injEq] at H
            obtain ⟨rfl, rfl, rfl, rfl⟩ := H
            have hnb135 := NB338_339.out
            have hnc135 := NB339_338.out
            have hnb136 := NB338_340.out
            have hnc136 := NB340_338.out
            have hnb137 := NB338_341.out
            have hnc137 := NB341_338.out
            obtain ⟨hcz138_0, hcz138_1, hcz138_2, hfz138_0, hfz138_1, hfz138_2⟩ := bk3 BK338.out
            have hnb139 := NB339_340.out
            have hnc139 := NB340_339.out
            have hnb140 := NB339_341.out
            have hnc140 := NB341_339.out
            obtain ⟨hcz141_0, hcz141_1, hcz141_2, hcz141_3, hfz141_0, hfz141_1, hfz141_2, hfz141_3⟩ := bk4 BK339.out
            have hnb142 := NB341_340.out
            have hnc142 := NB340_341.out
            obtain ⟨hcz143_0, hcz143_1, hcz143_2, hfz143_0, hfz143_1, hfz143_2⟩ := bk3 BK341.out
            go_wp2_with (first | ((with_reducible refine gate_callee (f := 13) rfl ?_); refine goesL_ (some 70) rfl rfl Try.func13 (by kernel_rfl) rfl #[.agg #[.int .i64 a1_1, .int .i64 a1_2, .string (a0_2 ++ a1_3)]] rfl mpx ?_; (with_reducible refine (spec_MsgOk.calls kj109 a1_1 a1_2 (a0_2 ++ a1_3) true _ A133.out).mono ?_); rintro e w144 ⟨rfl, hb⟩; refine ⟨_, rfl, ?_⟩; replace BK338 := am (blk_below (g := gb338) (o := .cells #[.int .i64 a0_0, .int .i64 a0_1, .string a0_2] 27 (0, 0)) (by (with_reducible repeat (first | refine blk_drewN ?_ _ | refine blk_drew ?_ | refine blk_alloc ?_ _)); refine blk_far ?_ NB338_341.out _; exact pkK BK338.out) hb); replace BK339 := am (blk_below (g := gb339) (o := .cells #[.int .i64 a1_0, .int .i64 a1_1, .int .i64 a1_2, .string a1_3] 45 (0, 0)) (by (with_reducible repeat (first | refine blk_drewN ?_ _ | refine blk_drew ?_ | refine blk_alloc ?_ _)); refine blk_far ?_ NB339_341.out _; exact pkK BK339.out) hb); replace BK340 := am (blk_below (g := gb340) (o := .cells #[.int .i64 0, .int .i64 0, .string (⟨#[]⟩ : ByteArray)] 27 (0, 0)) (by (with_reducible repeat (first | refine blk_drewN ?_ _ | refine blk_drew ?_ | refine blk_alloc ?_ _)); refine blk_far ?_ NB340_341.out _; exact pkK BK340.out) hb); replace BK341 := am (blk_below (g := gb341) (o := .cells #[.int .i64 a1_1, .int .i64 a1_2, .string (a0_2 ++ a1_3)] 27 (0, 0)) (by (with_reducible repeat (first | refine blk_drewN ?_ _ | refine blk_drew ?_ | refine blk_alloc ?_ _)); refine blk_put (cs := #[.int .i64 a1_1, .int .i64 a1_2, .string a1_3]) ?_ 2 _ rfl; exact pkK BK341.out) hb); replace HB := am (below_step (pkW HB.out) hb); (try clear hb); obtain ⟨hcz145_0, hcz145_1, hcz145_2, hfz145_0, hfz145_1, hfz145_2⟩ := bk3 BK341.out; obtain ⟨hcz146_0, hcz146_1, hcz146_2, hfz146_0, hfz146_1, hfz146_2⟩ := bk3 BK340.out))
            refine bodyPost_ret (results_ct rfl _ _ gb340 27 #[.int .i64 a1_1, .int .i64 a1_2, .string (a0_2 ++ a1_3)] (0, 0) _ rfl (by (with_reducible repeat (first | refine blk_drewN ?_ _ | refine blk_drew ?_ | refine blk_alloc ?_ _)); refine blk_put (cs := #[.int .i64 a1_1, .int .i64 a1_2, .string (⟨#[]⟩ : ByteArray)]) ?_ 2 _ rfl; (with_reducible repeat (first | refine blk_drewN ?_ _ | refine blk_drew ?_ | refine blk_alloc ?_ _)); refine blk_put (cs := #[.int .i64 a1_1, .int .i64 0, .string (⟨#[]⟩ : ByteArray)]) ?_ 1 _ rfl; (with_reducible repeat (first | refine blk_drewN ?_ _ | refine blk_drew ?_ | refine blk_alloc ?_ _)); refine blk_put (cs := #[.int .i64 0, .int .i64 0, .string (⟨#[]⟩ : ByteArray)]) ?_ 0 _ rfl; exact pkK BK340.out) Try.underlying27 rfl (by kernel_rfl)) rfl ?_
            exact ⟨rfe, pkW HB.out⟩
           ·replace c134 := Bool.eq_false_iff.mpr c134
            subst c134
            replace H : (some (0, 0, (⟨#[]⟩ : ByteArray), false)) = some (r1, r2, r3, r4) := by rw [if_neg (show ¬ (false = true) by decide)] at H; exact H
            simp only [Option.some.injEq, Prod.mk.injEq] at H
            obtain ⟨rfl, rfl, rfl, rfl⟩ := H
            have hnb147 := NB338_339.out
            have hnc147 := NB339_338.out
            have hnb148 := NB338_340.out
            have hnc148 := NB340_338.out
            have hnb149 := NB338_341.out
            have hnc149 := NB341_338.out
            obtain ⟨hcz150_0, hcz150_1, hcz150_2, hfz150_0, hfz150_1, hfz150_2⟩ := bk3 BK338.out
            have hnb151 := NB339_340.out
            have hnc151 := NB340_339.out
            have hnb152 := NB339_341.out
            have hnc152 := NB341_339.out
            obtain ⟨hcz153_0, hcz153_1, hcz153_2, hcz153_3, hfz153_0, hfz153_1, hfz153_2, hfz153_3⟩ := bk4 BK339.out
            have hnb154 := NB341_340.out
            have hnc154 := NB340_341.out
            obtain ⟨hcz155_0, hcz155_1, hcz155_2, hfz155_0, hfz155_1, hfz155_2⟩ := bk3 BK341.out
            go_wp2_with (first | ((with_reducible refine gate_callee (f := 13) rfl ?_); refine goesL_ (some 70) rfl rfl Try.func13 (by kernel_rfl) rfl #[.agg #[.int .i64 a1_1, .int .i64 a1_2, .string (a0_2 ++ a1_3)]] rfl mpx ?_; (with_reducible refine (spec_MsgOk.calls kj109 a1_1 a1_2 (a0_2 ++ a1_3) false _ A133.out).mono ?_); rintro e w156 ⟨rfl, hb⟩; refine ⟨_, rfl, ?_⟩; replace BK338 := am (blk_below (g := gb338) (o := .cells #[.int .i64 a0_0, .int .i64 a0_1, .string a0_2] 27 (0, 0)) (by (with_reducible repeat (first | refine blk_drewN ?_ _ | refine blk_drew ?_ | refine blk_alloc ?_ _)); refine blk_far ?_ NB338_341.out _; exact pkK BK338.out) hb); replace BK339 := am (blk_below (g := gb339) (o := .cells #[.int .i64 a1_0, .int .i64 a1_1, .int .i64 a1_2, .string a1_3] 45 (0, 0)) (by (with_reducible repeat (first | refine blk_drewN ?_ _ | refine blk_drew ?_ | refine blk_alloc ?_ _)); refine blk_far ?_ NB339_341.out _; exact pkK BK339.out) hb); replace BK340 := am (blk_below (g := gb340) (o := .cells #[.int .i64 0, .int .i64 0, .string (⟨#[]⟩ : ByteArray)] 27 (0, 0)) (by (with_reducible repeat (first | refine blk_drewN ?_ _ | refine blk_drew ?_ | refine blk_alloc ?_ _)); refine blk_far ?_ NB340_341.out _; exact pkK BK340.out) hb); replace BK341 := am (blk_below (g := gb341) (o := .cells #[.int .i64 a1_1, .int .i64 a1_2, .string (a0_2 ++ a1_3)] 27 (0, 0)) (by (with_reducible repeat (first | refine blk_drewN ?_ _ | refine blk_drew ?_ | refine blk_alloc ?_ _)); refine blk_put (cs := #[.int .i64 a1_1, .int .i64 a1_2, .string a1_3]) ?_ 2 _ rfl; exact pkK BK341.out) hb); replace HB := am (below_step (pkW HB.out) hb); (try clear hb); obtain ⟨hcz157_0, hcz157_1, hcz157_2, hfz157_0, hfz157_1, hfz157_2⟩ := bk3 BK340.out))
            refine bodyPost_ret (results_ct rfl _ _ gb340 27 #[.int .i64 0, .int .i64 0, .string (⟨#[]⟩ : ByteArray)] (0, 0) _ rfl (by (with_reducible repeat (first | refine blk_drewN ?_ _ | refine blk_drew ?_ | refine blk_alloc ?_ _)); refine blk_put (cs := #[.int .i64 0, .int .i64 0, .string (⟨#[]⟩ : ByteArray)]) ?_ 2 _ rfl; (with_reducible repeat (first | refine blk_drewN ?_ _ | refine blk_drew ?_ | refine blk_alloc ?_ _)); refine blk_put (cs := #[.int .i64 0, .int .i64 0, .string (⟨#[]⟩ : ByteArray)]) ?_ 1 _ rfl; (with_reducible repeat (first | refine blk_drewN ?_ _ | refine blk_drew ?_ | refine blk_alloc ?_ _)); refine blk_put (cs := #[.int .i64 0, .int .i64 0, .string (⟨#[]⟩ : ByteArray)]) ?_ 0 _ rfl; exact pkK BK340.out) Try.underlying27 rfl (by kernel_rfl)) rfl ?_
            exact ⟨rfe, pkW HB.out⟩
          ·rw [if_neg c132] at H
           exact absurd H (by simp)
      ·rw [if_neg c109] at H
       have c109b0 : (a1_0 == 3) = false := beq_eq_false_iff_ne.mpr c109
       have c109b1 : (a1_0 != 3) = true := bne_iff_ne.mpr c109
       by_cases c158 : a1_0 = 4
       ·rw [if_pos c158] at H
        have c158b0 : (a1_0 == 4) = true := beq_iff_eq.mpr c158
        have c158b1 : (a1_0 != 4) = false := bne_eq_false_iff_eq.mpr c158
        clear c158
        replace H := Option.bind_eq_some_iff.mp H
        obtain ⟨t347, A1590, H⟩ := H
        replace H : (if t347 = true then ((spec_MsgOk.f kj2 a0_0 a0_1 a0_2).bind fun t348 => (if t348 = true then (some (a0_0, a0_1, a0_2, true)) else (some (0, 0, (⟨#[]⟩ : ByteArray), false)))) else ((spec_MsgOk.f kj2 a1_1 a1_2 a1_3).bind fun t349 => (if t349 = true then (some (a1_1, a1_2, a1_3, true)) else (some (0, 0, (⟨#[]⟩ : ByteArray), false))))) = some (r1, r2, r3, r4) := H
        have A159 := am A1590
        clear A1590
        by_cases c160 : t347 = true
        ·subst c160
         replace H : ((spec_MsgOk.f kj2 a0_0 a0_1 a0_2).bind fun t348 => (if t348 = true then (some (a0_0, a0_1, a0_2, true)) else (some (0, 0, (⟨#[]⟩ : ByteArray), false)))) = some (r1, r2, r3, r4) := by rw [if_pos rfl] at H; exact H
         replace H := Option.bind_eq_some_iff.mp H
         obtain ⟨t348, A1610, H⟩ := H
         replace H : (if t348 = true then (some (a0_0, a0_1, a0_2, true)) else (some (0, 0, (⟨#[]⟩ : ByteArray), false))) = some (r1, r2, r3, r4) := H
         have A161 := am A1610
         clear A1610
         by_cases c162 : t348 = true
         ·subst c162
          replace H : (some (a0_0, a0_1, a0_2, true)) = some (r1, r2, r3, r4) := by rw [if_pos rfl] at H; exact H
          simp only [Option.some.injEq, Prod.mk.injEq] at H
          obtain ⟨rfl, rfl, rfl, rfl⟩ := H
          have hnb163 := NB339_338.out
          have hnc163 := NB338_339.out
          have hnb164 := NB339_340.out
          have hnc164 := NB340_339.out
          have hnb165 := NB339_341.out
          have hnc165 := NB341_339.out
          obtain ⟨hcz166_0, hcz166_1, hcz166_2, hcz166_3, hfz166_0, hfz166_1, hfz166_2, hfz166_3⟩ := bk4 BK339.out
          have hnb167 := NB338_340.out
          have hnc167 := NB340_338.out
          have hnb168 := NB338_341.out
          have hnc168 := NB341_338.out
          obtain ⟨hcz169_0, hcz169_1, hcz169_2, hfz169_0, hfz169_1, hfz169_2⟩ := bk3 BK338.out
          go_wp2_with (first | ((with_reducible refine gate_callee (f := 18) rfl ?_); refine goesL_ (some 67) rfl rfl Try.func18 (by kernel_rfl) rfl #[.agg #[.int .i64 a1_1, .int .i64 a1_2, .string a1_3], .agg #[.int .i64 a0_0, .int .i64 a0_1, .string a0_2]] rfl mpx ?_; (with_reducible refine (spec_MsgLess.calls kj2 a1_1 a1_2 a1_3 a0_0 a0_1 a0_2 true _ A159.out).mono ?_); rintro e w170 ⟨rfl, hb⟩; refine ⟨_, rfl, ?_⟩; replace BK338 := am (blk_below (pkK BK338.out) hb); replace BK339 := am (blk_below (pkK BK339.out) hb); replace BK340 := am (blk_below (pkK BK340.out) hb); replace BK341 := am (blk_below (pkK BK341.out) hb); replace HB := am (below_step (pkW HB.out) hb); (try clear hb); obtain ⟨hcz171_0, hcz171_1, hcz171_2, hfz171_0, hfz171_1, hfz171_2⟩ := bk3 BK338.out; have hnb172 := NB341_340.out; have hnc172 := NB340_341.out; obtain ⟨hcz173_0, hcz173_1, hcz173_2, hfz173_0, hfz173_1, hfz173_2⟩ := bk3 BK341.out) | ((with_reducible refine gate_callee (f := 13) rfl ?_); refine goesL_ (some 70) rfl rfl Try.func13 (by kernel_rfl) rfl #[.agg #[.int .i64 a0_0, .int .i64 a0_1, .string a0_2]] rfl mpx ?_; (with_reducible refine (spec_MsgOk.calls kj2 a0_0 a0_1 a0_2 true _ A161.out).mono ?_); rintro e w174 ⟨rfl, hb⟩; refine ⟨_, rfl, ?_⟩; replace BK338 := am (blk_below (g := gb338) (o := .cells #[.int .i64 a0_0, .int .i64 a0_1, .string a0_2] 27 (0, 0)) (by (with_reducible repeat (first | refine blk_drewN ?_ _ | refine blk_drew ?_ | refine blk_alloc ?_ _)); refine blk_far ?_ NB338_341.out _; (with_reducible repeat (first | refine blk_drewN ?_ _ | refine blk_drew ?_ | refine blk_alloc ?_ _)); refine blk_far ?_ NB338_341.out _; (with_reducible repeat (first | refine blk_drewN ?_ _ | refine blk_drew ?_ | refine blk_alloc ?_ _)); refine blk_far ?_ NB338_341.out _; exact pkK BK338.out) hb); replace BK339 := am (blk_below (g := gb339) (o := .cells #[.int .i64 a1_0, .int .i64 a1_1, .int .i64 a1_2, .string a1_3] 45 (0, 0)) (by (with_reducible repeat (first | refine blk_drewN ?_ _ | refine blk_drew ?_ | refine blk_alloc ?_ _)); refine blk_far ?_ NB339_341.out _; (with_reducible repeat (first | refine blk_drewN ?_ _ | refine blk_drew ?_ | refine blk_alloc ?_ _)); refine blk_far ?_ NB339_341.out _; (with_reducible repeat (first | refine blk_drewN ?_ _ | refine blk_drew ?_ | refine blk_alloc ?_ _)); refine blk_far ?_ NB339_341.out _; exact pkK BK339.out) hb); replace BK340 := am (blk_below (g := gb340) (o := .cells #[.int .i64 0, .int .i64 0, .string (⟨#[]⟩ : ByteArray)] 27 (0, 0)) (by (with_reducible repeat (first | refine blk_drewN ?_ _ | refine blk_drew ?_ | refine blk_alloc ?_ _)); refine blk_far ?_ NB340_341.out _; (with_reducible repeat (first | refine blk_drewN ?_ _ | refine blk_drew ?_ | refine blk_alloc ?_ _)); refine blk_far ?_ NB340_341.out _; (with_reducible repeat (first | refine blk_drewN ?_ _ | refine blk_drew ?_ | refine blk_alloc ?_ _)); refine blk_far ?_ NB340_341.out _; exact pkK BK340.out) hb); replace BK341 := am (blk_below (g := gb341) (o := .cells #[.int .i64 a0_0, .int .i64 a0_1, .string a0_2] 27 (0, 0)) (by (with_reducible repeat (first | refine blk_drewN ?_ _ | refine blk_drew ?_ | refine blk_alloc ?_ _)); refine blk_put (cs := #[.int .i64 a0_0, .int .i64 a0_1, .string a1_3]) ?_ 2 _ rfl; (with_reducible repeat (first | refine blk_drewN ?_ _ | refine blk_drew ?_ | refine blk_alloc ?_ _)); refine blk_put (cs := #[.int .i64 a0_0, .int .i64 a1_2, .string a1_3]) ?_ 1 _ rfl; (with_reducible repeat (first | refine blk_drewN ?_ _ | refine blk_drew ?_ | refine blk_alloc ?_ _)); refine blk_put (cs := #[.int .i64 a1_1, .int .i64 a1_2, .string a1_3]) ?_ 0 _ rfl; exact pkK BK341.out) hb); replace HB := am (below_step (pkW HB.out) hb); (try clear hb); obtain ⟨hcz175_0, hcz175_1, hcz175_2, hfz175_0, hfz175_1, hfz175_2⟩ := bk3 BK341.out; obtain ⟨hcz176_0, hcz176_1, hcz176_2, hfz176_0, hfz176_1, hfz176_2⟩ := bk3 BK340.out))
          refine bodyPost_ret (results_ct rfl _ _ gb340 27 #[.int .i64 a0_0, .int .i64 a0_1, .string a0_2] (0, 0) _ rfl (by (with_reducible repeat (first | refine blk_drewN ?_ _ | refine blk_drew ?_ | refine blk_alloc ?_ _)); refine blk_put (cs := #[.int .i64 a0_0, .int .i64 a0_1, .string (⟨#[]⟩ : ByteArray)]) ?_ 2 _ rfl; (with_reducible repeat (first | refine blk_drewN ?_ _ | refine blk_drew ?_ | refine blk_alloc ?_ _)); refine blk_put (cs := #[.int .i64 a0_0, .int .i64 0, .string (⟨#[]⟩ : ByteArray)]) ?_ 1 _ rfl; (with_reducible repeat (first | refine blk_drewN ?_ _ | refine blk_drew ?_ | refine blk_alloc ?_ _)); refine blk_put (cs := #[.int .i64 0, .int .i64 0, .string (⟨#[]⟩ : ByteArray)]) ?_ 0 _ rfl; exact pkK BK340.out) Try.underlying27 rfl (by kernel_rfl)) rfl ?_
          exact ⟨rfe, pkW HB.out⟩
         ·replace c162 := Bool.eq_false_iff.mpr c162
          subst c162
          replace H : (some (0, 0, (⟨#[]⟩ : ByteArray), false)) = some (r1, r2, r3, r4) := by rw [if_neg (show ¬ (false = true) by decide)] at H; exact H
          simp only [Option.some.injEq, Prod.mk.injEq] at H
          obtain ⟨rfl, rfl, rfl, rfl⟩ := H
          have hnb177 := NB339_338.out
          have hnc177 := NB338_339.out
          have hnb178 := NB339_340.out
          have hnc178 := NB340_339.out
          have hnb179 := NB339_341.out
          have hnc179 := NB341_339.out
          obtain ⟨hcz180_0, hcz180_1, hcz180_2, hcz180_3, hfz180_0, hfz180_1, hfz180_2, hfz180_3⟩ := bk4 BK339.out
          have hnb181 := NB338_340.out
          have hnc181 := NB340_338.out
          have hnb182 := NB338_341.out
          have hnc182 := NB341_338.out
          obtain ⟨hcz183_0, hcz183_1, hcz183_2, hfz183_0, hfz183_1, hfz183_2⟩ := bk3 BK338.out
          go_wp2_with (first | ((with_reducible refine gate_callee (f := 18) rfl ?_); refine goesL_ (some 67) rfl rfl Try.func18 (by kernel_rfl) rfl #[.agg #[.int .i64 a1_1, .int .i64 a1_2, .string a1_3], .agg #[.int .i64 a0_0, .int .i64 a0_1, .string a0_2]] rfl mpx ?_; (with_reducible refine (spec_MsgLess.calls kj2 a1_1 a1_2 a1_3 a0_0 a0_1 a0_2 true _ A159.out).mono ?_); rintro e w184 ⟨rfl, hb⟩; refine ⟨_, rfl, ?_⟩; replace BK338 := am (blk_below (pkK BK338.out) hb); replace BK339 := am (blk_below (pkK BK339.out) hb); replace BK340 := am (blk_below (pkK BK340.out) hb); replace BK341 := am (blk_below (pkK BK341.out) hb); replace HB := am (below_step (pkW HB.out) hb); (try clear hb); obtain ⟨hcz185_0, hcz185_1, hcz185_2, hfz185_0, hfz185_1, hfz185_2⟩ := bk3 BK338.out; have hnb186 := NB341_340.out; have hnc186 := NB340_341.out; obtain ⟨hcz187_0, hcz187_1, hcz187_2, hfz187_0, hfz187_1, hfz187_2⟩ := bk3 BK341.out) | ((with_reducible refine gate_callee (f := 13) rfl ?_); refine goesL_ (some 70) rfl rfl Try.func13 (by kernel_rfl) rfl #[.agg #[.int .i64 a0_0, .int .i64 a0_1, .string a0_2]] rfl mpx ?_; (with_reducible refine (spec_MsgOk.calls kj2 a0_0 a0_1 a0_2 false _ A161.out).mono ?_); rintro e w188 ⟨rfl, hb⟩; refine ⟨_, rfl, ?_⟩; replace BK338 := am (blk_below (g := gb338) (o := .cells #[.int .i64 a0_0, .int .i64 a0_1, .string a0_2] 27 (0, 0)) (by (with_reducible repeat (first | refine blk_drewN ?_ _ | refine blk_drew ?_ | refine blk_alloc ?_ _)); refine blk_far ?_ NB338_341.out _; (with_reducible repeat (first | refine blk_drewN ?_ _ | refine blk_drew ?_ | refine blk_alloc ?_ _)); refine blk_far ?_ NB338_341.out _; (with_reducible repeat (first | refine blk_drewN ?_ _ | refine blk_drew ?_ | refine blk_alloc ?_ _)); refine blk_far ?_ NB338_341.out _; exact pkK BK338.out) hb); replace BK339 := am (blk_below (g := gb339) (o := .cells #[.int .i64 a1_0, .int .i64 a1_1, .int .i64 a1_2, .string a1_3] 45 (0, 0)) (by (with_reducible repeat (first | refine blk_drewN ?_ _ | refine blk_drew ?_ | refine blk_alloc ?_ _)); refine blk_far ?_ NB339_341.out _; (with_reducible repeat (first | refine blk_drewN ?_ _ | refine blk_drew ?_ | refine blk_alloc ?_ _)); refine blk_far ?_ NB339_341.out _; (with_reducible repeat (first | refine blk_drewN ?_ _ | refine blk_drew ?_ | refine blk_alloc ?_ _)); refine blk_far ?_ NB339_341.out _; exact pkK BK339.out) hb); replace BK340 := am (blk_below (g := gb340) (o := .cells #[.int .i64 0, .int .i64 0, .string (⟨#[]⟩ : ByteArray)] 27 (0, 0)) (by (with_reducible repeat (first | refine blk_drewN ?_ _ | refine blk_drew ?_ | refine blk_alloc ?_ _)); refine blk_far ?_ NB340_341.out _; (with_reducible repeat (first | refine blk_drewN ?_ _ | refine blk_drew ?_ | refine blk_alloc ?_ _)); refine blk_far ?_ NB340_341.out _; (with_reducible repeat (first | refine blk_drewN ?_ _ | refine blk_drew ?_ | refine blk_alloc ?_ _)); refine blk_far ?_ NB340_341.out _; exact pkK BK340.out) hb); replace BK341 := am (blk_below (g := gb341) (o := .cells #[.int .i64 a0_0, .int .i64 a0_1, .string a0_2] 27 (0, 0)) (by (with_reducible repeat (first | refine blk_drewN ?_ _ | refine blk_drew ?_ | refine blk_alloc ?_ _)); refine blk_put (cs := #[.int .i64 a0_0, .int .i64 a0_1, .string a1_3]) ?_ 2 _ rfl; (with_reducible repeat (first | refine blk_drewN ?_ _ | refine blk_drew ?_ | refine blk_alloc ?_ _)); refine blk_put (cs := #[.int .i64 a0_0, .int .i64 a1_2, .string a1_3]) ?_ 1 _ rfl; (with_reducible repeat (first | refine blk_drewN ?_ _ | refine blk_drew ?_ | refine blk_alloc ?_ _)); refine blk_put (cs := #[.int .i64 a1_1, .int .i64 a1_2, .string a1_3]) ?_ 0 _ rfl; exact pkK BK341.out) hb); replace HB := am (below_step (pkW HB.out) hb); (try clear hb); obtain ⟨hcz189_0, hcz189_1, hcz189_2, hfz189_0, hfz189_1, hfz189_2⟩ := bk3 BK340.out))
          refine bodyPost_ret (results_ct rfl _ _ gb340 27 #[.int .i64 0, .int .i64 0, .string (⟨#[]⟩ : ByteArray)] (0, 0) _ rfl (by (with_reducible repeat (first | refine blk_drewN ?_ _ | refine blk_drew ?_ | refine blk_alloc ?_ _)); refine blk_put (cs := #[.int .i64 0, .int .i64 0, .string (⟨#[]⟩ : ByteArray)]) ?_ 2 _ rfl; (with_reducible repeat (first | refine blk_drewN ?_ _ | refine blk_drew ?_ | refine blk_alloc ?_ _)); refine blk_put (cs := #[.int .i64 0, .int .i64 0, .string (⟨#[]⟩ : ByteArray)]) ?_ 1 _ rfl; (with_reducible repeat (first | refine blk_drewN ?_ _ | refine blk_drew ?_ | refine blk_alloc ?_ _)); refine blk_put (cs := #[.int .i64 0, .int .i64 0, .string (⟨#[]⟩ : ByteArray)]) ?_ 0 _ rfl; exact pkK BK340.out) Try.underlying27 rfl (by kernel_rfl)) rfl ?_
          exact ⟨rfe, pkW HB.out⟩
        ·replace c160 := Bool.eq_false_iff.mpr c160
         subst c160
         replace H : ((spec_MsgOk.f kj2 a1_1 a1_2 a1_3).bind fun t349 => (if t349 = true then (some (a1_1, a1_2, a1_3, true)) else (some (0, 0, (⟨#[]⟩ : ByteArray), false)))) = some (r1, r2, r3, r4) := by rw [if_neg (show ¬ (false = true) by decide)] at H; exact H
         replace H := Option.bind_eq_some_iff.mp H
         obtain ⟨t349, A1900, H⟩ := H
         replace H : (if t349 = true then (some (a1_1, a1_2, a1_3, true)) else (some (0, 0, (⟨#[]⟩ : ByteArray), false))) = some (r1, r2, r3, r4) := H
         have A190 := am A1900
         clear A1900
         by_cases c191 : t349 = true
         ·subst c191
          replace H : (some (a1_1, a1_2, a1_3, true)) = some (r1, r2, r3, r4) := by rw [if_pos rfl] at H; exact H
          simp only [Option.some.injEq, Prod.mk.injEq] at H
          obtain ⟨rfl, rfl, rfl, rfl⟩ := H
          have hnb192 := NB339_338.out
          have hnc192 := NB338_339.out
          have hnb193 := NB339_340.out
          have hnc193 := NB340_339.out
          have hnb194 := NB339_341.out
          have hnc194 := NB341_339.out
          obtain ⟨hcz195_0, hcz195_1, hcz195_2, hcz195_3, hfz195_0, hfz195_1, hfz195_2, hfz195_3⟩ := bk4 BK339.out
          have hnb196 := NB338_340.out
          have hnc196 := NB340_338.out
          have hnb197 := NB338_341.out
          have hnc197 := NB341_338.out
          obtain ⟨hcz198_0, hcz198_1, hcz198_2, hfz198_0, hfz198_1, hfz198_2⟩ := bk3 BK338.out
          go_wp2_with (first | ((with_reducible refine gate_callee (f := 18) rfl ?_); refine goesL_ (some 67) rfl rfl Try.func18 (by kernel_rfl) rfl #[.agg #[.int .i64 a1_1, .int .i64 a1_2, .string a1_3], .agg #[.int .i64 a0_0, .int .i64 a0_1, .string a0_2]] rfl mpx ?_; (with_reducible refine (spec_MsgLess.calls kj2 a1_1 a1_2 a1_3 a0_0 a0_1 a0_2 false _ A159.out).mono ?_); rintro e w199 ⟨rfl, hb⟩; refine ⟨_, rfl, ?_⟩; replace BK338 := am (blk_below (pkK BK338.out) hb); replace BK339 := am (blk_below (pkK BK339.out) hb); replace BK340 := am (blk_below (pkK BK340.out) hb); replace BK341 := am (blk_below (pkK BK341.out) hb); replace HB := am (below_step (pkW HB.out) hb); (try clear hb); have hnb200 := NB341_340.out; have hnc200 := NB340_341.out; obtain ⟨hcz201_0, hcz201_1, hcz201_2, hfz201_0, hfz201_1, hfz201_2⟩ := bk3 BK341.out) | ((with_reducible refine gate_callee (f := 13) rfl ?_); refine goesL_ (some 70) rfl rfl Try.func13 (by kernel_rfl) rfl #[.agg #[.int .i64 a1_1, .int .i64 a1_2, .string a1_3]] rfl mpx ?_; (with_reducible refine (spec_MsgOk.calls kj2 a1_1 a1_2 a1_3 true _ A190.out).mono ?_); rintro e w202 ⟨rfl, hb⟩; refine ⟨_, rfl, ?_⟩; replace BK338 := am (blk_below (pkK BK338.out) hb); replace BK339 := am (blk_below (pkK BK339.out) hb); replace BK340 := am (blk_below (pkK BK340.out) hb); replace BK341 := am (blk_below (pkK BK341.out) hb); replace HB := am (below_step (pkW HB.out) hb); (try clear hb); obtain ⟨hcz203_0, hcz203_1, hcz203_2, hfz203_0, hfz203_1, hfz203_2⟩ := bk3 BK341.out; obtain ⟨hcz204_0, hcz204_1, hcz204_2, hfz204_0, hfz204_1, hfz204_2⟩ := bk3 BK340.out))
          refine bodyPost_ret (results_ct rfl _ _ gb340 27 #[.int .i64 a1_1, .int .i64 a1_2, .string a1_3] (0, 0) _ rfl (by (with_reducible repeat (first | refine blk_drewN ?_ _ | refine blk_drew ?_ | refine blk_alloc ?_ _)); refine blk_put (cs := #[.int .i64 a1_1, .int .i64 a1_2, .string (⟨#[]⟩ : ByteArray)]) ?_ 2 _ rfl; (with_reducible repeat (first | refine blk_drewN ?_ _ | refine blk_drew ?_ | refine blk_alloc ?_ _)); refine blk_put (cs := #[.int .i64 a1_1, .int .i64 0, .string (⟨#[]⟩ : ByteArray)]) ?_ 1 _ rfl; (with_reducible repeat (first | refine blk_drewN ?_ _ | refine blk_drew ?_ | refine blk_alloc ?_ _)); refine blk_put (cs := #[.int .i64 0, .int .i64 0, .string (⟨#[]⟩ : ByteArray)]) ?_ 0 _ rfl; exact pkK BK340.out) Try.underlying27 rfl (by kernel_rfl)) rfl ?_
          exact ⟨rfe, pkW HB.out⟩
         ·replace c191 := Bool.eq_false_iff.mpr c191
          subst c191
          replace H : (some (0, 0, (⟨#[]⟩ : ByteArray), false)) = some (r1, r2, r3, r4) := by rw [if_neg (show ¬ (false = true) by decide)] at H; exact H
          simp only [Option.some.injEq, Prod.mk.injEq] at H
          obtain ⟨rfl, rfl, rfl, rfl⟩ := H
          have hnb205 := NB339_338.out
          have hnc205 := NB338_339.out
          have hnb206 := NB339_340.out
          have hnc206 := NB340_339.out
          have hnb207 := NB339_341.out
          have hnc207 := NB341_339.out
          obtain ⟨hcz208_0, hcz208_1, hcz208_2, hcz208_3, hfz208_0, hfz208_1, hfz208_2, hfz208_3⟩ := bk4 BK339.out
          have hnb209 := NB338_340.out
          have hnc209 := NB340_338.out
          have hnb210 := NB338_341.out
          have hnc210 := NB341_338.out
          obtain ⟨hcz211_0, hcz211_1, hcz211_2, hfz211_0, hfz211_1, hfz211_2⟩ := bk3 BK338.out
          go_wp2_with (first | ((with_reducible refine gate_callee (f := 18) rfl ?_); refine goesL_ (some 67) rfl rfl Try.func18 (by kernel_rfl) rfl #[.agg #[.int .i64 a1_1, .int .i64 a1_2, .string a1_3], .agg #[.int .i64 a0_0, .int .i64 a0_1, .string a0_2]] rfl mpx ?_; (with_reducible refine (spec_MsgLess.calls kj2 a1_1 a1_2 a1_3 a0_0 a0_1 a0_2 false _ A159.out).mono ?_); rintro e w212 ⟨rfl, hb⟩; refine ⟨_, rfl, ?_⟩; replace BK338 := am (blk_below (pkK BK338.out) hb); replace BK339 := am (blk_below (pkK BK339.out) hb); replace BK340 := am (blk_below (pkK BK340.out) hb); replace BK341 := am (blk_below (pkK BK341.out) hb); replace HB := am (below_step (pkW HB.out) hb); (try clear hb); have hnb213 := NB341_340.out; have hnc213 := NB340_341.out; obtain ⟨hcz214_0, hcz214_1, hcz214_2, hfz214_0, hfz214_1, hfz214_2⟩ := bk3 BK341.out) | ((with_reducible refine gate_callee (f := 13) rfl ?_); refine goesL_ (some 70) rfl rfl Try.func13 (by kernel_rfl) rfl #[.agg #[.int .i64 a1_1, .int .i64 a1_2, .string a1_3]] rfl mpx ?_; (with_reducible refine (spec_MsgOk.calls kj2 a1_1 a1_2 a1_3 false _ A190.out).mono ?_); rintro e w215 ⟨rfl, hb⟩; refine ⟨_, rfl, ?_⟩; replace BK338 := am (blk_below (pkK BK338.out) hb); replace BK339 := am (blk_below (pkK BK339.out) hb); replace BK340 := am (blk_below (pkK BK340.out) hb); replace BK341 := am (blk_below (pkK BK341.out) hb); replace HB := am (below_step (pkW HB.out) hb); (try clear hb); obtain ⟨hcz216_0, hcz216_1, hcz216_2, hfz216_0, hfz216_1, hfz216_2⟩ := bk3 BK340.out))
          refine bodyPost_ret (results_ct rfl _ _ gb340 27 #[.int .i64 0, .int .i64 0, .string (⟨#[]⟩ : ByteArray)] (0, 0) _ rfl (by (with_reducible repeat (first | refine blk_drewN ?_ _ | refine blk_drew ?_ | refine blk_alloc ?_ _)); refine blk_put (cs := #[.int .i64 0, .int .i64 0, .string (⟨#[]⟩ : ByteArray)]) ?_ 2 _ rfl; (with_reducible repeat (first | refine blk_drewN ?_ _ | refine blk_drew ?_ | refine blk_alloc ?_ _)); refine blk_put (cs := #[.int .i64 0, .int .i64 0, .string (⟨#[]⟩ : ByteArray)]) ?_ 1 _ rfl; (with_reducible repeat (first | refine blk_drewN ?_ _ | refine blk_drew ?_ | refine blk_alloc ?_ _)); refine blk_put (cs := #[.int .i64 0, .int .i64 0, .string (⟨#[]⟩ : ByteArray)]) ?_ 0 _ rfl; exact pkK BK340.out) Try.underlying27 rfl (by kernel_rfl)) rfl ?_
          exact ⟨rfe, pkW HB.out⟩
       ·rw [if_neg c158] at H
        have c158b0 : (a1_0 == 4) = false := beq_eq_false_iff_ne.mpr c158
        have c158b1 : (a1_0 != 4) = true := bne_iff_ne.mpr c158
        simp only [Option.some.injEq, Prod.mk.injEq] at H
        obtain ⟨rfl, rfl, rfl, rfl⟩ := H
        have hnb217 := NB339_338.out
        have hnc217 := NB338_339.out
        have hnb218 := NB339_340.out
        have hnc218 := NB340_339.out
        have hnb219 := NB339_341.out
        have hnc219 := NB341_339.out
        obtain ⟨hcz220_0, hcz220_1, hcz220_2, hcz220_3, hfz220_0, hfz220_1, hfz220_2, hfz220_3⟩ := bk4 BK339.out
        have hnb221 := NB340_338.out
        have hnc221 := NB338_340.out
        have hnb222 := NB340_341.out
        have hnc222 := NB341_340.out
        obtain ⟨hcz223_0, hcz223_1, hcz223_2, hfz223_0, hfz223_1, hfz223_2⟩ := bk3 BK340.out
        go_wp2
        refine bodyPost_ret (results_ct rfl _ _ gb340 27 #[.int .i64 0, .int .i64 0, .string (⟨#[]⟩ : ByteArray)] (0, 0) _ rfl (by (with_reducible repeat (first | refine blk_drewN ?_ _ | refine blk_drew ?_ | refine blk_alloc ?_ _)); refine blk_put (cs := #[.int .i64 0, .int .i64 0, .string (⟨#[]⟩ : ByteArray)]) ?_ 2 _ rfl; (with_reducible repeat (first | refine blk_drewN ?_ _ | refine blk_drew ?_ | refine blk_alloc ?_ _)); refine blk_put (cs := #[.int .i64 0, .int .i64 0, .string (⟨#[]⟩ : ByteArray)]) ?_ 1 _ rfl; (with_reducible repeat (first | refine blk_drewN ?_ _ | refine blk_drew ?_ | refine blk_alloc ?_ _)); refine blk_put (cs := #[.int .i64 0, .int .i64 0, .string (⟨#[]⟩ : ByteArray)]) ?_ 0 _ rfl; exact pkK BK340.out) Try.underlying27 rfl (by kernel_rfl)) rfl ?_
        exact ⟨rfe, pkW HB.out⟩
end Go.Proofs.Ytalehmhjddnmoaa.Z
