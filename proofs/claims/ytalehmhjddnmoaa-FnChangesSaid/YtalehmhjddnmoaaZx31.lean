/- The Go functions impl_Changed as Lean functions, each with a proof that its code comes to just these answers; conditions: those of each theorem. -/
import Derived.Test.YtalehmhjddnmoaaZx0
import Derived.Test.YtalehmhjddnmoaaZx6
import Derived.Test.YtalehmhjddnmoaaZx14
namespace Go.Proofs.Ytalehmhjddnmoaa.Z
open Go.RowKit Go.Proofs.YtalehmhjddnmoaaW.PrintWords Go.Proofs.YtalehmhjddnmoaaW.PrintLast Go.Proofs.YtalehmhjddnmoaaW.PrintMore
attribute [local go_sem] max2_int min2_int max_two min_two max_three min_three max_four min_four   -- for this text's walks alone
set_option linter.unusedVariables false
set_option linter.unusedSimpArgs false
mutual
def impl_Changed.j0 : Nat → Bool → Int → Int → ByteArray → Int → Int → Int → ByteArray → Option (Int × Int × ByteArray × Bool)
 | 0, _, _, _, _, _, _, _, _ => none
 | k + 1, x15, x357000, x357001, x357002, x358000, x358001, x358002, x358003 => if x15 = true then (some (0, 0, (⟨#[]⟩ : ByteArray), false)) else (if x358000 = 1 then ((impl_MsgOk.f k x358001 x358002 x358003).bind fun t362 => (if t362 = true then (some (x358001, x358002, x358003, true)) else (some (0, 0, (⟨#[]⟩ : ByteArray), false)))) else (if x358000 = 2 then (if x357000 = 1 then (impl_Changed.j1 k (x358001 != 1) 1 (wrap64 (x357001 + x358002)) (⟨#[]⟩ : ByteArray)) else (impl_Changed.j1 k true 1 (wrap64 (x357001 + x358002)) (⟨#[]⟩ : ByteArray))) else (if x358000 = 3 then (if x357002.size + x358003.size ≤ 9223372036854775807 then (if x357000 = 2 then (impl_Changed.j2 k (x358001 != 2) 2 0 (x357002 ++ x358003)) else (impl_Changed.j2 k true 2 0 (x357002 ++ x358003))) else (none)) else (if x358000 = 4 then ((impl_MsgLess.f k x357000 x357001 x357002 x358001 x358002 x358003).bind fun t365 => (if t365 = true then ((impl_MsgOk.f k x358001 x358002 x358003).bind fun t366 => (if t366 = true then (some (x358001, x358002, x358003, true)) else (some (0, 0, (⟨#[]⟩ : ByteArray), false)))) else ((impl_MsgOk.f k x357000 x357001 x357002).bind fun t367 => (if t367 = true then (some (x357000, x357001, x357002, true)) else (some (0, 0, (⟨#[]⟩ : ByteArray), false)))))) else (some (0, 0, (⟨#[]⟩ : ByteArray), false))))))
def impl_Changed.j1 : Nat → Bool → Int → Int → ByteArray → Option (Int × Int × ByteArray × Bool)
 | 0, _, _, _, _ => none
 | k + 1, x41, x362000, x362001, x362002 => if x41 = true then (some (0, 0, (⟨#[]⟩ : ByteArray), false)) else ((impl_MsgOk.f k x362000 x362001 x362002).bind fun t363 => (if t363 = true then (some (x362000, x362001, x362002, true)) else (some (0, 0, (⟨#[]⟩ : ByteArray), false))))
def impl_Changed.j2 : Nat → Bool → Int → Int → ByteArray → Option (Int × Int × ByteArray × Bool)
 | 0, _, _, _, _ => none
 | k + 1, x60, x362000, x362001, x362002 => if x60 = true then (some (0, 0, (⟨#[]⟩ : ByteArray), false)) else ((impl_MsgOk.f k x362000 x362001 x362002).bind fun t364 => (if t364 = true then (some (x362000, x362001, x362002, true)) else (some (0, 0, (⟨#[]⟩ : ByteArray), false))))
end
def impl_Changed.f (k : Nat) (a0_0 : Int) (a0_1 : Int) (a0_2 : ByteArray) (a1_0 : Int) (a1_1 : Int) (a1_2 : Int) (a1_3 : ByteArray) : Option (Int × Int × ByteArray × Bool) := (impl_MsgOk.f k a0_0 a0_1 a0_2).bind fun t359 => (if t359 = true then ((impl_MsgOk.f k a1_1 a1_2 a1_3).bind fun t360 => (impl_Changed.j0 k (!t360) a0_0 a0_1 a0_2 a1_0 a1_1 a1_2 a1_3)) else (impl_Changed.j0 k true a0_0 a0_1 a0_2 a1_0 a1_1 a1_2 a1_3))
theorem impl_Changed.mono_l : ∀ k, (∀ y0 y1 y2 y3 y4 y5 y6 y7, LeO (impl_Changed.j0 k y0 y1 y2 y3 y4 y5 y6 y7) (impl_Changed.j0 (k + 1) y0 y1 y2 y3 y4 y5 y6 y7)) ∧ (∀ y0 y1 y2 y3, LeO (impl_Changed.j1 k y0 y1 y2 y3) (impl_Changed.j1 (k + 1) y0 y1 y2 y3)) ∧ (∀ y0 y1 y2 y3, LeO (impl_Changed.j2 k y0 y1 y2 y3) (impl_Changed.j2 (k + 1) y0 y1 y2 y3))
 | 0 => ⟨fun _ _ _ _ _ _ _ _ r h => by simp [impl_Changed.j0] at h, fun _ _ _ _ r h => by simp [impl_Changed.j1] at h, fun _ _ _ _ r h => by simp [impl_Changed.j2] at h⟩
 | k + 1 => by
  obtain ⟨ih0, ih1, ih2⟩ := impl_Changed.mono_l k
  refine ⟨?_, ?_, ?_⟩
  ·intro y0 y1 y2 y3 y4 y5 y6 y7
   unfold impl_Changed.j0
   repeat' first
   | (with_reducible exact ih0 _ _ _ _ _ _ _ _)
   | (with_reducible exact ih1 _ _ _ _)
   | (with_reducible exact ih2 _ _ _ _)
   | (with_reducible exact impl_MsgLess.mono _ _ _ _ _ _ _)
   | (with_reducible exact impl_MsgOk.mono _ _ _ _)
   | (with_reducible exact LeO.refl _)
   | (with_reducible exact LeO.none _)
   | (with_reducible refine LeO.ite ?_ ?_)
   | (with_reducible refine LeO.bind ?_ (fun _ => ?_))
  ·intro y0 y1 y2 y3
   unfold impl_Changed.j1
   repeat' first
   | (with_reducible exact ih0 _ _ _ _ _ _ _ _)
   | (with_reducible exact ih1 _ _ _ _)
   | (with_reducible exact ih2 _ _ _ _)
   | (with_reducible exact impl_MsgLess.mono _ _ _ _ _ _ _)
   | (with_reducible exact impl_MsgOk.mono _ _ _ _)
   | (with_reducible exact LeO.refl _)
   | (with_reducible exact LeO.none _)
   | (with_reducible refine LeO.ite ?_ ?_)
   | (with_reducible refine LeO.bind ?_ (fun _ => ?_))
  ·intro y0 y1 y2 y3
   unfold impl_Changed.j2
   repeat' first
   | (with_reducible exact ih0 _ _ _ _ _ _ _ _)
   | (with_reducible exact ih1 _ _ _ _)
   | (with_reducible exact ih2 _ _ _ _)
   | (with_reducible exact impl_MsgLess.mono _ _ _ _ _ _ _)
   | (with_reducible exact impl_MsgOk.mono _ _ _ _)
   | (with_reducible exact LeO.refl _)
   | (with_reducible exact LeO.none _)
   | (with_reducible refine LeO.ite ?_ ?_)
   | (with_reducible refine LeO.bind ?_ (fun _ => ?_))
theorem impl_Changed.mono : ∀ a0 a1 a2 a3 a4 a5 a6 k, LeO (impl_Changed.f k a0 a1 a2 a3 a4 a5 a6) (impl_Changed.f (k + 1) a0 a1 a2 a3 a4 a5 a6) := by
 intro a0 a1 a2 a3 a4 a5 a6 k
 obtain ⟨ih0, ih1, ih2⟩ := impl_Changed.mono_l k
 unfold impl_Changed.f
 repeat' first
   | (with_reducible exact ih0 _ _ _ _ _ _ _ _)
   | (with_reducible exact ih1 _ _ _ _)
   | (with_reducible exact ih2 _ _ _ _)
   | (with_reducible exact impl_MsgLess.mono _ _ _ _ _ _ _)
   | (with_reducible exact impl_MsgOk.mono _ _ _ _)
   | (with_reducible exact LeO.refl _)
   | (with_reducible exact LeO.none _)
   | (with_reducible refine LeO.ite ?_ ?_)
   | (with_reducible refine LeO.bind ?_ (fun _ => ?_))
set_option maxHeartbeats 8000000 in
set_option maxRecDepth 100000 in
theorem impl_Changed.calls (k : Nat) (a0_0 : Int) (a0_1 : Int) (a0_2 : ByteArray) (a1_0 : Int) (a1_1 : Int) (a1_2 : Int) (a1_3 : ByteArray) (r1 : Int) (r2 : Int) (r3 : ByteArray) (r4 : Bool) (w : World) (h : impl_Changed.f k a0_0 a0_1 a0_2 a1_0 a1_1 a1_2 a1_3 = some (r1, r2, r3, r4)) :
  Calls Try.prog 28 #[.agg #[.int .i64 a0_0, .int .i64 a0_1, .string a0_2], .agg #[.int .i64 a1_0, .int .i64 a1_1, .int .i64 a1_2, .string a1_3]] w fun e w' => e = .returned (.tuple #[.agg #[.int .i64 r1, .int .i64 r2, .string r3], .bool r4]) ∧ Below w.heap.size w w' := by
 have hu27 := Try.underlying27
 have hu45 := Try.underlying45
 have HB := am (Below.refl w.heap.size w)
 have H : ((impl_MsgOk.f k a0_0 a0_1 a0_2).bind fun t359 => (if t359 = true then ((impl_MsgOk.f k a1_1 a1_2 a1_3).bind fun t360 => (impl_Changed.j0 k (!t360) a0_0 a0_1 a0_2 a1_0 a1_1 a1_2 a1_3)) else (impl_Changed.j0 k true a0_0 a0_1 a0_2 a1_0 a1_1 a1_2 a1_3))) = some (r1, r2, r3, r4) := h
 clear h
 have HC3 := am H
 clear H
 go_enter Try.func28, Try.ntmps28
 go_upto_region 1 with (first | ((with_reducible refine gate_dst (N := 2) rfl ?_); refine box_event ?hg (N := 2) ?hd (cs := #[.int .i64 a0_0, .int .i64 a0_1, .string a0_2]) (t := 27) ?hr ?_; (case hd => rfl); (case hg => rfl); (case hr => first | (go_simp; done) | (go_simp; rfl)); intro gb356 hg w4 hbox hb; have BK356 := am (hbox); have GW356 := am ((by rw [hg]; exact (below_size (pkB HB.out)) : w.heap.size ≤ gb356)); have GE356 := am ((by rw [hg]; exact (below_size (pkB HB.out)) : w.heap.size ≤ gb356)); replace HB := am (below_step (pkB HB.out) hb); clear hb hbox hg) | ((with_reducible refine gate_dst (N := 3) rfl ?_); refine box_event ?hg (N := 3) ?hd (cs := #[.int .i64 a1_0, .int .i64 a1_1, .int .i64 a1_2, .string a1_3]) (t := 45) ?hr ?_; (case hd => rfl); (case hg => rfl); (case hr => first | (go_simp; done) | (go_simp; rfl)); intro gb357 hg w5 hbox hb; have BK357 := am (hbox); have GW357 := am ((by rw [hg]; exact (below_size (pkW HB.out)) : w.heap.size ≤ gb357)); have GE357 := am ((by rw [hg]; exact (below_size (pkW HB.out)) : w.heap.size ≤ gb357)); replace HB := am (below_step (pkW HB.out) hb); have NB356_357 := am ((by rw [hg]; exact Nat.ne_of_lt (blk_lt (g := gb356) (o := .cells #[.int .i64 a0_0, .int .i64 a0_1, .string a0_2] 27 (0, 0)) (pkK BK356.out)) : gb356 ≠ gb357)); have NB357_356 := am ((by rw [hg]; exact Nat.ne_of_gt (blk_lt (g := gb356) (o := .cells #[.int .i64 a0_0, .int .i64 a0_1, .string a0_2] 27 (0, 0)) (pkK BK356.out)) : gb357 ≠ gb356)); replace BK356 := am (blk_below (pkK BK356.out) hb); clear hb hbox hg) | ((with_reducible refine gate_dst (N := 4) rfl ?_); refine box_event ?hg (N := 4) ?hd (cs := #[.int .i64 0, .int .i64 0, .string (⟨#[]⟩ : ByteArray)]) (t := 27) ?hr ?_; (case hd => rfl); (case hg => rfl); (case hr => first | (go_simp; done) | (go_simp; rfl)); intro gb358 hg w6 hbox hb; have BK358 := am (hbox); have GW358 := am ((by rw [hg]; exact (below_size (pkW HB.out)) : w.heap.size ≤ gb358)); have GE358 := am ((by rw [hg]; exact (below_size (pkW HB.out)) : w.heap.size ≤ gb358)); replace HB := am (below_step (pkW HB.out) hb); have NB356_358 := am ((by rw [hg]; exact Nat.ne_of_lt (blk_lt (g := gb356) (o := .cells #[.int .i64 a0_0, .int .i64 a0_1, .string a0_2] 27 (0, 0)) (pkK BK356.out)) : gb356 ≠ gb358)); have NB358_356 := am ((by rw [hg]; exact Nat.ne_of_gt (blk_lt (g := gb356) (o := .cells #[.int .i64 a0_0, .int .i64 a0_1, .string a0_2] 27 (0, 0)) (pkK BK356.out)) : gb358 ≠ gb356)); replace BK356 := am (blk_below (pkK BK356.out) hb); have NB357_358 := am ((by rw [hg]; exact Nat.ne_of_lt (blk_lt (g := gb357) (o := .cells #[.int .i64 a1_0, .int .i64 a1_1, .int .i64 a1_2, .string a1_3] 45 (0, 0)) (pkK BK357.out)) : gb357 ≠ gb358)); have NB358_357 := am ((by rw [hg]; exact Nat.ne_of_gt (blk_lt (g := gb357) (o := .cells #[.int .i64 a1_0, .int .i64 a1_1, .int .i64 a1_2, .string a1_3] 45 (0, 0)) (pkK BK357.out)) : gb358 ≠ gb357)); replace BK357 := am (blk_below (pkK BK357.out) hb); clear hb hbox hg))
 (try simp only [Act.put, List.setIfInBounds_toArray, List.set_cons_zero, List.set_cons_succ])
 go_cut [15] (fun v15 wc => ∃ (kq : Nat) (x15_2 : Bool), v15 = .bool x15_2 ∧ Aside0 (impl_Changed.j0 kq x15_2 a0_0 a0_1 a0_2 a1_0 a1_1 a1_2 a1_3 = some (r1, r2, r3, r4)) ∧ Aside0 (kq ≤ k) ∧ Aside0 (wc.heap[gb356]? = some (.cells #[.int .i64 a0_0, .int .i64 a0_1, .string a0_2] 27 (0, 0))) ∧ Aside0 (wc.heap[gb357]? = some (.cells #[.int .i64 a1_0, .int .i64 a1_1, .int .i64 a1_2, .string a1_3] 45 (0, 0))) ∧ Aside0 (wc.heap[gb358]? = some (.cells #[.int .i64 0, .int .i64 0, .string (⟨#[]⟩ : ByteArray)] 27 (0, 0))) ∧ Aside0 (Below w.heap.size w wc))
 case first =>
  have H := HC3.out
  clear HC3
  replace H := Option.bind_eq_some_iff.mp H
  obtain ⟨t359, A70, H⟩ := H
  replace H : (if t359 = true then ((impl_MsgOk.f k a1_1 a1_2 a1_3).bind fun t360 => (impl_Changed.j0 k (!t360) a0_0 a0_1 a0_2 a1_0 a1_1 a1_2 a1_3)) else (impl_Changed.j0 k true a0_0 a0_1 a0_2 a1_0 a1_1 a1_2 a1_3)) = some (r1, r2, r3, r4) := H
  have A7 := am A70
  clear A70
  by_cases c8 : t359 = true
  ·subst c8
   replace H : ((impl_MsgOk.f k a1_1 a1_2 a1_3).bind fun t360 => (impl_Changed.j0 k (!t360) a0_0 a0_1 a0_2 a1_0 a1_1 a1_2 a1_3)) = some (r1, r2, r3, r4) := by rw [if_pos rfl] at H; exact H
   replace H := Option.bind_eq_some_iff.mp H
   obtain ⟨t360, A90, H⟩ := H
   replace H : (impl_Changed.j0 k (!t360) a0_0 a0_1 a0_2 a1_0 a1_1 a1_2 a1_3) = some (r1, r2, r3, r4) := H
   have A9 := am A90
   clear A90
   have H' := am H
   clear H
   have hnb10 := NB356_357.out
   have hnc10 := NB357_356.out
   have hnb11 := NB356_358.out
   have hnc11 := NB358_356.out
   obtain ⟨hcz12_0, hcz12_1, hcz12_2, hfz12_0, hfz12_1, hfz12_2⟩ := bk3 BK356.out
   go_wp2_with (first | ((with_reducible refine gate_callee (f := 15) rfl ?_); refine goesL_ (some 8) rfl rfl Try.func15 (by kernel_rfl) rfl #[.agg #[.int .i64 a0_0, .int .i64 a0_1, .string a0_2]] rfl mpx ?_; (with_reducible refine (impl_MsgOk.calls k a0_0 a0_1 a0_2 true _ A7.out).mono ?_); rintro e w13 ⟨rfl, hb⟩; refine ⟨_, rfl, ?_⟩; replace BK356 := am (blk_below (pkK BK356.out) hb); replace BK357 := am (blk_below (pkK BK357.out) hb); replace BK358 := am (blk_below (pkK BK358.out) hb); replace HB := am (below_step (pkW HB.out) hb); (try clear hb); have hnb14 := NB357_358.out; have hnc14 := NB358_357.out; obtain ⟨hcz15_0, hcz15_1, hcz15_2, hcz15_3, hfz15_0, hfz15_1, hfz15_2, hfz15_3⟩ := bk4 BK357.out) | (go_at_call 15; (with_reducible refine (impl_MsgOk.calls k a1_1 a1_2 a1_3 t360 _ A9.out).mono ?_); rintro e w16 ⟨rfl, hb⟩; replace BK356 := am (blk_below (pkK BK356.out) hb); replace BK357 := am (blk_below (pkK BK357.out) hb); replace BK358 := am (blk_below (pkK BK358.out) hb); replace HB := am (below_step (pkW HB.out) hb); (try clear hb)))
   go_meet
   case rel => exact ⟨_, (!t360), rfx, H', ⟨by first | omega | exact Nat.le_refl _⟩, ⟨pkK BK356.out⟩, ⟨pkK BK357.out⟩, ⟨pkK BK358.out⟩, ⟨pkW HB.out⟩⟩
  ·replace c8 := Bool.eq_false_iff.mpr c8
   subst c8
   replace H : (impl_Changed.j0 k true a0_0 a0_1 a0_2 a1_0 a1_1 a1_2 a1_3) = some (r1, r2, r3, r4) := by rw [if_neg (show ¬ (false = true) by decide)] at H; exact H
   have H' := am H
   clear H
   have hnb17 := NB356_357.out
   have hnc17 := NB357_356.out
   have hnb18 := NB356_358.out
   have hnc18 := NB358_356.out
   obtain ⟨hcz19_0, hcz19_1, hcz19_2, hfz19_0, hfz19_1, hfz19_2⟩ := bk3 BK356.out
   go_wp2_with (first | ((with_reducible refine gate_callee (f := 15) rfl ?_); refine goesL_ (some 8) rfl rfl Try.func15 (by kernel_rfl) rfl #[.agg #[.int .i64 a0_0, .int .i64 a0_1, .string a0_2]] rfl mpx ?_; (with_reducible refine (impl_MsgOk.calls k a0_0 a0_1 a0_2 false _ A7.out).mono ?_); rintro e w20 ⟨rfl, hb⟩; refine ⟨_, rfl, ?_⟩; replace BK356 := am (blk_below (pkK BK356.out) hb); replace BK357 := am (blk_below (pkK BK357.out) hb); replace BK358 := am (blk_below (pkK BK358.out) hb); replace HB := am (below_step (pkW HB.out) hb); (try clear hb)))
   go_meet
   case rel => exact ⟨_, (true), rfx, H', ⟨by first | omega | exact Nat.le_refl _⟩, ⟨pkK BK356.out⟩, ⟨pkK BK357.out⟩, ⟨pkK BK358.out⟩, ⟨pkW HB.out⟩⟩
 case rest =>
  clear HC3
  try clear c1
  try clear c2
  try clear p2
  try clear c8
  try clear c10
  try clear c11
  try clear c14
  try clear c15
  try clear c17
  try clear c18
  try clear hcz12_0
  try clear hcz12_1
  try clear hcz12_2
  try clear hcz15_0
  try clear hcz15_1
  try clear hcz15_2
  try clear hcz15_3
  try clear hcz19_0
  try clear hcz19_1
  try clear hcz19_2
  try clear hfz12_0
  try clear hfz12_1
  try clear hfz12_2
  try clear hfz15_0
  try clear hfz15_1
  try clear hfz15_2
  try clear hfz15_3
  try clear hfz19_0
  try clear hfz19_1
  try clear hfz19_2
  obtain ⟨kq, x15_2, rfl, HA, HJ2, BK356, BK357, BK358, HB⟩ := hcut
  cases kq with
  | zero => exact absurd HA.out (by simp [impl_Changed.j0])
  | succ kj2 =>
   have H := HA.out
   clear HA
   simp only [impl_Changed.j0] at H
   by_cases c21 : x15_2 = true
   ·subst c21
    replace H : (some (0, 0, (⟨#[]⟩ : ByteArray), false)) = some (r1, r2, r3, r4) := by rw [if_pos rfl] at H; exact H
    simp only [Option.some.injEq, Prod.mk.injEq] at H
    obtain ⟨rfl, rfl, rfl, rfl⟩ := H
    have hnb22 := NB358_356.out
    have hnc22 := NB356_358.out
    have hnb23 := NB358_357.out
    have hnc23 := NB357_358.out
    obtain ⟨hcz24_0, hcz24_1, hcz24_2, hfz24_0, hfz24_1, hfz24_2⟩ := bk3 BK358.out
    go_wp2
    refine bodyPost_ret (results_ct rfl _ _ gb358 27 #[.int .i64 0, .int .i64 0, .string (⟨#[]⟩ : ByteArray)] (0, 0) _ rfl (by (with_reducible repeat (first | refine blk_drewN ?_ _ | refine blk_drew ?_ | refine blk_alloc ?_ _)); refine blk_put (cs := #[.int .i64 0, .int .i64 0, .string (⟨#[]⟩ : ByteArray)]) ?_ 2 _ rfl; (with_reducible repeat (first | refine blk_drewN ?_ _ | refine blk_drew ?_ | refine blk_alloc ?_ _)); refine blk_put (cs := #[.int .i64 0, .int .i64 0, .string (⟨#[]⟩ : ByteArray)]) ?_ 1 _ rfl; (with_reducible repeat (first | refine blk_drewN ?_ _ | refine blk_drew ?_ | refine blk_alloc ?_ _)); refine blk_put (cs := #[.int .i64 0, .int .i64 0, .string (⟨#[]⟩ : ByteArray)]) ?_ 0 _ rfl; exact pkK BK358.out) Try.underlying27 rfl (by kernel_rfl)) rfl ?_
    exact ⟨rfe, pkW HB.out⟩
   ·replace c21 := Bool.eq_false_iff.mpr c21
    subst c21
    replace H : (if a1_0 = 1 then ((impl_MsgOk.f kj2 a1_1 a1_2 a1_3).bind fun t362 => (if t362 = true then (some (a1_1, a1_2, a1_3, true)) else (some (0, 0, (⟨#[]⟩ : ByteArray), false)))) else (if a1_0 = 2 then (if a0_0 = 1 then (impl_Changed.j1 kj2 (a1_1 != 1) 1 (wrap64 (a0_1 + a1_2)) (⟨#[]⟩ : ByteArray)) else (impl_Changed.j1 kj2 true 1 (wrap64 (a0_1 + a1_2)) (⟨#[]⟩ : ByteArray))) else (if a1_0 = 3 then (if a0_2.size + a1_3.size ≤ 9223372036854775807 then (if a0_0 = 2 then (impl_Changed.j2 kj2 (a1_1 != 2) 2 0 (a0_2 ++ a1_3)) else (impl_Changed.j2 kj2 true 2 0 (a0_2 ++ a1_3))) else (none)) else (if a1_0 = 4 then ((impl_MsgLess.f kj2 a0_0 a0_1 a0_2 a1_1 a1_2 a1_3).bind fun t365 => (if t365 = true then ((impl_MsgOk.f kj2 a1_1 a1_2 a1_3).bind fun t366 => (if t366 = true then (some (a1_1, a1_2, a1_3, true)) else (some (0, 0, (⟨#[]⟩ : ByteArray), false)))) else ((impl_MsgOk.f kj2 a0_0 a0_1 a0_2).bind fun t367 => (if t367 = true then (some (a0_0, a0_1, a0_2, true)) else (some (0, 0, (⟨#[]⟩ : ByteArray), false)))))) else (some (0, 0, (⟨#[]⟩ : ByteArray), false)))))) = some (r1, r2, r3, r4) := by rw [if_neg (show ¬ (false = true) by decide)] at H; exact H
    by_cases c25 : a1_0 = 1
    ·rw [if_pos c25] at H
     have c25b0 : (a1_0 == 1) = true := beq_iff_eq.mpr c25
     have c25b1 : (a1_0 != 1) = false := bne_eq_false_iff_eq.mpr c25
     clear c25
     replace H := Option.bind_eq_some_iff.mp H
     obtain ⟨t362, A260, H⟩ := H
     replace H : (if t362 = true then (some (a1_1, a1_2, a1_3, true)) else (some (0, 0, (⟨#[]⟩ : ByteArray), false))) = some (r1, r2, r3, r4) := H
     have A26 := am A260
     clear A260
     by_cases c27 : t362 = true
     ·subst c27
      replace H : (some (a1_1, a1_2, a1_3, true)) = some (r1, r2, r3, r4) := by rw [if_pos rfl] at H; exact H
      simp only [Option.some.injEq, Prod.mk.injEq] at H
      obtain ⟨rfl, rfl, rfl, rfl⟩ := H
      have hnb28 := NB357_356.out
      have hnc28 := NB356_357.out
      have hnb29 := NB357_358.out
      have hnc29 := NB358_357.out
      obtain ⟨hcz30_0, hcz30_1, hcz30_2, hcz30_3, hfz30_0, hfz30_1, hfz30_2, hfz30_3⟩ := bk4 BK357.out
      go_wp2_with (first | ((with_reducible refine gate_dst (N := 6) rfl ?_); refine box_event ?hg (N := 6) ?hd (cs := #[.int .i64 0, .int .i64 0, .string (⟨#[]⟩ : ByteArray)]) (t := 27) ?hr ?_; (case hd => rfl); (case hg => rfl); (case hr => first | (go_simp; done) | (go_simp; rfl)); intro gb361 hg w31 hbox hb; have BK361 := am (hbox); have GW361 := am ((by rw [hg]; exact (below_size (pkW HB.out)) : w.heap.size ≤ gb361)); have GE361 := am ((by rw [hg]; exact (below_size (pkW HB.out)) : w.heap.size ≤ gb361)); replace HB := am (below_step (pkW HB.out) hb); have NB356_361 := am ((by rw [hg]; exact Nat.ne_of_lt (blk_lt (g := gb356) (o := .cells #[.int .i64 a0_0, .int .i64 a0_1, .string a0_2] 27 (0, 0)) (pkK BK356.out)) : gb356 ≠ gb361)); have NB361_356 := am ((by rw [hg]; exact Nat.ne_of_gt (blk_lt (g := gb356) (o := .cells #[.int .i64 a0_0, .int .i64 a0_1, .string a0_2] 27 (0, 0)) (pkK BK356.out)) : gb361 ≠ gb356)); replace BK356 := am (blk_below (pkK BK356.out) hb); have NB357_361 := am ((by rw [hg]; exact Nat.ne_of_lt (blk_lt (g := gb357) (o := .cells #[.int .i64 a1_0, .int .i64 a1_1, .int .i64 a1_2, .string a1_3] 45 (0, 0)) (pkK BK357.out)) : gb357 ≠ gb361)); have NB361_357 := am ((by rw [hg]; exact Nat.ne_of_gt (blk_lt (g := gb357) (o := .cells #[.int .i64 a1_0, .int .i64 a1_1, .int .i64 a1_2, .string a1_3] 45 (0, 0)) (pkK BK357.out)) : gb361 ≠ gb357)); replace BK357 := am (blk_below (pkK BK357.out) hb); have NB358_361 := am ((by rw [hg]; exact Nat.ne_of_lt (blk_lt (g := gb358) (o := .cells #[.int .i64 0, .int .i64 0, .string (⟨#[]⟩ : ByteArray)] 27 (0, 0)) (pkK BK358.out)) : gb358 ≠ gb361)); have NB361_358 := am ((by rw [hg]; exact Nat.ne_of_gt (blk_lt (g := gb358) (o := .cells #[.int .i64 0, .int .i64 0, .string (⟨#[]⟩ : ByteArray)] 27 (0, 0)) (pkK BK358.out)) : gb361 ≠ gb358)); replace BK358 := am (blk_below (pkK BK358.out) hb); clear hb hbox hg; have hnb32 := NB361_356.out; have hnc32 := NB356_361.out; have hnb33 := NB361_357.out; have hnc33 := NB357_361.out; have hnb34 := NB361_358.out; have hnc34 := NB358_361.out; obtain ⟨hcz35_0, hcz35_1, hcz35_2, hfz35_0, hfz35_1, hfz35_2⟩ := bk3 BK361.out; obtain ⟨hcz36_0, hcz36_1, hcz36_2, hcz36_3, hfz36_0, hfz36_1, hfz36_2, hfz36_3⟩ := bk4 BK357.out) | ((with_reducible refine gate_callee (f := 15) rfl ?_); refine goesL_ (some 71) rfl rfl Try.func15 (by kernel_rfl) rfl #[.agg #[.int .i64 a1_1, .int .i64 a1_2, .string a1_3]] rfl mpx ?_; (with_reducible refine (impl_MsgOk.calls kj2 a1_1 a1_2 a1_3 true _ A26.out).mono ?_); rintro e w37 ⟨rfl, hb⟩; refine ⟨_, rfl, ?_⟩; replace BK356 := am (blk_below (g := gb356) (o := .cells #[.int .i64 a0_0, .int .i64 a0_1, .string a0_2] 27 (0, 0)) (by (with_reducible repeat (first | refine blk_drewN ?_ _ | refine blk_drew ?_ | refine blk_alloc ?_ _)); refine blk_far ?_ NB356_361.out _; (with_reducible repeat (first | refine blk_drewN ?_ _ | refine blk_drew ?_ | refine blk_alloc ?_ _)); refine blk_far ?_ NB356_361.out _; (with_reducible repeat (first | refine blk_drewN ?_ _ | refine blk_drew ?_ | refine blk_alloc ?_ _)); refine blk_far ?_ NB356_361.out _; exact pkK BK356.out) hb); replace BK357 := am (blk_below (g := gb357) (o := .cells #[.int .i64 a1_0, .int .i64 a1_1, .int .i64 a1_2, .string a1_3] 45 (0, 0)) (by (with_reducible repeat (first | refine blk_drewN ?_ _ | refine blk_drew ?_ | refine blk_alloc ?_ _)); refine blk_far ?_ NB357_361.out _; (with_reducible repeat (first | refine blk_drewN ?_ _ | refine blk_drew ?_ | refine blk_alloc ?_ _)); refine blk_far ?_ NB357_361.out _; (with_reducible repeat (first | refine blk_drewN ?_ _ | refine blk_drew ?_ | refine blk_alloc ?_ _)); refine blk_far ?_ NB357_361.out _; exact pkK BK357.out) hb); replace BK358 := am (blk_below (g := gb358) (o := .cells #[.int .i64 0, .int .i64 0, .string (⟨#[]⟩ : ByteArray)] 27 (0, 0)) (by (with_reducible repeat (first | refine blk_drewN ?_ _ | refine blk_drew ?_ | refine blk_alloc ?_ _)); refine blk_far ?_ NB358_361.out _; (with_reducible repeat (first | refine blk_drewN ?_ _ | refine blk_drew ?_ | refine blk_alloc ?_ _)); refine blk_far ?_ NB358_361.out _; (with_reducible repeat (first | refine blk_drewN ?_ _ | refine blk_drew ?_ | refine blk_alloc ?_ _)); refine blk_far ?_ NB358_361.out _; exact pkK BK358.out) hb); replace BK361 := am (blk_below (g := gb361) (o := .cells #[.int .i64 a1_1, .int .i64 a1_2, .string a1_3] 27 (0, 0)) (by (with_reducible repeat (first | refine blk_drewN ?_ _ | refine blk_drew ?_ | refine blk_alloc ?_ _)); refine blk_put (cs := #[.int .i64 a1_1, .int .i64 a1_2, .string (⟨#[]⟩ : ByteArray)]) ?_ 2 _ rfl; (with_reducible repeat (first | refine blk_drewN ?_ _ | refine blk_drew ?_ | refine blk_alloc ?_ _)); refine blk_put (cs := #[.int .i64 a1_1, .int .i64 0, .string (⟨#[]⟩ : ByteArray)]) ?_ 1 _ rfl; (with_reducible repeat (first | refine blk_drewN ?_ _ | refine blk_drew ?_ | refine blk_alloc ?_ _)); refine blk_put (cs := #[.int .i64 0, .int .i64 0, .string (⟨#[]⟩ : ByteArray)]) ?_ 0 _ rfl; exact pkK BK361.out) hb); replace HB := am (below_step (pkW HB.out) hb); (try clear hb); obtain ⟨hcz38_0, hcz38_1, hcz38_2, hfz38_0, hfz38_1, hfz38_2⟩ := bk3 BK361.out; have hnb39 := NB358_356.out; have hnc39 := NB356_358.out; obtain ⟨hcz40_0, hcz40_1, hcz40_2, hfz40_0, hfz40_1, hfz40_2⟩ := bk3 BK358.out))
      refine bodyPost_ret (results_ct rfl _ _ gb358 27 #[.int .i64 a1_1, .int .i64 a1_2, .string a1_3] (0, 0) _ rfl (by (with_reducible repeat (first | refine blk_drewN ?_ _ | refine blk_drew ?_ | refine blk_alloc ?_ _)); refine blk_put (cs := #[.int .i64 a1_1, .int .i64 a1_2, .string (⟨#[]⟩ : ByteArray)]) ?_ 2 _ rfl; (with_reducible repeat (first | refine blk_drewN ?_ _ | refine blk_drew ?_ | refine blk_alloc ?_ _)); refine blk_put (cs := #[.int .i64 a1_1, .int .i64 0, .string (⟨#[]⟩ : ByteArray)]) ?_ 1 _ rfl; (with_reducible repeat (first | refine blk_drewN ?_ _ | refine blk_drew ?_ | refine blk_alloc ?_ _)); refine blk_put (cs := #[.int .i64 0, .int .i64 0, .string (⟨#[]⟩ : ByteArray)]) ?_ 0 _ rfl; exact pkK BK358.out) Try.underlying27 rfl (by kernel_rfl)) rfl ?_
      exact ⟨rfe, pkW HB.out⟩
     ·replace c27 := Bool.eq_false_iff.mpr c27
      subst c27
      replace H : (some (0, 0, (⟨#[]⟩ : ByteArray), false)) = some (r1, r2, r3, r4) := by rw [if_neg (show ¬ (false = true) by decide)] at H; exact H
      simp only [Option.some.injEq, Prod.mk.injEq] at H
      obtain ⟨rfl, rfl, rfl, rfl⟩ := H
      have hnb41 := NB357_356.out
      have hnc41 := NB356_357.out
      have hnb42 := NB357_358.out
      have hnc42 := NB358_357.out
      obtain ⟨hcz43_0, hcz43_1, hcz43_2, hcz43_3, hfz43_0, hfz43_1, hfz43_2, hfz43_3⟩ := bk4 BK357.out
      go_wp2_with (first | ((with_reducible refine gate_dst (N := 6) rfl ?_); refine box_event ?hg (N := 6) ?hd (cs := #[.int .i64 0, .int .i64 0, .string (⟨#[]⟩ : ByteArray)]) (t := 27) ?hr ?_; (case hd => rfl); (case hg => rfl); (case hr => first | (go_simp; done) | (go_simp; rfl)); intro gb361 hg w44 hbox hb; have BK361 := am (hbox); have GW361 := am ((by rw [hg]; exact (below_size (pkW HB.out)) : w.heap.size ≤ gb361)); have GE361 := am ((by rw [hg]; exact (below_size (pkW HB.out)) : w.heap.size ≤ gb361)); replace HB := am (below_step (pkW HB.out) hb); have NB356_361 := am ((by rw [hg]; exact Nat.ne_of_lt (blk_lt (g := gb356) (o := .cells #[.int .i64 a0_0, .int .i64 a0_1, .string a0_2] 27 (0, 0)) (pkK BK356.out)) : gb356 ≠ gb361)); have NB361_356 := am ((by rw [hg]; exact Nat.ne_of_gt (blk_lt (g := gb356) (o := .cells #[.int .i64 a0_0, .int .i64 a0_1, .string a0_2] 27 (0, 0)) (pkK BK356.out)) : gb361 ≠ gb356)); replace BK356 := am (blk_below (pkK BK356.out) hb); have NB357_361 := am ((by rw [hg]; exact Nat.ne_of_lt (blk_lt (g := gb357) (o := .cells #[.int .i64 a1_0, .int .i64 a1_1, .int .i64 a1_2, .string a1_3] 45 (0, 0)) (pkK BK357.out)) : gb357 ≠ gb361)); have NB361_357 := am ((by rw [hg]; exact Nat.ne_of_gt (blk_lt (g := gb357) (o := .cells #[.int .i64 a1_0, .int .i64 a1_1, .int .i64 a1_2, .string a1_3] 45 (0, 0)) (pkK BK357.out)) : gb361 ≠ gb357)); replace BK357 := am (blk_below (pkK BK357.out) hb); have NB358_361 := am ((by rw [hg]; exact Nat.ne_of_lt (blk_lt (g := gb358) (o := .cells #[.int .i64 0, .int .i64 0, .string (⟨#[]⟩ : ByteArray)] 27 (0, 0)) (pkK BK358.out)) : gb358 ≠ gb361)); have NB361_358 := am ((by rw [hg]; exact Nat.ne_of_gt (blk_lt (g := gb358) (o := .cells #[.int .i64 0, .int .i64 0, .string (⟨#[]⟩ : ByteArray)] 27 (0, 0)) (pkK BK358.out)) : gb361 ≠ gb358)); replace BK358 := am (blk_below (pkK BK358.out) hb); clear hb hbox hg; have hnb45 := NB361_356.out; have hnc45 := NB356_361.out; have hnb46 := NB361_357.out; have hnc46 := NB357_361.out; have hnb47 := NB361_358.out; have hnc47 := NB358_361.out; obtain ⟨hcz48_0, hcz48_1, hcz48_2, hfz48_0, hfz48_1, hfz48_2⟩ := bk3 BK361.out; obtain ⟨hcz49_0, hcz49_1, hcz49_2, hcz49_3, hfz49_0, hfz49_1, hfz49_2, hfz49_3⟩ := bk4 BK357.out) | ((with_reducible refine gate_callee (f := 15) rfl ?_); refine goesL_ (some 71) rfl rfl Try.func15 (by kernel_rfl) rfl #[.agg #[.int .i64 a1_1, .int .i64 a1_2, .string a1_3]] rfl mpx ?_; (with_reducible refine (impl_MsgOk.calls kj2 a1_1 a1_2 a1_3 false _ A26.out).mono ?_); rintro e w50 ⟨rfl, hb⟩; refine ⟨_, rfl, ?_⟩; replace BK356 := am (blk_below (g := gb356) (o := .cells #[.int .i64 a0_0, .int .i64 a0_1, .string a0_2] 27 (0, 0)) (by (with_reducible repeat (first | refine blk_drewN ?_ _ | refine blk_drew ?_ | refine blk_alloc ?_ _)); refine blk_far ?_ NB356_361.out _; (with_reducible repeat (first | refine blk_drewN ?_ _ | refine blk_drew ?_ | refine blk_alloc ?_ _)); refine blk_far ?_ NB356_361.out _; (with_reducible repeat (first | refine blk_drewN ?_ _ | refine blk_drew ?_ | refine blk_alloc ?_ _)); refine blk_far ?_ NB356_361.out _; exact pkK BK356.out) hb); replace BK357 := am (blk_below (g := gb357) (o := .cells #[.int .i64 a1_0, .int .i64 a1_1, .int .i64 a1_2, .string a1_3] 45 (0, 0)) (by (with_reducible repeat (first | refine blk_drewN ?_ _ | refine blk_drew ?_ | refine blk_alloc ?_ _)); refine blk_far ?_ NB357_361.out _; (with_reducible repeat (first | refine blk_drewN ?_ _ | refine blk_drew ?_ | refine blk_alloc ?_ _)); refine blk_far ?_ NB357_361.out _; (with_reducible repeat (first | refine blk_drewN ?_ _ | refine blk_drew ?_ | refine blk_alloc ?_ _)); refine blk_far ?_ NB357_361.out _; exact pkK BK357.out) hb); replace BK358 := am (blk_below (g := gb358) (o := .cells #[.int .i64 0, .int .i64 0, .string (⟨#[]⟩ : ByteArray)] 27 (0, 0)) (by (with_reducible repeat (first | refine blk_drewN ?_ _ | refine blk_drew ?_ | refine blk_alloc ?_ _)); refine blk_far ?_ NB358_361.out _; (with_reducible repeat (first | refine blk_drewN ?_ _ | refine blk_drew ?_ | refine blk_alloc ?_ _)); refine blk_far ?_ NB358_361.out _; (with_reducible repeat (first | refine blk_drewN ?_ _ | refine blk_drew ?_ | refine blk_alloc ?_ _)); refine blk_far ?_ NB358_361.out _; exact pkK BK358.out) hb); replace BK361 := am (blk_below (g := gb361) (o := .cells #[.int .i64 a1_1, .int .i64 a1_2, .string a1_3] 27 (0, 0)) (by (with_reducible repeat (first | refine blk_drewN ?_ _ | refine blk_drew ?_ | refine blk_alloc ?_ _)); refine blk_put (cs := #[.int .i64 a1_1, .int .i64 a1_2, .string (⟨#[]⟩ : ByteArray)]) ?_ 2 _ rfl; (with_reducible repeat (first | refine blk_drewN ?_ _ | refine blk_drew ?_ | refine blk_alloc ?_ _)); refine blk_put (cs := #[.int .i64 a1_1, .int .i64 0, .string (⟨#[]⟩ : ByteArray)]) ?_ 1 _ rfl; (with_reducible repeat (first | refine blk_drewN ?_ _ | refine blk_drew ?_ | refine blk_alloc ?_ _)); refine blk_put (cs := #[.int .i64 0, .int .i64 0, .string (⟨#[]⟩ : ByteArray)]) ?_ 0 _ rfl; exact pkK BK361.out) hb); replace HB := am (below_step (pkW HB.out) hb); (try clear hb); have hnb51 := NB358_356.out; have hnc51 := NB356_358.out; obtain ⟨hcz52_0, hcz52_1, hcz52_2, hfz52_0, hfz52_1, hfz52_2⟩ := bk3 BK358.out))
      refine bodyPost_ret (results_ct rfl _ _ gb358 27 #[.int .i64 0, .int .i64 0, .string (⟨#[]⟩ : ByteArray)] (0, 0) _ rfl (by (with_reducible repeat (first | refine blk_drewN ?_ _ | refine blk_drew ?_ | refine blk_alloc ?_ _)); refine blk_put (cs := #[.int .i64 0, .int .i64 0, .string (⟨#[]⟩ : ByteArray)]) ?_ 2 _ rfl; (with_reducible repeat (first | refine blk_drewN ?_ _ | refine blk_drew ?_ | refine blk_alloc ?_ _)); refine blk_put (cs := #[.int .i64 0, .int .i64 0, .string (⟨#[]⟩ : ByteArray)]) ?_ 1 _ rfl; (with_reducible repeat (first | refine blk_drewN ?_ _ | refine blk_drew ?_ | refine blk_alloc ?_ _)); refine blk_put (cs := #[.int .i64 0, .int .i64 0, .string (⟨#[]⟩ : ByteArray)]) ?_ 0 _ rfl; exact pkK BK358.out) Try.underlying27 rfl (by kernel_rfl)) rfl ?_
      exact ⟨rfe, pkW HB.out⟩
    ·rw [if_neg c25] at H
     have c25b0 : (a1_0 == 1) = false := beq_eq_false_iff_ne.mpr c25
     have c25b1 : (a1_0 != 1) = true := bne_iff_ne.mpr c25
     by_cases c53 : a1_0 = 2
     ·rw [if_pos c53] at H
      have c53b0 : (a1_0 == 2) = true := beq_iff_eq.mpr c53
      have c53b1 : (a1_0 != 2) = false := bne_eq_false_iff_eq.mpr c53
      clear c53
      have HC54 := am H
      clear H
      have hnb55 := NB357_356.out
      have hnc55 := NB356_357.out
      have hnb56 := NB357_358.out
      have hnc56 := NB358_357.out
      obtain ⟨hcz57_0, hcz57_1, hcz57_2, hcz57_3, hfz57_0, hfz57_1, hfz57_2, hfz57_3⟩ := bk4 BK357.out
      go_upto_region 9 with (first | ((with_reducible refine gate_dst (N := 6) rfl ?_); refine box_event ?hg (N := 6) ?hd (cs := #[.int .i64 0, .int .i64 0, .string (⟨#[]⟩ : ByteArray)]) (t := 27) ?hr ?_; (case hd => rfl); (case hg => rfl); (case hr => first | (go_simp; done) | (go_simp; rfl)); intro gb361 hg w58 hbox hb; have BK361 := am (hbox); have GW361 := am ((by rw [hg]; exact (below_size (pkW HB.out)) : w.heap.size ≤ gb361)); have GE361 := am ((by rw [hg]; exact (below_size (pkW HB.out)) : w.heap.size ≤ gb361)); replace HB := am (below_step (pkW HB.out) hb); have NB356_361 := am ((by rw [hg]; exact Nat.ne_of_lt (blk_lt (g := gb356) (o := .cells #[.int .i64 a0_0, .int .i64 a0_1, .string a0_2] 27 (0, 0)) (pkK BK356.out)) : gb356 ≠ gb361)); have NB361_356 := am ((by rw [hg]; exact Nat.ne_of_gt (blk_lt (g := gb356) (o := .cells #[.int .i64 a0_0, .int .i64 a0_1, .string a0_2] 27 (0, 0)) (pkK BK356.out)) : gb361 ≠ gb356)); replace BK356 := am (blk_below (pkK BK356.out) hb); have NB357_361 := am ((by rw [hg]; exact Nat.ne_of_lt (blk_lt (g := gb357) (o := .cells #[.int .i64 a1_0, .int .i64 a1_1, .int .i64 a1_2, .string a1_3] 45 (0, 0)) (pkK BK357.out)) : gb357 ≠ gb361)); have NB361_357 := am ((by rw [hg]; exact Nat.ne_of_gt (blk_lt (g := gb357) (o := .cells #[.int .i64 a1_0, .int .i64 a1_1, .int .i64 a1_2, .string a1_3] 45 (0, 0)) (pkK BK357.out)) : gb361 ≠ gb357)); replace BK357 := am (blk_below (pkK BK357.out) hb); have NB358_361 := am ((by rw [hg]; exact Nat.ne_of_lt (blk_lt (g := gb358) (o := .cells #[.int .i64 0, .int .i64 0, .string (⟨#[]⟩ : ByteArray)] 27 (0, 0)) (pkK BK358.out)) : gb358 ≠ gb361)); have NB361_358 := am ((by rw [hg]; exact Nat.ne_of_gt (blk_lt (g := gb358) (o := .cells #[.int .i64 0, .int .i64 0, .string (⟨#[]⟩ : ByteArray)] 27 (0, 0)) (pkK BK358.out)) : gb361 ≠ gb358)); replace BK358 := am (blk_below (pkK BK358.out) hb); clear hb hbox hg; have hnb59 := NB361_356.out; have hnc59 := NB356_361.out; have hnb60 := NB361_357.out; have hnc60 := NB357_361.out; have hnb61 := NB361_358.out; have hnc61 := NB358_361.out; obtain ⟨hcz62_0, hcz62_1, hcz62_2, hfz62_0, hfz62_1, hfz62_2⟩ := bk3 BK361.out; obtain ⟨hcz63_0, hcz63_1, hcz63_2, hcz63_3, hfz63_0, hfz63_1, hfz63_2, hfz63_3⟩ := bk4 BK357.out; have hnb64 := NB356_358.out; have hnc64 := NB358_356.out; obtain ⟨hcz65_0, hcz65_1, hcz65_2, hfz65_0, hfz65_1, hfz65_2⟩ := bk3 BK356.out))
      (try simp only [Act.put, List.setIfInBounds_toArray, List.set_cons_zero, List.set_cons_succ])
      go_cut [41] (fun v41 wc => ∃ (kq : Nat) (x41_53 : Bool), v41 = .bool x41_53 ∧ Aside0 (impl_Changed.j1 kq x41_53 1 (wrap64 (a0_1 + a1_2)) (⟨#[]⟩ : ByteArray) = some (r1, r2, r3, r4)) ∧ Aside0 (kq ≤ kj2) ∧ Aside0 (wc.heap[gb356]? = some (.cells #[.int .i64 a0_0, .int .i64 a0_1, .string a0_2] 27 (0, 0))) ∧ Aside0 (wc.heap[gb357]? = some (.cells #[.int .i64 a1_0, .int .i64 a1_1, .int .i64 a1_2, .string a1_3] 45 (0, 0))) ∧ Aside0 (wc.heap[gb358]? = some (.cells #[.int .i64 0, .int .i64 0, .string (⟨#[]⟩ : ByteArray)] 27 (0, 0))) ∧ Aside0 (wc.heap[gb361]? = some (.cells #[.int .i64 1, .int .i64 (wrap64 (a0_1 + a1_2)), .string (⟨#[]⟩ : ByteArray)] 27 (0, 0))) ∧ Aside0 (Below w.heap.size w wc))
      case first =>
       have H := HC54.out
       clear HC54
       by_cases c66 : a0_0 = 1
       ·rw [if_pos c66] at H
        have c66b0 : (a0_0 == 1) = true := beq_iff_eq.mpr c66
        have c66b1 : (a0_0 != 1) = false := bne_eq_false_iff_eq.mpr c66
        clear c66
        (first | rw [c66b0] | (simp only [i64_w, i32_w]; rw [c66b0]) | skip)
        have H' := am H
        clear H
        have hnb67 := NB356_357.out
        have hnc67 := NB357_356.out
        have hnb68 := NB356_358.out
        have hnc68 := NB358_356.out
        have hnb69 := NB356_361.out
        have hnc69 := NB361_356.out
        obtain ⟨hcz70_0, hcz70_1, hcz70_2, hfz70_0, hfz70_1, hfz70_2⟩ := bk3 BK356.out
        have hnb71 := NB357_358.out
        have hnc71 := NB358_357.out
        have hnb72 := NB357_361.out
        have hnc72 := NB361_357.out
        obtain ⟨hcz73_0, hcz73_1, hcz73_2, hcz73_3, hfz73_0, hfz73_1, hfz73_2, hfz73_3⟩ := bk4 BK357.out
        go_wp2
        go_meet
        case rel => exact ⟨_, ((a1_1 != 1)), rfx, H', ⟨by have := HJ2.out; first | omega | exact Nat.le_refl _⟩, ⟨by (with_reducible repeat (first | refine blk_drewN ?_ _ | refine blk_drew ?_ | refine blk_alloc ?_ _)); refine blk_far ?_ NB356_361.out _; (with_reducible repeat (first | refine blk_drewN ?_ _ | refine blk_drew ?_ | refine blk_alloc ?_ _)); refine blk_far ?_ NB356_361.out _; (with_reducible repeat (first | refine blk_drewN ?_ _ | refine blk_drew ?_ | refine blk_alloc ?_ _)); refine blk_far ?_ NB356_361.out _; (with_reducible repeat (first | refine blk_drewN ?_ _ | refine blk_drew ?_ | refine blk_alloc ?_ _)); refine blk_far ?_ NB356_361.out _; (with_reducible repeat (first | refine blk_drewN ?_ _ | refine blk_drew ?_ | refine blk_alloc ?_ _)); refine blk_far ?_ NB356_361.out _; (with_reducible repeat (first | refine blk_drewN ?_ _ | refine blk_drew ?_ | refine blk_alloc ?_ _)); refine blk_far ?_ NB356_361.out _; exact pkK BK356.out⟩, ⟨by (with_reducible repeat (first | refine blk_drewN ?_ _ | refine blk_drew ?_ | refine blk_alloc ?_ _)); refine blk_far ?_ NB357_361.out _; (with_reducible repeat (first | refine blk_drewN ?_ _ | refine blk_drew ?_ | refine blk_alloc ?_ _)); refine blk_far ?_ NB357_361.out _; (with_reducible repeat (first | refine blk_drewN ?_ _ | refine blk_drew ?_ | refine blk_alloc ?_ _)); refine blk_far ?_ NB357_361.out _; (with_reducible repeat (first | refine blk_drewN ?_ _ | refine blk_drew ?_ | refine blk_alloc ?_ _)); refine blk_far ?_ NB357_361.out _; (with_reducible repeat (first | refine blk_drewN ?_ _ | refine blk_drew ?_ | refine blk_alloc ?_ _)); refine blk_far ?_ NB357_361.out _; (with_reducible repeat (first | refine blk_drewN ?_ _ | refine blk_drew ?_ | refine blk_alloc ?_ _)); refine blk_far ?_ NB357_361.out _; exact pkK BK357.out⟩, ⟨by (with_reducible repeat (first | refine blk_drewN ?_ _ | refine blk_drew ?_ | refine blk_alloc ?_ _)); refine blk_far ?_ NB358_361.out _; (with_reducible repeat (first | refine blk_drewN ?_ _ | refine blk_drew ?_ | refine blk_alloc ?_ _)); refine blk_far ?_ NB358_361.out _; (with_reducible repeat (first | refine blk_drewN ?_ _ | refine blk_drew ?_ | refine blk_alloc ?_ _)); refine blk_far ?_ NB358_361.out _; (with_reducible repeat (first | refine blk_drewN ?_ _ | refine blk_drew ?_ | refine blk_alloc ?_ _)); refine blk_far ?_ NB358_361.out _; (with_reducible repeat (first | refine blk_drewN ?_ _ | refine blk_drew ?_ | refine blk_alloc ?_ _)); refine blk_far ?_ NB358_361.out _; (with_reducible repeat (first | refine blk_drewN ?_ _ | refine blk_drew ?_ | refine blk_alloc ?_ _)); refine blk_far ?_ NB358_361.out _; exact pkK BK358.out⟩, ⟨by (with_reducible repeat (first | refine blk_drewN ?_ _ | refine blk_drew ?_ | refine blk_alloc ?_ _)); refine blk_put (cs := #[.int .i64 1, .int .i64 (wrap64 (a0_1 + a1_2)), .string a1_3]) ?_ 2 _ rfl; (with_reducible repeat (first | refine blk_drewN ?_ _ | refine blk_drew ?_ | refine blk_alloc ?_ _)); refine blk_put (cs := #[.int .i64 1, .int .i64 a1_2, .string a1_3]) ?_ 1 _ rfl; (with_reducible repeat (first | refine blk_drewN ?_ _ | refine blk_drew ?_ | refine blk_alloc ?_ _)); refine blk_put (cs := #[.int .i64 a1_1, .int .i64 a1_2, .string a1_3]) ?_ 0 _ rfl; (with_reducible repeat (first | refine blk_drewN ?_ _ | refine blk_drew ?_ | refine blk_alloc ?_ _)); refine blk_put (cs := #[.int .i64 a1_1, .int .i64 a1_2, .string (⟨#[]⟩ : ByteArray)]) ?_ 2 _ rfl; (with_reducible repeat (first | refine blk_drewN ?_ _ | refine blk_drew ?_ | refine blk_alloc ?_ _)); refine blk_put (cs := #[.int .i64 a1_1, .int .i64 0, .string (⟨#[]⟩ : ByteArray)]) ?_ 1 _ rfl; (with_reducible repeat (first | refine blk_drewN ?_ _ | refine blk_drew ?_ | refine blk_alloc ?_ _)); refine blk_put (cs := #[.int .i64 0, .int .i64 0, .string (⟨#[]⟩ : ByteArray)]) ?_ 0 _ rfl; exact pkK BK361.out⟩, ⟨pkW HB.out⟩⟩
       ·rw [if_neg c66] at H
        have c66b0 : (a0_0 == 1) = false := beq_eq_false_iff_ne.mpr c66
        have c66b1 : (a0_0 != 1) = true := bne_iff_ne.mpr c66
        (first | rw [c66b0] | (simp only [i64_w, i32_w]; rw [c66b0]) | skip)
        have H' := am H
        clear H
        have hnb74 := NB356_357.out
        have hnc74 := NB357_356.out
        have hnb75 := NB356_358.out
        have hnc75 := NB358_356.out
        have hnb76 := NB356_361.out
        have hnc76 := NB361_356.out
        obtain ⟨hcz77_0, hcz77_1, hcz77_2, hfz77_0, hfz77_1, hfz77_2⟩ := bk3 BK356.out
        go_wp2
        go_meet
        case rel => exact ⟨_, (true), rfx, H', ⟨by have := HJ2.out; first | omega | exact Nat.le_refl _⟩, ⟨by (with_reducible repeat (first | refine blk_drewN ?_ _ | refine blk_drew ?_ | refine blk_alloc ?_ _)); refine blk_far ?_ NB356_361.out _; (with_reducible repeat (first | refine blk_drewN ?_ _ | refine blk_drew ?_ | refine blk_alloc ?_ _)); refine blk_far ?_ NB356_361.out _; (with_reducible repeat (first | refine blk_drewN ?_ _ | refine blk_drew ?_ | refine blk_alloc ?_ _)); refine blk_far ?_ NB356_361.out _; (with_reducible repeat (first | refine blk_drewN ?_ _ | refine blk_drew ?_ | refine blk_alloc ?_ _)); refine blk_far ?_ NB356_361.out _; (with_reducible repeat (first | refine blk_drewN ?_ _ | refine blk_drew ?_ | refine blk_alloc ?_ _)); refine blk_far ?_ NB356_361.out _; (with_reducible repeat (first | refine blk_drewN ?_ _ | refine blk_drew ?_ | refine blk_alloc ?_ _)); refine blk_far ?_ NB356_361.out _; exact pkK BK356.out⟩, ⟨by (with_reducible repeat (first | refine blk_drewN ?_ _ | refine blk_drew ?_ | refine blk_alloc ?_ _)); refine blk_far ?_ NB357_361.out _; (with_reducible repeat (first | refine blk_drewN ?_ _ | refine blk_drew ?_ | refine blk_alloc ?_ _)); refine blk_far ?_ NB357_361.out _; (with_reducible repeat (first | refine blk_drewN ?_ _ | refine blk_drew ?_ | refine blk_alloc ?_ _)); refine blk_far ?_ NB357_361.out _; (with_reducible repeat (first | refine blk_drewN ?_ _ | refine blk_drew ?_ | refine blk_alloc ?_ _)); refine blk_far ?_ NB357_361.out _; (with_reducible repeat (first | refine blk_drewN ?_ _ | refine blk_drew ?_ | refine blk_alloc ?_ _)); refine blk_far ?_ NB357_361.out _; (with_reducible repeat (first | refine blk_drewN ?_ _ | refine blk_drew ?_ | refine blk_alloc ?_ _)); refine blk_far ?_ NB357_361.out _; exact pkK BK357.out⟩, ⟨by (with_reducible repeat (first | refine blk_drewN ?_ _ | refine blk_drew ?_ | refine blk_alloc ?_ _)); refine blk_far ?_ NB358_361.out _; (with_reducible repeat (first | refine blk_drewN ?_ _ | refine blk_drew ?_ | refine blk_alloc ?_ _)); refine blk_far ?_ NB358_361.out _; (with_reducible repeat (first | refine blk_drewN ?_ _ | refine blk_drew ?_ | refine blk_alloc ?_ _)); refine blk_far ?_ NB358_361.out _; (with_reducible repeat (first | refine blk_drewN ?_ _ | refine blk_drew ?_ | refine blk_alloc ?_ _)); refine blk_far ?_ NB358_361.out _; (with_reducible repeat (first | refine blk_drewN ?_ _ | refine blk_drew ?_ | refine blk_alloc ?_ _)); refine blk_far ?_ NB358_361.out _; (with_reducible repeat (first | refine blk_drewN ?_ _ | refine blk_drew ?_ | refine blk_alloc ?_ _)); refine blk_far ?_ NB358_361.out _; exact pkK BK358.out⟩, ⟨by (with_reducible repeat (first | refine blk_drewN ?_ _ | refine blk_drew ?_ | refine blk_alloc ?_ _)); refine blk_put (cs := #[.int .i64 1, .int .i64 (wrap64 (a0_1 + a1_2)), .string a1_3]) ?_ 2 _ rfl; (with_reducible repeat (first | refine blk_drewN ?_ _ | refine blk_drew ?_ | refine blk_alloc ?_ _)); refine blk_put (cs := #[.int .i64 1, .int .i64 a1_2, .string a1_3]) ?_ 1 _ rfl; (with_reducible repeat (first | refine blk_drewN ?_ _ | refine blk_drew ?_ | refine blk_alloc ?_ _)); refine blk_put (cs := #[.int .i64 a1_1, .int .i64 a1_2, .string a1_3]) ?_ 0 _ rfl; (with_reducible repeat (first | refine blk_drewN ?_ _ | refine blk_drew ?_ | refine blk_alloc ?_ _)); refine blk_put (cs := #[.int .i64 a1_1, .int .i64 a1_2, .string (⟨#[]⟩ : ByteArray)]) ?_ 2 _ rfl; (with_reducible repeat (first | refine blk_drewN ?_ _ | refine blk_drew ?_ | refine blk_alloc ?_ _)); refine blk_put (cs := #[.int .i64 a1_1, .int .i64 0, .string (⟨#[]⟩ : ByteArray)]) ?_ 1 _ rfl; (with_reducible repeat (first | refine blk_drewN ?_ _ | refine blk_drew ?_ | refine blk_alloc ?_ _)); refine blk_put (cs := #[.int .i64 0, .int .i64 0, .string (⟨#[]⟩ : ByteArray)]) ?_ 0 _ rfl; exact pkK BK361.out⟩, ⟨pkW HB.out⟩⟩
      case rest =>
       clear HC54
       try clear c1
       try clear c2
       try clear p2
       try clear c3
       try clear c4
       try clear c5
       try clear c6
       try clear p6
       try clear c7
       try clear c8
       try clear c10
       try clear c11
       try clear c14
       try clear c15
       try clear c17
       try clear c18
       try clear c21
       try clear c22
       try clear c23
       try clear c25
       try clear c25b0
       try clear c25b1
       try clear c27
       try clear c28
       try clear c29
       try clear c32
       try clear c33
       try clear c34
       try clear c39
       try clear c41
       try clear c42
       try clear c45
       try clear c46
       try clear c47
       try clear c51
       try clear c53
       try clear c53b0
       try clear c53b1
       try clear c55
       try clear c56
       try clear c59
       try clear c60
       try clear c61
       try clear c64
       try clear p64
       try clear c66
       try clear c66b0
       try clear c66b1
       try clear c67
       try clear c68
       try clear c69
       try clear c71
       try clear c72
       try clear c74
       try clear c75
       try clear c76
       try clear hcz12_0
       try clear hcz12_1
       try clear hcz12_2
       try clear hcz15_0
       try clear hcz15_1
       try clear hcz15_2
       try clear hcz15_3
       try clear hcz19_0
       try clear hcz19_1
       try clear hcz19_2
       try clear hcz24_0
       try clear hcz24_1
       try clear hcz24_2
       try clear hcz30_0
       try clear hcz30_1
       try clear hcz30_2
       try clear hcz30_3
       try clear hcz35_0
       try clear hcz35_1
       try clear hcz35_2
       try clear hcz36_0
       try clear hcz36_1
       try clear hcz36_2
       try clear hcz36_3
       try clear hcz38_0
       try clear hcz38_1
       try clear hcz38_2
       try clear hcz40_0
       try clear hcz40_1
       try clear hcz40_2
       try clear hcz43_0
       try clear hcz43_1
       try clear hcz43_2
       try clear hcz43_3
       try clear hcz48_0
       try clear hcz48_1
       try clear hcz48_2
       try clear hcz49_0
       try clear hcz49_1
       try clear hcz49_2
       try clear hcz49_3
       try clear hcz52_0
       try clear hcz52_1
       try clear hcz52_2
       try clear hcz57_0
       try clear hcz57_1
       try clear hcz57_2
       try clear hcz57_3
       try clear hcz62_0
       try clear hcz62_1
       try clear hcz62_2
       try clear hcz63_0
       try clear hcz63_1
       try clear hcz63_2
       try clear hcz63_3
       try clear hcz65_0
       try clear hcz65_1
       try clear hcz65_2
       try clear hcz70_0
       try clear hcz70_1
       try clear hcz70_2
       try clear hcz73_0
       try clear hcz73_1
       try clear hcz73_2
       try clear hcz73_3
       try clear hcz77_0
       try clear hcz77_1
       try clear hcz77_2
       try clear hfz12_0
       try clear hfz12_1
       try clear hfz12_2
       try clear hfz15_0
       try clear hfz15_1
       try clear hfz15_2
       try clear hfz15_3
       try clear hfz19_0
       try clear hfz19_1
       try clear hfz19_2
       try clear hfz24_0
       try clear hfz24_1
       try clear hfz24_2
       try clear hfz30_0
       try clear hfz30_1
       try clear hfz30_2
       try clear hfz30_3
       try clear hfz35_0
       try clear hfz35_1
       try clear hfz35_2
       try clear hfz36_0
       try clear hfz36_1
       try clear hfz36_2
       try clear hfz36_3
       try clear hfz38_0
       try clear hfz38_1
       try clear hfz38_2
       try clear hfz40_0
       try clear hfz40_1
       try clear hfz40_2
       try clear hfz43_0
       try clear hfz43_1
       try clear hfz43_2
       try clear hfz43_3
       try clear hfz48_0
       try clear hfz48_1
       try clear hfz48_2
       try clear hfz49_0
       try clear hfz49_1
       try clear hfz49_2
       try clear hfz49_3
       try clear hfz52_0
       try clear hfz52_1
       try clear hfz52_2
       try clear hfz57_0
       try clear hfz57_1
       try clear hfz57_2
       try clear hfz57_3
       try clear hfz62_0
       try clear hfz62_1
       try clear hfz62_2
       try clear hfz63_0
       try clear hfz63_1
       try clear hfz63_2
       try clear hfz63_3
       try clear hfz65_0
       try clear hfz65_1
       try clear hfz65_2
       try clear hfz70_0
       try clear hfz70_1
       try clear hfz70_2
       try clear hfz73_0
       try clear hfz73_1
       try clear hfz73_2
       try clear hfz73_3
       try clear hfz77_0
       try clear hfz77_1
       try clear hfz77_2
       try clear p2
       obtain ⟨kq, x41_53, rfl, HA, HJ53, BK356, BK357, BK358, BK361, HB⟩ := hcut
       cases kq with
       | zero => exact absurd HA.out (by simp [impl_Changed.j1])
       | succ kj53 =>
        have H := HA.out
        clear HA
        simp only [impl_Changed.j1] at H
        by_cases c78 : x41_53 = true
        ·subst c78
         replace H : (some (0, 0, (⟨#[]⟩ : ByteArray), false)) = some (r1, r2, r3, r4) := by rw [if_pos rfl] at H; exact H
         simp only [Option.some.injEq, Prod.mk.injEq] at H
         obtain ⟨rfl, rfl, rfl, rfl⟩ := H
         have hnb79 := NB358_356.out
         have hnc79 := NB356_358.out
         have hnb80 := NB358_357.out
         have hnc80 := NB357_358.out
         have hnb81 := NB358_361.out
         have hnc81 := NB361_358.out
         obtain ⟨hcz82_0, hcz82_1, hcz82_2, hfz82_0, hfz82_1, hfz82_2⟩ := bk3 BK358.out
         go_wp2
         refine bodyPost_ret (results_ct rfl _ _ gb358 27 #[.int .i64 0, .int .i64 0, .string (⟨#[]⟩ : ByteArray)] (0, 0) _ rfl (by (with_reducible repeat (first | refine blk_drewN ?_ _ | refine blk_drew ?_ | refine blk_alloc ?_ _)); refine blk_put (cs := #[.int .i64 0, .int .i64 0, .string (⟨#[]⟩ : ByteArray)]) ?_ 2 _ rfl; (with_reducible repeat (first | refine blk_drewN ?_ _ | refine blk_drew ?_ | refine blk_alloc ?_ _)); refine blk_put (cs := #[.int .i64 0, .int .i64 0, .string (⟨#[]⟩ : ByteArray)]) ?_ 1 _ rfl; (with_reducible repeat (first | refine blk_drewN ?_ _ | refine blk_drew ?_ | refine blk_alloc ?_ _)); refine blk_put (cs := #[.int .i64 0, .int .i64 0, .string (⟨#[]⟩ : ByteArray)]) ?_ 0 _ rfl; exact pkK BK358.out) Try.underlying27 rfl (by kernel_rfl)) rfl ?_
         exact ⟨rfe, pkW HB.out⟩
        ·replace c78 := Bool.eq_false_iff.mpr c78
         subst c78
         replace H : ((impl_MsgOk.f kj53 1 (wrap64 (a0_1 + a1_2)) (⟨#[]⟩ : ByteArray)).bind fun t363 => (if t363 = true then (some (1, (wrap64 (a0_1 + a1_2)), (⟨#[]⟩ : ByteArray), true)) else (some (0, 0, (⟨#[]⟩ : ByteArray), false)))) = some (r1, r2, r3, r4) := by rw [if_neg (show ¬ (false = true) by decide)] at H; exact H
         replace H := Option.bind_eq_some_iff.mp H
         obtain ⟨t363, A830, H⟩ := H
         replace H : (if t363 = true then (some (1, (wrap64 (a0_1 + a1_2)), (⟨#[]⟩ : ByteArray), true)) else (some (0, 0, (⟨#[]⟩ : ByteArray), false))) = some (r1, r2, r3, r4) := H
         have A83 := am A830
         clear A830
         by_cases c84 : t363 = true
         ·subst c84
          replace H : (some (1, (wrap64 (a0_1 + a1_2)), (⟨#[]⟩ : ByteArray), true)) = some (r1, r2, r3, r4) := by rw [if_pos rfl] at H; exact H
          simp only [Option.some.injEq, Prod.mk.injEq] at H
          obtain ⟨rfl, rfl, rfl, rfl⟩ := H
          have hnb85 := NB361_356.out
          have hnc85 := NB356_361.out
          have hnb86 := NB361_357.out
          have hnc86 := NB357_361.out
          have hnb87 := NB361_358.out
          have hnc87 := NB358_361.out
          obtain ⟨hcz88_0, hcz88_1, hcz88_2, hfz88_0, hfz88_1, hfz88_2⟩ := bk3 BK361.out
          go_wp2_with (first | ((with_reducible refine gate_callee (f := 15) rfl ?_); refine goesL_ (some 71) rfl rfl Try.func15 (by kernel_rfl) rfl #[.agg #[.int .i64 1, .int .i64 (wrap64 (a0_1 + a1_2)), .string (⟨#[]⟩ : ByteArray)]] rfl mpx ?_; (with_reducible refine (impl_MsgOk.calls kj53 1 (wrap64 (a0_1 + a1_2)) (⟨#[]⟩ : ByteArray) true _ A83.out).mono ?_); rintro e w89 ⟨rfl, hb⟩; refine ⟨_, rfl, ?_⟩; replace BK356 := am (blk_below (pkK BK356.out) hb); replace BK357 := am (blk_below (pkK BK357.out) hb); replace BK358 := am (blk_below (pkK BK358.out) hb); replace BK361 := am (blk_below (pkK BK361.out) hb); replace HB := am (below_step (pkW HB.out) hb); (try clear hb); obtain ⟨hcz90_0, hcz90_1, hcz90_2, hfz90_0, hfz90_1, hfz90_2⟩ := bk3 BK361.out; have hnb91 := NB358_356.out; have hnc91 := NB356_358.out; have hnb92 := NB358_357.out; have hnc92 := NB357_358.out; obtain ⟨hcz93_0, hcz93_1, hcz93_2, hfz93_0, hfz93_1, hfz93_2⟩ := bk3 BK358.out))
          refine bodyPost_ret (results_ct rfl _ _ gb358 27 #[.int .i64 1, .int .i64 (wrap64 (a0_1 + a1_2)), .string (⟨#[]⟩ : ByteArray)] (0, 0) _ rfl (by (with_reducible repeat (first | refine blk_drewN ?_ _ | refine blk_drew ?_ | refine blk_alloc ?_ _)); refine blk_put (cs := #[.int .i64 1, .int .i64 (wrap64 (a0_1 + a1_2)), .string (⟨#[]⟩ : ByteArray)]) ?_ 2 _ rfl; (with_reducible repeat (first | refine blk_drewN ?_ _ | refine blk_drew ?_ | refine blk_alloc ?_ _)); refine blk_put (cs := #[.int .i64 1, .int .i64 0, .string (⟨#[]⟩ : ByteArray)]) ?_ 1 _ rfl; (with_reducible repeat (first | refine blk_drewN ?_ _ | refine blk_drew ?_ | refine blk_alloc ?_ _)); refine blk_put (cs := #[.int .i64 0, .int .i64 0, .string (⟨#[]⟩ : ByteArray)]) ?_ 0 _ rfl; exact pkK BK358.out) Try.underlying27 rfl (by kernel_rfl)) rfl ?_
          exact ⟨rfe, pkW HB.out⟩
         ·replace c84 := Bool.eq_false_iff.mpr c84
          subst c84
          replace H : (some (0, 0, (⟨#[]⟩ : ByteArray), false)) = some (r1, r2, r3, r4) := by rw [if_neg (show ¬ (false = true) by decide)] at H; exact H
          simp only [Option.some.injEq, Prod.mk.injEq] at H
          obtain ⟨rfl, rfl, rfl, rfl⟩ := H
          have hnb94 := NB361_356.out
          have hnc94 := NB356_361.out
          have hnb95 := NB361_357.out
          have hnc95 := NB357_361.out
          have hnb96 := NB361_358.out
          have hnc96 := NB358_361.out
          obtain ⟨hcz97_0, hcz97_1, hcz97_2, hfz97_0, hfz97_1, hfz97_2⟩ := bk3 BK361.out
          go_wp2_with (first | ((with_reducible refine gate_callee (f := 15) rfl ?_); refine goesL_ (some 71) rfl rfl Try.func15 (by kernel_rfl) rfl #[.agg #[.int .i64 1, .int .i64 (wrap64 (a0_1 + a1_2)), .string (⟨#[]⟩ : ByteArray)]] rfl mpx ?_; (with_reducible refine (impl_MsgOk.calls kj53 1 (wrap64 (a0_1 + a1_2)) (⟨#[]⟩ : ByteArray) false _ A83.out).mono ?_); rintro e w98 ⟨rfl, hb⟩; refine ⟨_, rfl, ?_⟩; replace BK356 := am (blk_below (pkK BK356.out) hb); replace BK357 := am (blk_below (pkK BK357.out) hb); replace BK358 := am (blk_below (pkK BK358.out) hb); replace BK361 := am (blk_below (pkK BK361.out) hb); replace HB := am (below_step (pkW HB.out) hb); (try clear hb); have hnb99 := NB358_356.out; have hnc99 := NB356_358.out; have hnb100 := NB358_357.out; have hnc100 := NB357_358.out; obtain ⟨hcz101_0, hcz101_1, hcz101_2, hfz101_0, hfz101_1, hfz101_2⟩ := bk3 BK358.out))
          refine bodyPost_ret (results_ct rfl _ _ gb358 27 #[.int .i64 0, .int .i64 0, .string (⟨#[]⟩ : ByteArray)] (0, 0) _ rfl (by (with_reducible repeat (first | refine blk_drewN ?_ _ | refine blk_drew ?_ | refine blk_alloc ?_ _)); refine blk_put (cs := #[.int .i64 0, .int .i64 0, .string (⟨#[]⟩ : ByteArray)]) ?_ 2 _ rfl; (with_reducible repeat (first | refine blk_drewN ?_ _ | refine blk_drew ?_ | refine blk_alloc ?_ _)); refine blk_put (cs := #[.int .i64 0, .int .i64 0, .string (⟨#[]⟩ : ByteArray)]) ?_ 1 _ rfl; (with_reducible repeat (first | refine blk_drewN ?_ _ | refine blk_drew ?_ | refine blk_alloc ?_ _)); refine blk_put (cs := #[.int .i64 0, .int .i64 0, .string (⟨#[]⟩ : ByteArray)]) ?_ 0 _ rfl; exact pkK BK358.out) Try.underlying27 rfl (by kernel_rfl)) rfl ?_
          exact ⟨rfe, pkW HB.out⟩
     ·rw [if_neg c53] at H
      have c53b0 : (a1_0 == 2) = false := beq_eq_false_iff_ne.mpr c53
      have c53b1 : (a1_0 != 2) = true := bne_iff_ne.mpr c53
      by_cases c102 : a1_0 = 3
      ·rw [if_pos c102] at H
       have c102b0 : (a1_0 == 3) = true := beq_iff_eq.mpr c102
       have c102b1 : (a1_0 != 3) = false := bne_eq_false_iff_eq.mpr c102
       clear c102
       by_cases c103 : a0_2.size + a1_3.size ≤ 9223372036854775807
       ·rw [if_pos c103] at H
        have c103b0 := eq_true c103
        have c103b1 : decide (a0_2.size + a1_3.size ≤ 9223372036854775807) = true := decide_eq_true c103
        try have c103b2 : (9223372036854775807 < a0_2.size + a1_3.size) = False := eq_false (Nat.not_lt.2 c103)
        have HC104 := am H
        clear H
        have hnb105 := NB357_356.out
        have hnc105 := NB356_357.out
        have hnb106 := NB357_358.out
        have hnc106 := NB358_357.out
        obtain ⟨hcz107_0, hcz107_1, hcz107_2, hcz107_3, hfz107_0, hfz107_1, hfz107_2, hfz107_3⟩ := bk4 BK357.out
        go_upto_region 13 with (first | ((with_reducible refine gate_dst (N := 6) rfl ?_); refine box_event ?hg (N := 6) ?hd (cs := #[.int .i64 0, .int .i64 0, .string (⟨#[]⟩ : ByteArray)]) (t := 27) ?hr ?_; (case hd => rfl); (case hg => rfl); (case hr => first | (go_simp; done) | (go_simp; rfl)); intro gb361 hg w108 hbox hb; have BK361 := am (hbox); have GW361 := am ((by rw [hg]; exact (below_size (pkW HB.out)) : w.heap.size ≤ gb361)); have GE361 := am ((by rw [hg]; exact (below_size (pkW HB.out)) : w.heap.size ≤ gb361)); replace HB := am (below_step (pkW HB.out) hb); have NB356_361 := am ((by rw [hg]; exact Nat.ne_of_lt (blk_lt (g := gb356) (o := .cells #[.int .i64 a0_0, .int .i64 a0_1, .string a0_2] 27 (0, 0)) (pkK BK356.out)) : gb356 ≠ gb361)); have NB361_356 := am ((by rw [hg]; exact Nat.ne_of_gt (blk_lt (g := gb356) (o := .cells #[.int .i64 a0_0, .int .i64 a0_1, .string a0_2] 27 (0, 0)) (pkK BK356.out)) : gb361 ≠ gb356)); replace BK356 := am (blk_below (pkK BK356.out) hb); have NB357_361 := am ((by rw [hg]; exact Nat.ne_of_lt (blk_lt (g := gb357) (o := .cells #[.int .i64 a1_0, .int .i64 a1_1, .int .i64 a1_2, .string a1_3] 45 (0, 0)) (pkK BK357.out)) : gb357 ≠ gb361)); have NB361_357 := am ((by rw [hg]; exact Nat.ne_of_gt (blk_lt (g := gb357) (o := .cells #[.int .i64 a1_0, .int .i64 a1_1, .int .i64 a1_2, .string a1_3] 45 (0, 0)) (pkK BK357.out)) : gb361 ≠ gb357)); replace BK357 := am (blk_below (pkK BK357.out) hb); have NB358_361 := am ((by rw [hg]; exact Nat.ne_of_lt (blk_lt (g := gb358) (o := .cells #[.int .i64 0, .int .i64 0, .string (⟨#[]⟩ : ByteArray)] 27 (0, 0)) (pkK BK358.out)) : gb358 ≠ gb361)); have NB361_358 := am ((by rw [hg]; exact Nat.ne_of_gt (blk_lt (g := gb358) (o := .cells #[.int .i64 0, .int .i64 0, .string (⟨#[]⟩ : ByteArray)] 27 (0, 0)) (pkK BK358.out)) : gb361 ≠ gb358)); replace BK358 := am (blk_below (pkK BK358.out) hb); clear hb hbox hg; have hnb109 := NB361_356.out; have hnc109 := NB356_361.out; have hnb110 := NB361_357.out; have hnc110 := NB357_361.out; have hnb111 := NB361_358.out; have hnc111 := NB358_361.out; obtain ⟨hcz112_0, hcz112_1, hcz112_2, hfz112_0, hfz112_1, hfz112_2⟩ := bk3 BK361.out; obtain ⟨hcz113_0, hcz113_1, hcz113_2, hcz113_3, hfz113_0, hfz113_1, hfz113_2, hfz113_3⟩ := bk4 BK357.out; have hnb114 := NB356_358.out; have hnc114 := NB358_356.out; obtain ⟨hcz115_0, hcz115_1, hcz115_2, hfz115_0, hfz115_1, hfz115_2⟩ := bk3 BK356.out))
        (try simp only [Act.put, List.setIfInBounds_toArray, List.set_cons_zero, List.set_cons_succ])
        go_cut [60] (fun v60 wc => ∃ (kq : Nat) (x60_103 : Bool), v60 = .bool x60_103 ∧ Aside0 (impl_Changed.j2 kq x60_103 2 0 (a0_2 ++ a1_3) = some (r1, r2, r3, r4)) ∧ Aside0 (kq ≤ kj2) ∧ Aside0 (wc.heap[gb356]? = some (.cells #[.int .i64 a0_0, .int .i64 a0_1, .string a0_2] 27 (0, 0))) ∧ Aside0 (wc.heap[gb357]? = some (.cells #[.int .i64 a1_0, .int .i64 a1_1, .int .i64 a1_2, .string a1_3] 45 (0, 0))) ∧ Aside0 (wc.heap[gb358]? = some (.cells #[.int .i64 0, .int .i64 0, .string (⟨#[]⟩ : ByteArray)] 27 (0, 0))) ∧ Aside0 (wc.heap[gb361]? = some (.cells #[.int .i64 2, .int .i64 0, .string (a0_2 ++ a1_3)] 27 (0, 0))) ∧ Aside0 (Below w.heap.size w wc))
        case first =>
         have H := HC104.out
         clear HC104
         by_cases c116 : a0_0 = 2
         ·rw [if_pos c116] at H
          have c116b0 : (a0_0 == 2) = true := beq_iff_eq.mpr c116
          have c116b1 : (a0_0 != 2) = false := bne_eq_false_iff_eq.mpr c116
          clear c116
          (first | rw [c116b0] | (simp only [i64_w, i32_w]; rw [c116b0]) | skip)
          have H' := am H
          clear H
          have hnb117 := NB356_357.out
          have hnc117 := NB357_356.out
          have hnb118 := NB356_358.out
          have hnc118 := NB358_356.out
          have hnb119 := NB356_361.out
          have hnc119 := NB361_356.out
          obtain ⟨hcz120_0, hcz120_1, hcz120_2, hfz120_0, hfz120_1, hfz120_2⟩ := bk3 BK356.out
          have hnb121 := NB357_358.out
          have hnc121 := NB358_357.out
          have hnb122 := NB357_361.out
          have hnc122 := NB361_357.out
          obtain ⟨hcz123_0, hcz123_1, hcz123_2, hcz123_3, hfz123_0, hfz123_1, hfz123_2, hfz123_3⟩ := bk4 BK357.out
          go_wp2
          go_meet
          case rel => exact ⟨_, ((a1_1 != 2)), rfx, H', ⟨by have := HJ2.out; first | omega | exact Nat.le_refl _⟩, ⟨by (with_reducible repeat (first | refine blk_drewN ?_ _ | refine blk_drew ?_ | refine blk_alloc ?_ _)); refine blk_far ?_ NB356_361.out _; (with_reducible repeat (first | refine blk_drewN ?_ _ | refine blk_drew ?_ | refine blk_alloc ?_ _)); refine blk_far ?_ NB356_361.out _; (with_reducible repeat (first | refine blk_drewN ?_ _ | refine blk_drew ?_ | refine blk_alloc ?_ _)); refine blk_far ?_ NB356_361.out _; (with_reducible repeat (first | refine blk_drewN ?_ _ | refine blk_drew ?_ | refine blk_alloc ?_ _)); refine blk_far ?_ NB356_361.out _; (with_reducible repeat (first | refine blk_drewN ?_ _ | refine blk_drew ?_ | refine blk_alloc ?_ _)); refine blk_far ?_ NB356_361.out _; (with_reducible repeat (first | refine blk_drewN ?_ _ | refine blk_drew ?_ | refine blk_alloc ?_ _)); refine blk_far ?_ NB356_361.out _; exact pkK BK356.out⟩, ⟨by (with_reducible repeat (first | refine blk_drewN ?_ _ | refine blk_drew ?_ | refine blk_alloc ?_ _)); refine blk_far ?_ NB357_361.out _; (with_reducible repeat (first | refine blk_drewN ?_ _ | refine blk_drew ?_ | refine blk_alloc ?_ _)); refine blk_far ?_ NB357_361.out _; (with_reducible repeat (first | refine blk_drewN ?_ _ | refine blk_drew ?_ | refine blk_alloc ?_ _)); refine blk_far ?_ NB357_361.out _; (with_reducible repeat (first | refine blk_drewN ?_ _ | refine blk_drew ?_ | refine blk_alloc ?_ _)); refine blk_far ?_ NB357_361.out _; (with_reducible repeat (first | refine blk_drewN ?_ _ | refine blk_drew ?_ | refine blk_alloc ?_ _)); refine blk_far ?_ NB357_361.out _; (with_reducible repeat (first | refine blk_drewN ?_ _ | refine blk_drew ?_ | refine blk_alloc ?_ _)); refine blk_far ?_ NB357_361.out _; exact pkK BK357.out⟩, ⟨by (with_reducible repeat (first | refine blk_drewN ?_ _ | refine blk_drew ?_ | refine blk_alloc ?_ _)); refine blk_far ?_ NB358_361.out _; (with_reducible repeat (first | refine blk_drewN ?_ _ | refine blk_drew ?_ | refine blk_alloc ?_ _)); refine blk_far ?_ NB358_361.out _; (with_reducible repeat (first | refine blk_drewN ?_ _ | refine blk_drew ?_ | refine blk_alloc ?_ _)); refine blk_far ?_ NB358_361.out _; (with_reducible repeat (first | refine blk_drewN ?_ _ | refine blk_drew ?_ | refine blk_alloc ?_ _)); refine blk_far ?_ NB358_361.out _; (with_reducible repeat (first | refine blk_drewN ?_ _ | refine blk_drew ?_ | refine blk_alloc ?_ _)); refine blk_far ?_ NB358_361.out _; (with_reducible repeat (first | refine blk_drewN ?_ _ | refine blk_drew ?_ | refine blk_alloc ?_ _)); refine blk_far ?_ NB358_361.out _; exact pkK BK358.out⟩, ⟨by (with_reducible repeat (first | refine blk_drewN ?_ _ | refine blk_drew ?_ | refine blk_alloc ?_ _)); refine blk_put (cs := #[.int .i64 2, .int .i64 0, .string a1_3]) ?_ 2 _ rfl; (with_reducible repeat (first | refine blk_drewN ?_ _ | refine blk_drew ?_ | refine blk_alloc ?_ _)); refine blk_put (cs := #[.int .i64 2, .int .i64 a1_2, .string a1_3]) ?_ 1 _ rfl; (with_reducible repeat (first | refine blk_drewN ?_ _ | refine blk_drew ?_ | refine blk_alloc ?_ _)); refine blk_put (cs := #[.int .i64 a1_1, .int .i64 a1_2, .string a1_3]) ?_ 0 _ rfl; (with_reducible repeat (first | refine blk_drewN ?_ _ | refine blk_drew ?_ | refine blk_alloc ?_ _)); refine blk_put (cs := #[.int .i64 a1_1, .int .i64 a1_2, .string (⟨#[]⟩ : ByteArray)]) ?_ 2 _ rfl; (with_reducible repeat (first | refine blk_drewN ?_ _ | refine blk_drew ?_ | refine blk_alloc ?_ _)); refine blk_put (cs := #[.int .i64 a1_1, .int .i64 0, .string (⟨#[]⟩ : ByteArray)]) ?_ 1 _ rfl; (with_reducible repeat (first | refine blk_drewN ?_ _ | refine blk_drew ?_ | refine blk_alloc ?_ _)); refine blk_put (cs := #[.int .i64 0, .int .i64 0, .string (⟨#[]⟩ : ByteArray)]) ?_ 0 _ rfl; exact pkK BK361.out⟩, ⟨pkW HB.out⟩⟩
         ·rw [if_neg c116] at H
          have c116b0 : (a0_0 == 2) = false := beq_eq_false_iff_ne.mpr c116
          have c116b1 : (a0_0 != 2) = true := bne_iff_ne.mpr c116
          (first | rw [c116b0] | (simp only [i64_w, i32_w]; rw [c116b0]) | skip)
          have H' := am H
          clear H
          have hnb124 := NB356_357.out
          have hnc124 := NB357_356.out
          have hnb125 := NB356_358.out
          have hnc125 := NB358_356.out
          have hnb126 := NB356_361.out
          have hnc126 := NB361_356.out
          obtain ⟨hcz127_0, hcz127_1, hcz127_2, hfz127_0, hfz127_1, hfz127_2⟩ := bk3 BK356.out
          go_wp2
          go_meet
          case rel => exact ⟨_, (true), rfx, H', ⟨by have := HJ2.out; first | omega | exact Nat.le_refl _⟩, ⟨by (with_reducible repeat (first | refine blk_drewN ?_ _ | refine blk_drew ?_ | refine blk_alloc ?_ _)); refine blk_far ?_ NB356_361.out _; (with_reducible repeat (first | refine blk_drewN ?_ _ | refine blk_drew ?_ | refine blk_alloc ?_ _)); refine blk_far ?_ NB356_361.out _; (with_reducible repeat (first | refine blk_drewN ?_ _ | refine blk_drew ?_ | refine blk_alloc ?_ _)); refine blk_far ?_ NB356_361.out _; (with_reducible repeat (first | refine blk_drewN ?_ _ | refine blk_drew ?_ | refine blk_alloc ?_ _)); refine blk_far ?_ NB356_361.out _; (with_reducible repeat (first | refine blk_drewN ?_ _ | refine blk_drew ?_ | refine blk_alloc ?_ _)); refine blk_far ?_ NB356_361.out _; (with_reducible repeat (first | refine blk_drewN ?_ _ | refine blk_drew ?_ | refine blk_alloc ?_ _)); refine blk_far ?_ NB356_361.out _; exact pkK BK356.out⟩, ⟨by (with_reducible repeat (first | refine blk_drewN ?_ _ | refine blk_drew ?_ | refine blk_alloc ?_ _)); refine blk_far ?_ NB357_361.out _; (with_reducible repeat (first | refine blk_drewN ?_ _ | refine blk_drew ?_ | refine blk_alloc ?_ _)); refine blk_far ?_ NB357_361.out _; (with_reducible repeat (first | refine blk_drewN ?_ _ | refine blk_drew ?_ | refine blk_alloc ?_ _)); refine blk_far ?_ NB357_361.out _; (with_reducible repeat (first | refine blk_drewN ?_ _ | refine blk_drew ?_ | refine blk_alloc ?_ _)); refine blk_far ?_ NB357_361.out _; (with_reducible repeat (first | refine blk_drewN ?_ _ | refine blk_drew ?_ | refine blk_alloc ?_ _)); refine blk_far ?_ NB357_361.out _; (with_reducible repeat (first | refine blk_drewN ?_ _ | refine blk_drew ?_ | refine blk_alloc ?_ _)); refine blk_far ?_ NB357_361.out _; exact pkK BK357.out⟩, ⟨by (with_reducible repeat (first | refine blk_drewN ?_ _ | refine blk_drew ?_ | refine blk_alloc ?_ _)); refine blk_far ?_ NB358_361.out _; (with_reducible repeat (first | refine blk_drewN ?_ _ | refine blk_drew ?_ | refine blk_alloc ?_ _)); refine blk_far ?_ NB358_361.out _; (with_reducible repeat (first | refine blk_drewN ?_ _ | refine blk_drew ?_ | refine blk_alloc ?_ _)); refine blk_far ?_ NB358_361.out _; (with_reducible repeat (first | refine blk_drewN ?_ _ | refine blk_drew ?_ | refine blk_alloc ?_ _)); refine blk_far ?_ NB358_361.out _; (with_reducible repeat (first | refine blk_drewN ?_ _ | refine blk_drew ?_ | refine blk_alloc ?_ _)); refine blk_far ?_ NB358_361.out _; (with_reducible repeat (first | refine blk_drewN ?_ _ | refine blk_drew ?_ | refine blk_alloc ?_ _)); refine blk_far ?_ NB358_361.out _; exact pkK BK358.out⟩, ⟨by (with_reducible repeat (first | refine blk_drewN ?_ _ | refine blk_drew ?_ | refine blk_alloc ?_ _)); refine blk_put (cs := #[.int .i64 2, .int .i64 0, .string a1_3]) ?_ 2 _ rfl; (with_reducible repeat (first | refine blk_drewN ?_ _ | refine blk_drew ?_ | refine blk_alloc ?_ _)); refine blk_put (cs := #[.int .i64 2, .int .i64 a1_2, .string a1_3]) ?_ 1 _ rfl; (with_reducible repeat (first | refine blk_drewN ?_ _ | refine blk_drew ?_ | refine blk_alloc ?_ _)); refine blk_put (cs := #[.int .i64 a1_1, .int .i64 a1_2, .string a1_3]) ?_ 0 _ rfl; (with_reducible repeat (first | refine blk_drewN ?_ _ | refine blk_drew ?_ | refine blk_alloc ?_ _)); refine blk_put (cs := #[.int .i64 a1_1, .int .i64 a1_2, .string (⟨#[]⟩ : ByteArray)]) ?_ 2 _ rfl; (with_reducible repeat (first | refine blk_drewN ?_ _ | refine blk_drew ?_ | refine blk_alloc ?_ _)); refine blk_put (cs := #[.int .i64 a1_1, .int .i64 0, .string (⟨#[]⟩ : ByteArray)]) ?_ 1 _ rfl; (with_reducible repeat (first | refine blk_drewN ?_ _ | refine blk_drew ?_ | refine blk_alloc ?_ _)); refine blk_put (cs := #[.int .i64 0, .int .i64 0, .string (⟨#[]⟩ : ByteArray)]) ?_ 0 _ rfl; exact pkK BK361.out⟩, ⟨pkW HB.out⟩⟩
        case rest =>
         clear HC104
         try clear c1
         try clear c2
         try clear p2
         try clear c3
         try clear c4
         try clear c5
         try clear c6
         try clear p6
         try clear c7
         try clear c8
         try clear c9
         try clear c10
         try clear c11
         try clear c12
         try clear c14
         try clear c15
         try clear c17
         try clear c18
         try clear c21
         try clear c22
         try clear c23
         try clear c25
         try clear c25b0
         try clear c25b1
         try clear c27
         try clear c28
         try clear c29
         try clear c32
         try clear c33
         try clear c34
         try clear c39
         try clear c41
         try clear c42
         try clear c45
         try clear c46
         try clear c47
         try clear c51
         try clear c53
         try clear c53b0
         try clear c53b1
         try clear c55
         try clear c56
         try clear c59
         try clear c60
         try clear c61
         try clear c64
         try clear p64
         try clear c66
         try clear c66b0
         try clear c66b1
         try clear c67
         try clear c68
         try clear c69
         try clear c71
         try clear c72
         try clear c74
         try clear c75
         try clear c76
         try clear c78
         try clear c79
         try clear c80
         try clear c81
         try clear c84
         try clear c85
         try clear c86
         try clear c87
         try clear c91
         try clear c92
         try clear c94
         try clear c95
         try clear c96
         try clear c99
         try clear c100
         try clear c102
         try clear c102b0
         try clear c102b1
         try clear c103
         try clear c103b0
         try clear c103b1
         try clear c103b2
         try clear c105
         try clear c106
         try clear c109
         try clear c110
         try clear c111
         try clear c114
         try clear c116
         try clear c116b0
         try clear c116b1
         try clear c117
         try clear c118
         try clear c119
         try clear c121
         try clear c122
         try clear c124
         try clear c125
         try clear c126
         try clear hcz101_0
         try clear hcz101_1
         try clear hcz101_2
         try clear hcz107_0
         try clear hcz107_1
         try clear hcz107_2
         try clear hcz107_3
         try clear hcz112_0
         try clear hcz112_1
         try clear hcz112_2
         try clear hcz113_0
         try clear hcz113_1
         try clear hcz113_2
         try clear hcz113_3
         try clear hcz115_0
         try clear hcz115_1
         try clear hcz115_2
         try clear hcz120_0
         try clear hcz120_1
         try clear hcz120_2
         try clear hcz123_0
         try clear hcz123_1
         try clear hcz123_2
         try clear hcz123_3
         try clear hcz127_0
         try clear hcz127_1
         try clear hcz127_2
         try clear hcz12_0
         try clear hcz12_1
         try clear hcz12_2
         try clear hcz15_0
         try clear hcz15_1
         try clear hcz15_2
         try clear hcz15_3
         try clear hcz19_0
         try clear hcz19_1
         try clear hcz19_2
         try clear hcz24_0
         try clear hcz24_1
         try clear hcz24_2
         try clear hcz30_0
         try clear hcz30_1
         try clear hcz30_2
         try clear hcz30_3
         try clear hcz35_0
         try clear hcz35_1
         try clear hcz35_2
         try clear hcz36_0
         try clear hcz36_1
         try clear hcz36_2
         try clear hcz36_3
         try clear hcz38_0
         try clear hcz38_1
         try clear hcz38_2
         try clear hcz40_0
         try clear hcz40_1
         try clear hcz40_2
         try clear hcz43_0
         try clear hcz43_1
         try clear hcz43_2
         try clear hcz43_3
         try clear hcz48_0
         try clear hcz48_1
         try clear hcz48_2
         try clear hcz49_0
         try clear hcz49_1
         try clear hcz49_2
         try clear hcz49_3
         try clear hcz52_0
         try clear hcz52_1
         try clear hcz52_2
         try clear hcz57_0
         try clear hcz57_1
         try clear hcz57_2
         try clear hcz57_3
         try clear hcz62_0
         try clear hcz62_1
         try clear hcz62_2
         try clear hcz63_0
         try clear hcz63_1
         try clear hcz63_2
         try clear hcz63_3
         try clear hcz65_0
         try clear hcz65_1
         try clear hcz65_2
         try clear hcz70_0
         try clear hcz70_1
         try clear hcz70_2
         try clear hcz73_0
         try clear hcz73_1
         try clear hcz73_2
         try clear hcz73_3
         try clear hcz77_0
         try clear hcz77_1
         try clear hcz77_2
         try clear hcz82_0
         try clear hcz82_1
         try clear hcz82_2
         try clear hcz88_0
         try clear hcz88_1
         try clear hcz88_2
         try clear hcz90_0
         try clear hcz90_1
         try clear hcz90_2
         try clear hcz93_0
         try clear hcz93_1
         try clear hcz93_2
         try clear hcz97_0
         try clear hcz97_1
         try clear hcz97_2
         try clear hfz101_0
         try clear hfz101_1
         try clear hfz101_2
         try clear hfz107_0
         try clear hfz107_1
         try clear hfz107_2
         try clear hfz107_3
         try clear hfz112_0
         try clear hfz112_1
         try clear hfz112_2
         try clear hfz113_0
         try clear hfz113_1
         try clear hfz113_2
         try clear hfz113_3
         try clear hfz115_0
         try clear hfz115_1
         try clear hfz115_2
         try clear hfz120_0
         try clear hfz120_1
         try clear hfz120_2
         try clear hfz123_0
         try clear hfz123_1
         try clear hfz123_2
         try clear hfz123_3
         try clear hfz127_0
         try clear hfz127_1
         try clear hfz127_2
         try clear hfz12_0
         try clear hfz12_1
         try clear hfz12_2
         try clear hfz15_0
         try clear hfz15_1
         try clear hfz15_2
         try clear hfz15_3
         try clear hfz19_0
         try clear hfz19_1
         try clear hfz19_2
         try clear hfz24_0
         try clear hfz24_1
         try clear hfz24_2
         try clear hfz30_0
         try clear hfz30_1
         try clear hfz30_2
         try clear hfz30_3
         try clear hfz35_0
         try clear hfz35_1
         try clear hfz35_2
         try clear hfz36_0
         try clear hfz36_1
         try clear hfz36_2
         try clear hfz36_3
         try clear hfz38_0
         try clear hfz38_1
         try clear hfz38_2
         try clear hfz40_0
         try clear hfz40_1
         try clear hfz40_2
         try clear hfz43_0
         try clear hfz43_1
         try clear hfz43_2
         try clear hfz43_3
         try clear hfz48_0
         try clear hfz48_1
         try clear hfz48_2
         try clear hfz49_0
         try clear hfz49_1
         try clear hfz49_2
         try clear hfz49_3
         try clear hfz52_0
         try clear hfz52_1
         try clear hfz52_2
         try clear hfz57_0
         try clear hfz57_1
         try clear hfz57_2
         try clear hfz57_3
         try clear hfz62_0
         try clear hfz62_1
         try clear hfz62_2
         try clear hfz63_0
         try clear hfz63_1
         try clear hfz63_2
         try clear hfz63_3
         try clear hfz65_0
         try clear hfz65_1
         try clear hfz65_2
         try clear hfz70_0
         try clear hfz70_1
         try clear hfz70_2
         try clear hfz73_0
         try clear hfz73_1
         try clear hfz73_2
         try clear hfz73_3
         try clear hfz77_0
         try clear hfz77_1
         try clear hfz77_2
         try clear hfz82_0
         try clear hfz82_1
         try clear hfz82_2
         try clear hfz88_0
         try clear hfz88_1
         try clear hfz88_2
         try clear hfz90_0
         try clear hfz90_1
         try clear hfz90_2
         try clear hfz93_0
         try clear hfz93_1
         try clear hfz93_2
         try clear hfz97_0
         try clear hfz97_1
         try clear hfz97_2
         try clear p2
         try clear p6
         try clear p64
         obtain ⟨kq, x60_103, rfl, HA, HJ103, BK356, BK357, BK358, BK361, HB⟩ := hcut
         cases kq with
         | zero => exact absurd HA.out (by simp [impl_Changed.j2])
         | succ kj103 =>
          have H := HA.out
          clear HA
          simp only [impl_Changed.j2] at H
          by_cases c128 : x60_103 = true
          ·subst c128
           replace H : (some (0, 0, (⟨#[]⟩ : ByteArray), false)) = some (r1, r2, r3, r4) := by rw [if_pos rfl] at H; exact H
           simp only [Option.some.injEq, Prod.mk.injEq] at H
           obtain ⟨rfl, rfl, rfl, rfl⟩ := H
           have hnb129 := NB358_356.out
           have hnc129 := NB356_358.out
           have hnb130 := NB358_357.out
           have hnc130 := NB357_358.out
           have hnb131 := NB358_361.out
           have hnc131 := NB361_358.out
           obtain ⟨hcz132_0, hcz132_1, hcz132_2, hfz132_0, hfz132_1, hfz132_2⟩ := bk3 BK358.out
           go_wp2
           refine bodyPost_ret (results_ct rfl _ _ gb358 27 #[.int .i64 0, .int .i64 0, .string (⟨#[]⟩ : ByteArray)] (0, 0) _ rfl (by (with_reducible repeat (first | refine blk_drewN ?_ _ | refine blk_drew ?_ | refine blk_alloc ?_ _)); refine blk_put (cs := #[.int .i64 0, .int .i64 0, .string (⟨#[]⟩ : ByteArray)]) ?_ 2 _ rfl; (with_reducible repeat (first | refine blk_drewN ?_ _ | refine blk_drew ?_ | refine blk_alloc ?_ _)); refine blk_put (cs := #[.int .i64 0, .int .i64 0, .string (⟨#[]⟩ : ByteArray)]) ?_ 1 _ rfl; (with_reducible repeat (first | refine blk_drewN ?_ _ | refine blk_drew ?_ | refine blk_alloc ?_ _)); refine blk_put (cs := #[.int .i64 0, .int .i64 0, .string (⟨#[]⟩ : ByteArray)]) ?_ 0 _ rfl; exact pkK BK358.out) Try.underlying27 rfl (by kernel_rfl)) rfl ?_
           exact ⟨rfe, pkW HB.out⟩
          ·replace c128 := Bool.eq_false_iff.mpr c128
           subst c128
           replace H : ((impl_MsgOk.f kj103 2 0 (a0_2 ++ a1_3)).bind fun t364 => (if t364 = true then (some (2, 0, (a0_2 ++ a1_3), true)) else (some (0, 0, (⟨#[]⟩ : ByteArray), false)))) = some (r1, r2, r3, r4) := by rw [if_neg (show ¬ (false = true) by decide)] at H; exact H
           replace H := Option.bind_eq_some_iff.mp H
           obtain ⟨t364, A1330, H⟩ := H
           replace H : (if t364 = true then (some (2, 0, (a0_2 ++ a1_3), true)) else (some (0, 0, (⟨#[]⟩ : ByteArray), false))) = some (r1, r2, r3, r4) := H
           have A133 := am A1330
           clear A1330
           by_cases c134 : t364 = true
           ·subst c134
            replace H : (some (2, 0, (a0_2 ++ a1_3), true)) = some (r1, r2, r3, r4) := by rw [if_pos rfl] at H; exact H
            simp only [Option.some.injEq, Prod.mk.injEq] at H
            obtain ⟨rfl, rfl, rfl, rfl⟩ := H
            have hnb135 := NB361_356.out
            have hnc135 := NB356_361.out
            have hnb136 := NB361_357.out
            have hnc136 := NB357_361.out
            have hnb137 := NB361_358.out
            have hnc137 := NB358_361.out
            obtain ⟨hcz138_0, hcz138_1, hcz138_2, hfz138_0, hfz138_1, hfz138_2⟩ := bk3 BK361.out
            go_wp2_with (first | ((with_reducible refine gate_callee (f := 15) rfl ?_); refine goesL_ (some 71) rfl rfl Try.func15 (by kernel_rfl) rfl #[.agg #[.int .i64 2, .int .i64 0, .string (a0_2 ++ a1_3)]] rfl mpx ?_; (with_reducible refine (impl_MsgOk.calls kj103 2 0 (a0_2 ++ a1_3) true _ A133.out).mono ?_); rintro e w139 ⟨rfl, hb⟩; refine ⟨_, rfl, ?_⟩; replace BK356 := am (blk_below (pkK BK356.out) hb); replace BK357 := am (blk_below (pkK BK357.out) hb); replace BK358 := am (blk_below (pkK BK358.out) hb); replace BK361 := am (blk_below (pkK BK361.out) hb); replace HB := am (below_step (pkW HB.out) hb); (try clear hb); obtain ⟨hcz140_0, hcz140_1, hcz140_2, hfz140_0, hfz140_1, hfz140_2⟩ := bk3 BK361.out; have hnb141 := NB358_356.out; have hnc141 := NB356_358.out; have hnb142 := NB358_357.out; have hnc142 := NB357_358.out; obtain ⟨hcz143_0, hcz143_1, hcz143_2, hfz143_0, hfz143_1, hfz143_2⟩ := bk3 BK358.out))
            refine bodyPost_ret (results_ct rfl _ _ gb358 27 #[.int .i64 2, .int .i64 0, .string (a0_2 ++ a1_3)] (0, 0) _ rfl (by (with_reducible repeat (first | refine blk_drewN ?_ _ | refine blk_drew ?_ | refine blk_alloc ?_ _)); refine blk_put (cs := #[.int .i64 2, .int .i64 0, .string (⟨#[]⟩ : ByteArray)]) ?_ 2 _ rfl; (with_reducible repeat (first | refine blk_drewN ?_ _ | refine blk_drew ?_ | refine blk_alloc ?_ _)); refine blk_put (cs := #[.int .i64 2, .int .i64 0, .string (⟨#[]⟩ : ByteArray)]) ?_ 1 _ rfl; (with_reducible repeat (first | refine blk_drewN ?_ _ | refine blk_drew ?_ | refine blk_alloc ?_ _)); refine blk_put (cs := #[.int .i64 0, .int .i64 0, .string (⟨#[]⟩ : ByteArray)]) ?_ 0 _ rfl; exact pkK BK358.out) Try.underlying27 rfl (by kernel_rfl)) rfl ?_
            exact ⟨rfe, pkW HB.out⟩
           ·replace c134 := Bool.eq_false_iff.mpr c134
            subst c134
            replace H : (some (0, 0, (⟨#[]⟩ : ByteArray), false)) = some (r1, r2, r3, r4) := by rw [if_neg (show ¬ (false = true) by decide)] at H; exact H
            simp only [Option.some.injEq, Prod.mk.injEq] at H
            obtain ⟨rfl, rfl, rfl, rfl⟩ := H
            have hnb144 := NB361_356.out
            have hnc144 := NB356_361.out
            have hnb145 := NB361_357.out
            have hnc145 := NB357_361.out
            have hnb146 := NB361_358.out
            have hnc146 := NB358_361.out
            obtain ⟨hcz147_0, hcz147_1, hcz147_2, hfz147_0, hfz147_1, hfz147_2⟩ := bk3 BK361.out
            go_wp2_with (first | ((with_reducible refine gate_callee (f := 15) rfl ?_); refine goesL_ (some 71) rfl rfl Try.func15 (by kernel_rfl) rfl #[.agg #[.int .i64 2, .int .i64 0, .string (a0_2 ++ a1_3)]] rfl mpx ?_; (with_reducible refine (impl_MsgOk.calls kj103 2 0 (a0_2 ++ a1_3) false _ A133.out).mono ?_); rintro e w148 ⟨rfl, hb⟩; refine ⟨_, rfl, ?_⟩; replace BK356 := am (blk_below (pkK BK356.out) hb); replace BK357 := am (blk_below (pkK BK357.out) hb); replace BK358 := am (blk_below (pkK BK358.out) hb); replace BK361 := am (blk_below (pkK BK361.out) hb); replace HB := am (below_step (pkW HB.out) hb); (try clear hb); have hnb149 := NB358_356.out; have hnc149 := NB356_358.out; have hnb150 := NB358_357.out; have hnc150 := NB357_358.out; obtain ⟨hcz151_0, hcz151_1, hcz151_2, hfz151_0, hfz151_1, hfz151_2⟩ := bk3 BK358.out))
            refine bodyPost_ret (results_ct rfl _ _ gb358 27 #[.int .i64 0, .int .i64 0, .string (⟨#[]⟩ : ByteArray)] (0, 0) _ rfl (by (with_reducible repeat (first | refine blk_drewN ?_ _ | refine blk_drew ?_ | refine blk_alloc ?_ _)); refine blk_put (cs := #[.int .i64 0, .int .i64 0, .string (⟨#[]⟩ : ByteArray)]) ?_ 2 _ rfl; (with_reducible repeat (first | refine blk_drewN ?_ _ | refine blk_drew ?_ | refine blk_alloc ?_ _)); refine blk_put (cs := #[.int .i64 0, .int .i64 0, .string (⟨#[]⟩ : ByteArray)]) ?_ 1 _ rfl; (with_reducible repeat (first | refine blk_drewN ?_ _ | refine blk_drew ?_ | refine blk_alloc ?_ _)); refine blk_put (cs := #[.int .i64 0, .int .i64 0, .string (⟨#[]⟩ : ByteArray)]) ?_ 0 _ rfl; exact pkK BK358.out) Try.underlying27 rfl (by kernel_rfl)) rfl ?_
            exact ⟨rfe, pkW HB.out⟩
       ·rw [if_neg c103] at H
        exact absurd H (by simp)
      ·rw [if_neg c102] at H
       have c102b0 : (a1_0 == 3) = false := beq_eq_false_iff_ne.mpr c102
       have c102b1 : (a1_0 != 3) = true := bne_iff_ne.mpr c102
       by_cases c152 : a1_0 = 4
       ·rw [if_pos c152] at H
        have c152b0 : (a1_0 == 4) = true := beq_iff_eq.mpr c152
        have c152b1 : (a1_0 != 4) = false := bne_eq_false_iff_eq.mpr c152
        clear c152
        replace H := Option.bind_eq_some_iff.mp H
        obtain ⟨t365, A1530, H⟩ := H
        replace H : (if t365 = true then ((impl_MsgOk.f kj2 a1_1 a1_2 a1_3).bind fun t366 => (if t366 = true then (some (a1_1, a1_2, a1_3, true)) else (some (0, 0, (⟨#[]⟩ : ByteArray), false)))) else ((impl_MsgOk.f kj2 a0_0 a0_1 a0_2).bind fun t367 => (if t367 = true then (some (a0_0, a0_1, a0_2, true)) else (some (0, 0, (⟨#[]⟩ : ByteArray), false))))) = some (r1, r2, r3, r4) := H
        have A153 := am A1530
        clear A1530
        by_cases c154 : t365 = true
        ·subst c154
         replace H : ((impl_MsgOk.f kj2 a1_1 a1_2 a1_3).bind fun t366 => (if t366 = true then (some (a1_1, a1_2, a1_3, true)) else (some (0, 0, (⟨#[]⟩ : ByteArray), false)))) = some (r1, r2, r3, r4) := by rw [if_pos rfl] at H; exact H
         replace H := Option.bind_eq_some_iff.mp H
         obtain ⟨t366, A1550, H⟩ := H
         replace H : (if t366 = true then (some (a1_1, a1_2, a1_3, true)) else (some (0, 0, (⟨#[]⟩ : ByteArray), false))) = some (r1, r2, r3, r4) := H
         have A155 := am A1550
         clear A1550
         by_cases c156 : t366 = true
         ·subst c156
          replace H : (some (a1_1, a1_2, a1_3, true)) = some (r1, r2, r3, r4) := by rw [if_pos rfl] at H; exact H
          simp only [Option.some.injEq, Prod.mk.injEq] at H
          obtain ⟨rfl, rfl, rfl, rfl⟩ := H
          have hnb157 := NB357_356.out
          have hnc157 := NB356_357.out
          have hnb158 := NB357_358.out
          have hnc158 := NB358_357.out
          obtain ⟨hcz159_0, hcz159_1, hcz159_2, hcz159_3, hfz159_0, hfz159_1, hfz159_2, hfz159_3⟩ := bk4 BK357.out
          go_wp2_with (first | ((with_reducible refine gate_dst (N := 6) rfl ?_); refine box_event ?hg (N := 6) ?hd (cs := #[.int .i64 0, .int .i64 0, .string (⟨#[]⟩ : ByteArray)]) (t := 27) ?hr ?_; (case hd => rfl); (case hg => rfl); (case hr => first | (go_simp; done) | (go_simp; rfl)); intro gb361 hg w160 hbox hb; have BK361 := am (hbox); have GW361 := am ((by rw [hg]; exact (below_size (pkW HB.out)) : w.heap.size ≤ gb361)); have GE361 := am ((by rw [hg]; exact (below_size (pkW HB.out)) : w.heap.size ≤ gb361)); replace HB := am (below_step (pkW HB.out) hb); have NB356_361 := am ((by rw [hg]; exact Nat.ne_of_lt (blk_lt (g := gb356) (o := .cells #[.int .i64 a0_0, .int .i64 a0_1, .string a0_2] 27 (0, 0)) (pkK BK356.out)) : gb356 ≠ gb361)); have NB361_356 := am ((by rw [hg]; exact Nat.ne_of_gt (blk_lt (g := gb356) (o := .cells #[.int .i64 a0_0, .int .i64 a0_1, .string a0_2] 27 (0, 0)) (pkK BK356.out)) : gb361 ≠ gb356)); replace BK356 := am (blk_below (pkK BK356.out) hb); have NB357_361 := am ((by rw [hg]; exact Nat.ne_of_lt (blk_lt (g := gb357) (o := .cells #[.int .i64 a1_0, .int .i64 a1_1, .int .i64 a1_2, .string a1_3] 45 (0, 0)) (pkK BK357.out)) : gb357 ≠ gb361)); have NB361_357 := am ((by rw [hg]; exact Nat.ne_of_gt (blk_lt (g := gb357) (o := .cells #[.int .i64 a1_0, .int .i64 a1_1, .int .i64 a1_2, .string a1_3] 45 (0, 0)) (pkK BK357.out)) : gb361 ≠ gb357)); replace BK357 := am (blk_below (pkK BK357.out) hb); have NB358_361 := am ((by rw [hg]; exact Nat.ne_of_lt (blk_lt (g := gb358) (o := .cells #[.int .i64 0, .int .i64 0, .string (⟨#[]⟩ : ByteArray)] 27 (0, 0)) (pkK BK358.out)) : gb358 ≠ gb361)); have NB361_358 := am ((by rw [hg]; exact Nat.ne_of_gt (blk_lt (g := gb358) (o := .cells #[.int .i64 0, .int .i64 0, .string (⟨#[]⟩ : ByteArray)] 27 (0, 0)) (pkK BK358.out)) : gb361 ≠ gb358)); replace BK358 := am (blk_below (pkK BK358.out) hb); clear hb hbox hg; have hnb161 := NB361_356.out; have hnc161 := NB356_361.out; have hnb162 := NB361_357.out; have hnc162 := NB357_361.out; have hnb163 := NB361_358.out; have hnc163 := NB358_361.out; obtain ⟨hcz164_0, hcz164_1, hcz164_2, hfz164_0, hfz164_1, hfz164_2⟩ := bk3 BK361.out; obtain ⟨hcz165_0, hcz165_1, hcz165_2, hcz165_3, hfz165_0, hfz165_1, hfz165_2, hfz165_3⟩ := bk4 BK357.out; have hnb166 := NB356_358.out; have hnc166 := NB358_356.out; obtain ⟨hcz167_0, hcz167_1, hcz167_2, hfz167_0, hfz167_1, hfz167_2⟩ := bk3 BK356.out) | ((with_reducible refine gate_callee (f := 19) rfl ?_); refine goesL_ (some 67) rfl rfl Try.func19 (by kernel_rfl) rfl #[.agg #[.int .i64 a0_0, .int .i64 a0_1, .string a0_2], .agg #[.int .i64 a1_1, .int .i64 a1_2, .string a1_3]] rfl mpx ?_; (with_reducible refine (impl_MsgLess.calls kj2 a0_0 a0_1 a0_2 a1_1 a1_2 a1_3 true _ A153.out).mono ?_); rintro e w168 ⟨rfl, hb⟩; refine ⟨_, rfl, ?_⟩; replace BK356 := am (blk_below (g := gb356) (o := .cells #[.int .i64 a0_0, .int .i64 a0_1, .string a0_2] 27 (0, 0)) (by (with_reducible repeat (first | refine blk_drewN ?_ _ | refine blk_drew ?_ | refine blk_alloc ?_ _)); refine blk_far ?_ NB356_361.out _; (with_reducible repeat (first | refine blk_drewN ?_ _ | refine blk_drew ?_ | refine blk_alloc ?_ _)); refine blk_far ?_ NB356_361.out _; (with_reducible repeat (first | refine blk_drewN ?_ _ | refine blk_drew ?_ | refine blk_alloc ?_ _)); refine blk_far ?_ NB356_361.out _; exact pkK BK356.out) hb); replace BK357 := am (blk_below (g := gb357) (o := .cells #[.int .i64 a1_0, .int .i64 a1_1, .int .i64 a1_2, .string a1_3] 45 (0, 0)) (by (with_reducible repeat (first | refine blk_drewN ?_ _ | refine blk_drew ?_ | refine blk_alloc ?_ _)); refine blk_far ?_ NB357_361.out _; (with_reducible repeat (first | refine blk_drewN ?_ _ | refine blk_drew ?_ | refine blk_alloc ?_ _)); refine blk_far ?_ NB357_361.out _; (with_reducible repeat (first | refine blk_drewN ?_ _ | refine blk_drew ?_ | refine blk_alloc ?_ _)); refine blk_far ?_ NB357_361.out _; exact pkK BK357.out) hb); replace BK358 := am (blk_below (g := gb358) (o := .cells #[.int .i64 0, .int .i64 0, .string (⟨#[]⟩ : ByteArray)] 27 (0, 0)) (by (with_reducible repeat (first | refine blk_drewN ?_ _ | refine blk_drew ?_ | refine blk_alloc ?_ _)); refine blk_far ?_ NB358_361.out _; (with_reducible repeat (first | refine blk_drewN ?_ _ | refine blk_drew ?_ | refine blk_alloc ?_ _)); refine blk_far ?_ NB358_361.out _; (with_reducible repeat (first | refine blk_drewN ?_ _ | refine blk_drew ?_ | refine blk_alloc ?_ _)); refine blk_far ?_ NB358_361.out _; exact pkK BK358.out) hb); replace BK361 := am (blk_below (g := gb361) (o := .cells #[.int .i64 a1_1, .int .i64 a1_2, .string a1_3] 27 (0, 0)) (by (with_reducible repeat (first | refine blk_drewN ?_ _ | refine blk_drew ?_ | refine blk_alloc ?_ _)); refine blk_put (cs := #[.int .i64 a1_1, .int .i64 a1_2, .string (⟨#[]⟩ : ByteArray)]) ?_ 2 _ rfl; (with_reducible repeat (first | refine blk_drewN ?_ _ | refine blk_drew ?_ | refine blk_alloc ?_ _)); refine blk_put (cs := #[.int .i64 a1_1, .int .i64 0, .string (⟨#[]⟩ : ByteArray)]) ?_ 1 _ rfl; (with_reducible repeat (first | refine blk_drewN ?_ _ | refine blk_drew ?_ | refine blk_alloc ?_ _)); refine blk_put (cs := #[.int .i64 0, .int .i64 0, .string (⟨#[]⟩ : ByteArray)]) ?_ 0 _ rfl; exact pkK BK361.out) hb); replace HB := am (below_step (pkW HB.out) hb); (try clear hb); obtain ⟨hcz169_0, hcz169_1, hcz169_2, hfz169_0, hfz169_1, hfz169_2⟩ := bk3 BK361.out) | ((with_reducible refine gate_callee (f := 15) rfl ?_); refine goesL_ (some 71) rfl rfl Try.func15 (by kernel_rfl) rfl #[.agg #[.int .i64 a1_1, .int .i64 a1_2, .string a1_3]] rfl mpx ?_; (with_reducible refine (impl_MsgOk.calls kj2 a1_1 a1_2 a1_3 true _ A155.out).mono ?_); rintro e w170 ⟨rfl, hb⟩; refine ⟨_, rfl, ?_⟩; replace BK356 := am (blk_below (pkK BK356.out) hb); replace BK357 := am (blk_below (pkK BK357.out) hb); replace BK358 := am (blk_below (pkK BK358.out) hb); replace BK361 := am (blk_below (pkK BK361.out) hb); replace HB := am (below_step (pkW HB.out) hb); (try clear hb); obtain ⟨hcz171_0, hcz171_1, hcz171_2, hfz171_0, hfz171_1, hfz171_2⟩ := bk3 BK361.out; obtain ⟨hcz172_0, hcz172_1, hcz172_2, hfz172_0, hfz172_1, hfz172_2⟩ := bk3 BK358.out))
          refine bodyPost_ret (results_ct rfl _ _ gb358 27 #[.int .i64 a1_1, .int .i64 a1_2, .string a1_3] (0, 0) _ rfl (by (with_reducible repeat (first | refine blk_drewN ?_ _ | refine blk_drew ?_ | refine blk_alloc ?_ _)); refine blk_put (cs := #[.int .i64 a1_1, .int .i64 a1_2, .string (⟨#[]⟩ : ByteArray)]) ?_ 2 _ rfl; (with_reducible repeat (first | refine blk_drewN ?_ _ | refine blk_drew ?_ | refine blk_alloc ?_ _)); refine blk_put (cs := #[.int .i64 a1_1, .int .i64 0, .string (⟨#[]⟩ : ByteArray)]) ?_ 1 _ rfl; (with_reducible repeat (first | refine blk_drewN ?_ _ | refine blk_drew ?_ | refine blk_alloc ?_ _)); refine blk_put (cs := #[.int .i64 0, .int .i64 0, .string (⟨#[]⟩ : ByteArray)]) ?_ 0 _ rfl; exact pkK BK358.out) Try.underlying27 rfl (by kernel_rfl)) rfl ?_
          exact ⟨rfe, pkW HB.out⟩
         ·replace c156 := Bool.eq_false_iff.mpr c156
          subst c156
          replace H : (some (0, 0, (⟨#[]⟩ : ByteArray), false)) = some (r1, r2, r3, r4) := by rw [if_neg (show ¬ (false = true) by decide)] at H; exact H
          simp only [Option.some.injEq, Prod.mk.injEq] at H
          obtain ⟨rfl, rfl, rfl, rfl⟩ := H
          have hnb173 := NB357_356.out
          have hnc173 := NB356_357.out
          have hnb174 := NB357_358.out
          have hnc174 := NB358_357.out
          obtain ⟨hcz175_0, hcz175_1, hcz175_2, hcz175_3, hfz175_0, hfz175_1, hfz175_2, hfz175_3⟩ := bk4 BK357.out
          go_wp2_with (first | ((with_reducible refine gate_dst (N := 6) rfl ?_); refine box_event ?hg (N := 6) ?hd (cs := #[.int .i64 0, .int .i64 0, .string (⟨#[]⟩ : ByteArray)]) (t := 27) ?hr ?_; (case hd => rfl); (case hg => rfl); (case hr => first | (go_simp; done) | (go_simp; rfl)); intro gb361 hg w176 hbox hb; have BK361 := am (hbox); have GW361 := am ((by rw [hg]; exact (below_size (pkW HB.out)) : w.heap.size ≤ gb361)); have GE361 := am ((by rw [hg]; exact (below_size (pkW HB.out)) : w.heap.size ≤ gb361)); replace HB := am (below_step (pkW HB.out) hb); have NB356_361 := am ((by rw [hg]; exact Nat.ne_of_lt (blk_lt (g := gb356) (o := .cells #[.int .i64 a0_0, .int .i64 a0_1, .string a0_2] 27 (0, 0)) (pkK BK356.out)) : gb356 ≠ gb361)); have NB361_356 := am ((by rw [hg]; exact Nat.ne_of_gt (blk_lt (g := gb356) (o := .cells #[.int .i64 a0_0, .int .i64 a0_1, .string a0_2] 27 (0, 0)) (pkK BK356.out)) : gb361 ≠ gb356)); replace BK356 := am (blk_below (pkK BK356.out) hb); have NB357_361 := am ((by rw [hg]; exact Nat.ne_of_lt (blk_lt (g := gb357) (o := .cells #[.int .i64 a1_0, .int .i64 a1_1, .int .i64 a1_2, .string a1_3] 45 (0, 0)) (pkK BK357.out)) : gb357 ≠ gb361)); have NB361_357 := am ((by rw [hg]; exact Nat.ne_of_gt (blk_lt (g := gb357) (o := .cells #[.int .i64 a1_0, .int .i64 a1_1, .int .i64 a1_2, .string a1_3] 45 (0, 0)) (pkK BK357.out)) : gb361 ≠ gb357)); replace BK357 := am (blk_below (pkK BK357.out) hb); have NB358_361 := am ((by rw [hg]; exact Nat.ne_of_lt (blk_lt (g := gb358) (o := .cells #[.int .i64 0, .int .i64 0, .string (⟨#[]⟩ : ByteArray)] 27 (0, 0)) (pkK BK358.out)) : gb358 ≠ gb361)); have NB361_358 := am ((by rw [hg]; exact Nat.ne_of_gt (blk_lt (g := gb358) (o := .cells #[.int .i64 0, .int .i64 0, .string (⟨#[]⟩ : ByteArray)] 27 (0, 0)) (pkK BK358.out)) : gb361 ≠ gb358)); replace BK358 := am (blk_below (pkK BK358.out) hb); clear hb hbox hg; have hnb177 := NB361_356.out; have hnc177 := NB356_361.out; have hnb178 := NB361_357.out; have hnc178 := NB357_361.out; have hnb179 := NB361_358.out; have hnc179 := NB358_361.out; obtain ⟨hcz180_0, hcz180_1, hcz180_2, hfz180_0, hfz180_1, hfz180_2⟩ := bk3 BK361.out; obtain ⟨hcz181_0, hcz181_1, hcz181_2, hcz181_3, hfz181_0, hfz181_1, hfz181_2, hfz181_3⟩ := bk4 BK357.out; have hnb182 := NB356_358.out; have hnc182 := NB358_356.out; obtain ⟨hcz183_0, hcz183_1, hcz183_2, hfz183_0, hfz183_1, hfz183_2⟩ := bk3 BK356.out) | ((with_reducible refine gate_callee (f := 19) rfl ?_); refine goesL_ (some 67) rfl rfl Try.func19 (by kernel_rfl) rfl #[.agg #[.int .i64 a0_0, .int .i64 a0_1, .string a0_2], .agg #[.int .i64 a1_1, .int .i64 a1_2, .string a1_3]] rfl mpx ?_; (with_reducible refine (impl_MsgLess.calls kj2 a0_0 a0_1 a0_2 a1_1 a1_2 a1_3 true _ A153.out).mono ?_); rintro e w184 ⟨rfl, hb⟩; refine ⟨_, rfl, ?_⟩; replace BK356 := am (blk_below (g := gb356) (o := .cells #[.int .i64 a0_0, .int .i64 a0_1, .string a0_2] 27 (0, 0)) (by (with_reducible repeat (first | refine blk_drewN ?_ _ | refine blk_drew ?_ | refine blk_alloc ?_ _)); refine blk_far ?_ NB356_361.out _; (with_reducible repeat (first | refine blk_drewN ?_ _ | refine blk_drew ?_ | refine blk_alloc ?_ _)); refine blk_far ?_ NB356_361.out _; (with_reducible repeat (first | refine blk_drewN ?_ _ | refine blk_drew ?_ | refine blk_alloc ?_ _)); refine blk_far ?_ NB356_361.out _; exact pkK BK356.out) hb); replace BK357 := am (blk_below (g := gb357) (o := .cells #[.int .i64 a1_0, .int .i64 a1_1, .int .i64 a1_2, .string a1_3] 45 (0, 0)) (by (with_reducible repeat (first | refine blk_drewN ?_ _ | refine blk_drew ?_ | refine blk_alloc ?_ _)); refine blk_far ?_ NB357_361.out _; (with_reducible repeat (first | refine blk_drewN ?_ _ | refine blk_drew ?_ | refine blk_alloc ?_ _)); refine blk_far ?_ NB357_361.out _; (with_reducible repeat (first | refine blk_drewN ?_ _ | refine blk_drew ?_ | refine blk_alloc ?_ _)); refine blk_far ?_ NB357_361.out _; exact pkK BK357.out) hb); replace BK358 := am (blk_below (g := gb358) (o := .cells #[.int .i64 0, .int .i64 0, .string (⟨#[]⟩ : ByteArray)] 27 (0, 0)) (by (with_reducible repeat (first | refine blk_drewN ?_ _ | refine blk_drew ?_ | refine blk_alloc ?_ _)); refine blk_far ?_ NB358_361.out _; (with_reducible repeat (first | refine blk_drewN ?_ _ | refine blk_drew ?_ | refine blk_alloc ?_ _)); refine blk_far ?_ NB358_361.out _; (with_reducible repeat (first | refine blk_drewN ?_ _ | refine blk_drew ?_ | refine blk_alloc ?_ _)); refine blk_far ?_ NB358_361.out _; exact pkK BK358.out) hb); replace BK361 := am (blk_below (g := gb361) (o := .cells #[.int .i64 a1_1, .int .i64 a1_2, .string a1_3] 27 (0, 0)) (by (with_reducible repeat (first | refine blk_drewN ?_ _ | refine blk_drew ?_ | refine blk_alloc ?_ _)); refine blk_put (cs := #[.int .i64 a1_1, .int .i64 a1_2, .string (⟨#[]⟩ : ByteArray)]) ?_ 2 _ rfl; (with_reducible repeat (first | refine blk_drewN ?_ _ | refine blk_drew ?_ | refine blk_alloc ?_ _)); refine blk_put (cs := #[.int .i64 a1_1, .int .i64 0, .string (⟨#[]⟩ : ByteArray)]) ?_ 1 _ rfl; (with_reducible repeat (first | refine blk_drewN ?_ _ | refine blk_drew ?_ | refine blk_alloc ?_ _)); refine blk_put (cs := #[.int .i64 0, .int .i64 0, .string (⟨#[]⟩ : ByteArray)]) ?_ 0 _ rfl; exact pkK BK361.out) hb); replace HB := am (below_step (pkW HB.out) hb); (try clear hb); obtain ⟨hcz185_0, hcz185_1, hcz185_2, hfz185_0, hfz185_1, hfz185_2⟩ := bk3 BK361.out) | ((with_reducible refine gate_callee (f := 15) rfl ?_); refine goesL_ (some 71) rfl rfl Try.func15 (by kernel_rfl) rfl #[.agg #[.int .i64 a1_1, .int .i64 a1_2, .string a1_3]] rfl mpx ?_; (with_reducible refine (impl_MsgOk.calls kj2 a1_1 a1_2 a1_3 false _ A155.out).mono ?_); rintro e w186 ⟨rfl, hb⟩; refine ⟨_, rfl, ?_⟩; replace BK356 := am (blk_below (pkK BK356.out) hb); replace BK357 := am (blk_below (pkK BK357.out) hb); replace BK358 := am (blk_below (pkK BK358.out) hb); replace BK361 := am (blk_below (pkK BK361.out) hb); replace HB := am (below_step (pkW HB.out) hb); (try clear hb); obtain ⟨hcz187_0, hcz187_1, hcz187_2, hfz187_0, hfz187_1, hfz187_2⟩ := bk3 BK358.out))
          refine bodyPost_ret (results_ct rfl _ _ gb358 27 #[.int .i64 0, .int .i64 0, .string (⟨#[]⟩ : ByteArray)] (0, 0) _ rfl (by (with_reducible repeat (first | refine blk_drewN ?_ _ | refine blk_drew ?_ | refine blk_alloc ?_ _)); refine blk_put (cs := #[.int .i64 0, .int .i64 0, .string (⟨#[]⟩ : ByteArray)]) ?_ 2 _ rfl; (with_reducible repeat (first | refine blk_drewN ?_ _ | refine blk_drew ?_ | refine blk_alloc ?_ _)); refine blk_put (cs := #[.int .i64 0, .int .i64 0, .string (⟨#[]⟩ : ByteArray)]) ?_ 1 _ rfl; (with_reducible repeat (first | refine blk_drewN ?_ _ | refine blk_drew ?_ | refine blk_alloc ?_ _)); refine blk_put (cs := #[.int .i64 0, .int .i64 0, .string (⟨#[]⟩ : ByteArray)]) ?_ 0 _ rfl; exact pkK BK358.out) Try.underlying27 rfl (by kernel_rfl)) rfl ?_
          exact ⟨rfe, pkW HB.out⟩
        ·replace c154 := Bool.eq_false_iff.mpr c154
         subst c154
         replace H : ((impl_MsgOk.f kj2 a0_0 a0_1 a0_2).bind fun t367 => (if t367 = true then (some (a0_0, a0_1, a0_2, true)) else (some (0, 0, (⟨#[]⟩ : ByteArray), false)))) = some (r1, r2, r3, r4) := by rw [if_neg (show ¬ (false = true) by decide)] at H; exact H
         replace H := Option.bind_eq_some_iff.mp H
         obtain ⟨t367, A1880, H⟩ := H
         replace H : (if t367 = true then (some (a0_0, a0_1, a0_2, true)) else (some (0, 0, (⟨#[]⟩ : ByteArray), false))) = some (r1, r2, r3, r4) := H
         have A188 := am A1880
         clear A1880
         by_cases c189 : t367 = true
         ·subst c189
          replace H : (some (a0_0, a0_1, a0_2, true)) = some (r1, r2, r3, r4) := by rw [if_pos rfl] at H; exact H
          simp only [Option.some.injEq, Prod.mk.injEq] at H
          obtain ⟨rfl, rfl, rfl, rfl⟩ := H
          have hnb190 := NB357_356.out
          have hnc190 := NB356_357.out
          have hnb191 := NB357_358.out
          have hnc191 := NB358_357.out
          obtain ⟨hcz192_0, hcz192_1, hcz192_2, hcz192_3, hfz192_0, hfz192_1, hfz192_2, hfz192_3⟩ := bk4 BK357.out
          go_wp2_with (first | ((with_reducible refine gate_dst (N := 6) rfl ?_); refine box_event ?hg (N := 6) ?hd (cs := #[.int .i64 0, .int .i64 0, .string (⟨#[]⟩ : ByteArray)]) (t := 27) ?hr ?_; (case hd => rfl); (case hg => rfl); (case hr => first | (go_simp; done) | (go_simp; rfl)); intro gb361 hg w193 hbox hb; have BK361 := am (hbox); have GW361 := am ((by rw [hg]; exact (below_size (pkW HB.out)) : w.heap.size ≤ gb361)); have GE361 := am ((by rw [hg]; exact (below_size (pkW HB.out)) : w.heap.size ≤ gb361)); replace HB := am (below_step (pkW HB.out) hb); have NB356_361 := am ((by rw [hg]; exact Nat.ne_of_lt (blk_lt (g := gb356) (o := .cells #[.int .i64 a0_0, .int .i64 a0_1, .string a0_2] 27 (0, 0)) (pkK BK356.out)) : gb356 ≠ gb361)); have NB361_356 := am ((by rw [hg]; exact Nat.ne_of_gt (blk_lt (g := gb356) (o := .cells #[.int .i64 a0_0, .int .i64 a0_1, .string a0_2] 27 (0, 0)) (pkK BK356.out)) : gb361 ≠ gb356)); replace BK356 := am (blk_below (pkK BK356.out) hb); have NB357_361 := am ((by rw [hg]; exact Nat.ne_of_lt (blk_lt (g := gb357) (o := .cells #[.int .i64 a1_0, .int .i64 a1_1, .int .i64 a1_2, .string a1_3] 45 (0, 0)) (pkK BK357.out)) : gb357 ≠ gb361)); have NB361_357 := am ((by rw [hg]; exact Nat.ne_of_gt (blk_lt (g := gb357) (o := .cells #[.int .i64 a1_0, .int .i64 a1_1, .int .i64 a1_2, .string a1_3] 45 (0, 0)) (pkK BK357.out)) : gb361 ≠ gb357)); replace BK357 := am (blk_below (pkK BK357.out) hb); have NB358_361 := am ((by rw [hg]; exact Nat.ne_of_lt (blk_lt (g := gb358) (o := .cells #[.int .i64 0, .int .i64 0, .string (⟨#[]⟩ : ByteArray)] 27 (0, 0)) (pkK BK358.out)) : gb358 ≠ gb361)); have NB361_358 := am ((by rw [hg]; exact Nat.ne_of_gt (blk_lt (g := gb358) (o := .cells #[.int .i64 0, .int .i64 0, .string (⟨#[]⟩ : ByteArray)] 27 (0, 0)) (pkK BK358.out)) : gb361 ≠ gb358)); replace BK358 := am (blk_below (pkK BK358.out) hb); clear hb hbox hg; have hnb194 := NB361_356.out; have hnc194 := NB356_361.out; have hnb195 := NB361_357.out; have hnc195 := NB357_361.out; have hnb196 := NB361_358.out; have hnc196 := NB358_361.out; obtain ⟨hcz197_0, hcz197_1, hcz197_2, hfz197_0, hfz197_1, hfz197_2⟩ := bk3 BK361.out; obtain ⟨hcz198_0, hcz198_1, hcz198_2, hcz198_3, hfz198_0, hfz198_1, hfz198_2, hfz198_3⟩ := bk4 BK357.out; have hnb199 := NB356_358.out; have hnc199 := NB358_356.out; obtain ⟨hcz200_0, hcz200_1, hcz200_2, hfz200_0, hfz200_1, hfz200_2⟩ := bk3 BK356.out) | ((with_reducible refine gate_callee (f := 19) rfl ?_); refine goesL_ (some 67) rfl rfl Try.func19 (by kernel_rfl) rfl #[.agg #[.int .i64 a0_0, .int .i64 a0_1, .string a0_2], .agg #[.int .i64 a1_1, .int .i64 a1_2, .string a1_3]] rfl mpx ?_; (with_reducible refine (impl_MsgLess.calls kj2 a0_0 a0_1 a0_2 a1_1 a1_2 a1_3 false _ A153.out).mono ?_); rintro e w201 ⟨rfl, hb⟩; refine ⟨_, rfl, ?_⟩; replace BK356 := am (blk_below (g := gb356) (o := .cells #[.int .i64 a0_0, .int .i64 a0_1, .string a0_2] 27 (0, 0)) (by (with_reducible repeat (first | refine blk_drewN ?_ _ | refine blk_drew ?_ | refine blk_alloc ?_ _)); refine blk_far ?_ NB356_361.out _; (with_reducible repeat (first | refine blk_drewN ?_ _ | refine blk_drew ?_ | refine blk_alloc ?_ _)); refine blk_far ?_ NB356_361.out _; (with_reducible repeat (first | refine blk_drewN ?_ _ | refine blk_drew ?_ | refine blk_alloc ?_ _)); refine blk_far ?_ NB356_361.out _; exact pkK BK356.out) hb); replace BK357 := am (blk_below (g := gb357) (o := .cells #[.int .i64 a1_0, .int .i64 a1_1, .int .i64 a1_2, .string a1_3] 45 (0, 0)) (by (with_reducible repeat (first | refine blk_drewN ?_ _ | refine blk_drew ?_ | refine blk_alloc ?_ _)); refine blk_far ?_ NB357_361.out _; (with_reducible repeat (first | refine blk_drewN ?_ _ | refine blk_drew ?_ | refine blk_alloc ?_ _)); refine blk_far ?_ NB357_361.out _; (with_reducible repeat (first | refine blk_drewN ?_ _ | refine blk_drew ?_ | refine blk_alloc ?_ _)); refine blk_far ?_ NB357_361.out _; exact pkK BK357.out) hb); replace BK358 := am (blk_below (g := gb358) (o := .cells #[.int .i64 0, .int .i64 0, .string (⟨#[]⟩ : ByteArray)] 27 (0, 0)) (by (with_reducible repeat (first | refine blk_drewN ?_ _ | refine blk_drew ?_ | refine blk_alloc ?_ _)); refine blk_far ?_ NB358_361.out _; (with_reducible repeat (first | refine blk_drewN ?_ _ | refine blk_drew ?_ | refine blk_alloc ?_ _)); refine blk_far ?_ NB358_361.out _; (with_reducible repeat (first | refine blk_drewN ?_ _ | refine blk_drew ?_ | refine blk_alloc ?_ _)); refine blk_far ?_ NB358_361.out _; exact pkK BK358.out) hb); replace BK361 := am (blk_below (g := gb361) (o := .cells #[.int .i64 a1_1, .int .i64 a1_2, .string a1_3] 27 (0, 0)) (by (with_reducible repeat (first | refine blk_drewN ?_ _ | refine blk_drew ?_ | refine blk_alloc ?_ _)); refine blk_put (cs := #[.int .i64 a1_1, .int .i64 a1_2, .string (⟨#[]⟩ : ByteArray)]) ?_ 2 _ rfl; (with_reducible repeat (first | refine blk_drewN ?_ _ | refine blk_drew ?_ | refine blk_alloc ?_ _)); refine blk_put (cs := #[.int .i64 a1_1, .int .i64 0, .string (⟨#[]⟩ : ByteArray)]) ?_ 1 _ rfl; (with_reducible repeat (first | refine blk_drewN ?_ _ | refine blk_drew ?_ | refine blk_alloc ?_ _)); refine blk_put (cs := #[.int .i64 0, .int .i64 0, .string (⟨#[]⟩ : ByteArray)]) ?_ 0 _ rfl; exact pkK BK361.out) hb); replace HB := am (below_step (pkW HB.out) hb); (try clear hb); obtain ⟨hcz202_0, hcz202_1, hcz202_2, hfz202_0, hfz202_1, hfz202_2⟩ := bk3 BK356.out; obtain ⟨hcz203_0, hcz203_1, hcz203_2, hfz203_0, hfz203_1, hfz203_2⟩ := bk3 BK361.out) | ((with_reducible refine gate_callee (f := 15) rfl ?_); refine goesL_ (some 71) rfl rfl Try.func15 (by kernel_rfl) rfl #[.agg #[.int .i64 a0_0, .int .i64 a0_1, .string a0_2]] rfl mpx ?_; (with_reducible refine (impl_MsgOk.calls kj2 a0_0 a0_1 a0_2 true _ A188.out).mono ?_); rintro e w204 ⟨rfl, hb⟩; refine ⟨_, rfl, ?_⟩; replace BK356 := am (blk_below (g := gb356) (o := .cells #[.int .i64 a0_0, .int .i64 a0_1, .string a0_2] 27 (0, 0)) (by (with_reducible repeat (first | refine blk_drewN ?_ _ | refine blk_drew ?_ | refine blk_alloc ?_ _)); refine blk_far ?_ NB356_361.out _; (with_reducible repeat (first | refine blk_drewN ?_ _ | refine blk_drew ?_ | refine blk_alloc ?_ _)); refine blk_far ?_ NB356_361.out _; (with_reducible repeat (first | refine blk_drewN ?_ _ | refine blk_drew ?_ | refine blk_alloc ?_ _)); refine blk_far ?_ NB356_361.out _; exact pkK BK356.out) hb); replace BK357 := am (blk_below (g := gb357) (o := .cells #[.int .i64 a1_0, .int .i64 a1_1, .int .i64 a1_2, .string a1_3] 45 (0, 0)) (by (with_reducible repeat (first | refine blk_drewN ?_ _ | refine blk_drew ?_ | refine blk_alloc ?_ _)); refine blk_far ?_ NB357_361.out _; (with_reducible repeat (first | refine blk_drewN ?_ _ | refine blk_drew ?_ | refine blk_alloc ?_ _)); refine blk_far ?_ NB357_361.out _; (with_reducible repeat (first | refine blk_drewN ?_ _ | refine blk_drew ?_ | refine blk_alloc ?_ _)); refine blk_far ?_ NB357_361.out _; exact pkK BK357.out) hb); replace BK358 := am (blk_below (g := gb358) (o := .cells #[.int .i64 0, .int .i64 0, .string (⟨#[]⟩ : ByteArray)] 27 (0, 0)) (by (with_reducible repeat (first | refine blk_drewN ?_ _ | refine blk_drew ?_ | refine blk_alloc ?_ _)); refine blk_far ?_ NB358_361.out _; (with_reducible repeat (first | refine blk_drewN ?_ _ | refine blk_drew ?_ | refine blk_alloc ?_ _)); refine blk_far ?_ NB358_361.out _; (with_reducible repeat (first | refine blk_drewN ?_ _ | refine blk_drew ?_ | refine blk_alloc ?_ _)); refine blk_far ?_ NB358_361.out _; exact pkK BK358.out) hb); replace BK361 := am (blk_below (g := gb361) (o := .cells #[.int .i64 a0_0, .int .i64 a0_1, .string a0_2] 27 (0, 0)) (by (with_reducible repeat (first | refine blk_drewN ?_ _ | refine blk_drew ?_ | refine blk_alloc ?_ _)); refine blk_put (cs := #[.int .i64 a0_0, .int .i64 a0_1, .string a1_3]) ?_ 2 _ rfl; (with_reducible repeat (first | refine blk_drewN ?_ _ | refine blk_drew ?_ | refine blk_alloc ?_ _)); refine blk_put (cs := #[.int .i64 a0_0, .int .i64 a1_2, .string a1_3]) ?_ 1 _ rfl; (with_reducible repeat (first | refine blk_drewN ?_ _ | refine blk_drew ?_ | refine blk_alloc ?_ _)); refine blk_put (cs := #[.int .i64 a1_1, .int .i64 a1_2, .string a1_3]) ?_ 0 _ rfl; exact pkK BK361.out) hb); replace HB := am (below_step (pkW HB.out) hb); (try clear hb); obtain ⟨hcz205_0, hcz205_1, hcz205_2, hfz205_0, hfz205_1, hfz205_2⟩ := bk3 BK361.out; obtain ⟨hcz206_0, hcz206_1, hcz206_2, hfz206_0, hfz206_1, hfz206_2⟩ := bk3 BK358.out))
          refine bodyPost_ret (results_ct rfl _ _ gb358 27 #[.int .i64 a0_0, .int .i64 a0_1, .string a0_2] (0, 0) _ rfl (by (with_reducible repeat (first | refine blk_drewN ?_ _ | refine blk_drew ?_ | refine blk_alloc ?_ _)); refine blk_put (cs := #[.int .i64 a0_0, .int .i64 a0_1, .string (⟨#[]⟩ : ByteArray)]) ?_ 2 _ rfl; (with_reducible repeat (first | refine blk_drewN ?_ _ | refine blk_drew ?_ | refine blk_alloc ?_ _)); refine blk_put (cs := #[.int .i64 a0_0, .int .i64 0, .string (⟨#[]⟩ : ByteArray)]) ?_ 1 _ rfl; (with_reducible repeat (first | refine blk_drewN ?_ _ | refine blk_drew ?_ | refine blk_alloc ?_ _)); refine blk_put (cs := #[.int .i64 0, .int .i64 0, .string (⟨#[]⟩ : ByteArray)]) ?_ 0 _ rfl; exact pkK BK358.out) Try.underlying27 rfl (by kernel_rfl)) rfl ?_
          exact ⟨rfe, pkW HB.out⟩
         ·replace c189 := Bool.eq_false_iff.mpr c189
          subst c189
          replace H : (some (0, 0, (⟨#[]⟩ : ByteArray), false)) = some (r1, r2, r3, r4) := by rw [if_neg (show ¬ (false = true) by decide)] at H; exact H
          simp only [Option.some.injEq, Prod.mk.injEq] at H
          obtain ⟨rfl, rfl, rfl, rfl⟩ := H
          have hnb207 := NB357_356.out
          have hnc207 := NB356_357.out
          have hnb208 := NB357_358.out
          have hnc208 := NB358_357.out
          obtain ⟨hcz209_0, hcz209_1, hcz209_2, hcz209_3, hfz209_0, hfz209_1, hfz209_2, hfz209_3⟩ := bk4 BK357.out
          go_wp2_with (first | ((with_reducible refine gate_dst (N := 6) rfl ?_); refine box_event ?hg (N := 6) ?hd (cs := #[.int .i64 0, .int .i64 0, .string (⟨#[]⟩ : ByteArray)]) (t := 27) ?hr ?_; (case hd => rfl); (case hg => rfl); (case hr => first | (go_simp; done) | (go_simp; rfl)); intro gb361 hg w210 hbox hb; have BK361 := am (hbox); have GW361 := am ((by rw [hg]; exact (below_size (pkW HB.out)) : w.heap.size ≤ gb361)); have GE361 := am ((by rw [hg]; exact (below_size (pkW HB.out)) : w.heap.size ≤ gb361)); replace HB := am (below_step (pkW HB.out) hb); have NB356_361 := am ((by rw [hg]; exact Nat.ne_of_lt (blk_lt (g := gb356) (o := .cells #[.int .i64 a0_0, .int .i64 a0_1, .string a0_2] 27 (0, 0)) (pkK BK356.out)) : gb356 ≠ gb361)); have NB361_356 := am ((by rw [hg]; exact Nat.ne_of_gt (blk_lt (g := gb356) (o := .cells #[.int .i64 a0_0, .int .i64 a0_1, .string a0_2] 27 (0, 0)) (pkK BK356.out)) : gb361 ≠ gb356)); replace BK356 := am (blk_below (pkK BK356.out) hb); have NB357_361 := am ((by rw [hg]; exact Nat.ne_of_lt (blk_lt (g := gb357) (o := .cells #[.int .i64 a1_0, .int .i64 a1_1, .int .i64 a1_2, .string a1_3] 45 (0, 0)) (pkK BK357.out)) : gb357 ≠ gb361)); have NB361_357 := am ((by rw [hg]; exact Nat.ne_of_gt (blk_lt (g := gb357) (o := .cells #[.int .i64 a1_0, .int .i64 a1_1, .int .i64 a1_2, .string a1_3] 45 (0, 0)) (pkK BK357.out)) : gb361 ≠ gb357)); replace BK357 := am (blk_below (pkK BK357.out) hb); have NB358_361 := am ((by rw [hg]; exact Nat.ne_of_lt (blk_lt (g := gb358) (o := .cells #[.int .i64 0, .int .i64 0, .string (⟨#[]⟩ : ByteArray)] 27 (0, 0)) (pkK BK358.out)) : gb358 ≠ gb361)); have NB361_358 := am ((by rw [hg]; exact Nat.ne_of_gt (blk_lt (g := gb358) (o := .cells #[.int .i64 0, .int .i64 0, .string (⟨#[]⟩ : ByteArray)] 27 (0, 0)) (pkK BK358.out)) : gb361 ≠ gb358)); replace BK358 := am (blk_below (pkK BK358.out) hb); clear hb hbox hg; have hnb211 := NB361_356.out; have hnc211 := NB356_361.out; have hnb212 := NB361_357.out; have hnc212 := NB357_361.out; have hnb213 := NB361_358.out; have hnc213 := NB358_361.out; obtain ⟨hcz214_0, hcz214_1, hcz214_2, hfz214_0, hfz214_1, hfz214_2⟩ := bk3 BK361.out; obtain ⟨hcz215_0, hcz215_1, hcz215_2, hcz215_3, hfz215_0, hfz215_1, hfz215_2, hfz215_3⟩ := bk4 BK357.out; have hnb216 := NB356_358.out; have hnc216 := NB358_356.out; obtain ⟨hcz217_0, hcz217_1, hcz217_2, hfz217_0, hfz217_1, hfz217_2⟩ := bk3 BK356.out) | ((with_reducible refine gate_callee (f := 19) rfl ?_); refine goesL_ (some 67) rfl rfl Try.func19 (by kernel_rfl) rfl #[.agg #[.int .i64 a0_0, .int .i64 a0_1, .string a0_2], .agg #[.int .i64 a1_1, .int .i64 a1_2, .string a1_3]] rfl mpx ?_; (with_reducible refine (impl_MsgLess.calls kj2 a0_0 a0_1 a0_2 a1_1 a1_2 a1_3 false _ A153.out).mono ?_); rintro e w218 ⟨rfl, hb⟩; refine ⟨_, rfl, ?_⟩; replace BK356 := am (blk_below (g := gb356) (o := .cells #[.int .i64 a0_0, .int .i64 a0_1, .string a0_2] 27 (0, 0)) (by (with_reducible repeat (first | refine blk_drewN ?_ _ | refine blk_drew ?_ | refine blk_alloc ?_ _)); refine blk_far ?_ NB356_361.out _; (with_reducible repeat (first | refine blk_drewN ?_ _ | refine blk_drew ?_ | refine blk_alloc ?_ _)); refine blk_far ?_ NB356_361.out _; (with_reducible repeat (first | refine blk_drewN ?_ _ | refine blk_drew ?_ | refine blk_alloc ?_ _)); refine blk_far ?_ NB356_361.out _; exact pkK BK356.out) hb); replace BK357 := am (blk_below (g := gb357) (o := .cells #[.int .i64 a1_0, .int .i64 a1_1, .int .i64 a1_2, .string a1_3] 45 (0, 0)) (by (with_reducible repeat (first | refine blk_drewN ?_ _ | refine blk_drew ?_ | refine blk_alloc ?_ _)); refine blk_far ?_ NB357_361.out _; (with_reducible repeat (first | refine blk_drewN ?_ _ | refine blk_drew ?_ | refine blk_alloc ?_ _)); refine blk_far ?_ NB357_361.out _; (with_reducible repeat (first | refine blk_drewN ?_ _ | refine blk_drew ?_ | refine blk_alloc ?_ _)); refine blk_far ?_ NB357_361.out _; exact pkK BK357.out) hb); replace BK358 := am (blk_below (g := gb358) (o := .cells #[.int .i64 0, .int .i64 0, .string (⟨#[]⟩ : ByteArray)] 27 (0, 0)) (by (with_reducible repeat (first | refine blk_drewN ?_ _ | refine blk_drew ?_ | refine blk_alloc ?_ _)); refine blk_far ?_ NB358_361.out _; (with_reducible repeat (first | refine blk_drewN ?_ _ | refine blk_drew ?_ | refine blk_alloc ?_ _)); refine blk_far ?_ NB358_361.out _; (with_reducible repeat (first | refine blk_drewN ?_ _ | refine blk_drew ?_ | refine blk_alloc ?_ _)); refine blk_far ?_ NB358_361.out _; exact pkK BK358.out) hb); replace BK361 := am (blk_below (g := gb361) (o := .cells #[.int .i64 a1_1, .int .i64 a1_2, .string a1_3] 27 (0, 0)) (by (with_reducible repeat (first | refine blk_drewN ?_ _ | refine blk_drew ?_ | refine blk_alloc ?_ _)); refine blk_put (cs := #[.int .i64 a1_1, .int .i64 a1_2, .string (⟨#[]⟩ : ByteArray)]) ?_ 2 _ rfl; (with_reducible repeat (first | refine blk_drewN ?_ _ | refine blk_drew ?_ | refine blk_alloc ?_ _)); refine blk_put (cs := #[.int .i64 a1_1, .int .i64 0, .string (⟨#[]⟩ : ByteArray)]) ?_ 1 _ rfl; (with_reducible repeat (first | refine blk_drewN ?_ _ | refine blk_drew ?_ | refine blk_alloc ?_ _)); refine blk_put (cs := #[.int .i64 0, .int .i64 0, .string (⟨#[]⟩ : ByteArray)]) ?_ 0 _ rfl; exact pkK BK361.out) hb); replace HB := am (below_step (pkW HB.out) hb); (try clear hb); obtain ⟨hcz219_0, hcz219_1, hcz219_2, hfz219_0, hfz219_1, hfz219_2⟩ := bk3 BK356.out; obtain ⟨hcz220_0, hcz220_1, hcz220_2, hfz220_0, hfz220_1, hfz220_2⟩ := bk3 BK361.out) | ((with_reducible refine gate_callee (f := 15) rfl ?_); refine goesL_ (some 71) rfl rfl Try.func15 (by kernel_rfl) rfl #[.agg #[.int .i64 a0_0, .int .i64 a0_1, .string a0_2]] rfl mpx ?_; (with_reducible refine (impl_MsgOk.calls kj2 a0_0 a0_1 a0_2 false _ A188.out).mono ?_); rintro e w221 ⟨rfl, hb⟩; refine ⟨_, rfl, ?_⟩; replace BK356 := am (blk_below (g := gb356) (o := .cells #[.int .i64 a0_0, .int .i64 a0_1, .string a0_2] 27 (0, 0)) (by (with_reducible repeat (first | refine blk_drewN ?_ _ | refine blk_drew ?_ | refine blk_alloc ?_ _)); refine blk_far ?_ NB356_361.out _; (with_reducible repeat (first | refine blk_drewN ?_ _ | refine blk_drew ?_ | refine blk_alloc ?_ _)); refine blk_far ?_ NB356_361.out _; (with_reducible repeat (first | refine blk_drewN ?_ _ | refine blk_drew ?_ | refine blk_alloc ?_ _)); refine blk_far ?_ NB356_361.out _; exact pkK BK356.out) hb); replace BK357 := am (blk_below (g := gb357) (o := .cells #[.int .i64 a1_0, .int .i64 a1_1, .int .i64 a1_2, .string a1_3] 45 (0, 0)) (by (with_reducible repeat (first | refine blk_drewN ?_ _ | refine blk_drew ?_ | refine blk_alloc ?_ _)); refine blk_far ?_ NB357_361.out _; (with_reducible repeat (first | refine blk_drewN ?_ _ | refine blk_drew ?_ | refine blk_alloc ?_ _)); refine blk_far ?_ NB357_361.out _; (with_reducible repeat (first | refine blk_drewN ?_ _ | refine blk_drew ?_ | refine blk_alloc ?_ _)); refine blk_far ?_ NB357_361.out _; exact pkK BK357.out) hb); replace BK358 := am (blk_below (g := gb358) (o := .cells #[.int .i64 0, .int .i64 0, .string (⟨#[]⟩ : ByteArray)] 27 (0, 0)) (by (with_reducible repeat (first | refine blk_drewN ?_ _ | refine blk_drew ?_ | refine blk_alloc ?_ _)); refine blk_far ?_ NB358_361.out _; (with_reducible repeat (first | refine blk_drewN ?_ _ | refine blk_drew ?_ | refine blk_alloc ?_ _)); refine blk_far ?_ NB358_361.out _; (with_reducible repeat (first | refine blk_drewN ?_ _ | refine blk_drew ?_ | refine blk_alloc ?_ _)); refine blk_far ?_ NB358_361.out _; exact pkK BK358.out) hb); replace BK361 := am (blk_below (g := gb361) (o := .cells #[.int .i64 a0_0, .int .i64 a0_1, .string a0_2] 27 (0, 0)) (by (with_reducible repeat (first | refine blk_drewN ?_ _ | refine blk_drew ?_ | refine blk_alloc ?_ _)); refine blk_put (cs := #[.int .i64 a0_0, .int .i64 a0_1, .string a1_3]) ?_ 2 _ rfl; (with_reducible repeat (first | refine blk_drewN ?_ _ | refine blk_drew ?_ | refine blk_alloc ?_ _)); refine blk_put (cs := #[.int .i64 a0_0, .int .i64 a1_2, .string a1_3]) ?_ 1 _ rfl; (with_reducible repeat (first | refine blk_drewN ?_ _ | refine blk_drew ?_ | refine blk_alloc ?_ _)); refine blk_put (cs := #[.int .i64 a1_1, .int .i64 a1_2, .string a1_3]) ?_ 0 _ rfl; exact pkK BK361.out) hb); replace HB := am (below_step (pkW HB.out) hb); (try clear hb); obtain ⟨hcz222_0, hcz222_1, hcz222_2, hfz222_0, hfz222_1, hfz222_2⟩ := bk3 BK358.out))
          refine bodyPost_ret (results_ct rfl _ _ gb358 27 #[.int .i64 0, .int .i64 0, .string (⟨#[]⟩ : ByteArray)] (0, 0) _ rfl (by (with_reducible repeat (first | refine blk_drewN ?_ _ | refine blk_drew ?_ | refine blk_alloc ?_ _)); refine blk_put (cs := #[.int .i64 0, .int .i64 0, .string (⟨#[]⟩ : ByteArray)]) ?_ 2 _ rfl; (with_reducible repeat (first | refine blk_drewN ?_ _ | refine blk_drew ?_ | refine blk_alloc ?_ _)); refine blk_put (cs := #[.int .i64 0, .int .i64 0, .string (⟨#[]⟩ : ByteArray)]) ?_ 1 _ rfl; (with_reducible repeat (first | refine blk_drewN ?_ _ | refine blk_drew ?_ | refine blk_alloc ?_ _)); refine blk_put (cs := #[.int .i64 0, .int .i64 0, .string (⟨#[]⟩ : ByteArray)]) ?_ 0 _ rfl; exact pkK BK358.out) Try.underlying27 rfl (by kernel_rfl)) rfl ?_
          exact ⟨rfe, pkW HB.out⟩
       ·rw [if_neg c152] at H
        have c152b0 : (a1_0 == 4) = false := beq_eq_false_iff_ne.mpr c152
        have c152b1 : (a1_0 != 4) = true := bne_iff_ne.mpr c152
        simp only [Option.some.injEq, Prod.mk.injEq] at H
        obtain ⟨rfl, rfl, rfl, rfl⟩ := H
        have hnb223 := NB357_356.out
        have hnc223 := NB356_357.out
        have hnb224 := NB357_358.out
        have hnc224 := NB358_357.out
        obtain ⟨hcz225_0, hcz225_1, hcz225_2, hcz225_3, hfz225_0, hfz225_1, hfz225_2, hfz225_3⟩ := bk4 BK357.out
        go_wp2_with (first | ((with_reducible refine gate_dst (N := 6) rfl ?_); refine box_event ?hg (N := 6) ?hd (cs := #[.int .i64 0, .int .i64 0, .string (⟨#[]⟩ : ByteArray)]) (t := 27) ?hr ?_; (case hd => rfl); (case hg => rfl); (case hr => first | (go_simp; done) | (go_simp; rfl)); intro gb361 hg w226 hbox hb; have BK361 := am (hbox); have GW361 := am ((by rw [hg]; exact (below_size (pkW HB.out)) : w.heap.size ≤ gb361)); have GE361 := am ((by rw [hg]; exact (below_size (pkW HB.out)) : w.heap.size ≤ gb361)); replace HB := am (below_step (pkW HB.out) hb); have NB356_361 := am ((by rw [hg]; exact Nat.ne_of_lt (blk_lt (g := gb356) (o := .cells #[.int .i64 a0_0, .int .i64 a0_1, .string a0_2] 27 (0, 0)) (pkK BK356.out)) : gb356 ≠ gb361)); have NB361_356 := am ((by rw [hg]; exact Nat.ne_of_gt (blk_lt (g := gb356) (o := .cells #[.int .i64 a0_0, .int .i64 a0_1, .string a0_2] 27 (0, 0)) (pkK BK356.out)) : gb361 ≠ gb356)); replace BK356 := am (blk_below (pkK BK356.out) hb); have NB357_361 := am ((by rw [hg]; exact Nat.ne_of_lt (blk_lt (g := gb357) (o := .cells #[.int .i64 a1_0, .int .i64 a1_1, .int .i64 a1_2, .string a1_3] 45 (0, 0)) (pkK BK357.out)) : gb357 ≠ gb361)); have NB361_357 := am ((by rw [hg]; exact Nat.ne_of_gt (blk_lt (g := gb357) (o := .cells #[.int .i64 a1_0, .int .i64 a1_1, .int .i64 a1_2, .string a1_3] 45 (0, 0)) (pkK BK357.out)) : gb361 ≠ gb357)); replace BK357 := am (blk_below (pkK BK357.out) hb); have NB358_361 := am ((by rw [hg]; exact Nat.ne_of_lt (blk_lt (g := gb358) (o := .cells #[.int .i64 0, .int .i64 0, .string (⟨#[]⟩ : ByteArray)] 27 (0, 0)) (pkK BK358.out)) : gb358 ≠ gb361)); have NB361_358 := am ((by rw [hg]; exact Nat.ne_of_gt (blk_lt (g := gb358) (o := .cells #[.int .i64 0, .int .i64 0, .string (⟨#[]⟩ : ByteArray)] 27 (0, 0)) (pkK BK358.out)) : gb361 ≠ gb358)); replace BK358 := am (blk_below (pkK BK358.out) hb); clear hb hbox hg; have hnb227 := NB361_356.out; have hnc227 := NB356_361.out; have hnb228 := NB361_357.out; have hnc228 := NB357_361.out; have hnb229 := NB361_358.out; have hnc229 := NB358_361.out; obtain ⟨hcz230_0, hcz230_1, hcz230_2, hfz230_0, hfz230_1, hfz230_2⟩ := bk3 BK361.out; obtain ⟨hcz231_0, hcz231_1, hcz231_2, hcz231_3, hfz231_0, hfz231_1, hfz231_2, hfz231_3⟩ := bk4 BK357.out; have hnb232 := NB358_356.out; have hnc232 := NB356_358.out; obtain ⟨hcz233_0, hcz233_1, hcz233_2, hfz233_0, hfz233_1, hfz233_2⟩ := bk3 BK358.out))
        refine bodyPost_ret (results_ct rfl _ _ gb358 27 #[.int .i64 0, .int .i64 0, .string (⟨#[]⟩ : ByteArray)] (0, 0) _ rfl (by (with_reducible repeat (first | refine blk_drewN ?_ _ | refine blk_drew ?_ | refine blk_alloc ?_ _)); refine blk_put (cs := #[.int .i64 0, .int .i64 0, .string (⟨#[]⟩ : ByteArray)]) ?_ 2 _ rfl; (with_reducible repeat (first | refine blk_drewN ?_ _ | refine blk_drew ?_ | refine blk_alloc ?_ _)); refine blk_put (cs := #[.int .i64 0, .int .i64 0, .string (⟨#[]⟩ : ByteArray)]) ?_ 1 _ rfl; (with_reducible repeat (first | refine blk_drewN ?_ _ | refine blk_drew ?_ | refine blk_alloc ?_ _)); refine blk_put (cs := #[.int .i64 0, .int .i64 0, .string (⟨#[]⟩ : ByteArray)]) ?_ 0 _ rfl; (with_reducible repeat (first | refine blk_drewN ?_ _ | refine blk_drew ?_ | refine blk_alloc ?_ _)); refine blk_far ?_ NB358_361.out _; (with_reducible repeat (first | refine blk_drewN ?_ _ | refine blk_drew ?_ | refine blk_alloc ?_ _)); refine blk_far ?_ NB358_361.out _; (with_reducible repeat (first | refine blk_drewN ?_ _ | refine blk_drew ?_ | refine blk_alloc ?_ _)); refine blk_far ?_ NB358_361.out _; exact pkK BK358.out) Try.underlying27 rfl (by kernel_rfl)) rfl ?_
        exact ⟨rfe, pkW HB.out⟩
end Go.Proofs.Ytalehmhjddnmoaa.Z
