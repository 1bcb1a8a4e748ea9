/- The Go functions spec_CountDown as Lean functions, each with a proof that its code comes to just these answers; conditions: those of each theorem. -/
import Derived.Test.YtffcphplnilokaaZx0
import Derived.Test.YtffcphplnilokaaZx21
import Derived.Test.YtffcphplnilokaaZx30
namespace Go.Proofs.Ytffcphplnilokaa.Z
open Go.RowKit Go.Proofs.YtffcphplnilokaaW.PrintWords Go.Proofs.YtffcphplnilokaaW.PrintLast Go.Proofs.YtffcphplnilokaaW.PrintMore
attribute [local go_sem] max2_int min2_int max_two min_two max_three min_three max_four min_four   -- for this text's walks alone
set_option linter.unusedVariables false
set_option linter.unusedSimpArgs false
mutual
def spec_CountDown.j0 : Nat → Int → Bool → Int → List Int → List Int → Int → List Int → List Int → Option (Int × List Int × List Int × List Int × Int)
 | 0, _, _, _, _, _, _, _, _ => none
 | k + 1, x1, x10, x976000, x976001, x976002, x985000, x985001, x985002 => if x10 = true then (some (x985000, x985001, x985002, ([] : List Int), 1)) else (if x1 > x976000 then (some (x985000, x985001, x985002, ([] : List Int), 6)) else (if x1 = x976000 then (spec_CountDown.j1 k x1 (decide ((wrap64 ((x976001.length : Int) + (x976002.length : Int))) > 32)) x976000 x976001 x976002 x985000 x985001 x985002) else (spec_CountDown.j1 k x1 false x976000 x976001 x976002 x985000 x985001 x985002)))
def spec_CountDown.j1 : Nat → Int → Bool → Int → List Int → List Int → Int → List Int → List Int → Option (Int × List Int × List Int × List Int × Int)
 | 0, _, _, _, _, _, _, _, _ => none
 | k + 1, x1, x25, x976000, x976001, x976002, x985000, x985001, x985002 => if x25 = true then (some (x985000, x985001, x985002, ([] : List Int), 2)) else (if (wrap64 (x985000 - x1)) > 0 then (some (wrap64 (x985000 - x1), x985001, x985002, ([] : List Int), 0)) else (if x985002.length + x976001.length < 17592186044416 then ((spec_l2Copy.f x976001).bind fun t989 => (some (wrap64 (x985000 - x1), ([] : List Int), (x985002 ++ x976001), t989, 0))) else (none)))
end
def spec_CountDown.f (k : Nat) (a0_0 : Int) (l0_1 : List Int) (l0_2 : List Int) (a1 : Int) : Option (Int × List Int × List Int × List Int × Int) := (spec_l6CopyLatch.f a0_0 l0_1 l0_2).bind fun bt977 => ((spec_LatchOk.f k a0_0 l0_1 l0_2).bind fun t985 => (if t985 = true then (spec_CountDown.j0 k a1 (decide (a1 < 1)) a0_0 l0_1 l0_2 bt977.1 bt977.2.1 bt977.2.2) else (spec_CountDown.j0 k a1 true a0_0 l0_1 l0_2 bt977.1 bt977.2.1 bt977.2.2)))
theorem spec_CountDown.mono_l : ∀ k, (∀ y0 y1 y2 y3 y4 y5 y6 y7, LeO (spec_CountDown.j0 k y0 y1 y2 y3 y4 y5 y6 y7) (spec_CountDown.j0 (k + 1) y0 y1 y2 y3 y4 y5 y6 y7)) ∧ (∀ y0 y1 y2 y3 y4 y5 y6 y7, LeO (spec_CountDown.j1 k y0 y1 y2 y3 y4 y5 y6 y7) (spec_CountDown.j1 (k + 1) y0 y1 y2 y3 y4 y5 y6 y7))
 | 0 => ⟨fun _ _ _ _ _ _ _ _ r h => by simp [spec_CountDown.j0] at h, fun _ _ _ _ _ _ _ _ r h => by simp [spec_CountDown.j1] at h⟩
 | k + 1 => by
  obtain ⟨ih0, ih1⟩ := spec_CountDown.mono_l k
  refine ⟨?_, ?_⟩
  ·intro y0 y1 y2 y3 y4 y5 y6 y7
   unfold spec_CountDown.j0
   repeat' first
   | (with_reducible exact ih0 _ _ _ _ _ _ _ _)
   | (with_reducible exact ih1 _ _ _ _ _ _ _ _)
   | (with_reducible exact spec_LatchOk.mono _ _ _ _)
   | (with_reducible exact LeO.refl _)
   | (with_reducible exact LeO.none _)
   | (with_reducible refine LeO.ite ?_ ?_)
   | (with_reducible refine LeO.bind ?_ (fun _ => ?_))
  ·intro y0 y1 y2 y3 y4 y5 y6 y7
   unfold spec_CountDown.j1
   repeat' first
   | (with_reducible exact ih0 _ _ _ _ _ _ _ _)
   | (with_reducible exact ih1 _ _ _ _ _ _ _ _)
   | (with_reducible exact spec_LatchOk.mono _ _ _ _)
   | (with_reducible exact LeO.refl _)
   | (with_reducible exact LeO.none _)
   | (with_reducible refine LeO.ite ?_ ?_)
   | (with_reducible refine LeO.bind ?_ (fun _ => ?_))
theorem spec_CountDown.mono : ∀ a0 a1 a2 a3 k, LeO (spec_CountDown.f k a0 a1 a2 a3) (spec_CountDown.f (k + 1) a0 a1 a2 a3) := by
 intro a0 a1 a2 a3 k
 obtain ⟨ih0, ih1⟩ := spec_CountDown.mono_l k
 unfold spec_CountDown.f
 repeat' first
   | (with_reducible exact ih0 _ _ _ _ _ _ _ _)
   | (with_reducible exact ih1 _ _ _ _ _ _ _ _)
   | (with_reducible exact spec_LatchOk.mono _ _ _ _)
   | (with_reducible exact LeO.refl _)
   | (with_reducible exact LeO.none _)
   | (with_reducible refine LeO.ite ?_ ?_)
   | (with_reducible refine LeO.bind ?_ (fun _ => ?_))
set_option maxHeartbeats 8000000 in
set_option maxRecDepth 100000 in
theorem spec_CountDown.calls (k : Nat) (a0_0 : Int) (A0_1 : Option Addr) (c0_1 : Nat) (l0_1 : List Int) (A0_2 : Option Addr) (c0_2 : Nat) (l0_2 : List Int) (a1 : Int) (r1 : Int) (r2 : List Int) (r3 : List Int) (r4 : List Int) (r5 : Int) (w : World) (hr0_1 : Kd.C (Kd.int .i64) w A0_1 l0_1.length l0_1) (hc0_1 : l0_1.length ≤ c0_1) (hr0_2 : Kd.C (Kd.int .i64) w A0_2 l0_2.length l0_2) (hc0_2 : l0_2.length ≤ c0_2) (h : spec_CountDown.f k a0_0 l0_1 l0_2 a1 = some (r1, r2, r3, r4, r5)) :
  Calls Try.prog 43 #[.agg #[.int .i64 a0_0, .slice A0_1 l0_1.length c0_1, .slice A0_2 l0_2.length c0_2], .int .i64 a1] w fun e w' => ∃ v1_ v2_ v3_ : Value, e = .returned (.tuple #[.agg #[.int .i64 r1, v1_, v2_], v3_, .int .i64 r5]) ∧ Kd.R (Kd.int .i64) 3 w' w.heap.size (fun k_ => some k_ ≠ (v2_ : Value).ownBlock ∧ some k_ ≠ (v3_ : Value).ownBlock) v1_ r2 ∧ Kd.R (Kd.int .i64) 3 w' w.heap.size (fun k_ => some k_ ≠ (v1_ : Value).ownBlock ∧ some k_ ≠ (v3_ : Value).ownBlock) v2_ r3 ∧ Kd.R (Kd.int .i64) 3 w' w.heap.size (fun k_ => some k_ ≠ (v1_ : Value).ownBlock ∧ some k_ ≠ (v2_ : Value).ownBlock) v3_ r4 ∧ Below w.heap.size w w' := by
 have hu46 := Try.underlying46
 have HR0_1 := am hr0_1
 have HC0_1 := am hc0_1
 clear hr0_1 hc0_1
 have HR0_2 := am hr0_2
 have HC0_2 := am hc0_2
 clear hr0_2 hc0_2
 have HB := am (Below.refl w.heap.size w)
 have H : ((spec_l6CopyLatch.f a0_0 l0_1 l0_2).bind fun bt977 => ((spec_LatchOk.f k a0_0 l0_1 l0_2).bind fun t985 => (if t985 = true then (spec_CountDown.j0 k a1 (decide (a1 < 1)) a0_0 l0_1 l0_2 bt977.1 bt977.2.1 bt977.2.2) else (spec_CountDown.j0 k a1 true a0_0 l0_1 l0_2 bt977.1 bt977.2.1 bt977.2.2)))) = some (r1, r2, r3, r4, r5) := h
 clear h
 replace H := Option.bind_eq_some_iff.mp H
 obtain ⟨⟨t977, t978, t981⟩, A30, H⟩ := H
 replace H : ((spec_LatchOk.f k a0_0 l0_1 l0_2).bind fun t985 => (if t985 = true then (spec_CountDown.j0 k a1 (decide (a1 < 1)) a0_0 l0_1 l0_2 t977 t978 t981) else (spec_CountDown.j0 k a1 true a0_0 l0_1 l0_2 t977 t978 t981))) = some (r1, r2, r3, r4, r5) := H
 have A3 := am A30
 clear A30
 have HC4 := am H
 clear H
 go_enter Try.func43, Try.ntmps43
 go_upto_region 2 with (first | ((with_reducible refine gate_dst (N := 2) rfl ?_); (try (refine gate_guard (by rfl) ?_; dsimp only)); refine box_event ?hg (N := 2) ?hd (cs := #[.int .i64 a0_0, .slice A0_1 l0_1.length c0_1, .slice A0_2 l0_2.length c0_2]) (t := 46) ?hr ?_; (case hd => rfl); (case hg => rfl); (case hr => first | (go_simp; done) | (go_simp; rfl)); intro gb975 hg w5 hbox hb; have BK975 := am (hbox); have GW975 := am ((by rw [hg]; exact (below_size (pkB HB.out)) : w.heap.size ≤ gb975)); have GE975 := am ((by rw [hg]; exact (below_size (pkB HB.out)) : w.heap.size ≤ gb975)); replace HB := am (below_step (pkB HB.out) hb); clear hb hbox hg) | ((with_reducible refine gate_dst (N := 4) rfl ?_); (try (refine gate_guard (by rfl) ?_; dsimp only)); refine box_event ?hg (N := 4) ?hd (cs := #[.int .i64 0, .slice none 0 0, .slice none 0 0]) (t := 46) ?hr ?_; (case hd => rfl); (case hg => rfl); (case hr => first | (go_simp; done) | (go_simp; rfl)); intro gb976 hg w6 hbox hb; have BK976 := am (hbox); have GW976 := am ((by rw [hg]; exact (below_size (pkW HB.out)) : w.heap.size ≤ gb976)); have GE976 := am ((by rw [hg]; exact (below_size (pkW HB.out)) : w.heap.size ≤ gb976)); replace HB := am (below_step (pkW HB.out) hb); have NB975_976 := am ((by rw [hg]; exact Nat.ne_of_lt (blk_lt (g := gb975) (o := .cells #[.int .i64 a0_0, .slice A0_1 l0_1.length c0_1, .slice A0_2 l0_2.length c0_2] 46 (0, 0)) (pkK BK975.out)) : gb975 ≠ gb976)); have NB976_975 := am ((by rw [hg]; exact Nat.ne_of_gt (blk_lt (g := gb975) (o := .cells #[.int .i64 a0_0, .slice A0_1 l0_1.length c0_1, .slice A0_2 l0_2.length c0_2] 46 (0, 0)) (pkK BK975.out)) : gb976 ≠ gb975)); replace BK975 := am (blk_below (pkK BK975.out) hb); clear hb hbox hg; have hnb7 := NB975_976.out; have hnc7 := NB976_975.out; obtain ⟨hcz8_0, hcz8_1, hcz8_2, hfz8_0, hfz8_1, hfz8_2⟩ := bk3 BK975.out) | ((with_reducible refine gate_callee (f := 74) rfl ?_); refine goesL_ (some 9) rfl rfl Try.func74 (by kernel_rfl) rfl #[.agg #[.int .i64 a0_0, .slice A0_1 l0_1.length c0_1, .slice A0_2 l0_2.length c0_2]] rfl mpx ?_; (with_reducible refine (spec_l6CopyLatch.calls a0_0 _ _ l0_1 _ _ l0_2 t977 t978 t981 _ ?side1 ?side2 ?side3 ?side4 A3.out).mono ?_); (case side1 => exact pkC (Kd.C_below HR0_1.out HB.out)); (case side2 => exact HC0_1.out); (case side3 => exact pkC (Kd.C_below HR0_2.out HB.out)); (case side4 => exact HC0_2.out); rintro e w9 ⟨v979, v982, rfl, ho0, ho1, hb⟩; refine ⟨_, rfl, ?_⟩; have HO980 := am (Kd.R_lower ho0 (below_size (pkW HB.out))); have HO983 := am (Kd.R_lower ho1 (below_size (pkW HB.out))); replace BK975 := am (blk_below (pkK BK975.out) hb); replace BK976 := am (blk_below (pkK BK976.out) hb); replace HB := am (below_step (pkW HB.out) hb); (try clear hb ho0 ho1)) | ((with_reducible refine gate_dst (N := 7) rfl ?_); (try (refine gate_guard (by rfl) ?_; dsimp only)); refine box_event ?hg (N := 7) ?hd (cs := #[.int .i64 0, .slice none 0 0, .slice none 0 0]) (t := 46) ?hr ?_; (case hd => rfl); (case hg => rfl); (case hr => first | (go_simp; done) | (go_simp; rfl)); intro gb984 hg w10 hbox hb; replace HO980 := am (Kd.R_below (pkR HO980.out) hb); replace HO983 := am (Kd.R_below (pkR HO983.out) hb); have BK984 := am (hbox); have GW984 := am ((by rw [hg]; exact (below_size (pkW HB.out)) : w.heap.size ≤ gb984)); have GE984 := am ((by rw [hg]; exact (below_size (pkW HB.out)) : w.heap.size ≤ gb984)); replace HB := am (below_step (pkW HB.out) hb); have NB975_984 := am ((by rw [hg]; exact Nat.ne_of_lt (blk_lt (g := gb975) (o := .cells #[.int .i64 a0_0, .slice A0_1 l0_1.length c0_1, .slice A0_2 l0_2.length c0_2] 46 (0, 0)) (pkK BK975.out)) : gb975 ≠ gb984)); have NB984_975 := am ((by rw [hg]; exact Nat.ne_of_gt (blk_lt (g := gb975) (o := .cells #[.int .i64 a0_0, .slice A0_1 l0_1.length c0_1, .slice A0_2 l0_2.length c0_2] 46 (0, 0)) (pkK BK975.out)) : gb984 ≠ gb975)); replace BK975 := am (blk_below (pkK BK975.out) hb); have NB976_984 := am ((by rw [hg]; exact Nat.ne_of_lt (blk_lt (g := gb976) (o := .cells #[.int .i64 0, .slice none 0 0, .slice none 0 0] 46 (0, 0)) (pkK BK976.out)) : gb976 ≠ gb984)); have NB984_976 := am ((by rw [hg]; exact Nat.ne_of_gt (blk_lt (g := gb976) (o := .cells #[.int .i64 0, .slice none 0 0, .slice none 0 0] 46 (0, 0)) (pkK BK976.out)) : gb984 ≠ gb976)); replace BK976 := am (blk_below (pkK BK976.out) hb); clear hb hbox hg; have hnb11 := NB984_975.out; have hnc11 := NB975_984.out; have hnb12 := NB984_976.out; have hnc12 := NB976_984.out; obtain ⟨hcz13_0, hcz13_1, hcz13_2, hfz13_0, hfz13_1, hfz13_2⟩ := bk3 BK984.out; obtain ⟨Ao14, co14, eo14⟩ := Kd.R_slice HO980.out; subst eo14; obtain ⟨Ao15, co15, eo15⟩ := Kd.R_slice HO983.out; subst eo15))
 (try simp only [Act.put, List.setIfInBounds_toArray, List.set_cons_zero, List.set_cons_succ])
 go_cut [10] (fun v10 wc => ∃ (kq : Nat) (x10_3 : Bool), v10 = .bool x10_3 ∧ Aside0 (spec_CountDown.j0 kq a1 x10_3 a0_0 l0_1 l0_2 t977 t978 t981 = some (r1, r2, r3, r4, r5)) ∧ Aside0 (kq ≤ k) ∧ Aside0 (Kd.R (Kd.int .i64) 3 wc w.heap.size (fun k_ => some k_ ≠ ((.slice Ao15 t981.length co15) : Value).ownBlock) (.slice Ao14 t978.length co14) t978) ∧ Aside0 (Kd.R (Kd.int .i64) 3 wc w.heap.size (fun k_ => some k_ ≠ ((.slice Ao14 t978.length co14) : Value).ownBlock) (.slice Ao15 t981.length co15) t981) ∧ Aside0 (wc.heap[gb975]? = some (.cells #[.int .i64 a0_0, (.slice A0_1 l0_1.length c0_1), (.slice A0_2 l0_2.length c0_2)] 46 (0, 0))) ∧ Aside0 (wc.heap[gb976]? = some (.cells #[.int .i64 0, (.slice none 0 0), (.slice none 0 0)] 46 (0, 0))) ∧ Aside0 (wc.heap[gb984]? = some (.cells #[.int .i64 t977, (.slice Ao14 t978.length co14), (.slice Ao15 t981.length co15)] 46 (0, 0))) ∧ Aside0 (Below w.heap.size w wc))
 case first =>
  have H := HC4.out
  clear HC4
  replace H := Option.bind_eq_some_iff.mp H
  obtain ⟨t985, A160, H⟩ := H
  replace H : (if t985 = true then (spec_CountDown.j0 k a1 (decide (a1 < 1)) a0_0 l0_1 l0_2 t977 t978 t981) else (spec_CountDown.j0 k a1 true a0_0 l0_1 l0_2 t977 t978 t981)) = some (r1, r2, r3, r4, r5) := H
  have A16 := am A160
  clear A160
  by_cases c17 : t985 = true
  ·subst c17
   replace H : (spec_CountDown.j0 k a1 (decide (a1 < 1)) a0_0 l0_1 l0_2 t977 t978 t981) = some (r1, r2, r3, r4, r5) := by rw [if_pos rfl] at H; exact H
   have H' := am H
   clear H
   have hnb18 := NB975_976.out
   have hnc18 := NB976_975.out
   have hnb19 := NB975_984.out
   have hnc19 := NB984_975.out
   obtain ⟨hcz20_0, hcz20_1, hcz20_2, hfz20_0, hfz20_1, hfz20_2⟩ := bk3 BK975.out
   go_wp2_with (first | ((with_reducible refine gate_callee (f := 24) rfl ?_); refine goesL_ (some 12) rfl rfl Try.func24 (by kernel_rfl) rfl #[.agg #[.int .i64 a0_0, .slice A0_1 l0_1.length c0_1, .slice A0_2 l0_2.length c0_2]] rfl mpx ?_; (with_reducible refine (spec_LatchOk.calls k a0_0 _ _ l0_1 _ _ l0_2 true _ ?side1 ?side2 ?side3 ?side4 A16.out).mono ?_); (case side1 => exact Kd.C_below HR0_1.out (pkW HB.out)); (case side2 => exact HC0_1.out); (case side3 => exact Kd.C_below HR0_2.out (pkW HB.out)); (case side4 => exact HC0_2.out); rintro e w21 ⟨rfl, hb⟩; refine ⟨_, rfl, ?_⟩; replace HO980 := am (Kd.R_below (by (with_reducible repeat (first | apply Kd.R_alloc | apply Kd.R_drewN | apply Kd.R_drew)); exact (Kd.R_mono (Kd.R_far (p := ⟨gb984, 2, none⟩) (Kd.R_far (p := ⟨gb984, 1, none⟩) (Kd.R_far (p := ⟨gb984, 0, none⟩) (Kd.R_types HO980.out BK984.out (by decide)) (fun _ hk => hk.2) (.int .i64 t977)) (fun _ hk => hk.2) (.slice Ao14 t978.length co14)) (fun _ hk => hk.2) (.slice Ao15 t981.length co15)) (fun _ h_ => h_.1))) hb); replace HO983 := am (Kd.R_below (by (with_reducible repeat (first | apply Kd.R_alloc | apply Kd.R_drewN | apply Kd.R_drew)); exact (Kd.R_mono (Kd.R_far (p := ⟨gb984, 2, none⟩) (Kd.R_far (p := ⟨gb984, 1, none⟩) (Kd.R_far (p := ⟨gb984, 0, none⟩) (Kd.R_types HO983.out BK984.out (by decide)) (fun _ hk => hk.2) (.int .i64 t977)) (fun _ hk => hk.2) (.slice Ao14 t978.length co14)) (fun _ hk => hk.2) (.slice Ao15 t981.length co15)) (fun _ h_ => h_.1))) hb); replace BK975 := am (blk_below (g := gb975) (o := .cells #[.int .i64 a0_0, .slice A0_1 l0_1.length c0_1, .slice A0_2 l0_2.length c0_2] 46 (0, 0)) (by (with_reducible repeat (first | refine blk_drewN ?_ _ | refine blk_drew ?_ | refine blk_alloc ?_ _)); refine blk_far ?_ NB975_984.out _; (with_reducible repeat (first | refine blk_drewN ?_ _ | refine blk_drew ?_ | refine blk_alloc ?_ _)); refine blk_far ?_ NB975_984.out _; (with_reducible repeat (first | refine blk_drewN ?_ _ | refine blk_drew ?_ | refine blk_alloc ?_ _)); refine blk_far ?_ NB975_984.out _; exact pkK BK975.out) hb); replace BK976 := am (blk_below (g := gb976) (o := .cells #[.int .i64 0, .slice none 0 0, .slice none 0 0] 46 (0, 0)) (by (with_reducible repeat (first | refine blk_drewN ?_ _ | refine blk_drew ?_ | refine blk_alloc ?_ _)); refine blk_far ?_ NB976_984.out _; (with_reducible repeat (first | refine blk_drewN ?_ _ | refine blk_drew ?_ | refine blk_alloc ?_ _)); refine blk_far ?_ NB976_984.out _; (with_reducible repeat (first | refine blk_drewN ?_ _ | refine blk_drew ?_ | refine blk_alloc ?_ _)); refine blk_far ?_ NB976_984.out _; exact pkK BK976.out) hb); replace BK984 := am (blk_below (g := gb984) (o := .cells #[.int .i64 t977, .slice Ao14 t978.length co14, .slice Ao15 t981.length co15] 46 (0, 0)) (by (with_reducible repeat (first | refine blk_drewN ?_ _ | refine blk_drew ?_ | refine blk_alloc ?_ _)); refine blk_put (cs := #[.int .i64 t977, .slice Ao14 t978.length co14, .slice none 0 0]) ?_ 2 _ rfl; (with_reducible repeat (first | refine blk_drewN ?_ _ | refine blk_drew ?_ | refine blk_alloc ?_ _)); refine blk_put (cs := #[.int .i64 t977, .slice none 0 0, .slice none 0 0]) ?_ 1 _ rfl; (with_reducible repeat (first | refine blk_drewN ?_ _ | refine blk_drew ?_ | refine blk_alloc ?_ _)); refine blk_put (cs := #[.int .i64 0, .slice none 0 0, .slice none 0 0]) ?_ 0 _ rfl; exact pkK BK984.out) hb); replace HB := am (below_step (pkW HB.out) hb); (try clear hb)))
   go_meet
   case rel => exact ⟨_, (decide (a1 < 1)), rfx, H', ⟨by first | omega | exact Nat.le_refl _⟩, ⟨pkR HO980.out⟩, ⟨pkR HO983.out⟩, ⟨pkK BK975.out⟩, ⟨pkK BK976.out⟩, ⟨pkK BK984.out⟩, ⟨pkW HB.out⟩⟩
  ·replace c17 := Bool.eq_false_iff.mpr c17
   subst c17
   replace H : (spec_CountDown.j0 k a1 true a0_0 l0_1 l0_2 t977 t978 t981) = some (r1, r2, r3, r4, r5) := by rw [if_neg (show ¬ (false = true) by decide)] at H; exact H
   have H' := am H
   clear H
   have hnb22 := NB975_976.out
   have hnc22 := NB976_975.out
   have hnb23 := NB975_984.out
   have hnc23 := NB984_975.out
   obtain ⟨hcz24_0, hcz24_1, hcz24_2, hfz24_0, hfz24_1, hfz24_2⟩ := bk3 BK975.out
   go_wp2_with (first | ((with_reducible refine gate_callee (f := 24) rfl ?_); refine goesL_ (some 12) rfl rfl Try.func24 (by kernel_rfl) rfl #[.agg #[.int .i64 a0_0, .slice A0_1 l0_1.length c0_1, .slice A0_2 l0_2.length c0_2]] rfl mpx ?_; (with_reducible refine (spec_LatchOk.calls k a0_0 _ _ l0_1 _ _ l0_2 false _ ?side1 ?side2 ?side3 ?side4 A16.out).mono ?_); (case side1 => exact Kd.C_below HR0_1.out (pkW HB.out)); (case side2 => exact HC0_1.out); (case side3 => exact Kd.C_below HR0_2.out (pkW HB.out)); (case side4 => exact HC0_2.out); rintro e w25 ⟨rfl, hb⟩; refine ⟨_, rfl, ?_⟩; replace HO980 := am (Kd.R_below (by (with_reducible repeat (first | apply Kd.R_alloc | apply Kd.R_drewN | apply Kd.R_drew)); exact (Kd.R_mono (Kd.R_far (p := ⟨gb984, 2, none⟩) (Kd.R_far (p := ⟨gb984, 1, none⟩) (Kd.R_far (p := ⟨gb984, 0, none⟩) (Kd.R_types HO980.out BK984.out (by decide)) (fun _ hk => hk.2) (.int .i64 t977)) (fun _ hk => hk.2) (.slice Ao14 t978.length co14)) (fun _ hk => hk.2) (.slice Ao15 t981.length co15)) (fun _ h_ => h_.1))) hb); replace HO983 := am (Kd.R_below (by (with_reducible repeat (first | apply Kd.R_alloc | apply Kd.R_drewN | apply Kd.R_drew)); exact (Kd.R_mono (Kd.R_far (p := ⟨gb984, 2, none⟩) (Kd.R_far (p := ⟨gb984, 1, none⟩) (Kd.R_far (p := ⟨gb984, 0, none⟩) (Kd.R_types HO983.out BK984.out (by decide)) (fun _ hk => hk.2) (.int .i64 t977)) (fun _ hk => hk.2) (.slice Ao14 t978.length co14)) (fun _ hk => hk.2) (.slice Ao15 t981.length co15)) (fun _ h_ => h_.1))) hb); replace BK975 := am (blk_below (g := gb975) (o := .cells #[.int .i64 a0_0, .slice A0_1 l0_1.length c0_1, .slice A0_2 l0_2.length c0_2] 46 (0, 0)) (by (with_reducible repeat (first | refine blk_drewN ?_ _ | refine blk_drew ?_ | refine blk_alloc ?_ _)); refine blk_far ?_ NB975_984.out _; (with_reducible repeat (first | refine blk_drewN ?_ _ | refine blk_drew ?_ | refine blk_alloc ?_ _)); refine blk_far ?_ NB975_984.out _; (with_reducible repeat (first | refine blk_drewN ?_ _ | refine blk_drew ?_ | refine blk_alloc ?_ _)); refine blk_far ?_ NB975_984.out _; exact pkK BK975.out) hb); replace BK976 := am (blk_below (g := gb976) (o := .cells #[.int .i64 0, .slice none 0 0, .slice none 0 0] 46 (0, 0)) (by (with_reducible repeat (first | refine blk_drewN ?_ _ | refine blk_drew ?_ | refine blk_alloc ?_ _)); refine blk_far ?_ NB976_984.out _; (with_reducible repeat (first | refine blk_drewN ?_ _ | refine blk_drew ?_ | refine blk_alloc ?_ _)); refine blk_far ?_ NB976_984.out _; (with_reducible repeat (first | refine blk_drewN ?_ _ | refine blk_drew ?_ | refine blk_alloc ?_ _)); refine blk_far ?_ NB976_984.out _; exact pkK BK976.out) hb); replace BK984 := am (blk_below (g := gb984) (o := .cells #[.int .i64 t977, .slice Ao14 t978.length co14, .slice Ao15 t981.length co15] 46 (0, 0)) (by (with_reducible repeat (first | refine blk_drewN ?_ _ | refine blk_drew ?_ | refine blk_alloc ?_ _)); refine blk_put (cs := #[.int .i64 t977, .slice Ao14 t978.length co14, .slice none 0 0]) ?_ 2 _ rfl; (with_reducible repeat (first | refine blk_drewN ?_ _ | refine blk_drew ?_ | refine blk_alloc ?_ _)); refine blk_put (cs := #[.int .i64 t977, .slice none 0 0, .slice none 0 0]) ?_ 1 _ rfl; (with_reducible repeat (first | refine blk_drewN ?_ _ | refine blk_drew ?_ | refine blk_alloc ?_ _)); refine blk_put (cs := #[.int .i64 0, .slice none 0 0, .slice none 0 0]) ?_ 0 _ rfl; exact pkK BK984.out) hb); replace HB := am (below_step (pkW HB.out) hb); (try clear hb)))
   go_meet
   case rel => exact ⟨_, (true), rfx, H', ⟨by first | omega | exact Nat.le_refl _⟩, ⟨pkR HO980.out⟩, ⟨pkR HO983.out⟩, ⟨pkK BK975.out⟩, ⟨pkK BK976.out⟩, ⟨pkK BK984.out⟩, ⟨pkW HB.out⟩⟩
 case rest =>
  clear HC4
  try clear c1
  try clear c2
  try clear p2
  try clear c4
  try clear c7
  try clear c11
  try clear c12
  try clear c17
  try clear c18
  try clear c19
  try clear c22
  try clear c23
  try clear c24
  try clear hcz13_0
  try clear hcz13_1
  try clear hcz13_2
  try clear hcz20_0
  try clear hcz20_1
  try clear hcz20_2
  try clear hcz24_0
  try clear hcz24_1
  try clear hcz24_2
  try clear hcz8_0
  try clear hcz8_1
  try clear hcz8_2
  try clear hfz13_0
  try clear hfz13_1
  try clear hfz13_2
  try clear hfz20_0
  try clear hfz20_1
  try clear hfz20_2
  try clear hfz24_0
  try clear hfz24_1
  try clear hfz24_2
  try clear hfz8_0
  try clear hfz8_1
  try clear hfz8_2
  obtain ⟨kq, x10_3, rfl, HA, HJ3, HO_985001, HO_985002, BK975, BK976, BK984, HB⟩ := hcut
  cases kq with
  | zero => exact absurd HA.out (by simp [spec_CountDown.j0])
  | succ kj3 =>
   have H := HA.out
   clear HA
   simp only [spec_CountDown.j0] at H
   by_cases c26 : x10_3 = true
   ·subst c26
    replace H : (some (t977, t978, t981, ([] : List Int), 1)) = some (r1, r2, r3, r4, r5) := by rw [if_pos rfl] at H; exact H
    simp only [Option.some.injEq, Prod.mk.injEq] at H
    obtain ⟨rfl, rfl, rfl, rfl, rfl⟩ := H
    have hnb27 := NB984_975.out
    have hnc27 := NB975_984.out
    have hnb28 := NB984_976.out
    have hnc28 := NB976_984.out
    obtain ⟨hcz29_0, hcz29_1, hcz29_2, hfz29_0, hfz29_1, hfz29_2⟩ := bk3 BK984.out
    have hnb30 := NB976_975.out
    have hnc30 := NB975_976.out
    obtain ⟨hcz31_0, hcz31_1, hcz31_2, hfz31_0, hfz31_1, hfz31_2⟩ := bk3 BK976.out
    go_wp2
    refine bodyPost_ret (results_ctt rfl _ _ gb976 46 #[.int .i64 t977, .slice Ao14 t978.length co14, .slice Ao15 t981.length co15] (0, 0) _ rfl (by (with_reducible repeat (first | refine blk_drewN ?_ _ | refine blk_drew ?_ | refine blk_alloc ?_ _)); refine blk_put (cs := #[.int .i64 t977, .slice Ao14 t978.length co14, .slice none 0 0]) ?_ 2 _ rfl; (with_reducible repeat (first | refine blk_drewN ?_ _ | refine blk_drew ?_ | refine blk_alloc ?_ _)); refine blk_put (cs := #[.int .i64 t977, .slice none 0 0, .slice none 0 0]) ?_ 1 _ rfl; (with_reducible repeat (first | refine blk_drewN ?_ _ | refine blk_drew ?_ | refine blk_alloc ?_ _)); refine blk_put (cs := #[.int .i64 0, .slice none 0 0, .slice none 0 0]) ?_ 0 _ rfl; exact pkK BK976.out) Try.underlying46 rfl (by kernel_rfl)) rfl ?_
    exact ⟨_, _, _, rfe, by (with_reducible repeat (first | apply Kd.R_alloc | apply Kd.R_drewN | apply Kd.R_drew)); exact Kd.R_mono (Kd.R_far (p := ⟨gb976, 2, none⟩) (Kd.R_far (p := ⟨gb976, 1, none⟩) (Kd.R_far (p := ⟨gb976, 0, none⟩) (Kd.R_types HO_985001.out BK976.out (by decide)) (fun _ hk => hk.2) (.int .i64 t977)) (fun _ hk => hk.2) (.slice Ao14 t978.length co14)) (fun _ hk => hk.2) (.slice Ao15 t981.length co15)) (fun _ hk => ⟨hk.1, (by simp [Value.ownBlock])⟩), by (with_reducible repeat (first | apply Kd.R_alloc | apply Kd.R_drewN | apply Kd.R_drew)); exact Kd.R_mono (Kd.R_far (p := ⟨gb976, 2, none⟩) (Kd.R_far (p := ⟨gb976, 1, none⟩) (Kd.R_far (p := ⟨gb976, 0, none⟩) (Kd.R_types HO_985002.out BK976.out (by decide)) (fun _ hk => hk.2) (.int .i64 t977)) (fun _ hk => hk.2) (.slice Ao14 t978.length co14)) (fun _ hk => hk.2) (.slice Ao15 t981.length co15)) (fun _ hk => ⟨hk.1, (by simp [Value.ownBlock])⟩), by first | exact Kd.R_nil _ _ _ _ _ | exact Kd.N_nil _ _ _ _ _ | exact Kd.V_nil _ _ _ _ _ | exact Kd.Q_nil _ _ _ _ _ | exact Kd.S_nil _ _ _ _ _, pkW HB.out⟩
   ·replace c26 := Bool.eq_false_iff.mpr c26
    subst c26
    replace H : (if a1 > a0_0 then (some (t977, t978, t981, ([] : List Int), 6)) else (if a1 = a0_0 then (spec_CountDown.j1 kj3 a1 (decide ((wrap64 ((l0_1.length : Int) + (l0_2.length : Int))) > 32)) a0_0 l0_1 l0_2 t977 t978 t981) else (spec_CountDown.j1 kj3 a1 false a0_0 l0_1 l0_2 t977 t978 t981))) = some (r1, r2, r3, r4, r5) := by rw [if_neg (show ¬ (false = true) by decide)] at H; exact H
    by_cases c32 : a1 > a0_0
    ·rw [if_pos c32] at H
     have c32b0 : decide (a0_0 < a1) = true := decide_eq_true c32
     clear c32
     simp only [Option.some.injEq, Prod.mk.injEq] at H
     obtain ⟨rfl, rfl, rfl, rfl, rfl⟩ := H
     have hnb33 := NB975_976.out
     have hnc33 := NB976_975.out
     have hnb34 := NB975_984.out
     have hnc34 := NB984_975.out
     obtain ⟨hcz35_0, hcz35_1, hcz35_2, hfz35_0, hfz35_1, hfz35_2⟩ := bk3 BK975.out
     have hnb36 := NB984_976.out
     have hnc36 := NB976_984.out
     obtain ⟨hcz37_0, hcz37_1, hcz37_2, hfz37_0, hfz37_1, hfz37_2⟩ := bk3 BK984.out
     obtain ⟨hcz38_0, hcz38_1, hcz38_2, hfz38_0, hfz38_1, hfz38_2⟩ := bk3 BK976.out
     go_wp2
     refine bodyPost_ret (results_ctt rfl _ _ gb976 46 #[.int .i64 t977, .slice Ao14 t978.length co14, .slice Ao15 t981.length co15] (0, 0) _ rfl (by (with_reducible repeat (first | refine blk_drewN ?_ _ | refine blk_drew ?_ | refine blk_alloc ?_ _)); refine blk_put (cs := #[.int .i64 t977, .slice Ao14 t978.length co14, .slice none 0 0]) ?_ 2 _ rfl; (with_reducible repeat (first | refine blk_drewN ?_ _ | refine blk_drew ?_ | refine blk_alloc ?_ _)); refine blk_put (cs := #[.int .i64 t977, .slice none 0 0, .slice none 0 0]) ?_ 1 _ rfl; (with_reducible repeat (first | refine blk_drewN ?_ _ | refine blk_drew ?_ | refine blk_alloc ?_ _)); refine blk_put (cs := #[.int .i64 0, .slice none 0 0, .slice none 0 0]) ?_ 0 _ rfl; exact pkK BK976.out) Try.underlying46 rfl (by kernel_rfl)) rfl ?_
     exact ⟨_, _, _, rfe, by (with_reducible repeat (first | apply Kd.R_alloc | apply Kd.R_drewN | apply Kd.R_drew)); exact Kd.R_mono (Kd.R_far (p := ⟨gb976, 2, none⟩) (Kd.R_far (p := ⟨gb976, 1, none⟩) (Kd.R_far (p := ⟨gb976, 0, none⟩) (Kd.R_types HO_985001.out BK976.out (by decide)) (fun _ hk => hk.2) (.int .i64 t977)) (fun _ hk => hk.2) (.slice Ao14 t978.length co14)) (fun _ hk => hk.2) (.slice Ao15 t981.length co15)) (fun _ hk => ⟨hk.1, (by simp [Value.ownBlock])⟩), by (with_reducible repeat (first | apply Kd.R_alloc | apply Kd.R_drewN | apply Kd.R_drew)); exact Kd.R_mono (Kd.R_far (p := ⟨gb976, 2, none⟩) (Kd.R_far (p := ⟨gb976, 1, none⟩) (Kd.R_far (p := ⟨gb976, 0, none⟩) (Kd.R_types HO_985002.out BK976.out (by decide)) (fun _ hk => hk.2) (.int .i64 t977)) (fun _ hk => hk.2) (.slice Ao14 t978.length co14)) (fun _ hk => hk.2) (.slice Ao15 t981.length co15)) (fun _ hk => ⟨hk.1, (by simp [Value.ownBlock])⟩), by first | exact Kd.R_nil _ _ _ _ _ | exact Kd.N_nil _ _ _ _ _ | exact Kd.V_nil _ _ _ _ _ | exact Kd.Q_nil _ _ _ _ _ | exact Kd.S_nil _ _ _ _ _, pkW HB.out⟩
    ·rw [if_neg c32] at H
     have c32b0 : decide (a0_0 < a1) = false := decide_eq_false c32
     clear c32
     have HC39 := am H
     clear H
     have hnb40 := NB975_976.out
     have hnc40 := NB976_975.out
     have hnb41 := NB975_984.out
     have hnc41 := NB984_975.out
     obtain ⟨hcz42_0, hcz42_1, hcz42_2, hfz42_0, hfz42_1, hfz42_2⟩ := bk3 BK975.out
     go_upto_region 6 with (fail)
     go_cut [25] (fun v25 wc => ∃ (kq : Nat) (x25_38 : Bool), v25 = .bool x25_38 ∧ Aside0 (spec_CountDown.j1 kq a1 x25_38 a0_0 l0_1 l0_2 t977 t978 t981 = some (r1, r2, r3, r4, r5)) ∧ Aside0 (kq ≤ kj3) ∧ Aside0 (Kd.R (Kd.int .i64) 3 wc w.heap.size (fun k_ => some k_ ≠ ((.slice Ao15 t981.length co15) : Value).ownBlock) (.slice Ao14 t978.length co14) t978) ∧ Aside0 (Kd.R (Kd.int .i64) 3 wc w.heap.size (fun k_ => some k_ ≠ ((.slice Ao14 t978.length co14) : Value).ownBlock) (.slice Ao15 t981.length co15) t981) ∧ Aside0 (wc.heap[gb975]? = some (.cells #[.int .i64 a0_0, (.slice A0_1 l0_1.length c0_1), (.slice A0_2 l0_2.length c0_2)] 46 (0, 0))) ∧ Aside0 (wc.heap[gb976]? = some (.cells #[.int .i64 0, (.slice none 0 0), (.slice none 0 0)] 46 (0, 0))) ∧ Aside0 (wc.heap[gb984]? = some (.cells #[.int .i64 t977, (.slice Ao14 t978.length co14), (.slice Ao15 t981.length co15)] 46 (0, 0))) ∧ Aside0 (Below w.heap.size w wc))
     case first =>
      have H := HC39.out
      clear HC39
      by_cases c43 : a1 = a0_0
      ·rw [if_pos c43] at H
       have c43b0 : (a1 == a0_0) = true := beq_iff_eq.mpr c43
       have c43b1 : (a1 != a0_0) = false := bne_eq_false_iff_eq.mpr c43
       clear c43
       (first | rw [c43b0] | (simp only [i64_w, i32_w]; rw [c43b0]) | skip)
       have H' := am H
       clear H
       have hnb44 := NB975_976.out
       have hnc44 := NB976_975.out
       have hnb45 := NB975_984.out
       have hnc45 := NB984_975.out
       obtain ⟨hcz46_0, hcz46_1, hcz46_2, hfz46_0, hfz46_1, hfz46_2⟩ := bk3 BK975.out
       go_wp2
       go_meet
       case rel => exact ⟨_, (decide ((wrap64 ((l0_1.length : Int) + (l0_2.length : Int))) > 32)), rfx, H', ⟨by have := HJ3.out; first | omega | exact Nat.le_refl _⟩, ⟨pkR HO_985001.out⟩, ⟨pkR HO_985002.out⟩, ⟨pkK BK975.out⟩, ⟨pkK BK976.out⟩, ⟨pkK BK984.out⟩, ⟨pkW HB.out⟩⟩
      ·rw [if_neg c43] at H
       have c43b0 : (a1 == a0_0) = false := beq_eq_false_iff_ne.mpr c43
       have c43b1 : (a1 != a0_0) = true := bne_iff_ne.mpr c43
       (first | rw [c43b0] | (simp only [i64_w, i32_w]; rw [c43b0]) | skip)
       have H' := am H
       clear H
       have hnb47 := NB975_976.out
       have hnc47 := NB976_975.out
       have hnb48 := NB975_984.out
       have hnc48 := NB984_975.out
       obtain ⟨hcz49_0, hcz49_1, hcz49_2, hfz49_0, hfz49_1, hfz49_2⟩ := bk3 BK975.out
       go_wp2
       go_meet
       case rel => exact ⟨_, (false), rfx, H', ⟨by have := HJ3.out; first | omega | exact Nat.le_refl _⟩, ⟨pkR HO_985001.out⟩, ⟨pkR HO_985002.out⟩, ⟨pkK BK975.out⟩, ⟨pkK BK976.out⟩, ⟨pkK BK984.out⟩, ⟨pkW HB.out⟩⟩
     case rest =>
      clear HC39
      try clear c1
      try clear c2
      try clear p2
      try clear c3
      try clear c4
      try clear p6
      try clear c7
      try clear c11
      try clear c12
      try clear c17
      try clear c18
      try clear c19
      try clear c22
      try clear c23
      try clear c24
      try clear c26
      try clear c27
      try clear c28
      try clear c30
      try clear c32
      try clear c32b0
      try clear c33
      try clear c34
      try clear c36
      try clear c40
      try clear c41
      try clear c43
      try clear c43b0
      try clear c43b1
      try clear c44
      try clear c45
      try clear c47
      try clear c48
      try clear hcz13_0
      try clear hcz13_1
      try clear hcz13_2
      try clear hcz20_0
      try clear hcz20_1
      try clear hcz20_2
      try clear hcz24_0
      try clear hcz24_1
      try clear hcz24_2
      try clear hcz29_0
      try clear hcz29_1
      try clear hcz29_2
      try clear hcz31_0
      try clear hcz31_1
      try clear hcz31_2
      try clear hcz35_0
      try clear hcz35_1
      try clear hcz35_2
      try clear hcz37_0
      try clear hcz37_1
      try clear hcz37_2
      try clear hcz38_0
      try clear hcz38_1
      try clear hcz38_2
      try clear hcz42_0
      try clear hcz42_1
      try clear hcz42_2
      try clear hcz46_0
      try clear hcz46_1
      try clear hcz46_2
      try clear hcz49_0
      try clear hcz49_1
      try clear hcz49_2
      try clear hcz8_0
      try clear hcz8_1
      try clear hcz8_2
      try clear hfz13_0
      try clear hfz13_1
      try clear hfz13_2
      try clear hfz20_0
      try clear hfz20_1
      try clear hfz20_2
      try clear hfz24_0
      try clear hfz24_1
      try clear hfz24_2
      try clear hfz29_0
      try clear hfz29_1
      try clear hfz29_2
      try clear hfz31_0
      try clear hfz31_1
      try clear hfz31_2
      try clear hfz35_0
      try clear hfz35_1
      try clear hfz35_2
      try clear hfz37_0
      try clear hfz37_1
      try clear hfz37_2
      try clear hfz38_0
      try clear hfz38_1
      try clear hfz38_2
      try clear hfz42_0
      try clear hfz42_1
      try clear hfz42_2
      try clear hfz46_0
      try clear hfz46_1
      try clear hfz46_2
      try clear hfz49_0
      try clear hfz49_1
      try clear hfz49_2
      try clear hfz8_0
      try clear hfz8_1
      try clear hfz8_2
      try clear p2
      obtain ⟨kq, x25_38, rfl, HA, HJ38, HO_985001, HO_985002, BK975, BK976, BK984, HB⟩ := hcut
      cases kq with
      | zero => exact absurd HA.out (by simp [spec_CountDown.j1])
      | succ kj38 =>
       have H := HA.out
       clear HA
       simp only [spec_CountDown.j1] at H
       by_cases c50 : x25_38 = true
       ·subst c50
        replace H : (some (t977, t978, t981, ([] : List Int), 2)) = some (r1, r2, r3, r4, r5) := by rw [if_pos rfl] at H; exact H
        simp only [Option.some.injEq, Prod.mk.injEq] at H
        obtain ⟨rfl, rfl, rfl, rfl, rfl⟩ := H
        have hnb51 := NB984_975.out
        have hnc51 := NB975_984.out
        have hnb52 := NB984_976.out
        have hnc52 := NB976_984.out
        obtain ⟨hcz53_0, hcz53_1, hcz53_2, hfz53_0, hfz53_1, hfz53_2⟩ := bk3 BK984.out
        have hnb54 := NB976_975.out
        have hnc54 := NB975_976.out
        obtain ⟨hcz55_0, hcz55_1, hcz55_2, hfz55_0, hfz55_1, hfz55_2⟩ := bk3 BK976.out
        go_wp2
        refine bodyPost_ret (results_ctt rfl _ _ gb976 46 #[.int .i64 t977, .slice Ao14 t978.length co14, .slice Ao15 t981.length co15] (0, 0) _ rfl (by (with_reducible repeat (first | refine blk_drewN ?_ _ | refine blk_drew ?_ | refine blk_alloc ?_ _)); refine blk_put (cs := #[.int .i64 t977, .slice Ao14 t978.length co14, .slice none 0 0]) ?_ 2 _ rfl; (with_reducible repeat (first | refine blk_drewN ?_ _ | refine blk_drew ?_ | refine blk_alloc ?_ _)); refine blk_put (cs := #[.int .i64 t977, .slice none 0 0, .slice none 0 0]) ?_ 1 _ rfl; (with_reducible repeat (first | refine blk_drewN ?_ _ | refine blk_drew ?_ | refine blk_alloc ?_ _)); refine blk_put (cs := #[.int .i64 0, .slice none 0 0, .slice none 0 0]) ?_ 0 _ rfl; exact pkK BK976.out) Try.underlying46 rfl (by kernel_rfl)) rfl ?_
        exact ⟨_, _, _, rfe, by (with_reducible repeat (first | apply Kd.R_alloc | apply Kd.R_drewN | apply Kd.R_drew)); exact Kd.R_mono (Kd.R_far (p := ⟨gb976, 2, none⟩) (Kd.R_far (p := ⟨gb976, 1, none⟩) (Kd.R_far (p := ⟨gb976, 0, none⟩) (Kd.R_types HO_985001.out BK976.out (by decide)) (fun _ hk => hk.2) (.int .i64 t977)) (fun _ hk => hk.2) (.slice Ao14 t978.length co14)) (fun _ hk => hk.2) (.slice Ao15 t981.length co15)) (fun _ hk => ⟨hk.1, (by simp [Value.ownBlock])⟩), by (with_reducible repeat (first | apply Kd.R_alloc | apply Kd.R_drewN | apply Kd.R_drew)); exact Kd.R_mono (Kd.R_far (p := ⟨gb976, 2, none⟩) (Kd.R_far (p := ⟨gb976, 1, none⟩) (Kd.R_far (p := ⟨gb976, 0, none⟩) (Kd.R_types HO_985002.out BK976.out (by decide)) (fun _ hk => hk.2) (.int .i64 t977)) (fun _ hk => hk.2) (.slice Ao14 t978.length co14)) (fun _ hk => hk.2) (.slice Ao15 t981.length co15)) (fun _ hk => ⟨hk.1, (by simp [Value.ownBlock])⟩), by first | exact Kd.R_nil _ _ _ _ _ | exact Kd.N_nil _ _ _ _ _ | exact Kd.V_nil _ _ _ _ _ | exact Kd.Q_nil _ _ _ _ _ | exact Kd.S_nil _ _ _ _ _, pkW HB.out⟩
       ·replace c50 := Bool.eq_false_iff.mpr c50
        subst c50
        replace H : (if (wrap64 (t977 - a1)) > 0 then (some (wrap64 (t977 - a1), t978, t981, ([] : List Int), 0)) else (if t981.length + l0_1.length < 17592186044416 then ((spec_l2Copy.f l0_1).bind fun t989 => (some (wrap64 (t977 - a1), ([] : List Int), (t981 ++ l0_1), t989, 0))) else (none))) = some (r1, r2, r3, r4, r5) := by rw [if_neg (show ¬ (false = true) by decide)] at H; exact H
        by_cases c56 : (wrap64 (t977 - a1)) > 0
        ·rw [if_pos c56] at H
         have c56b0 : decide (0 < (wrap64 (t977 - a1))) = true := decide_eq_true c56
         clear c56
         simp only [Option.some.injEq, Prod.mk.injEq] at H
         obtain ⟨rfl, rfl, rfl, rfl, rfl⟩ := H
         have hnb57 := NB984_975.out
         have hnc57 := NB975_984.out
         have hnb58 := NB984_976.out
         have hnc58 := NB976_984.out
         obtain ⟨hcz59_0, hcz59_1, hcz59_2, hfz59_0, hfz59_1, hfz59_2⟩ := bk3 BK984.out
         have hnb60 := NB976_975.out
         have hnc60 := NB975_976.out
         obtain ⟨hcz61_0, hcz61_1, hcz61_2, hfz61_0, hfz61_1, hfz61_2⟩ := bk3 BK976.out
         go_wp2
         refine bodyPost_ret (results_ctt rfl _ _ gb976 46 #[.int .i64 (wrap64 (t977 - a1)), .slice Ao14 t978.length co14, .slice Ao15 t981.length co15] (0, 0) _ rfl (by (with_reducible repeat (first | refine blk_drewN ?_ _ | refine blk_drew ?_ | refine blk_alloc ?_ _)); refine blk_put (cs := #[.int .i64 (wrap64 (t977 - a1)), .slice Ao14 t978.length co14, .slice none 0 0]) ?_ 2 _ rfl; (with_reducible repeat (first | refine blk_drewN ?_ _ | refine blk_drew ?_ | refine blk_alloc ?_ _)); refine blk_put (cs := #[.int .i64 (wrap64 (t977 - a1)), .slice none 0 0, .slice none 0 0]) ?_ 1 _ rfl; (with_reducible repeat (first | refine blk_drewN ?_ _ | refine blk_drew ?_ | refine blk_alloc ?_ _)); refine blk_put (cs := #[.int .i64 0, .slice none 0 0, .slice none 0 0]) ?_ 0 _ rfl; (with_reducible repeat (first | refine blk_drewN ?_ _ | refine blk_drew ?_ | refine blk_alloc ?_ _)); refine blk_far ?_ NB976_984.out _; exact pkK BK976.out) Try.underlying46 rfl (by kernel_rfl)) rfl ?_
         exact ⟨_, _, _, rfe, by (with_reducible repeat (first | apply Kd.R_alloc | apply Kd.R_drewN | apply Kd.R_drew)); exact Kd.R_mono (Kd.R_far (p := ⟨gb976, 2, none⟩) (Kd.R_far (p := ⟨gb976, 1, none⟩) (Kd.R_far (p := ⟨gb976, 0, none⟩) (Kd.R_far (p := ⟨gb984, 0, none⟩) (Kd.R_types (Kd.R_types HO_985001.out BK984.out (by decide)) BK976.out (by decide)) (fun _ hk => hk.1.2) (.int .i64 (wrap64 (t977 - a1)))) (fun _ hk => hk.2) (.int .i64 (wrap64 (t977 - a1)))) (fun _ hk => hk.2) (.slice Ao14 t978.length co14)) (fun _ hk => hk.2) (.slice Ao15 t981.length co15)) (fun _ hk => ⟨hk.1.1, (by simp [Value.ownBlock])⟩), by (with_reducible repeat (first | apply Kd.R_alloc | apply Kd.R_drewN | apply Kd.R_drew)); exact Kd.R_mono (Kd.R_far (p := ⟨gb976, 2, none⟩) (Kd.R_far (p := ⟨gb976, 1, none⟩) (Kd.R_far (p := ⟨gb976, 0, none⟩) (Kd.R_far (p := ⟨gb984, 0, none⟩) (Kd.R_types (Kd.R_types HO_985002.out BK984.out (by decide)) BK976.out (by decide)) (fun _ hk => hk.1.2) (.int .i64 (wrap64 (t977 - a1)))) (fun _ hk => hk.2) (.int .i64 (wrap64 (t977 - a1)))) (fun _ hk => hk.2) (.slice Ao14 t978.length co14)) (fun _ hk => hk.2) (.slice Ao15 t981.length co15)) (fun _ hk => ⟨hk.1.1, (by simp [Value.ownBlock])⟩), by first | exact Kd.R_nil _ _ _ _ _ | exact Kd.N_nil _ _ _ _ _ | exact Kd.V_nil _ _ _ _ _ | exact Kd.Q_nil _ _ _ _ _ | exact Kd.S_nil _ _ _ _ _, pkW HB.out⟩
        ·rw [if_neg c56] at H
         have c56b0 : decide (0 < (wrap64 (t977 - a1))) = false := decide_eq_false c56
         clear c56
         by_cases c62 : t981.length + l0_1.length < 17592186044416
         ·rw [if_pos c62] at H
          have LMc62 := am c62
          clear c62
          obtain ⟨y986, hy986⟩ : ∃ y_ : List Int, y_ = (t981 ++ l0_1) := ⟨_, rfl⟩
          replace H : ((spec_l2Copy.f l0_1).bind fun t989 => (some (wrap64 (t977 - a1), ([] : List Int), y986, t989, 0))) = some (r1, r2, r3, r4, r5) := by first | (rw [hy986]; with_reducible exact H) | (have H2_ := (Option.bind_some _ _).symm.trans H; rw [hy986]; with_reducible exact H2_) | (have H2_ := (Option.bind_some _ _).symm.trans H; with_reducible exact H2_) | with_reducible exact H | (rw [hy986]; exact H) | exact H
          have Ny986 := am hy986
          clear hy986
          replace H := Option.bind_eq_some_iff.mp H
          obtain ⟨t989, A630, H⟩ := H
          replace H : (some (wrap64 (t977 - a1), ([] : List Int), y986, t989, 0)) = some (r1, r2, r3, r4, r5) := H
          have A63 := am A630
          clear A630
          simp only [Option.some.injEq, Prod.mk.injEq] at H
          obtain ⟨rfl, rfl, rfl, rfl, rfl⟩ := H
          have hnb64 := NB984_975.out
          have hnc64 := NB975_984.out
          have hnb65 := NB984_976.out
          have hnc65 := NB976_984.out
          obtain ⟨hcz66_0, hcz66_1, hcz66_2, hfz66_0, hfz66_1, hfz66_2⟩ := bk3 BK984.out
          have hnb67 := NB975_976.out
          have hnc67 := NB976_975.out
          obtain ⟨hcz68_0, hcz68_1, hcz68_2, hfz68_0, hfz68_1, hfz68_2⟩ := bk3 BK975.out
          try go_wp2_with (first | ((with_reducible refine gate_builtin (b := .append) (xs := #[.tmp 51, .tmp 53]) rfl ?_); (try (refine gate_guard (by rfl) ?_; dsimp only)); at_builtin; refine Kd.R_append_rows (Kd.int .i64) (w0 := w) w.heap.size rfl (.tmp 51) (.tmp 53) 27 3 (.int .i64 0) 8 rfl Try.underlying27 info3 rfl (by decide) (by omega) (.slice Ao15 t981.length co15) t981 l0_1 _ _ _ (fun k_ => some k_ ≠ (.slice Ao14 t978.length co14 : Value).ownBlock) (fun _ => False) rfl rfl ?aO ?aR (fun _ _ h => h) (fun _ h => h.elim) ?aF ?aB ?aS ?aL ?_; (case aR => exact Kd.C_below HR0_1.out (pkW HB.out)); (case aB => exact (pkW HB.out)); (case aF => exact (fun k_ hk => Kd.fresh' (Kd.R_lt (by (with_reducible repeat (first | apply Kd.R_alloc | apply Kd.R_drewN | apply Kd.R_drew)); exact (Kd.R_mono (Kd.R_far (p := ⟨gb984, 0, none⟩) (Kd.R_types HO_985001.out BK984.out (by decide)) (fun _ hk => hk.2) (.int .i64 (wrap64 (t977 - a1)))) (fun _ h_ => h_.1)))) k_ hk)); (case aO => exact (by (with_reducible repeat (first | apply Kd.R_alloc | apply Kd.R_drewN | apply Kd.R_drew)); exact Kd.R_mono (Kd.R_far (p := ⟨gb984, 0, none⟩) (Kd.R_types HO_985002.out BK984.out (by decide)) (fun _ hk => hk.2) (.int .i64 (wrap64 (t977 - a1)))) (fun _ hk => hk.1))); (case aS => exact (below_size (pkW HB.out))); (case aL => have := LMc62.out; omega); intro v987 w69 ho hb hg hat; rw [← Ny986.out] at ho; replace HO_985001 := am (Kd.R_after (ok := (fun _ => True)) (by (with_reducible repeat (first | apply Kd.R_alloc | apply Kd.R_drewN | apply Kd.R_drew)); exact Kd.R_mono (Kd.R_far (p := ⟨gb984, 0, none⟩) (Kd.R_types HO_985001.out BK984.out (by decide)) (fun _ hk => hk.2) (.int .i64 (wrap64 (t977 - a1)))) (fun _ hk => ⟨trivial, hk.1⟩)) hg hat); replace BK975 := am (blk_grown (g := gb975) (o := .cells #[.int .i64 a0_0, .slice A0_1 l0_1.length c0_1, .slice A0_2 l0_2.length c0_2] 46 (0, 0)) (by (with_reducible repeat (first | refine blk_drewN ?_ _ | refine blk_drew ?_ | refine blk_alloc ?_ _)); refine blk_far ?_ NB975_984.out _; exact pkK BK975.out) hg (Kd.R_ne HO_985002.out BK975.out (by decide))); replace BK976 := am (blk_grown (g := gb976) (o := .cells #[.int .i64 0, .slice none 0 0, .slice none 0 0] 46 (0, 0)) (by (with_reducible repeat (first | refine blk_drewN ?_ _ | refine blk_drew ?_ | refine blk_alloc ?_ _)); refine blk_far ?_ NB976_984.out _; exact pkK BK976.out) hg (Kd.R_ne HO_985002.out BK976.out (by decide))); replace BK984 := am (blk_grown (g := gb984) (o := .cells #[.int .i64 (wrap64 (t977 - a1)), .slice Ao14 t978.length co14, .slice Ao15 t981.length co15] 46 (0, 0)) (by (with_reducible repeat (first | refine blk_drewN ?_ _ | refine blk_drew ?_ | refine blk_alloc ?_ _)); refine blk_put (cs := #[.int .i64 t977, .slice Ao14 t978.length co14, .slice Ao15 t981.length co15]) ?_ 0 _ rfl; exact pkK BK984.out) hg (Kd.R_ne HO_985002.out BK984.out (by decide))); replace HB := am (hb); have HO988 := am (ho); clear HO_985002; clear ho hb hg hat; obtain ⟨Ao70, co70, eo70⟩ := Kd.R_slice HO988.out; subst eo70; obtain ⟨hcz71_0, hcz71_1, hcz71_2, hfz71_0, hfz71_1, hfz71_2⟩ := bk3 BK984.out))
          have n0_ : Aside0 (Kd.R (Kd.int .i64) 3 ((w69.setCell ⟨gb984, 2, none⟩ (.slice Ao70 y986.length co70)).setCell ⟨gb984, 1, none⟩ (.slice none 0 0)) w.heap.size (fun k_ => some k_ ≠ (.slice Ao70 y986.length co70 : Value).ownBlock) (.slice Ao14 t978.length co14) t978) := ⟨by (with_reducible repeat (first | apply Kd.R_alloc | apply Kd.R_drewN | apply Kd.R_drew)); exact Kd.R_mono (Kd.R_far (p := ⟨gb984, 1, none⟩) (Kd.R_far (p := ⟨gb984, 2, none⟩) (Kd.R_types HO_985001.out BK984.out (by decide)) (fun _ hk => hk.2) (.slice Ao70 y986.length co70)) (fun _ hk => hk.2) (.slice none 0 0)) (fun _ hk => hk.1.2)⟩
          have n1_ : Aside0 (Kd.R (Kd.int .i64) 3 ((w69.setCell ⟨gb984, 2, none⟩ (.slice Ao70 y986.length co70)).setCell ⟨gb984, 1, none⟩ (.slice none 0 0)) w.heap.size (fun k_ => some k_ ≠ (.slice Ao14 t978.length co14 : Value).ownBlock) (.slice Ao70 y986.length co70) y986) := ⟨by (with_reducible repeat (first | apply Kd.R_alloc | apply Kd.R_drewN | apply Kd.R_drew)); exact Kd.R_mono (Kd.R_far (p := ⟨gb984, 1, none⟩) (Kd.R_far (p := ⟨gb984, 2, none⟩) (Kd.R_types HO988.out BK984.out (by decide)) (fun _ hk => hk.2) (.slice Ao70 y986.length co70)) (fun _ hk => hk.2) (.slice none 0 0)) (fun _ hk => hk.1)⟩
          have n2_ : Aside0 (((w69.setCell ⟨gb984, 2, none⟩ (.slice Ao70 y986.length co70)).setCell ⟨gb984, 1, none⟩ (.slice none 0 0)).heap[gb975]? = some (.cells #[.int .i64 a0_0, .slice A0_1 l0_1.length c0_1, .slice A0_2 l0_2.length c0_2] 46 (0, 0))) := ⟨by (with_reducible repeat (first | refine blk_drewN ?_ _ | refine blk_drew ?_ | refine blk_alloc ?_ _)); refine blk_far ?_ NB975_984.out _; (with_reducible repeat (first | refine blk_drewN ?_ _ | refine blk_drew ?_ | refine blk_alloc ?_ _)); refine blk_far ?_ NB975_984.out _; exact pkK BK975.out⟩
          have n3_ : Aside0 (((w69.setCell ⟨gb984, 2, none⟩ (.slice Ao70 y986.length co70)).setCell ⟨gb984, 1, none⟩ (.slice none 0 0)).heap[gb976]? = some (.cells #[.int .i64 0, .slice none 0 0, .slice none 0 0] 46 (0, 0))) := ⟨by (with_reducible repeat (first | refine blk_drewN ?_ _ | refine blk_drew ?_ | refine blk_alloc ?_ _)); refine blk_far ?_ NB976_984.out _; (with_reducible repeat (first | refine blk_drewN ?_ _ | refine blk_drew ?_ | refine blk_alloc ?_ _)); refine blk_far ?_ NB976_984.out _; exact pkK BK976.out⟩
          have n4_ : Aside0 (((w69.setCell ⟨gb984, 2, none⟩ (.slice Ao70 y986.length co70)).setCell ⟨gb984, 1, none⟩ (.slice none 0 0)).heap[gb984]? = some (.cells #[.int .i64 (wrap64 (t977 - a1)), .slice none 0 0, .slice Ao70 y986.length co70] 46 (0, 0))) := ⟨by (with_reducible repeat (first | refine blk_drewN ?_ _ | refine blk_drew ?_ | refine blk_alloc ?_ _)); refine blk_put (cs := #[.int .i64 (wrap64 (t977 - a1)), .slice Ao14 t978.length co14, .slice Ao70 y986.length co70]) ?_ 1 _ rfl; (with_reducible repeat (first | refine blk_drewN ?_ _ | refine blk_drew ?_ | refine blk_alloc ?_ _)); refine blk_put (cs := #[.int .i64 (wrap64 (t977 - a1)), .slice Ao14 t978.length co14, .slice Ao15 t981.length co15]) ?_ 2 _ rfl; exact pkK BK984.out⟩
          have n5_ : Aside0 (Below w.heap.size w ((w69.setCell ⟨gb984, 2, none⟩ (.slice Ao70 y986.length co70)).setCell ⟨gb984, 1, none⟩ (.slice none 0 0))) := ⟨pkW HB.out⟩
          (try clear HO_985001); (try clear HO988); (try clear BK975); (try clear BK976); (try clear BK984); (try clear HB)
          generalize ((w69.setCell ⟨gb984, 2, none⟩ (.slice Ao70 y986.length co70)).setCell ⟨gb984, 1, none⟩ (.slice none 0 0)) = w72 at n0_ n1_ n2_ n3_ n4_ n5_ ⊢
          have HO_985001 := n0_; have HO988 := n1_; have BK975 := n2_; have BK976 := n3_; have BK984 := n4_; have HB := n5_
          clear n0_ n1_ n2_ n3_ n4_ n5_
          replace HO_985001 := am (Kd.R_drew HO_985001.out)
          replace HO988 := am (Kd.R_drew HO988.out)
          replace BK975 := am (blk_drew BK975.out)
          replace BK976 := am (blk_drew BK976.out)
          replace BK984 := am (blk_drew BK984.out)
          replace HB := am (below_drew1 HB.out)
          refine start_ (n := 7) (S := fun w' => w'.cell? ⟨gb984, 0, none⟩ = some (.int .i64 (wrap64 (t977 - a1))) ∧ w'.cell? ⟨gb984, 1, none⟩ = some (.slice none 0 0) ∧ w'.cell? ⟨gb984, 2, none⟩ = some (.slice Ao70 y986.length co70) ∧ w'.cell? ⟨gb975, 0, none⟩ = some (.int .i64 a0_0) ∧ w'.cell? ⟨gb975, 1, none⟩ = some (.slice A0_1 l0_1.length c0_1) ∧ w'.cell? ⟨gb975, 2, none⟩ = some (.slice A0_2 l0_2.length c0_2)) (ds := []) #[false, false, false, false, false, false, false] (by kernel_rfl) rfl rfl ⟨(blk_cell BK984.out 0).trans rfl, (blk_cell BK984.out 1).trans rfl, (blk_cell BK984.out 2).trans rfl, (blk_cell BK975.out 0).trans rfl, (blk_cell BK975.out 1).trans rfl, (blk_cell BK975.out 2).trans rfl⟩ (fun hHeld => ?_)
          generalize w72.drew = w73 at HO_985001 HO988 BK975 BK976 BK984 HB hHeld ⊢
          refine pure_ (i := 1) (N := some 58) (v := ?_) (a' := ?_) #[false, true, false, false, false, false, false] rfl rfl (by kernel_rfl) (fun _ _ _ h => h) (Or.inl ⟨by rfl, ?_⟩) ?_ ?_
          rotate_left
          ·intro w'
           go_simp
           with_reducible rfl
          rotate_left
          ·simp only [Act.put, List.setIfInBounds_toArray, List.set_cons_zero, List.set_cons_succ, i64_w, i32_w]
           rfl
          refine take_ (i := 0) (N := some 57) (v := ?_) (a' := ?_) #[true, true, false, false, false, false, false] rfl rfl (by kernel_rfl) (fun _ _ _ h => h) (Or.inl ⟨by rfl, ?_⟩) hHeld ?_ ?_
          rotate_left
          ·rintro w' ⟨s0, s1, s2, s3, s4, s5⟩
           go_simp
           with_reducible rfl
          rotate_left
          ·simp only [Act.put, List.setIfInBounds_toArray, List.set_cons_zero, List.set_cons_succ, i64_w, i32_w]
           rfl
          refine take_ (i := 2) (N := some 59) (v := ?_) (a' := ?_) #[true, true, true, false, false, false, false] rfl rfl (by kernel_rfl) (fun _ _ _ h => h) (Or.inl ⟨by rfl, ?_⟩) hHeld ?_ ?_
          rotate_left
          ·rintro w' ⟨s0, s1, s2, s3, s4, s5⟩
           go_simp
           with_reducible rfl
          rotate_left
          ·simp only [Act.put, List.setIfInBounds_toArray, List.set_cons_zero, List.set_cons_succ, i64_w, i32_w]
           rfl
          refine one_ (i := 3) (N := some 60) #[true, true, true, true, false, false, false] rfl rfl (by kernel_rfl) (by decide) (fun K hK => ?_)
          refine goes_ Try.func78 (by kernel_rfl) rfl #[.slice A0_1 l0_1.length c0_1] (by rfl) rfl rfl mpx ?_
          with_reducible refine (spec_l2Copy.calls _ _ l0_1 t989 _ ?side1 ?side2 A63.out).mono ?_
          (case side1 => exact pkC (Kd.C_below HR0_1.out HB.out))
          (case side2 => exact HC0_1.out)
          rintro e w74 ⟨v990, rfl, ho0, hb⟩
          refine ⟨_, rfl, ?_⟩
          have HO991 := am (Kd.R_lower (Kd.R_new' (Kd.R_new' ho0 (Kd.R_lt (pkR HO_985001.out))) (Kd.R_lt (pkR HO988.out))) (below_size (pkW HB.out)))
          replace HO_985001 := am (Kd.R_elder' (pkR HO_985001.out) (Kd.R_base ho0) hb)
          replace HO988 := am (Kd.R_elder' (pkR HO988.out) (Kd.R_base ho0) hb)
          replace BK975 := am (blk_below (pkK BK975.out) hb)
          replace BK976 := am (blk_below (pkK BK976.out) hb)
          replace BK984 := am (blk_below (pkK BK984.out) hb)
          replace HB := am (below_step (pkW HB.out) hb)
          (try clear hb); (try clear ho0)
          refine hK.out _ _ ⟨(blk_cell BK984.out 0).trans rfl, (blk_cell BK984.out 1).trans rfl, (blk_cell BK984.out 2).trans rfl, (blk_cell BK975.out 0).trans rfl, (blk_cell BK975.out 1).trans rfl, (blk_cell BK975.out 2).trans rfl⟩ (fun hHeld => ?_)
          clear hK K
          refine norm_ (a' := ?_) ?_ ?_
          rotate_left
          ·show Act.put _ (some 60) _ = _
           simp only [Act.put, List.setIfInBounds_toArray, List.set_cons_zero, List.set_cons_succ, i64_w, i32_w]
           rfl
          refine one_ (i := 4) (N := none) #[true, true, true, true, true, false, false] rfl rfl (by kernel_rfl) (by decide) (fun K hK => ?_)
          have hs75 : w74.cell? ⟨gb976, 0, none⟩ = some (.int .i64 0) := (blk_cell BK976.out 0).trans rfl
          have hfs75 := blk_frozen BK976.out 0
          have hns75_0 := NB975_976.out
          have hns75_2 := NB984_976.out
          have hms75_0 := NB976_975.out
          have hms75_2 := NB976_984.out
          have hs76 : w74.cell? ⟨gb976, 1, none⟩ = some (.slice none 0 0) := (blk_cell BK976.out 1).trans rfl
          have hfs76 := blk_frozen BK976.out 1
          have hns76_0 := NB975_976.out
          have hns76_2 := NB984_976.out
          have hms76_0 := NB976_975.out
          have hms76_2 := NB976_984.out
          have hs77 : w74.cell? ⟨gb976, 2, none⟩ = some (.slice none 0 0) := (blk_cell BK976.out 2).trans rfl
          have hfs77 := blk_frozen BK976.out 2
          have hns77_0 := NB975_976.out
          have hns77_2 := NB984_976.out
          have hms77_0 := NB976_975.out
          have hms77_2 := NB976_984.out
          refine skip_ (w1 := ?_) (by rfl) rfl ?_ ?_
          rotate_left
          ·go_simp
           rfl
          refine hK.out _ _ ⟨((cell_far (p := ⟨gb976, _, none⟩) NB984_976.out _).trans (((cell_far (p := ⟨gb976, _, none⟩) NB984_976.out _).trans (((cell_far (p := ⟨gb976, _, none⟩) NB984_976.out _).trans (hHeld.1)))))), ((cell_far (p := ⟨gb976, _, none⟩) NB984_976.out _).trans (((cell_far (p := ⟨gb976, _, none⟩) NB984_976.out _).trans (((cell_far (p := ⟨gb976, _, none⟩) NB984_976.out _).trans (hHeld.2.1)))))), ((cell_far (p := ⟨gb976, _, none⟩) NB984_976.out _).trans (((cell_far (p := ⟨gb976, _, none⟩) NB984_976.out _).trans (((cell_far (p := ⟨gb976, _, none⟩) NB984_976.out _).trans (hHeld.2.2.1)))))), ((cell_far (p := ⟨gb976, _, none⟩) NB975_976.out _).trans (((cell_far (p := ⟨gb976, _, none⟩) NB975_976.out _).trans (((cell_far (p := ⟨gb976, _, none⟩) NB975_976.out _).trans (hHeld.2.2.2.1)))))), ((cell_far (p := ⟨gb976, _, none⟩) NB975_976.out _).trans (((cell_far (p := ⟨gb976, _, none⟩) NB975_976.out _).trans (((cell_far (p := ⟨gb976, _, none⟩) NB975_976.out _).trans (hHeld.2.2.2.2.1)))))), ((cell_far (p := ⟨gb976, _, none⟩) NB975_976.out _).trans (((cell_far (p := ⟨gb976, _, none⟩) NB975_976.out _).trans (((cell_far (p := ⟨gb976, _, none⟩) NB975_976.out _).trans (hHeld.2.2.2.2.2))))))⟩ (fun hHeld => ?_)
          clear hK K
          refine pure_ (i := 5) (N := some 5) (v := ?_) (a' := ?_) #[true, true, true, true, true, true, false] rfl rfl (by kernel_rfl) (fun _ _ _ h => h) (Or.inl ⟨by rfl, ?_⟩) ?_ ?_
          rotate_left
          ·intro w'
           go_simp
           with_reducible rfl
          rotate_left
          ·simp only [Act.put, List.setIfInBounds_toArray, List.set_cons_zero, List.set_cons_succ, i64_w, i32_w]
           rfl
          refine pure_ (i := 6) (N := some 6) (v := ?_) (a' := ?_) #[true, true, true, true, true, true, true] rfl rfl (by kernel_rfl) (fun _ _ _ h => h) (Or.inl ⟨by rfl, ?_⟩) ?_ ?_
          rotate_left
          ·intro w'
           go_simp
           with_reducible rfl
          rotate_left
          ·simp only [Act.put, List.setIfInBounds_toArray, List.set_cons_zero, List.set_cons_succ, i64_w, i32_w]
           rfl
          refine done_ (by kernel_rfl) ?_
          try go_wp2
          refine bodyPost_ret (results_ctt rfl _ _ gb976 46 #[.int .i64 (wrap64 (t977 - a1)), .slice none 0 0, .slice Ao70 y986.length co70] (0, 0) _ rfl (by (with_reducible repeat (first | refine blk_drewN ?_ _ | refine blk_drew ?_ | refine blk_alloc ?_ _)); refine blk_put (cs := #[.int .i64 (wrap64 (t977 - a1)), .slice none 0 0, .slice none 0 0]) ?_ 2 _ rfl; (with_reducible repeat (first | refine blk_drewN ?_ _ | refine blk_drew ?_ | refine blk_alloc ?_ _)); refine blk_put (cs := #[.int .i64 (wrap64 (t977 - a1)), .slice none 0 0, .slice none 0 0]) ?_ 1 _ rfl; (with_reducible repeat (first | refine blk_drewN ?_ _ | refine blk_drew ?_ | refine blk_alloc ?_ _)); refine blk_put (cs := #[.int .i64 0, .slice none 0 0, .slice none 0 0]) ?_ 0 _ rfl; exact pkK BK976.out) Try.underlying46 rfl (by kernel_rfl)) rfl ?_
          exact ⟨_, _, _, rfe, by first | exact Kd.R_nil _ _ _ _ _ | exact Kd.N_nil _ _ _ _ _ | exact Kd.V_nil _ _ _ _ _ | exact Kd.Q_nil _ _ _ _ _ | exact Kd.S_nil _ _ _ _ _, by (with_reducible repeat (first | apply Kd.R_alloc | apply Kd.R_drewN | apply Kd.R_drew)); exact Kd.R_mono (Kd.R_far (p := ⟨gb976, 2, none⟩) (Kd.R_far (p := ⟨gb976, 1, none⟩) (Kd.R_far (p := ⟨gb976, 0, none⟩) (Kd.R_types HO988.out BK976.out (by decide)) (fun _ hk => hk.2) (.int .i64 (wrap64 (t977 - a1)))) (fun _ hk => hk.2) (.slice none 0 0)) (fun _ hk => hk.2) (.slice Ao70 y986.length co70)) (fun _ hk => ⟨(by simp [Value.ownBlock]), hk.1.2⟩), by (with_reducible repeat (first | apply Kd.R_alloc | apply Kd.R_drewN | apply Kd.R_drew)); exact Kd.R_mono (Kd.R_far (p := ⟨gb976, 2, none⟩) (Kd.R_far (p := ⟨gb976, 1, none⟩) (Kd.R_far (p := ⟨gb976, 0, none⟩) (Kd.R_types HO991.out BK976.out (by decide)) (fun _ hk => hk.2) (.int .i64 (wrap64 (t977 - a1)))) (fun _ hk => hk.2) (.slice none 0 0)) (fun _ hk => hk.2) (.slice Ao70 y986.length co70)) (fun _ hk => ⟨(by simp [Value.ownBlock]), hk.1.2⟩), pkW HB.out⟩
         ·rw [if_neg c62] at H
          exact absurd H (by simp)
end Go.Proofs.Ytffcphplnilokaa.Z
