import Derived.Test.YtdagpmnadapbjaaZx0
import Derived.Test.YtdagpmnadapbjaaZx15
import Derived.Test.YtdagpmnadapbjaaZx20
import Derived.Test.YtdagpmnadapbjaaZx32
namespace Go.Proofs.Ytdagpmnadapbjaa.Z
open Go.RowKit Go.Proofs.YtdagpmnadapbjaaW.PrintWords Go.Proofs.YtdagpmnadapbjaaW.PrintLast Go.Proofs.YtdagpmnadapbjaaW.PrintMore
attribute [local go_sem] max2_int min2_int max_two min_two max_three min_three max_four min_four   -- for this text's walks alone
set_option linter.unusedVariables false
set_option linter.unusedSimpArgs false
def spec_TellAll.l0 : Nat → Int → Bool → List Int → List (S67) → Int → Int → Int → Bool → List Int → List (S67) → Int → Int → Int → Option (Bool × List Int × (List (S67)) × Int × Int × Int × List Int × Int)
  | 0, _, _, _, _, _, _, _, _, _, _, _, _, _ => none
  | k + 1, x6, x777000, x777001, x777002, x777003, x777004, x777005, x789000, x789001, x789002, x789003, x789004, x789005 => if x6 < (x777001.length : Int) then (if 0 ≤ x6 then (if x789002.length < 8796093022208 then (spec_TellAll.l0 k (wrap64 (x6 + 1)) x777000 x777001 x777002 x777003 x777004 x777005 x789000 x789001 (x789002 ++ [(⟨rd x777001 x6, false⟩ : S67)]) x789003 x789004 x789005) else (none)) else (none)) else ((spec_l2Copy.f x777001).bind fun t794 => (some (x789000, ([] : List Int), x789002, x789003, x789004, x789005, t794, 0)))
def spec_TellAll.f (k : Nat) (a0_0 : Bool) (l0_1 : List Int) (l0_2 : List (S67)) (a0_3 : Int) (a0_4 : Int) (a0_5 : Int) : Option (Bool × List Int × (List (S67)) × Int × Int × Int × List Int × Int) := (spec_l5Copy.f a0_0 l0_1 l0_2 a0_3 a0_4 a0_5).bind fun bt778 => ((spec_NotifyOk.f k a0_0 l0_1 l0_2 a0_3 a0_4 a0_5).bind fun t789 => (if t789 = true then (if (wrap64 ((l0_1.length : Int) + (l0_2.length : Int))) > 32 then (some (bt778.1, bt778.2.1, bt778.2.2.1, bt778.2.2.2.1, bt778.2.2.2.2.1, bt778.2.2.2.2.2, ([] : List Int), 2)) else (spec_TellAll.l0 k 0 a0_0 l0_1 l0_2 a0_3 a0_4 a0_5 bt778.1 bt778.2.1 bt778.2.2.1 bt778.2.2.2.1 bt778.2.2.2.2.1 bt778.2.2.2.2.2)) else (some (bt778.1, bt778.2.1, bt778.2.2.1, bt778.2.2.2.1, bt778.2.2.2.2.1, bt778.2.2.2.2.2, ([] : List Int), 1))))
theorem spec_TellAll.mono_l : ∀ k, (∀ y0 y1 y2 y3 y4 y5 y6 y7 y8 y9 y10 y11 y12, LeO (spec_TellAll.l0 k y0 y1 y2 y3 y4 y5 y6 y7 y8 y9 y10 y11 y12) (spec_TellAll.l0 (k + 1) y0 y1 y2 y3 y4 y5 y6 y7 y8 y9 y10 y11 y12))
  | 0 => fun _ _ _ _ _ _ _ _ _ _ _ _ _ r h => by simp [spec_TellAll.l0] at h
  | k + 1 => by
    have ih0 := spec_TellAll.mono_l k
    · intro y0 y1 y2 y3 y4 y5 y6 y7 y8 y9 y10 y11 y12
      unfold spec_TellAll.l0
      repeat' first
      | (with_reducible exact ih0 _ _ _ _ _ _ _ _ _ _ _ _ _)
      | (with_reducible exact spec_NotifyOk.mono _ _ _ _ _ _ _)
      | (with_reducible exact LeO.refl _)
      | (with_reducible exact LeO.none _)
      | (with_reducible refine LeO.ite ?_ ?_)
      | (with_reducible refine LeO.bind ?_ (fun _ => ?_))
      | exact ih0 _ _ _ _ _ _ _ _ _ _ _ _ _
      | exact spec_NotifyOk.mono _ _ _ _ _ _ _
      | exact LeO.none _
      | refine LeO.ite ?_ ?_
      | refine LeO.bind ?_ (fun _ => ?_)
theorem spec_TellAll.mono : ∀ a0 a1 a2 a3 a4 a5 k, LeO (spec_TellAll.f k a0 a1 a2 a3 a4 a5) (spec_TellAll.f (k + 1) a0 a1 a2 a3 a4 a5) := by
  intro a0 a1 a2 a3 a4 a5 k
  have ih0 := spec_TellAll.mono_l k
  unfold spec_TellAll.f
  repeat' first
      | (with_reducible exact ih0 _ _ _ _ _ _ _ _ _ _ _ _ _)
      | (with_reducible exact spec_NotifyOk.mono _ _ _ _ _ _ _)
      | (with_reducible exact LeO.refl _)
      | (with_reducible exact LeO.none _)
      | (with_reducible refine LeO.ite ?_ ?_)
      | (with_reducible refine LeO.bind ?_ (fun _ => ?_))
      | exact ih0 _ _ _ _ _ _ _ _ _ _ _ _ _
      | exact spec_NotifyOk.mono _ _ _ _ _ _ _
      | exact LeO.none _
      | refine LeO.ite ?_ ?_
      | refine LeO.bind ?_ (fun _ => ?_)
def spec_TellAll.T9 : Bool × List (List Nat × List Nat) := (true, [([], []), ([0], [0]), ([], []), ([2], [2]), ([], []), ([3, 4], [3, 4]), ([5], [5]), ([6], [6]), ([7], [7]), ([1, 8], [1, 8]), ([0, 1, 2, 3, 4, 5, 6, 7, 8, 9], []), ([10, 9, 9, 0, 1, 2, 3, 4, 5, 6, 7, 8, 9], [9, 10])])
def spec_TellAll.B9 : List Nat := [0, 1, 0, 4, 0, 28, 60, 124, 252, 511, 1023, 2047]
theorem spec_TellAll.tab9 : rtab .any (opsOf Try.f32 9) = spec_TellAll.T9 := by kernel_rfl
theorem spec_TellAll.bits9 : waitsOk spec_TellAll.T9.2 spec_TellAll.B9 = true := by kernel_rfl
set_option maxHeartbeats 8000000 in
set_option maxRecDepth 100000 in
theorem spec_TellAll.calls (k : Nat) (a0_0 : Bool) (A0_1 : Option Addr) (c0_1 : Nat) (l0_1 : List Int) (A0_2 : Option Addr) (c0_2 : Nat) (l0_2 : List (S67)) (a0_3 : Int) (a0_4 : Int) (a0_5 : Int) (r1 : Bool) (r2 : List Int) (r3 : List (S67)) (r4 : Int) (r5 : Int) (r6 : Int) (r7 : List Int) (r8 : Int) (w : World) (hr0_1 : Kd.C (Kd.int .i64) w A0_1 l0_1.length l0_1) (hc0_1 : l0_1.length ≤ c0_1) (hr0_2 : Kd.C k67 w A0_2 l0_2.length l0_2) (hc0_2 : l0_2.length ≤ c0_2) (h : spec_TellAll.f k a0_0 l0_1 l0_2 a0_3 a0_4 a0_5 = some (r1, r2, r3, r4, r5, r6, r7, r8)) :
    Calls Try.prog 32 #[.agg #[.bool a0_0, .slice A0_1 l0_1.length c0_1, .slice A0_2 l0_2.length c0_2, .int .i64 a0_3, .int .i64 a0_4, .int .i64 a0_5]] w fun e w' => ∃ v1_ v2_ v6_ : Value, e = .returned (.tuple #[.agg #[.bool r1, v1_, v2_, .int .i64 r4, .int .i64 r5, .int .i64 r6], v6_, .int .i64 r8]) ∧ Kd.R (Kd.int .i64) 3 w' w.heap.size (fun k_ => some k_ ≠ (v6_ : Value).ownBlock) v1_ r2 ∧ Kd.R k67 67 w' w.heap.size (fun _ => True) v2_ r3 ∧ Kd.R (Kd.int .i64) 3 w' w.heap.size (fun k_ => some k_ ≠ (v1_ : Value).ownBlock) v6_ r7 ∧ Below w.heap.size w w' := by
  have hu38 := Try.underlying38
  have hu67 := Try.underlying67
  have HR0_1 := Aside0.mk hr0_1
  have HC0_1 := Aside0.mk hc0_1
  clear hr0_1 hc0_1
  have HR0_2 := Aside0.mk hr0_2
  have HC0_2 := Aside0.mk hc0_2
  clear hr0_2 hc0_2
  have HB := Aside0.mk (Below.refl w.heap.size w)
  have H : ((spec_l5Copy.f a0_0 l0_1 l0_2 a0_3 a0_4 a0_5).bind fun bt778 => ((spec_NotifyOk.f k a0_0 l0_1 l0_2 a0_3 a0_4 a0_5).bind fun t789 => (if t789 = true then (if (wrap64 ((l0_1.length : Int) + (l0_2.length : Int))) > 32 then (some (bt778.1, bt778.2.1, bt778.2.2.1, bt778.2.2.2.1, bt778.2.2.2.2.1, bt778.2.2.2.2.2, ([] : List Int), 2)) else (spec_TellAll.l0 k 0 a0_0 l0_1 l0_2 a0_3 a0_4 a0_5 bt778.1 bt778.2.1 bt778.2.2.1 bt778.2.2.2.1 bt778.2.2.2.2.1 bt778.2.2.2.2.2)) else (some (bt778.1, bt778.2.1, bt778.2.2.1, bt778.2.2.2.1, bt778.2.2.2.2.1, bt778.2.2.2.2.2, ([] : List Int), 1))))) = some (r1, r2, r3, r4, r5, r6, r7, r8) := h
  clear h
  replace H := Option.bind_eq_some_iff.mp H
  obtain ⟨⟨t778, t779, t782, t785, t786, t787⟩, A20, H⟩ := H
  replace H : ((spec_NotifyOk.f k a0_0 l0_1 l0_2 a0_3 a0_4 a0_5).bind fun t789 => (if t789 = true then (if (wrap64 ((l0_1.length : Int) + (l0_2.length : Int))) > 32 then (some (t778, t779, t782, t785, t786, t787, ([] : List Int), 2)) else (spec_TellAll.l0 k 0 a0_0 l0_1 l0_2 a0_3 a0_4 a0_5 t778 t779 t782 t785 t786 t787)) else (some (t778, t779, t782, t785, t786, t787, ([] : List Int), 1)))) = some (r1, r2, r3, r4, r5, r6, r7, r8) := H
  have A2 := Aside0.mk A20
  clear A20
  replace H := Option.bind_eq_some_iff.mp H
  obtain ⟨t789, A30, H⟩ := H
  replace H : (if t789 = true then (if (wrap64 ((l0_1.length : Int) + (l0_2.length : Int))) > 32 then (some (t778, t779, t782, t785, t786, t787, ([] : List Int), 2)) else (spec_TellAll.l0 k 0 a0_0 l0_1 l0_2 a0_3 a0_4 a0_5 t778 t779 t782 t785 t786 t787)) else (some (t778, t779, t782, t785, t786, t787, ([] : List Int), 1))) = some (r1, r2, r3, r4, r5, r6, r7, r8) := H
  have A3 := Aside0.mk A30
  clear A30
  by_cases c4 : t789 = true
  · subst c4
    have H1 : (if (wrap64 ((l0_1.length : Int) + (l0_2.length : Int))) > 32 then (some (t778, t779, t782, t785, t786, t787, ([] : List Int), 2)) else (spec_TellAll.l0 k 0 a0_0 l0_1 l0_2 a0_3 a0_4 a0_5 t778 t779 t782 t785 t786 t787)) = some (r1, r2, r3, r4, r5, r6, r7, r8) := by rw [if_pos rfl] at H; exact H
    clear H
    have H := H1
    clear H1
    by_cases c5 : (wrap64 ((l0_1.length : Int) + (l0_2.length : Int))) > 32
    · rw [if_pos c5] at H
      have c5b0 : decide (32 < (wrap64 ((l0_1.length : Int) + (l0_2.length : Int)))) = true := decide_eq_true c5
      clear c5
      simp only [Option.some.injEq, Prod.mk.injEq] at H
      obtain ⟨rfl, rfl, rfl, rfl, rfl, rfl, rfl, rfl⟩ := H
      go_enter Try.func32, Try.ntmps32
      go_wp2_with (first | ((with_reducible refine gate_dst (N := 1) rfl ?_); refine box_event ?hg (N := 1) ?hd (cs := #[.bool a0_0, .slice A0_1 l0_1.length c0_1, .slice A0_2 l0_2.length c0_2, .int .i64 a0_3, .int .i64 a0_4, .int .i64 a0_5]) (t := 38) ?hr ?_; (case hd => rfl); (case hg => rfl); (case hr => first | (go_simp; done) | (go_simp; rfl)); intro gb776 hg w6 hbox hb; have n0_ := Aside0.mk (below_step (pkB HB.out) hb); have n1_ := Aside0.mk (hbox); have n2_ := Aside0.mk ((by rw [hg]; exact (below_size (pkB HB.out)) : w.heap.size ≤ gb776)); have n3_ := Aside0.mk ((by rw [hg]; exact (below_size (pkB HB.out)) : w.heap.size ≤ gb776)); clear HB; have HB := n0_; have BK776 := n1_; have GW776 := n2_; have GE776 := n3_; clear n0_ n1_ n2_ n3_; clear hb hbox hg) | ((with_reducible refine gate_dst (N := 2) rfl ?_); refine box_event ?hg (N := 2) ?hd (cs := #[.bool false, .slice none 0 0, .slice none 0 0, .int .i64 0, .int .i64 0, .int .i64 0]) (t := 38) ?hr ?_; (case hd => rfl); (case hg => rfl); (case hr => first | (go_simp; done) | (go_simp; rfl)); intro gb777 hg w7 hbox hb; have n0_ := Aside0.mk (blk_below (g := gb776) (o := .cells #[.bool a0_0, .slice A0_1 l0_1.length c0_1, .slice A0_2 l0_2.length c0_2, .int .i64 a0_3, .int .i64 a0_4, .int .i64 a0_5] 38 (0, 0)) (pkK BK776.out) hb); have n1_ := Aside0.mk (below_step (by repeat (first | (with_reducible first | exact HB.out | apply below_alloc | apply pw_below_drewN | apply below_drew1 | refine below_set ?_ GE776.out) | exact HB.out)) hb); have n2_ := Aside0.mk (hbox); have n3_ := Aside0.mk ((by rw [hg]; exact (below_size (by repeat (first | (with_reducible first | exact HB.out | apply below_alloc | apply pw_below_drewN | apply below_drew1 | refine below_set ?_ GE776.out) | exact HB.out))) : w.heap.size ≤ gb777)); have n4_ := Aside0.mk ((by rw [hg]; exact (below_size (by repeat (first | (with_reducible first | exact HB.out | apply below_alloc | apply pw_below_drewN | apply below_drew1 | refine below_set ?_ GE776.out) | exact HB.out))) : w.heap.size ≤ gb777)); have n5_ := Aside0.mk ((by rw [hg]; exact Nat.ne_of_lt (blk_lt (g := gb776) (o := .cells #[.bool a0_0, .slice A0_1 l0_1.length c0_1, .slice A0_2 l0_2.length c0_2, .int .i64 a0_3, .int .i64 a0_4, .int .i64 a0_5] 38 (0, 0)) (pkK BK776.out)) : gb776 ≠ gb777)); have n6_ := Aside0.mk ((by rw [hg]; exact Nat.ne_of_gt (blk_lt (g := gb776) (o := .cells #[.bool a0_0, .slice A0_1 l0_1.length c0_1, .slice A0_2 l0_2.length c0_2, .int .i64 a0_3, .int .i64 a0_4, .int .i64 a0_5] 38 (0, 0)) (pkK BK776.out)) : gb777 ≠ gb776)); clear BK776 HB; have BK776 := n0_; have HB := n1_; have BK777 := n2_; have GW777 := n3_; have GE777 := n4_; have NB776_777 := n5_; have NB777_776 := n6_; clear n0_ n1_ n2_ n3_ n4_ n5_ n6_; clear hb hbox hg; have hnb8 := NB776_777.out; have hnc8 := NB777_776.out; have hcz9_0 : w7.cell? ⟨gb776, 0, none⟩ = some (.bool a0_0) := (blk_cell BK776.out 0).trans rfl; have hcz9_1 : w7.cell? ⟨gb776, 1, none⟩ = some (.slice A0_1 l0_1.length c0_1) := (blk_cell BK776.out 1).trans rfl; have hcz9_2 : w7.cell? ⟨gb776, 2, none⟩ = some (.slice A0_2 l0_2.length c0_2) := (blk_cell BK776.out 2).trans rfl; have hcz9_3 : w7.cell? ⟨gb776, 3, none⟩ = some (.int .i64 a0_3) := (blk_cell BK776.out 3).trans rfl; have hcz9_4 : w7.cell? ⟨gb776, 4, none⟩ = some (.int .i64 a0_4) := (blk_cell BK776.out 4).trans rfl; have hcz9_5 : w7.cell? ⟨gb776, 5, none⟩ = some (.int .i64 a0_5) := (blk_cell BK776.out 5).trans rfl; have hfz9_0 := blk_frozen BK776.out 0; have hfz9_1 := blk_frozen BK776.out 1; have hfz9_2 := blk_frozen BK776.out 2; have hfz9_3 := blk_frozen BK776.out 3; have hfz9_4 := blk_frozen BK776.out 4; have hfz9_5 := blk_frozen BK776.out 5) | ((with_reducible refine gate_callee (f := 69) rfl ?_); refine goesL_ (some 8) rfl rfl Try.func69 (by kernel_rfl) rfl #[.agg #[.bool a0_0, .slice A0_1 l0_1.length c0_1, .slice A0_2 l0_2.length c0_2, .int .i64 a0_3, .int .i64 a0_4, .int .i64 a0_5]] rfl (by (try simp only [List.map_toArray, List.map_cons, List.map_nil]); first | done | rfl | (simp only [List.length_drop, List.length_take]; rfl) | (go_simp; done) | (simp [*]; done)) ?_; (with_reducible refine (spec_l5Copy.calls a0_0 _ _ l0_1 _ _ l0_2 a0_3 a0_4 a0_5 t778 t779 t782 t785 t786 t787 _ ?side1 ?side2 ?side3 ?side4 A2.out).mono ?_); (case side1 => exact pkC (Kd.C_below HR0_1.out HB.out)); (case side2 => exact HC0_1.out); (case side3 => exact pkC (Kd.C_below HR0_2.out HB.out)); (case side4 => exact HC0_2.out); rintro e w10 ⟨v780, v783, rfl, ho0, ho1, hb⟩; refine ⟨_, rfl, ?_⟩; have n0_ := Aside0.mk (Kd.R_lower ho0 (below_size (by repeat (first | (with_reducible first | exact HB.out | apply below_alloc | apply pw_below_drewN | apply below_drew1 | refine below_set ?_ GE776.out | refine below_set ?_ GE777.out) | exact HB.out)))); have n1_ := Aside0.mk (Kd.R_lower ho1 (below_size (by repeat (first | (with_reducible first | exact HB.out | apply below_alloc | apply pw_below_drewN | apply below_drew1 | refine below_set ?_ GE776.out | refine below_set ?_ GE777.out) | exact HB.out)))); have n2_ := Aside0.mk (blk_below (g := gb776) (o := .cells #[.bool a0_0, .slice A0_1 l0_1.length c0_1, .slice A0_2 l0_2.length c0_2, .int .i64 a0_3, .int .i64 a0_4, .int .i64 a0_5] 38 (0, 0)) (pkK BK776.out) hb); have n3_ := Aside0.mk (blk_below (g := gb777) (o := .cells #[.bool false, .slice none 0 0, .slice none 0 0, .int .i64 0, .int .i64 0, .int .i64 0] 38 (0, 0)) (pkK BK777.out) hb); have n4_ := Aside0.mk (below_step (by repeat (first | (with_reducible first | exact HB.out | apply below_alloc | apply pw_below_drewN | apply below_drew1 | refine below_set ?_ GE776.out | refine below_set ?_ GE777.out) | exact HB.out)) hb); clear BK776 BK777 HB; have HO781 := n0_; have HO784 := n1_; have BK776 := n2_; have BK777 := n3_; have HB := n4_; clear n0_ n1_ n2_ n3_ n4_; (try clear hb); (try clear hb2); (try clear hk); (try clear hi); (try clear ho0); (try clear ho1)) | ((with_reducible refine gate_dst (N := 5) rfl ?_); refine box_event ?hg (N := 5) ?hd (cs := #[.bool false, .slice none 0 0, .slice none 0 0, .int .i64 0, .int .i64 0, .int .i64 0]) (t := 38) ?hr ?_; (case hd => rfl); (case hg => rfl); (case hr => first | (go_simp; done) | (go_simp; rfl)); intro gb788 hg w11 hbox hb; have n0_ := Aside0.mk (Kd.R_below (pkR HO781.out) hb); have n1_ := Aside0.mk (Kd.R_below (pkR HO784.out) hb); have n2_ := Aside0.mk (blk_below (g := gb776) (o := .cells #[.bool a0_0, .slice A0_1 l0_1.length c0_1, .slice A0_2 l0_2.length c0_2, .int .i64 a0_3, .int .i64 a0_4, .int .i64 a0_5] 38 (0, 0)) (pkK BK776.out) hb); have n3_ := Aside0.mk (blk_below (g := gb777) (o := .cells #[.bool false, .slice none 0 0, .slice none 0 0, .int .i64 0, .int .i64 0, .int .i64 0] 38 (0, 0)) (pkK BK777.out) hb); have n4_ := Aside0.mk (below_step (by repeat (first | (with_reducible first | exact HB.out | apply below_alloc | apply pw_below_drewN | apply below_drew1 | refine below_set ?_ GE776.out | refine below_set ?_ GE777.out) | exact HB.out)) hb); have n5_ := Aside0.mk (hbox); have n6_ := Aside0.mk ((by rw [hg]; exact (below_size (by repeat (first | (with_reducible first | exact HB.out | apply below_alloc | apply pw_below_drewN | apply below_drew1 | refine below_set ?_ GE776.out | refine below_set ?_ GE777.out) | exact HB.out))) : w.heap.size ≤ gb788)); have n7_ := Aside0.mk ((by rw [hg]; exact (below_size (by repeat (first | (with_reducible first | exact HB.out | apply below_alloc | apply pw_below_drewN | apply below_drew1 | refine below_set ?_ GE776.out | refine below_set ?_ GE777.out) | exact HB.out))) : w.heap.size ≤ gb788)); have n8_ := Aside0.mk ((by rw [hg]; exact Nat.ne_of_lt (blk_lt (g := gb776) (o := .cells #[.bool a0_0, .slice A0_1 l0_1.length c0_1, .slice A0_2 l0_2.length c0_2, .int .i64 a0_3, .int .i64 a0_4, .int .i64 a0_5] 38 (0, 0)) (pkK BK776.out)) : gb776 ≠ gb788)); have n9_ := Aside0.mk ((by rw [hg]; exact Nat.ne_of_gt (blk_lt (g := gb776) (o := .cells #[.bool a0_0, .slice A0_1 l0_1.length c0_1, .slice A0_2 l0_2.length c0_2, .int .i64 a0_3, .int .i64 a0_4, .int .i64 a0_5] 38 (0, 0)) (pkK BK776.out)) : gb788 ≠ gb776)); have n10_ := Aside0.mk ((by rw [hg]; exact Nat.ne_of_lt (blk_lt (g := gb777) (o := .cells #[.bool false, .slice none 0 0, .slice none 0 0, .int .i64 0, .int .i64 0, .int .i64 0] 38 (0, 0)) (pkK BK777.out)) : gb777 ≠ gb788)); have n11_ := Aside0.mk ((by rw [hg]; exact Nat.ne_of_gt (blk_lt (g := gb777) (o := .cells #[.bool false, .slice none 0 0, .slice none 0 0, .int .i64 0, .int .i64 0, .int .i64 0] 38 (0, 0)) (pkK BK777.out)) : gb788 ≠ gb777)); clear HO781 HO784 BK776 BK777 HB; have HO781 := n0_; have HO784 := n1_; have BK776 := n2_; have BK777 := n3_; have HB := n4_; have BK788 := n5_; have GW788 := n6_; have GE788 := n7_; have NB776_788 := n8_; have NB788_776 := n9_; have NB777_788 := n10_; have NB788_777 := n11_; clear n0_ n1_ n2_ n3_ n4_ n5_ n6_ n7_ n8_ n9_ n10_ n11_; clear hb hbox hg; have hnb12 := NB788_776.out; have hnc12 := NB776_788.out; have hnb13 := NB788_777.out; have hnc13 := NB777_788.out; have hcz14_0 : w11.cell? ⟨gb788, 0, none⟩ = some (.bool false) := (blk_cell BK788.out 0).trans rfl; have hcz14_1 : w11.cell? ⟨gb788, 1, none⟩ = some (.slice none 0 0) := (blk_cell BK788.out 1).trans rfl; have hcz14_2 : w11.cell? ⟨gb788, 2, none⟩ = some (.slice none 0 0) := (blk_cell BK788.out 2).trans rfl; have hcz14_3 : w11.cell? ⟨gb788, 3, none⟩ = some (.int .i64 0) := (blk_cell BK788.out 3).trans rfl; have hcz14_4 : w11.cell? ⟨gb788, 4, none⟩ = some (.int .i64 0) := (blk_cell BK788.out 4).trans rfl; have hcz14_5 : w11.cell? ⟨gb788, 5, none⟩ = some (.int .i64 0) := (blk_cell BK788.out 5).trans rfl; have hfz14_0 := blk_frozen BK788.out 0; have hfz14_1 := blk_frozen BK788.out 1; have hfz14_2 := blk_frozen BK788.out 2; have hfz14_3 := blk_frozen BK788.out 3; have hfz14_4 := blk_frozen BK788.out 4; have hfz14_5 := blk_frozen BK788.out 5; obtain ⟨Ao15, co15, eo15⟩ := Kd.R_slice HO781.out; subst eo15; obtain ⟨Ao16, co16, eo16⟩ := Kd.R_slice HO784.out; subst eo16; have hcz17_0 : w11.cell? ⟨gb776, 0, none⟩ = some (.bool a0_0) := (blk_cell BK776.out 0).trans rfl; have hcz17_1 : w11.cell? ⟨gb776, 1, none⟩ = some (.slice A0_1 l0_1.length c0_1) := (blk_cell BK776.out 1).trans rfl; have hcz17_2 : w11.cell? ⟨gb776, 2, none⟩ = some (.slice A0_2 l0_2.length c0_2) := (blk_cell BK776.out 2).trans rfl; have hcz17_3 : w11.cell? ⟨gb776, 3, none⟩ = some (.int .i64 a0_3) := (blk_cell BK776.out 3).trans rfl; have hcz17_4 : w11.cell? ⟨gb776, 4, none⟩ = some (.int .i64 a0_4) := (blk_cell BK776.out 4).trans rfl; have hcz17_5 : w11.cell? ⟨gb776, 5, none⟩ = some (.int .i64 a0_5) := (blk_cell BK776.out 5).trans rfl; have hfz17_0 := blk_frozen BK776.out 0; have hfz17_1 := blk_frozen BK776.out 1; have hfz17_2 := blk_frozen BK776.out 2; have hfz17_3 := blk_frozen BK776.out 3; have hfz17_4 := blk_frozen BK776.out 4; have hfz17_5 := blk_frozen BK776.out 5) | ((with_reducible refine gate_callee (f := 20) rfl ?_); refine goesL_ (some 11) rfl rfl Try.func20 (by kernel_rfl) rfl #[.agg #[.bool a0_0, .slice A0_1 l0_1.length c0_1, .slice A0_2 l0_2.length c0_2, .int .i64 a0_3, .int .i64 a0_4, .int .i64 a0_5]] rfl (by (try simp only [List.map_toArray, List.map_cons, List.map_nil]); first | done | rfl | (simp only [List.length_drop, List.length_take]; rfl) | (go_simp; done) | (simp [*]; done)) ?_; (with_reducible refine (spec_NotifyOk.calls k a0_0 _ _ l0_1 _ _ l0_2 a0_3 a0_4 a0_5 true _ ?side1 ?side2 ?side3 ?side4 A3.out).mono ?_); (case side1 => exact Kd.C_below HR0_1.out (by repeat (first | (with_reducible first | exact HB.out | apply below_alloc | apply pw_below_drewN | apply below_drew1 | refine below_set ?_ GE776.out | refine below_set ?_ GE777.out | refine below_set ?_ GE788.out) | exact HB.out))); (case side2 => exact HC0_1.out); (case side3 => exact Kd.C_below HR0_2.out (by repeat (first | (with_reducible first | exact HB.out | apply below_alloc | apply pw_below_drewN | apply below_drew1 | refine below_set ?_ GE776.out | refine below_set ?_ GE777.out | refine below_set ?_ GE788.out) | exact HB.out))); (case side4 => exact HC0_2.out); rintro e w18 ⟨rfl, hb⟩; refine ⟨_, rfl, ?_⟩; have n0_ := Aside0.mk (Kd.R_below (by (with_reducible repeat (first | apply Kd.R_alloc | apply Kd.R_drewN | apply Kd.R_drew)); exact (Kd.R_mono (Kd.R_far (p := ⟨gb788, 5, none⟩) (Kd.R_far (p := ⟨gb788, 4, none⟩) (Kd.R_far (p := ⟨gb788, 3, none⟩) (Kd.R_far (p := ⟨gb788, 2, none⟩) (Kd.R_far (p := ⟨gb788, 1, none⟩) (Kd.R_far (p := ⟨gb788, 0, none⟩) (Kd.R_types HO781.out BK788.out (by decide)) (fun _ hk => hk.2) (.bool t778)) (fun _ hk => hk.2) (.slice Ao15 t779.length co15)) (fun _ hk => hk.2) (.slice Ao16 t782.length co16)) (fun _ hk => hk.2) (.int .i64 t785)) (fun _ hk => hk.2) (.int .i64 t786)) (fun _ hk => hk.2) (.int .i64 t787)) (fun _ h_ => h_.1))) hb); have n1_ := Aside0.mk (Kd.R_below (by (with_reducible repeat (first | apply Kd.R_alloc | apply Kd.R_drewN | apply Kd.R_drew)); exact (Kd.R_mono (Kd.R_far (p := ⟨gb788, 5, none⟩) (Kd.R_far (p := ⟨gb788, 4, none⟩) (Kd.R_far (p := ⟨gb788, 3, none⟩) (Kd.R_far (p := ⟨gb788, 2, none⟩) (Kd.R_far (p := ⟨gb788, 1, none⟩) (Kd.R_far (p := ⟨gb788, 0, none⟩) (Kd.R_types HO784.out BK788.out (by decide)) (fun _ hk => hk.2) (.bool t778)) (fun _ hk => hk.2) (.slice Ao15 t779.length co15)) (fun _ hk => hk.2) (.slice Ao16 t782.length co16)) (fun _ hk => hk.2) (.int .i64 t785)) (fun _ hk => hk.2) (.int .i64 t786)) (fun _ hk => hk.2) (.int .i64 t787)) (fun _ h_ => h_.1))) hb); have n2_ := Aside0.mk (blk_below (g := gb776) (o := .cells #[.bool a0_0, .slice A0_1 l0_1.length c0_1, .slice A0_2 l0_2.length c0_2, .int .i64 a0_3, .int .i64 a0_4, .int .i64 a0_5] 38 (0, 0)) (by (with_reducible repeat (first | refine blk_drewN ?_ _ | refine blk_drew ?_ | refine blk_alloc ?_ _)); refine blk_far ?_ NB776_788.out _; (with_reducible repeat (first | refine blk_drewN ?_ _ | refine blk_drew ?_ | refine blk_alloc ?_ _)); refine blk_far ?_ NB776_788.out _; (with_reducible repeat (first | refine blk_drewN ?_ _ | refine blk_drew ?_ | refine blk_alloc ?_ _)); refine blk_far ?_ NB776_788.out _; (with_reducible repeat (first | refine blk_drewN ?_ _ | refine blk_drew ?_ | refine blk_alloc ?_ _)); refine blk_far ?_ NB776_788.out _; (with_reducible repeat (first | refine blk_drewN ?_ _ | refine blk_drew ?_ | refine blk_alloc ?_ _)); refine blk_far ?_ NB776_788.out _; (with_reducible repeat (first | refine blk_drewN ?_ _ | refine blk_drew ?_ | refine blk_alloc ?_ _)); refine blk_far ?_ NB776_788.out _; (with_reducible repeat (first | refine blk_drewN ?_ _ | refine blk_drew ?_ | refine blk_alloc ?_ _)); exact BK776.out) hb); have n3_ := Aside0.mk (blk_below (g := gb777) (o := .cells #[.bool false, .slice none 0 0, .slice none 0 0, .int .i64 0, .int .i64 0, .int .i64 0] 38 (0, 0)) (by (with_reducible repeat (first | refine blk_drewN ?_ _ | refine blk_drew ?_ | refine blk_alloc ?_ _)); refine blk_far ?_ NB777_788.out _; (with_reducible repeat (first | refine blk_drewN ?_ _ | refine blk_drew ?_ | refine blk_alloc ?_ _)); refine blk_far ?_ NB777_788.out _; (with_reducible repeat (first | refine blk_drewN ?_ _ | refine blk_drew ?_ | refine blk_alloc ?_ _)); refine blk_far ?_ NB777_788.out _; (with_reducible repeat (first | refine blk_drewN ?_ _ | refine blk_drew ?_ | refine blk_alloc ?_ _)); refine blk_far ?_ NB777_788.out _; (with_reducible repeat (first | refine blk_drewN ?_ _ | refine blk_drew ?_ | refine blk_alloc ?_ _)); refine blk_far ?_ NB777_788.out _; (with_reducible repeat (first | refine blk_drewN ?_ _ | refine blk_drew ?_ | refine blk_alloc ?_ _)); refine blk_far ?_ NB777_788.out _; (with_reducible repeat (first | refine blk_drewN ?_ _ | refine blk_drew ?_ | refine blk_alloc ?_ _)); exact BK777.out) hb); have n4_ := Aside0.mk (blk_below (g := gb788) (o := .cells #[.bool t778, .slice Ao15 t779.length co15, .slice Ao16 t782.length co16, .int .i64 t785, .int .i64 t786, .int .i64 t787] 38 (0, 0)) (by (with_reducible repeat (first | refine blk_drewN ?_ _ | refine blk_drew ?_ | refine blk_alloc ?_ _)); refine blk_put (cs := #[.bool t778, .slice Ao15 t779.length co15, .slice Ao16 t782.length co16, .int .i64 t785, .int .i64 t786, .int .i64 0]) ?_ 5 _ rfl; (with_reducible repeat (first | refine blk_drewN ?_ _ | refine blk_drew ?_ | refine blk_alloc ?_ _)); refine blk_put (cs := #[.bool t778, .slice Ao15 t779.length co15, .slice Ao16 t782.length co16, .int .i64 t785, .int .i64 0, .int .i64 0]) ?_ 4 _ rfl; (with_reducible repeat (first | refine blk_drewN ?_ _ | refine blk_drew ?_ | refine blk_alloc ?_ _)); refine blk_put (cs := #[.bool t778, .slice Ao15 t779.length co15, .slice Ao16 t782.length co16, .int .i64 0, .int .i64 0, .int .i64 0]) ?_ 3 _ rfl; (with_reducible repeat (first | refine blk_drewN ?_ _ | refine blk_drew ?_ | refine blk_alloc ?_ _)); refine blk_put (cs := #[.bool t778, .slice Ao15 t779.length co15, .slice none 0 0, .int .i64 0, .int .i64 0, .int .i64 0]) ?_ 2 _ rfl; (with_reducible repeat (first | refine blk_drewN ?_ _ | refine blk_drew ?_ | refine blk_alloc ?_ _)); refine blk_put (cs := #[.bool t778, .slice none 0 0, .slice none 0 0, .int .i64 0, .int .i64 0, .int .i64 0]) ?_ 1 _ rfl; (with_reducible repeat (first | refine blk_drewN ?_ _ | refine blk_drew ?_ | refine blk_alloc ?_ _)); refine blk_put (cs := #[.bool false, .slice none 0 0, .slice none 0 0, .int .i64 0, .int .i64 0, .int .i64 0]) ?_ 0 _ rfl; (with_reducible repeat (first | refine blk_drewN ?_ _ | refine blk_drew ?_ | refine blk_alloc ?_ _)); exact BK788.out) hb); have n5_ := Aside0.mk (below_step (by repeat (first | (with_reducible first | exact HB.out | apply below_alloc | apply pw_below_drewN | apply below_drew1 | refine below_set ?_ GE776.out | refine below_set ?_ GE777.out | refine below_set ?_ GE788.out) | exact HB.out)) hb); clear HO781 HO784 BK776 BK777 BK788 HB; have HO781 := n0_; have HO784 := n1_; have BK776 := n2_; have BK777 := n3_; have BK788 := n4_; have HB := n5_; clear n0_ n1_ n2_ n3_ n4_ n5_; (try clear hb); (try clear hb2); (try clear hk); (try clear hi); have hcz19_0 : w18.cell? ⟨gb776, 0, none⟩ = some (.bool a0_0) := (blk_cell BK776.out 0).trans rfl; have hcz19_1 : w18.cell? ⟨gb776, 1, none⟩ = some (.slice A0_1 l0_1.length c0_1) := (blk_cell BK776.out 1).trans rfl; have hcz19_2 : w18.cell? ⟨gb776, 2, none⟩ = some (.slice A0_2 l0_2.length c0_2) := (blk_cell BK776.out 2).trans rfl; have hcz19_3 : w18.cell? ⟨gb776, 3, none⟩ = some (.int .i64 a0_3) := (blk_cell BK776.out 3).trans rfl; have hcz19_4 : w18.cell? ⟨gb776, 4, none⟩ = some (.int .i64 a0_4) := (blk_cell BK776.out 4).trans rfl; have hcz19_5 : w18.cell? ⟨gb776, 5, none⟩ = some (.int .i64 a0_5) := (blk_cell BK776.out 5).trans rfl; have hfz19_0 := blk_frozen BK776.out 0; have hfz19_1 := blk_frozen BK776.out 1; have hfz19_2 := blk_frozen BK776.out 2; have hfz19_3 := blk_frozen BK776.out 3; have hfz19_4 := blk_frozen BK776.out 4; have hfz19_5 := blk_frozen BK776.out 5; have hcz20_0 : w18.cell? ⟨gb788, 0, none⟩ = some (.bool t778) := (blk_cell BK788.out 0).trans rfl; have hcz20_1 : w18.cell? ⟨gb788, 1, none⟩ = some (.slice Ao15 t779.length co15) := (blk_cell BK788.out 1).trans rfl; have hcz20_2 : w18.cell? ⟨gb788, 2, none⟩ = some (.slice Ao16 t782.length co16) := (blk_cell BK788.out 2).trans rfl; have hcz20_3 : w18.cell? ⟨gb788, 3, none⟩ = some (.int .i64 t785) := (blk_cell BK788.out 3).trans rfl; have hcz20_4 : w18.cell? ⟨gb788, 4, none⟩ = some (.int .i64 t786) := (blk_cell BK788.out 4).trans rfl; have hcz20_5 : w18.cell? ⟨gb788, 5, none⟩ = some (.int .i64 t787) := (blk_cell BK788.out 5).trans rfl; have hfz20_0 := blk_frozen BK788.out 0; have hfz20_1 := blk_frozen BK788.out 1; have hfz20_2 := blk_frozen BK788.out 2; have hfz20_3 := blk_frozen BK788.out 3; have hfz20_4 := blk_frozen BK788.out 4; have hfz20_5 := blk_frozen BK788.out 5; have hcz21_0 : w18.cell? ⟨gb777, 0, none⟩ = some (.bool false) := (blk_cell BK777.out 0).trans rfl; have hcz21_1 : w18.cell? ⟨gb777, 1, none⟩ = some (.slice none 0 0) := (blk_cell BK777.out 1).trans rfl; have hcz21_2 : w18.cell? ⟨gb777, 2, none⟩ = some (.slice none 0 0) := (blk_cell BK777.out 2).trans rfl; have hcz21_3 : w18.cell? ⟨gb777, 3, none⟩ = some (.int .i64 0) := (blk_cell BK777.out 3).trans rfl; have hcz21_4 : w18.cell? ⟨gb777, 4, none⟩ = some (.int .i64 0) := (blk_cell BK777.out 4).trans rfl; have hcz21_5 : w18.cell? ⟨gb777, 5, none⟩ = some (.int .i64 0) := (blk_cell BK777.out 5).trans rfl; have hfz21_0 := blk_frozen BK777.out 0; have hfz21_1 := blk_frozen BK777.out 1; have hfz21_2 := blk_frozen BK777.out 2; have hfz21_3 := blk_frozen BK777.out 3; have hfz21_4 := blk_frozen BK777.out 4; have hfz21_5 := blk_frozen BK777.out 5))
      refine bodyPost_ret (results_ctt rfl _ _ gb777 38 #[.bool t778, .slice Ao15 t779.length co15, .slice Ao16 t782.length co16, .int .i64 t785, .int .i64 t786, .int .i64 t787] (0, 0) _ rfl (by (with_reducible repeat (first | refine blk_drewN ?_ _ | refine blk_drew ?_ | refine blk_alloc ?_ _)); refine blk_put (cs := #[.bool t778, .slice Ao15 t779.length co15, .slice Ao16 t782.length co16, .int .i64 t785, .int .i64 t786, .int .i64 0]) ?_ 5 _ rfl; (with_reducible repeat (first | refine blk_drewN ?_ _ | refine blk_drew ?_ | refine blk_alloc ?_ _)); refine blk_put (cs := #[.bool t778, .slice Ao15 t779.length co15, .slice Ao16 t782.length co16, .int .i64 t785, .int .i64 0, .int .i64 0]) ?_ 4 _ rfl; (with_reducible repeat (first | refine blk_drewN ?_ _ | refine blk_drew ?_ | refine blk_alloc ?_ _)); refine blk_put (cs := #[.bool t778, .slice Ao15 t779.length co15, .slice Ao16 t782.length co16, .int .i64 0, .int .i64 0, .int .i64 0]) ?_ 3 _ rfl; (with_reducible repeat (first | refine blk_drewN ?_ _ | refine blk_drew ?_ | refine blk_alloc ?_ _)); refine blk_put (cs := #[.bool t778, .slice Ao15 t779.length co15, .slice none 0 0, .int .i64 0, .int .i64 0, .int .i64 0]) ?_ 2 _ rfl; (with_reducible repeat (first | refine blk_drewN ?_ _ | refine blk_drew ?_ | refine blk_alloc ?_ _)); refine blk_put (cs := #[.bool t778, .slice none 0 0, .slice none 0 0, .int .i64 0, .int .i64 0, .int .i64 0]) ?_ 1 _ rfl; (with_reducible repeat (first | refine blk_drewN ?_ _ | refine blk_drew ?_ | refine blk_alloc ?_ _)); refine blk_put (cs := #[.bool false, .slice none 0 0, .slice none 0 0, .int .i64 0, .int .i64 0, .int .i64 0]) ?_ 0 _ rfl; (with_reducible repeat (first | refine blk_drewN ?_ _ | refine blk_drew ?_ | refine blk_alloc ?_ _)); exact BK777.out) Try.underlying38 rfl (by kernel_rfl)) rfl ?_
      exact ⟨_, _, _, by first | rfl | (simp [errW_none, errW_some] <;> rfl) | (simp [*, errW_none, errW_some] <;> rfl), by (with_reducible repeat (first | apply Kd.R_alloc | apply Kd.R_drewN | apply Kd.R_drew)); exact Kd.R_mono (Kd.R_far (p := ⟨gb777, 5, none⟩) (Kd.R_far (p := ⟨gb777, 4, none⟩) (Kd.R_far (p := ⟨gb777, 3, none⟩) (Kd.R_far (p := ⟨gb777, 2, none⟩) (Kd.R_far (p := ⟨gb777, 1, none⟩) (Kd.R_far (p := ⟨gb777, 0, none⟩) (Kd.R_types HO781.out BK777.out (by decide)) (fun _ hk => hk.2) (.bool t778)) (fun _ hk => hk.2) (.slice Ao15 t779.length co15)) (fun _ hk => hk.2) (.slice Ao16 t782.length co16)) (fun _ hk => hk.2) (.int .i64 t785)) (fun _ hk => hk.2) (.int .i64 t786)) (fun _ hk => hk.2) (.int .i64 t787)) (fun _ hk => (by simp [Value.ownBlock])), by (with_reducible repeat (first | apply Kd.R_alloc | apply Kd.R_drewN | apply Kd.R_drew)); exact Kd.R_mono (Kd.R_far (p := ⟨gb777, 5, none⟩) (Kd.R_far (p := ⟨gb777, 4, none⟩) (Kd.R_far (p := ⟨gb777, 3, none⟩) (Kd.R_far (p := ⟨gb777, 2, none⟩) (Kd.R_far (p := ⟨gb777, 1, none⟩) (Kd.R_far (p := ⟨gb777, 0, none⟩) (Kd.R_types HO784.out BK777.out (by decide)) (fun _ hk => hk.2) (.bool t778)) (fun _ hk => hk.2) (.slice Ao15 t779.length co15)) (fun _ hk => hk.2) (.slice Ao16 t782.length co16)) (fun _ hk => hk.2) (.int .i64 t785)) (fun _ hk => hk.2) (.int .i64 t786)) (fun _ hk => hk.2) (.int .i64 t787)) (fun _ hk => trivial), by first | exact Kd.R_nil _ _ _ _ _ | exact Kd.N_nil _ _ _ _ _ | exact Kd.V_nil _ _ _ _ _ | exact Kd.Q_nil _ _ _ _ _ | exact Kd.S_nil _ _ _ _ _, by repeat (first | (with_reducible first | exact HB.out | apply below_alloc | apply pw_below_drewN | apply below_drew1 | refine below_set ?_ GE776.out | refine below_set ?_ GE777.out | refine below_set ?_ GE788.out) | exact HB.out)⟩
    · rw [if_neg c5] at H
      have c5b0 : decide (32 < (wrap64 ((l0_1.length : Int) + (l0_2.length : Int)))) = false := decide_eq_false c5
      clear c5
      have H' := Aside0.mk H
      clear H
      go_enter Try.func32, Try.ntmps32
      go_wp2_with (first | ((with_reducible refine gate_dst (N := 1) rfl ?_); refine box_event ?hg (N := 1) ?hd (cs := #[.bool a0_0, .slice A0_1 l0_1.length c0_1, .slice A0_2 l0_2.length c0_2, .int .i64 a0_3, .int .i64 a0_4, .int .i64 a0_5]) (t := 38) ?hr ?_; (case hd => rfl); (case hg => rfl); (case hr => first | (go_simp; done) | (go_simp; rfl)); intro gb776 hg w22 hbox hb; have n0_ := Aside0.mk (below_step (pkB HB.out) hb); have n1_ := Aside0.mk (hbox); have n2_ := Aside0.mk ((by rw [hg]; exact (below_size (pkB HB.out)) : w.heap.size ≤ gb776)); have n3_ := Aside0.mk ((by rw [hg]; exact (below_size (pkB HB.out)) : w.heap.size ≤ gb776)); clear HB; have HB := n0_; have BK776 := n1_; have GW776 := n2_; have GE776 := n3_; clear n0_ n1_ n2_ n3_; clear hb hbox hg) | ((with_reducible refine gate_dst (N := 2) rfl ?_); refine box_event ?hg (N := 2) ?hd (cs := #[.bool false, .slice none 0 0, .slice none 0 0, .int .i64 0, .int .i64 0, .int .i64 0]) (t := 38) ?hr ?_; (case hd => rfl); (case hg => rfl); (case hr => first | (go_simp; done) | (go_simp; rfl)); intro gb777 hg w23 hbox hb; have n0_ := Aside0.mk (blk_below (g := gb776) (o := .cells #[.bool a0_0, .slice A0_1 l0_1.length c0_1, .slice A0_2 l0_2.length c0_2, .int .i64 a0_3, .int .i64 a0_4, .int .i64 a0_5] 38 (0, 0)) (pkK BK776.out) hb); have n1_ := Aside0.mk (below_step (by repeat (first | (with_reducible first | exact HB.out | apply below_alloc | apply pw_below_drewN | apply below_drew1 | refine below_set ?_ GE776.out) | exact HB.out)) hb); have n2_ := Aside0.mk (hbox); have n3_ := Aside0.mk ((by rw [hg]; exact (below_size (by repeat (first | (with_reducible first | exact HB.out | apply below_alloc | apply pw_below_drewN | apply below_drew1 | refine below_set ?_ GE776.out) | exact HB.out))) : w.heap.size ≤ gb777)); have n4_ := Aside0.mk ((by rw [hg]; exact (below_size (by repeat (first | (with_reducible first | exact HB.out | apply below_alloc | apply pw_below_drewN | apply below_drew1 | refine below_set ?_ GE776.out) | exact HB.out))) : w.heap.size ≤ gb777)); have n5_ := Aside0.mk ((by rw [hg]; exact Nat.ne_of_lt (blk_lt (g := gb776) (o := .cells #[.bool a0_0, .slice A0_1 l0_1.length c0_1, .slice A0_2 l0_2.length c0_2, .int .i64 a0_3, .int .i64 a0_4, .int .i64 a0_5] 38 (0, 0)) (pkK BK776.out)) : gb776 ≠ gb777)); have n6_ := Aside0.mk ((by rw [hg]; exact Nat.ne_of_gt (blk_lt (g := gb776) (o := .cells #[.bool a0_0, .slice A0_1 l0_1.length c0_1, .slice A0_2 l0_2.length c0_2, .int .i64 a0_3, .int .i64 a0_4, .int .i64 a0_5] 38 (0, 0)) (pkK BK776.out)) : gb777 ≠ gb776)); clear BK776 HB; have BK776 := n0_; have HB := n1_; have BK777 := n2_; have GW777 := n3_; have GE777 := n4_; have NB776_777 := n5_; have NB777_776 := n6_; clear n0_ n1_ n2_ n3_ n4_ n5_ n6_; clear hb hbox hg; have hnb24 := NB776_777.out; have hnc24 := NB777_776.out; have hcz25_0 : w23.cell? ⟨gb776, 0, none⟩ = some (.bool a0_0) := (blk_cell BK776.out 0).trans rfl; have hcz25_1 : w23.cell? ⟨gb776, 1, none⟩ = some (.slice A0_1 l0_1.length c0_1) := (blk_cell BK776.out 1).trans rfl; have hcz25_2 : w23.cell? ⟨gb776, 2, none⟩ = some (.slice A0_2 l0_2.length c0_2) := (blk_cell BK776.out 2).trans rfl; have hcz25_3 : w23.cell? ⟨gb776, 3, none⟩ = some (.int .i64 a0_3) := (blk_cell BK776.out 3).trans rfl; have hcz25_4 : w23.cell? ⟨gb776, 4, none⟩ = some (.int .i64 a0_4) := (blk_cell BK776.out 4).trans rfl; have hcz25_5 : w23.cell? ⟨gb776, 5, none⟩ = some (.int .i64 a0_5) := (blk_cell BK776.out 5).trans rfl; have hfz25_0 := blk_frozen BK776.out 0; have hfz25_1 := blk_frozen BK776.out 1; have hfz25_2 := blk_frozen BK776.out 2; have hfz25_3 := blk_frozen BK776.out 3; have hfz25_4 := blk_frozen BK776.out 4; have hfz25_5 := blk_frozen BK776.out 5) | ((with_reducible refine gate_callee (f := 69) rfl ?_); refine goesL_ (some 8) rfl rfl Try.func69 (by kernel_rfl) rfl #[.agg #[.bool a0_0, .slice A0_1 l0_1.length c0_1, .slice A0_2 l0_2.length c0_2, .int .i64 a0_3, .int .i64 a0_4, .int .i64 a0_5]] rfl (by (try simp only [List.map_toArray, List.map_cons, List.map_nil]); first | done | rfl | (simp only [List.length_drop, List.length_take]; rfl) | (go_simp; done) | (simp [*]; done)) ?_; (with_reducible refine (spec_l5Copy.calls a0_0 _ _ l0_1 _ _ l0_2 a0_3 a0_4 a0_5 t778 t779 t782 t785 t786 t787 _ ?side1 ?side2 ?side3 ?side4 A2.out).mono ?_); (case side1 => exact pkC (Kd.C_below HR0_1.out HB.out)); (case side2 => exact HC0_1.out); (case side3 => exact pkC (Kd.C_below HR0_2.out HB.out)); (case side4 => exact HC0_2.out); rintro e w26 ⟨v780, v783, rfl, ho0, ho1, hb⟩; refine ⟨_, rfl, ?_⟩; have n0_ := Aside0.mk (Kd.R_lower ho0 (below_size (by repeat (first | (with_reducible first | exact HB.out | apply below_alloc | apply pw_below_drewN | apply below_drew1 | refine below_set ?_ GE776.out | refine below_set ?_ GE777.out) | exact HB.out)))); have n1_ := Aside0.mk (Kd.R_lower ho1 (below_size (by repeat (first | (with_reducible first | exact HB.out | apply below_alloc | apply pw_below_drewN | apply below_drew1 | refine below_set ?_ GE776.out | refine below_set ?_ GE777.out) | exact HB.out)))); have n2_ := Aside0.mk (blk_below (g := gb776) (o := .cells #[.bool a0_0, .slice A0_1 l0_1.length c0_1, .slice A0_2 l0_2.length c0_2, .int .i64 a0_3, .int .i64 a0_4, .int .i64 a0_5] 38 (0, 0)) (pkK BK776.out) hb); have n3_ := Aside0.mk (blk_below (g := gb777) (o := .cells #[.bool false, .slice none 0 0, .slice none 0 0, .int .i64 0, .int .i64 0, .int .i64 0] 38 (0, 0)) (pkK BK777.out) hb); have n4_ := Aside0.mk (below_step (by repeat (first | (with_reducible first | exact HB.out | apply below_alloc | apply pw_below_drewN | apply below_drew1 | refine below_set ?_ GE776.out | refine below_set ?_ GE777.out) | exact HB.out)) hb); clear BK776 BK777 HB; have HO781 := n0_; have HO784 := n1_; have BK776 := n2_; have BK777 := n3_; have HB := n4_; clear n0_ n1_ n2_ n3_ n4_; (try clear hb); (try clear hb2); (try clear hk); (try clear hi); (try clear ho0); (try clear ho1)) | ((with_reducible refine gate_dst (N := 5) rfl ?_); refine box_event ?hg (N := 5) ?hd (cs := #[.bool false, .slice none 0 0, .slice none 0 0, .int .i64 0, .int .i64 0, .int .i64 0]) (t := 38) ?hr ?_; (case hd => rfl); (case hg => rfl); (case hr => first | (go_simp; done) | (go_simp; rfl)); intro gb788 hg w27 hbox hb; have n0_ := Aside0.mk (Kd.R_below (pkR HO781.out) hb); have n1_ := Aside0.mk (Kd.R_below (pkR HO784.out) hb); have n2_ := Aside0.mk (blk_below (g := gb776) (o := .cells #[.bool a0_0, .slice A0_1 l0_1.length c0_1, .slice A0_2 l0_2.length c0_2, .int .i64 a0_3, .int .i64 a0_4, .int .i64 a0_5] 38 (0, 0)) (pkK BK776.out) hb); have n3_ := Aside0.mk (blk_below (g := gb777) (o := .cells #[.bool false, .slice none 0 0, .slice none 0 0, .int .i64 0, .int .i64 0, .int .i64 0] 38 (0, 0)) (pkK BK777.out) hb); have n4_ := Aside0.mk (below_step (by repeat (first | (with_reducible first | exact HB.out | apply below_alloc | apply pw_below_drewN | apply below_drew1 | refine below_set ?_ GE776.out | refine below_set ?_ GE777.out) | exact HB.out)) hb); have n5_ := Aside0.mk (hbox); have n6_ := Aside0.mk ((by rw [hg]; exact (below_size (by repeat (first | (with_reducible first | exact HB.out | apply below_alloc | apply pw_below_drewN | apply below_drew1 | refine below_set ?_ GE776.out | refine below_set ?_ GE777.out) | exact HB.out))) : w.heap.size ≤ gb788)); have n7_ := Aside0.mk ((by rw [hg]; exact (below_size (by repeat (first | (with_reducible first | exact HB.out | apply below_alloc | apply pw_below_drewN | apply below_drew1 | refine below_set ?_ GE776.out | refine below_set ?_ GE777.out) | exact HB.out))) : w.heap.size ≤ gb788)); have n8_ := Aside0.mk ((by rw [hg]; exact Nat.ne_of_lt (blk_lt (g := gb776) (o := .cells #[.bool a0_0, .slice A0_1 l0_1.length c0_1, .slice A0_2 l0_2.length c0_2, .int .i64 a0_3, .int .i64 a0_4, .int .i64 a0_5] 38 (0, 0)) (pkK BK776.out)) : gb776 ≠ gb788)); have n9_ := Aside0.mk ((by rw [hg]; exact Nat.ne_of_gt (blk_lt (g := gb776) (o := .cells #[.bool a0_0, .slice A0_1 l0_1.length c0_1, .slice A0_2 l0_2.length c0_2, .int .i64 a0_3, .int .i64 a0_4, .int .i64 a0_5] 38 (0, 0)) (pkK BK776.out)) : gb788 ≠ gb776)); have n10_ := Aside0.mk ((by rw [hg]; exact Nat.ne_of_lt (blk_lt (g := gb777) (o := .cells #[.bool false, .slice none 0 0, .slice none 0 0, .int .i64 0, .int .i64 0, .int .i64 0] 38 (0, 0)) (pkK BK777.out)) : gb777 ≠ gb788)); have n11_ := Aside0.mk ((by rw [hg]; exact Nat.ne_of_gt (blk_lt (g := gb777) (o := .cells #[.bool false, .slice none 0 0, .slice none 0 0, .int .i64 0, .int .i64 0, .int .i64 0] 38 (0, 0)) (pkK BK777.out)) : gb788 ≠ gb777)); clear HO781 HO784 BK776 BK777 HB; have HO781 := n0_; have HO784 := n1_; have BK776 := n2_; have BK777 := n3_; have HB := n4_; have BK788 := n5_; have GW788 := n6_; have GE788 := n7_; have NB776_788 := n8_; have NB788_776 := n9_; have NB777_788 := n10_; have NB788_777 := n11_; clear n0_ n1_ n2_ n3_ n4_ n5_ n6_ n7_ n8_ n9_ n10_ n11_; clear hb hbox hg; have hnb28 := NB788_776.out; have hnc28 := NB776_788.out; have hnb29 := NB788_777.out; have hnc29 := NB777_788.out; have hcz30_0 : w27.cell? ⟨gb788, 0, none⟩ = some (.bool false) := (blk_cell BK788.out 0).trans rfl; have hcz30_1 : w27.cell? ⟨gb788, 1, none⟩ = some (.slice none 0 0) := (blk_cell BK788.out 1).trans rfl; have hcz30_2 : w27.cell? ⟨gb788, 2, none⟩ = some (.slice none 0 0) := (blk_cell BK788.out 2).trans rfl; have hcz30_3 : w27.cell? ⟨gb788, 3, none⟩ = some (.int .i64 0) := (blk_cell BK788.out 3).trans rfl; have hcz30_4 : w27.cell? ⟨gb788, 4, none⟩ = some (.int .i64 0) := (blk_cell BK788.out 4).trans rfl; have hcz30_5 : w27.cell? ⟨gb788, 5, none⟩ = some (.int .i64 0) := (blk_cell BK788.out 5).trans rfl; have hfz30_0 := blk_frozen BK788.out 0; have hfz30_1 := blk_frozen BK788.out 1; have hfz30_2 := blk_frozen BK788.out 2; have hfz30_3 := blk_frozen BK788.out 3; have hfz30_4 := blk_frozen BK788.out 4; have hfz30_5 := blk_frozen BK788.out 5; obtain ⟨Ao31, co31, eo31⟩ := Kd.R_slice HO781.out; subst eo31; obtain ⟨Ao32, co32, eo32⟩ := Kd.R_slice HO784.out; subst eo32; have hcz33_0 : w27.cell? ⟨gb776, 0, none⟩ = some (.bool a0_0) := (blk_cell BK776.out 0).trans rfl; have hcz33_1 : w27.cell? ⟨gb776, 1, none⟩ = some (.slice A0_1 l0_1.length c0_1) := (blk_cell BK776.out 1).trans rfl; have hcz33_2 : w27.cell? ⟨gb776, 2, none⟩ = some (.slice A0_2 l0_2.length c0_2) := (blk_cell BK776.out 2).trans rfl; have hcz33_3 : w27.cell? ⟨gb776, 3, none⟩ = some (.int .i64 a0_3) := (blk_cell BK776.out 3).trans rfl; have hcz33_4 : w27.cell? ⟨gb776, 4, none⟩ = some (.int .i64 a0_4) := (blk_cell BK776.out 4).trans rfl; have hcz33_5 : w27.cell? ⟨gb776, 5, none⟩ = some (.int .i64 a0_5) := (blk_cell BK776.out 5).trans rfl; have hfz33_0 := blk_frozen BK776.out 0; have hfz33_1 := blk_frozen BK776.out 1; have hfz33_2 := blk_frozen BK776.out 2; have hfz33_3 := blk_frozen BK776.out 3; have hfz33_4 := blk_frozen BK776.out 4; have hfz33_5 := blk_frozen BK776.out 5) | ((with_reducible refine gate_callee (f := 20) rfl ?_); refine goesL_ (some 11) rfl rfl Try.func20 (by kernel_rfl) rfl #[.agg #[.bool a0_0, .slice A0_1 l0_1.length c0_1, .slice A0_2 l0_2.length c0_2, .int .i64 a0_3, .int .i64 a0_4, .int .i64 a0_5]] rfl (by (try simp only [List.map_toArray, List.map_cons, List.map_nil]); first | done | rfl | (simp only [List.length_drop, List.length_take]; rfl) | (go_simp; done) | (simp [*]; done)) ?_; (with_reducible refine (spec_NotifyOk.calls k a0_0 _ _ l0_1 _ _ l0_2 a0_3 a0_4 a0_5 true _ ?side1 ?side2 ?side3 ?side4 A3.out).mono ?_); (case side1 => exact Kd.C_below HR0_1.out (by repeat (first | (with_reducible first | exact HB.out | apply below_alloc | apply pw_below_drewN | apply below_drew1 | refine below_set ?_ GE776.out | refine below_set ?_ GE777.out | refine below_set ?_ GE788.out) | exact HB.out))); (case side2 => exact HC0_1.out); (case side3 => exact Kd.C_below HR0_2.out (by repeat (first | (with_reducible first | exact HB.out | apply below_alloc | apply pw_below_drewN | apply below_drew1 | refine below_set ?_ GE776.out | refine below_set ?_ GE777.out | refine below_set ?_ GE788.out) | exact HB.out))); (case side4 => exact HC0_2.out); rintro e w34 ⟨rfl, hb⟩; refine ⟨_, rfl, ?_⟩; have n0_ := Aside0.mk (Kd.R_below (by (with_reducible repeat (first | apply Kd.R_alloc | apply Kd.R_drewN | apply Kd.R_drew)); exact (Kd.R_mono (Kd.R_far (p := ⟨gb788, 5, none⟩) (Kd.R_far (p := ⟨gb788, 4, none⟩) (Kd.R_far (p := ⟨gb788, 3, none⟩) (Kd.R_far (p := ⟨gb788, 2, none⟩) (Kd.R_far (p := ⟨gb788, 1, none⟩) (Kd.R_far (p := ⟨gb788, 0, none⟩) (Kd.R_types HO781.out BK788.out (by decide)) (fun _ hk => hk.2) (.bool t778)) (fun _ hk => hk.2) (.slice Ao31 t779.length co31)) (fun _ hk => hk.2) (.slice Ao32 t782.length co32)) (fun _ hk => hk.2) (.int .i64 t785)) (fun _ hk => hk.2) (.int .i64 t786)) (fun _ hk => hk.2) (.int .i64 t787)) (fun _ h_ => h_.1))) hb); have n1_ := Aside0.mk (Kd.R_below (by (with_reducible repeat (first | apply Kd.R_alloc | apply Kd.R_drewN | apply Kd.R_drew)); exact (Kd.R_mono (Kd.R_far (p := ⟨gb788, 5, none⟩) (Kd.R_far (p := ⟨gb788, 4, none⟩) (Kd.R_far (p := ⟨gb788, 3, none⟩) (Kd.R_far (p := ⟨gb788, 2, none⟩) (Kd.R_far (p := ⟨gb788, 1, none⟩) (Kd.R_far (p := ⟨gb788, 0, none⟩) (Kd.R_types HO784.out BK788.out (by decide)) (fun _ hk => hk.2) (.bool t778)) (fun _ hk => hk.2) (.slice Ao31 t779.length co31)) (fun _ hk => hk.2) (.slice Ao32 t782.length co32)) (fun _ hk => hk.2) (.int .i64 t785)) (fun _ hk => hk.2) (.int .i64 t786)) (fun _ hk => hk.2) (.int .i64 t787)) (fun _ h_ => h_.1))) hb); have n2_ := Aside0.mk (blk_below (g := gb776) (o := .cells #[.bool a0_0, .slice A0_1 l0_1.length c0_1, .slice A0_2 l0_2.length c0_2, .int .i64 a0_3, .int .i64 a0_4, .int .i64 a0_5] 38 (0, 0)) (by (with_reducible repeat (first | refine blk_drewN ?_ _ | refine blk_drew ?_ | refine blk_alloc ?_ _)); refine blk_far ?_ NB776_788.out _; (with_reducible repeat (first | refine blk_drewN ?_ _ | refine blk_drew ?_ | refine blk_alloc ?_ _)); refine blk_far ?_ NB776_788.out _; (with_reducible repeat (first | refine blk_drewN ?_ _ | refine blk_drew ?_ | refine blk_alloc ?_ _)); refine blk_far ?_ NB776_788.out _; (with_reducible repeat (first | refine blk_drewN ?_ _ | refine blk_drew ?_ | refine blk_alloc ?_ _)); refine blk_far ?_ NB776_788.out _; (with_reducible repeat (first | refine blk_drewN ?_ _ | refine blk_drew ?_ | refine blk_alloc ?_ _)); refine blk_far ?_ NB776_788.out _; (with_reducible repeat (first | refine blk_drewN ?_ _ | refine blk_drew ?_ | refine blk_alloc ?_ _)); refine blk_far ?_ NB776_788.out _; (with_reducible repeat (first | refine blk_drewN ?_ _ | refine blk_drew ?_ | refine blk_alloc ?_ _)); exact BK776.out) hb); have n3_ := Aside0.mk (blk_below (g := gb777) (o := .cells #[.bool false, .slice none 0 0, .slice none 0 0, .int .i64 0, .int .i64 0, .int .i64 0] 38 (0, 0)) (by (with_reducible repeat (first | refine blk_drewN ?_ _ | refine blk_drew ?_ | refine blk_alloc ?_ _)); refine blk_far ?_ NB777_788.out _; (with_reducible repeat (first | refine blk_drewN ?_ _ | refine blk_drew ?_ | refine blk_alloc ?_ _)); refine blk_far ?_ NB777_788.out _; (with_reducible repeat (first | refine blk_drewN ?_ _ | refine blk_drew ?_ | refine blk_alloc ?_ _)); refine blk_far ?_ NB777_788.out _; (with_reducible repeat (first | refine blk_drewN ?_ _ | refine blk_drew ?_ | refine blk_alloc ?_ _)); refine blk_far ?_ NB777_788.out _; (with_reducible repeat (first | refine blk_drewN ?_ _ | refine blk_drew ?_ | refine blk_alloc ?_ _)); refine blk_far ?_ NB777_788.out _; (with_reducible repeat (first | refine blk_drewN ?_ _ | refine blk_drew ?_ | refine blk_alloc ?_ _)); refine blk_far ?_ NB777_788.out _; (with_reducible repeat (first | refine blk_drewN ?_ _ | refine blk_drew ?_ | refine blk_alloc ?_ _)); exact BK777.out) hb); have n4_ := Aside0.mk (blk_below (g := gb788) (o := .cells #[.bool t778, .slice Ao31 t779.length co31, .slice Ao32 t782.length co32, .int .i64 t785, .int .i64 t786, .int .i64 t787] 38 (0, 0)) (by (with_reducible repeat (first | refine blk_drewN ?_ _ | refine blk_drew ?_ | refine blk_alloc ?_ _)); refine blk_put (cs := #[.bool t778, .slice Ao31 t779.length co31, .slice Ao32 t782.length co32, .int .i64 t785, .int .i64 t786, .int .i64 0]) ?_ 5 _ rfl; (with_reducible repeat (first | refine blk_drewN ?_ _ | refine blk_drew ?_ | refine blk_alloc ?_ _)); refine blk_put (cs := #[.bool t778, .slice Ao31 t779.length co31, .slice Ao32 t782.length co32, .int .i64 t785, .int .i64 0, .int .i64 0]) ?_ 4 _ rfl; (with_reducible repeat (first | refine blk_drewN ?_ _ | refine blk_drew ?_ | refine blk_alloc ?_ _)); refine blk_put (cs := #[.bool t778, .slice Ao31 t779.length co31, .slice Ao32 t782.length co32, .int .i64 0, .int .i64 0, .int .i64 0]) ?_ 3 _ rfl; (with_reducible repeat (first | refine blk_drewN ?_ _ | refine blk_drew ?_ | refine blk_alloc ?_ _)); refine blk_put (cs := #[.bool t778, .slice Ao31 t779.length co31, .slice none 0 0, .int .i64 0, .int .i64 0, .int .i64 0]) ?_ 2 _ rfl; (with_reducible repeat (first | refine blk_drewN ?_ _ | refine blk_drew ?_ | refine blk_alloc ?_ _)); refine blk_put (cs := #[.bool t778, .slice none 0 0, .slice none 0 0, .int .i64 0, .int .i64 0, .int .i64 0]) ?_ 1 _ rfl; (with_reducible repeat (first | refine blk_drewN ?_ _ | refine blk_drew ?_ | refine blk_alloc ?_ _)); refine blk_put (cs := #[.bool false, .slice none 0 0, .slice none 0 0, .int .i64 0, .int .i64 0, .int .i64 0]) ?_ 0 _ rfl; (with_reducible repeat (first | refine blk_drewN ?_ _ | refine blk_drew ?_ | refine blk_alloc ?_ _)); exact BK788.out) hb); have n5_ := Aside0.mk (below_step (by repeat (first | (with_reducible first | exact HB.out | apply below_alloc | apply pw_below_drewN | apply below_drew1 | refine below_set ?_ GE776.out | refine below_set ?_ GE777.out | refine below_set ?_ GE788.out) | exact HB.out)) hb); clear HO781 HO784 BK776 BK777 BK788 HB; have HO781 := n0_; have HO784 := n1_; have BK776 := n2_; have BK777 := n3_; have BK788 := n4_; have HB := n5_; clear n0_ n1_ n2_ n3_ n4_ n5_; (try clear hb); (try clear hb2); (try clear hk); (try clear hi); have hcz35_0 : w34.cell? ⟨gb776, 0, none⟩ = some (.bool a0_0) := (blk_cell BK776.out 0).trans rfl; have hcz35_1 : w34.cell? ⟨gb776, 1, none⟩ = some (.slice A0_1 l0_1.length c0_1) := (blk_cell BK776.out 1).trans rfl; have hcz35_2 : w34.cell? ⟨gb776, 2, none⟩ = some (.slice A0_2 l0_2.length c0_2) := (blk_cell BK776.out 2).trans rfl; have hcz35_3 : w34.cell? ⟨gb776, 3, none⟩ = some (.int .i64 a0_3) := (blk_cell BK776.out 3).trans rfl; have hcz35_4 : w34.cell? ⟨gb776, 4, none⟩ = some (.int .i64 a0_4) := (blk_cell BK776.out 4).trans rfl; have hcz35_5 : w34.cell? ⟨gb776, 5, none⟩ = some (.int .i64 a0_5) := (blk_cell BK776.out 5).trans rfl; have hfz35_0 := blk_frozen BK776.out 0; have hfz35_1 := blk_frozen BK776.out 1; have hfz35_2 := blk_frozen BK776.out 2; have hfz35_3 := blk_frozen BK776.out 3; have hfz35_4 := blk_frozen BK776.out 4; have hfz35_5 := blk_frozen BK776.out 5))
      go_loopg [6] k (fun kq v6 w' => ∃ (x6_1 : Int) (x789002_1 : List (S67)) (u789002 : Value), v6 = .int .i64 x6_1 ∧ Aside0 (spec_TellAll.l0 kq x6_1 a0_0 l0_1 l0_2 a0_3 a0_4 a0_5 t778 t779 x789002_1 t785 t786 t787 = some (r1, r2, r3, r4, r5, r6, r7, r8)) ∧ Aside0 (kq ≤ k) ∧ Aside0 (Kd.R (Kd.int .i64) 3 w' w.heap.size (fun _ => True) (.slice Ao31 t779.length co31) t779) ∧ Aside0 (Kd.R k67 67 w' w.heap.size (fun _ => True) u789002 x789002_1) ∧ Aside0 (w'.heap[gb776]? = some (.cells #[.bool a0_0, (.slice A0_1 l0_1.length c0_1), (.slice A0_2 l0_2.length c0_2), .int .i64 a0_3, .int .i64 a0_4, .int .i64 a0_5] 38 (0, 0))) ∧ Aside0 (w'.heap[gb777]? = some (.cells #[.bool false, (.slice none 0 0), (.slice none 0 0), .int .i64 0, .int .i64 0, .int .i64 0] 38 (0, 0))) ∧ Aside0 (w'.heap[gb788]? = some (.cells #[.bool t778, (.slice Ao31 t779.length co31), u789002, .int .i64 t785, .int .i64 t786, .int .i64 t787] 38 (0, 0))) ∧ Aside0 (Below w.heap.size w w'))
      case atStart => exact ⟨(0), (t782), (.slice Ao32 t782.length co32), (by first | rfl | (simp; done) | (simp [*]; done)), H', ⟨Nat.le_refl _⟩, ⟨pkR HO781.out⟩, ⟨pkR HO784.out⟩, ⟨pkK BK776.out⟩, ⟨pkK BK777.out⟩, ⟨pkK BK788.out⟩, ⟨by repeat (first | (with_reducible first | exact HB.out | apply below_alloc | apply pw_below_drewN | apply below_drew1 | refine below_set ?_ GE776.out | refine below_set ?_ GE777.out | refine below_set ?_ GE788.out) | exact HB.out)⟩⟩
      case round =>
        clear H'
        try clear c1
        try clear c2
        try clear p2
        try clear c3
        try clear c4
        try clear c5
        try clear c5b0
        try clear c6
        try clear p6
        try clear c8
        try clear c12
        try clear c13
        try clear c20
        try clear c24
        try clear c28
        try clear c29
        try clear c32
        try clear hcz14_0
        try clear hcz14_1
        try clear hcz14_2
        try clear hcz14_3
        try clear hcz14_4
        try clear hcz14_5
        try clear hcz17_0
        try clear hcz17_1
        try clear hcz17_2
        try clear hcz17_3
        try clear hcz17_4
        try clear hcz17_5
        try clear hcz19_0
        try clear hcz19_1
        try clear hcz19_2
        try clear hcz19_3
        try clear hcz19_4
        try clear hcz19_5
        try clear hcz20_0
        try clear hcz20_1
        try clear hcz20_2
        try clear hcz20_3
        try clear hcz20_4
        try clear hcz20_5
        try clear hcz21_0
        try clear hcz21_1
        try clear hcz21_2
        try clear hcz21_3
        try clear hcz21_4
        try clear hcz21_5
        try clear hcz25_0
        try clear hcz25_1
        try clear hcz25_2
        try clear hcz25_3
        try clear hcz25_4
        try clear hcz25_5
        try clear hcz30_0
        try clear hcz30_1
        try clear hcz30_2
        try clear hcz30_3
        try clear hcz30_4
        try clear hcz30_5
        try clear hcz33_0
        try clear hcz33_1
        try clear hcz33_2
        try clear hcz33_3
        try clear hcz33_4
        try clear hcz33_5
        try clear hcz35_0
        try clear hcz35_1
        try clear hcz35_2
        try clear hcz35_3
        try clear hcz35_4
        try clear hcz35_5
        try clear hcz9_0
        try clear hcz9_1
        try clear hcz9_2
        try clear hcz9_3
        try clear hcz9_4
        try clear hcz9_5
        try clear hfz14_0
        try clear hfz14_1
        try clear hfz14_2
        try clear hfz14_3
        try clear hfz14_4
        try clear hfz14_5
        try clear hfz17_0
        try clear hfz17_1
        try clear hfz17_2
        try clear hfz17_3
        try clear hfz17_4
        try clear hfz17_5
        try clear hfz19_0
        try clear hfz19_1
        try clear hfz19_2
        try clear hfz19_3
        try clear hfz19_4
        try clear hfz19_5
        try clear hfz20_0
        try clear hfz20_1
        try clear hfz20_2
        try clear hfz20_3
        try clear hfz20_4
        try clear hfz20_5
        try clear hfz21_0
        try clear hfz21_1
        try clear hfz21_2
        try clear hfz21_3
        try clear hfz21_4
        try clear hfz21_5
        try clear hfz25_0
        try clear hfz25_1
        try clear hfz25_2
        try clear hfz25_3
        try clear hfz25_4
        try clear hfz25_5
        try clear hfz30_0
        try clear hfz30_1
        try clear hfz30_2
        try clear hfz30_3
        try clear hfz30_4
        try clear hfz30_5
        try clear hfz33_0
        try clear hfz33_1
        try clear hfz33_2
        try clear hfz33_3
        try clear hfz33_4
        try clear hfz33_5
        try clear hfz35_0
        try clear hfz35_1
        try clear hfz35_2
        try clear hfz35_3
        try clear hfz35_4
        try clear hfz35_5
        try clear hfz9_0
        try clear hfz9_1
        try clear hfz9_2
        try clear hfz9_3
        try clear hfz9_4
        try clear hfz9_5
        obtain ⟨x6_1, x789002_1, u789002, rfl, HA, HK1, HO_789001, HO_789002, BK776, BK777, BK788, HB⟩ := hrel
        cases gk with
        | zero => exact absurd HA.out (by simp [spec_TellAll.l0])
        | succ k1 =>
          have H := HA.out
          clear HA
          simp only [spec_TellAll.l0] at H
          by_cases c36 : x6_1 < (l0_1.length : Int)
          · rw [if_pos c36] at H
            have c36b0 : decide (x6_1 < (l0_1.length : Int)) = true := decide_eq_true c36
            clear c36
            by_cases c37 : 0 ≤ x6_1
            · rw [if_pos c37] at H
              have c37b0 : decide (0 ≤ x6_1) = true := decide_eq_true c37
              clear c37
              by_cases c38 : x789002_1.length < 8796093022208
              · rw [if_pos c38] at H
                have LMc38 := Aside0.mk c38
                clear c38
                obtain ⟨y791, hy791⟩ : ∃ y_ : List (S67), y_ = (x789002_1 ++ [(⟨rd l0_1 x6_1, false⟩ : S67)]) := ⟨_, rfl⟩
                replace H : (spec_TellAll.l0 k1 (wrap64 (x6_1 + 1)) a0_0 l0_1 l0_2 a0_3 a0_4 a0_5 t778 t779 y791 t785 t786 t787) = some (r1, r2, r3, r4, r5, r6, r7, r8) := by first | (rw [hy791]; with_reducible exact H) | (have H2_ := (Option.bind_some _ _).symm.trans H; rw [hy791]; with_reducible exact H2_) | (have H2_ := (Option.bind_some _ _).symm.trans H; with_reducible exact H2_) | with_reducible exact H | (rw [hy791]; exact H) | exact H
                have Ny791 := Aside0.mk hy791
                clear hy791
                have H' := Aside0.mk H
                clear H
                have hnb39 := NB776_777.out
                have hnc39 := NB777_776.out
                have hnb40 := NB776_788.out
                have hnc40 := NB788_776.out
                have hcz41_0 : wr.cell? ⟨gb776, 0, none⟩ = some (.bool a0_0) := (blk_cell BK776.out 0).trans rfl
                have hcz41_1 : wr.cell? ⟨gb776, 1, none⟩ = some (.slice A0_1 l0_1.length c0_1) := (blk_cell BK776.out 1).trans rfl
                have hcz41_2 : wr.cell? ⟨gb776, 2, none⟩ = some (.slice A0_2 l0_2.length c0_2) := (blk_cell BK776.out 2).trans rfl
                have hcz41_3 : wr.cell? ⟨gb776, 3, none⟩ = some (.int .i64 a0_3) := (blk_cell BK776.out 3).trans rfl
                have hcz41_4 : wr.cell? ⟨gb776, 4, none⟩ = some (.int .i64 a0_4) := (blk_cell BK776.out 4).trans rfl
                have hcz41_5 : wr.cell? ⟨gb776, 5, none⟩ = some (.int .i64 a0_5) := (blk_cell BK776.out 5).trans rfl
                have hfz41_0 := blk_frozen BK776.out 0
                have hfz41_1 := blk_frozen BK776.out 1
                have hfz41_2 := blk_frozen BK776.out 2
                have hfz41_3 := blk_frozen BK776.out 3
                have hfz41_4 := blk_frozen BK776.out 4
                have hfz41_5 := blk_frozen BK776.out 5
                try go_wp2
                have n0_ := Aside0.mk (Kd.R_drew HO_789001.out)
                have n1_ := Aside0.mk (Kd.R_drew HO_789002.out)
                have n2_ := Aside0.mk (blk_drew BK776.out)
                have n3_ := Aside0.mk (blk_drew BK777.out)
                have n4_ := Aside0.mk (blk_drew BK788.out)
                have n5_ := Aside0.mk (below_drew1 HB.out)
                clear HO_789001 HO_789002 BK776 BK777 BK788 HB
                have HO_789001 := n0_; have HO_789002 := n1_; have BK776 := n2_; have BK777 := n3_; have BK788 := n4_; have HB := n5_
                clear n0_ n1_ n2_ n3_ n4_ n5_
                have p790 : 0 ≤ (x6_1 : Int) := of_decide_eq_true (by first | (with_reducible assumption) | assumption)
                have q790 : x6_1 < (l0_1.length : Int) := of_decide_eq_true (by first | (with_reducible assumption) | assumption)
                obtain ⟨ad790, e790, hx790_0⟩ := Kd.at_int HR0_1.out x6_1 p790 q790
                have hw790_0 := hx790_0
                cases e790
                replace hx790_0 := (HB.out.cell (World.block_lt_of_cell? w _ hx790_0)).trans hx790_0
                replace p790 := eq_true p790
                replace q790 := eq_true q790
                refine start_ (n := 12) (S := fun w' => w'.cell? ⟨gb788, 0, none⟩ = some (.bool t778) ∧ w'.cell? ⟨gb788, 1, none⟩ = some (.slice Ao31 t779.length co31) ∧ w'.cell? ⟨gb788, 2, none⟩ = some (u789002) ∧ w'.cell? ⟨gb788, 3, none⟩ = some (.int .i64 t785) ∧ w'.cell? ⟨gb788, 4, none⟩ = some (.int .i64 t786) ∧ w'.cell? ⟨gb788, 5, none⟩ = some (.int .i64 t787) ∧ w'.cell? ⟨gb776, 0, none⟩ = some (.bool a0_0) ∧ w'.cell? ⟨gb776, 1, none⟩ = some (.slice (some ad790) l0_1.length c0_1) ∧ w'.cell? ⟨gb776, 2, none⟩ = some (.slice A0_2 l0_2.length c0_2) ∧ w'.cell? ⟨gb776, 3, none⟩ = some (.int .i64 a0_3) ∧ w'.cell? ⟨gb776, 4, none⟩ = some (.int .i64 a0_4) ∧ w'.cell? ⟨gb776, 5, none⟩ = some (.int .i64 a0_5) ∧ w'.cell? (ad790.add (x6_1).toNat) = some (.int .i64 (rd l0_1 x6_1))) (ds := [11]) #[false, false, false, false, false, false, false, false, false, false, false, false] (by kernel_rfl) rfl rfl ⟨(blk_cell BK788.out 0).trans rfl, (blk_cell BK788.out 1).trans rfl, (blk_cell BK788.out 2).trans rfl, (blk_cell BK788.out 3).trans rfl, (blk_cell BK788.out 4).trans rfl, (blk_cell BK788.out 5).trans rfl, (blk_cell BK776.out 0).trans rfl, (blk_cell BK776.out 1).trans rfl, (blk_cell BK776.out 2).trans rfl, (blk_cell BK776.out 3).trans rfl, (blk_cell BK776.out 4).trans rfl, (blk_cell BK776.out 5).trans rfl, ((HB.out.cell (World.block_lt_of_cell? w _ hw790_0)).trans hw790_0)⟩ (fun hHeld => ?_); refine with_tabW spec_TellAll.tab9 spec_TellAll.bits9 (fun HT_ HW_ => ?_)
                generalize wr.drew = w42 at HO_789001 HO_789002 BK776 BK777 BK788 HB hx790_0 hHeld ⊢
                refine pure_ (i := 0) (N := some 31) (v := ?_) (a' := ?_) #[true, false, false, false, false, false, false, false, false, false, false, false] rfl rfl (any_of HT_.out (by kernel_rfl)) (fun _ _ _ h => h) (Or.inl ⟨by rfl, ?_⟩) ?_ ?_
                rotate_left
                · intro w'
                  go_simp
                  with_reducible rfl
                rotate_left
                · simp only [Act.put, List.setIfInBounds_toArray, List.set_cons_zero, List.set_cons_succ, i64_w, i32_w]
                  rfl
                refine pure_ (i := 2) (N := some 33) (v := ?_) (a' := ?_) #[true, false, true, false, false, false, false, false, false, false, false, false] rfl rfl (any_of HT_.out (by kernel_rfl)) (fun _ _ _ h => h) (Or.inl ⟨by rfl, ?_⟩) ?_ ?_
                rotate_left
                · intro w'
                  go_simp
                  with_reducible rfl
                rotate_left
                · simp only [Act.put, List.setIfInBounds_toArray, List.set_cons_zero, List.set_cons_succ, i64_w, i32_w]
                  rfl
                refine pure_ (i := 4) (N := some 35) (v := ?_) (a' := ?_) #[true, false, true, false, true, false, false, false, false, false, false, false] rfl rfl (any_of HT_.out (by kernel_rfl)) (fun _ _ _ h => h) (Or.inl ⟨by rfl, ?_⟩) ?_ ?_
                rotate_left
                · intro w'
                  go_simp
                  with_reducible rfl
                rotate_left
                · simp only [Act.put, List.setIfInBounds_toArray, List.set_cons_zero, List.set_cons_succ, i64_w, i32_w]
                  rfl
                refine take_ (i := 1) (N := some 32) (v := ?_) (a' := ?_) #[true, true, true, false, true, false, false, false, false, false, false, false] rfl rfl (take_ofW HT_.out HW_.out (by kernel_rfl)) (fun _ _ _ h => h) (Or.inl ⟨by rfl, ?_⟩) hHeld ?_ ?_
                rotate_left
                · rintro w' ⟨s0, s1, s2, s3, s4, s5, s6, s7, s8, s9, s10, s11, s12⟩
                  go_simp
                  with_reducible rfl
                rotate_left
                · simp only [Act.put, List.setIfInBounds_toArray, List.set_cons_zero, List.set_cons_succ, i64_w, i32_w]
                  rfl
                refine take_ (i := 3) (N := some 34) (v := ?_) (a' := ?_) #[true, true, true, true, true, false, false, false, false, false, false, false] rfl rfl (take_ofW HT_.out HW_.out (by kernel_rfl)) (fun _ _ _ h => h) (Or.inl ⟨by rfl, ?_⟩) hHeld ?_ ?_
                rotate_left
                · rintro w' ⟨s0, s1, s2, s3, s4, s5, s6, s7, s8, s9, s10, s11, s12⟩
                  go_simp
                  with_reducible rfl
                rotate_left
                · simp only [Act.put, List.setIfInBounds_toArray, List.set_cons_zero, List.set_cons_succ, i64_w, i32_w]
                  rfl
                refine pure_ (i := 5) (N := some 36) (v := ?_) (a' := ?_) #[true, true, true, true, true, true, false, false, false, false, false, false] rfl rfl (any_of HT_.out (by kernel_rfl)) (fun _ _ _ h => h) (Or.inl ⟨by rfl, ?_⟩) ?_ ?_
                rotate_left
                · intro w'
                  go_simp
                  with_reducible rfl
                rotate_left
                · simp only [Act.put, List.setIfInBounds_toArray, List.set_cons_zero, List.set_cons_succ, i64_w, i32_w]
                  rfl
                refine take_ (i := 6) (N := some 37) (v := ?_) (a' := ?_) #[true, true, true, true, true, true, true, false, false, false, false, false] rfl rfl (take_ofW HT_.out HW_.out (by kernel_rfl)) (fun _ _ _ h => h) (Or.inl ⟨by rfl, ?_⟩) hHeld ?_ ?_
                rotate_left
                · rintro w' ⟨s0, s1, s2, s3, s4, s5, s6, s7, s8, s9, s10, s11, s12⟩
                  go_simp
                  with_reducible rfl
                rotate_left
                · simp only [Act.put, List.setIfInBounds_toArray, List.set_cons_zero, List.set_cons_succ, i64_w, i32_w]
                  rfl
                refine pure_ (i := 7) (N := some 38) (v := ?_) (a' := ?_) #[true, true, true, true, true, true, true, true, false, false, false, false] rfl rfl (any_of HT_.out (by kernel_rfl)) (fun _ _ _ h => h) (Or.inl ⟨by rfl, ?_⟩) ?_ ?_
                rotate_left
                · intro w'
                  go_simp
                  with_reducible rfl
                rotate_left
                · simp only [Act.put, List.setIfInBounds_toArray, List.set_cons_zero, List.set_cons_succ, i64_w, i32_w]
                  rfl
                refine one_ (i := 8) (N := some 39) #[true, true, true, true, true, true, true, true, true, false, false, false] rfl rfl (one_of HT_.out (by kernel_rfl)) (by decide) (fun K hK => ?_)
                refine value_ (w1 := ?_) (v := ?_) (by rfl) rfl ?_ ?_
                rotate_left 2
                · go_simp
                  constructor
                  · rfl
                  · rfl
                refine hK.out _ _ ⟨(blk_cell (blk_alloc BK788.out _) 0).trans rfl, (blk_cell (blk_alloc BK788.out _) 1).trans rfl, (blk_cell (blk_alloc BK788.out _) 2).trans rfl, (blk_cell (blk_alloc BK788.out _) 3).trans rfl, (blk_cell (blk_alloc BK788.out _) 4).trans rfl, (blk_cell (blk_alloc BK788.out _) 5).trans rfl, (blk_cell (blk_alloc BK776.out _) 0).trans rfl, (blk_cell (blk_alloc BK776.out _) 1).trans rfl, (blk_cell (blk_alloc BK776.out _) 2).trans rfl, (blk_cell (blk_alloc BK776.out _) 3).trans rfl, (blk_cell (blk_alloc BK776.out _) 4).trans rfl, (blk_cell (blk_alloc BK776.out _) 5).trans rfl, (World.cell?_alloc_lt _ _ _ (World.block_lt_of_cell? _ _ (((HB.out.cell (World.block_lt_of_cell? w _ hw790_0)).trans hw790_0)))).trans (((HB.out.cell (World.block_lt_of_cell? w _ hw790_0)).trans hw790_0))⟩ (fun hHeld => ?_)
                clear hK K
                refine norm_ (a' := ?_) ?_ ?_
                rotate_left
                · show Act.put _ (some 39) _ = _
                  simp only [Act.put, List.setIfInBounds_toArray, List.set_cons_zero, List.set_cons_succ, i64_w, i32_w]
                  rfl
                refine one_ (i := 9) (N := some 40) #[true, true, true, true, true, true, true, true, true, true, false, false] rfl rfl (one_of HT_.out (by kernel_rfl)) (by decide) (fun K hK => ?_)
                refine Kd.R_append_step k67 (w0 := w) w.heap.size (by rfl) (.tmp 32) (.tmp 39) 36 67 (.agg #[(.int .i64 0), (.bool false)]) 16 rfl Try.underlying36 info67 rfl (by decide) (by omega) u789002 x789002_1 (⟨rd l0_1 x6_1, false⟩ : S67) [.int .i64 (rd l0_1 x6_1), .bool false] (fun _ => True) (fun _ => False) rfl rfl ?aP (fun _ hk => hk.elim) ?aF ?aO ?aB ?aS ?aL ?_
                (case aP => exact k67_mkM _ _ _ (⟨rd l0_1 x6_1, false⟩ : S67))
                (case aB => exact (by repeat (first | (with_reducible first | exact HB.out | apply below_alloc | apply pw_below_drewN | apply below_drew1 | refine below_set ?_ GE776.out | refine below_set ?_ GE777.out | refine below_set ?_ GE788.out) | exact HB.out)))
                (case aF => exact (fun _ _ => trivial))
                (case aO => exact (pkR HO_789002.out))
                (case aS => exact (below_size (by repeat (first | (with_reducible first | exact HB.out | apply below_alloc | apply pw_below_drewN | apply below_drew1 | refine below_set ?_ GE776.out | refine below_set ?_ GE777.out | refine below_set ?_ GE788.out) | exact HB.out))))
                (case aL => have := LMc38.out; omega)
                intro v792 w43 ho hb hg hat
                rw [← Ny791.out] at ho
                have n0_ := Aside0.mk (Kd.R_over' (pkR HO_789001.out) (Kd.R_typed (pkR HO_789002.out)) (by decide) hg)
                have n1_ := Aside0.mk (blk_grown (g := gb776) (o := .cells #[.bool a0_0, .slice (some ad790) l0_1.length c0_1, .slice A0_2 l0_2.length c0_2, .int .i64 a0_3, .int .i64 a0_4, .int .i64 a0_5] 38 (0, 0)) (pkK BK776.out) hg (Kd.R_ne HO_789002.out BK776.out (by decide)))
                have n2_ := Aside0.mk (blk_grown (g := gb777) (o := .cells #[.bool false, .slice none 0 0, .slice none 0 0, .int .i64 0, .int .i64 0, .int .i64 0] 38 (0, 0)) (pkK BK777.out) hg (Kd.R_ne HO_789002.out BK777.out (by decide)))
                have n3_ := Aside0.mk (blk_grown (g := gb788) (o := .cells #[.bool t778, .slice Ao31 t779.length co31, u789002, .int .i64 t785, .int .i64 t786, .int .i64 t787] 38 (0, 0)) (pkK BK788.out) hg (Kd.R_ne HO_789002.out BK788.out (by decide)))
                have n4_ := Aside0.mk (hb)
                have n5_ := Aside0.mk (ho)
                clear HO_789001 BK776 BK777 BK788 HB HO_789002
                have HO_789001 := n0_; have BK776 := n1_; have BK777 := n2_; have BK788 := n3_; have HB := n4_; have HO793 := n5_
                clear n0_ n1_ n2_ n3_ n4_ n5_ ho hb hg hat
                obtain ⟨Ao44, co44, eo44⟩ := Kd.R_slice HO793.out
                (first | subst eo44 | (injection eo44 with f1_ f2_ f3_; have f4_ := f1_.symm; have f5_ := f3_.symm; clear f1_ f2_ f3_; subst f4_; subst f5_))
                refine hK.out _ _ ⟨(blk_cell BK788.out 0).trans rfl, (blk_cell BK788.out 1).trans rfl, (blk_cell BK788.out 2).trans rfl, (blk_cell BK788.out 3).trans rfl, (blk_cell BK788.out 4).trans rfl, (blk_cell BK788.out 5).trans rfl, (blk_cell BK776.out 0).trans rfl, (blk_cell BK776.out 1).trans rfl, (blk_cell BK776.out 2).trans rfl, (blk_cell BK776.out 3).trans rfl, (blk_cell BK776.out 4).trans rfl, (blk_cell BK776.out 5).trans rfl, ((HB.out.cell (World.block_lt_of_cell? w _ hw790_0)).trans hw790_0)⟩ (fun hHeld => ?_)
                clear hK K
                refine norm_ (a' := ?_) ?_ ?_
                rotate_left
                · show Act.put _ (some 40) _ = _
                  simp only [Act.put, List.setIfInBounds_toArray, List.set_cons_zero, List.set_cons_succ, i64_w, i32_w]
                  rfl
                refine pure_ (i := 10) (N := some 41) (v := ?_) (a' := ?_) #[true, true, true, true, true, true, true, true, true, true, true, false] rfl rfl (any_of HT_.out (by kernel_rfl)) (fun _ _ _ h => h) (Or.inl ⟨by rfl, ?_⟩) ?_ ?_
                rotate_left
                · intro w'
                  go_simp
                  with_reducible rfl
                rotate_left
                · simp only [Act.put, List.setIfInBounds_toArray, List.set_cons_zero, List.set_cons_succ, i64_w, i32_w]
                  rfl
                refine last_ (i := 11) (N := none) #[true, true, true, true, true, true, true, true, true, true, true, true] rfl rfl (one_of HT_.out (by kernel_rfl)) (by decide) (fun K hK => ?_)
                have hs45 : w43.cell? ⟨gb788, 2, none⟩ = some (u789002) := (blk_cell BK788.out 2).trans rfl
                have hfs45 := blk_frozen BK788.out 2
                have hns45_0 := NB776_788.out
                have hns45_1 := NB777_788.out
                have hms45_0 := NB788_776.out
                have hms45_1 := NB788_777.out
                refine skip_ (w1 := ?_) (by rfl) rfl ?_ ?_
                rotate_left
                · go_simp
                  rfl
                refine hK.out _ _ ?_
                clear hK K
                refine done_ (done_of HT_.out (by kernel_rfl)) ?_
                try go_wp2
                go_roundg k1
                case measure => have := HK1.out; omega
                case rel => exact ⟨(wrap64 (x6_1 + 1)), (y791), (.slice Ao44 y791.length co44), (by first | rfl | (simp; done) | (simp [*]; done)), H', ⟨by have := HK1.out; omega⟩, ⟨by (with_reducible repeat (first | apply Kd.R_alloc | apply Kd.R_drewN | apply Kd.R_drew)); exact Kd.R_mono (Kd.R_far (p := ⟨gb788, 2, none⟩) (Kd.R_types HO_789001.out BK788.out (by decide)) (fun _ hk => hk.2) (.slice Ao44 y791.length co44)) (fun _ hk => trivial)⟩, ⟨by (with_reducible repeat (first | apply Kd.R_alloc | apply Kd.R_drewN | apply Kd.R_drew)); exact Kd.R_mono (Kd.R_far (p := ⟨gb788, 2, none⟩) (Kd.R_types HO793.out BK788.out (by decide)) (fun _ hk => hk.2) (.slice Ao44 y791.length co44)) (fun _ hk => trivial)⟩, ⟨by (with_reducible repeat (first | refine blk_drewN ?_ _ | refine blk_drew ?_ | refine blk_alloc ?_ _)); refine blk_far ?_ NB776_788.out _; (with_reducible repeat (first | refine blk_drewN ?_ _ | refine blk_drew ?_ | refine blk_alloc ?_ _)); exact BK776.out⟩, ⟨by (with_reducible repeat (first | refine blk_drewN ?_ _ | refine blk_drew ?_ | refine blk_alloc ?_ _)); refine blk_far ?_ NB777_788.out _; (with_reducible repeat (first | refine blk_drewN ?_ _ | refine blk_drew ?_ | refine blk_alloc ?_ _)); exact BK777.out⟩, ⟨by (with_reducible repeat (first | refine blk_drewN ?_ _ | refine blk_drew ?_ | refine blk_alloc ?_ _)); refine blk_put (cs := #[.bool t778, .slice Ao31 t779.length co31, u789002, .int .i64 t785, .int .i64 t786, .int .i64 t787]) ?_ 2 _ rfl; (with_reducible repeat (first | refine blk_drewN ?_ _ | refine blk_drew ?_ | refine blk_alloc ?_ _)); exact BK788.out⟩, ⟨by repeat (first | (with_reducible first | exact HB.out | apply below_alloc | apply pw_below_drewN | apply below_drew1 | refine below_set ?_ GE776.out | refine below_set ?_ GE777.out | refine below_set ?_ GE788.out) | exact HB.out)⟩⟩
              · rw [if_neg c38] at H
                exact absurd H (by simp)
            · rw [if_neg c37] at H
              exact absurd H (by simp)
          · rw [if_neg c36] at H
            have c36b0 : decide (x6_1 < (l0_1.length : Int)) = false := decide_eq_false c36
            clear c36
            replace H := Option.bind_eq_some_iff.mp H
            obtain ⟨t794, A460, H⟩ := H
            replace H : (some (t778, ([] : List Int), x789002_1, t785, t786, t787, t794, 0)) = some (r1, r2, r3, r4, r5, r6, r7, r8) := H
            have A46 := Aside0.mk A460
            clear A460
            simp only [Option.some.injEq, Prod.mk.injEq] at H
            obtain ⟨rfl, rfl, rfl, rfl, rfl, rfl, rfl, rfl⟩ := H
            have hnb47 := NB776_777.out
            have hnc47 := NB777_776.out
            have hnb48 := NB776_788.out
            have hnc48 := NB788_776.out
            have hcz49_0 : wr.cell? ⟨gb776, 0, none⟩ = some (.bool a0_0) := (blk_cell BK776.out 0).trans rfl
            have hcz49_1 : wr.cell? ⟨gb776, 1, none⟩ = some (.slice A0_1 l0_1.length c0_1) := (blk_cell BK776.out 1).trans rfl
            have hcz49_2 : wr.cell? ⟨gb776, 2, none⟩ = some (.slice A0_2 l0_2.length c0_2) := (blk_cell BK776.out 2).trans rfl
            have hcz49_3 : wr.cell? ⟨gb776, 3, none⟩ = some (.int .i64 a0_3) := (blk_cell BK776.out 3).trans rfl
            have hcz49_4 : wr.cell? ⟨gb776, 4, none⟩ = some (.int .i64 a0_4) := (blk_cell BK776.out 4).trans rfl
            have hcz49_5 : wr.cell? ⟨gb776, 5, none⟩ = some (.int .i64 a0_5) := (blk_cell BK776.out 5).trans rfl
            have hfz49_0 := blk_frozen BK776.out 0
            have hfz49_1 := blk_frozen BK776.out 1
            have hfz49_2 := blk_frozen BK776.out 2
            have hfz49_3 := blk_frozen BK776.out 3
            have hfz49_4 := blk_frozen BK776.out 4
            have hfz49_5 := blk_frozen BK776.out 5
            have hnb50 := NB788_777.out
            have hnc50 := NB777_788.out
            have hcz51_0 : wr.cell? ⟨gb788, 0, none⟩ = some (.bool t778) := (blk_cell BK788.out 0).trans rfl
            have hcz51_1 : wr.cell? ⟨gb788, 1, none⟩ = some (.slice Ao31 t779.length co31) := (blk_cell BK788.out 1).trans rfl
            have hcz51_2 : wr.cell? ⟨gb788, 2, none⟩ = some (u789002) := (blk_cell BK788.out 2).trans rfl
            have hcz51_3 : wr.cell? ⟨gb788, 3, none⟩ = some (.int .i64 t785) := (blk_cell BK788.out 3).trans rfl
            have hcz51_4 : wr.cell? ⟨gb788, 4, none⟩ = some (.int .i64 t786) := (blk_cell BK788.out 4).trans rfl
            have hcz51_5 : wr.cell? ⟨gb788, 5, none⟩ = some (.int .i64 t787) := (blk_cell BK788.out 5).trans rfl
            have hfz51_0 := blk_frozen BK788.out 0
            have hfz51_1 := blk_frozen BK788.out 1
            have hfz51_2 := blk_frozen BK788.out 2
            have hfz51_3 := blk_frozen BK788.out 3
            have hfz51_4 := blk_frozen BK788.out 4
            have hfz51_5 := blk_frozen BK788.out 5
            try go_wp2
            have n0_ : Aside0 (Kd.R (Kd.int .i64) 3 (wr.setCell ⟨gb788, 1, none⟩ (.slice none 0 0)) w.heap.size (fun _ => True) (.slice Ao31 t779.length co31) t779) := ⟨by (with_reducible repeat (first | apply Kd.R_alloc | apply Kd.R_drewN | apply Kd.R_drew)); exact Kd.R_mono (Kd.R_far (p := ⟨gb788, 1, none⟩) (Kd.R_types HO_789001.out BK788.out (by decide)) (fun _ hk => hk.2) (.slice none 0 0)) (fun _ hk => trivial)⟩
            have n1_ : Aside0 (Kd.R k67 67 (wr.setCell ⟨gb788, 1, none⟩ (.slice none 0 0)) w.heap.size (fun _ => True) u789002 x789002_1) := ⟨by (with_reducible repeat (first | apply Kd.R_alloc | apply Kd.R_drewN | apply Kd.R_drew)); exact Kd.R_mono (Kd.R_far (p := ⟨gb788, 1, none⟩) (Kd.R_types HO_789002.out BK788.out (by decide)) (fun _ hk => hk.2) (.slice none 0 0)) (fun _ hk => trivial)⟩
            have n2_ : Aside0 ((wr.setCell ⟨gb788, 1, none⟩ (.slice none 0 0)).heap[gb776]? = some (.cells #[.bool a0_0, .slice A0_1 l0_1.length c0_1, .slice A0_2 l0_2.length c0_2, .int .i64 a0_3, .int .i64 a0_4, .int .i64 a0_5] 38 (0, 0))) := ⟨by (with_reducible repeat (first | refine blk_drewN ?_ _ | refine blk_drew ?_ | refine blk_alloc ?_ _)); refine blk_far ?_ NB776_788.out _; (with_reducible repeat (first | refine blk_drewN ?_ _ | refine blk_drew ?_ | refine blk_alloc ?_ _)); exact BK776.out⟩
            have n3_ : Aside0 ((wr.setCell ⟨gb788, 1, none⟩ (.slice none 0 0)).heap[gb777]? = some (.cells #[.bool false, .slice none 0 0, .slice none 0 0, .int .i64 0, .int .i64 0, .int .i64 0] 38 (0, 0))) := ⟨by (with_reducible repeat (first | refine blk_drewN ?_ _ | refine blk_drew ?_ | refine blk_alloc ?_ _)); refine blk_far ?_ NB777_788.out _; (with_reducible repeat (first | refine blk_drewN ?_ _ | refine blk_drew ?_ | refine blk_alloc ?_ _)); exact BK777.out⟩
            have n4_ : Aside0 ((wr.setCell ⟨gb788, 1, none⟩ (.slice none 0 0)).heap[gb788]? = some (.cells #[.bool t778, .slice none 0 0, u789002, .int .i64 t785, .int .i64 t786, .int .i64 t787] 38 (0, 0))) := ⟨by (with_reducible repeat (first | refine blk_drewN ?_ _ | refine blk_drew ?_ | refine blk_alloc ?_ _)); refine blk_put (cs := #[.bool t778, .slice Ao31 t779.length co31, u789002, .int .i64 t785, .int .i64 t786, .int .i64 t787]) ?_ 1 _ rfl; (with_reducible repeat (first | refine blk_drewN ?_ _ | refine blk_drew ?_ | refine blk_alloc ?_ _)); exact BK788.out⟩
            have n5_ : Aside0 (Below w.heap.size w (wr.setCell ⟨gb788, 1, none⟩ (.slice none 0 0))) := ⟨by repeat (first | (with_reducible first | exact HB.out | apply below_alloc | apply pw_below_drewN | apply below_drew1 | refine below_set ?_ GE776.out | refine below_set ?_ GE777.out | refine below_set ?_ GE788.out) | exact HB.out)⟩
            (try clear HO_789001); (try clear HO_789002); (try clear BK776); (try clear BK777); (try clear BK788); (try clear HB)
            generalize (wr.setCell ⟨gb788, 1, none⟩ (.slice none 0 0)) = w52 at n0_ n1_ n2_ n3_ n4_ n5_ ⊢
            have HO_789001 := n0_; have HO_789002 := n1_; have BK776 := n2_; have BK777 := n3_; have BK788 := n4_; have HB := n5_
            clear n0_ n1_ n2_ n3_ n4_ n5_
            have n0_ := Aside0.mk (Kd.R_drew HO_789001.out)
            have n1_ := Aside0.mk (Kd.R_drew HO_789002.out)
            have n2_ := Aside0.mk (blk_drew BK776.out)
            have n3_ := Aside0.mk (blk_drew BK777.out)
            have n4_ := Aside0.mk (blk_drew BK788.out)
            have n5_ := Aside0.mk (below_drew1 HB.out)
            clear HO_789001 HO_789002 BK776 BK777 BK788 HB
            have HO_789001 := n0_; have HO_789002 := n1_; have BK776 := n2_; have BK777 := n3_; have BK788 := n4_; have HB := n5_
            clear n0_ n1_ n2_ n3_ n4_ n5_
            refine start_ (n := 7) (S := fun w' => w'.cell? ⟨gb788, 0, none⟩ = some (.bool t778) ∧ w'.cell? ⟨gb788, 1, none⟩ = some (.slice none 0 0) ∧ w'.cell? ⟨gb788, 2, none⟩ = some (u789002) ∧ w'.cell? ⟨gb788, 3, none⟩ = some (.int .i64 t785) ∧ w'.cell? ⟨gb788, 4, none⟩ = some (.int .i64 t786) ∧ w'.cell? ⟨gb788, 5, none⟩ = some (.int .i64 t787) ∧ w'.cell? ⟨gb776, 0, none⟩ = some (.bool a0_0) ∧ w'.cell? ⟨gb776, 1, none⟩ = some (.slice A0_1 l0_1.length c0_1) ∧ w'.cell? ⟨gb776, 2, none⟩ = some (.slice A0_2 l0_2.length c0_2) ∧ w'.cell? ⟨gb776, 3, none⟩ = some (.int .i64 a0_3) ∧ w'.cell? ⟨gb776, 4, none⟩ = some (.int .i64 a0_4) ∧ w'.cell? ⟨gb776, 5, none⟩ = some (.int .i64 a0_5)) (ds := []) #[false, false, false, false, false, false, false] (by kernel_rfl) rfl rfl ⟨(blk_cell BK788.out 0).trans rfl, (blk_cell BK788.out 1).trans rfl, (blk_cell BK788.out 2).trans rfl, (blk_cell BK788.out 3).trans rfl, (blk_cell BK788.out 4).trans rfl, (blk_cell BK788.out 5).trans rfl, (blk_cell BK776.out 0).trans rfl, (blk_cell BK776.out 1).trans rfl, (blk_cell BK776.out 2).trans rfl, (blk_cell BK776.out 3).trans rfl, (blk_cell BK776.out 4).trans rfl, (blk_cell BK776.out 5).trans rfl⟩ (fun hHeld => ?_)
            generalize w52.drew = w53 at HO_789001 HO_789002 BK776 BK777 BK788 HB hHeld ⊢
            refine pure_ (i := 1) (N := some 44) (v := ?_) (a' := ?_) #[false, true, false, false, false, false, false] rfl rfl (by kernel_rfl) (fun _ _ _ h => h) (Or.inl ⟨by rfl, ?_⟩) ?_ ?_
            rotate_left
            · intro w'
              go_simp
              with_reducible rfl
            rotate_left
            · simp only [Act.put, List.setIfInBounds_toArray, List.set_cons_zero, List.set_cons_succ, i64_w, i32_w]
              rfl
            refine take_ (i := 0) (N := some 43) (v := ?_) (a' := ?_) #[true, true, false, false, false, false, false] rfl rfl (by kernel_rfl) (fun _ _ _ h => h) (Or.inl ⟨by rfl, ?_⟩) hHeld ?_ ?_
            rotate_left
            · rintro w' ⟨s0, s1, s2, s3, s4, s5, s6, s7, s8, s9, s10, s11⟩
              go_simp
              with_reducible rfl
            rotate_left
            · simp only [Act.put, List.setIfInBounds_toArray, List.set_cons_zero, List.set_cons_succ, i64_w, i32_w]
              rfl
            refine take_ (i := 2) (N := some 45) (v := ?_) (a' := ?_) #[true, true, true, false, false, false, false] rfl rfl (by kernel_rfl) (fun _ _ _ h => h) (Or.inl ⟨by rfl, ?_⟩) hHeld ?_ ?_
            rotate_left
            · rintro w' ⟨s0, s1, s2, s3, s4, s5, s6, s7, s8, s9, s10, s11⟩
              go_simp
              with_reducible rfl
            rotate_left
            · simp only [Act.put, List.setIfInBounds_toArray, List.set_cons_zero, List.set_cons_succ, i64_w, i32_w]
              rfl
            refine one_ (i := 3) (N := some 46) #[true, true, true, true, false, false, false] rfl rfl (by kernel_rfl) (by decide) (fun K hK => ?_)
            refine goes_ Try.func70 (by kernel_rfl) rfl #[.slice A0_1 l0_1.length c0_1] (by rfl) rfl rfl (by (try simp only [List.map_toArray, List.map_cons, List.map_nil]); first | done | rfl | (simp only [List.length_drop, List.length_take]; rfl) | (go_simp; done) | (simp [*]; done)) ?_
            with_reducible refine (spec_l2Copy.calls _ _ l0_1 t794 _ ?side1 ?side2 A46.out).mono ?_
            (case side1 => exact pkC (Kd.C_below HR0_1.out HB.out))
            (case side2 => exact HC0_1.out)
            rintro e w54 ⟨v795, rfl, ho0, hb⟩
            refine ⟨_, rfl, ?_⟩
            have n0_ := Aside0.mk (Kd.R_elder' (pkR HO_789001.out) (Kd.R_base ho0) hb)
            have n1_ := Aside0.mk (Kd.R_below (pkR HO_789002.out) hb)
            have n2_ := Aside0.mk (Kd.R_lower (Kd.R_new' ho0 (Kd.R_lt (pkR HO_789001.out))) (below_size (by repeat (first | (with_reducible first | exact HB.out | apply below_alloc | apply pw_below_drewN | apply below_drew1 | refine below_set ?_ GE776.out | refine below_set ?_ GE777.out | refine below_set ?_ GE788.out) | exact HB.out))))
            have n3_ := Aside0.mk (blk_below (g := gb776) (o := .cells #[.bool a0_0, .slice A0_1 l0_1.length c0_1, .slice A0_2 l0_2.length c0_2, .int .i64 a0_3, .int .i64 a0_4, .int .i64 a0_5] 38 (0, 0)) (pkK BK776.out) hb)
            have n4_ := Aside0.mk (blk_below (g := gb777) (o := .cells #[.bool false, .slice none 0 0, .slice none 0 0, .int .i64 0, .int .i64 0, .int .i64 0] 38 (0, 0)) (pkK BK777.out) hb)
            have n5_ := Aside0.mk (blk_below (g := gb788) (o := .cells #[.bool t778, .slice none 0 0, u789002, .int .i64 t785, .int .i64 t786, .int .i64 t787] 38 (0, 0)) (pkK BK788.out) hb)
            have n6_ := Aside0.mk (below_step (by repeat (first | (with_reducible first | exact HB.out | apply below_alloc | apply pw_below_drewN | apply below_drew1 | refine below_set ?_ GE776.out | refine below_set ?_ GE777.out | refine below_set ?_ GE788.out) | exact HB.out)) hb)
            clear HO_789001 HO_789002 BK776 BK777 BK788 HB
            have HO_789001 := n0_; have HO_789002 := n1_; have HO796 := n2_; have BK776 := n3_; have BK777 := n4_; have BK788 := n5_; have HB := n6_
            clear n0_ n1_ n2_ n3_ n4_ n5_ n6_
            (try clear hb); (try clear hb2); (try clear hk); (try clear hi); (try clear ho0)
            obtain ⟨Ao57, co57, eo57⟩ := Kd.R_slice HO_789002.out
            (first | subst eo57 | (injection eo57 with f1_ f2_ f3_; have f4_ := f1_.symm; have f5_ := f3_.symm; clear f1_ f2_ f3_; subst f4_; subst f5_))
            refine hK.out _ _ ⟨(blk_cell BK788.out 0).trans rfl, (blk_cell BK788.out 1).trans rfl, (blk_cell BK788.out 2).trans rfl, (blk_cell BK788.out 3).trans rfl, (blk_cell BK788.out 4).trans rfl, (blk_cell BK788.out 5).trans rfl, (blk_cell BK776.out 0).trans rfl, (blk_cell BK776.out 1).trans rfl, (blk_cell BK776.out 2).trans rfl, (blk_cell BK776.out 3).trans rfl, (blk_cell BK776.out 4).trans rfl, (blk_cell BK776.out 5).trans rfl⟩ (fun hHeld => ?_)
            clear hK K
            refine norm_ (a' := ?_) ?_ ?_
            rotate_left
            · show Act.put _ (some 46) _ = _
              simp only [Act.put, List.setIfInBounds_toArray, List.set_cons_zero, List.set_cons_succ, i64_w, i32_w]
              rfl
            refine one_ (i := 4) (N := none) #[true, true, true, true, true, false, false] rfl rfl (by kernel_rfl) (by decide) (fun K hK => ?_)
            have hs55 : w54.cell? ⟨gb777, 0, none⟩ = some (.bool false) := (blk_cell BK777.out 0).trans rfl
            have hfs55 := blk_frozen BK777.out 0
            have hns55_0 := NB776_777.out
            have hns55_2 := NB788_777.out
            have hms55_0 := NB777_776.out
            have hms55_2 := NB777_788.out
            have hs56 : w54.cell? ⟨gb777, 1, none⟩ = some (.slice none 0 0) := (blk_cell BK777.out 1).trans rfl
            have hfs56 := blk_frozen BK777.out 1
            have hns56_0 := NB776_777.out
            have hns56_2 := NB788_777.out
            have hms56_0 := NB777_776.out
            have hms56_2 := NB777_788.out
            have hs58 : w54.cell? ⟨gb777, 2, none⟩ = some (.slice none 0 0) := (blk_cell BK777.out 2).trans rfl
            have hfs58 := blk_frozen BK777.out 2
            have hns58_0 := NB776_777.out
            have hns58_2 := NB788_777.out
            have hms58_0 := NB777_776.out
            have hms58_2 := NB777_788.out
            have hs59 : w54.cell? ⟨gb777, 3, none⟩ = some (.int .i64 0) := (blk_cell BK777.out 3).trans rfl
            have hfs59 := blk_frozen BK777.out 3
            have hns59_0 := NB776_777.out
            have hns59_2 := NB788_777.out
            have hms59_0 := NB777_776.out
            have hms59_2 := NB777_788.out
            have hs60 : w54.cell? ⟨gb777, 4, none⟩ = some (.int .i64 0) := (blk_cell BK777.out 4).trans rfl
            have hfs60 := blk_frozen BK777.out 4
            have hns60_0 := NB776_777.out
            have hns60_2 := NB788_777.out
            have hms60_0 := NB777_776.out
            have hms60_2 := NB777_788.out
            have hs61 : w54.cell? ⟨gb777, 5, none⟩ = some (.int .i64 0) := (blk_cell BK777.out 5).trans rfl
            have hfs61 := blk_frozen BK777.out 5
            have hns61_0 := NB776_777.out
            have hns61_2 := NB788_777.out
            have hms61_0 := NB777_776.out
            have hms61_2 := NB777_788.out
            refine skip_ (w1 := ?_) (by rfl) rfl ?_ ?_
            rotate_left
            · go_simp
              rfl
            refine hK.out _ _ ⟨((cell_far (p := ⟨gb777, _, none⟩) NB788_777.out _).trans (((cell_far (p := ⟨gb777, _, none⟩) NB788_777.out _).trans (((cell_far (p := ⟨gb777, _, none⟩) NB788_777.out _).trans (((cell_far (p := ⟨gb777, _, none⟩) NB788_777.out _).trans (((cell_far (p := ⟨gb777, _, none⟩) NB788_777.out _).trans (((cell_far (p := ⟨gb777, _, none⟩) NB788_777.out _).trans (hHeld.1)))))))))))), ((cell_far (p := ⟨gb777, _, none⟩) NB788_777.out _).trans (((cell_far (p := ⟨gb777, _, none⟩) NB788_777.out _).trans (((cell_far (p := ⟨gb777, _, none⟩) NB788_777.out _).trans (((cell_far (p := ⟨gb777, _, none⟩) NB788_777.out _).trans (((cell_far (p := ⟨gb777, _, none⟩) NB788_777.out _).trans (((cell_far (p := ⟨gb777, _, none⟩) NB788_777.out _).trans (hHeld.2.1)))))))))))), ((cell_far (p := ⟨gb777, _, none⟩) NB788_777.out _).trans (((cell_far (p := ⟨gb777, _, none⟩) NB788_777.out _).trans (((cell_far (p := ⟨gb777, _, none⟩) NB788_777.out _).trans (((cell_far (p := ⟨gb777, _, none⟩) NB788_777.out _).trans (((cell_far (p := ⟨gb777, _, none⟩) NB788_777.out _).trans (((cell_far (p := ⟨gb777, _, none⟩) NB788_777.out _).trans (hHeld.2.2.1)))))))))))), ((cell_far (p := ⟨gb777, _, none⟩) NB788_777.out _).trans (((cell_far (p := ⟨gb777, _, none⟩) NB788_777.out _).trans (((cell_far (p := ⟨gb777, _, none⟩) NB788_777.out _).trans (((cell_far (p := ⟨gb777, _, none⟩) NB788_777.out _).trans (((cell_far (p := ⟨gb777, _, none⟩) NB788_777.out _).trans (((cell_far (p := ⟨gb777, _, none⟩) NB788_777.out _).trans (hHeld.2.2.2.1)))))))))))), ((cell_far (p := ⟨gb777, _, none⟩) NB788_777.out _).trans (((cell_far (p := ⟨gb777, _, none⟩) NB788_777.out _).trans (((cell_far (p := ⟨gb777, _, none⟩) NB788_777.out _).trans (((cell_far (p := ⟨gb777, _, none⟩) NB788_777.out _).trans (((cell_far (p := ⟨gb777, _, none⟩) NB788_777.out _).trans (((cell_far (p := ⟨gb777, _, none⟩) NB788_777.out _).trans (hHeld.2.2.2.2.1)))))))))))), ((cell_far (p := ⟨gb777, _, none⟩) NB788_777.out _).trans (((cell_far (p := ⟨gb777, _, none⟩) NB788_777.out _).trans (((cell_far (p := ⟨gb777, _, none⟩) NB788_777.out _).trans (((cell_far (p := ⟨gb777, _, none⟩) NB788_777.out _).trans (((cell_far (p := ⟨gb777, _, none⟩) NB788_777.out _).trans (((cell_far (p := ⟨gb777, _, none⟩) NB788_777.out _).trans (hHeld.2.2.2.2.2.1)))))))))))), ((cell_far (p := ⟨gb777, _, none⟩) NB776_777.out _).trans (((cell_far (p := ⟨gb777, _, none⟩) NB776_777.out _).trans (((cell_far (p := ⟨gb777, _, none⟩) NB776_777.out _).trans (((cell_far (p := ⟨gb777, _, none⟩) NB776_777.out _).trans (((cell_far (p := ⟨gb777, _, none⟩) NB776_777.out _).trans (((cell_far (p := ⟨gb777, _, none⟩) NB776_777.out _).trans (hHeld.2.2.2.2.2.2.1)))))))))))), ((cell_far (p := ⟨gb777, _, none⟩) NB776_777.out _).trans (((cell_far (p := ⟨gb777, _, none⟩) NB776_777.out _).trans (((cell_far (p := ⟨gb777, _, none⟩) NB776_777.out _).trans (((cell_far (p := ⟨gb777, _, none⟩) NB776_777.out _).trans (((cell_far (p := ⟨gb777, _, none⟩) NB776_777.out _).trans (((cell_far (p := ⟨gb777, _, none⟩) NB776_777.out _).trans (hHeld.2.2.2.2.2.2.2.1)))))))))))), ((cell_far (p := ⟨gb777, _, none⟩) NB776_777.out _).trans (((cell_far (p := ⟨gb777, _, none⟩) NB776_777.out _).trans (((cell_far (p := ⟨gb777, _, none⟩) NB776_777.out _).trans (((cell_far (p := ⟨gb777, _, none⟩) NB776_777.out _).trans (((cell_far (p := ⟨gb777, _, none⟩) NB776_777.out _).trans (((cell_far (p := ⟨gb777, _, none⟩) NB776_777.out _).trans (hHeld.2.2.2.2.2.2.2.2.1)))))))))))), ((cell_far (p := ⟨gb777, _, none⟩) NB776_777.out _).trans (((cell_far (p := ⟨gb777, _, none⟩) NB776_777.out _).trans (((cell_far (p := ⟨gb777, _, none⟩) NB776_777.out _).trans (((cell_far (p := ⟨gb777, _, none⟩) NB776_777.out _).trans (((cell_far (p := ⟨gb777, _, none⟩) NB776_777.out _).trans (((cell_far (p := ⟨gb777, _, none⟩) NB776_777.out _).trans (hHeld.2.2.2.2.2.2.2.2.2.1)))))))))))), ((cell_far (p := ⟨gb777, _, none⟩) NB776_777.out _).trans (((cell_far (p := ⟨gb777, _, none⟩) NB776_777.out _).trans (((cell_far (p := ⟨gb777, _, none⟩) NB776_777.out _).trans (((cell_far (p := ⟨gb777, _, none⟩) NB776_777.out _).trans (((cell_far (p := ⟨gb777, _, none⟩) NB776_777.out _).trans (((cell_far (p := ⟨gb777, _, none⟩) NB776_777.out _).trans (hHeld.2.2.2.2.2.2.2.2.2.2.1)))))))))))), ((cell_far (p := ⟨gb777, _, none⟩) NB776_777.out _).trans (((cell_far (p := ⟨gb777, _, none⟩) NB776_777.out _).trans (((cell_far (p := ⟨gb777, _, none⟩) NB776_777.out _).trans (((cell_far (p := ⟨gb777, _, none⟩) NB776_777.out _).trans (((cell_far (p := ⟨gb777, _, none⟩) NB776_777.out _).trans (((cell_far (p := ⟨gb777, _, none⟩) NB776_777.out _).trans (hHeld.2.2.2.2.2.2.2.2.2.2.2))))))))))))⟩ (fun hHeld => ?_)
            clear hK K
            refine pure_ (i := 5) (N := some 3) (v := ?_) (a' := ?_) #[true, true, true, true, true, true, false] rfl rfl (by kernel_rfl) (fun _ _ _ h => h) (Or.inl ⟨by rfl, ?_⟩) ?_ ?_
            rotate_left
            · intro w'
              go_simp
              with_reducible rfl
            rotate_left
            · simp only [Act.put, List.setIfInBounds_toArray, List.set_cons_zero, List.set_cons_succ, i64_w, i32_w]
              rfl
            refine pure_ (i := 6) (N := some 4) (v := ?_) (a' := ?_) #[true, true, true, true, true, true, true] rfl rfl (by kernel_rfl) (fun _ _ _ h => h) (Or.inl ⟨by rfl, ?_⟩) ?_ ?_
            rotate_left
            · intro w'
              go_simp
              with_reducible rfl
            rotate_left
            · simp only [Act.put, List.setIfInBounds_toArray, List.set_cons_zero, List.set_cons_succ, i64_w, i32_w]
              rfl
            refine done_ (by kernel_rfl) ?_
            try go_wp2
            refine bodyPost_ret (results_ctt rfl _ _ gb777 38 #[.bool t778, .slice none 0 0, .slice Ao57 x789002_1.length co57, .int .i64 t785, .int .i64 t786, .int .i64 t787] (0, 0) _ rfl (by (with_reducible repeat (first | refine blk_drewN ?_ _ | refine blk_drew ?_ | refine blk_alloc ?_ _)); refine blk_put (cs := #[.bool t778, .slice none 0 0, .slice Ao57 x789002_1.length co57, .int .i64 t785, .int .i64 t786, .int .i64 0]) ?_ 5 _ rfl; (with_reducible repeat (first | refine blk_drewN ?_ _ | refine blk_drew ?_ | refine blk_alloc ?_ _)); refine blk_put (cs := #[.bool t778, .slice none 0 0, .slice Ao57 x789002_1.length co57, .int .i64 t785, .int .i64 0, .int .i64 0]) ?_ 4 _ rfl; (with_reducible repeat (first | refine blk_drewN ?_ _ | refine blk_drew ?_ | refine blk_alloc ?_ _)); refine blk_put (cs := #[.bool t778, .slice none 0 0, .slice Ao57 x789002_1.length co57, .int .i64 0, .int .i64 0, .int .i64 0]) ?_ 3 _ rfl; (with_reducible repeat (first | refine blk_drewN ?_ _ | refine blk_drew ?_ | refine blk_alloc ?_ _)); refine blk_put (cs := #[.bool t778, .slice none 0 0, .slice none 0 0, .int .i64 0, .int .i64 0, .int .i64 0]) ?_ 2 _ rfl; (with_reducible repeat (first | refine blk_drewN ?_ _ | refine blk_drew ?_ | refine blk_alloc ?_ _)); refine blk_put (cs := #[.bool t778, .slice none 0 0, .slice none 0 0, .int .i64 0, .int .i64 0, .int .i64 0]) ?_ 1 _ rfl; (with_reducible repeat (first | refine blk_drewN ?_ _ | refine blk_drew ?_ | refine blk_alloc ?_ _)); refine blk_put (cs := #[.bool false, .slice none 0 0, .slice none 0 0, .int .i64 0, .int .i64 0, .int .i64 0]) ?_ 0 _ rfl; (with_reducible repeat (first | refine blk_drewN ?_ _ | refine blk_drew ?_ | refine blk_alloc ?_ _)); exact BK777.out) Try.underlying38 rfl (by kernel_rfl)) rfl ?_
            exact ⟨_, _, _, by first | rfl | (simp [errW_none, errW_some] <;> rfl) | (simp [*, errW_none, errW_some] <;> rfl), by first | exact Kd.R_nil _ _ _ _ _ | exact Kd.N_nil _ _ _ _ _ | exact Kd.V_nil _ _ _ _ _ | exact Kd.Q_nil _ _ _ _ _ | exact Kd.S_nil _ _ _ _ _, by (with_reducible repeat (first | apply Kd.R_alloc | apply Kd.R_drewN | apply Kd.R_drew)); exact Kd.R_mono (Kd.R_far (p := ⟨gb777, 5, none⟩) (Kd.R_far (p := ⟨gb777, 4, none⟩) (Kd.R_far (p := ⟨gb777, 3, none⟩) (Kd.R_far (p := ⟨gb777, 2, none⟩) (Kd.R_far (p := ⟨gb777, 1, none⟩) (Kd.R_far (p := ⟨gb777, 0, none⟩) (Kd.R_types HO_789002.out BK777.out (by decide)) (fun _ hk => hk.2) (.bool t778)) (fun _ hk => hk.2) (.slice none 0 0)) (fun _ hk => hk.2) (.slice Ao57 x789002_1.length co57)) (fun _ hk => hk.2) (.int .i64 t785)) (fun _ hk => hk.2) (.int .i64 t786)) (fun _ hk => hk.2) (.int .i64 t787)) (fun _ hk => trivial), by (with_reducible repeat (first | apply Kd.R_alloc | apply Kd.R_drewN | apply Kd.R_drew)); exact Kd.R_mono (Kd.R_far (p := ⟨gb777, 5, none⟩) (Kd.R_far (p := ⟨gb777, 4, none⟩) (Kd.R_far (p := ⟨gb777, 3, none⟩) (Kd.R_far (p := ⟨gb777, 2, none⟩) (Kd.R_far (p := ⟨gb777, 1, none⟩) (Kd.R_far (p := ⟨gb777, 0, none⟩) (Kd.R_types HO796.out BK777.out (by decide)) (fun _ hk => hk.2) (.bool t778)) (fun _ hk => hk.2) (.slice none 0 0)) (fun _ hk => hk.2) (.slice Ao57 x789002_1.length co57)) (fun _ hk => hk.2) (.int .i64 t785)) (fun _ hk => hk.2) (.int .i64 t786)) (fun _ hk => hk.2) (.int .i64 t787)) (fun _ hk => (by simp [Value.ownBlock])), by repeat (first | (with_reducible first | exact HB.out | apply below_alloc | apply pw_below_drewN | apply below_drew1 | refine below_set ?_ GE776.out | refine below_set ?_ GE777.out | refine below_set ?_ GE788.out) | exact HB.out)⟩
  · replace c4 := Bool.eq_false_iff.mpr c4
    subst c4
    have H1 : (some (t778, t779, t782, t785, t786, t787, ([] : List Int), 1)) = some (r1, r2, r3, r4, r5, r6, r7, r8) := by rw [if_neg (show ¬ (false = true) by decide)] at H; exact H
    clear H
    have H := H1
    clear H1
    simp only [Option.some.injEq, Prod.mk.injEq] at H
    obtain ⟨rfl, rfl, rfl, rfl, rfl, rfl, rfl, rfl⟩ := H
    go_enter Try.func32, Try.ntmps32
    go_wp2_with (first | ((with_reducible refine gate_dst (N := 1) rfl ?_); refine box_event ?hg (N := 1) ?hd (cs := #[.bool a0_0, .slice A0_1 l0_1.length c0_1, .slice A0_2 l0_2.length c0_2, .int .i64 a0_3, .int .i64 a0_4, .int .i64 a0_5]) (t := 38) ?hr ?_; (case hd => rfl); (case hg => rfl); (case hr => first | (go_simp; done) | (go_simp; rfl)); intro gb776 hg w62 hbox hb; have n0_ := Aside0.mk (below_step (pkB HB.out) hb); have n1_ := Aside0.mk (hbox); have n2_ := Aside0.mk ((by rw [hg]; exact (below_size (pkB HB.out)) : w.heap.size ≤ gb776)); have n3_ := Aside0.mk ((by rw [hg]; exact (below_size (pkB HB.out)) : w.heap.size ≤ gb776)); clear HB; have HB := n0_; have BK776 := n1_; have GW776 := n2_; have GE776 := n3_; clear n0_ n1_ n2_ n3_; clear hb hbox hg) | ((with_reducible refine gate_dst (N := 2) rfl ?_); refine box_event ?hg (N := 2) ?hd (cs := #[.bool false, .slice none 0 0, .slice none 0 0, .int .i64 0, .int .i64 0, .int .i64 0]) (t := 38) ?hr ?_; (case hd => rfl); (case hg => rfl); (case hr => first | (go_simp; done) | (go_simp; rfl)); intro gb777 hg w63 hbox hb; have n0_ := Aside0.mk (blk_below (g := gb776) (o := .cells #[.bool a0_0, .slice A0_1 l0_1.length c0_1, .slice A0_2 l0_2.length c0_2, .int .i64 a0_3, .int .i64 a0_4, .int .i64 a0_5] 38 (0, 0)) (pkK BK776.out) hb); have n1_ := Aside0.mk (below_step (by repeat (first | (with_reducible first | exact HB.out | apply below_alloc | apply pw_below_drewN | apply below_drew1 | refine below_set ?_ GE776.out) | exact HB.out)) hb); have n2_ := Aside0.mk (hbox); have n3_ := Aside0.mk ((by rw [hg]; exact (below_size (by repeat (first | (with_reducible first | exact HB.out | apply below_alloc | apply pw_below_drewN | apply below_drew1 | refine below_set ?_ GE776.out) | exact HB.out))) : w.heap.size ≤ gb777)); have n4_ := Aside0.mk ((by rw [hg]; exact (below_size (by repeat (first | (with_reducible first | exact HB.out | apply below_alloc | apply pw_below_drewN | apply below_drew1 | refine below_set ?_ GE776.out) | exact HB.out))) : w.heap.size ≤ gb777)); have n5_ := Aside0.mk ((by rw [hg]; exact Nat.ne_of_lt (blk_lt (g := gb776) (o := .cells #[.bool a0_0, .slice A0_1 l0_1.length c0_1, .slice A0_2 l0_2.length c0_2, .int .i64 a0_3, .int .i64 a0_4, .int .i64 a0_5] 38 (0, 0)) (pkK BK776.out)) : gb776 ≠ gb777)); have n6_ := Aside0.mk ((by rw [hg]; exact Nat.ne_of_gt (blk_lt (g := gb776) (o := .cells #[.bool a0_0, .slice A0_1 l0_1.length c0_1, .slice A0_2 l0_2.length c0_2, .int .i64 a0_3, .int .i64 a0_4, .int .i64 a0_5] 38 (0, 0)) (pkK BK776.out)) : gb777 ≠ gb776)); clear BK776 HB; have BK776 := n0_; have HB := n1_; have BK777 := n2_; have GW777 := n3_; have GE777 := n4_; have NB776_777 := n5_; have NB777_776 := n6_; clear n0_ n1_ n2_ n3_ n4_ n5_ n6_; clear hb hbox hg; have hnb64 := NB776_777.out; have hnc64 := NB777_776.out; have hcz65_0 : w63.cell? ⟨gb776, 0, none⟩ = some (.bool a0_0) := (blk_cell BK776.out 0).trans rfl; have hcz65_1 : w63.cell? ⟨gb776, 1, none⟩ = some (.slice A0_1 l0_1.length c0_1) := (blk_cell BK776.out 1).trans rfl; have hcz65_2 : w63.cell? ⟨gb776, 2, none⟩ = some (.slice A0_2 l0_2.length c0_2) := (blk_cell BK776.out 2).trans rfl; have hcz65_3 : w63.cell? ⟨gb776, 3, none⟩ = some (.int .i64 a0_3) := (blk_cell BK776.out 3).trans rfl; have hcz65_4 : w63.cell? ⟨gb776, 4, none⟩ = some (.int .i64 a0_4) := (blk_cell BK776.out 4).trans rfl; have hcz65_5 : w63.cell? ⟨gb776, 5, none⟩ = some (.int .i64 a0_5) := (blk_cell BK776.out 5).trans rfl; have hfz65_0 := blk_frozen BK776.out 0; have hfz65_1 := blk_frozen BK776.out 1; have hfz65_2 := blk_frozen BK776.out 2; have hfz65_3 := blk_frozen BK776.out 3; have hfz65_4 := blk_frozen BK776.out 4; have hfz65_5 := blk_frozen BK776.out 5) | ((with_reducible refine gate_callee (f := 69) rfl ?_); refine goesL_ (some 8) rfl rfl Try.func69 (by kernel_rfl) rfl #[.agg #[.bool a0_0, .slice A0_1 l0_1.length c0_1, .slice A0_2 l0_2.length c0_2, .int .i64 a0_3, .int .i64 a0_4, .int .i64 a0_5]] rfl (by (try simp only [List.map_toArray, List.map_cons, List.map_nil]); first | done | rfl | (simp only [List.length_drop, List.length_take]; rfl) | (go_simp; done) | (simp [*]; done)) ?_; (with_reducible refine (spec_l5Copy.calls a0_0 _ _ l0_1 _ _ l0_2 a0_3 a0_4 a0_5 t778 t779 t782 t785 t786 t787 _ ?side1 ?side2 ?side3 ?side4 A2.out).mono ?_); (case side1 => exact pkC (Kd.C_below HR0_1.out HB.out)); (case side2 => exact HC0_1.out); (case side3 => exact pkC (Kd.C_below HR0_2.out HB.out)); (case side4 => exact HC0_2.out); rintro e w66 ⟨v780, v783, rfl, ho0, ho1, hb⟩; refine ⟨_, rfl, ?_⟩; have n0_ := Aside0.mk (Kd.R_lower ho0 (below_size (by repeat (first | (with_reducible first | exact HB.out | apply below_alloc | apply pw_below_drewN | apply below_drew1 | refine below_set ?_ GE776.out | refine below_set ?_ GE777.out) | exact HB.out)))); have n1_ := Aside0.mk (Kd.R_lower ho1 (below_size (by repeat (first | (with_reducible first | exact HB.out | apply below_alloc | apply pw_below_drewN | apply below_drew1 | refine below_set ?_ GE776.out | refine below_set ?_ GE777.out) | exact HB.out)))); have n2_ := Aside0.mk (blk_below (g := gb776) (o := .cells #[.bool a0_0, .slice A0_1 l0_1.length c0_1, .slice A0_2 l0_2.length c0_2, .int .i64 a0_3, .int .i64 a0_4, .int .i64 a0_5] 38 (0, 0)) (pkK BK776.out) hb); have n3_ := Aside0.mk (blk_below (g := gb777) (o := .cells #[.bool false, .slice none 0 0, .slice none 0 0, .int .i64 0, .int .i64 0, .int .i64 0] 38 (0, 0)) (pkK BK777.out) hb); have n4_ := Aside0.mk (below_step (by repeat (first | (with_reducible first | exact HB.out | apply below_alloc | apply pw_below_drewN | apply below_drew1 | refine below_set ?_ GE776.out | refine below_set ?_ GE777.out) | exact HB.out)) hb); clear BK776 BK777 HB; have HO781 := n0_; have HO784 := n1_; have BK776 := n2_; have BK777 := n3_; have HB := n4_; clear n0_ n1_ n2_ n3_ n4_; (try clear hb); (try clear hb2); (try clear hk); (try clear hi); (try clear ho0); (try clear ho1)) | ((with_reducible refine gate_dst (N := 5) rfl ?_); refine box_event ?hg (N := 5) ?hd (cs := #[.bool false, .slice none 0 0, .slice none 0 0, .int .i64 0, .int .i64 0, .int .i64 0]) (t := 38) ?hr ?_; (case hd => rfl); (case hg => rfl); (case hr => first | (go_simp; done) | (go_simp; rfl)); intro gb788 hg w67 hbox hb; have n0_ := Aside0.mk (Kd.R_below (pkR HO781.out) hb); have n1_ := Aside0.mk (Kd.R_below (pkR HO784.out) hb); have n2_ := Aside0.mk (blk_below (g := gb776) (o := .cells #[.bool a0_0, .slice A0_1 l0_1.length c0_1, .slice A0_2 l0_2.length c0_2, .int .i64 a0_3, .int .i64 a0_4, .int .i64 a0_5] 38 (0, 0)) (pkK BK776.out) hb); have n3_ := Aside0.mk (blk_below (g := gb777) (o := .cells #[.bool false, .slice none 0 0, .slice none 0 0, .int .i64 0, .int .i64 0, .int .i64 0] 38 (0, 0)) (pkK BK777.out) hb); have n4_ := Aside0.mk (below_step (by repeat (first | (with_reducible first | exact HB.out | apply below_alloc | apply pw_below_drewN | apply below_drew1 | refine below_set ?_ GE776.out | refine below_set ?_ GE777.out) | exact HB.out)) hb); have n5_ := Aside0.mk (hbox); have n6_ := Aside0.mk ((by rw [hg]; exact (below_size (by repeat (first | (with_reducible first | exact HB.out | apply below_alloc | apply pw_below_drewN | apply below_drew1 | refine below_set ?_ GE776.out | refine below_set ?_ GE777.out) | exact HB.out))) : w.heap.size ≤ gb788)); have n7_ := Aside0.mk ((by rw [hg]; exact (below_size (by repeat (first | (with_reducible first | exact HB.out | apply below_alloc | apply pw_below_drewN | apply below_drew1 | refine below_set ?_ GE776.out | refine below_set ?_ GE777.out) | exact HB.out))) : w.heap.size ≤ gb788)); have n8_ := Aside0.mk ((by rw [hg]; exact Nat.ne_of_lt (blk_lt (g := gb776) (o := .cells #[.bool a0_0, .slice A0_1 l0_1.length c0_1, .slice A0_2 l0_2.length c0_2, .int .i64 a0_3, .int .i64 a0_4, .int .i64 a0_5] 38 (0, 0)) (pkK BK776.out)) : gb776 ≠ gb788)); have n9_ := Aside0.mk ((by rw [hg]; exact Nat.ne_of_gt (blk_lt (g := gb776) (o := .cells #[.bool a0_0, .slice A0_1 l0_1.length c0_1, .slice A0_2 l0_2.length c0_2, .int .i64 a0_3, .int .i64 a0_4, .int .i64 a0_5] 38 (0, 0)) (pkK BK776.out)) : gb788 ≠ gb776)); have n10_ := Aside0.mk ((by rw [hg]; exact Nat.ne_of_lt (blk_lt (g := gb777) (o := .cells #[.bool false, .slice none 0 0, .slice none 0 0, .int .i64 0, .int .i64 0, .int .i64 0] 38 (0, 0)) (pkK BK777.out)) : gb777 ≠ gb788)); have n11_ := Aside0.mk ((by rw [hg]; exact Nat.ne_of_gt (blk_lt (g := gb777) (o := .cells #[.bool false, .slice none 0 0, .slice none 0 0, .int .i64 0, .int .i64 0, .int .i64 0] 38 (0, 0)) (pkK BK777.out)) : gb788 ≠ gb777)); clear HO781 HO784 BK776 BK777 HB; have HO781 := n0_; have HO784 := n1_; have BK776 := n2_; have BK777 := n3_; have HB := n4_; have BK788 := n5_; have GW788 := n6_; have GE788 := n7_; have NB776_788 := n8_; have NB788_776 := n9_; have NB777_788 := n10_; have NB788_777 := n11_; clear n0_ n1_ n2_ n3_ n4_ n5_ n6_ n7_ n8_ n9_ n10_ n11_; clear hb hbox hg; have hnb68 := NB788_776.out; have hnc68 := NB776_788.out; have hnb69 := NB788_777.out; have hnc69 := NB777_788.out; have hcz70_0 : w67.cell? ⟨gb788, 0, none⟩ = some (.bool false) := (blk_cell BK788.out 0).trans rfl; have hcz70_1 : w67.cell? ⟨gb788, 1, none⟩ = some (.slice none 0 0) := (blk_cell BK788.out 1).trans rfl; have hcz70_2 : w67.cell? ⟨gb788, 2, none⟩ = some (.slice none 0 0) := (blk_cell BK788.out 2).trans rfl; have hcz70_3 : w67.cell? ⟨gb788, 3, none⟩ = some (.int .i64 0) := (blk_cell BK788.out 3).trans rfl; have hcz70_4 : w67.cell? ⟨gb788, 4, none⟩ = some (.int .i64 0) := (blk_cell BK788.out 4).trans rfl; have hcz70_5 : w67.cell? ⟨gb788, 5, none⟩ = some (.int .i64 0) := (blk_cell BK788.out 5).trans rfl; have hfz70_0 := blk_frozen BK788.out 0; have hfz70_1 := blk_frozen BK788.out 1; have hfz70_2 := blk_frozen BK788.out 2; have hfz70_3 := blk_frozen BK788.out 3; have hfz70_4 := blk_frozen BK788.out 4; have hfz70_5 := blk_frozen BK788.out 5; obtain ⟨Ao71, co71, eo71⟩ := Kd.R_slice HO781.out; subst eo71; obtain ⟨Ao72, co72, eo72⟩ := Kd.R_slice HO784.out; subst eo72; have hcz73_0 : w67.cell? ⟨gb776, 0, none⟩ = some (.bool a0_0) := (blk_cell BK776.out 0).trans rfl; have hcz73_1 : w67.cell? ⟨gb776, 1, none⟩ = some (.slice A0_1 l0_1.length c0_1) := (blk_cell BK776.out 1).trans rfl; have hcz73_2 : w67.cell? ⟨gb776, 2, none⟩ = some (.slice A0_2 l0_2.length c0_2) := (blk_cell BK776.out 2).trans rfl; have hcz73_3 : w67.cell? ⟨gb776, 3, none⟩ = some (.int .i64 a0_3) := (blk_cell BK776.out 3).trans rfl; have hcz73_4 : w67.cell? ⟨gb776, 4, none⟩ = some (.int .i64 a0_4) := (blk_cell BK776.out 4).trans rfl; have hcz73_5 : w67.cell? ⟨gb776, 5, none⟩ = some (.int .i64 a0_5) := (blk_cell BK776.out 5).trans rfl; have hfz73_0 := blk_frozen BK776.out 0; have hfz73_1 := blk_frozen BK776.out 1; have hfz73_2 := blk_frozen BK776.out 2; have hfz73_3 := blk_frozen BK776.out 3; have hfz73_4 := blk_frozen BK776.out 4; have hfz73_5 := blk_frozen BK776.out 5) | ((with_reducible refine gate_callee (f := 20) rfl ?_); refine goesL_ (some 11) rfl rfl Try.func20 (by kernel_rfl) rfl #[.agg #[.bool a0_0, .slice A0_1 l0_1.length c0_1, .slice A0_2 l0_2.length c0_2, .int .i64 a0_3, .int .i64 a0_4, .int .i64 a0_5]] rfl (by (try simp only [List.map_toArray, List.map_cons, List.map_nil]); first | done | rfl | (simp only [List.length_drop, List.length_take]; rfl) | (go_simp; done) | (simp [*]; done)) ?_; (with_reducible refine (spec_NotifyOk.calls k a0_0 _ _ l0_1 _ _ l0_2 a0_3 a0_4 a0_5 false _ ?side1 ?side2 ?side3 ?side4 A3.out).mono ?_); (case side1 => exact Kd.C_below HR0_1.out (by repeat (first | (with_reducible first | exact HB.out | apply below_alloc | apply pw_below_drewN | apply below_drew1 | refine below_set ?_ GE776.out | refine below_set ?_ GE777.out | refine below_set ?_ GE788.out) | exact HB.out))); (case side2 => exact HC0_1.out); (case side3 => exact Kd.C_below HR0_2.out (by repeat (first | (with_reducible first | exact HB.out | apply below_alloc | apply pw_below_drewN | apply below_drew1 | refine below_set ?_ GE776.out | refine below_set ?_ GE777.out | refine below_set ?_ GE788.out) | exact HB.out))); (case side4 => exact HC0_2.out); rintro e w74 ⟨rfl, hb⟩; refine ⟨_, rfl, ?_⟩; have n0_ := Aside0.mk (Kd.R_below (by (with_reducible repeat (first | apply Kd.R_alloc | apply Kd.R_drewN | apply Kd.R_drew)); exact (Kd.R_mono (Kd.R_far (p := ⟨gb788, 5, none⟩) (Kd.R_far (p := ⟨gb788, 4, none⟩) (Kd.R_far (p := ⟨gb788, 3, none⟩) (Kd.R_far (p := ⟨gb788, 2, none⟩) (Kd.R_far (p := ⟨gb788, 1, none⟩) (Kd.R_far (p := ⟨gb788, 0, none⟩) (Kd.R_types HO781.out BK788.out (by decide)) (fun _ hk => hk.2) (.bool t778)) (fun _ hk => hk.2) (.slice Ao71 t779.length co71)) (fun _ hk => hk.2) (.slice Ao72 t782.length co72)) (fun _ hk => hk.2) (.int .i64 t785)) (fun _ hk => hk.2) (.int .i64 t786)) (fun _ hk => hk.2) (.int .i64 t787)) (fun _ h_ => h_.1))) hb); have n1_ := Aside0.mk (Kd.R_below (by (with_reducible repeat (first | apply Kd.R_alloc | apply Kd.R_drewN | apply Kd.R_drew)); exact (Kd.R_mono (Kd.R_far (p := ⟨gb788, 5, none⟩) (Kd.R_far (p := ⟨gb788, 4, none⟩) (Kd.R_far (p := ⟨gb788, 3, none⟩) (Kd.R_far (p := ⟨gb788, 2, none⟩) (Kd.R_far (p := ⟨gb788, 1, none⟩) (Kd.R_far (p := ⟨gb788, 0, none⟩) (Kd.R_types HO784.out BK788.out (by decide)) (fun _ hk => hk.2) (.bool t778)) (fun _ hk => hk.2) (.slice Ao71 t779.length co71)) (fun _ hk => hk.2) (.slice Ao72 t782.length co72)) (fun _ hk => hk.2) (.int .i64 t785)) (fun _ hk => hk.2) (.int .i64 t786)) (fun _ hk => hk.2) (.int .i64 t787)) (fun _ h_ => h_.1))) hb); have n2_ := Aside0.mk (blk_below (g := gb776) (o := .cells #[.bool a0_0, .slice A0_1 l0_1.length c0_1, .slice A0_2 l0_2.length c0_2, .int .i64 a0_3, .int .i64 a0_4, .int .i64 a0_5] 38 (0, 0)) (by (with_reducible repeat (first | refine blk_drewN ?_ _ | refine blk_drew ?_ | refine blk_alloc ?_ _)); refine blk_far ?_ NB776_788.out _; (with_reducible repeat (first | refine blk_drewN ?_ _ | refine blk_drew ?_ | refine blk_alloc ?_ _)); refine blk_far ?_ NB776_788.out _; (with_reducible repeat (first | refine blk_drewN ?_ _ | refine blk_drew ?_ | refine blk_alloc ?_ _)); refine blk_far ?_ NB776_788.out _; (with_reducible repeat (first | refine blk_drewN ?_ _ | refine blk_drew ?_ | refine blk_alloc ?_ _)); refine blk_far ?_ NB776_788.out _; (with_reducible repeat (first | refine blk_drewN ?_ _ | refine blk_drew ?_ | refine blk_alloc ?_ _)); refine blk_far ?_ NB776_788.out _; (with_reducible repeat (first | refine blk_drewN ?_ _ | refine blk_drew ?_ | refine blk_alloc ?_ _)); refine blk_far ?_ NB776_788.out _; (with_reducible repeat (first | refine blk_drewN ?_ _ | refine blk_drew ?_ | refine blk_alloc ?_ _)); exact BK776.out) hb); have n3_ := Aside0.mk (blk_below (g := gb777) (o := .cells #[.bool false, .slice none 0 0, .slice none 0 0, .int .i64 0, .int .i64 0, .int .i64 0] 38 (0, 0)) (by (with_reducible repeat (first | refine blk_drewN ?_ _ | refine blk_drew ?_ | refine blk_alloc ?_ _)); refine blk_far ?_ NB777_788.out _; (with_reducible repeat (first | refine blk_drewN ?_ _ | refine blk_drew ?_ | refine blk_alloc ?_ _)); refine blk_far ?_ NB777_788.out _; (with_reducible repeat (first | refine blk_drewN ?_ _ | refine blk_drew ?_ | refine blk_alloc ?_ _)); refine blk_far ?_ NB777_788.out _; (with_reducible repeat (first | refine blk_drewN ?_ _ | refine blk_drew ?_ | refine blk_alloc ?_ _)); refine blk_far ?_ NB777_788.out _; (with_reducible repeat (first | refine blk_drewN ?_ _ | refine blk_drew ?_ | refine blk_alloc ?_ _)); refine blk_far ?_ NB777_788.out _; (with_reducible repeat (first | refine blk_drewN ?_ _ | refine blk_drew ?_ | refine blk_alloc ?_ _)); refine blk_far ?_ NB777_788.out _; (with_reducible repeat (first | refine blk_drewN ?_ _ | refine blk_drew ?_ | refine blk_alloc ?_ _)); exact BK777.out) hb); have n4_ := Aside0.mk (blk_below (g := gb788) (o := .cells #[.bool t778, .slice Ao71 t779.length co71, .slice Ao72 t782.length co72, .int .i64 t785, .int .i64 t786, .int .i64 t787] 38 (0, 0)) (by (with_reducible repeat (first | refine blk_drewN ?_ _ | refine blk_drew ?_ | refine blk_alloc ?_ _)); refine blk_put (cs := #[.bool t778, .slice Ao71 t779.length co71, .slice Ao72 t782.length co72, .int .i64 t785, .int .i64 t786, .int .i64 0]) ?_ 5 _ rfl; (with_reducible repeat (first | refine blk_drewN ?_ _ | refine blk_drew ?_ | refine blk_alloc ?_ _)); refine blk_put (cs := #[.bool t778, .slice Ao71 t779.length co71, .slice Ao72 t782.length co72, .int .i64 t785, .int .i64 0, .int .i64 0]) ?_ 4 _ rfl; (with_reducible repeat (first | refine blk_drewN ?_ _ | refine blk_drew ?_ | refine blk_alloc ?_ _)); refine blk_put (cs := #[.bool t778, .slice Ao71 t779.length co71, .slice Ao72 t782.length co72, .int .i64 0, .int .i64 0, .int .i64 0]) ?_ 3 _ rfl; (with_reducible repeat (first | refine blk_drewN ?_ _ | refine blk_drew ?_ | refine blk_alloc ?_ _)); refine blk_put (cs := #[.bool t778, .slice Ao71 t779.length co71, .slice none 0 0, .int .i64 0, .int .i64 0, .int .i64 0]) ?_ 2 _ rfl; (with_reducible repeat (first | refine blk_drewN ?_ _ | refine blk_drew ?_ | refine blk_alloc ?_ _)); refine blk_put (cs := #[.bool t778, .slice none 0 0, .slice none 0 0, .int .i64 0, .int .i64 0, .int .i64 0]) ?_ 1 _ rfl; (with_reducible repeat (first | refine blk_drewN ?_ _ | refine blk_drew ?_ | refine blk_alloc ?_ _)); refine blk_put (cs := #[.bool false, .slice none 0 0, .slice none 0 0, .int .i64 0, .int .i64 0, .int .i64 0]) ?_ 0 _ rfl; (with_reducible repeat (first | refine blk_drewN ?_ _ | refine blk_drew ?_ | refine blk_alloc ?_ _)); exact BK788.out) hb); have n5_ := Aside0.mk (below_step (by repeat (first | (with_reducible first | exact HB.out | apply below_alloc | apply pw_below_drewN | apply below_drew1 | refine below_set ?_ GE776.out | refine below_set ?_ GE777.out | refine below_set ?_ GE788.out) | exact HB.out)) hb); clear HO781 HO784 BK776 BK777 BK788 HB; have HO781 := n0_; have HO784 := n1_; have BK776 := n2_; have BK777 := n3_; have BK788 := n4_; have HB := n5_; clear n0_ n1_ n2_ n3_ n4_ n5_; (try clear hb); (try clear hb2); (try clear hk); (try clear hi); have hcz75_0 : w74.cell? ⟨gb788, 0, none⟩ = some (.bool t778) := (blk_cell BK788.out 0).trans rfl; have hcz75_1 : w74.cell? ⟨gb788, 1, none⟩ = some (.slice Ao71 t779.length co71) := (blk_cell BK788.out 1).trans rfl; have hcz75_2 : w74.cell? ⟨gb788, 2, none⟩ = some (.slice Ao72 t782.length co72) := (blk_cell BK788.out 2).trans rfl; have hcz75_3 : w74.cell? ⟨gb788, 3, none⟩ = some (.int .i64 t785) := (blk_cell BK788.out 3).trans rfl; have hcz75_4 : w74.cell? ⟨gb788, 4, none⟩ = some (.int .i64 t786) := (blk_cell BK788.out 4).trans rfl; have hcz75_5 : w74.cell? ⟨gb788, 5, none⟩ = some (.int .i64 t787) := (blk_cell BK788.out 5).trans rfl; have hfz75_0 := blk_frozen BK788.out 0; have hfz75_1 := blk_frozen BK788.out 1; have hfz75_2 := blk_frozen BK788.out 2; have hfz75_3 := blk_frozen BK788.out 3; have hfz75_4 := blk_frozen BK788.out 4; have hfz75_5 := blk_frozen BK788.out 5; have hcz76_0 : w74.cell? ⟨gb777, 0, none⟩ = some (.bool false) := (blk_cell BK777.out 0).trans rfl; have hcz76_1 : w74.cell? ⟨gb777, 1, none⟩ = some (.slice none 0 0) := (blk_cell BK777.out 1).trans rfl; have hcz76_2 : w74.cell? ⟨gb777, 2, none⟩ = some (.slice none 0 0) := (blk_cell BK777.out 2).trans rfl; have hcz76_3 : w74.cell? ⟨gb777, 3, none⟩ = some (.int .i64 0) := (blk_cell BK777.out 3).trans rfl; have hcz76_4 : w74.cell? ⟨gb777, 4, none⟩ = some (.int .i64 0) := (blk_cell BK777.out 4).trans rfl; have hcz76_5 : w74.cell? ⟨gb777, 5, none⟩ = some (.int .i64 0) := (blk_cell BK777.out 5).trans rfl; have hfz76_0 := blk_frozen BK777.out 0; have hfz76_1 := blk_frozen BK777.out 1; have hfz76_2 := blk_frozen BK777.out 2; have hfz76_3 := blk_frozen BK777.out 3; have hfz76_4 := blk_frozen BK777.out 4; have hfz76_5 := blk_frozen BK777.out 5))
    refine bodyPost_ret (results_ctt rfl _ _ gb777 38 #[.bool t778, .slice Ao71 t779.length co71, .slice Ao72 t782.length co72, .int .i64 t785, .int .i64 t786, .int .i64 t787] (0, 0) _ rfl (by (with_reducible repeat (first | refine blk_drewN ?_ _ | refine blk_drew ?_ | refine blk_alloc ?_ _)); refine blk_put (cs := #[.bool t778, .slice Ao71 t779.length co71, .slice Ao72 t782.length co72, .int .i64 t785, .int .i64 t786, .int .i64 0]) ?_ 5 _ rfl; (with_reducible repeat (first | refine blk_drewN ?_ _ | refine blk_drew ?_ | refine blk_alloc ?_ _)); refine blk_put (cs := #[.bool t778, .slice Ao71 t779.length co71, .slice Ao72 t782.length co72, .int .i64 t785, .int .i64 0, .int .i64 0]) ?_ 4 _ rfl; (with_reducible repeat (first | refine blk_drewN ?_ _ | refine blk_drew ?_ | refine blk_alloc ?_ _)); refine blk_put (cs := #[.bool t778, .slice Ao71 t779.length co71, .slice Ao72 t782.length co72, .int .i64 0, .int .i64 0, .int .i64 0]) ?_ 3 _ rfl; (with_reducible repeat (first | refine blk_drewN ?_ _ | refine blk_drew ?_ | refine blk_alloc ?_ _)); refine blk_put (cs := #[.bool t778, .slice Ao71 t779.length co71, .slice none 0 0, .int .i64 0, .int .i64 0, .int .i64 0]) ?_ 2 _ rfl; (with_reducible repeat (first | refine blk_drewN ?_ _ | refine blk_drew ?_ | refine blk_alloc ?_ _)); refine blk_put (cs := #[.bool t778, .slice none 0 0, .slice none 0 0, .int .i64 0, .int .i64 0, .int .i64 0]) ?_ 1 _ rfl; (with_reducible repeat (first | refine blk_drewN ?_ _ | refine blk_drew ?_ | refine blk_alloc ?_ _)); refine blk_put (cs := #[.bool false, .slice none 0 0, .slice none 0 0, .int .i64 0, .int .i64 0, .int .i64 0]) ?_ 0 _ rfl; (with_reducible repeat (first | refine blk_drewN ?_ _ | refine blk_drew ?_ | refine blk_alloc ?_ _)); exact BK777.out) Try.underlying38 rfl (by kernel_rfl)) rfl ?_
    exact ⟨_, _, _, by first | rfl | (simp [errW_none, errW_some] <;> rfl) | (simp [*, errW_none, errW_some] <;> rfl), by (with_reducible repeat (first | apply Kd.R_alloc | apply Kd.R_drewN | apply Kd.R_drew)); exact Kd.R_mono (Kd.R_far (p := ⟨gb777, 5, none⟩) (Kd.R_far (p := ⟨gb777, 4, none⟩) (Kd.R_far (p := ⟨gb777, 3, none⟩) (Kd.R_far (p := ⟨gb777, 2, none⟩) (Kd.R_far (p := ⟨gb777, 1, none⟩) (Kd.R_far (p := ⟨gb777, 0, none⟩) (Kd.R_types HO781.out BK777.out (by decide)) (fun _ hk => hk.2) (.bool t778)) (fun _ hk => hk.2) (.slice Ao71 t779.length co71)) (fun _ hk => hk.2) (.slice Ao72 t782.length co72)) (fun _ hk => hk.2) (.int .i64 t785)) (fun _ hk => hk.2) (.int .i64 t786)) (fun _ hk => hk.2) (.int .i64 t787)) (fun _ hk => (by simp [Value.ownBlock])), by (with_reducible repeat (first | apply Kd.R_alloc | apply Kd.R_drewN | apply Kd.R_drew)); exact Kd.R_mono (Kd.R_far (p := ⟨gb777, 5, none⟩) (Kd.R_far (p := ⟨gb777, 4, none⟩) (Kd.R_far (p := ⟨gb777, 3, none⟩) (Kd.R_far (p := ⟨gb777, 2, none⟩) (Kd.R_far (p := ⟨gb777, 1, none⟩) (Kd.R_far (p := ⟨gb777, 0, none⟩) (Kd.R_types HO784.out BK777.out (by decide)) (fun _ hk => hk.2) (.bool t778)) (fun _ hk => hk.2) (.slice Ao71 t779.length co71)) (fun _ hk => hk.2) (.slice Ao72 t782.length co72)) (fun _ hk => hk.2) (.int .i64 t785)) (fun _ hk => hk.2) (.int .i64 t786)) (fun _ hk => hk.2) (.int .i64 t787)) (fun _ hk => trivial), by first | exact Kd.R_nil _ _ _ _ _ | exact Kd.N_nil _ _ _ _ _ | exact Kd.V_nil _ _ _ _ _ | exact Kd.Q_nil _ _ _ _ _ | exact Kd.S_nil _ _ _ _ _, by repeat (first | (with_reducible first | exact HB.out | apply below_alloc | apply pw_below_drewN | apply below_drew1 | refine below_set ?_ GE776.out | refine below_set ?_ GE777.out | refine below_set ?_ GE788.out) | exact HB.out)⟩
end Go.Proofs.Ytdagpmnadapbjaa.Z
