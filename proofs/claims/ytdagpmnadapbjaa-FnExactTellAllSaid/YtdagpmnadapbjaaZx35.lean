/- The Go functions impl_TellAll as Lean functions, each with a proof that its code comes to just these answers; conditions: those of each theorem. -/
import Derived.Test.YtdagpmnadapbjaaZx0
import Derived.Test.YtdagpmnadapbjaaZx17
import Derived.Test.YtdagpmnadapbjaaZx22
import Derived.Test.YtdagpmnadapbjaaZx34
namespace Go.Proofs.Ytdagpmnadapbjaa.Z
open Go.RowKit Go.Proofs.YtdagpmnadapbjaaW.PrintWords Go.Proofs.YtdagpmnadapbjaaW.PrintLast Go.Proofs.YtdagpmnadapbjaaW.PrintMore
attribute [local go_sem] max2_int min2_int max_two min_two max_three min_three max_four min_four   -- for this text's walks alone
set_option linter.unusedVariables false
set_option linter.unusedSimpArgs false
def impl_TellAll.l0 : Nat → List Int → Int → Int → Bool → List Int → List (S67) → Int → Int → Int → Bool → List Int → List (S67) → Int → Int → Int → Option (Bool × List Int × (List (S67)) × Int × Int × Int × List Int × Int)
 | 0, _, _, _, _, _, _, _, _, _, _, _, _, _, _, _ => none
 | k + 1, x26, x27, x28, x812000, x812001, x812002, x812003, x812004, x812005, x824000, x824001, x824002, x824003, x824004, x824005 => if x28 < x27 then (if 0 ≤ x28 then (if x28 < (x26.length : Int) then (if x824002.length < 8796093022208 then (impl_TellAll.l0 k x26 x27 (wrap64 (x28 + 1)) x812000 x812001 x812002 x812003 x812004 x812005 x824000 x824001 (x824002 ++ [(⟨rd x26 x28, false⟩ : S67)]) x824003 x824004 x824005) else (none)) else (none)) else (none)) else ((slices_Clone_int_int.f x812001).bind fun t829 => (some (x824000, ([] : List Int), x824002, x824003, x824004, x824005, t829, 0)))
def impl_TellAll.f (k : Nat) (a0_0 : Bool) (l0_1 : List Int) (l0_2 : List (S67)) (a0_3 : Int) (a0_4 : Int) (a0_5 : Int) : Option (Bool × List Int × (List (S67)) × Int × Int × Int × List Int × Int) := (impl_copyNotify.f a0_0 l0_1 l0_2 a0_3 a0_4 a0_5).bind fun bt813 => ((impl_NotifyOk.f k a0_0 l0_1 l0_2 a0_3 a0_4 a0_5).bind fun t824 => (if t824 = true then (if (wrap64 ((l0_1.length : Int) + (l0_2.length : Int))) > 32 then (some (bt813.1, bt813.2.1, bt813.2.2.1, bt813.2.2.2.1, bt813.2.2.2.2.1, bt813.2.2.2.2.2, ([] : List Int), 2)) else (impl_TellAll.l0 k l0_1 (l0_1.length : Int) 0 a0_0 l0_1 l0_2 a0_3 a0_4 a0_5 bt813.1 bt813.2.1 bt813.2.2.1 bt813.2.2.2.1 bt813.2.2.2.2.1 bt813.2.2.2.2.2)) else (some (bt813.1, bt813.2.1, bt813.2.2.1, bt813.2.2.2.1, bt813.2.2.2.2.1, bt813.2.2.2.2.2, ([] : List Int), 1))))
theorem impl_TellAll.mono_l : ∀ k, (∀ y0 y1 y2 y3 y4 y5 y6 y7 y8 y9 y10 y11 y12 y13 y14, LeO (impl_TellAll.l0 k y0 y1 y2 y3 y4 y5 y6 y7 y8 y9 y10 y11 y12 y13 y14) (impl_TellAll.l0 (k + 1) y0 y1 y2 y3 y4 y5 y6 y7 y8 y9 y10 y11 y12 y13 y14))
 | 0 => fun _ _ _ _ _ _ _ _ _ _ _ _ _ _ _ r h => by simp [impl_TellAll.l0] at h
 | k + 1 => by
  have ih0 := impl_TellAll.mono_l k
  ·intro y0 y1 y2 y3 y4 y5 y6 y7 y8 y9 y10 y11 y12 y13 y14
   unfold impl_TellAll.l0
   repeat' first
   | (with_reducible exact ih0 _ _ _ _ _ _ _ _ _ _ _ _ _ _ _)
   | (with_reducible exact impl_NotifyOk.mono _ _ _ _ _ _ _)
   | (with_reducible exact LeO.refl _)
   | (with_reducible exact LeO.none _)
   | (with_reducible refine LeO.ite ?_ ?_)
   | (with_reducible refine LeO.bind ?_ (fun _ => ?_))
theorem impl_TellAll.mono : ∀ a0 a1 a2 a3 a4 a5 k, LeO (impl_TellAll.f k a0 a1 a2 a3 a4 a5) (impl_TellAll.f (k + 1) a0 a1 a2 a3 a4 a5) := by
 intro a0 a1 a2 a3 a4 a5 k
 have ih0 := impl_TellAll.mono_l k
 unfold impl_TellAll.f
 repeat' first
   | (with_reducible exact ih0 _ _ _ _ _ _ _ _ _ _ _ _ _ _ _)
   | (with_reducible exact impl_NotifyOk.mono _ _ _ _ _ _ _)
   | (with_reducible exact LeO.refl _)
   | (with_reducible exact LeO.none _)
   | (with_reducible refine LeO.ite ?_ ?_)
   | (with_reducible refine LeO.bind ?_ (fun _ => ?_))
set_option maxHeartbeats 8000000 in
set_option maxRecDepth 100000 in
theorem impl_TellAll.calls (k : Nat) (a0_0 : Bool) (A0_1 : Option Addr) (c0_1 : Nat) (l0_1 : List Int) (A0_2 : Option Addr) (c0_2 : Nat) (l0_2 : List (S67)) (a0_3 : Int) (a0_4 : Int) (a0_5 : Int) (r1 : Bool) (r2 : List Int) (r3 : List (S67)) (r4 : Int) (r5 : Int) (r6 : Int) (r7 : List Int) (r8 : Int) (w : World) (hr0_1 : Kd.C (Kd.int .i64) w A0_1 l0_1.length l0_1) (hc0_1 : l0_1.length ≤ c0_1) (hr0_2 : Kd.C k67 w A0_2 l0_2.length l0_2) (hc0_2 : l0_2.length ≤ c0_2) (h : impl_TellAll.f k a0_0 l0_1 l0_2 a0_3 a0_4 a0_5 = some (r1, r2, r3, r4, r5, r6, r7, r8)) :
  Calls Try.prog 33 #[.agg #[.bool a0_0, .slice A0_1 l0_1.length c0_1, .slice A0_2 l0_2.length c0_2, .int .i64 a0_3, .int .i64 a0_4, .int .i64 a0_5]] w fun e w' => ∃ v1_ v2_ v6_ : Value, e = .returned (.tuple #[.agg #[.bool r1, v1_, v2_, .int .i64 r4, .int .i64 r5, .int .i64 r6], v6_, .int .i64 r8]) ∧ Kd.R (Kd.int .i64) 3 w' w.heap.size (fun k_ => some k_ ≠ (v6_ : Value).ownBlock) v1_ r2 ∧ Kd.R k67 67 w' w.heap.size (fun _ => True) v2_ r3 ∧ Kd.R (Kd.int .i64) 3 w' w.heap.size (fun k_ => some k_ ≠ (v1_ : Value).ownBlock) v6_ r7 ∧ Below w.heap.size w w' := by
 have hu38 := Try.underlying38
 have hu67 := Try.underlying67
 have HR0_1 := am hr0_1
 have HC0_1 := am hc0_1
 clear hr0_1 hc0_1
 have HR0_2 := am hr0_2
 have HC0_2 := am hc0_2
 clear hr0_2 hc0_2
 have HB := am (Below.refl w.heap.size w)
 have H : ((impl_copyNotify.f a0_0 l0_1 l0_2 a0_3 a0_4 a0_5).bind fun bt813 => ((impl_NotifyOk.f k a0_0 l0_1 l0_2 a0_3 a0_4 a0_5).bind fun t824 => (if t824 = true then (if (wrap64 ((l0_1.length : Int) + (l0_2.length : Int))) > 32 then (some (bt813.1, bt813.2.1, bt813.2.2.1, bt813.2.2.2.1, bt813.2.2.2.2.1, bt813.2.2.2.2.2, ([] : List Int), 2)) else (impl_TellAll.l0 k l0_1 (l0_1.length : Int) 0 a0_0 l0_1 l0_2 a0_3 a0_4 a0_5 bt813.1 bt813.2.1 bt813.2.2.1 bt813.2.2.2.1 bt813.2.2.2.2.1 bt813.2.2.2.2.2)) else (some (bt813.1, bt813.2.1, bt813.2.2.1, bt813.2.2.2.1, bt813.2.2.2.2.1, bt813.2.2.2.2.2, ([] : List Int), 1))))) = some (r1, r2, r3, r4, r5, r6, r7, r8) := h
 clear h
 replace H := Option.bind_eq_some_iff.mp H
 obtain ⟨⟨t813, t814, t817, t820, t821, t822⟩, A20, H⟩ := H
 replace H : ((impl_NotifyOk.f k a0_0 l0_1 l0_2 a0_3 a0_4 a0_5).bind fun t824 => (if t824 = true then (if (wrap64 ((l0_1.length : Int) + (l0_2.length : Int))) > 32 then (some (t813, t814, t817, t820, t821, t822, ([] : List Int), 2)) else (impl_TellAll.l0 k l0_1 (l0_1.length : Int) 0 a0_0 l0_1 l0_2 a0_3 a0_4 a0_5 t813 t814 t817 t820 t821 t822)) else (some (t813, t814, t817, t820, t821, t822, ([] : List Int), 1)))) = some (r1, r2, r3, r4, r5, r6, r7, r8) := H
 have A2 := am A20
 clear A20
 replace H := Option.bind_eq_some_iff.mp H
 obtain ⟨t824, A30, H⟩ := H
 replace H : (if t824 = true then (if (wrap64 ((l0_1.length : Int) + (l0_2.length : Int))) > 32 then (some (t813, t814, t817, t820, t821, t822, ([] : List Int), 2)) else (impl_TellAll.l0 k l0_1 (l0_1.length : Int) 0 a0_0 l0_1 l0_2 a0_3 a0_4 a0_5 t813 t814 t817 t820 t821 t822)) else (some (t813, t814, t817, t820, t821, t822, ([] : List Int), 1))) = some (r1, r2, r3, r4, r5, r6, r7, r8) := H
 have A3 := am A30
 clear A30
 by_cases c4 : t824 = true
 ·subst c4
  replace H : (if (wrap64 ((l0_1.length : Int) + (l0_2.length : Int))) > 32 then (some (t813, t814, t817, t820, t821, t822, ([] : List Int), 2)) else (impl_TellAll.l0 k l0_1 (l0_1.length : Int) 0 a0_0 l0_1 l0_2 a0_3 a0_4 a0_5 t813 t814 t817 t820 t821 t822)) = some (r1, r2, r3, r4, r5, r6, r7, r8) := by rw [if_pos rfl] at H; exact H
  by_cases c5 : (wrap64 ((l0_1.length : Int) + (l0_2.length : Int))) > 32
  ·rw [if_pos c5] at H
   have c5b0 : decide (32 < (wrap64 ((l0_1.length : Int) + (l0_2.length : Int)))) = true := decide_eq_true c5
   clear c5
   simp only [Option.some.injEq, Prod.mk.injEq] at H
   obtain ⟨rfl, rfl, rfl, rfl, rfl, rfl, rfl, rfl⟩ := H
   go_enter Try.func33, Try.ntmps33
   go_wp2_with (first | ((with_reducible refine gate_dst (N := 1) rfl ?_); refine box_event ?hg (N := 1) ?hd (cs := #[.bool a0_0, .slice A0_1 l0_1.length c0_1, .slice A0_2 l0_2.length c0_2, .int .i64 a0_3, .int .i64 a0_4, .int .i64 a0_5]) (t := 38) ?hr ?_; (case hd => rfl); (case hg => rfl); (case hr => first | (go_simp; done) | (go_simp; rfl)); intro gb811 hg w6 hbox hb; have BK811 := am (hbox); have GW811 := am ((by rw [hg]; exact (below_size (pkB HB.out)) : w.heap.size ≤ gb811)); have GE811 := am ((by rw [hg]; exact (below_size (pkB HB.out)) : w.heap.size ≤ gb811)); replace HB := am (below_step (pkB HB.out) hb); clear hb hbox hg) | ((with_reducible refine gate_dst (N := 2) rfl ?_); refine box_event ?hg (N := 2) ?hd (cs := #[.bool false, .slice none 0 0, .slice none 0 0, .int .i64 0, .int .i64 0, .int .i64 0]) (t := 38) ?hr ?_; (case hd => rfl); (case hg => rfl); (case hr => first | (go_simp; done) | (go_simp; rfl)); intro gb812 hg w7 hbox hb; have BK812 := am (hbox); have GW812 := am ((by rw [hg]; exact (below_size (pkW HB.out)) : w.heap.size ≤ gb812)); have GE812 := am ((by rw [hg]; exact (below_size (pkW HB.out)) : w.heap.size ≤ gb812)); replace HB := am (below_step (pkW HB.out) hb); have NB811_812 := am ((by rw [hg]; exact Nat.ne_of_lt (blk_lt (g := gb811) (o := .cells #[.bool a0_0, .slice A0_1 l0_1.length c0_1, .slice A0_2 l0_2.length c0_2, .int .i64 a0_3, .int .i64 a0_4, .int .i64 a0_5] 38 (0, 0)) (pkK BK811.out)) : gb811 ≠ gb812)); have NB812_811 := am ((by rw [hg]; exact Nat.ne_of_gt (blk_lt (g := gb811) (o := .cells #[.bool a0_0, .slice A0_1 l0_1.length c0_1, .slice A0_2 l0_2.length c0_2, .int .i64 a0_3, .int .i64 a0_4, .int .i64 a0_5] 38 (0, 0)) (pkK BK811.out)) : gb812 ≠ gb811)); replace BK811 := am (blk_below (pkK BK811.out) hb); clear hb hbox hg; have hnb8 := NB811_812.out; have hnc8 := NB812_811.out; obtain ⟨hcz9_0, hcz9_1, hcz9_2, hcz9_3, hcz9_4, hcz9_5, hfz9_0, hfz9_1, hfz9_2, hfz9_3, hfz9_4, hfz9_5⟩ := bk6 BK811.out) | ((with_reducible refine gate_callee (f := 71) rfl ?_); refine goesL_ (some 9) rfl rfl Try.func71 (by kernel_rfl) rfl #[.agg #[.bool a0_0, .slice A0_1 l0_1.length c0_1, .slice A0_2 l0_2.length c0_2, .int .i64 a0_3, .int .i64 a0_4, .int .i64 a0_5]] rfl mpx ?_; (with_reducible refine (impl_copyNotify.calls a0_0 _ _ l0_1 _ _ l0_2 a0_3 a0_4 a0_5 t813 t814 t817 t820 t821 t822 _ ?side1 ?side2 ?side3 ?side4 A2.out).mono ?_); (case side1 => exact pkC (Kd.C_below HR0_1.out HB.out)); (case side2 => exact HC0_1.out); (case side3 => exact pkC (Kd.C_below HR0_2.out HB.out)); (case side4 => exact HC0_2.out); rintro e w10 ⟨v815, v818, rfl, ho0, ho1, hb⟩; refine ⟨_, rfl, ?_⟩; have HO816 := am (Kd.R_lower ho0 (below_size (pkW HB.out))); have HO819 := am (Kd.R_lower ho1 (below_size (pkW HB.out))); replace BK811 := am (blk_below (pkK BK811.out) hb); replace BK812 := am (blk_below (pkK BK812.out) hb); replace HB := am (below_step (pkW HB.out) hb); (try clear hb ho0 ho1)) | ((with_reducible refine gate_dst (N := 5) rfl ?_); refine box_event ?hg (N := 5) ?hd (cs := #[.bool false, .slice none 0 0, .slice none 0 0, .int .i64 0, .int .i64 0, .int .i64 0]) (t := 38) ?hr ?_; (case hd => rfl); (case hg => rfl); (case hr => first | (go_simp; done) | (go_simp; rfl)); intro gb823 hg w11 hbox hb; replace HO816 := am (Kd.R_below (pkR HO816.out) hb); replace HO819 := am (Kd.R_below (pkR HO819.out) hb); have BK823 := am (hbox); have GW823 := am ((by rw [hg]; exact (below_size (pkW HB.out)) : w.heap.size ≤ gb823)); have GE823 := am ((by rw [hg]; exact (below_size (pkW HB.out)) : w.heap.size ≤ gb823)); replace HB := am (below_step (pkW HB.out) hb); have NB811_823 := am ((by rw [hg]; exact Nat.ne_of_lt (blk_lt (g := gb811) (o := .cells #[.bool a0_0, .slice A0_1 l0_1.length c0_1, .slice A0_2 l0_2.length c0_2, .int .i64 a0_3, .int .i64 a0_4, .int .i64 a0_5] 38 (0, 0)) (pkK BK811.out)) : gb811 ≠ gb823)); have NB823_811 := am ((by rw [hg]; exact Nat.ne_of_gt (blk_lt (g := gb811) (o := .cells #[.bool a0_0, .slice A0_1 l0_1.length c0_1, .slice A0_2 l0_2.length c0_2, .int .i64 a0_3, .int .i64 a0_4, .int .i64 a0_5] 38 (0, 0)) (pkK BK811.out)) : gb823 ≠ gb811)); replace BK811 := am (blk_below (pkK BK811.out) hb); have NB812_823 := am ((by rw [hg]; exact Nat.ne_of_lt (blk_lt (g := gb812) (o := .cells #[.bool false, .slice none 0 0, .slice none 0 0, .int .i64 0, .int .i64 0, .int .i64 0] 38 (0, 0)) (pkK BK812.out)) : gb812 ≠ gb823)); have NB823_812 := am ((by rw [hg]; exact Nat.ne_of_gt (blk_lt (g := gb812) (o := .cells #[.bool false, .slice none 0 0, .slice none 0 0, .int .i64 0, .int .i64 0, .int .i64 0] 38 (0, 0)) (pkK BK812.out)) : gb823 ≠ gb812)); replace BK812 := am (blk_below (pkK BK812.out) hb); clear hb hbox hg; have hnb12 := NB823_811.out; have hnc12 := NB811_823.out; have hnb13 := NB823_812.out; have hnc13 := NB812_823.out; obtain ⟨hcz14_0, hcz14_1, hcz14_2, hcz14_3, hcz14_4, hcz14_5, hfz14_0, hfz14_1, hfz14_2, hfz14_3, hfz14_4, hfz14_5⟩ := bk6 BK823.out; obtain ⟨Ao15, co15, eo15⟩ := Kd.R_slice HO816.out; subst eo15; obtain ⟨Ao16, co16, eo16⟩ := Kd.R_slice HO819.out; subst eo16; obtain ⟨hcz17_0, hcz17_1, hcz17_2, hcz17_3, hcz17_4, hcz17_5, hfz17_0, hfz17_1, hfz17_2, hfz17_3, hfz17_4, hfz17_5⟩ := bk6 BK811.out) | ((with_reducible refine gate_callee (f := 22) rfl ?_); refine goesL_ (some 12) rfl rfl Try.func22 (by kernel_rfl) rfl #[.agg #[.bool a0_0, .slice A0_1 l0_1.length c0_1, .slice A0_2 l0_2.length c0_2, .int .i64 a0_3, .int .i64 a0_4, .int .i64 a0_5]] rfl mpx ?_; (with_reducible refine (impl_NotifyOk.calls k a0_0 _ _ l0_1 _ _ l0_2 a0_3 a0_4 a0_5 true _ ?side1 ?side2 ?side3 ?side4 A3.out).mono ?_); (case side1 => exact Kd.C_below HR0_1.out (pkW HB.out)); (case side2 => exact HC0_1.out); (case side3 => exact Kd.C_below HR0_2.out (pkW HB.out)); (case side4 => exact HC0_2.out); rintro e w18 ⟨rfl, hb⟩; refine ⟨_, rfl, ?_⟩; replace HO816 := am (Kd.R_below (by (with_reducible repeat (first | apply Kd.R_alloc | apply Kd.R_drewN | apply Kd.R_drew)); exact (Kd.R_mono (Kd.R_far (p := ⟨gb823, 5, none⟩) (Kd.R_far (p := ⟨gb823, 4, none⟩) (Kd.R_far (p := ⟨gb823, 3, none⟩) (Kd.R_far (p := ⟨gb823, 2, none⟩) (Kd.R_far (p := ⟨gb823, 1, none⟩) (Kd.R_far (p := ⟨gb823, 0, none⟩) (Kd.R_types HO816.out BK823.out (by decide)) (fun _ hk => hk.2) (.bool t813)) (fun _ hk => hk.2) (.slice Ao15 t814.length co15)) (fun _ hk => hk.2) (.slice Ao16 t817.length co16)) (fun _ hk => hk.2) (.int .i64 t820)) (fun _ hk => hk.2) (.int .i64 t821)) (fun _ hk => hk.2) (.int .i64 t822)) (fun _ h_ => h_.1))) hb); replace HO819 := am (Kd.R_below (by (with_reducible repeat (first | apply Kd.R_alloc | apply Kd.R_drewN | apply Kd.R_drew)); exact (Kd.R_mono (Kd.R_far (p := ⟨gb823, 5, none⟩) (Kd.R_far (p := ⟨gb823, 4, none⟩) (Kd.R_far (p := ⟨gb823, 3, none⟩) (Kd.R_far (p := ⟨gb823, 2, none⟩) (Kd.R_far (p := ⟨gb823, 1, none⟩) (Kd.R_far (p := ⟨gb823, 0, none⟩) (Kd.R_types HO819.out BK823.out (by decide)) (fun _ hk => hk.2) (.bool t813)) (fun _ hk => hk.2) (.slice Ao15 t814.length co15)) (fun _ hk => hk.2) (.slice Ao16 t817.length co16)) (fun _ hk => hk.2) (.int .i64 t820)) (fun _ hk => hk.2) (.int .i64 t821)) (fun _ hk => hk.2) (.int .i64 t822)) (fun _ h_ => h_.1))) hb); replace BK811 := am (blk_below (g := gb811) (o := .cells #[.bool a0_0, .slice A0_1 l0_1.length c0_1, .slice A0_2 l0_2.length c0_2, .int .i64 a0_3, .int .i64 a0_4, .int .i64 a0_5] 38 (0, 0)) (by (with_reducible repeat (first | refine blk_drewN ?_ _ | refine blk_drew ?_ | refine blk_alloc ?_ _)); refine blk_far ?_ NB811_823.out _; (with_reducible repeat (first | refine blk_drewN ?_ _ | refine blk_drew ?_ | refine blk_alloc ?_ _)); refine blk_far ?_ NB811_823.out _; (with_reducible repeat (first | refine blk_drewN ?_ _ | refine blk_drew ?_ | refine blk_alloc ?_ _)); refine blk_far ?_ NB811_823.out _; (with_reducible repeat (first | refine blk_drewN ?_ _ | refine blk_drew ?_ | refine blk_alloc ?_ _)); refine blk_far ?_ NB811_823.out _; (with_reducible repeat (first | refine blk_drewN ?_ _ | refine blk_drew ?_ | refine blk_alloc ?_ _)); refine blk_far ?_ NB811_823.out _; (with_reducible repeat (first | refine blk_drewN ?_ _ | refine blk_drew ?_ | refine blk_alloc ?_ _)); refine blk_far ?_ NB811_823.out _; exact pkK BK811.out) hb); replace BK812 := am (blk_below (g := gb812) (o := .cells #[.bool false, .slice none 0 0, .slice none 0 0, .int .i64 0, .int .i64 0, .int .i64 0] 38 (0, 0)) (by (with_reducible repeat (first | refine blk_drewN ?_ _ | refine blk_drew ?_ | refine blk_alloc ?_ _)); refine blk_far ?_ NB812_823.out _; (with_reducible repeat (first | refine blk_drewN ?_ _ | refine blk_drew ?_ | refine blk_alloc ?_ _)); refine blk_far ?_ NB812_823.out _; (with_reducible repeat (first | refine blk_drewN ?_ _ | refine blk_drew ?_ | refine blk_alloc ?_ _)); refine blk_far ?_ NB812_823.out _; (with_reducible repeat (first | refine blk_drewN ?_ _ | refine blk_drew ?_ | refine blk_alloc ?_ _)); refine blk_far ?_ NB812_823.out _; (with_reducible repeat (first | refine blk_drewN ?_ _ | refine blk_drew ?_ | refine blk_alloc ?_ _)); refine blk_far ?_ NB812_823.out _; (with_reducible repeat (first | refine blk_drewN ?_ _ | refine blk_drew ?_ | refine blk_alloc ?_ _)); refine blk_far ?_ NB812_823.out _; exact pkK BK812.out) hb); replace BK823 := am (blk_below (g := gb823) (o := .cells #[.bool t813, .slice Ao15 t814.length co15, .slice Ao16 t817.length co16, .int .i64 t820, .int .i64 t821, .int .i64 t822] 38 (0, 0)) (by (with_reducible repeat (first | refine blk_drewN ?_ _ | refine blk_drew ?_ | refine blk_alloc ?_ _)); refine blk_put (cs := #[.bool t813, .slice Ao15 t814.length co15, .slice Ao16 t817.length co16, .int .i64 t820, .int .i64 t821, .int .i64 0]) ?_ 5 _ rfl; (with_reducible repeat (first | refine blk_drewN ?_ _ | refine blk_drew ?_ | refine blk_alloc ?_ _)); refine blk_put (cs := #[.bool t813, .slice Ao15 t814.length co15, .slice Ao16 t817.length co16, .int .i64 t820, .int .i64 0, .int .i64 0]) ?_ 4 _ rfl; (with_reducible repeat (first | refine blk_drewN ?_ _ | refine blk_drew ?_ | refine blk_alloc ?_ _)); refine blk_put (cs := #[.bool t813, .slice Ao15 t814.length co15, .slice Ao16 t817.length co16, .int .i64 0, .int .i64 0, .int .i64 0]) ?_ 3 _ rfl; (with_reducible repeat (first | refine blk_drewN ?_ _ | refine blk_drew ?_ | refine blk_alloc ?_ _)); refine blk_put (cs := #[.bool t813, .slice Ao15 t814.length co15, .slice none 0 0, .int .i64 0, .int .i64 0, .int .i64 0]) ?_ 2 _ rfl; (with_reducible repeat (first | refine blk_drewN ?_ _ | refine blk_drew ?_ | refine blk_alloc ?_ _)); refine blk_put (cs := #[.bool t813, .slice none 0 0, .slice none 0 0, .int .i64 0, .int .i64 0, .int .i64 0]) ?_ 1 _ rfl; (with_reducible repeat (first | refine blk_drewN ?_ _ | refine blk_drew ?_ | refine blk_alloc ?_ _)); refine blk_put (cs := #[.bool false, .slice none 0 0, .slice none 0 0, .int .i64 0, .int .i64 0, .int .i64 0]) ?_ 0 _ rfl; exact pkK BK823.out) hb); replace HB := am (below_step (pkW HB.out) hb); (try clear hb); obtain ⟨hcz19_0, hcz19_1, hcz19_2, hcz19_3, hcz19_4, hcz19_5, hfz19_0, hfz19_1, hfz19_2, hfz19_3, hfz19_4, hfz19_5⟩ := bk6 BK811.out; obtain ⟨hcz20_0, hcz20_1, hcz20_2, hcz20_3, hcz20_4, hcz20_5, hfz20_0, hfz20_1, hfz20_2, hfz20_3, hfz20_4, hfz20_5⟩ := bk6 BK823.out; obtain ⟨hcz21_0, hcz21_1, hcz21_2, hcz21_3, hcz21_4, hcz21_5, hfz21_0, hfz21_1, hfz21_2, hfz21_3, hfz21_4, hfz21_5⟩ := bk6 BK812.out))
   refine bodyPost_ret (results_ctt rfl _ _ gb812 38 #[.bool t813, .slice Ao15 t814.length co15, .slice Ao16 t817.length co16, .int .i64 t820, .int .i64 t821, .int .i64 t822] (0, 0) _ rfl (by (with_reducible repeat (first | refine blk_drewN ?_ _ | refine blk_drew ?_ | refine blk_alloc ?_ _)); refine blk_put (cs := #[.bool t813, .slice Ao15 t814.length co15, .slice Ao16 t817.length co16, .int .i64 t820, .int .i64 t821, .int .i64 0]) ?_ 5 _ rfl; (with_reducible repeat (first | refine blk_drewN ?_ _ | refine blk_drew ?_ | refine blk_alloc ?_ _)); refine blk_put (cs := #[.bool t813, .slice Ao15 t814.length co15, .slice Ao16 t817.length co16, .int .i64 t820, .int .i64 0, .int .i64 0]) ?_ 4 _ rfl; (with_reducible repeat (first | refine blk_drewN ?_ _ | refine blk_drew ?_ | refine blk_alloc ?_ _)); refine blk_put (cs := #[.bool t813, .slice Ao15 t814.length co15, .slice Ao16 t817.length co16, .int .i64 0, .int .i64 0, .int .i64 0]) ?_ 3 _ rfl; (with_reducible repeat (first | refine blk_drewN ?_ _ | refine blk_drew ?_ | refine blk_alloc ?_ _)); refine blk_put (cs := #[.bool t813, .slice Ao15 t814.length co15, .slice none 0 0, .int .i64 0, .int .i64 0, .int .i64 0]) ?_ 2 _ rfl; (with_reducible repeat (first | refine blk_drewN ?_ _ | refine blk_drew ?_ | refine blk_alloc ?_ _)); refine blk_put (cs := #[.bool t813, .slice none 0 0, .slice none 0 0, .int .i64 0, .int .i64 0, .int .i64 0]) ?_ 1 _ rfl; (with_reducible repeat (first | refine blk_drewN ?_ _ | refine blk_drew ?_ | refine blk_alloc ?_ _)); refine blk_put (cs := #[.bool false, .slice none 0 0, .slice none 0 0, .int .i64 0, .int .i64 0, .int .i64 0]) ?_ 0 _ rfl; exact pkK BK812.out) Try.underlying38 rfl (by kernel_rfl)) rfl ?_
   exact ⟨_, _, _, rfe, by (with_reducible repeat (first | apply Kd.R_alloc | apply Kd.R_drewN | apply Kd.R_drew)); exact Kd.R_mono (Kd.R_far (p := ⟨gb812, 5, none⟩) (Kd.R_far (p := ⟨gb812, 4, none⟩) (Kd.R_far (p := ⟨gb812, 3, none⟩) (Kd.R_far (p := ⟨gb812, 2, none⟩) (Kd.R_far (p := ⟨gb812, 1, none⟩) (Kd.R_far (p := ⟨gb812, 0, none⟩) (Kd.R_types HO816.out BK812.out (by decide)) (fun _ hk => hk.2) (.bool t813)) (fun _ hk => hk.2) (.slice Ao15 t814.length co15)) (fun _ hk => hk.2) (.slice Ao16 t817.length co16)) (fun _ hk => hk.2) (.int .i64 t820)) (fun _ hk => hk.2) (.int .i64 t821)) (fun _ hk => hk.2) (.int .i64 t822)) (fun _ hk => (by simp [Value.ownBlock])), by (with_reducible repeat (first | apply Kd.R_alloc | apply Kd.R_drewN | apply Kd.R_drew)); exact Kd.R_mono (Kd.R_far (p := ⟨gb812, 5, none⟩) (Kd.R_far (p := ⟨gb812, 4, none⟩) (Kd.R_far (p := ⟨gb812, 3, none⟩) (Kd.R_far (p := ⟨gb812, 2, none⟩) (Kd.R_far (p := ⟨gb812, 1, none⟩) (Kd.R_far (p := ⟨gb812, 0, none⟩) (Kd.R_types HO819.out BK812.out (by decide)) (fun _ hk => hk.2) (.bool t813)) (fun _ hk => hk.2) (.slice Ao15 t814.length co15)) (fun _ hk => hk.2) (.slice Ao16 t817.length co16)) (fun _ hk => hk.2) (.int .i64 t820)) (fun _ hk => hk.2) (.int .i64 t821)) (fun _ hk => hk.2) (.int .i64 t822)) (fun _ hk => trivial), by first | exact Kd.R_nil _ _ _ _ _ | exact Kd.N_nil _ _ _ _ _ | exact Kd.V_nil _ _ _ _ _ | exact Kd.Q_nil _ _ _ _ _ | exact Kd.S_nil _ _ _ _ _, pkW HB.out⟩
  ·rw [if_neg c5] at H
   have c5b0 : decide (32 < (wrap64 ((l0_1.length : Int) + (l0_2.length : Int)))) = false := decide_eq_false c5
   clear c5
   have H' := am H
   clear H
   go_enter Try.func33, Try.ntmps33
   go_wp2_with (first | ((with_reducible refine gate_dst (N := 1) rfl ?_); refine box_event ?hg (N := 1) ?hd (cs := #[.bool a0_0, .slice A0_1 l0_1.length c0_1, .slice A0_2 l0_2.length c0_2, .int .i64 a0_3, .int .i64 a0_4, .int .i64 a0_5]) (t := 38) ?hr ?_; (case hd => rfl); (case hg => rfl); (case hr => first | (go_simp; done) | (go_simp; rfl)); intro gb811 hg w22 hbox hb; have BK811 := am (hbox); have GW811 := am ((by rw [hg]; exact (below_size (pkB HB.out)) : w.heap.size ≤ gb811)); have GE811 := am ((by rw [hg]; exact (below_size (pkB HB.out)) : w.heap.size ≤ gb811)); replace HB := am (below_step (pkB HB.out) hb); clear hb hbox hg) | ((with_reducible refine gate_dst (N := 2) rfl ?_); refine box_event ?hg (N := 2) ?hd (cs := #[.bool false, .slice none 0 0, .slice none 0 0, .int .i64 0, .int .i64 0, .int .i64 0]) (t := 38) ?hr ?_; (case hd => rfl); (case hg => rfl); (case hr => first | (go_simp; done) | (go_simp; rfl)); intro gb812 hg w23 hbox hb; have BK812 := am (hbox); have GW812 := am ((by rw [hg]; exact (below_size (pkW HB.out)) : w.heap.size ≤ gb812)); have GE812 := am ((by rw [hg]; exact (below_size (pkW HB.out)) : w.heap.size ≤ gb812)); replace HB := am (below_step (pkW HB.out) hb); have NB811_812 := am ((by rw [hg]; exact Nat.ne_of_lt (blk_lt (g := gb811) (o := .cells #[.bool a0_0, .slice A0_1 l0_1.length c0_1, .slice A0_2 l0_2.length c0_2, .int .i64 a0_3, .int .i64 a0_4, .int .i64 a0_5] 38 (0, 0)) (pkK BK811.out)) : gb811 ≠ gb812)); have NB812_811 := am ((by rw [hg]; exact Nat.ne_of_gt (blk_lt (g := gb811) (o := .cells #[.bool a0_0, .slice A0_1 l0_1.length c0_1, .slice A0_2 l0_2.length c0_2, .int .i64 a0_3, .int .i64 a0_4, .int .i64 a0_5] 38 (0, 0)) (pkK BK811.out)) : gb812 ≠ gb811)); replace BK811 := am (blk_below (pkK BK811.out) hb); clear hb hbox hg; have hnb24 := NB811_812.out; have hnc24 := NB812_811.out; obtain ⟨hcz25_0, hcz25_1, hcz25_2, hcz25_3, hcz25_4, hcz25_5, hfz25_0, hfz25_1, hfz25_2, hfz25_3, hfz25_4, hfz25_5⟩ := bk6 BK811.out) | ((with_reducible refine gate_callee (f := 71) rfl ?_); refine goesL_ (some 9) rfl rfl Try.func71 (by kernel_rfl) rfl #[.agg #[.bool a0_0, .slice A0_1 l0_1.length c0_1, .slice A0_2 l0_2.length c0_2, .int .i64 a0_3, .int .i64 a0_4, .int .i64 a0_5]] rfl mpx ?_; (with_reducible refine (impl_copyNotify.calls a0_0 _ _ l0_1 _ _ l0_2 a0_3 a0_4 a0_5 t813 t814 t817 t820 t821 t822 _ ?side1 ?side2 ?side3 ?side4 A2.out).mono ?_); (case side1 => exact pkC (Kd.C_below HR0_1.out HB.out)); (case side2 => exact HC0_1.out); (case side3 => exact pkC (Kd.C_below HR0_2.out HB.out)); (case side4 => exact HC0_2.out); rintro e w26 ⟨v815, v818, rfl, ho0, ho1, hb⟩; refine ⟨_, rfl, ?_⟩; have HO816 := am (Kd.R_lower ho0 (below_size (pkW HB.out))); have HO819 := am (Kd.R_lower ho1 (below_size (pkW HB.out))); replace BK811 := am (blk_below (pkK BK811.out) hb); replace BK812 := am (blk_below (pkK BK812.out) hb); replace HB := am (below_step (pkW HB.out) hb); (try clear hb ho0 ho1)) | ((with_reducible refine gate_dst (N := 5) rfl ?_); refine box_event ?hg (N := 5) ?hd (cs := #[.bool false, .slice none 0 0, .slice none 0 0, .int .i64 0, .int .i64 0, .int .i64 0]) (t := 38) ?hr ?_; (case hd => rfl); (case hg => rfl); (case hr => first | (go_simp; done) | (go_simp; rfl)); intro gb823 hg w27 hbox hb; replace HO816 := am (Kd.R_below (pkR HO816.out) hb); replace HO819 := am (Kd.R_below (pkR HO819.out) hb); have BK823 := am (hbox); have GW823 := am ((by rw [hg]; exact (below_size (pkW HB.out)) : w.heap.size ≤ gb823)); have GE823 := am ((by rw [hg]; exact (below_size (pkW HB.out)) : w.heap.size ≤ gb823)); replace HB := am (below_step (pkW HB.out) hb); have NB811_823 := am ((by rw [hg]; exact Nat.ne_of_lt (blk_lt (g := gb811) (o := .cells #[.bool a0_0, .slice A0_1 l0_1.length c0_1, .slice A0_2 l0_2.length c0_2, .int .i64 a0_3, .int .i64 a0_4, .int .i64 a0_5] 38 (0, 0)) (pkK BK811.out)) : gb811 ≠ gb823)); have NB823_811 := am ((by rw [hg]; exact Nat.ne_of_gt (blk_lt (g := gb811) (o := .cells #[.bool a0_0, .slice A0_1 l0_1.length c0_1, .slice A0_2 l0_2.length c0_2, .int .i64 a0_3, .int .i64 a0_4, .int .i64 a0_5] 38 (0, 0)) (pkK BK811.out)) : gb823 ≠ gb811)); replace BK811 := am (blk_below (pkK BK811.out) hb); have NB812_823 := am ((by rw [hg]; exact Nat.ne_of_lt (blk_lt (g := gb812) (o := .cells #[.bool false, .slice none 0 0, .slice none 0 0, .int .i64 0, .int .i64 0, .int .i64 0] 38 (0, 0)) (pkK BK812.out)) : gb812 ≠ gb823)); have NB823_812 := am ((by rw [hg]; exact Nat.ne_of_gt (blk_lt (g := gb812) (o := .cells #[.bool false, .slice none 0 0, .slice none 0 0, .int .i64 0, .int .i64 0, .int .i64 0] 38 (0, 0)) (pkK BK812.out)) : gb823 ≠ gb812)); replace BK812 := am (blk_below (pkK BK812.out) hb); clear hb hbox hg; have hnb28 := NB823_811.out; have hnc28 := NB811_823.out; have hnb29 := NB823_812.out; have hnc29 := NB812_823.out; obtain ⟨hcz30_0, hcz30_1, hcz30_2, hcz30_3, hcz30_4, hcz30_5, hfz30_0, hfz30_1, hfz30_2, hfz30_3, hfz30_4, hfz30_5⟩ := bk6 BK823.out; obtain ⟨Ao31, co31, eo31⟩ := Kd.R_slice HO816.out; subst eo31; obtain ⟨Ao32, co32, eo32⟩ := Kd.R_slice HO819.out; subst eo32; obtain ⟨hcz33_0, hcz33_1, hcz33_2, hcz33_3, hcz33_4, hcz33_5, hfz33_0, hfz33_1, hfz33_2, hfz33_3, hfz33_4, hfz33_5⟩ := bk6 BK811.out) | ((with_reducible refine gate_callee (f := 22) rfl ?_); refine goesL_ (some 12) rfl rfl Try.func22 (by kernel_rfl) rfl #[.agg #[.bool a0_0, .slice A0_1 l0_1.length c0_1, .slice A0_2 l0_2.length c0_2, .int .i64 a0_3, .int .i64 a0_4, .int .i64 a0_5]] rfl mpx ?_; (with_reducible refine (impl_NotifyOk.calls k a0_0 _ _ l0_1 _ _ l0_2 a0_3 a0_4 a0_5 true _ ?side1 ?side2 ?side3 ?side4 A3.out).mono ?_); (case side1 => exact Kd.C_below HR0_1.out (pkW HB.out)); (case side2 => exact HC0_1.out); (case side3 => exact Kd.C_below HR0_2.out (pkW HB.out)); (case side4 => exact HC0_2.out); rintro e w34 ⟨rfl, hb⟩; refine ⟨_, rfl, ?_⟩; replace HO816 := am (Kd.R_below (by (with_reducible repeat (first | apply Kd.R_alloc | apply Kd.R_drewN | apply Kd.R_drew)); exact (Kd.R_mono (Kd.R_far (p := ⟨gb823, 5, none⟩) (Kd.R_far (p := ⟨gb823, 4, none⟩) (Kd.R_far (p := ⟨gb823, 3, none⟩) (Kd.R_far (p := ⟨gb823, 2, none⟩) (Kd.R_far (p := ⟨gb823, 1, none⟩) (Kd.R_far (p := ⟨gb823, 0, none⟩) (Kd.R_types HO816.out BK823.out (by decide)) (fun _ hk => hk.2) (.bool t813)) (fun _ hk => hk.2) (.slice Ao31 t814.length co31)) (fun _ hk => hk.2) (.slice Ao32 t817.length co32)) (fun _ hk => hk.2) (.int .i64 t820)) (fun _ hk => hk.2) (.int .i64 t821)) (fun _ hk => hk.2) (.int .i64 t822)) (fun _ h_ => h_.1))) hb); replace HO819 := am (Kd.R_below (by (with_reducible repeat (first | apply Kd.R_alloc | apply Kd.R_drewN | apply Kd.R_drew)); exact (Kd.R_mono (Kd.R_far (p := ⟨gb823, 5, none⟩) (Kd.R_far (p := ⟨gb823, 4, none⟩) (Kd.R_far (p := ⟨gb823, 3, none⟩) (Kd.R_far (p := ⟨gb823, 2, none⟩) (Kd.R_far (p := ⟨gb823, 1, none⟩) (Kd.R_far (p := ⟨gb823, 0, none⟩) (Kd.R_types HO819.out BK823.out (by decide)) (fun _ hk => hk.2) (.bool t813)) (fun _ hk => hk.2) (.slice Ao31 t814.length co31)) (fun _ hk => hk.2) (.slice Ao32 t817.length co32)) (fun _ hk => hk.2) (.int .i64 t820)) (fun _ hk => hk.2) (.int .i64 t821)) (fun _ hk => hk.2) (.int .i64 t822)) (fun _ h_ => h_.1))) hb); replace BK811 := am (blk_below (g := gb811) (o := .cells #[.bool a0_0, .slice A0_1 l0_1.length c0_1, .slice A0_2 l0_2.length c0_2, .int .i64 a0_3, .int .i64 a0_4, .int .i64 a0_5] 38 (0, 0)) (by (with_reducible repeat (first | refine blk_drewN ?_ _ | refine blk_drew ?_ | refine blk_alloc ?_ _)); refine blk_far ?_ NB811_823.out _; (with_reducible repeat (first | refine blk_drewN ?_ _ | refine blk_drew ?_ | refine blk_alloc ?_ _)); refine blk_far ?_ NB811_823.out _; (with_reducible repeat (first | refine blk_drewN ?_ _ | refine blk_drew ?_ | refine blk_alloc ?_ _)); refine blk_far ?_ NB811_823.out _; (with_reducible repeat (first | refine blk_drewN ?_ _ | refine blk_drew ?_ | refine blk_alloc ?_ _)); refine blk_far ?_ NB811_823.out _; (with_reducible repeat (first | refine blk_drewN ?_ _ | refine blk_drew ?_ | refine blk_alloc ?_ _)); refine blk_far ?_ NB811_823.out _; (with_reducible repeat (first | refine blk_drewN ?_ _ | refine blk_drew ?_ | refine blk_alloc ?_ _)); refine blk_far ?_ NB811_823.out _; exact pkK BK811.out) hb); replace BK812 := am (blk_below (g := gb812) (o := .cells #[.bool false, .slice none 0 0, .slice none 0 0, .int .i64 0, .int .i64 0, .int .i64 0] 38 (0, 0)) (by (with_reducible repeat (first | refine blk_drewN ?_ _ | refine blk_drew ?_ | refine blk_alloc ?_ _)); refine blk_far ?_ NB812_823.out _; (with_reducible repeat (first | refine blk_drewN ?_ _ | refine blk_drew ?_ | refine blk_alloc ?_ _)); refine blk_far ?_ NB812_823.out _; (with_reducible repeat (first | refine blk_drewN ?_ _ | refine blk_drew ?_ | refine blk_alloc ?_ _)); refine blk_far ?_ NB812_823.out _; (with_reducible repeat (first | refine blk_drewN ?_ _ | refine blk_drew ?_ | refine blk_alloc ?_ _)); refine blk_far ?_ NB812_823.out _; (with_reducible repeat (first | refine blk_drewN ?_ _ | refine blk_drew ?_ | refine blk_alloc ?_ _)); refine blk_far ?_ NB812_823.out _; (with_reducible repeat (first | refine blk_drewN ?_ _ | refine blk_drew ?_ | refine blk_alloc ?_ _)); refine blk_far ?_ NB812_823.out _; exact pkK BK812.out) hb); replace BK823 := am (blk_below (g := gb823) (o := .cells #[.bool t813, .slice Ao31 t814.length co31, .slice Ao32 t817.length co32, .int .i64 t820, .int .i64 t821, .int .i64 t822] 38 (0, 0)) (by (with_reducible repeat (first | refine blk_drewN ?_ _ | refine blk_drew ?_ | refine blk_alloc ?_ _)); refine blk_put (cs := #[.bool t813, .slice Ao31 t814.length co31, .slice Ao32 t817.length co32, .int .i64 t820, .int .i64 t821, .int .i64 0]) ?_ 5 _ rfl; (with_reducible repeat (first | refine blk_drewN ?_ _ | refine blk_drew ?_ | refine blk_alloc ?_ _)); refine blk_put (cs := #[.bool t813, .slice Ao31 t814.length co31, .slice Ao32 t817.length co32, .int .i64 t820, .int .i64 0, .int .i64 0]) ?_ 4 _ rfl; (with_reducible repeat (first | refine blk_drewN ?_ _ | refine blk_drew ?_ | refine blk_alloc ?_ _)); refine blk_put (cs := #[.bool t813, .slice Ao31 t814.length co31, .slice Ao32 t817.length co32, .int .i64 0, .int .i64 0, .int .i64 0]) ?_ 3 _ rfl; (with_reducible repeat (first | refine blk_drewN ?_ _ | refine blk_drew ?_ | refine blk_alloc ?_ _)); refine blk_put (cs := #[.bool t813, .slice Ao31 t814.length co31, .slice none 0 0, .int .i64 0, .int .i64 0, .int .i64 0]) ?_ 2 _ rfl; (with_reducible repeat (first | refine blk_drewN ?_ _ | refine blk_drew ?_ | refine blk_alloc ?_ _)); refine blk_put (cs := #[.bool t813, .slice none 0 0, .slice none 0 0, .int .i64 0, .int .i64 0, .int .i64 0]) ?_ 1 _ rfl; (with_reducible repeat (first | refine blk_drewN ?_ _ | refine blk_drew ?_ | refine blk_alloc ?_ _)); refine blk_put (cs := #[.bool false, .slice none 0 0, .slice none 0 0, .int .i64 0, .int .i64 0, .int .i64 0]) ?_ 0 _ rfl; exact pkK BK823.out) hb); replace HB := am (below_step (pkW HB.out) hb); (try clear hb); obtain ⟨hcz35_0, hcz35_1, hcz35_2, hcz35_3, hcz35_4, hcz35_5, hfz35_0, hfz35_1, hfz35_2, hfz35_3, hfz35_4, hfz35_5⟩ := bk6 BK811.out))
   go_loopg [28] k (fun kq v28 w' => ∃ (x28_1 : Int) (x824002_1 : List (S67)) (u824002 : Value), v28 = .int .i64 x28_1 ∧ Aside0 (impl_TellAll.l0 kq l0_1 (l0_1.length : Int) x28_1 a0_0 l0_1 l0_2 a0_3 a0_4 a0_5 t813 t814 x824002_1 t820 t821 t822 = some (r1, r2, r3, r4, r5, r6, r7, r8)) ∧ Aside0 (kq ≤ k) ∧ Aside0 (Kd.R (Kd.int .i64) 3 w' w.heap.size (fun _ => True) (.slice Ao31 t814.length co31) t814) ∧ Aside0 (Kd.R k67 67 w' w.heap.size (fun _ => True) u824002 x824002_1) ∧ Aside0 (w'.heap[gb811]? = some (.cells #[.bool a0_0, (.slice A0_1 l0_1.length c0_1), (.slice A0_2 l0_2.length c0_2), .int .i64 a0_3, .int .i64 a0_4, .int .i64 a0_5] 38 (0, 0))) ∧ Aside0 (w'.heap[gb812]? = some (.cells #[.bool false, (.slice none 0 0), (.slice none 0 0), .int .i64 0, .int .i64 0, .int .i64 0] 38 (0, 0))) ∧ Aside0 (w'.heap[gb823]? = some (.cells #[.bool t813, (.slice Ao31 t814.length co31), u824002, .int .i64 t820, .int .i64 t821, .int .i64 t822] 38 (0, 0))) ∧ Aside0 (Below w.heap.size w w'))
   case atStart => exact ⟨(0), (t817), (.slice Ao32 t817.length co32), rfx, H', ⟨Nat.le_refl _⟩, ⟨pkR HO816.out⟩, ⟨pkR HO819.out⟩, ⟨pkK BK811.out⟩, ⟨pkK BK812.out⟩, ⟨pkK BK823.out⟩, ⟨pkW HB.out⟩⟩
   case round =>
    clear H'
    try clear c1
    try clear c2
    try clear p2
    try clear c3
    try clear c4
    try clear c5
    try clear c5b0
    try clear p6
    try clear c7
    try clear c8
    try clear c12
    try clear c13
    try clear c22
    try clear c24
    try clear c28
    try clear c29
    try clear c33
    try clear hcz14_0
    try clear hcz14_1
    try clear hcz14_2
    try clear hcz14_3
    try clear hcz14_4
    try clear hcz14_5
    try clear hcz17_0
    try clear hcz17_1
    try clear hcz17_2
    try clear hcz17_3
    try clear hcz17_4
    try clear hcz17_5
    try clear hcz19_0
    try clear hcz19_1
    try clear hcz19_2
    try clear hcz19_3
    try clear hcz19_4
    try clear hcz19_5
    try clear hcz20_0
    try clear hcz20_1
    try clear hcz20_2
    try clear hcz20_3
    try clear hcz20_4
    try clear hcz20_5
    try clear hcz21_0
    try clear hcz21_1
    try clear hcz21_2
    try clear hcz21_3
    try clear hcz21_4
    try clear hcz21_5
    try clear hcz25_0
    try clear hcz25_1
    try clear hcz25_2
    try clear hcz25_3
    try clear hcz25_4
    try clear hcz25_5
    try clear hcz30_0
    try clear hcz30_1
    try clear hcz30_2
    try clear hcz30_3
    try clear hcz30_4
    try clear hcz30_5
    try clear hcz33_0
    try clear hcz33_1
    try clear hcz33_2
    try clear hcz33_3
    try clear hcz33_4
    try clear hcz33_5
    try clear hcz35_0
    try clear hcz35_1
    try clear hcz35_2
    try clear hcz35_3
    try clear hcz35_4
    try clear hcz35_5
    try clear hcz9_0
    try clear hcz9_1
    try clear hcz9_2
    try clear hcz9_3
    try clear hcz9_4
    try clear hcz9_5
    try clear hfz14_0
    try clear hfz14_1
    try clear hfz14_2
    try clear hfz14_3
    try clear hfz14_4
    try clear hfz14_5
    try clear hfz17_0
    try clear hfz17_1
    try clear hfz17_2
    try clear hfz17_3
    try clear hfz17_4
    try clear hfz17_5
    try clear hfz19_0
    try clear hfz19_1
    try clear hfz19_2
    try clear hfz19_3
    try clear hfz19_4
    try clear hfz19_5
    try clear hfz20_0
    try clear hfz20_1
    try clear hfz20_2
    try clear hfz20_3
    try clear hfz20_4
    try clear hfz20_5
    try clear hfz21_0
    try clear hfz21_1
    try clear hfz21_2
    try clear hfz21_3
    try clear hfz21_4
    try clear hfz21_5
    try clear hfz25_0
    try clear hfz25_1
    try clear hfz25_2
    try clear hfz25_3
    try clear hfz25_4
    try clear hfz25_5
    try clear hfz30_0
    try clear hfz30_1
    try clear hfz30_2
    try clear hfz30_3
    try clear hfz30_4
    try clear hfz30_5
    try clear hfz33_0
    try clear hfz33_1
    try clear hfz33_2
    try clear hfz33_3
    try clear hfz33_4
    try clear hfz33_5
    try clear hfz35_0
    try clear hfz35_1
    try clear hfz35_2
    try clear hfz35_3
    try clear hfz35_4
    try clear hfz35_5
    try clear hfz9_0
    try clear hfz9_1
    try clear hfz9_2
    try clear hfz9_3
    try clear hfz9_4
    try clear hfz9_5
    obtain ⟨x28_1, x824002_1, u824002, rfl, HA, HK1, HO_824001, HO_824002, BK811, BK812, BK823, HB⟩ := hrel
    cases gk with
    | zero => exact absurd HA.out (by simp [impl_TellAll.l0])
    | succ k1 =>
     have H := HA.out
     clear HA
     simp only [impl_TellAll.l0] at H
     by_cases c36 : x28_1 < (l0_1.length : Int)
     ·rw [if_pos c36] at H
      have c36b0 : decide (x28_1 < (l0_1.length : Int)) = true := decide_eq_true c36
      clear c36
      by_cases c37 : 0 ≤ x28_1
      ·rw [if_pos c37] at H
       have c37b0 : decide (0 ≤ x28_1) = true := decide_eq_true c37
       clear c37
       by_cases c38 : x28_1 < (l0_1.length : Int)
       ·rw [if_pos c38] at H
        have c38b0 : decide (x28_1 < (l0_1.length : Int)) = true := decide_eq_true c38
        clear c38
        by_cases c39 : x824002_1.length < 8796093022208
        ·rw [if_pos c39] at H
         have LMc39 := am c39
         clear c39
         obtain ⟨y826, hy826⟩ : ∃ y_ : List (S67), y_ = (x824002_1 ++ [(⟨rd l0_1 x28_1, false⟩ : S67)]) := ⟨_, rfl⟩
         replace H : (impl_TellAll.l0 k1 l0_1 (l0_1.length : Int) (wrap64 (x28_1 + 1)) a0_0 l0_1 l0_2 a0_3 a0_4 a0_5 t813 t814 y826 t820 t821 t822) = some (r1, r2, r3, r4, r5, r6, r7, r8) := by first | (rw [hy826]; with_reducible exact H) | (have H2_ := (Option.bind_some _ _).symm.trans H; rw [hy826]; with_reducible exact H2_) | (have H2_ := (Option.bind_some _ _).symm.trans H; with_reducible exact H2_) | with_reducible exact H | (rw [hy826]; exact H) | exact H
         have Ny826 := am hy826
         clear hy826
         have H' := am H
         clear H
         have p825 : 0 ≤ (x28_1 : Int) := ofd
         have q825 : x28_1 < (l0_1.length : Int) := ofd
         obtain ⟨ad825, e825, hx825_0⟩ := Kd.at_int HR0_1.out x28_1 p825 q825
         cases e825
         replace hx825_0 := (HB.out.cell (World.block_lt_of_cell? w _ hx825_0)).trans hx825_0
         replace p825 := eq_true p825
         replace q825 := eq_true q825
         have hnb40 := NB823_811.out
         have hnc40 := NB811_823.out
         have hnb41 := NB823_812.out
         have hnc41 := NB812_823.out
         obtain ⟨hcz42_0, hcz42_1, hcz42_2, hcz42_3, hcz42_4, hcz42_5, hfz42_0, hfz42_1, hfz42_2, hfz42_3, hfz42_4, hfz42_5⟩ := bk6 BK823.out
         go_wp2_with (first | ((with_reducible refine gate_builtin (b := .append) (xs := #[.tmp 33, .tmp 36]) rfl ?_); at_builtin; refine Kd.R_append k67 (w0 := w) w.heap.size rfl (.tmp 33) (.tmp 36) 36 67 (.agg #[(.int .i64 0), (.bool false)]) 16 rfl Try.underlying36 info67 rfl (by decide) (by omega) u824002 x824002_1 (⟨rd l0_1 x28_1, false⟩ : S67) [.int .i64 (rd l0_1 x28_1), .bool false] (fun _ => True) (fun _ => False) rfl rfl ?aP (fun _ hk => hk.elim) ?aF ?aO ?aB ?aS ?aL ?_; (case aP => exact k67_mkM _ _ _ (⟨rd l0_1 x28_1, false⟩ : S67)); (case aB => exact (pkW HB.out)); (case aF => exact (fun _ _ => trivial)); (case aO => exact (pkR HO_824002.out)); (case aS => exact (below_size (pkW HB.out))); (case aL => have := LMc39.out; omega); intro v827 w43 ho hb hg hat; rw [← Ny826.out] at ho; replace HO_824001 := am (Kd.R_over' (pkR HO_824001.out) (Kd.R_typed (pkR HO_824002.out)) (by decide) hg); replace BK811 := am (blk_grown (g := gb811) (o := .cells #[.bool a0_0, .slice (some ad825) l0_1.length c0_1, .slice A0_2 l0_2.length c0_2, .int .i64 a0_3, .int .i64 a0_4, .int .i64 a0_5] 38 (0, 0)) (pkK BK811.out) hg (Kd.R_ne HO_824002.out BK811.out (by decide))); replace BK812 := am (blk_grown (g := gb812) (o := .cells #[.bool false, .slice none 0 0, .slice none 0 0, .int .i64 0, .int .i64 0, .int .i64 0] 38 (0, 0)) (pkK BK812.out) hg (Kd.R_ne HO_824002.out BK812.out (by decide))); replace BK823 := am (blk_grown (g := gb823) (o := .cells #[.bool t813, .slice Ao31 t814.length co31, u824002, .int .i64 t820, .int .i64 t821, .int .i64 t822] 38 (0, 0)) (pkK BK823.out) hg (Kd.R_ne HO_824002.out BK823.out (by decide))); replace HB := am (hb); have HO828 := am (ho); clear HO_824002; clear ho hb hg hat; obtain ⟨Ao44, co44, eo44⟩ := Kd.R_slice HO828.out; subst eo44; obtain ⟨hcz45_0, hcz45_1, hcz45_2, hcz45_3, hcz45_4, hcz45_5, hfz45_0, hfz45_1, hfz45_2, hfz45_3, hfz45_4, hfz45_5⟩ := bk6 BK823.out))
         go_roundg k1
         case measure => have := HK1.out; omega
         case rel => exact ⟨(wrap64 (x28_1 + 1)), (y826), (.slice Ao44 y826.length co44), rfx, H', ⟨by have := HK1.out; omega⟩, ⟨by (with_reducible repeat (first | apply Kd.R_alloc | apply Kd.R_drewN | apply Kd.R_drew)); exact Kd.R_mono (Kd.R_far (p := ⟨gb823, 2, none⟩) (Kd.R_types HO_824001.out BK823.out (by decide)) (fun _ hk => hk.2) (.slice Ao44 y826.length co44)) (fun _ hk => trivial)⟩, ⟨by (with_reducible repeat (first | apply Kd.R_alloc | apply Kd.R_drewN | apply Kd.R_drew)); exact Kd.R_mono (Kd.R_far (p := ⟨gb823, 2, none⟩) (Kd.R_types HO828.out BK823.out (by decide)) (fun _ hk => hk.2) (.slice Ao44 y826.length co44)) (fun _ hk => trivial)⟩, ⟨by (with_reducible repeat (first | refine blk_drewN ?_ _ | refine blk_drew ?_ | refine blk_alloc ?_ _)); refine blk_far ?_ NB811_823.out _; exact pkK BK811.out⟩, ⟨by (with_reducible repeat (first | refine blk_drewN ?_ _ | refine blk_drew ?_ | refine blk_alloc ?_ _)); refine blk_far ?_ NB812_823.out _; exact pkK BK812.out⟩, ⟨by (with_reducible repeat (first | refine blk_drewN ?_ _ | refine blk_drew ?_ | refine blk_alloc ?_ _)); refine blk_put (cs := #[.bool t813, .slice Ao31 t814.length co31, u824002, .int .i64 t820, .int .i64 t821, .int .i64 t822]) ?_ 2 _ rfl; exact pkK BK823.out⟩, ⟨pkW HB.out⟩⟩
        ·rw [if_neg c39] at H
         exact absurd H (by simp)
       ·rw [if_neg c38] at H
        exact absurd H (by simp)
      ·rw [if_neg c37] at H
       exact absurd H (by simp)
     ·rw [if_neg c36] at H
      have c36b0 : decide (x28_1 < (l0_1.length : Int)) = false := decide_eq_false c36
      clear c36
      replace H := Option.bind_eq_some_iff.mp H
      obtain ⟨t829, A460, H⟩ := H
      replace H : (some (t813, ([] : List Int), x824002_1, t820, t821, t822, t829, 0)) = some (r1, r2, r3, r4, r5, r6, r7, r8) := H
      have A46 := am A460
      clear A460
      simp only [Option.some.injEq, Prod.mk.injEq] at H
      obtain ⟨rfl, rfl, rfl, rfl, rfl, rfl, rfl, rfl⟩ := H
      have hnb47 := NB823_811.out
      have hnc47 := NB811_823.out
      have hnb48 := NB823_812.out
      have hnc48 := NB812_823.out
      obtain ⟨hcz49_0, hcz49_1, hcz49_2, hcz49_3, hcz49_4, hcz49_5, hfz49_0, hfz49_1, hfz49_2, hfz49_3, hfz49_4, hfz49_5⟩ := bk6 BK823.out
      try go_wp2
      have n0_ : Aside0 (Kd.R (Kd.int .i64) 3 (wr.setCell ⟨gb823, 1, none⟩ (.slice none 0 0)) w.heap.size (fun _ => True) (.slice Ao31 t814.length co31) t814) := ⟨by (with_reducible repeat (first | apply Kd.R_alloc | apply Kd.R_drewN | apply Kd.R_drew)); exact Kd.R_mono (Kd.R_far (p := ⟨gb823, 1, none⟩) (Kd.R_types HO_824001.out BK823.out (by decide)) (fun _ hk => hk.2) (.slice none 0 0)) (fun _ hk => trivial)⟩
      have n1_ : Aside0 (Kd.R k67 67 (wr.setCell ⟨gb823, 1, none⟩ (.slice none 0 0)) w.heap.size (fun _ => True) u824002 x824002_1) := ⟨by (with_reducible repeat (first | apply Kd.R_alloc | apply Kd.R_drewN | apply Kd.R_drew)); exact Kd.R_mono (Kd.R_far (p := ⟨gb823, 1, none⟩) (Kd.R_types HO_824002.out BK823.out (by decide)) (fun _ hk => hk.2) (.slice none 0 0)) (fun _ hk => trivial)⟩
      have n2_ : Aside0 ((wr.setCell ⟨gb823, 1, none⟩ (.slice none 0 0)).heap[gb811]? = some (.cells #[.bool a0_0, .slice A0_1 l0_1.length c0_1, .slice A0_2 l0_2.length c0_2, .int .i64 a0_3, .int .i64 a0_4, .int .i64 a0_5] 38 (0, 0))) := ⟨by (with_reducible repeat (first | refine blk_drewN ?_ _ | refine blk_drew ?_ | refine blk_alloc ?_ _)); refine blk_far ?_ NB811_823.out _; exact pkK BK811.out⟩
      have n3_ : Aside0 ((wr.setCell ⟨gb823, 1, none⟩ (.slice none 0 0)).heap[gb812]? = some (.cells #[.bool false, .slice none 0 0, .slice none 0 0, .int .i64 0, .int .i64 0, .int .i64 0] 38 (0, 0))) := ⟨by (with_reducible repeat (first | refine blk_drewN ?_ _ | refine blk_drew ?_ | refine blk_alloc ?_ _)); refine blk_far ?_ NB812_823.out _; exact pkK BK812.out⟩
      have n4_ : Aside0 ((wr.setCell ⟨gb823, 1, none⟩ (.slice none 0 0)).heap[gb823]? = some (.cells #[.bool t813, .slice none 0 0, u824002, .int .i64 t820, .int .i64 t821, .int .i64 t822] 38 (0, 0))) := ⟨by (with_reducible repeat (first | refine blk_drewN ?_ _ | refine blk_drew ?_ | refine blk_alloc ?_ _)); refine blk_put (cs := #[.bool t813, .slice Ao31 t814.length co31, u824002, .int .i64 t820, .int .i64 t821, .int .i64 t822]) ?_ 1 _ rfl; exact pkK BK823.out⟩
      have n5_ : Aside0 (Below w.heap.size w (wr.setCell ⟨gb823, 1, none⟩ (.slice none 0 0))) := ⟨pkW HB.out⟩
      (try clear HO_824001); (try clear HO_824002); (try clear BK811); (try clear BK812); (try clear BK823); (try clear HB)
      generalize (wr.setCell ⟨gb823, 1, none⟩ (.slice none 0 0)) = w50 at n0_ n1_ n2_ n3_ n4_ n5_ ⊢
      have HO_824001 := n0_; have HO_824002 := n1_; have BK811 := n2_; have BK812 := n3_; have BK823 := n4_; have HB := n5_
      clear n0_ n1_ n2_ n3_ n4_ n5_
      replace HO_824001 := am (Kd.R_drew HO_824001.out)
      replace HO_824002 := am (Kd.R_drew HO_824002.out)
      replace BK811 := am (blk_drew BK811.out)
      replace BK812 := am (blk_drew BK812.out)
      replace BK823 := am (blk_drew BK823.out)
      replace HB := am (below_drew1 HB.out)
      refine start_ (n := 7) (S := fun w' => w'.cell? ⟨gb823, 0, none⟩ = some (.bool t813) ∧ w'.cell? ⟨gb823, 1, none⟩ = some (.slice none 0 0) ∧ w'.cell? ⟨gb823, 2, none⟩ = some (u824002) ∧ w'.cell? ⟨gb823, 3, none⟩ = some (.int .i64 t820) ∧ w'.cell? ⟨gb823, 4, none⟩ = some (.int .i64 t821) ∧ w'.cell? ⟨gb823, 5, none⟩ = some (.int .i64 t822) ∧ w'.cell? ⟨gb811, 0, none⟩ = some (.bool a0_0) ∧ w'.cell? ⟨gb811, 1, none⟩ = some (.slice A0_1 l0_1.length c0_1) ∧ w'.cell? ⟨gb811, 2, none⟩ = some (.slice A0_2 l0_2.length c0_2) ∧ w'.cell? ⟨gb811, 3, none⟩ = some (.int .i64 a0_3) ∧ w'.cell? ⟨gb811, 4, none⟩ = some (.int .i64 a0_4) ∧ w'.cell? ⟨gb811, 5, none⟩ = some (.int .i64 a0_5)) (ds := []) #[false, false, false, false, false, false, false] (by kernel_rfl) rfl rfl ⟨(blk_cell BK823.out 0).trans rfl, (blk_cell BK823.out 1).trans rfl, (blk_cell BK823.out 2).trans rfl, (blk_cell BK823.out 3).trans rfl, (blk_cell BK823.out 4).trans rfl, (blk_cell BK823.out 5).trans rfl, (blk_cell BK811.out 0).trans rfl, (blk_cell BK811.out 1).trans rfl, (blk_cell BK811.out 2).trans rfl, (blk_cell BK811.out 3).trans rfl, (blk_cell BK811.out 4).trans rfl, (blk_cell BK811.out 5).trans rfl⟩ (fun hHeld => ?_)
      generalize w50.drew = w51 at HO_824001 HO_824002 BK811 BK812 BK823 HB hHeld ⊢
      refine pure_ (i := 1) (N := some 42) (v := ?_) (a' := ?_) #[false, true, false, false, false, false, false] rfl rfl (by kernel_rfl) (fun _ _ _ h => h) (Or.inl ⟨by rfl, ?_⟩) ?_ ?_
      rotate_left
      ·intro w'
       go_simp
       with_reducible rfl
      rotate_left
      ·simp only [Act.put, List.setIfInBounds_toArray, List.set_cons_zero, List.set_cons_succ, i64_w, i32_w]
       rfl
      refine take_ (i := 0) (N := some 41) (v := ?_) (a' := ?_) #[true, true, false, false, false, false, false] rfl rfl (by kernel_rfl) (fun _ _ _ h => h) (Or.inl ⟨by rfl, ?_⟩) hHeld ?_ ?_
      rotate_left
      ·rintro w' ⟨s0, s1, s2, s3, s4, s5, s6, s7, s8, s9, s10, s11⟩
       go_simp
       with_reducible rfl
      rotate_left
      ·simp only [Act.put, List.setIfInBounds_toArray, List.set_cons_zero, List.set_cons_succ, i64_w, i32_w]
       rfl
      refine take_ (i := 2) (N := some 43) (v := ?_) (a' := ?_) #[true, true, true, false, false, false, false] rfl rfl (by kernel_rfl) (fun _ _ _ h => h) (Or.inl ⟨by rfl, ?_⟩) hHeld ?_ ?_
      rotate_left
      ·rintro w' ⟨s0, s1, s2, s3, s4, s5, s6, s7, s8, s9, s10, s11⟩
       go_simp
       with_reducible rfl
      rotate_left
      ·simp only [Act.put, List.setIfInBounds_toArray, List.set_cons_zero, List.set_cons_succ, i64_w, i32_w]
       rfl
      refine one_ (i := 3) (N := some 44) #[true, true, true, true, false, false, false] rfl rfl (by kernel_rfl) (by decide) (fun K hK => ?_)
      refine goes_ Try.func72 (by kernel_rfl) rfl #[.slice A0_1 l0_1.length c0_1] (by rfl) rfl rfl mpx ?_
      with_reducible refine (slices_Clone_int_int.calls _ _ l0_1 t829 _ ?side1 ?side2 A46.out).mono ?_
      (case side1 => exact pkC (Kd.C_below HR0_1.out HB.out))
      (case side2 => exact HC0_1.out)
      rintro e w52 ⟨v830, rfl, ho0, hb⟩
      refine ⟨_, rfl, ?_⟩
      replace HO_824002 := am (Kd.R_below (pkR HO_824002.out) hb)
      have HO831 := am (Kd.R_lower (Kd.R_new' ho0 (Kd.R_lt (pkR HO_824001.out))) (below_size (pkW HB.out)))
      replace HO_824001 := am (Kd.R_elder' (pkR HO_824001.out) (Kd.R_base ho0) hb)
      replace BK811 := am (blk_below (pkK BK811.out) hb)
      replace BK812 := am (blk_below (pkK BK812.out) hb)
      replace BK823 := am (blk_below (pkK BK823.out) hb)
      replace HB := am (below_step (pkW HB.out) hb)
      (try clear hb); (try clear ho0)
      obtain ⟨Ao55, co55, eo55⟩ := Kd.R_slice HO_824002.out
      (first | subst eo55 | (injection eo55 with f1_ f2_ f3_; have f4_ := f1_.symm; have f5_ := f3_.symm; clear f1_ f2_ f3_; subst f4_; subst f5_))
      refine hK.out _ _ ⟨(blk_cell BK823.out 0).trans rfl, (blk_cell BK823.out 1).trans rfl, (blk_cell BK823.out 2).trans rfl, (blk_cell BK823.out 3).trans rfl, (blk_cell BK823.out 4).trans rfl, (blk_cell BK823.out 5).trans rfl, (blk_cell BK811.out 0).trans rfl, (blk_cell BK811.out 1).trans rfl, (blk_cell BK811.out 2).trans rfl, (blk_cell BK811.out 3).trans rfl, (blk_cell BK811.out 4).trans rfl, (blk_cell BK811.out 5).trans rfl⟩ (fun hHeld => ?_)
      clear hK K
      refine norm_ (a' := ?_) ?_ ?_
      rotate_left
      ·show Act.put _ (some 44) _ = _
       simp only [Act.put, List.setIfInBounds_toArray, List.set_cons_zero, List.set_cons_succ, i64_w, i32_w]
       rfl
      refine one_ (i := 4) (N := none) #[true, true, true, true, true, false, false] rfl rfl (by kernel_rfl) (by decide) (fun K hK => ?_)
      have hs53 : w52.cell? ⟨gb812, 0, none⟩ = some (.bool false) := (blk_cell BK812.out 0).trans rfl
      have hfs53 := blk_frozen BK812.out 0
      have hns53_0 := NB811_812.out
      have hns53_2 := NB823_812.out
      have hms53_0 := NB812_811.out
      have hms53_2 := NB812_823.out
      have hs54 : w52.cell? ⟨gb812, 1, none⟩ = some (.slice none 0 0) := (blk_cell BK812.out 1).trans rfl
      have hfs54 := blk_frozen BK812.out 1
      have hns54_0 := NB811_812.out
      have hns54_2 := NB823_812.out
      have hms54_0 := NB812_811.out
      have hms54_2 := NB812_823.out
      have hs56 : w52.cell? ⟨gb812, 2, none⟩ = some (.slice none 0 0) := (blk_cell BK812.out 2).trans rfl
      have hfs56 := blk_frozen BK812.out 2
      have hns56_0 := NB811_812.out
      have hns56_2 := NB823_812.out
      have hms56_0 := NB812_811.out
      have hms56_2 := NB812_823.out
      have hs57 : w52.cell? ⟨gb812, 3, none⟩ = some (.int .i64 0) := (blk_cell BK812.out 3).trans rfl
      have hfs57 := blk_frozen BK812.out 3
      have hns57_0 := NB811_812.out
      have hns57_2 := NB823_812.out
      have hms57_0 := NB812_811.out
      have hms57_2 := NB812_823.out
      have hs58 : w52.cell? ⟨gb812, 4, none⟩ = some (.int .i64 0) := (blk_cell BK812.out 4).trans rfl
      have hfs58 := blk_frozen BK812.out 4
      have hns58_0 := NB811_812.out
      have hns58_2 := NB823_812.out
      have hms58_0 := NB812_811.out
      have hms58_2 := NB812_823.out
      have hs59 : w52.cell? ⟨gb812, 5, none⟩ = some (.int .i64 0) := (blk_cell BK812.out 5).trans rfl
      have hfs59 := blk_frozen BK812.out 5
      have hns59_0 := NB811_812.out
      have hns59_2 := NB823_812.out
      have hms59_0 := NB812_811.out
      have hms59_2 := NB812_823.out
      refine skip_ (w1 := ?_) (by rfl) rfl ?_ ?_
      rotate_left
      ·go_simp
       rfl
      refine hK.out _ _ ⟨((cell_far (p := ⟨gb812, _, none⟩) NB823_812.out _).trans (((cell_far (p := ⟨gb812, _, none⟩) NB823_812.out _).trans (((cell_far (p := ⟨gb812, _, none⟩) NB823_812.out _).trans (((cell_far (p := ⟨gb812, _, none⟩) NB823_812.out _).trans (((cell_far (p := ⟨gb812, _, none⟩) NB823_812.out _).trans (((cell_far (p := ⟨gb812, _, none⟩) NB823_812.out _).trans (hHeld.1)))))))))))), ((cell_far (p := ⟨gb812, _, none⟩) NB823_812.out _).trans (((cell_far (p := ⟨gb812, _, none⟩) NB823_812.out _).trans (((cell_far (p := ⟨gb812, _, none⟩) NB823_812.out _).trans (((cell_far (p := ⟨gb812, _, none⟩) NB823_812.out _).trans (((cell_far (p := ⟨gb812, _, none⟩) NB823_812.out _).trans (((cell_far (p := ⟨gb812, _, none⟩) NB823_812.out _).trans (hHeld.2.1)))))))))))), ((cell_far (p := ⟨gb812, _, none⟩) NB823_812.out _).trans (((cell_far (p := ⟨gb812, _, none⟩) NB823_812.out _).trans (((cell_far (p := ⟨gb812, _, none⟩) NB823_812.out _).trans (((cell_far (p := ⟨gb812, _, none⟩) NB823_812.out _).trans (((cell_far (p := ⟨gb812, _, none⟩) NB823_812.out _).trans (((cell_far (p := ⟨gb812, _, none⟩) NB823_812.out _).trans (hHeld.2.2.1)))))))))))), ((cell_far (p := ⟨gb812, _, none⟩) NB823_812.out _).trans (((cell_far (p := ⟨gb812, _, none⟩) NB823_812.out _).trans (((cell_far (p := ⟨gb812, _, none⟩) NB823_812.out _).trans (((cell_far (p := ⟨gb812, _, none⟩) NB823_812.out _).trans (((cell_far (p := ⟨gb812, _, none⟩) NB823_812.out _).trans (((cell_far (p := ⟨gb812, _, none⟩) NB823_812.out _).trans (hHeld.2.2.2.1)))))))))))), ((cell_far (p := ⟨gb812, _, none⟩) NB823_812.out _).trans (((cell_far (p := ⟨gb812, _, none⟩) NB823_812.out _).trans (((cell_far (p := ⟨gb812, _, none⟩) NB823_812.out _).trans (((cell_far (p := ⟨gb812, _, none⟩) NB823_812.out _).trans (((cell_far (p := ⟨gb812, _, none⟩) NB823_812.out _).trans (((cell_far (p := ⟨gb812, _, none⟩) NB823_812.out _).trans (hHeld.2.2.2.2.1)))))))))))), ((cell_far (p := ⟨gb812, _, none⟩) NB823_812.out _).trans (((cell_far (p := ⟨gb812, _, none⟩) NB823_812.out _).trans (((cell_far (p := ⟨gb812, _, none⟩) NB823_812.out _).trans (((cell_far (p := ⟨gb812, _, none⟩) NB823_812.out _).trans (((cell_far (p := ⟨gb812, _, none⟩) NB823_812.out _).trans (((cell_far (p := ⟨gb812, _, none⟩) NB823_812.out _).trans (hHeld.2.2.2.2.2.1)))))))))))), ((cell_far (p := ⟨gb812, _, none⟩) NB811_812.out _).trans (((cell_far (p := ⟨gb812, _, none⟩) NB811_812.out _).trans (((cell_far (p := ⟨gb812, _, none⟩) NB811_812.out _).trans (((cell_far (p := ⟨gb812, _, none⟩) NB811_812.out _).trans (((cell_far (p := ⟨gb812, _, none⟩) NB811_812.out _).trans (((cell_far (p := ⟨gb812, _, none⟩) NB811_812.out _).trans (hHeld.2.2.2.2.2.2.1)))))))))))), ((cell_far (p := ⟨gb812, _, none⟩) NB811_812.out _).trans (((cell_far (p := ⟨gb812, _, none⟩) NB811_812.out _).trans (((cell_far (p := ⟨gb812, _, none⟩) NB811_812.out _).trans (((cell_far (p := ⟨gb812, _, none⟩) NB811_812.out _).trans (((cell_far (p := ⟨gb812, _, none⟩) NB811_812.out _).trans (((cell_far (p := ⟨gb812, _, none⟩) NB811_812.out _).trans (hHeld.2.2.2.2.2.2.2.1)))))))))))), ((cell_far (p := ⟨gb812, _, none⟩) NB811_812.out _).trans (((cell_far (p := ⟨gb812, _, none⟩) NB811_812.out _).trans (((cell_far (p := ⟨gb812, _, none⟩) NB811_812.out _).trans (((cell_far (p := ⟨gb812, _, none⟩) NB811_812.out _).trans (((cell_far (p := ⟨gb812, _, none⟩) NB811_812.out _).trans (((cell_far (p := ⟨gb812, _, none⟩) NB811_812.out _).trans (hHeld.2.2.2.2.2.2.2.2.1)))))))))))), ((cell_far (p := ⟨gb812, _, none⟩) NB811_812.out _).trans (((cell_far (p := ⟨gb812, _, none⟩) NB811_812.out _).trans (((cell_far (p := ⟨gb812, _, none⟩) NB811_812.out _).trans (((cell_far (p := ⟨gb812, _, none⟩) NB811_812.out _).trans (((cell_far (p := ⟨gb812, _, none⟩) NB811_812.out _).trans (((cell_far (p := ⟨gb812, _, none⟩) NB811_812.out _).trans (hHeld.2.2.2.2.2.2.2.2.2.1)))))))))))), ((cell_far (p := ⟨gb812, _, none⟩) NB811_812.out _).trans (((cell_far (p := ⟨gb812, _, none⟩) NB811_812.out _).trans (((cell_far (p := ⟨gb812, _, none⟩) NB811_812.out _).trans (((cell_far (p := ⟨gb812, _, none⟩) NB811_812.out _).trans (((cell_far (p := ⟨gb812, _, none⟩) NB811_812.out _).trans (((cell_far (p := ⟨gb812, _, none⟩) NB811_812.out _).trans (hHeld.2.2.2.2.2.2.2.2.2.2.1)))))))))))), ((cell_far (p := ⟨gb812, _, none⟩) NB811_812.out _).trans (((cell_far (p := ⟨gb812, _, none⟩) NB811_812.out _).trans (((cell_far (p := ⟨gb812, _, none⟩) NB811_812.out _).trans (((cell_far (p := ⟨gb812, _, none⟩) NB811_812.out _).trans (((cell_far (p := ⟨gb812, _, none⟩) NB811_812.out _).trans (((cell_far (p := ⟨gb812, _, none⟩) NB811_812.out _).trans (hHeld.2.2.2.2.2.2.2.2.2.2.2))))))))))))⟩ (fun hHeld => ?_)
      clear hK K
      refine pure_ (i := 5) (N := some 3) (v := ?_) (a' := ?_) #[true, true, true, true, true, true, false] rfl rfl (by kernel_rfl) (fun _ _ _ h => h) (Or.inl ⟨by rfl, ?_⟩) ?_ ?_
      rotate_left
      ·intro w'
       go_simp
       with_reducible rfl
      rotate_left
      ·simp only [Act.put, List.setIfInBounds_toArray, List.set_cons_zero, List.set_cons_succ, i64_w, i32_w]
       rfl
      refine pure_ (i := 6) (N := some 4) (v := ?_) (a' := ?_) #[true, true, true, true, true, true, true] rfl rfl (by kernel_rfl) (fun _ _ _ h => h) (Or.inl ⟨by rfl, ?_⟩) ?_ ?_
      rotate_left
      ·intro w'
       go_simp
       with_reducible rfl
      rotate_left
      ·simp only [Act.put, List.setIfInBounds_toArray, List.set_cons_zero, List.set_cons_succ, i64_w, i32_w]
       rfl
      refine done_ (by kernel_rfl) ?_
      try go_wp2
      refine bodyPost_ret (results_ctt rfl _ _ gb812 38 #[.bool t813, .slice none 0 0, .slice Ao55 x824002_1.length co55, .int .i64 t820, .int .i64 t821, .int .i64 t822] (0, 0) _ rfl (by (with_reducible repeat (first | refine blk_drewN ?_ _ | refine blk_drew ?_ | refine blk_alloc ?_ _)); refine blk_put (cs := #[.bool t813, .slice none 0 0, .slice Ao55 x824002_1.length co55, .int .i64 t820, .int .i64 t821, .int .i64 0]) ?_ 5 _ rfl; (with_reducible repeat (first | refine blk_drewN ?_ _ | refine blk_drew ?_ | refine blk_alloc ?_ _)); refine blk_put (cs := #[.bool t813, .slice none 0 0, .slice Ao55 x824002_1.length co55, .int .i64 t820, .int .i64 0, .int .i64 0]) ?_ 4 _ rfl; (with_reducible repeat (first | refine blk_drewN ?_ _ | refine blk_drew ?_ | refine blk_alloc ?_ _)); refine blk_put (cs := #[.bool t813, .slice none 0 0, .slice Ao55 x824002_1.length co55, .int .i64 0, .int .i64 0, .int .i64 0]) ?_ 3 _ rfl; (with_reducible repeat (first | refine blk_drewN ?_ _ | refine blk_drew ?_ | refine blk_alloc ?_ _)); refine blk_put (cs := #[.bool t813, .slice none 0 0, .slice none 0 0, .int .i64 0, .int .i64 0, .int .i64 0]) ?_ 2 _ rfl; (with_reducible repeat (first | refine blk_drewN ?_ _ | refine blk_drew ?_ | refine blk_alloc ?_ _)); refine blk_put (cs := #[.bool t813, .slice none 0 0, .slice none 0 0, .int .i64 0, .int .i64 0, .int .i64 0]) ?_ 1 _ rfl; (with_reducible repeat (first | refine blk_drewN ?_ _ | refine blk_drew ?_ | refine blk_alloc ?_ _)); refine blk_put (cs := #[.bool false, .slice none 0 0, .slice none 0 0, .int .i64 0, .int .i64 0, .int .i64 0]) ?_ 0 _ rfl; exact pkK BK812.out) Try.underlying38 rfl (by kernel_rfl)) rfl ?_
      exact ⟨_, _, _, rfe, by first | exact Kd.R_nil _ _ _ _ _ | exact Kd.N_nil _ _ _ _ _ | exact Kd.V_nil _ _ _ _ _ | exact Kd.Q_nil _ _ _ _ _ | exact Kd.S_nil _ _ _ _ _, by (with_reducible repeat (first | apply Kd.R_alloc | apply Kd.R_drewN | apply Kd.R_drew)); exact Kd.R_mono (Kd.R_far (p := ⟨gb812, 5, none⟩) (Kd.R_far (p := ⟨gb812, 4, none⟩) (Kd.R_far (p := ⟨gb812, 3, none⟩) (Kd.R_far (p := ⟨gb812, 2, none⟩) (Kd.R_far (p := ⟨gb812, 1, none⟩) (Kd.R_far (p := ⟨gb812, 0, none⟩) (Kd.R_types HO_824002.out BK812.out (by decide)) (fun _ hk => hk.2) (.bool t813)) (fun _ hk => hk.2) (.slice none 0 0)) (fun _ hk => hk.2) (.slice Ao55 x824002_1.length co55)) (fun _ hk => hk.2) (.int .i64 t820)) (fun _ hk => hk.2) (.int .i64 t821)) (fun _ hk => hk.2) (.int .i64 t822)) (fun _ hk => trivial), by (with_reducible repeat (first | apply Kd.R_alloc | apply Kd.R_drewN | apply Kd.R_drew)); exact Kd.R_mono (Kd.R_far (p := ⟨gb812, 5, none⟩) (Kd.R_far (p := ⟨gb812, 4, none⟩) (Kd.R_far (p := ⟨gb812, 3, none⟩) (Kd.R_far (p := ⟨gb812, 2, none⟩) (Kd.R_far (p := ⟨gb812, 1, none⟩) (Kd.R_far (p := ⟨gb812, 0, none⟩) (Kd.R_types HO831.out BK812.out (by decide)) (fun _ hk => hk.2) (.bool t813)) (fun _ hk => hk.2) (.slice none 0 0)) (fun _ hk => hk.2) (.slice Ao55 x824002_1.length co55)) (fun _ hk => hk.2) (.int .i64 t820)) (fun _ hk => hk.2) (.int .i64 t821)) (fun _ hk => hk.2) (.int .i64 t822)) (fun _ hk => (by simp [Value.ownBlock])), pkW HB.out⟩
 ·replace c4 := Bool.eq_false_iff.mpr c4
  subst c4
  replace H : (some (t813, t814, t817, t820, t821, t822, ([] : List Int), 1)) = some (r1, r2, r3, r4, r5, r6, r7, r8) := by rw [if_neg (show ¬ (false = true) by decide)] at H; exact H
  simp only [Option.some.injEq, Prod.mk.injEq] at H
  obtain ⟨rfl, rfl, rfl, rfl, rfl, rfl, rfl, rfl⟩ := H
  go_enter Try.func33, Try.ntmps33
  go_wp2_with (first | ((with_reducible refine gate_dst (N := 1) rfl ?_); refine box_event ?hg (N := 1) ?hd (cs := #[.bool a0_0, .slice A0_1 l0_1.length c0_1, .slice A0_2 l0_2.length c0_2, .int .i64 a0_3, .int .i64 a0_4, .int .i64 a0_5]) (t := 38) ?hr ?_; (case hd => rfl); (case hg => rfl); (case hr => first | (go_simp; done) | (go_simp; rfl)); intro gb811 hg w60 hbox hb; have BK811 := am (hbox); have GW811 := am ((by rw [hg]; exact (below_size (pkB HB.out)) : w.heap.size ≤ gb811)); have GE811 := am ((by rw [hg]; exact (below_size (pkB HB.out)) : w.heap.size ≤ gb811)); replace HB := am (below_step (pkB HB.out) hb); clear hb hbox hg) | ((with_reducible refine gate_dst (N := 2) rfl ?_); refine box_event ?hg (N := 2) ?hd (cs := #[.bool false, .slice none 0 0, .slice none 0 0, .int .i64 0, .int .i64 0, .int .i64 0]) (t := 38) ?hr ?_; (case hd => rfl); (case hg => rfl); (case hr => first | (go_simp; done) | (go_simp; rfl)); intro gb812 hg w61 hbox hb; have BK812 := am (hbox); have GW812 := am ((by rw [hg]; exact (below_size (pkW HB.out)) : w.heap.size ≤ gb812)); have GE812 := am ((by rw [hg]; exact (below_size (pkW HB.out)) : w.heap.size ≤ gb812)); replace HB := am (below_step (pkW HB.out) hb); have NB811_812 := am ((by rw [hg]; exact Nat.ne_of_lt (blk_lt (g := gb811) (o := .cells #[.bool a0_0, .slice A0_1 l0_1.length c0_1, .slice A0_2 l0_2.length c0_2, .int .i64 a0_3, .int .i64 a0_4, .int .i64 a0_5] 38 (0, 0)) (pkK BK811.out)) : gb811 ≠ gb812)); have NB812_811 := am ((by rw [hg]; exact Nat.ne_of_gt (blk_lt (g := gb811) (o := .cells #[.bool a0_0, .slice A0_1 l0_1.length c0_1, .slice A0_2 l0_2.length c0_2, .int .i64 a0_3, .int .i64 a0_4, .int .i64 a0_5] 38 (0, 0)) (pkK BK811.out)) : gb812 ≠ gb811)); replace BK811 := am (blk_below (pkK BK811.out) hb); clear hb hbox hg; have hnb62 := NB811_812.out; have hnc62 := NB812_811.out; obtain ⟨hcz63_0, hcz63_1, hcz63_2, hcz63_3, hcz63_4, hcz63_5, hfz63_0, hfz63_1, hfz63_2, hfz63_3, hfz63_4, hfz63_5⟩ := bk6 BK811.out) | ((with_reducible refine gate_callee (f := 71) rfl ?_); refine goesL_ (some 9) rfl rfl Try.func71 (by kernel_rfl) rfl #[.agg #[.bool a0_0, .slice A0_1 l0_1.length c0_1, .slice A0_2 l0_2.length c0_2, .int .i64 a0_3, .int .i64 a0_4, .int .i64 a0_5]] rfl mpx ?_; (with_reducible refine (impl_copyNotify.calls a0_0 _ _ l0_1 _ _ l0_2 a0_3 a0_4 a0_5 t813 t814 t817 t820 t821 t822 _ ?side1 ?side2 ?side3 ?side4 A2.out).mono ?_); (case side1 => exact pkC (Kd.C_below HR0_1.out HB.out)); (case side2 => exact HC0_1.out); (case side3 => exact pkC (Kd.C_below HR0_2.out HB.out)); (case side4 => exact HC0_2.out); rintro e w64 ⟨v815, v818, rfl, ho0, ho1, hb⟩; refine ⟨_, rfl, ?_⟩; have HO816 := am (Kd.R_lower ho0 (below_size (pkW HB.out))); have HO819 := am (Kd.R_lower ho1 (below_size (pkW HB.out))); replace BK811 := am (blk_below (pkK BK811.out) hb); replace BK812 := am (blk_below (pkK BK812.out) hb); replace HB := am (below_step (pkW HB.out) hb); (try clear hb ho0 ho1)) | ((with_reducible refine gate_dst (N := 5) rfl ?_); refine box_event ?hg (N := 5) ?hd (cs := #[.bool false, .slice none 0 0, .slice none 0 0, .int .i64 0, .int .i64 0, .int .i64 0]) (t := 38) ?hr ?_; (case hd => rfl); (case hg => rfl); (case hr => first | (go_simp; done) | (go_simp; rfl)); intro gb823 hg w65 hbox hb; replace HO816 := am (Kd.R_below (pkR HO816.out) hb); replace HO819 := am (Kd.R_below (pkR HO819.out) hb); have BK823 := am (hbox); have GW823 := am ((by rw [hg]; exact (below_size (pkW HB.out)) : w.heap.size ≤ gb823)); have GE823 := am ((by rw [hg]; exact (below_size (pkW HB.out)) : w.heap.size ≤ gb823)); replace HB := am (below_step (pkW HB.out) hb); have NB811_823 := am ((by rw [hg]; exact Nat.ne_of_lt (blk_lt (g := gb811) (o := .cells #[.bool a0_0, .slice A0_1 l0_1.length c0_1, .slice A0_2 l0_2.length c0_2, .int .i64 a0_3, .int .i64 a0_4, .int .i64 a0_5] 38 (0, 0)) (pkK BK811.out)) : gb811 ≠ gb823)); have NB823_811 := am ((by rw [hg]; exact Nat.ne_of_gt (blk_lt (g := gb811) (o := .cells #[.bool a0_0, .slice A0_1 l0_1.length c0_1, .slice A0_2 l0_2.length c0_2, .int .i64 a0_3, .int .i64 a0_4, .int .i64 a0_5] 38 (0, 0)) (pkK BK811.out)) : gb823 ≠ gb811)); replace BK811 := am (blk_below (pkK BK811.out) hb); have NB812_823 := am ((by rw [hg]; exact Nat.ne_of_lt (blk_lt (g := gb812) (o := .cells #[.bool false, .slice none 0 0, .slice none 0 0, .int .i64 0, .int .i64 0, .int .i64 0] 38 (0, 0)) (pkK BK812.out)) : gb812 ≠ gb823)); have NB823_812 := am ((by rw [hg]; exact Nat.ne_of_gt (blk_lt (g := gb812) (o := .cells #[.bool false, .slice none 0 0, .slice none 0 0, .int .i64 0, .int .i64 0, .int .i64 0] 38 (0, 0)) (pkK BK812.out)) : gb823 ≠ gb812)); replace BK812 := am (blk_below (pkK BK812.out) hb); clear hb hbox hg; have hnb66 := NB823_811.out; have hnc66 := NB811_823.out; have hnb67 := NB823_812.out; have hnc67 := NB812_823.out; obtain ⟨hcz68_0, hcz68_1, hcz68_2, hcz68_3, hcz68_4, hcz68_5, hfz68_0, hfz68_1, hfz68_2, hfz68_3, hfz68_4, hfz68_5⟩ := bk6 BK823.out; obtain ⟨Ao69, co69, eo69⟩ := Kd.R_slice HO816.out; subst eo69; obtain ⟨Ao70, co70, eo70⟩ := Kd.R_slice HO819.out; subst eo70; obtain ⟨hcz71_0, hcz71_1, hcz71_2, hcz71_3, hcz71_4, hcz71_5, hfz71_0, hfz71_1, hfz71_2, hfz71_3, hfz71_4, hfz71_5⟩ := bk6 BK811.out) | ((with_reducible refine gate_callee (f := 22) rfl ?_); refine goesL_ (some 12) rfl rfl Try.func22 (by kernel_rfl) rfl #[.agg #[.bool a0_0, .slice A0_1 l0_1.length c0_1, .slice A0_2 l0_2.length c0_2, .int .i64 a0_3, .int .i64 a0_4, .int .i64 a0_5]] rfl mpx ?_; (with_reducible refine (impl_NotifyOk.calls k a0_0 _ _ l0_1 _ _ l0_2 a0_3 a0_4 a0_5 false _ ?side1 ?side2 ?side3 ?side4 A3.out).mono ?_); (case side1 => exact Kd.C_below HR0_1.out (pkW HB.out)); (case side2 => exact HC0_1.out); (case side3 => exact Kd.C_below HR0_2.out (pkW HB.out)); (case side4 => exact HC0_2.out); rintro e w72 ⟨rfl, hb⟩; refine ⟨_, rfl, ?_⟩; replace HO816 := am (Kd.R_below (by (with_reducible repeat (first | apply Kd.R_alloc | apply Kd.R_drewN | apply Kd.R_drew)); exact (Kd.R_mono (Kd.R_far (p := ⟨gb823, 5, none⟩) (Kd.R_far (p := ⟨gb823, 4, none⟩) (Kd.R_far (p := ⟨gb823, 3, none⟩) (Kd.R_far (p := ⟨gb823, 2, none⟩) (Kd.R_far (p := ⟨gb823, 1, none⟩) (Kd.R_far (p := ⟨gb823, 0, none⟩) (Kd.R_types HO816.out BK823.out (by decide)) (fun _ hk => hk.2) (.bool t813)) (fun _ hk => hk.2) (.slice Ao69 t814.length co69)) (fun _ hk => hk.2) (.slice Ao70 t817.length co70)) (fun _ hk => hk.2) (.int .i64 t820)) (fun _ hk => hk.2) (.int .i64 t821)) (fun _ hk => hk.2) (.int .i64 t822)) (fun _ h_ => h_.1))) hb); replace HO819 := am (Kd.R_below (by (with_reducible repeat (first | apply Kd.R_alloc | apply Kd.R_drewN | apply Kd.R_drew)); exact (Kd.R_mono (Kd.R_far (p := ⟨gb823, 5, none⟩) (Kd.R_far (p := ⟨gb823, 4, none⟩) (Kd.R_far (p := ⟨gb823, 3, none⟩) (Kd.R_far (p := ⟨gb823, 2, none⟩) (Kd.R_far (p := ⟨gb823, 1, none⟩) (Kd.R_far (p := ⟨gb823, 0, none⟩) (Kd.R_types HO819.out BK823.out (by decide)) (fun _ hk => hk.2) (.bool t813)) (fun _ hk => hk.2) (.slice Ao69 t814.length co69)) (fun _ hk => hk.2) (.slice Ao70 t817.length co70)) (fun _ hk => hk.2) (.int .i64 t820)) (fun _ hk => hk.2) (.int .i64 t821)) (fun _ hk => hk.2) (.int .i64 t822)) (fun _ h_ => h_.1))) hb); replace BK811 := am (blk_below (g := gb811) (o := .cells #[.bool a0_0, .slice A0_1 l0_1.length c0_1, .slice A0_2 l0_2.length c0_2, .int .i64 a0_3, .int .i64 a0_4, .int .i64 a0_5] 38 (0, 0)) (by (with_reducible repeat (first | refine blk_drewN ?_ _ | refine blk_drew ?_ | refine blk_alloc ?_ _)); refine blk_far ?_ NB811_823.out _; (with_reducible repeat (first | refine blk_drewN ?_ _ | refine blk_drew ?_ | refine blk_alloc ?_ _)); refine blk_far ?_ NB811_823.out _; (with_reducible repeat (first | refine blk_drewN ?_ _ | refine blk_drew ?_ | refine blk_alloc ?_ _)); refine blk_far ?_ NB811_823.out _; (with_reducible repeat (first | refine blk_drewN ?_ _ | refine blk_drew ?_ | refine blk_alloc ?_ _)); refine blk_far ?_ NB811_823.out _; (with_reducible repeat (first | refine blk_drewN ?_ _ | refine blk_drew ?_ | refine blk_alloc ?_ _)); refine blk_far ?_ NB811_823.out _; (with_reducible repeat (first | refine blk_drewN ?_ _ | refine blk_drew ?_ | refine blk_alloc ?_ _)); refine blk_far ?_ NB811_823.out _; exact pkK BK811.out) hb); replace BK812 := am (blk_below (g := gb812) (o := .cells #[.bool false, .slice none 0 0, .slice none 0 0, .int .i64 0, .int .i64 0, .int .i64 0] 38 (0, 0)) (by (with_reducible repeat (first | refine blk_drewN ?_ _ | refine blk_drew ?_ | refine blk_alloc ?_ _)); refine blk_far ?_ NB812_823.out _; (with_reducible repeat (first | refine blk_drewN ?_ _ | refine blk_drew ?_ | refine blk_alloc ?_ _)); refine blk_far ?_ NB812_823.out _; (with_reducible repeat (first | refine blk_drewN ?_ _ | refine blk_drew ?_ | refine blk_alloc ?_ _)); refine blk_far ?_ NB812_823.out _; (with_reducible repeat (first | refine blk_drewN ?_ _ | refine blk_drew ?_ | refine blk_alloc ?_ _)); refine blk_far ?_ NB812_823.out _; (with_reducible repeat (first | refine blk_drewN ?_ _ | refine blk_drew ?_ | refine blk_alloc ?_ _)); refine blk_far ?_ NB812_823.out _; (with_reducible repeat (first | refine blk_drewN ?_ _ | refine blk_drew ?_ | refine blk_alloc ?_ _)); refine blk_far ?_ NB812_823.out _; exact pkK BK812.out) hb); replace BK823 := am (blk_below (g := gb823) (o := .cells #[.bool t813, .slice Ao69 t814.length co69, .slice Ao70 t817.length co70, .int .i64 t820, .int .i64 t821, .int .i64 t822] 38 (0, 0)) (by (with_reducible repeat (first | refine blk_drewN ?_ _ | refine blk_drew ?_ | refine blk_alloc ?_ _)); refine blk_put (cs := #[.bool t813, .slice Ao69 t814.length co69, .slice Ao70 t817.length co70, .int .i64 t820, .int .i64 t821, .int .i64 0]) ?_ 5 _ rfl; (with_reducible repeat (first | refine blk_drewN ?_ _ | refine blk_drew ?_ | refine blk_alloc ?_ _)); refine blk_put (cs := #[.bool t813, .slice Ao69 t814.length co69, .slice Ao70 t817.length co70, .int .i64 t820, .int .i64 0, .int .i64 0]) ?_ 4 _ rfl; (with_reducible repeat (first | refine blk_drewN ?_ _ | refine blk_drew ?_ | refine blk_alloc ?_ _)); refine blk_put (cs := #[.bool t813, .slice Ao69 t814.length co69, .slice Ao70 t817.length co70, .int .i64 0, .int .i64 0, .int .i64 0]) ?_ 3 _ rfl; (with_reducible repeat (first | refine blk_drewN ?_ _ | refine blk_drew ?_ | refine blk_alloc ?_ _)); refine blk_put (cs := #[.bool t813, .slice Ao69 t814.length co69, .slice none 0 0, .int .i64 0, .int .i64 0, .int .i64 0]) ?_ 2 _ rfl; (with_reducible repeat (first | refine blk_drewN ?_ _ | refine blk_drew ?_ | refine blk_alloc ?_ _)); refine blk_put (cs := #[.bool t813, .slice none 0 0, .slice none 0 0, .int .i64 0, .int .i64 0, .int .i64 0]) ?_ 1 _ rfl; (with_reducible repeat (first | refine blk_drewN ?_ _ | refine blk_drew ?_ | refine blk_alloc ?_ _)); refine blk_put (cs := #[.bool false, .slice none 0 0, .slice none 0 0, .int .i64 0, .int .i64 0, .int .i64 0]) ?_ 0 _ rfl; exact pkK BK823.out) hb); replace HB := am (below_step (pkW HB.out) hb); (try clear hb); obtain ⟨hcz73_0, hcz73_1, hcz73_2, hcz73_3, hcz73_4, hcz73_5, hfz73_0, hfz73_1, hfz73_2, hfz73_3, hfz73_4, hfz73_5⟩ := bk6 BK823.out; obtain ⟨hcz74_0, hcz74_1, hcz74_2, hcz74_3, hcz74_4, hcz74_5, hfz74_0, hfz74_1, hfz74_2, hfz74_3, hfz74_4, hfz74_5⟩ := bk6 BK812.out))
  refine bodyPost_ret (results_ctt rfl _ _ gb812 38 #[.bool t813, .slice Ao69 t814.length co69, .slice Ao70 t817.length co70, .int .i64 t820, .int .i64 t821, .int .i64 t822] (0, 0) _ rfl (by (with_reducible repeat (first | refine blk_drewN ?_ _ | refine blk_drew ?_ | refine blk_alloc ?_ _)); refine blk_put (cs := #[.bool t813, .slice Ao69 t814.length co69, .slice Ao70 t817.length co70, .int .i64 t820, .int .i64 t821, .int .i64 0]) ?_ 5 _ rfl; (with_reducible repeat (first | refine blk_drewN ?_ _ | refine blk_drew ?_ | refine blk_alloc ?_ _)); refine blk_put (cs := #[.bool t813, .slice Ao69 t814.length co69, .slice Ao70 t817.length co70, .int .i64 t820, .int .i64 0, .int .i64 0]) ?_ 4 _ rfl; (with_reducible repeat (first | refine blk_drewN ?_ _ | refine blk_drew ?_ | refine blk_alloc ?_ _)); refine blk_put (cs := #[.bool t813, .slice Ao69 t814.length co69, .slice Ao70 t817.length co70, .int .i64 0, .int .i64 0, .int .i64 0]) ?_ 3 _ rfl; (with_reducible repeat (first | refine blk_drewN ?_ _ | refine blk_drew ?_ | refine blk_alloc ?_ _)); refine blk_put (cs := #[.bool t813, .slice Ao69 t814.length co69, .slice none 0 0, .int .i64 0, .int .i64 0, .int .i64 0]) ?_ 2 _ rfl; (with_reducible repeat (first | refine blk_drewN ?_ _ | refine blk_drew ?_ | refine blk_alloc ?_ _)); refine blk_put (cs := #[.bool t813, .slice none 0 0, .slice none 0 0, .int .i64 0, .int .i64 0, .int .i64 0]) ?_ 1 _ rfl; (with_reducible repeat (first | refine blk_drewN ?_ _ | refine blk_drew ?_ | refine blk_alloc ?_ _)); refine blk_put (cs := #[.bool false, .slice none 0 0, .slice none 0 0, .int .i64 0, .int .i64 0, .int .i64 0]) ?_ 0 _ rfl; exact pkK BK812.out) Try.underlying38 rfl (by kernel_rfl)) rfl ?_
  exact ⟨_, _, _, rfe, by (with_reducible repeat (first | apply Kd.R_alloc | apply Kd.R_drewN | apply Kd.R_drew)); exact Kd.R_mono (Kd.R_far (p := ⟨gb812, 5, none⟩) (Kd.R_far (p := ⟨gb812, 4, none⟩) (Kd.R_far (p := ⟨gb812, 3, none⟩) (Kd.R_far (p := ⟨gb812, 2, none⟩) (Kd.R_far (p := ⟨gb812, 1, none⟩) (Kd.R_far (p := ⟨gb812, 0, none⟩) (Kd.R_types HO816.out BK812.out (by decide)) (fun _ hk => hk.2) (.bool t813)) (fun _ hk => hk.2) (.slice Ao69 t814.length co69)) (fun _ hk => hk.2) (.slice Ao70 t817.length co70)) (fun _ hk => hk.2) (.int .i64 t820)) (fun _ hk => hk.2) (.int .i64 t821)) (fun _ hk => hk.2) (.int .i64 t822)) (fun _ hk => (by simp [Value.ownBlock])), by (with_reducible repeat (first | apply Kd.R_alloc | apply Kd.R_drewN | apply Kd.R_drew)); exact Kd.R_mono (Kd.R_far (p := ⟨gb812, 5, none⟩) (Kd.R_far (p := ⟨gb812, 4, none⟩) (Kd.R_far (p := ⟨gb812, 3, none⟩) (Kd.R_far (p := ⟨gb812, 2, none⟩) (Kd.R_far (p := ⟨gb812, 1, none⟩) (Kd.R_far (p := ⟨gb812, 0, none⟩) (Kd.R_types HO819.out BK812.out (by decide)) (fun _ hk => hk.2) (.bool t813)) (fun _ hk => hk.2) (.slice Ao69 t814.length co69)) (fun _ hk => hk.2) (.slice Ao70 t817.length co70)) (fun _ hk => hk.2) (.int .i64 t820)) (fun _ hk => hk.2) (.int .i64 t821)) (fun _ hk => hk.2) (.int .i64 t822)) (fun _ hk => trivial), by first | exact Kd.R_nil _ _ _ _ _ | exact Kd.N_nil _ _ _ _ _ | exact Kd.V_nil _ _ _ _ _ | exact Kd.Q_nil _ _ _ _ _ | exact Kd.S_nil _ _ _ _ _, pkW HB.out⟩
end Go.Proofs.Ytdagpmnadapbjaa.Z
