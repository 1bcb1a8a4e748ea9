/- The Go functions spec_TellAll as Lean functions, each with a proof that its code comes to just these answers; conditions: those of each theorem. -/
import Derived.Test.YtdagpmnadapbjaaZx0
import Derived.Test.YtdagpmnadapbjaaZx15
import Derived.Test.YtdagpmnadapbjaaZx20
import Derived.Test.YtdagpmnadapbjaaZx32
namespace Go.Proofs.Ytdagpmnadapbjaa.Z
open Go.RowKit Go.Proofs.YtdagpmnadapbjaaW.PrintWords Go.Proofs.YtdagpmnadapbjaaW.PrintLast Go.Proofs.YtdagpmnadapbjaaW.PrintMore
attribute [local go_sem] max2_int min2_int max_two min_two max_three min_three max_four min_four   -- for this text's walks alone
set_option linter.unusedVariables false
set_option linter.unusedSimpArgs false
def spec_TellAll.l0 : Nat → Int → Bool → List Int → List (S67) → Int → Int → Int → Bool → List Int → List (S67) → Int → Int → Int → Option (Bool × List Int × (List (S67)) × Int × Int × Int × List Int × Int)
 | 0, _, _, _, _, _, _, _, _, _, _, _, _, _ => none
 | k + 1, x6, x777000, x777001, x777002, x777003, x777004, x777005, x789000, x789001, x789002, x789003, x789004, x789005 => if x6 < (x777001.length : Int) then (if 0 ≤ x6 then (if x789002.length < 8796093022208 then (spec_TellAll.l0 k (wrap64 (x6 + 1)) x777000 x777001 x777002 x777003 x777004 x777005 x789000 x789001 (x789002 ++ [(⟨rd x777001 x6, false⟩ : S67)]) x789003 x789004 x789005) else (none)) else (none)) else ((spec_l2Copy.f x777001).bind fun t794 => (some (x789000, ([] : List Int), x789002, x789003, x789004, x789005, t794, 0)))
def spec_TellAll.f (k : Nat) (a0_0 : Bool) (l0_1 : List Int) (l0_2 : List (S67)) (a0_3 : Int) (a0_4 : Int) (a0_5 : Int) : Option (Bool × List Int × (List (S67)) × Int × Int × Int × List Int × Int) := (spec_l5Copy.f a0_0 l0_1 l0_2 a0_3 a0_4 a0_5).bind fun bt778 => ((spec_NotifyOk.f k a0_0 l0_1 l0_2 a0_3 a0_4 a0_5).bind fun t789 => (if t789 = true then (if (wrap64 ((l0_1.length : Int) + (l0_2.length : Int))) > 32 then (some (bt778.1, bt778.2.1, bt778.2.2.1, bt778.2.2.2.1, bt778.2.2.2.2.1, bt778.2.2.2.2.2, ([] : List Int), 2)) else (spec_TellAll.l0 k 0 a0_0 l0_1 l0_2 a0_3 a0_4 a0_5 bt778.1 bt778.2.1 bt778.2.2.1 bt778.2.2.2.1 bt778.2.2.2.2.1 bt778.2.2.2.2.2)) else (some (bt778.1, bt778.2.1, bt778.2.2.1, bt778.2.2.2.1, bt778.2.2.2.2.1, bt778.2.2.2.2.2, ([] : List Int), 1))))
theorem spec_TellAll.mono_l : ∀ k, (∀ y0 y1 y2 y3 y4 y5 y6 y7 y8 y9 y10 y11 y12, LeO (spec_TellAll.l0 k y0 y1 y2 y3 y4 y5 y6 y7 y8 y9 y10 y11 y12) (spec_TellAll.l0 (k + 1) y0 y1 y2 y3 y4 y5 y6 y7 y8 y9 y10 y11 y12))
 | 0 => fun _ _ _ _ _ _ _ _ _ _ _ _ _ r h => by simp [spec_TellAll.l0] at h
 | k + 1 => by
  have ih0 := spec_TellAll.mono_l k
  ·intro y0 y1 y2 y3 y4 y5 y6 y7 y8 y9 y10 y11 y12
   unfold spec_TellAll.l0
   repeat' first
   | (with_reducible exact ih0 _ _ _ _ _ _ _ _ _ _ _ _ _)
   | (with_reducible exact spec_NotifyOk.mono _ _ _ _ _ _ _)
   | (with_reducible exact LeO.refl _)
   | (with_reducible exact LeO.none _)
   | (with_reducible refine LeO.ite ?_ ?_)
   | (with_reducible refine LeO.bind ?_ (fun _ => ?_))
theorem spec_TellAll.mono : ∀ a0 a1 a2 a3 a4 a5 k, LeO (spec_TellAll.f k a0 a1 a2 a3 a4 a5) (spec_TellAll.f (k + 1) a0 a1 a2 a3 a4 a5) := by
 intro a0 a1 a2 a3 a4 a5 k
 have ih0 := spec_TellAll.mono_l k
 unfold spec_TellAll.f
 repeat' first
   | (with_reducible exact ih0 _ _ _ _ _ _ _ _ _ _ _ _ _)
   | (with_reducible exact spec_NotifyOk.mono _ _ _ _ _ _ _)
   | (with_reducible exact LeO.refl _)
   | (with_reducible exact LeO.none _)
   | (with_reducible refine LeO.ite ?_ ?_)
   | (with_reducible refine LeO.bind ?_ (fun _ => ?_))
def spec_TellAll.T9 : Bool × List (List Nat × List Nat) := (true, [([], []), ([0], [0]), ([], []), ([2], [2]), ([], []), ([3, 4], [3, 4]), ([5], [5]), ([6], [6]), ([7], [7]), ([1, 8], [1, 8]), ([0, 1, 2, 3, 4, 5, 6, 7, 8, 9], []), ([10, 9, 9, 0, 1, 2, 3, 4, 5, 6, 7, 8, 9], [9, 10])])
def spec_TellAll.B9 : List Nat := [0, 1, 0, 4, 0, 28, 60, 124, 252, 511, 1023, 2047]
theorem spec_TellAll.tab9 : rtab .any (opsOf Try.f32 9) = spec_TellAll.T9 := by kernel_rfl
theorem spec_TellAll.bits9 : waitsOk spec_TellAll.T9.2 spec_TellAll.B9 = true := by kernel_rfl
set_option maxHeartbeats 8000000 in
set_option maxRecDepth 100000 in
theorem spec_TellAll.calls (k : Nat) (a0_0 : Bool) (A0_1 : Option Addr) (c0_1 : Nat) (l0_1 : List Int) (A0_2 : Option Addr) (c0_2 : Nat) (l0_2 : List (S67)) (a0_3 : Int) (a0_4 : Int) (a0_5 : Int) (r1 : Bool) (r2 : List Int) (r3 : List (S67)) (r4 : Int) (r5 : Int) (r6 : Int) (r7 : List Int) (r8 : Int) (w : World) (hr0_1 : Kd.C (Kd.int .i64) w A0_1 l0_1.length l0_1) (hc0_1 : l0_1.length ≤ c0_1) (hr0_2 : Kd.C k67 w A0_2 l0_2.length l0_2) (hc0_2 : l0_2.length ≤ c0_2) (h : spec_TellAll.f k a0_0 l0_1 l0_2 a0_3 a0_4 a0_5 = some (r1, r2, r3, r4, r5, r6, r7, r8)) :
  Calls Try.prog 32 #[.agg #[.bool a0_0, .slice A0_1 l0_1.length c0_1, .slice A0_2 l0_2.length c0_2, .int .i64 a0_3, .int .i64 a0_4, .int .i64 a0_5]] w fun e w' => ∃ v1_ v2_ v6_ : Value, e = .returned (.tuple #[.agg #[.bool r1, v1_, v2_, .int .i64 r4, .int .i64 r5, .int .i64 r6], v6_, .int .i64 r8]) ∧ Kd.R (Kd.int .i64) 3 w' w.heap.size (fun k_ => some k_ ≠ (v6_ : Value).ownBlock) v1_ r2 ∧ Kd.R k67 67 w' w.heap.size (fun _ => True) v2_ r3 ∧ Kd.R (Kd.int .i64) 3 w' w.heap.size (fun k_ => some k_ ≠ (v1_ : Value).ownBlock) v6_ r7 ∧ Below w.heap.size w w' := by
 have hu38 := Try.underlying38
 have hu67 := Try.underlying67
 have HR0_1 := am hr0_1
 have HC0_1 := am hc0_1
 clear hr0_1 hc0_1
 have HR0_2 := am hr0_2
 have HC0_2 := am hc0_2
 clear hr0_2 hc0_2
 have HB := am (Below.refl w.heap.size w)
 have H : ((spec_l5Copy.f a0_0 l0_1 l0_2 a0_3 a0_4 a0_5).bind fun bt778 => ((spec_NotifyOk.f k a0_0 l0_1 l0_2 a0_3 a0_4 a0_5).bind fun t789 => (if t789 = true then (if (wrap64 ((l0_1.length : Int) + (l0_2.length : Int))) > 32 then (some (bt778.1, bt778.2.1, bt778.2.2.1, bt778.2.2.2.1, bt778.2.2.2.2.1, bt778.2.2.2.2.2, ([] : List Int), 2)) else (spec_TellAll.l0 k 0 a0_0 l0_1 l0_2 a0_3 a0_4 a0_5 bt778.1 bt778.2.1 bt778.2.2.1 bt778.2.2.2.1 bt778.2.2.2.2.1 bt778.2.2.2.2.2)) else (some (bt778.1, bt778.2.1, bt778.2.2.1, bt778.2.2.2.1, bt778.2.2.2.2.1, bt778.2.2.2.2.2, ([] : List Int), 1))))) = some (r1, r2, r3, r4, r5, r6, r7, r8) := h
 clear h
 replace H := Option.bind_eq_some_iff.mp H
 obtain ⟨⟨t778, t779, t782, t785, t786, t787⟩, A20, H⟩ := H
 replace H : ((spec_NotifyOk.f k a0_0 l0_1 l0_2 a0_3 a0_4 a0_5).bind fun t789 => (if t789 = true then (if (wrap64 ((l0_1.length : Int) + (l0_2.length : Int))) > 32 then (some (t778, t779, t782, t785, t786, t787, ([] : List Int), 2)) else (spec_TellAll.l0 k 0 a0_0 l0_1 l0_2 a0_3 a0_4 a0_5 t778 t779 t782 t785 t786 t787)) else (some (t778, t779, t782, t785, t786, t787, ([] : List Int), 1)))) = some (r1, r2, r3, r4, r5, r6, r7, r8) := H
 have A2 := am A20
 clear A20
 replace H := Option.bind_eq_some_iff.mp H
 obtain ⟨t789, A30, H⟩ := H
 replace H : (if t789 = true then (if (wrap64 ((l0_1.length : Int) + (l0_2.length : Int))) > 32 then (some (t778, t779, t782, t785, t786, t787, ([] : List Int), 2)) else (spec_TellAll.l0 k 0 a0_0 l0_1 l0_2 a0_3 a0_4 a0_5 t778 t779 t782 t785 t786 t787)) else (some (t778, t779, t782, t785, t786, t787, ([] : List Int), 1))) = some (r1, r2, r3, r4, r5, r6, r7, r8) := H
 have A3 := am A30
 clear A30
 by_cases c4 : t789 = true
 ·subst c4
  replace H : (if (wrap64 ((l0_1.length : Int) + (l0_2.length : Int))) > 32 then (some (t778, t779, t782, t785, t786, t787, ([] : List Int), 2)) else (spec_TellAll.l0 k 0 a0_0 l0_1 l0_2 a0_3 a0_4 a0_5 t778 t779 t782 t785 t786 t787)) = some (r1, r2, r3, r4, r5, r6, r7, r8) := by rw [if_pos rfl] at H; exact H
  by_cases c5 : (wrap64 ((l0_1.length : Int) + (l0_2.length : Int))) > 32
  ·rw [if_pos c5] at H
   have c5b0 : decide (32 < (wrap64 ((l0_1.length : Int) + (l0_2.length : Int)))) = true := decide_eq_true c5
   clear c5
   simp only [Option.some.injEq, Prod.mk.injEq] at H
   obtain ⟨rfl, rfl, rfl, rfl, rfl, rfl, rfl, rfl⟩ := H
   go_enter Try.func32, Try.ntmps32
   go_wp2_with (first | ((with_reducible refine gate_dst (N := 1) rfl ?_); refine box_event ?hg (N := 1) ?hd (cs := #[.bool a0_0, .slice A0_1 l0_1.length c0_1, .slice A0_2 l0_2.length c0_2, .int .i64 a0_3, .int .i64 a0_4, .int .i64 a0_5]) (t := 38) ?hr ?_; (case hd => rfl); (case hg => rfl); (case hr => first | (go_simp; done) | (go_simp; rfl)); intro gb776 hg w6 hbox hb; have BK776 := am (hbox); have GW776 := am ((by rw [hg]; exact (below_size (pkB HB.out)) : w.heap.size ≤ gb776)); have GE776 := am ((by rw [hg]; exact (below_size (pkB HB.out)) : w.heap.size ≤ gb776)); replace HB := am (below_step (pkB HB.out) hb); clear hb hbox hg) | ((with_reducible refine gate_dst (N := 2) rfl ?_); refine box_event ?hg (N := 2) ?hd (cs := #[.bool false, .slice none 0 0, .slice none 0 0, .int .i64 0, .int .i64 0, .int .i64 0]) (t := 38) ?hr ?_; (case hd => rfl); (case hg => rfl); (case hr => first | (go_simp; done) | (go_simp; rfl)); intro gb777 hg w7 hbox hb; have BK777 := am (hbox); have GW777 := am ((by rw [hg]; exact (below_size (pkW HB.out)) : w.heap.size ≤ gb777)); have GE777 := am ((by rw [hg]; exact (below_size (pkW HB.out)) : w.heap.size ≤ gb777)); replace HB := am (below_step (pkW HB.out) hb); have NB776_777 := am ((by rw [hg]; exact Nat.ne_of_lt (blk_lt (g := gb776) (o := .cells #[.bool a0_0, .slice A0_1 l0_1.length c0_1, .slice A0_2 l0_2.length c0_2, .int .i64 a0_3, .int .i64 a0_4, .int .i64 a0_5] 38 (0, 0)) (pkK BK776.out)) : gb776 ≠ gb777)); have NB777_776 := am ((by rw [hg]; exact Nat.ne_of_gt (blk_lt (g := gb776) (o := .cells #[.bool a0_0, .slice A0_1 l0_1.length c0_1, .slice A0_2 l0_2.length c0_2, .int .i64 a0_3, .int .i64 a0_4, .int .i64 a0_5] 38 (0, 0)) (pkK BK776.out)) : gb777 ≠ gb776)); replace BK776 := am (blk_below (pkK BK776.out) hb); clear hb hbox hg; have hnb8 := NB776_777.out; have hnc8 := NB777_776.out; obtain ⟨hcz9_0, hcz9_1, hcz9_2, hcz9_3, hcz9_4, hcz9_5, hfz9_0, hfz9_1, hfz9_2, hfz9_3, hfz9_4, hfz9_5⟩ := bk6 BK776.out) | ((with_reducible refine gate_callee (f := 69) rfl ?_); refine goesL_ (some 8) rfl rfl Try.func69 (by kernel_rfl) rfl #[.agg #[.bool a0_0, .slice A0_1 l0_1.length c0_1, .slice A0_2 l0_2.length c0_2, .int .i64 a0_3, .int .i64 a0_4, .int .i64 a0_5]] rfl mpx ?_; (with_reducible refine (spec_l5Copy.calls a0_0 _ _ l0_1 _ _ l0_2 a0_3 a0_4 a0_5 t778 t779 t782 t785 t786 t787 _ ?side1 ?side2 ?side3 ?side4 A2.out).mono ?_); (case side1 => exact pkC (Kd.C_below HR0_1.out HB.out)); (case side2 => exact HC0_1.out); (case side3 => exact pkC (Kd.C_below HR0_2.out HB.out)); (case side4 => exact HC0_2.out); rintro e w10 ⟨v780, v783, rfl, ho0, ho1, hb⟩; refine ⟨_, rfl, ?_⟩; have HO781 := am (Kd.R_lower ho0 (below_size (pkW HB.out))); have HO784 := am (Kd.R_lower ho1 (below_size (pkW HB.out))); replace BK776 := am (blk_below (pkK BK776.out) hb); replace BK777 := am (blk_below (pkK BK777.out) hb); replace HB := am (below_step (pkW HB.out) hb); (try clear hb ho0 ho1)) | ((with_reducible refine gate_dst (N := 5) rfl ?_); refine box_event ?hg (N := 5) ?hd (cs := #[.bool false, .slice none 0 0, .slice none 0 0, .int .i64 0, .int .i64 0, .int .i64 0]) (t := 38) ?hr ?_; (case hd => rfl); (case hg => rfl); (case hr => first | (go_simp; done) | (go_simp; rfl)); intro gb788 hg w11 hbox hb; replace HO781 := am (Kd.R_below (pkR HO781.out) hb); replace HO784 := am (Kd.R_below (pkR HO784.out) hb); have BK788 := am (hbox); have GW788 := am ((by rw [hg]; exact (below_size (pkW HB.out)) : w.heap.size ≤ gb788)); have GE788 := am ((by rw [hg]; exact (below_size (pkW HB.out)) : w.heap.size ≤ gb788)); replace HB := am (below_step (pkW HB.out) hb); have NB776_788 := am ((by rw [hg]; exact Nat.ne_of_lt (blk_lt (g := gb776) (o := .cells #[.bool a0_0, .slice A0_1 l0_1.length c0_1, .slice A0_2 l0_2.length c0_2, .int .i64 a0_3, .int .i64 a0_4, .int .i64 a0_5] 38 (0, 0)) (pkK BK776.out)) : gb776 ≠ gb788)); have NB788_776 := am ((by rw [hg]; exact Nat.ne_of_gt (blk_lt (g := gb776) (o := .cells #[.bool a0_0, .slice A0_1 l0_1.length c0_1, .slice A0_2 l0_2.length c0_2, .int .i64 a0_3, .int .i64 a0_4, .int .i64 a0_5] 38 (0, 0)) (pkK BK776.out)) : gb788 ≠ gb776)); replace BK776 := am (blk_below (pkK BK776.out) hb); have NB777_788 := am ((by rw [hg]; exact Nat.ne_of_lt (blk_lt (g := gb777) (o := .cells #[.bool false, .slice none 0 0, .slice none 0 0, .int .i64 0, .int .i64 0, .int .i64 0] 38 (0, 0)) (pkK BK777.out)) : gb777 ≠ gb788)); have NB788_777 := am ((by rw [hg]; exact Nat.ne_of_gt (blk_lt (g := gb777) (o := .cells #[.bool false, .slice none 0 0, .slice none 0 0, .int .i64 0, .int .i64 0, .int .i64 0] 38 (0, 0)) (pkK BK777.out)) : gb788 ≠ gb777)); replace BK777 := am (blk_below (pkK BK777.out) hb); clear hb hbox hg; have hnb12 := NB788_776.out; have hnc12 := NB776_788.out; have hnb13 := NB788_777.out; have hnc13 := NB777_788.out; obtain ⟨hcz14_0, hcz14_1, hcz14_2, hcz14_3, hcz14_4, hcz14_5, hfz14_0, hfz14_1, hfz14_2, hfz14_3, hfz14_4, hfz14_5⟩ := bk6 BK788.out; obtain ⟨Ao15, co15, eo15⟩ := Kd.R_slice HO781.out; subst eo15; obtain ⟨Ao16, co16, eo16⟩ := Kd.R_slice HO784.out; subst eo16; obtain ⟨hcz17_0, hcz17_1, hcz17_2, hcz17_3, hcz17_4, hcz17_5, hfz17_0, hfz17_1, hfz17_2, hfz17_3, hfz17_4, hfz17_5⟩ := bk6 BK776.out) | ((with_reducible refine gate_callee (f := 20) rfl ?_); refine goesL_ (some 11) rfl rfl Try.func20 (by kernel_rfl) rfl #[.agg #[.bool a0_0, .slice A0_1 l0_1.length c0_1, .slice A0_2 l0_2.length c0_2, .int .i64 a0_3, .int .i64 a0_4, .int .i64 a0_5]] rfl mpx ?_; (with_reducible refine (spec_NotifyOk.calls k a0_0 _ _ l0_1 _ _ l0_2 a0_3 a0_4 a0_5 true _ ?side1 ?side2 ?side3 ?side4 A3.out).mono ?_); (case side1 => exact Kd.C_below HR0_1.out (pkW HB.out)); (case side2 => exact HC0_1.out); (case side3 => exact Kd.C_below HR0_2.out (pkW HB.out)); (case side4 => exact HC0_2.out); rintro e w18 ⟨rfl, hb⟩; refine ⟨_, rfl, ?_⟩; replace HO781 := am (Kd.R_below (by (with_reducible repeat (first | apply Kd.R_alloc | apply Kd.R_drewN | apply Kd.R_drew)); exact (Kd.R_mono (Kd.R_far (p := ⟨gb788, 5, none⟩) (Kd.R_far (p := ⟨gb788, 4, none⟩) (Kd.R_far (p := ⟨gb788, 3, none⟩) (Kd.R_far (p := ⟨gb788, 2, none⟩) (Kd.R_far (p := ⟨gb788, 1, none⟩) (Kd.R_far (p := ⟨gb788, 0, none⟩) (Kd.R_types HO781.out BK788.out (by decide)) (fun _ hk => hk.2) (.bool t778)) (fun _ hk => hk.2) (.slice Ao15 t779.length co15)) (fun _ hk => hk.2) (.slice Ao16 t782.length co16)) (fun _ hk => hk.2) (.int .i64 t785)) (fun _ hk => hk.2) (.int .i64 t786)) (fun _ hk => hk.2) (.int .i64 t787)) (fun _ h_ => h_.1))) hb); replace HO784 := am (Kd.R_below (by (with_reducible repeat (first | apply Kd.R_alloc | apply Kd.R_drewN | apply Kd.R_drew)); exact (Kd.R_mono (Kd.R_far (p := ⟨gb788, 5, none⟩) (Kd.R_far (p := ⟨gb788, 4, none⟩) (Kd.R_far (p := ⟨gb788, 3, none⟩) (Kd.R_far (p := ⟨gb788, 2, none⟩) (Kd.R_far (p := ⟨gb788, 1, none⟩) (Kd.R_far (p := ⟨gb788, 0, none⟩) (Kd.R_types HO784.out BK788.out (by decide)) (fun _ hk => hk.2) (.bool t778)) (fun _ hk => hk.2) (.slice Ao15 t779.length co15)) (fun _ hk => hk.2) (.slice Ao16 t782.length co16)) (fun _ hk => hk.2) (.int .i64 t785)) (fun _ hk => hk.2) (.int .i64 t786)) (fun _ hk => hk.2) (.int .i64 t787)) (fun _ h_ => h_.1))) hb); replace BK776 := am (blk_below (g := gb776) (o := .cells #[.bool a0_0, .slice A0_1 l0_1.length c0_1, .slice A0_2 l0_2.length c0_2, .int .i64 a0_3, .int .i64 a0_4, .int .i64 a0_5] 38 (0, 0)) (by (with_reducible repeat (first | refine blk_drewN ?_ _ | refine blk_drew ?_ | refine blk_alloc ?_ _)); refine blk_far ?_ NB776_788.out _; (with_reducible repeat (first | refine blk_drewN ?_ _ | refine blk_drew ?_ | refine blk_alloc ?_ _)); refine blk_far ?_ NB776_788.out _; (with_reducible repeat (first | refine blk_drewN ?_ _ | refine blk_drew ?_ | refine blk_alloc ?_ _)); refine blk_far ?_ NB776_788.out _; (with_reducible repeat (first | refine blk_drewN ?_ _ | refine blk_drew ?_ | refine blk_alloc ?_ _)); refine blk_far ?_ NB776_788.out _; (with_reducible repeat (first | refine blk_drewN ?_ _ | refine blk_drew ?_ | refine blk_alloc ?_ _)); refine blk_far ?_ NB776_788.out _; (with_reducible repeat (first | refine blk_drewN ?_ _ | refine blk_drew ?_ | refine blk_alloc ?_ _)); refine blk_far ?_ NB776_788.out _; exact pkK BK776.out) hb); replace BK777 := am (blk_below (g := gb777) (o := .cells #[.bool false, .slice none 0 0, .slice none 0 0, .int .i64 0, .int .i64 0, .int .i64 0] 38 (0, 0)) (by (with_reducible repeat (first | refine blk_drewN ?_ _ | refine blk_drew ?_ | refine blk_alloc ?_ _)); refine blk_far ?_ NB777_788.out _; (with_reducible repeat (first | refine blk_drewN ?_ _ | refine blk_drew ?_ | refine blk_alloc ?_ _)); refine blk_far ?_ NB777_788.out _; (with_reducible repeat (first | refine blk_drewN ?_ _ | refine blk_drew ?_ | refine blk_alloc ?_ _)); refine blk_far ?_ NB777_788.out _; (with_reducible repeat (first | refine blk_drewN ?_ _ | refine blk_drew ?_ | refine blk_alloc ?_ _)); refine blk_far ?_ NB777_788.out _; (with_reducible repeat (first | refine blk_drewN ?_ _ | refine blk_drew ?_ | refine blk_alloc ?_ _)); refine blk_far ?_ NB777_788.out _; (with_reducible repeat (first | refine blk_drewN ?_ _ | refine blk_drew ?_ | refine blk_alloc ?_ _)); refine blk_far ?_ NB777_788.out _; exact pkK BK777.out) hb); replace BK788 := am (blk_below (g := gb788) (o := .cells #[.bool t778, .slice Ao15 t779.length co15, .slice Ao16 t782.length co16, .int .i64 t785, .int .i64 t786, .int .i64 t787] 38 (0, 0)) (by (with_reducible repeat (first | refine blk_drewN ?_ _ | refine blk_drew ?_ | refine blk_alloc ?_ _)); refine blk_put (cs := #[.bool t778, .slice Ao15 t779.length co15, .slice Ao16 t782.length co16, .int .i64 t785, .int .i64 t786, .int .i64 0]) ?_ 5 _ rfl; (with_reducible repeat (first | refine blk_drewN ?_ _ | refine blk_drew ?_ | refine blk_alloc ?_ _)); refine blk_put (cs := #[.bool t778, .slice Ao15 t779.length co15, .slice Ao16 t782.length co16, .int .i64 t785, .int .i64 0, .int .i64 0]) ?_ 4 _ rfl; (with_reducible repeat (first | refine blk_drewN ?_ _ | refine blk_drew ?_ | refine blk_alloc ?_ _)); refine blk_put (cs := #[.bool t778, .slice Ao15 t779.length co15, .slice Ao16 t782.length co16, .int .i64 0, .int .i64 0, .int .i64 0]) ?_ 3 _ rfl; (with_reducible repeat (first | refine blk_drewN ?_ _ | refine blk_drew ?_ | refine blk_alloc ?_ _)); refine blk_put (cs := #[.bool t778, .slice Ao15 t779.length co15, .slice none 0 0, .int .i64 0, .int .i64 0, .int .i64 0]) ?_ 2 _ rfl; (with_reducible repeat (first | refine blk_drewN ?_ _ | refine blk_drew ?_ | refine blk_alloc ?_ _)); refine blk_put (cs := #[.bool t778, .slice none 0 0, .slice none 0 0, .int .i64 0, .int .i64 0, .int .i64 0]) ?_ 1 _ rfl; (with_reducible repeat (first | refine blk_drewN ?_ _ | refine blk_drew ?_ | refine blk_alloc ?_ _)); refine blk_put (cs := #[.bool false, .slice none 0 0, .slice none 0 0, .int .i64 0, .int .i64 0, .int .i64 0]) ?_ 0 _ rfl; exact pkK BK788.out) hb); replace HB := am (below_step (pkW HB.out) hb); (try clear hb); obtain ⟨hcz19_0, hcz19_1, hcz19_2, hcz19_3, hcz19_4, hcz19_5, hfz19_0, hfz19_1, hfz19_2, hfz19_3, hfz19_4, hfz19_5⟩ := bk6 BK776.out; obtain ⟨hcz20_0, hcz20_1, hcz20_2, hcz20_3, hcz20_4, hcz20_5, hfz20_0, hfz20_1, hfz20_2, hfz20_3, hfz20_4, hfz20_5⟩ := bk6 BK788.out; obtain ⟨hcz21_0, hcz21_1, hcz21_2, hcz21_3, hcz21_4, hcz21_5, hfz21_0, hfz21_1, hfz21_2, hfz21_3, hfz21_4, hfz21_5⟩ := bk6 BK777.out))
   refine bodyPost_ret (results_ctt rfl _ _ gb777 38 #[.bool t778, .slice Ao15 t779.length co15, .slice Ao16 t782.length co16, .int .i64 t785, .int .i64 t786, .int .i64 t787] (0, 0) _ rfl (by (with_reducible repeat (first | refine blk_drewN ?_ _ | refine blk_drew ?_ | refine blk_alloc ?_ _)); refine blk_put (cs := #[.bool t778, .slice Ao15 t779.length co15, .slice Ao16 t782.length co16, .int .i64 t785, .int .i64 t786, .int .i64 0]) ?_ 5 _ rfl; (with_reducible repeat (first | refine blk_drewN ?_ _ | refine blk_drew ?_ | refine blk_alloc ?_ _)); refine blk_put (cs := #[.bool t778, .slice Ao15 t779.length co15, .slice Ao16 t782.length co16, .int .i64 t785, .int .i64 0, .int .i64 0]) ?_ 4 _ rfl; (with_reducible repeat (first | refine blk_drewN ?_ _ | refine blk_drew ?_ | refine blk_alloc ?_ _)); refine blk_put (cs := #[.bool t778, .slice Ao15 t779.length co15, .slice Ao16 t782.length co16, .int .i64 0, .int .i64 0, .int .i64 0]) ?_ 3 _ rfl; (with_reducible repeat (first | refine blk_drewN ?_ _ | refine blk_drew ?_ | refine blk_alloc ?_ _)); refine blk_put (cs := #[.bool t778, .slice Ao15 t779.length co15, .slice none 0 0, .int .i64 0, .int .i64 0, .int .i64 0]) ?_ 2 _ rfl; (with_reducible repeat (first | refine blk_drewN ?_ _ | refine blk_drew ?_ | refine blk_alloc ?_ _)); refine blk_put (cs := #[.bool t778, .slice none 0 0, .slice none 0 0, .int .i64 0, .int .i64 0, .int .i64 0]) ?_ 1 _ rfl; (with_reducible repeat (first | refine blk_drewN ?_ _ | refine blk_drew ?_ | refine blk_alloc ?_ _)); refine blk_put (cs := #[.bool false, .slice none 0 0, .slice none 0 0, .int .i64 0, .int .i64 0, .int .i64 0]) ?_ 0 _ rfl; exact pkK BK777.out) Try.underlying38 rfl (by kernel_rfl)) rfl ?_
   exact ⟨_, _, _, rfe, by (with_reducible repeat (first | apply Kd.R_alloc | apply Kd.R_drewN | apply Kd.R_drew)); exact Kd.R_mono (Kd.R_far (p := ⟨gb777, 5, none⟩) (Kd.R_far (p := ⟨gb777, 4, none⟩) (Kd.R_far (p := ⟨gb777, 3, none⟩) (Kd.R_far (p := ⟨gb777, 2, none⟩) (Kd.R_far (p := ⟨gb777, 1, none⟩) (Kd.R_far (p := ⟨gb777, 0, none⟩) (Kd.R_types HO781.out BK777.out (by decide)) (fun _ hk => hk.2) (.bool t778)) (fun _ hk => hk.2) (.slice Ao15 t779.length co15)) (fun _ hk => hk.2) (.slice Ao16 t782.length co16)) (fun _ hk => hk.2) (.int .i64 t785)) (fun _ hk => hk.2) (.int .i64 t786)) (fun _ hk => hk.2) (.int .i64 t787)) (fun _ hk => (by simp [Value.ownBlock])), by (with_reducible repeat (first | apply Kd.R_alloc | apply Kd.R_drewN | apply Kd.R_drew)); exact Kd.R_mono (Kd.R_far (p := ⟨gb777, 5, none⟩) (Kd.R_far (p := ⟨gb777, 4, none⟩) (Kd.R_far (p := ⟨gb777, 3, none⟩) (Kd.R_far (p := ⟨gb777, 2, none⟩) (Kd.R_far (p := ⟨gb777, 1, none⟩) (Kd.R_far (p := ⟨gb777, 0, none⟩) (Kd.R_types HO784.out BK777.out (by decide)) (fun _ hk => hk.2) (.bool t778)) (fun _ hk => hk.2) (.slice Ao15 t779.length co15)) (fun _ hk => hk.2) (.slice Ao16 t782.length co16)) (fun _ hk => hk.2) (.int .i64 t785)) (fun _ hk => hk.2) (.int .i64 t786)) (fun _ hk => hk.2) (.int .i64 t787)) (fun _ hk => trivial), by first | exact Kd.R_nil _ _ _ _ _ | exact Kd.N_nil _ _ _ _ _ | exact Kd.V_nil _ _ _ _ _ | exact Kd.Q_nil _ _ _ _ _ | exact Kd.S_nil _ _ _ _ _, pkW HB.out⟩
  ·rw [if_neg c5] at H
   have c5b0 : decide (32 < (wrap64 ((l0_1.length : Int) + (l0_2.length : Int)))) = false := decide_eq_false c5
   clear c5
   have H' := am H
   clear H
   go_enter Try.func32, Try.ntmps32
   go_wp2_with (first | ((with_reducible refine gate_dst (N := 1) rfl ?_); refine box_event ?hg (N := 1) ?hd (cs := #[.bool a0_0, .slice A0_1 l0_1.length c0_1, .slice A0_2 l0_2.length c0_2, .int .i64 a0_3, .int .i64 a0_4, .int .i64 a0_5]) (t := 38) ?hr ?_; (case hd => rfl); (case hg => rfl); (case hr => first | (go_simp; done) | (go_simp; rfl)); intro gb776 hg w22 hbox hb; have BK776 := am (hbox); have GW776 := am ((by rw [hg]; exact (below_size (pkB HB.out)) : w.heap.size ≤ gb776)); have GE776 := am ((by rw [hg]; exact (below_size (pkB HB.out)) : w.heap.size ≤ gb776)); replace HB := am (below_step (pkB HB.out) hb); clear hb hbox hg) | ((with_reducible refine gate_dst (N := 2) rfl ?_); refine box_event ?hg (N := 2) ?hd (cs := #[.bool false, .slice none 0 0, .slice none 0 0, .int .i64 0, .int .i64 0, .int .i64 0]) (t := 38) ?hr ?_; (case hd => rfl); (case hg => rfl); (case hr => first | (go_simp; done) | (go_simp; rfl)); intro gb777 hg w23 hbox hb; have BK777 := am (hbox); have GW777 := am ((by rw [hg]; exact (below_size (pkW HB.out)) : w.heap.size ≤ gb777)); have GE777 := am ((by rw [hg]; exact (below_size (pkW HB.out)) : w.heap.size ≤ gb777)); replace HB := am (below_step (pkW HB.out) hb); have NB776_777 := am ((by rw [hg]; exact Nat.ne_of_lt (blk_lt (g := gb776) (o := .cells #[.bool a0_0, .slice A0_1 l0_1.length c0_1, .slice A0_2 l0_2.length c0_2, .int .i64 a0_3, .int .i64 a0_4, .int .i64 a0_5] 38 (0, 0)) (pkK BK776.out)) : gb776 ≠ gb777)); have NB777_776 := am ((by rw [hg]; exact Nat.ne_of_gt (blk_lt (g := gb776) (o := .cells #[.bool a0_0, .slice A0_1 l0_1.length c0_1, .slice A0_2 l0_2.length c0_2, .int .i64 a0_3, .int .i64 a0_4, .int .i64 a0_5] 38 (0, 0)) (pkK BK776.out)) : gb777 ≠ gb776)); replace BK776 := am (blk_below (pkK BK776.out) hb); clear hb hbox hg; have hnb24 := NB776_777.out; have hnc24 := NB777_776.out; obtain ⟨hcz25_0, hcz25_1, hcz25_2, hcz25_3, hcz25_4, hcz25_5, hfz25_0, hfz25_1, hfz25_2, hfz25_3, hfz25_4, hfz25_5⟩ := bk6 BK776.out) | ((with_reducible refine gate_callee (f := 69) rfl ?_); refine goesL_ (some 8) rfl rfl Try.func69 (by kernel_rfl) rfl #[.agg #[.bool a0_0, .slice A0_1 l0_1.length c0_1, .slice A0_2 l0_2.length c0_2, .int .i64 a0_3, .int .i64 a0_4, .int .i64 a0_5]] rfl mpx ?_; (with_reducible refine (spec_l5Copy.calls a0_0 _ _ l0_1 _ _ l0_2 a0_3 a0_4 a0_5 t778 t779 t782 t785 t786 t787 _ ?side1 ?side2 ?side3 ?side4 A2.out).mono ?_); (case side1 => exact pkC (Kd.C_below HR0_1.out HB.out)); (case side2 => exact HC0_1.out); (case side3 => exact pkC (Kd.C_below HR0_2.out HB.out)); (case side4 => exact HC0_2.out); rintro e w26 ⟨v780, v783, rfl, ho0, ho1, hb⟩; refine ⟨_, rfl, ?_⟩; have HO781 := am (Kd.R_lower ho0 (below_size (pkW HB.out))); have HO784 := am (Kd.R_lower ho1 (below_size (pkW HB.out))); replace BK776 := am (blk_below (pkK BK776.out) hb); replace BK777 := am (blk_below (pkK BK777.out) hb); replace HB := am (below_step (pkW HB.out) hb); (try clear hb ho0 ho1)) | ((with_reducible refine gate_dst (N := 5) rfl ?_); refine box_event ?hg (N := 5) ?hd (cs := #[.bool false, .slice none 0 0, .slice none 0 0, .int .i64 0, .int .i64 0, .int .i64 0]) (t := 38) ?hr ?_; (case hd => rfl); (case hg => rfl); (case hr => first | (go_simp; done) | (go_simp; rfl)); intro gb788 hg w27 hbox hb; replace HO781 := am (Kd.R_below (pkR HO781.out) hb); replace HO784 := am (Kd.R_below (pkR HO784.out) hb); have BK788 := am (hbox); have GW788 := am ((by rw [hg]; exact (below_size (pkW HB.out)) : w.heap.size ≤ gb788)); have GE788 := am ((by rw [hg]; exact (below_size (pkW HB.out)) : w.heap.size ≤ gb788)); replace HB := am (below_step (pkW HB.out) hb); have NB776_788 := am ((by rw [hg]; exact Nat.ne_of_lt (blk_lt (g := gb776) (o := .cells #[.bool a0_0, .slice A0_1 l0_1.length c0_1, .slice A0_2 l0_2.length c0_2, .int .i64 a0_3, .int .i64 a0_4, .int .i64 a0_5] 38 (0, 0)) (pkK BK776.out)) : gb776 ≠ gb788)); have NB788_776 := am ((by rw [hg]; exact Nat.ne_of_gt (blk_lt (g := gb776) (o := .cells #[.bool a0_0, .slice A0_1 l0_1.length c0_1, .slice A0_2 l0_2.length c0_2, .int .i64 a0_3, .int .i64 a0_4, .int .i64 a0_5] 38 (0, 0)) (pkK BK776.out)) : gb788 ≠ gb776)); replace BK776 := am (blk_below (pkK BK776.out) hb); have NB777_788 := am ((by rw [hg]; exact Nat.ne_of_lt (blk_lt (g := gb777) (o := .cells #[.bool false, .slice none 0 0, .slice none 0 0, .int .i64 0, .int .i64 0, .int .i64 0] 38 (0, 0)) (pkK BK777.out)) : gb777 ≠ gb788)); have NB788_777 := am ((by rw [hg]; exact Nat.ne_of_gt (blk_lt (g := gb777) (o := .cells #[.bool false, .slice none 0 0, .slice none 0 0, .int .i64 0, .int .i64 0, .int .i64 0] 38 (0, 0)) (pkK BK777.out)) : gb788 ≠ gb777)); replace BK777 := am (blk_below (pkK BK777.out) hb); clear hb hbox hg; have hnb28 := NB788_776.out; have hnc28 := NB776_788.out; have hnb29 := NB788_777.out; have hnc29 := NB777_788.out; obtain ⟨hcz30_0, hcz30_1, hcz30_2, hcz30_3, hcz30_4, hcz30_5, hfz30_0, hfz30_1, hfz30_2, hfz30_3, hfz30_4, hfz30_5⟩ := bk6 BK788.out; obtain ⟨Ao31, co31, eo31⟩ := Kd.R_slice HO781.out; subst eo31; obtain ⟨Ao32, co32, eo32⟩ := Kd.R_slice HO784.out; subst eo32; obtain ⟨hcz33_0, hcz33_1, hcz33_2, hcz33_3, hcz33_4, hcz33_5, hfz33_0, hfz33_1, hfz33_2, hfz33_3, hfz33_4, hfz33_5⟩ := bk6 BK776.out) | ((with_reducible refine gate_callee (f := 20) rfl ?_); refine goesL_ (some 11) rfl rfl Try.func20 (by kernel_rfl) rfl #[.agg #[.bool a0_0, .slice A0_1 l0_1.length c0_1, .slice A0_2 l0_2.length c0_2, .int .i64 a0_3, .int .i64 a0_4, .int .i64 a0_5]] rfl mpx ?_; (with_reducible refine (spec_NotifyOk.calls k a0_0 _ _ l0_1 _ _ l0_2 a0_3 a0_4 a0_5 true _ ?side1 ?side2 ?side3 ?side4 A3.out).mono ?_); (case side1 => exact Kd.C_below HR0_1.out (pkW HB.out)); (case side2 => exact HC0_1.out); (case side3 => exact Kd.C_below HR0_2.out (pkW HB.out)); (case side4 => exact HC0_2.out); rintro e w34 ⟨rfl, hb⟩; refine ⟨_, rfl, ?_⟩; replace HO781 := am (Kd.R_below (by (with_reducible repeat (first | apply Kd.R_alloc | apply Kd.R_drewN | apply Kd.R_drew)); exact (Kd.R_mono (Kd.R_far (p := ⟨gb788, 5, none⟩) (Kd.R_far (p := ⟨gb788, 4, none⟩) (Kd.R_far (p := ⟨gb788, 3, none⟩) (Kd.R_far (p := ⟨gb788, 2, none⟩) (Kd.R_far (p := ⟨gb788, 1, none⟩) (Kd.R_far (p := ⟨gb788, 0, none⟩) (Kd.R_types HO781.out BK788.out (by decide)) (fun _ hk => hk.2) (.bool t778)) (fun _ hk => hk.2) (.slice Ao31 t779.length co31)) (fun _ hk => hk.2) (.slice Ao32 t782.length co32)) (fun _ hk => hk.2) (.int .i64 t785)) (fun _ hk => hk.2) (.int .i64 t786)) (fun _ hk => hk.2) (.int .i64 t787)) (fun _ h_ => h_.1))) hb); replace HO784 := am (Kd.R_below (by (with_reducible repeat (first | apply Kd.R_alloc | apply Kd.R_drewN | apply Kd.R_drew)); exact (Kd.R_mono (Kd.R_far (p := ⟨gb788, 5, none⟩) (Kd.R_far (p := ⟨gb788, 4, none⟩) (Kd.R_far (p := ⟨gb788, 3, none⟩) (Kd.R_far (p := ⟨gb788, 2, none⟩) (Kd.R_far (p := ⟨gb788, 1, none⟩) (Kd.R_far (p := ⟨gb788, 0, none⟩) (Kd.R_types HO784.out BK788.out (by decide)) (fun _ hk => hk.2) (.bool t778)) (fun _ hk => hk.2) (.slice Ao31 t779.length co31)) (fun _ hk => hk.2) (.slice Ao32 t782.length co32)) (fun _ hk => hk.2) (.int .i64 t785)) (fun _ hk => hk.2) (.int .i64 t786)) (fun _ hk => hk.2) (.int .i64 t787)) (fun _ h_ => h_.1))) hb); replace BK776 := am (blk_below (g := gb776) (o := .cells #[.bool a0_0, .slice A0_1 l0_1.length c0_1, .slice A0_2 l0_2.length c0_2, .int .i64 a0_3, .int .i64 a0_4, .int .i64 a0_5] 38 (0, 0)) (by (with_reducible repeat (first | refine blk_drewN ?_ _ | refine blk_drew ?_ | refine blk_alloc ?_ _)); refine blk_far ?_ NB776_788.out _; (with_reducible repeat (first | refine blk_drewN ?_ _ | refine blk_drew ?_ | refine blk_alloc ?_ _)); refine blk_far ?_ NB776_788.out _; (with_reducible repeat (first | refine blk_drewN ?_ _ | refine blk_drew ?_ | refine blk_alloc ?_ _)); refine blk_far ?_ NB776_788.out _; (with_reducible repeat (first | refine blk_drewN ?_ _ | refine blk_drew ?_ | refine blk_alloc ?_ _)); refine blk_far ?_ NB776_788.out _; (with_reducible repeat (first | refine blk_drewN ?_ _ | refine blk_drew ?_ | refine blk_alloc ?_ _)); refine blk_far ?_ NB776_788.out _; (with_reducible repeat (first | refine blk_drewN ?_ _ | refine blk_drew ?_ | refine blk_alloc ?_ _)); refine blk_far ?_ NB776_788.out _; exact pkK BK776.out) hb); replace BK777 := am (blk_below (g := gb777) (o := .cells #[.bool false, .slice none 0 0, .slice none 0 0, .int .i64 0, .int .i64 0, .int .i64 0] 38 (0, 0)) (by (with_reducible repeat (first | refine blk_drewN ?_ _ | refine blk_drew ?_ | refine blk_alloc ?_ _)); refine blk_far ?_ NB777_788.out _; (with_reducible repeat (first | refine blk_drewN ?_ _ | refine blk_drew ?_ | refine blk_alloc ?_ _)); refine blk_far ?_ NB777_788.out _; (with_reducible repeat (first | refine blk_drewN ?_ _ | refine blk_drew ?_ | refine blk_alloc ?_ _)); refine blk_far ?_ NB777_788.out _; (with_reducible repeat (first | refine blk_drewN ?_ _ | refine blk_drew ?_ | refine blk_alloc ?_ _)); refine blk_far ?_ NB777_788.out _; (with_reducible repeat (first | refine blk_drewN ?_ _ | refine blk_drew ?_ | refine blk_alloc ?_ _)); refine blk_far ?_ NB777_788.out _; (with_reducible repeat (first | refine blk_drewN ?_ _ | refine blk_drew ?_ | refine blk_alloc ?_ _)); refine blk_far ?_ NB777_788.out _; exact pkK BK777.out) hb); replace BK788 := am (blk_below (g := gb788) (o := .cells #[.bool t778, .slice Ao31 t779.length co31, .slice Ao32 t782.length co32, .int .i64 t785, .int .i64 t786, .int .i64 t787] 38 (0, 0)) (by (with_reducible repeat (first | refine blk_drewN ?_ _ | refine blk_drew ?_ | refine blk_alloc ?_ _)); refine blk_put (cs := #[.bool t778, .slice Ao31 t779.length co31, .slice Ao32 t782.length co32, .int .i64 t785, .int .i64 t786, .int .i64 0]) ?_ 5 _ rfl; (with_reducible repeat (first | refine blk_drewN ?_ _ | refine blk_drew ?_ | refine blk_alloc ?_ _)); refine blk_put (cs := #[.bool t778, .slice Ao31 t779.length co31, .slice Ao32 t782.length co32, .int .i64 t785, .int .i64 0, .int .i64 0]) ?_ 4 _ rfl; (with_reducible repeat (first | refine blk_drewN ?_ _ | refine blk_drew ?_ | refine blk_alloc ?_ _)); refine blk_put (cs := #[.bool t778, .slice Ao31 t779.length co31, .slice Ao32 t782.length co32, .int .i64 0, .int .i64 0, .int .i64 0]) ?_ 3 _ rfl; (with_reducible repeat (first | refine blk_drewN ?_ _ | refine blk_drew ?_ | refine blk_alloc ?_ _)); refine blk_put (cs := #[.bool t778, .slice Ao31 t779.length co31, .slice none 0 0, .int .i64 0, .int .i64 0, .int .i64 0]) ?_ 2 _ rfl; (with_reducible repeat (first | refine blk_drewN ?_ _ | refine blk_drew ?_ | refine blk_alloc ?_ _)); refine blk_put (cs := #[.bool t778, .slice none 0 0, .slice none 0 0, .int .i64 0, .int .i64 0, .int .i64 0]) ?_ 1 _ rfl; (with_reducible repeat (first | refine blk_drewN ?_ _ | refine blk_drew ?_ | refine blk_alloc ?_ _)); refine blk_put (cs := #[.bool false, .slice none 0 0, .slice none 0 0, .int .i64 0, .int .i64 0, .int .i64 0]) ?_ 0 _ rfl; exact pkK BK788.out) hb); replace HB := am (below_step (pkW HB.out) hb); (try clear hb); obtain ⟨hcz35_0, hcz35_1, hcz35_2, hcz35_3, hcz35_4, hcz35_5, hfz35_0, hfz35_1, hfz35_2, hfz35_3, hfz35_4, hfz35_5⟩ := bk6 BK776.out))
   go_loopg [6] k (fun kq v6 w' => ∃ (x6_1 : Int) (x789002_1 : List (S67)) (u789002 : Value), v6 = .int .i64 x6_1 ∧ Aside0 (spec_TellAll.l0 kq x6_1 a0_0 l0_1 l0_2 a0_3 a0_4 a0_5 t778 t779 x789002_1 t785 t786 t787 = some (r1, r2, r3, r4, r5, r6, r7, r8)) ∧ Aside0 (kq ≤ k) ∧ Aside0 (Kd.R (Kd.int .i64) 3 w' w.heap.size (fun _ => True) (.slice Ao31 t779.length co31) t779) ∧ Aside0 (Kd.R k67 67 w' w.heap.size (fun _ => True) u789002 x789002_1) ∧ Aside0 (w'.heap[gb776]? = some (.cells #[.bool a0_0, (.slice A0_1 l0_1.length c0_1), (.slice A0_2 l0_2.length c0_2), .int .i64 a0_3, .int .i64 a0_4, .int .i64 a0_5] 38 (0, 0))) ∧ Aside0 (w'.heap[gb777]? = some (.cells #[.bool false, (.slice none 0 0), (.slice none 0 0), .int .i64 0, .int .i64 0, .int .i64 0] 38 (0, 0))) ∧ Aside0 (w'.heap[gb788]? = some (.cells #[.bool t778, (.slice Ao31 t779.length co31), u789002, .int .i64 t785, .int .i64 t786, .int .i64 t787] 38 (0, 0))) ∧ Aside0 (Below w.heap.size w w'))
   case atStart => exact ⟨(0), (t782), (.slice Ao32 t782.length co32), rfx, H', ⟨Nat.le_refl _⟩, ⟨pkR HO781.out⟩, ⟨pkR HO784.out⟩, ⟨pkK BK776.out⟩, ⟨pkK BK777.out⟩, ⟨pkK BK788.out⟩, ⟨pkW HB.out⟩⟩
   case round =>
    clear H'
    try clear c1
    try clear c2
    try clear p2
    try clear c3
    try clear c4
    try clear c5
    try clear c5b0
    try clear c6
    try clear p6
    try clear c8
    try clear c12
    try clear c13
    try clear c20
    try clear c24
    try clear c28
    try clear c29
    try clear c32
    try clear hcz14_0
    try clear hcz14_1
    try clear hcz14_2
    try clear hcz14_3
    try clear hcz14_4
    try clear hcz14_5
    try clear hcz17_0
    try clear hcz17_1
    try clear hcz17_2
    try clear hcz17_3
    try clear hcz17_4
    try clear hcz17_5
    try clear hcz19_0
    try clear hcz19_1
    try clear hcz19_2
    try clear hcz19_3
    try clear hcz19_4
    try clear hcz19_5
    try clear hcz20_0
    try clear hcz20_1
    try clear hcz20_2
    try clear hcz20_3
    try clear hcz20_4
    try clear hcz20_5
    try clear hcz21_0
    try clear hcz21_1
    try clear hcz21_2
    try clear hcz21_3
    try clear hcz21_4
    try clear hcz21_5
    try clear hcz25_0
    try clear hcz25_1
    try clear hcz25_2
    try clear hcz25_3
    try clear hcz25_4
    try clear hcz25_5
    try clear hcz30_0
    try clear hcz30_1
    try clear hcz30_2
    try clear hcz30_3
    try clear hcz30_4
    try clear hcz30_5
    try clear hcz33_0
    try clear hcz33_1
    try clear hcz33_2
    try clear hcz33_3
    try clear hcz33_4
    try clear hcz33_5
    try clear hcz35_0
    try clear hcz35_1
    try clear hcz35_2
    try clear hcz35_3
    try clear hcz35_4
    try clear hcz35_5
    try clear hcz9_0
    try clear hcz9_1
    try clear hcz9_2
    try clear hcz9_3
    try clear hcz9_4
    try clear hcz9_5
    try clear hfz14_0
    try clear hfz14_1
    try clear hfz14_2
    try clear hfz14_3
    try clear hfz14_4
    try clear hfz14_5
    try clear hfz17_0
    try clear hfz17_1
    try clear hfz17_2
    try clear hfz17_3
    try clear hfz17_4
    try clear hfz17_5
    try clear hfz19_0
    try clear hfz19_1
    try clear hfz19_2
    try clear hfz19_3
    try clear hfz19_4
    try clear hfz19_5
    try clear hfz20_0
    try clear hfz20_1
    try clear hfz20_2
    try clear hfz20_3
    try clear hfz20_4
    try clear hfz20_5
    try clear hfz21_0
    try clear hfz21_1
    try clear hfz21_2
    try clear hfz21_3
    try clear hfz21_4
    try clear hfz21_5
    try clear hfz25_0
    try clear hfz25_1
    try clear hfz25_2
    try clear hfz25_3
    try clear hfz25_4
    try clear hfz25_5
    try clear hfz30_0
    try clear hfz30_1
    try clear hfz30_2
    try clear hfz30_3
    try clear hfz30_4
    try clear hfz30_5
    try clear hfz33_0
    try clear hfz33_1
    try clear hfz33_2
    try clear hfz33_3
    try clear hfz33_4
    try clear hfz33_5
    try clear hfz35_0
    try clear hfz35_1
    try clear hfz35_2
    try clear hfz35_3
    try clear hfz35_4
    try clear hfz35_5
    try clear hfz9_0
    try clear hfz9_1
    try clear hfz9_2
    try clear hfz9_3
    try clear hfz9_4
    try clear hfz9_5
    obtain ⟨x6_1, x789002_1, u789002, rfl, HA, HK1, HO_789001, HO_789002, BK776, BK777, BK788, HB⟩ := hrel
    cases gk with
    | zero => exact absurd HA.out (by simp [spec_TellAll.l0])
    | succ k1 =>
     have H := HA.out
     clear HA
     simp only [spec_TellAll.l0] at H
     by_cases c36 : x6_1 < (l0_1.length : Int)
     ·rw [if_pos c36] at H
      have c36b0 : decide (x6_1 < (l0_1.length : Int)) = true := decide_eq_true c36
      clear c36
      by_cases c37 : 0 ≤ x6_1
      ·rw [if_pos c37] at H
       have c37b0 : decide (0 ≤ x6_1) = true := decide_eq_true c37
       clear c37
       by_cases c38 : x789002_1.length < 8796093022208
       ·rw [if_pos c38] at H
        have LMc38 := am c38
        clear c38
        obtain ⟨y791, hy791⟩ : ∃ y_ : List (S67), y_ = (x789002_1 ++ [(⟨rd l0_1 x6_1, false⟩ : S67)]) := ⟨_, rfl⟩
        replace H : (spec_TellAll.l0 k1 (wrap64 (x6_1 + 1)) a0_0 l0_1 l0_2 a0_3 a0_4 a0_5 t778 t779 y791 t785 t786 t787) = some (r1, r2, r3, r4, r5, r6, r7, r8) := by first | (rw [hy791]; with_reducible exact H) | (have H2_ := (Option.bind_some _ _).symm.trans H; rw [hy791]; with_reducible exact H2_) | (have H2_ := (Option.bind_some _ _).symm.trans H; with_reducible exact H2_) | with_reducible exact H | (rw [hy791]; exact H) | exact H
        have Ny791 := am hy791
        clear hy791
        have H' := am H
        clear H
        have hnb39 := NB776_777.out
        have hnc39 := NB777_776.out
        have hnb40 := NB776_788.out
        have hnc40 := NB788_776.out
        obtain ⟨hcz41_0, hcz41_1, hcz41_2, hcz41_3, hcz41_4, hcz41_5, hfz41_0, hfz41_1, hfz41_2, hfz41_3, hfz41_4, hfz41_5⟩ := bk6 BK776.out
        try go_wp2
        replace HO_789001 := am (Kd.R_drew HO_789001.out)
        replace HO_789002 := am (Kd.R_drew HO_789002.out)
        replace BK776 := am (blk_drew BK776.out)
        replace BK777 := am (blk_drew BK777.out)
        replace BK788 := am (blk_drew BK788.out)
        replace HB := am (below_drew1 HB.out)
        have p790 : 0 ≤ (x6_1 : Int) := ofd
        have q790 : x6_1 < (l0_1.length : Int) := ofd
        obtain ⟨ad790, e790, hx790_0⟩ := Kd.at_int HR0_1.out x6_1 p790 q790
        have hw790_0 := hx790_0
        cases e790
        replace hx790_0 := (HB.out.cell (World.block_lt_of_cell? w _ hx790_0)).trans hx790_0
        replace p790 := eq_true p790
        replace q790 := eq_true q790
        refine start_ (n := 12) (S := fun w' => w'.cell? ⟨gb788, 0, none⟩ = some (.bool t778) ∧ w'.cell? ⟨gb788, 1, none⟩ = some (.slice Ao31 t779.length co31) ∧ w'.cell? ⟨gb788, 2, none⟩ = some (u789002) ∧ w'.cell? ⟨gb788, 3, none⟩ = some (.int .i64 t785) ∧ w'.cell? ⟨gb788, 4, none⟩ = some (.int .i64 t786) ∧ w'.cell? ⟨gb788, 5, none⟩ = some (.int .i64 t787) ∧ w'.cell? ⟨gb776, 0, none⟩ = some (.bool a0_0) ∧ w'.cell? ⟨gb776, 1, none⟩ = some (.slice (some ad790) l0_1.length c0_1) ∧ w'.cell? ⟨gb776, 2, none⟩ = some (.slice A0_2 l0_2.length c0_2) ∧ w'.cell? ⟨gb776, 3, none⟩ = some (.int .i64 a0_3) ∧ w'.cell? ⟨gb776, 4, none⟩ = some (.int .i64 a0_4) ∧ w'.cell? ⟨gb776, 5, none⟩ = some (.int .i64 a0_5) ∧ w'.cell? (ad790.add (x6_1).toNat) = some (.int .i64 (rd l0_1 x6_1))) (ds := [11]) #[false, false, false, false, false, false, false, false, false, false, false, false] (by kernel_rfl) rfl rfl ⟨(blk_cell BK788.out 0).trans rfl, (blk_cell BK788.out 1).trans rfl, (blk_cell BK788.out 2).trans rfl, (blk_cell BK788.out 3).trans rfl, (blk_cell BK788.out 4).trans rfl, (blk_cell BK788.out 5).trans rfl, (blk_cell BK776.out 0).trans rfl, (blk_cell BK776.out 1).trans rfl, (blk_cell BK776.out 2).trans rfl, (blk_cell BK776.out 3).trans rfl, (blk_cell BK776.out 4).trans rfl, (blk_cell BK776.out 5).trans rfl, ((HB.out.cell (World.block_lt_of_cell? w _ hw790_0)).trans hw790_0)⟩ (fun hHeld => ?_); refine with_tabW spec_TellAll.tab9 spec_TellAll.bits9 (fun HT_ HW_ => ?_)
        generalize wr.drew = w42 at HO_789001 HO_789002 BK776 BK777 BK788 HB hx790_0 hHeld ⊢
        refine pure_ (i := 0) (N := some 31) (v := ?_) (a' := ?_) #[true, false, false, false, false, false, false, false, false, false, false, false] rfl rfl (any_of HT_.out (by kernel_rfl)) (fun _ _ _ h => h) (Or.inl ⟨by rfl, ?_⟩) ?_ ?_
        rotate_left
        ·intro w'
         go_simp
         with_reducible rfl
        rotate_left
        ·simp only [Act.put, List.setIfInBounds_toArray, List.set_cons_zero, List.set_cons_succ, i64_w, i32_w]
         rfl
        refine pure_ (i := 2) (N := some 33) (v := ?_) (a' := ?_) #[true, false, true, false, false, false, false, false, false, false, false, false] rfl rfl (any_of HT_.out (by kernel_rfl)) (fun _ _ _ h => h) (Or.inl ⟨by rfl, ?_⟩) ?_ ?_
        rotate_left
        ·intro w'
         go_simp
         with_reducible rfl
        rotate_left
        ·simp only [Act.put, List.setIfInBounds_toArray, List.set_cons_zero, List.set_cons_succ, i64_w, i32_w]
         rfl
        refine pure_ (i := 4) (N := some 35) (v := ?_) (a' := ?_) #[true, false, true, false, true, false, false, false, false, false, false, false] rfl rfl (any_of HT_.out (by kernel_rfl)) (fun _ _ _ h => h) (Or.inl ⟨by rfl, ?_⟩) ?_ ?_
        rotate_left
        ·intro w'
         go_simp
         with_reducible rfl
        rotate_left
        ·simp only [Act.put, List.setIfInBounds_toArray, List.set_cons_zero, List.set_cons_succ, i64_w, i32_w]
         rfl
        refine take_ (i := 1) (N := some 32) (v := ?_) (a' := ?_) #[true, true, true, false, true, false, false, false, false, false, false, false] rfl rfl (take_ofW HT_.out HW_.out (by kernel_rfl)) (fun _ _ _ h => h) (Or.inl ⟨by rfl, ?_⟩) hHeld ?_ ?_
        rotate_left
        ·rintro w' ⟨s0, s1, s2, s3, s4, s5, s6, s7, s8, s9, s10, s11, s12⟩
         go_simp
         with_reducible rfl
        rotate_left
        ·simp only [Act.put, List.setIfInBounds_toArray, List.set_cons_zero, List.set_cons_succ, i64_w, i32_w]
         rfl
        refine take_ (i := 3) (N := some 34) (v := ?_) (a' := ?_) #[true, true, true, true, true, false, false, false, false, false, false, false] rfl rfl (take_ofW HT_.out HW_.out (by kernel_rfl)) (fun _ _ _ h => h) (Or.inl ⟨by rfl, ?_⟩) hHeld ?_ ?_
        rotate_left
        ·rintro w' ⟨s0, s1, s2, s3, s4, s5, s6, s7, s8, s9, s10, s11, s12⟩
         go_simp
         with_reducible rfl
        rotate_left
        ·simp only [Act.put, List.setIfInBounds_toArray, List.set_cons_zero, List.set_cons_succ, i64_w, i32_w]
         rfl
        refine pure_ (i := 5) (N := some 36) (v := ?_) (a' := ?_) #[true, true, true, true, true, true, false, false, false, false, false, false] rfl rfl (any_of HT_.out (by kernel_rfl)) (fun _ _ _ h => h) (Or.inl ⟨by rfl, ?_⟩) ?_ ?_
        rotate_left
        ·intro w'
         go_simp
         with_reducible rfl
        rotate_left
        ·simp only [Act.put, List.setIfInBounds_toArray, List.set_cons_zero, List.set_cons_succ, i64_w, i32_w]
         rfl
        refine take_ (i := 6) (N := some 37) (v := ?_) (a' := ?_) #[true, true, true, true, true, true, true, false, false, false, false, false] rfl rfl (take_ofW HT_.out HW_.out (by kernel_rfl)) (fun _ _ _ h => h) (Or.inl ⟨by rfl, ?_⟩) hHeld ?_ ?_
        rotate_left
        ·rintro w' ⟨s0, s1, s2, s3, s4, s5, s6, s7, s8, s9, s10, s11, s12⟩
         go_simp
         with_reducible rfl
        rotate_left
        ·simp only [Act.put, List.setIfInBounds_toArray, List.set_cons_zero, List.set_cons_succ, i64_w, i32_w]
         rfl
        refine pure_ (i := 7) (N := some 38) (v := ?_) (a' := ?_) #[true, true, true, true, true, true, true, true, false, false, false, false] rfl rfl (any_of HT_.out (by kernel_rfl)) (fun _ _ _ h => h) (Or.inl ⟨by rfl, ?_⟩) ?_ ?_
        rotate_left
        ·intro w'
         go_simp
         with_reducible rfl
        rotate_left
        ·simp only [Act.put, List.setIfInBounds_toArray, List.set_cons_zero, List.set_cons_succ, i64_w, i32_w]
         rfl
        refine one_ (i := 8) (N := some 39) #[true, true, true, true, true, true, true, true, true, false, false, false] rfl rfl (one_of HT_.out (by kernel_rfl)) (by decide) (fun K hK => ?_)
        refine value_ (w1 := ?_) (v := ?_) (by rfl) rfl ?_ ?_
        rotate_left 2
        ·go_simp
         constructor
         ·rfl
         ·rfl
        refine hK.out _ _ ⟨(blk_cell (blk_alloc BK788.out _) 0).trans rfl, (blk_cell (blk_alloc BK788.out _) 1).trans rfl, (blk_cell (blk_alloc BK788.out _) 2).trans rfl, (blk_cell (blk_alloc BK788.out _) 3).trans rfl, (blk_cell (blk_alloc BK788.out _) 4).trans rfl, (blk_cell (blk_alloc BK788.out _) 5).trans rfl, (blk_cell (blk_alloc BK776.out _) 0).trans rfl, (blk_cell (blk_alloc BK776.out _) 1).trans rfl, (blk_cell (blk_alloc BK776.out _) 2).trans rfl, (blk_cell (blk_alloc BK776.out _) 3).trans rfl, (blk_cell (blk_alloc BK776.out _) 4).trans rfl, (blk_cell (blk_alloc BK776.out _) 5).trans rfl, (World.cell?_alloc_lt _ _ _ (World.block_lt_of_cell? _ _ (((HB.out.cell (World.block_lt_of_cell? w _ hw790_0)).trans hw790_0)))).trans (((HB.out.cell (World.block_lt_of_cell? w _ hw790_0)).trans hw790_0))⟩ (fun hHeld => ?_)
        clear hK K
        refine norm_ (a' := ?_) ?_ ?_
        rotate_left
        ·show Act.put _ (some 39) _ = _
         simp only [Act.put, List.setIfInBounds_toArray, List.set_cons_zero, List.set_cons_succ, i64_w, i32_w]
         rfl
        refine one_ (i := 9) (N := some 40) #[true, true, true, true, true, true, true, true, true, true, false, false] rfl rfl (one_of HT_.out (by kernel_rfl)) (by decide) (fun K hK => ?_)
        refine Kd.R_append_step k67 (w0 := w) w.heap.size (by rfl) (.tmp 32) (.tmp 39) 36 67 (.agg #[(.int .i64 0), (.bool false)]) 16 rfl Try.underlying36 info67 rfl (by decide) (by omega) u789002 x789002_1 (⟨rd l0_1 x6_1, false⟩ : S67) [.int .i64 (rd l0_1 x6_1), .bool false] (fun _ => True) (fun _ => False) rfl rfl ?aP (fun _ hk => hk.elim) ?aF ?aO ?aB ?aS ?aL ?_
        (case aP => exact k67_mkM _ _ _ (⟨rd l0_1 x6_1, false⟩ : S67))
        (case aB => exact (pkW HB.out))
        (case aF => exact (fun _ _ => trivial))
        (case aO => exact (pkR HO_789002.out))
        (case aS => exact (below_size (pkW HB.out)))
        (case aL => have := LMc38.out; omega)
        intro v792 w43 ho hb hg hat
        rw [← Ny791.out] at ho
        replace HO_789001 := am (Kd.R_over' (pkR HO_789001.out) (Kd.R_typed (pkR HO_789002.out)) (by decide) hg)
        replace BK776 := am (blk_grown (g := gb776) (o := .cells #[.bool a0_0, .slice (some ad790) l0_1.length c0_1, .slice A0_2 l0_2.length c0_2, .int .i64 a0_3, .int .i64 a0_4, .int .i64 a0_5] 38 (0, 0)) (pkK BK776.out) hg (Kd.R_ne HO_789002.out BK776.out (by decide)))
        replace BK777 := am (blk_grown (g := gb777) (o := .cells #[.bool false, .slice none 0 0, .slice none 0 0, .int .i64 0, .int .i64 0, .int .i64 0] 38 (0, 0)) (pkK BK777.out) hg (Kd.R_ne HO_789002.out BK777.out (by decide)))
        replace BK788 := am (blk_grown (g := gb788) (o := .cells #[.bool t778, .slice Ao31 t779.length co31, u789002, .int .i64 t785, .int .i64 t786, .int .i64 t787] 38 (0, 0)) (pkK BK788.out) hg (Kd.R_ne HO_789002.out BK788.out (by decide)))
        replace HB := am (hb)
        have HO793 := am (ho)
        clear HO_789002 ho hb hg hat
        obtain ⟨Ao44, co44, eo44⟩ := Kd.R_slice HO793.out
        (first | subst eo44 | (injection eo44 with f1_ f2_ f3_; have f4_ := f1_.symm; have f5_ := f3_.symm; clear f1_ f2_ f3_; subst f4_; subst f5_))
        refine hK.out _ _ ⟨(blk_cell BK788.out 0).trans rfl, (blk_cell BK788.out 1).trans rfl, (blk_cell BK788.out 2).trans rfl, (blk_cell BK788.out 3).trans rfl, (blk_cell BK788.out 4).trans rfl, (blk_cell BK788.out 5).trans rfl, (blk_cell BK776.out 0).trans rfl, (blk_cell BK776.out 1).trans rfl, (blk_cell BK776.out 2).trans rfl, (blk_cell BK776.out 3).trans rfl, (blk_cell BK776.out 4).trans rfl, (blk_cell BK776.out 5).trans rfl, ((HB.out.cell (World.block_lt_of_cell? w _ hw790_0)).trans hw790_0)⟩ (fun hHeld => ?_)
        clear hK K
        refine norm_ (a' := ?_) ?_ ?_
        rotate_left
        ·show Act.put _ (some 40) _ = _
         simp only [Act.put, List.setIfInBounds_toArray, List.set_cons_zero, List.set_cons_succ, i64_w, i32_w]
         rfl
        refine pure_ (i := 10) (N := some 41) (v := ?_) (a' := ?_) #[true, true, true, true, true, true, true, true, true, true, true, false] rfl rfl (any_of HT_.out (by kernel_rfl)) (fun _ _ _ h => h) (Or.inl ⟨by rfl, ?_⟩) ?_ ?_
        rotate_left
        ·intro w'
         go_simp
         with_reducible rfl
        rotate_left
        ·simp only [Act.put, List.setIfInBounds_toArray, List.set_cons_zero, List.set_cons_succ, i64_w, i32_w]
         rfl
        refine last_ (i := 11) (N := none) #[true, true, true, true, true, true, true, true, true, true, true, true] rfl rfl (one_of HT_.out (by kernel_rfl)) (by decide) (fun K hK => ?_)
        have hs45 : w43.cell? ⟨gb788, 2, none⟩ = some (u789002) := (blk_cell BK788.out 2).trans rfl
        have hfs45 := blk_frozen BK788.out 2
        have hns45_0 := NB776_788.out
        have hns45_1 := NB777_788.out
        have hms45_0 := NB788_776.out
        have hms45_1 := NB788_777.out
        refine skip_ (w1 := ?_) (by rfl) rfl ?_ ?_
        rotate_left
        ·go_simp
         rfl
        refine hK.out _ _ ?_
        clear hK K
        refine done_ (done_of HT_.out (by kernel_rfl)) ?_
        try go_wp2
        go_roundg k1
        case measure => have := HK1.out; omega
        case rel => exact ⟨(wrap64 (x6_1 + 1)), (y791), (.slice Ao44 y791.length co44), rfx, H', ⟨by have := HK1.out; omega⟩, ⟨by (with_reducible repeat (first | apply Kd.R_alloc | apply Kd.R_drewN | apply Kd.R_drew)); exact Kd.R_mono (Kd.R_far (p := ⟨gb788, 2, none⟩) (Kd.R_types HO_789001.out BK788.out (by decide)) (fun _ hk => hk.2) (.slice Ao44 y791.length co44)) (fun _ hk => trivial)⟩, ⟨by (with_reducible repeat (first | apply Kd.R_alloc | apply Kd.R_drewN | apply Kd.R_drew)); exact Kd.R_mono (Kd.R_far (p := ⟨gb788, 2, none⟩) (Kd.R_types HO793.out BK788.out (by decide)) (fun _ hk => hk.2) (.slice Ao44 y791.length co44)) (fun _ hk => trivial)⟩, ⟨by (with_reducible repeat (first | refine blk_drewN ?_ _ | refine blk_drew ?_ | refine blk_alloc ?_ _)); refine blk_far ?_ NB776_788.out _; exact pkK BK776.out⟩, ⟨by (with_reducible repeat (first | refine blk_drewN ?_ _ | refine blk_drew ?_ | refine blk_alloc ?_ _)); refine blk_far ?_ NB777_788.out _; exact pkK BK777.out⟩, ⟨by (with_reducible repeat (first | refine blk_drewN ?_ _ | refine blk_drew ?_ | refine blk_alloc ?_ _)); refine blk_put (cs := #[.bool t778, .slice Ao31 t779.length co31, u789002, .int .i64 t785, .int .i64 t786, .int .i64 t787]) ?_ 2 _ rfl; exact pkK BK788.out⟩, ⟨pkW HB.out⟩⟩
       ·rw [if_neg c38] at H
        exact absurd H (by simp)
      ·rw [if_neg c37] at H
       exact absurd H (by simp)
     ·rw [if_neg c36] at H
      have c36b0 : decide (x6_1 < (l0_1.length : Int)) = false := decide_eq_false c36
      clear c36
      replace H := Option.bind_eq_some_iff.mp H
      obtain ⟨t794, A460, H⟩ := H
      replace H : (some (t778, ([] : List Int), x789002_1, t785, t786, t787, t794, 0)) = some (r1, r2, r3, r4, r5, r6, r7, r8) := H
      have A46 := am A460
      clear A460
      simp only [Option.some.injEq, Prod.mk.injEq] at H
      obtain ⟨rfl, rfl, rfl, rfl, rfl, rfl, rfl, rfl⟩ := H
      have hnb47 := NB776_777.out
      have hnc47 := NB777_776.out
      have hnb48 := NB776_788.out
      have hnc48 := NB788_776.out
      obtain ⟨hcz49_0, hcz49_1, hcz49_2, hcz49_3, hcz49_4, hcz49_5, hfz49_0, hfz49_1, hfz49_2, hfz49_3, hfz49_4, hfz49_5⟩ := bk6 BK776.out
      have hnb50 := NB788_777.out
      have hnc50 := NB777_788.out
      obtain ⟨hcz51_0, hcz51_1, hcz51_2, hcz51_3, hcz51_4, hcz51_5, hfz51_0, hfz51_1, hfz51_2, hfz51_3, hfz51_4, hfz51_5⟩ := bk6 BK788.out
      try go_wp2
      have n0_ : Aside0 (Kd.R (Kd.int .i64) 3 (wr.setCell ⟨gb788, 1, none⟩ (.slice none 0 0)) w.heap.size (fun _ => True) (.slice Ao31 t779.length co31) t779) := ⟨by (with_reducible repeat (first | apply Kd.R_alloc | apply Kd.R_drewN | apply Kd.R_drew)); exact Kd.R_mono (Kd.R_far (p := ⟨gb788, 1, none⟩) (Kd.R_types HO_789001.out BK788.out (by decide)) (fun _ hk => hk.2) (.slice none 0 0)) (fun _ hk => trivial)⟩
      have n1_ : Aside0 (Kd.R k67 67 (wr.setCell ⟨gb788, 1, none⟩ (.slice none 0 0)) w.heap.size (fun _ => True) u789002 x789002_1) := ⟨by (with_reducible repeat (first | apply Kd.R_alloc | apply Kd.R_drewN | apply Kd.R_drew)); exact Kd.R_mono (Kd.R_far (p := ⟨gb788, 1, none⟩) (Kd.R_types HO_789002.out BK788.out (by decide)) (fun _ hk => hk.2) (.slice none 0 0)) (fun _ hk => trivial)⟩
      have n2_ : Aside0 ((wr.setCell ⟨gb788, 1, none⟩ (.slice none 0 0)).heap[gb776]? = some (.cells #[.bool a0_0, .slice A0_1 l0_1.length c0_1, .slice A0_2 l0_2.length c0_2, .int .i64 a0_3, .int .i64 a0_4, .int .i64 a0_5] 38 (0, 0))) := ⟨by (with_reducible repeat (first | refine blk_drewN ?_ _ | refine blk_drew ?_ | refine blk_alloc ?_ _)); refine blk_far ?_ NB776_788.out _; exact pkK BK776.out⟩
      have n3_ : Aside0 ((wr.setCell ⟨gb788, 1, none⟩ (.slice none 0 0)).heap[gb777]? = some (.cells #[.bool false, .slice none 0 0, .slice none 0 0, .int .i64 0, .int .i64 0, .int .i64 0] 38 (0, 0))) := ⟨by (with_reducible repeat (first | refine blk_drewN ?_ _ | refine blk_drew ?_ | refine blk_alloc ?_ _)); refine blk_far ?_ NB777_788.out _; exact pkK BK777.out⟩
      have n4_ : Aside0 ((wr.setCell ⟨gb788, 1, none⟩ (.slice none 0 0)).heap[gb788]? = some (.cells #[.bool t778, .slice none 0 0, u789002, .int .i64 t785, .int .i64 t786, .int .i64 t787] 38 (0, 0))) := ⟨by (with_reducible repeat (first | refine blk_drewN ?_ _ | refine blk_drew ?_ | refine blk_alloc ?_ _)); refine blk_put (cs := #[.bool t778, .slice Ao31 t779.length co31, u789002, .int .i64 t785, .int .i64 t786, .int .i64 t787]) ?_ 1 _ rfl; exact pkK BK788.out⟩
      have n5_ : Aside0 (Below w.heap.size w (wr.setCell ⟨gb788, 1, none⟩ (.slice none 0 0))) := ⟨pkW HB.out⟩
      (try clear HO_789001); (try clear HO_789002); (try clear BK776); (try clear BK777); (try clear BK788); (try clear HB)
      generalize (wr.setCell ⟨gb788, 1, none⟩ (.slice none 0 0)) = w52 at n0_ n1_ n2_ n3_ n4_ n5_ ⊢
      have HO_789001 := n0_; have HO_789002 := n1_; have BK776 := n2_; have BK777 := n3_; have BK788 := n4_; have HB := n5_
      clear n0_ n1_ n2_ n3_ n4_ n5_
      replace HO_789001 := am (Kd.R_drew HO_789001.out)
      replace HO_789002 := am (Kd.R_drew HO_789002.out)
      replace BK776 := am (blk_drew BK776.out)
      replace BK777 := am (blk_drew BK777.out)
      replace BK788 := am (blk_drew BK788.out)
      replace HB := am (below_drew1 HB.out)
      refine start_ (n := 7) (S := fun w' => w'.cell? ⟨gb788, 0, none⟩ = some (.bool t778) ∧ w'.cell? ⟨gb788, 1, none⟩ = some (.slice none 0 0) ∧ w'.cell? ⟨gb788, 2, none⟩ = some (u789002) ∧ w'.cell? ⟨gb788, 3, none⟩ = some (.int .i64 t785) ∧ w'.cell? ⟨gb788, 4, none⟩ = some (.int .i64 t786) ∧ w'.cell? ⟨gb788, 5, none⟩ = some (.int .i64 t787) ∧ w'.cell? ⟨gb776, 0, none⟩ = some (.bool a0_0) ∧ w'.cell? ⟨gb776, 1, none⟩ = some (.slice A0_1 l0_1.length c0_1) ∧ w'.cell? ⟨gb776, 2, none⟩ = some (.slice A0_2 l0_2.length c0_2) ∧ w'.cell? ⟨gb776, 3, none⟩ = some (.int .i64 a0_3) ∧ w'.cell? ⟨gb776, 4, none⟩ = some (.int .i64 a0_4) ∧ w'.cell? ⟨gb776, 5, none⟩ = some (.int .i64 a0_5)) (ds := []) #[false, false, false, false, false, false, false] (by kernel_rfl) rfl rfl ⟨(blk_cell BK788.out 0).trans rfl, (blk_cell BK788.out 1).trans rfl, (blk_cell BK788.out 2).trans rfl, (blk_cell BK788.out 3).trans rfl, (blk_cell BK788.out 4).trans rfl, (blk_cell BK788.out 5).trans rfl, (blk_cell BK776.out 0).trans rfl, (blk_cell BK776.out 1).trans rfl, (blk_cell BK776.out 2).trans rfl, (blk_cell BK776.out 3).trans rfl, (blk_cell BK776.out 4).trans rfl, (blk_cell BK776.out 5).trans rfl⟩ (fun hHeld => ?_)
      generalize w52.drew = w53 at HO_789001 HO_789002 BK776 BK777 BK788 HB hHeld ⊢
      refine pure_ (i := 1) (N := some 44) (v := ?_) (a' := ?_) #[false, true, false, false, false, false, false] rfl rfl (by kernel_rfl) (fun _ _ _ h => h) (Or.inl ⟨by rfl, ?_⟩) ?_ ?_
      rotate_left
      ·intro w'
       go_simp
       with_reducible rfl
      rotate_left
      ·simp only [Act.put, List.setIfInBounds_toArray, List.set_cons_zero, List.set_cons_succ, i64_w, i32_w]
       rfl
      refine take_ (i := 0) (N := some 43) (v := ?_) (a' := ?_) #[true, true, false, false, false, false, false] rfl rfl (by kernel_rfl) (fun _ _ _ h => h) (Or.inl ⟨by rfl, ?_⟩) hHeld ?_ ?_
      rotate_left
      ·rintro w' ⟨s0, s1, s2, s3, s4, s5, s6, s7, s8, s9, s10, s11⟩
       go_simp
       with_reducible rfl
      rotate_left
      ·simp only [Act.put, List.setIfInBounds_toArray, List.set_cons_zero, List.set_cons_succ, i64_w, i32_w]
       rfl
      refine take_ (i := 2) (N := some 45) (v := ?_) (a' := ?_) #[true, true, true, false, false, false, false] rfl rfl (by kernel_rfl) (fun _ _ _ h => h) (Or.inl ⟨by rfl, ?_⟩) hHeld ?_ ?_
      rotate_left
      ·rintro w' ⟨s0, s1, s2, s3, s4, s5, s6, s7, s8, s9, s10, s11⟩
       go_simp
       with_reducible rfl
      rotate_left
      ·simp only [Act.put, List.setIfInBounds_toArray, List.set_cons_zero, List.set_cons_succ, i64_w, i32_w]
       rfl
      refine one_ (i := 3) (N := some 46) #[true, true, true, true, false, false, false] rfl rfl (by kernel_rfl) (by decide) (fun K hK => ?_)
      refine goes_ Try.func70 (by kernel_rfl) rfl #[.slice A0_1 l0_1.length c0_1] (by rfl) rfl rfl mpx ?_
      with_reducible refine (spec_l2Copy.calls _ _ l0_1 t794 _ ?side1 ?side2 A46.out).mono ?_
      (case side1 => exact pkC (Kd.C_below HR0_1.out HB.out))
      (case side2 => exact HC0_1.out)
      rintro e w54 ⟨v795, rfl, ho0, hb⟩
      refine ⟨_, rfl, ?_⟩
      replace HO_789002 := am (Kd.R_below (pkR HO_789002.out) hb)
      have HO796 := am (Kd.R_lower (Kd.R_new' ho0 (Kd.R_lt (pkR HO_789001.out))) (below_size (pkW HB.out)))
      replace HO_789001 := am (Kd.R_elder' (pkR HO_789001.out) (Kd.R_base ho0) hb)
      replace BK776 := am (blk_below (pkK BK776.out) hb)
      replace BK777 := am (blk_below (pkK BK777.out) hb)
      replace BK788 := am (blk_below (pkK BK788.out) hb)
      replace HB := am (below_step (pkW HB.out) hb)
      (try clear hb); (try clear ho0)
      obtain ⟨Ao57, co57, eo57⟩ := Kd.R_slice HO_789002.out
      (first | subst eo57 | (injection eo57 with f1_ f2_ f3_; have f4_ := f1_.symm; have f5_ := f3_.symm; clear f1_ f2_ f3_; subst f4_; subst f5_))
      refine hK.out _ _ ⟨(blk_cell BK788.out 0).trans rfl, (blk_cell BK788.out 1).trans rfl, (blk_cell BK788.out 2).trans rfl, (blk_cell BK788.out 3).trans rfl, (blk_cell BK788.out 4).trans rfl, (blk_cell BK788.out 5).trans rfl, (blk_cell BK776.out 0).trans rfl, (blk_cell BK776.out 1).trans rfl, (blk_cell BK776.out 2).trans rfl, (blk_cell BK776.out 3).trans rfl, (blk_cell BK776.out 4).trans rfl, (blk_cell BK776.out 5).trans rfl⟩ (fun hHeld => ?_)
      clear hK K
      refine norm_ (a' := ?_) ?_ ?_
      rotate_left
      ·show Act.put _ (some 46) _ = _
       simp only [Act.put, List.setIfInBounds_toArray, List.set_cons_zero, List.set_cons_succ, i64_w, i32_w]
       rfl
      refine one_ (i := 4) (N := none) #[true, true, true, true, true, false, false] rfl rfl (by kernel_rfl) (by decide) (fun K hK => ?_)
      have hs55 : w54.cell? ⟨gb777, 0, none⟩ = some (.bool false) := (blk_cell BK777.out 0).trans rfl
      have hfs55 := blk_frozen BK777.out 0
      have hns55_0 := NB776_777.out
      have hns55_2 := NB788_777.out
      have hms55_0 := NB777_776.out
      have hms55_2 := NB777_788.out
      have hs56 : w54.cell? ⟨gb777, 1, none⟩ = some (.slice none 0 0) := (blk_cell BK777.out 1).trans rfl
      have hfs56 := blk_frozen BK777.out 1
      have hns56_0 := NB776_777.out
      have hns56_2 := NB788_777.out
      have hms56_0 := NB777_776.out
      have hms56_2 := NB777_788.out
      have hs58 : w54.cell? ⟨gb777, 2, none⟩ = some (.slice none 0 0) := (blk_cell BK777.out 2).trans rfl
      have hfs58 := blk_frozen BK777.out 2
      have hns58_0 := NB776_777.out
      have hns58_2 := NB788_777.out
      have hms58_0 := NB777_776.out
      have hms58_2 := NB777_788.out
      have hs59 : w54.cell? ⟨gb777, 3, none⟩ = some (.int .i64 0) := (blk_cell BK777.out 3).trans rfl
      have hfs59 := blk_frozen BK777.out 3
      have hns59_0 := NB776_777.out
      have hns59_2 := NB788_777.out
      have hms59_0 := NB777_776.out
      have hms59_2 := NB777_788.out
      have hs60 : w54.cell? ⟨gb777, 4, none⟩ = some (.int .i64 0) := (blk_cell BK777.out 4).trans rfl
      have hfs60 := blk_frozen BK777.out 4
      have hns60_0 := NB776_777.out
      have hns60_2 := NB788_777.out
      have hms60_0 := NB777_776.out
      have hms60_2 := NB777_788.out
      have hs61 : w54.cell? ⟨gb777, 5, none⟩ = some (.int .i64 0) := (blk_cell BK777.out 5).trans rfl
      have hfs61 := blk_frozen BK777.out 5
      have hns61_0 := NB776_777.out
      have hns61_2 := NB788_777.out
      have hms61_0 := NB777_776.out
      have hms61_2 := NB777_788.out
      refine skip_ (w1 := ?_) (by rfl) rfl ?_ ?_
      rotate_left
      ·go_simp
       rfl
      refine hK.out _ _ ⟨((cell_far (p := ⟨gb777, _, none⟩) NB788_777.out _).trans (((cell_far (p := ⟨gb777, _, none⟩) NB788_777.out _).trans (((cell_far (p := ⟨gb777, _, none⟩) NB788_777.out _).trans (((cell_far (p := ⟨gb777, _, none⟩) NB788_777.out _).trans (((cell_far (p := ⟨gb777, _, none⟩) NB788_777.out _).trans (((cell_far (p := ⟨gb777, _, none⟩) NB788_777.out _).trans (hHeld.1)))))))))))), ((cell_far (p := ⟨gb777, _, none⟩) NB788_777.out _).trans (((cell_far (p := ⟨gb777, _, none⟩) NB788_777.out _).trans (((cell_far (p := ⟨gb777, _, none⟩) NB788_777.out _).trans (((cell_far (p := ⟨gb777, _, none⟩) NB788_777.out _).trans (((cell_far (p := ⟨gb777, _, none⟩) NB788_777.out _).trans (((cell_far (p := ⟨gb777, _, none⟩) NB788_777.out _).trans (hHeld.2.1)))))))))))), ((cell_far (p := ⟨gb777, _, none⟩) NB788_777.out _).trans (((cell_far (p := ⟨gb777, _, none⟩) NB788_777.out _).trans (((cell_far (p := ⟨gb777, _, none⟩) NB788_777.out _).trans (((cell_far (p := ⟨gb777, _, none⟩) NB788_777.out _).trans (((cell_far (p := ⟨gb777, _, none⟩) NB788_777.out _).trans (((cell_far (p := ⟨gb777, _, none⟩) NB788_777.out _).trans (hHeld.2.2.1)))))))))))), ((cell_far (p := ⟨gb777, _, none⟩) NB788_777.out _).trans (((cell_far (p := ⟨gb777, _, none⟩) NB788_777.out _).trans (((cell_far (p := ⟨gb777, _, none⟩) NB788_777.out _).trans (((cell_far (p := ⟨gb777, _, none⟩) NB788_777.out _).trans (((cell_far (p := ⟨gb777, _, none⟩) NB788_777.out _).trans (((cell_far (p := ⟨gb777, _, none⟩) NB788_777.out _).trans (hHeld.2.2.2.1)))))))))))), ((cell_far (p := ⟨gb777, _, none⟩) NB788_777.out _).trans (((cell_far (p := ⟨gb777, _, none⟩) NB788_777.out _).trans (((cell_far (p := ⟨gb777, _, none⟩) NB788_777.out _).trans (((cell_far (p := ⟨gb777, _, none⟩) NB788_777.out _).trans (((cell_far (p := ⟨gb777, _, none⟩) NB788_777.out _).trans (((cell_far (p := ⟨gb777, _, none⟩) NB788_777.out _).trans (hHeld.2.2.2.2.1)))))))))))), ((cell_far (p := ⟨gb777, _, none⟩) NB788_777.out _).trans (((cell_far (p := ⟨gb777, _, none⟩) NB788_777.out _).trans (((cell_far (p := ⟨gb777, _, none⟩) NB788_777.out _).trans (((cell_far (p := ⟨gb777, _, none⟩) NB788_777.out _).trans (((cell_far (p := ⟨gb777, _, none⟩) NB788_777.out _).trans (((cell_far (p := ⟨gb777, _, none⟩) NB788_777.out _).trans (hHeld.2.2.2.2.2.1)))))))))))), ((cell_far (p := ⟨gb777, _, none⟩) NB776_777.out _).trans (((cell_far (p := ⟨gb777, _, none⟩) NB776_777.out _).trans (((cell_far (p := ⟨gb777, _, none⟩) NB776_777.out _).trans (((cell_far (p := ⟨gb777, _, none⟩) NB776_777.out _).trans (((cell_far (p := ⟨gb777, _, none⟩) NB776_777.out _).trans (((cell_far (p := ⟨gb777, _, none⟩) NB776_777.out _).trans (hHeld.2.2.2.2.2.2.1)))))))))))), ((cell_far (p := ⟨gb777, _, none⟩) NB776_777.out _).trans (((cell_far (p := ⟨gb777, _, none⟩) NB776_777.out _).trans (((cell_far (p := ⟨gb777, _, none⟩) NB776_777.out _).trans (((cell_far (p := ⟨gb777, _, none⟩) NB776_777.out _).trans (((cell_far (p := ⟨gb777, _, none⟩) NB776_777.out _).trans (((cell_far (p := ⟨gb777, _, none⟩) NB776_777.out _).trans (hHeld.2.2.2.2.2.2.2.1)))))))))))), ((cell_far (p := ⟨gb777, _, none⟩) NB776_777.out _).trans (((cell_far (p := ⟨gb777, _, none⟩) NB776_777.out _).trans (((cell_far (p := ⟨gb777, _, none⟩) NB776_777.out _).trans (((cell_far (p := ⟨gb777, _, none⟩) NB776_777.out _).trans (((cell_far (p := ⟨gb777, _, none⟩) NB776_777.out _).trans (((cell_far (p := ⟨gb777, _, none⟩) NB776_777.out _).trans (hHeld.2.2.2.2.2.2.2.2.1)))))))))))), ((cell_far (p := ⟨gb777, _, none⟩) NB776_777.out _).trans (((cell_far (p := ⟨gb777, _, none⟩) NB776_777.out _).trans (((cell_far (p := ⟨gb777, _, none⟩) NB776_777.out _).trans (((cell_far (p := ⟨gb777, _, none⟩) NB776_777.out _).trans (((cell_far (p := ⟨gb777, _, none⟩) NB776_777.out _).trans (((cell_far (p := ⟨gb777, _, none⟩) NB776_777.out _).trans (hHeld.2.2.2.2.2.2.2.2.2.1)))))))))))), ((cell_far (p := ⟨gb777, _, none⟩) NB776_777.out _).trans (((cell_far (p := ⟨gb777, _, none⟩) NB776_777.out _).trans (((cell_far (p := ⟨gb777, _, none⟩) NB776_777.out _).trans (((cell_far (p := ⟨gb777, _, none⟩) NB776_777.out _).trans (((cell_far (p := ⟨gb777, _, none⟩) NB776_777.out _).trans (((cell_far (p := ⟨gb777, _, none⟩) NB776_777.out _).trans (hHeld.2.2.2.2.2.2.2.2.2.2.1)))))))))))), ((cell_far (p := ⟨gb777, _, none⟩) NB776_777.out _).trans (((cell_far (p := ⟨gb777, _, none⟩) NB776_777.out _).trans (((cell_far (p := ⟨gb777, _, none⟩) NB776_777.out _).trans (((cell_far (p := ⟨gb777, _, none⟩) NB776_777.out _).trans (((cell_far (p := ⟨gb777, _, none⟩) NB776_777.out _).trans (((cell_far (p := ⟨gb777, _, none⟩) NB776_777.out _).trans (hHeld.2.2.2.2.2.2.2.2.2.2.2))))))))))))⟩ (fun hHeld => ?_)
      clear hK K
      refine pure_ (i := 5) (N := some 3) (v := ?_) (a' := ?_) #[true, true, true, true, true, true, false] rfl rfl (by kernel_rfl) (fun _ _ _ h => h) (Or.inl ⟨by rfl, ?_⟩) ?_ ?_
      rotate_left
      ·intro w'
       go_simp
       with_reducible rfl
      rotate_left
      ·simp only [Act.put, List.setIfInBounds_toArray, List.set_cons_zero, List.set_cons_succ, i64_w, i32_w]
       rfl
      refine pure_ (i := 6) (N := some 4) (v := ?_) (a' := ?_) #[true, true, true, true, true, true, true] rfl rfl (by kernel_rfl) (fun _ _ _ h => h) (Or.inl ⟨by rfl, ?_⟩) ?_ ?_
      rotate_left
      ·intro w'
       go_simp
       with_reducible rfl
      rotate_left
      ·simp only [Act.put, List.setIfInBounds_toArray, List.set_cons_zero, List.set_cons_succ, i64_w, i32_w]
       rfl
      refine done_ (by kernel_rfl) ?_
      try go_wp2
      refine bodyPost_ret (results_ctt rfl _ _ gb777 38 #[.bool t778, .slice none 0 0, .slice Ao57 x789002_1.length co57, .int .i64 t785, .int .i64 t786, .int .i64 t787] (0, 0) _ rfl (by (with_reducible repeat (first | refine blk_drewN ?_ _ | refine blk_drew ?_ | refine blk_alloc ?_ _)); refine blk_put (cs := #[.bool t778, .slice none 0 0, .slice Ao57 x789002_1.length co57, .int .i64 t785, .int .i64 t786, .int .i64 0]) ?_ 5 _ rfl; (with_reducible repeat (first | refine blk_drewN ?_ _ | refine blk_drew ?_ | refine blk_alloc ?_ _)); refine blk_put (cs := #[.bool t778, .slice none 0 0, .slice Ao57 x789002_1.length co57, .int .i64 t785, .int .i64 0, .int .i64 0]) ?_ 4 _ rfl; (with_reducible repeat (first | refine blk_drewN ?_ _ | refine blk_drew ?_ | refine blk_alloc ?_ _)); refine blk_put (cs := #[.bool t778, .slice none 0 0, .slice Ao57 x789002_1.length co57, .int .i64 0, .int .i64 0, .int .i64 0]) ?_ 3 _ rfl; (with_reducible repeat (first | refine blk_drewN ?_ _ | refine blk_drew ?_ | refine blk_alloc ?_ _)); refine blk_put (cs := #[.bool t778, .slice none 0 0, .slice none 0 0, .int .i64 0, .int .i64 0, .int .i64 0]) ?_ 2 _ rfl; (with_reducible repeat (first | refine blk_drewN ?_ _ | refine blk_drew ?_ | refine blk_alloc ?_ _)); refine blk_put (cs := #[.bool t778, .slice none 0 0, .slice none 0 0, .int .i64 0, .int .i64 0, .int .i64 0]) ?_ 1 _ rfl; (with_reducible repeat (first | refine blk_drewN ?_ _ | refine blk_drew ?_ | refine blk_alloc ?_ _)); refine blk_put (cs := #[.bool false, .slice none 0 0, .slice none 0 0, .int .i64 0, .int .i64 0, .int .i64 0]) ?_ 0 _ rfl; exact pkK BK777.out) Try.underlying38 rfl (by kernel_rfl)) rfl ?_
      exact ⟨_, _, _, rfe, by first | exact Kd.R_nil _ _ _ _ _ | exact Kd.N_nil _ _ _ _ _ | exact Kd.V_nil _ _ _ _ _ | exact Kd.Q_nil _ _ _ _ _ | exact Kd.S_nil _ _ _ _ _, by (with_reducible repeat (first | apply Kd.R_alloc | apply Kd.R_drewN | apply Kd.R_drew)); exact Kd.R_mono (Kd.R_far (p := ⟨gb777, 5, none⟩) (Kd.R_far (p := ⟨gb777, 4, none⟩) (Kd.R_far (p := ⟨gb777, 3, none⟩) (Kd.R_far (p := ⟨gb777, 2, none⟩) (Kd.R_far (p := ⟨gb777, 1, none⟩) (Kd.R_far (p := ⟨gb777, 0, none⟩) (Kd.R_types HO_789002.out BK777.out (by decide)) (fun _ hk => hk.2) (.bool t778)) (fun _ hk => hk.2) (.slice none 0 0)) (fun _ hk => hk.2) (.slice Ao57 x789002_1.length co57)) (fun _ hk => hk.2) (.int .i64 t785)) (fun _ hk => hk.2) (.int .i64 t786)) (fun _ hk => hk.2) (.int .i64 t787)) (fun _ hk => trivial), by (with_reducible repeat (first | apply Kd.R_alloc | apply Kd.R_drewN | apply Kd.R_drew)); exact Kd.R_mono (Kd.R_far (p := ⟨gb777, 5, none⟩) (Kd.R_far (p := ⟨gb777, 4, none⟩) (Kd.R_far (p := ⟨gb777, 3, none⟩) (Kd.R_far (p := ⟨gb777, 2, none⟩) (Kd.R_far (p := ⟨gb777, 1, none⟩) (Kd.R_far (p := ⟨gb777, 0, none⟩) (Kd.R_types HO796.out BK777.out (by decide)) (fun _ hk => hk.2) (.bool t778)) (fun _ hk => hk.2) (.slice none 0 0)) (fun _ hk => hk.2) (.slice Ao57 x789002_1.length co57)) (fun _ hk => hk.2) (.int .i64 t785)) (fun _ hk => hk.2) (.int .i64 t786)) (fun _ hk => hk.2) (.int .i64 t787)) (fun _ hk => (by simp [Value.ownBlock])), pkW HB.out⟩
 ·replace c4 := Bool.eq_false_iff.mpr c4
  subst c4
  replace H : (some (t778, t779, t782, t785, t786, t787, ([] : List Int), 1)) = some (r1, r2, r3, r4, r5, r6, r7, r8) := by rw [if_neg (show ¬ (false = true) by decide)] at H; exact H
  simp only [Option.some.injEq, Prod.mk.injEq] at H
  obtain ⟨rfl, rfl, rfl, rfl, rfl, rfl, rfl, rfl⟩ := H
  go_enter Try.func32, Try.ntmps32
  go_wp2_with (first | ((with_reducible refine gate_dst (N := 1) rfl ?_); refine box_event ?hg (N := 1) ?hd (cs := #[.bool a0_0, .slice A0_1 l0_1.length c0_1, .slice A0_2 l0_2.length c0_2, .int .i64 a0_3, .int .i64 a0_4, .int .i64 a0_5]) (t := 38) ?hr ?_; (case hd => rfl); (case hg => rfl); (case hr => first | (go_simp; done) | (go_simp; rfl)); intro gb776 hg w62 hbox hb; have BK776 := am (hbox); have GW776 := am ((by rw [hg]; exact (below_size (pkB HB.out)) : w.heap.size ≤ gb776)); have GE776 := am ((by rw [hg]; exact (below_size (pkB HB.out)) : w.heap.size ≤ gb776)); replace HB := am (below_step (pkB HB.out) hb); clear hb hbox hg) | ((with_reducible refine gate_dst (N := 2) rfl ?_); refine box_event ?hg (N := 2) ?hd (cs := #[.bool false, .slice none 0 0, .slice none 0 0, .int .i64 0, .int .i64 0, .int .i64 0]) (t := 38) ?hr ?_; (case hd => rfl); (case hg => rfl); (case hr => first | (go_simp; done) | (go_simp; rfl)); intro gb777 hg w63 hbox hb; have BK777 := am (hbox); have GW777 := am ((by rw [hg]; exact (below_size (pkW HB.out)) : w.heap.size ≤ gb777)); have GE777 := am ((by rw [hg]; exact (below_size (pkW HB.out)) : w.heap.size ≤ gb777)); replace HB := am (below_step (pkW HB.out) hb); have NB776_777 := am ((by rw [hg]; exact Nat.ne_of_lt (blk_lt (g := gb776) (o := .cells #[.bool a0_0, .slice A0_1 l0_1.length c0_1, .slice A0_2 l0_2.length c0_2, .int .i64 a0_3, .int .i64 a0_4, .int .i64 a0_5] 38 (0, 0)) (pkK BK776.out)) : gb776 ≠ gb777)); have NB777_776 := am ((by rw [hg]; exact Nat.ne_of_gt (blk_lt (g := gb776) (o := .cells #[.bool a0_0, .slice A0_1 l0_1.length c0_1, .slice A0_2 l0_2.length c0_2, .int .i64 a0_3, .int .i64 a0_4, .int .i64 a0_5] 38 (0, 0)) (pkK BK776.out)) : gb777 ≠ gb776)); replace BK776 := am (blk_below (pkK BK776.out) hb); clear hb hbox hg; have hnb64 := NB776_777.out; have hnc64 := NB777_776.out; obtain ⟨hcz65_0, hcz65_1, hcz65_2, hcz65_3, hcz65_4, hcz65_5, hfz65_0, hfz65_1, hfz65_2, hfz65_3, hfz65_4, hfz65_5⟩ := bk6 BK776.out) | ((with_reducible refine gate_callee (f := 69) rfl ?_); refine goesL_ (some 8) rfl rfl Try.func69 (by kernel_rfl) rfl #[.agg #[.bool a0_0, .slice A0_1 l0_1.length c0_1, .slice A0_2 l0_2.length c0_2, .int .i64 a0_3, .int .i64 a0_4, .int .i64 a0_5]] rfl mpx ?_; (with_reducible refine (spec_l5Copy.calls a0_0 _ _ l0_1 _ _ l0_2 a0_3 a0_4 a0_5 t778 t779 t782 t785 t786 t787 _ ?side1 ?side2 ?side3 ?side4 A2.out).mono ?_); (case side1 => exact pkC (Kd.C_below HR0_1.out HB.out)); (case side2 => exact HC0_1.out); (case side3 => exact pkC (Kd.C_below HR0_2.out HB.out)); (case side4 => exact HC0_2.out); rintro e w66 ⟨v780, v783, rfl, ho0, ho1, hb⟩; refine ⟨_, rfl, ?_⟩; have HO781 := am (Kd.R_lower ho0 (below_size (pkW HB.out))); have HO784 := am (Kd.R_lower ho1 (below_size (pkW HB.out))); replace BK776 := am (blk_below (pkK BK776.out) hb); replace BK777 := am (blk_below (pkK BK777.out) hb); replace HB := am (below_step (pkW HB.out) hb); (try clear hb ho0 ho1)) | ((with_reducible refine gate_dst (N := 5) rfl ?_); refine box_event ?hg (N := 5) ?hd (cs := #[.bool false, .slice none 0 0, .slice none 0 0, .int .i64 0, .int .i64 0, .int .i64 0]) (t := 38) ?hr ?_; (case hd => rfl); (case hg => rfl); (case hr => first | (go_simp; done) | (go_simp; rfl)); intro gb788 hg w67 hbox hb; replace HO781 := am (Kd.R_below (pkR HO781.out) hb); replace HO784 := am (Kd.R_below (pkR HO784.out) hb); have BK788 := am (hbox); have GW788 := am ((by rw [hg]; exact (below_size (pkW HB.out)) : w.heap.size ≤ gb788)); have GE788 := am ((by rw [hg]; exact (below_size (pkW HB.out)) : w.heap.size ≤ gb788)); replace HB := am (below_step (pkW HB.out) hb); have NB776_788 := am ((by rw [hg]; exact Nat.ne_of_lt (blk_lt (g := gb776) (o := .cells #[.bool a0_0, .slice A0_1 l0_1.length c0_1, .slice A0_2 l0_2.length c0_2, .int .i64 a0_3, .int .i64 a0_4, .int .i64 a0_5] 38 (0, 0)) (pkK BK776.out)) : gb776 ≠ gb788)); have NB788_776 := am ((by rw [hg]; exact Nat.ne_of_gt (blk_lt (g := gb776) (o := .cells #[.bool a0_0, .slice A0_1 l0_1.length c0_1, .slice A0_2 l0_2.length c0_2, .int .i64 a0_3, .int .i64 a0_4, .int .i64 a0_5] 38 (0, 0)) (pkK BK776.out)) : gb788 ≠ gb776)); replace BK776 := am (blk_below (pkK BK776.out) hb); have NB777_788 := am ((by rw [hg]; exact Nat.ne_of_lt (blk_lt (g := gb777) (o := .cells #[.bool false, .slice none 0 0, .slice none 0 0, .int .i64 0, .int .i64 0, .int .i64 0] 38 (0, 0)) (pkK BK777.out)) : gb777 ≠ gb788)); have NB788_777 := am ((by rw [hg]; exact Nat.ne_of_gt (blk_lt (g := gb777) (o := .cells #[.bool false, .slice none 0 0, .slice none 0 0, .int .i64 0, .int .i64 0, .int .i64 0] 38 (0, 0)) (pkK BK777.out)) : gb788 ≠ gb777)); replace BK777 := am (blk_below (pkK BK777.out) hb); clear hb hbox hg; have hnb68 := NB788_776.out; have hnc68 := NB776_788.out; have hnb69 := NB788_777.out; have hnc69 := NB777_788.out; obtain ⟨hcz70_0, hcz70_1, hcz70_2, hcz70_3, hcz70_4, hcz70_5, hfz70_0, hfz70_1, hfz70_2, hfz70_3, hfz70_4, hfz70_5⟩ := bk6 BK788.out; obtain ⟨Ao71, co71, eo71⟩ := Kd.R_slice HO781.out; subst eo71; obtain ⟨Ao72, co72, eo72⟩ := Kd.R_slice HO784.out; subst eo72; obtain ⟨hcz73_0, hcz73_1, hcz73_2, hcz73_3, hcz73_4, hcz73_5, hfz73_0, hfz73_1, hfz73_2, hfz73_3, hfz73_4, hfz73_5⟩ := bk6 BK776.out) | ((with_reducible refine gate_callee (f := 20) rfl ?_); refine goesL_ (some 11) rfl rfl Try.func20 (by kernel_rfl) rfl #[.agg #[.bool a0_0, .slice A0_1 l0_1.length c0_1, .slice A0_2 l0_2.length c0_2, .int .i64 a0_3, .int .i64 a0_4, .int .i64 a0_5]] rfl mpx ?_; (with_reducible refine (spec_NotifyOk.calls k a0_0 _ _ l0_1 _ _ l0_2 a0_3 a0_4 a0_5 false _ ?side1 ?side2 ?side3 ?side4 A3.out).mono ?_); (case side1 => exact Kd.C_below HR0_1.out (pkW HB.out)); (case side2 => exact HC0_1.out); (case side3 => exact Kd.C_below HR0_2.out (pkW HB.out)); (case side4 => exact HC0_2.out); rintro e w74 ⟨rfl, hb⟩; refine ⟨_, rfl, ?_⟩; replace HO781 := am (Kd.R_below (by (with_reducible repeat (first | apply Kd.R_alloc | apply Kd.R_drewN | apply Kd.R_drew)); exact (Kd.R_mono (Kd.R_far (p := ⟨gb788, 5, none⟩) (Kd.R_far (p := ⟨gb788, 4, none⟩) (Kd.R_far (p := ⟨gb788, 3, none⟩) (Kd.R_far (p := ⟨gb788, 2, none⟩) (Kd.R_far (p := ⟨gb788, 1, none⟩) (Kd.R_far (p := ⟨gb788, 0, none⟩) (Kd.R_types HO781.out BK788.out (by decide)) (fun _ hk => hk.2) (.bool t778)) (fun _ hk => hk.2) (.slice Ao71 t779.length co71)) (fun _ hk => hk.2) (.slice Ao72 t782.length co72)) (fun _ hk => hk.2) (.int .i64 t785)) (fun _ hk => hk.2) (.int .i64 t786)) (fun _ hk => hk.2) (.int .i64 t787)) (fun _ h_ => h_.1))) hb); replace HO784 := am (Kd.R_below (by (with_reducible repeat (first | apply Kd.R_alloc | apply Kd.R_drewN | apply Kd.R_drew)); exact (Kd.R_mono (Kd.R_far (p := ⟨gb788, 5, none⟩) (Kd.R_far (p := ⟨gb788, 4, none⟩) (Kd.R_far (p := ⟨gb788, 3, none⟩) (Kd.R_far (p := ⟨gb788, 2, none⟩) (Kd.R_far (p := ⟨gb788, 1, none⟩) (Kd.R_far (p := ⟨gb788, 0, none⟩) (Kd.R_types HO784.out BK788.out (by decide)) (fun _ hk => hk.2) (.bool t778)) (fun _ hk => hk.2) (.slice Ao71 t779.length co71)) (fun _ hk => hk.2) (.slice Ao72 t782.length co72)) (fun _ hk => hk.2) (.int .i64 t785)) (fun _ hk => hk.2) (.int .i64 t786)) (fun _ hk => hk.2) (.int .i64 t787)) (fun _ h_ => h_.1))) hb); replace BK776 := am (blk_below (g := gb776) (o := .cells #[.bool a0_0, .slice A0_1 l0_1.length c0_1, .slice A0_2 l0_2.length c0_2, .int .i64 a0_3, .int .i64 a0_4, .int .i64 a0_5] 38 (0, 0)) (by (with_reducible repeat (first | refine blk_drewN ?_ _ | refine blk_drew ?_ | refine blk_alloc ?_ _)); refine blk_far ?_ NB776_788.out _; (with_reducible repeat (first | refine blk_drewN ?_ _ | refine blk_drew ?_ | refine blk_alloc ?_ _)); refine blk_far ?_ NB776_788.out _; (with_reducible repeat (first | refine blk_drewN ?_ _ | refine blk_drew ?_ | refine blk_alloc ?_ _)); refine blk_far ?_ NB776_788.out _; (with_reducible repeat (first | refine blk_drewN ?_ _ | refine blk_drew ?_ | refine blk_alloc ?_ _)); refine blk_far ?_ NB776_788.out _; (with_reducible repeat (first | refine blk_drewN ?_ _ | refine blk_drew ?_ | refine blk_alloc ?_ _)); refine blk_far ?_ NB776_788.out _; (with_reducible repeat (first | refine blk_drewN ?_ _ | refine blk_drew ?_ | refine blk_alloc ?_ _)); refine blk_far ?_ NB776_788.out _; exact pkK BK776.out) hb); replace BK777 := am (blk_below (g := gb777) (o := .cells #[.bool false, .slice none 0 0, .slice none 0 0, .int .i64 0, .int .i64 0, .int .i64 0] 38 (0, 0)) (by (with_reducible repeat (first | refine blk_drewN ?_ _ | refine blk_drew ?_ | refine blk_alloc ?_ _)); refine blk_far ?_ NB777_788.out _; (with_reducible repeat (first | refine blk_drewN ?_ _ | refine blk_drew ?_ | refine blk_alloc ?_ _)); refine blk_far ?_ NB777_788.out _; (with_reducible repeat (first | refine blk_drewN ?_ _ | refine blk_drew ?_ | refine blk_alloc ?_ _)); refine blk_far ?_ NB777_788.out _; (with_reducible repeat (first | refine blk_drewN ?_ _ | refine blk_drew ?_ | refine blk_alloc ?_ _)); refine blk_far ?_ NB777_788.out _; (with_reducible repeat (first | refine blk_drewN ?_ _ | refine blk_drew ?_ | refine blk_alloc ?_ _)); refine blk_far ?_ NB777_788.out _; (with_reducible repeat (first | refine blk_drewN ?_ _ | refine blk_drew ?_ | refine blk_alloc ?_ _)); refine blk_far ?_ NB777_788.out _; exact pkK BK777.out) hb); replace BK788 := am (blk_below (g := gb788) (o := .cells #[.bool t778, .slice Ao71 t779.length co71, .slice Ao72 t782.length co72, .int .i64 t785, .int .i64 t786, .int .i64 t787] 38 (0, 0)) (by (with_reducible repeat (first | refine blk_drewN ?_ _ | refine blk_drew ?_ | refine blk_alloc ?_ _)); refine blk_put (cs := #[.bool t778, .slice Ao71 t779.length co71, .slice Ao72 t782.length co72, .int .i64 t785, .int .i64 t786, .int .i64 0]) ?_ 5 _ rfl; (with_reducible repeat (first | refine blk_drewN ?_ _ | refine blk_drew ?_ | refine blk_alloc ?_ _)); refine blk_put (cs := #[.bool t778, .slice Ao71 t779.length co71, .slice Ao72 t782.length co72, .int .i64 t785, .int .i64 0, .int .i64 0]) ?_ 4 _ rfl; (with_reducible repeat (first | refine blk_drewN ?_ _ | refine blk_drew ?_ | refine blk_alloc ?_ _)); refine blk_put (cs := #[.bool t778, .slice Ao71 t779.length co71, .slice Ao72 t782.length co72, .int .i64 0, .int .i64 0, .int .i64 0]) ?_ 3 _ rfl; (with_reducible repeat (first | refine blk_drewN ?_ _ | refine blk_drew ?_ | refine blk_alloc ?_ _)); refine blk_put (cs := #[.bool t778, .slice Ao71 t779.length co71, .slice none 0 0, .int .i64 0, .int .i64 0, .int .i64 0]) ?_ 2 _ rfl; (with_reducible repeat (first | refine blk_drewN ?_ _ | refine blk_drew ?_ | refine blk_alloc ?_ _)); refine blk_put (cs := #[.bool t778, .slice none 0 0, .slice none 0 0, .int .i64 0, .int .i64 0, .int .i64 0]) ?_ 1 _ rfl; (with_reducible repeat (first | refine blk_drewN ?_ _ | refine blk_drew ?_ | refine blk_alloc ?_ _)); refine blk_put (cs := #[.bool false, .slice none 0 0, .slice none 0 0, .int .i64 0, .int .i64 0, .int .i64 0]) ?_ 0 _ rfl; exact pkK BK788.out) hb); replace HB := am (below_step (pkW HB.out) hb); (try clear hb); obtain ⟨hcz75_0, hcz75_1, hcz75_2, hcz75_3, hcz75_4, hcz75_5, hfz75_0, hfz75_1, hfz75_2, hfz75_3, hfz75_4, hfz75_5⟩ := bk6 BK788.out; obtain ⟨hcz76_0, hcz76_1, hcz76_2, hcz76_3, hcz76_4, hcz76_5, hfz76_0, hfz76_1, hfz76_2, hfz76_3, hfz76_4, hfz76_5⟩ := bk6 BK777.out))
  refine bodyPost_ret (results_ctt rfl _ _ gb777 38 #[.bool t778, .slice Ao71 t779.length co71, .slice Ao72 t782.length co72, .int .i64 t785, .int .i64 t786, .int .i64 t787] (0, 0) _ rfl (by (with_reducible repeat (first | refine blk_drewN ?_ _ | refine blk_drew ?_ | refine blk_alloc ?_ _)); refine blk_put (cs := #[.bool t778, .slice Ao71 t779.length co71, .slice Ao72 t782.length co72, .int .i64 t785, .int .i64 t786, .int .i64 0]) ?_ 5 _ rfl; (with_reducible repeat (first | refine blk_drewN ?_ _ | refine blk_drew ?_ | refine blk_alloc ?_ _)); refine blk_put (cs := #[.bool t778, .slice Ao71 t779.length co71, .slice Ao72 t782.length co72, .int .i64 t785, .int .i64 0, .int .i64 0]) ?_ 4 _ rfl; (with_reducible repeat (first | refine blk_drewN ?_ _ | refine blk_drew ?_ | refine blk_alloc ?_ _)); refine blk_put (cs := #[.bool t778, .slice Ao71 t779.length co71, .slice Ao72 t782.length co72, .int .i64 0, .int .i64 0, .int .i64 0]) ?_ 3 _ rfl; (with_reducible repeat (first | refine blk_drewN ?_ _ | refine blk_drew ?_ | refine blk_alloc ?_ _)); refine blk_put (cs := #[.bool t778, .slice Ao71 t779.length co71, .slice none 0 0, .int .i64 0, .int .i64 0, .int .i64 0]) ?_ 2 _ rfl; (with_reducible repeat (first | refine blk_drewN ?_ _ | refine blk_drew ?_ | refine blk_alloc ?_ _)); refine blk_put (cs := #[.bool t778, .slice none 0 0, .slice none 0 0, .int .i64 0, .int .i64 0, .int .i64 0]) ?_ 1 _ rfl; (with_reducible repeat (first | refine blk_drewN ?_ _ | refine blk_drew ?_ | refine blk_alloc ?_ _)); refine blk_put (cs := #[.bool false, .slice none 0 0, .slice none 0 0, .int .i64 0, .int .i64 0, .int .i64 0]) ?_ 0 _ rfl; exact pkK BK777.out) Try.underlying38 rfl (by kernel_rfl)) rfl ?_
  exact ⟨_, _, _, rfe, by (with_reducible repeat (first | apply Kd.R_alloc | apply Kd.R_drewN | apply Kd.R_drew)); exact Kd.R_mono (Kd.R_far (p := ⟨gb777, 5, none⟩) (Kd.R_far (p := ⟨gb777, 4, none⟩) (Kd.R_far (p := ⟨gb777, 3, none⟩) (Kd.R_far (p := ⟨gb777, 2, none⟩) (Kd.R_far (p := ⟨gb777, 1, none⟩) (Kd.R_far (p := ⟨gb777, 0, none⟩) (Kd.R_types HO781.out BK777.out (by decide)) (fun _ hk => hk.2) (.bool t778)) (fun _ hk => hk.2) (.slice Ao71 t779.length co71)) (fun _ hk => hk.2) (.slice Ao72 t782.length co72)) (fun _ hk => hk.2) (.int .i64 t785)) (fun _ hk => hk.2) (.int .i64 t786)) (fun _ hk => hk.2) (.int .i64 t787)) (fun _ hk => (by simp [Value.ownBlock])), by (with_reducible repeat (first | apply Kd.R_alloc | apply Kd.R_drewN | apply Kd.R_drew)); exact Kd.R_mono (Kd.R_far (p := ⟨gb777, 5, none⟩) (Kd.R_far (p := ⟨gb777, 4, none⟩) (Kd.R_far (p := ⟨gb777, 3, none⟩) (Kd.R_far (p := ⟨gb777, 2, none⟩) (Kd.R_far (p := ⟨gb777, 1, none⟩) (Kd.R_far (p := ⟨gb777, 0, none⟩) (Kd.R_types HO784.out BK777.out (by decide)) (fun _ hk => hk.2) (.bool t778)) (fun _ hk => hk.2) (.slice Ao71 t779.length co71)) (fun _ hk => hk.2) (.slice Ao72 t782.length co72)) (fun _ hk => hk.2) (.int .i64 t785)) (fun _ hk => hk.2) (.int .i64 t786)) (fun _ hk => hk.2) (.int .i64 t787)) (fun _ hk => trivial), by first | exact Kd.R_nil _ _ _ _ _ | exact Kd.N_nil _ _ _ _ _ | exact Kd.V_nil _ _ _ _ _ | exact Kd.Q_nil _ _ _ _ _ | exact Kd.S_nil _ _ _ _ _, pkW HB.out⟩
end Go.Proofs.Ytdagpmnadapbjaa.Z
