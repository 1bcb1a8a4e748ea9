/- Go code comes to just these functions; conditions: in each theorem. -/
import Derived.Test.YtdagpmnadapbjaaZx0
import Derived.Test.YtdagpmnadapbjaaZx7
import Derived.Test.YtdagpmnadapbjaaZx11
import Derived.Test.YtdagpmnadapbjaaZx22
namespace Go.Proofs.Ytdagpmnadapbjaa.Z
open Go.RowKit Go.Proofs.YtdagpmnadapbjaaW.PrintWords Go.Proofs.YtdagpmnadapbjaaW.PrintLast Go.Proofs.YtdagpmnadapbjaaW.PrintMore
attribute [local go_sem] max2_int min2_int max_two min_two max_three min_three max_four min_four   -- for this text's walks alone
set_option linter.unusedVariables false
set_option linter.unusedSimpArgs false
mutual
def impl_Stand.j0 : Nat → Int → Bool → Bool → Bool → List Int → List Int → Int → Int → Int → Bool → Bool → List Int → List Int → Int → Int → Int → Option (Bool × Bool × List Int × List Int × Int × Int × Int × Int)
 | 0, _, _, _, _, _, _, _, _, _, _, _, _, _, _, _, _ => none
 | k + 1, x1, x9, x481000, x481001, x481002, x481003, x481004, x481005, x481006, x494000, x494001, x494002, x494003, x494004, x494005, x494006 => if x9 = true then (some (x494000, x494001, x494002, x494003, x494004, x494005, x494006, 1)) else ((slices_Contains_int_int.f k x481002 x1).bind fun t496 => (if t496 = true then (impl_Stand.j1 k x1 true x481000 x481001 x481002 x481003 x481004 x481005 x481006 x494000 x494001 x494002 x494003 x494004 x494005 x494006) else ((slices_Contains_int_int.f k x481003 x1).bind fun t497 => (impl_Stand.j1 k x1 t497 x481000 x481001 x481002 x481003 x481004 x481005 x481006 x494000 x494001 x494002 x494003 x494004 x494005 x494006))))
def impl_Stand.j1 : Nat → Int → Bool → Bool → Bool → List Int → List Int → Int → Int → Int → Bool → Bool → List Int → List Int → Int → Int → Int → Option (Bool × Bool × List Int × List Int × Int × Int × Int × Int)
 | 0, _, _, _, _, _, _, _, _, _, _, _, _, _, _, _, _ => none
 | k + 1, x1, x19, x481000, x481001, x481002, x481003, x481004, x481005, x481006, x494000, x494001, x494002, x494003, x494004, x494005, x494006 => if x19 = true then (some (x494000, x494001, x494002, x494003, x494004, x494005, x494006, 5)) else (if x481000 = true then (if x481006 = 1000000000 then (impl_Stand.j2 k x1 true x481000 x481001 x481002 x481003 x481004 x481005 x481006 x494000 x494001 x494002 x494003 x494004 x494005 x494006) else (if x481001 = true then (impl_Stand.j2 k x1 false x481000 x481001 x481002 x481003 x481004 x481005 x481006 x494000 x494001 x494002 x494003 x494004 x494005 x494006) else (impl_Stand.j2 k x1 ((x481002.length : Int) == 32) x481000 x481001 x481002 x481003 x481004 x481005 x481006 x494000 x494001 x494002 x494003 x494004 x494005 x494006))) else (if x481001 = true then (impl_Stand.j2 k x1 false x481000 x481001 x481002 x481003 x481004 x481005 x481006 x494000 x494001 x494002 x494003 x494004 x494005 x494006) else (impl_Stand.j2 k x1 ((x481002.length : Int) == 32) x481000 x481001 x481002 x481003 x481004 x481005 x481006 x494000 x494001 x494002 x494003 x494004 x494005 x494006)))
def impl_Stand.j2 : Nat → Int → Bool → Bool → Bool → List Int → List Int → Int → Int → Int → Bool → Bool → List Int → List Int → Int → Int → Int → Option (Bool × Bool × List Int × List Int × Int × Int × Int × Int)
 | 0, _, _, _, _, _, _, _, _, _, _, _, _, _, _, _, _ => none
 | k + 1, x1, x31, x481000, x481001, x481002, x481003, x481004, x481005, x481006, x494000, x494001, x494002, x494003, x494004, x494005, x494006 => if x31 = true then (some (x494000, x494001, x494002, x494003, x494004, x494005, x494006, 2)) else (if x481001 = true then (impl_Stand.j3 k x1 x481000 x481000 x481001 x481002 x481003 x481004 x481005 x481006 x494000 x494001 x494002 x494003 x494004 x494005 x494006) else (impl_Stand.j3 k x1 false x481000 x481001 x481002 x481003 x481004 x481005 x481006 x494000 x494001 x494002 x494003 x494004 x494005 x494006))
def impl_Stand.j3 : Nat → Int → Bool → Bool → Bool → List Int → List Int → Int → Int → Int → Bool → Bool → List Int → List Int → Int → Int → Int → Option (Bool × Bool × List Int × List Int × Int × Int × Int × Int)
 | 0, _, _, _, _, _, _, _, _, _, _, _, _, _, _, _, _ => none
 | k + 1, x1, x51, x481000, x481001, x481002, x481003, x481004, x481005, x481006, x494000, x494001, x494002, x494003, x494004, x494005, x494006 => if x51 = true then (some (x494000, false, x494002, x494003, x494004, x494005, wrap64 (x494006 + 1), 0)) else (if x481001 = true then (some (x494000, x494001, x494002, x494003, x494004, x494005, x494006, 0)) else (if x494002.length < 17592186044416 then (some (x494000, x494001, (x494002 ++ [x1]), x494003, x494004, x494005, x494006, 4)) else (none)))
end
def impl_Stand.f (k : Nat) (a0_0 : Bool) (a0_1 : Bool) (l0_2 : List Int) (l0_3 : List Int) (a0_4 : Int) (a0_5 : Int) (a0_6 : Int) (a1 : Int) : Option (Bool × Bool × List Int × List Int × Int × Int × Int × Int) := (impl_copyEvent.f a0_0 a0_1 l0_2 l0_3 a0_4 a0_5 a0_6).bind fun bt482 => ((impl_EventOk.f k a0_0 a0_1 l0_2 l0_3 a0_4 a0_5 a0_6).bind fun t494 => (if t494 = true then ((impl_isClient.f a1).bind fun t495 => (impl_Stand.j0 k a1 (!t495) a0_0 a0_1 l0_2 l0_3 a0_4 a0_5 a0_6 bt482.1 bt482.2.1 bt482.2.2.1 bt482.2.2.2.1 bt482.2.2.2.2.1 bt482.2.2.2.2.2.1 bt482.2.2.2.2.2.2)) else (impl_Stand.j0 k a1 true a0_0 a0_1 l0_2 l0_3 a0_4 a0_5 a0_6 bt482.1 bt482.2.1 bt482.2.2.1 bt482.2.2.2.1 bt482.2.2.2.2.1 bt482.2.2.2.2.2.1 bt482.2.2.2.2.2.2)))
theorem impl_Stand.mono_l : ∀ k, (∀ y0 y1 y2 y3 y4 y5 y6 y7 y8 y9 y10 y11 y12 y13 y14 y15, LeO (impl_Stand.j0 k y0 y1 y2 y3 y4 y5 y6 y7 y8 y9 y10 y11 y12 y13 y14 y15) (impl_Stand.j0 (k + 1) y0 y1 y2 y3 y4 y5 y6 y7 y8 y9 y10 y11 y12 y13 y14 y15)) ∧ (∀ y0 y1 y2 y3 y4 y5 y6 y7 y8 y9 y10 y11 y12 y13 y14 y15, LeO (impl_Stand.j1 k y0 y1 y2 y3 y4 y5 y6 y7 y8 y9 y10 y11 y12 y13 y14 y15) (impl_Stand.j1 (k + 1) y0 y1 y2 y3 y4 y5 y6 y7 y8 y9 y10 y11 y12 y13 y14 y15)) ∧ (∀ y0 y1 y2 y3 y4 y5 y6 y7 y8 y9 y10 y11 y12 y13 y14 y15, LeO (impl_Stand.j2 k y0 y1 y2 y3 y4 y5 y6 y7 y8 y9 y10 y11 y12 y13 y14 y15) (impl_Stand.j2 (k + 1) y0 y1 y2 y3 y4 y5 y6 y7 y8 y9 y10 y11 y12 y13 y14 y15)) ∧ (∀ y0 y1 y2 y3 y4 y5 y6 y7 y8 y9 y10 y11 y12 y13 y14 y15, LeO (impl_Stand.j3 k y0 y1 y2 y3 y4 y5 y6 y7 y8 y9 y10 y11 y12 y13 y14 y15) (impl_Stand.j3 (k + 1) y0 y1 y2 y3 y4 y5 y6 y7 y8 y9 y10 y11 y12 y13 y14 y15))
 | 0 => ⟨fun _ _ _ _ _ _ _ _ _ _ _ _ _ _ _ _ r h => by simp [impl_Stand.j0] at h, fun _ _ _ _ _ _ _ _ _ _ _ _ _ _ _ _ r h => by simp [impl_Stand.j1] at h, fun _ _ _ _ _ _ _ _ _ _ _ _ _ _ _ _ r h => by simp [impl_Stand.j2] at h, fun _ _ _ _ _ _ _ _ _ _ _ _ _ _ _ _ r h => by simp [impl_Stand.j3] at h⟩
 | k + 1 => by
  obtain ⟨ih0, ih1, ih2, ih3⟩ := impl_Stand.mono_l k
  refine ⟨?_, ?_, ?_, ?_⟩
  ·intro y0 y1 y2 y3 y4 y5 y6 y7 y8 y9 y10 y11 y12 y13 y14 y15
   unfold impl_Stand.j0
   repeat' first
   | (with_reducible exact ih0 _ _ _ _ _ _ _ _ _ _ _ _ _ _ _ _)
   | (with_reducible exact ih1 _ _ _ _ _ _ _ _ _ _ _ _ _ _ _ _)
   | (with_reducible exact ih2 _ _ _ _ _ _ _ _ _ _ _ _ _ _ _ _)
   | (with_reducible exact ih3 _ _ _ _ _ _ _ _ _ _ _ _ _ _ _ _)
   | (with_reducible exact impl_EventOk.mono _ _ _ _ _ _ _ _)
   | (with_reducible exact slices_Contains_int_int.mono _ _ _)
   | (with_reducible exact LeO.refl _)
   | (with_reducible exact LeO.none _)
   | (with_reducible refine LeO.ite ?_ ?_)
   | (with_reducible refine LeO.bind ?_ (fun _ => ?_))
  ·intro y0 y1 y2 y3 y4 y5 y6 y7 y8 y9 y10 y11 y12 y13 y14 y15
   unfold impl_Stand.j1
   repeat' first
   | (with_reducible exact ih0 _ _ _ _ _ _ _ _ _ _ _ _ _ _ _ _)
   | (with_reducible exact ih1 _ _ _ _ _ _ _ _ _ _ _ _ _ _ _ _)
   | (with_reducible exact ih2 _ _ _ _ _ _ _ _ _ _ _ _ _ _ _ _)
   | (with_reducible exact ih3 _ _ _ _ _ _ _ _ _ _ _ _ _ _ _ _)
   | (with_reducible exact impl_EventOk.mono _ _ _ _ _ _ _ _)
   | (with_reducible exact slices_Contains_int_int.mono _ _ _)
   | (with_reducible exact LeO.refl _)
   | (with_reducible exact LeO.none _)
   | (with_reducible refine LeO.ite ?_ ?_)
   | (with_reducible refine LeO.bind ?_ (fun _ => ?_))
  ·intro y0 y1 y2 y3 y4 y5 y6 y7 y8 y9 y10 y11 y12 y13 y14 y15
   unfold impl_Stand.j2
   repeat' first
   | (with_reducible exact ih0 _ _ _ _ _ _ _ _ _ _ _ _ _ _ _ _)
   | (with_reducible exact ih1 _ _ _ _ _ _ _ _ _ _ _ _ _ _ _ _)
   | (with_reducible exact ih2 _ _ _ _ _ _ _ _ _ _ _ _ _ _ _ _)
   | (with_reducible exact ih3 _ _ _ _ _ _ _ _ _ _ _ _ _ _ _ _)
   | (with_reducible exact impl_EventOk.mono _ _ _ _ _ _ _ _)
   | (with_reducible exact slices_Contains_int_int.mono _ _ _)
   | (with_reducible exact LeO.refl _)
   | (with_reducible exact LeO.none _)
   | (with_reducible refine LeO.ite ?_ ?_)
   | (with_reducible refine LeO.bind ?_ (fun _ => ?_))
  ·intro y0 y1 y2 y3 y4 y5 y6 y7 y8 y9 y10 y11 y12 y13 y14 y15
   unfold impl_Stand.j3
   repeat' first
   | (with_reducible exact ih0 _ _ _ _ _ _ _ _ _ _ _ _ _ _ _ _)
   | (with_reducible exact ih1 _ _ _ _ _ _ _ _ _ _ _ _ _ _ _ _)
   | (with_reducible exact ih2 _ _ _ _ _ _ _ _ _ _ _ _ _ _ _ _)
   | (with_reducible exact ih3 _ _ _ _ _ _ _ _ _ _ _ _ _ _ _ _)
   | (with_reducible exact impl_EventOk.mono _ _ _ _ _ _ _ _)
   | (with_reducible exact slices_Contains_int_int.mono _ _ _)
   | (with_reducible exact LeO.refl _)
   | (with_reducible exact LeO.none _)
   | (with_reducible refine LeO.ite ?_ ?_)
   | (with_reducible refine LeO.bind ?_ (fun _ => ?_))
theorem impl_Stand.mono : ∀ a0 a1 a2 a3 a4 a5 a6 a7 k, LeO (impl_Stand.f k a0 a1 a2 a3 a4 a5 a6 a7) (impl_Stand.f (k + 1) a0 a1 a2 a3 a4 a5 a6 a7) := by
 intro a0 a1 a2 a3 a4 a5 a6 a7 k
 obtain ⟨ih0, ih1, ih2, ih3⟩ := impl_Stand.mono_l k
 unfold impl_Stand.f
 repeat' first
   | (with_reducible exact ih0 _ _ _ _ _ _ _ _ _ _ _ _ _ _ _ _)
   | (with_reducible exact ih1 _ _ _ _ _ _ _ _ _ _ _ _ _ _ _ _)
   | (with_reducible exact ih2 _ _ _ _ _ _ _ _ _ _ _ _ _ _ _ _)
   | (with_reducible exact ih3 _ _ _ _ _ _ _ _ _ _ _ _ _ _ _ _)
   | (with_reducible exact impl_EventOk.mono _ _ _ _ _ _ _ _)
   | (with_reducible exact slices_Contains_int_int.mono _ _ _)
   | (with_reducible exact LeO.refl _)
   | (with_reducible exact LeO.none _)
   | (with_reducible refine LeO.ite ?_ ?_)
   | (with_reducible refine LeO.bind ?_ (fun _ => ?_))
set_option maxHeartbeats 8000000 in
set_option maxRecDepth 100000 in
theorem impl_Stand.calls (k : Nat) (a0_0 : Bool) (a0_1 : Bool) (A0_2 : Option Addr) (c0_2 : Nat) (l0_2 : List Int) (A0_3 : Option Addr) (c0_3 : Nat) (l0_3 : List Int) (a0_4 : Int) (a0_5 : Int) (a0_6 : Int) (a1 : Int) (r1 : Bool) (r2 : Bool) (r3 : List Int) (r4 : List Int) (r5 : Int) (r6 : Int) (r7 : Int) (r8 : Int) (w : World) (hr0_2 : Kd.C (Kd.int .i64) w A0_2 l0_2.length l0_2) (hc0_2 : l0_2.length ≤ c0_2) (hr0_3 : Kd.C (Kd.int .i64) w A0_3 l0_3.length l0_3) (hc0_3 : l0_3.length ≤ c0_3) (h : impl_Stand.f k a0_0 a0_1 l0_2 l0_3 a0_4 a0_5 a0_6 a1 = some (r1, r2, r3, r4, r5, r6, r7, r8)) :
  Calls Try.prog 29 #[.agg #[.bool a0_0, .bool a0_1, .slice A0_2 l0_2.length c0_2, .slice A0_3 l0_3.length c0_3, .int .i64 a0_4, .int .i64 a0_5, .int .i64 a0_6], .int .i64 a1] w fun e w' => ∃ v2_ v3_ : Value, e = .returned (.tuple #[.agg #[.bool r1, .bool r2, v2_, v3_, .int .i64 r5, .int .i64 r6, .int .i64 r7], .int .i64 r8]) ∧ Kd.R (Kd.int .i64) 3 w' w.heap.size (fun k_ => some k_ ≠ (v3_ : Value).ownBlock) v2_ r3 ∧ Kd.R (Kd.int .i64) 3 w' w.heap.size (fun k_ => some k_ ≠ (v2_ : Value).ownBlock) v3_ r4 ∧ Below w.heap.size w w' := by
 have hu27 := Try.underlying27
 have HR0_2 := am hr0_2
 have HC0_2 := am hc0_2
 clear hr0_2 hc0_2
 have HR0_3 := am hr0_3
 have HC0_3 := am hc0_3
 clear hr0_3 hc0_3
 have HB := am (Below.refl w.heap.size w)
 have H : ((impl_copyEvent.f a0_0 a0_1 l0_2 l0_3 a0_4 a0_5 a0_6).bind fun bt482 => ((impl_EventOk.f k a0_0 a0_1 l0_2 l0_3 a0_4 a0_5 a0_6).bind fun t494 => (if t494 = true then ((impl_isClient.f a1).bind fun t495 => (impl_Stand.j0 k a1 (!t495) a0_0 a0_1 l0_2 l0_3 a0_4 a0_5 a0_6 bt482.1 bt482.2.1 bt482.2.2.1 bt482.2.2.2.1 bt482.2.2.2.2.1 bt482.2.2.2.2.2.1 bt482.2.2.2.2.2.2)) else (impl_Stand.j0 k a1 true a0_0 a0_1 l0_2 l0_3 a0_4 a0_5 a0_6 bt482.1 bt482.2.1 bt482.2.2.1 bt482.2.2.2.1 bt482.2.2.2.2.1 bt482.2.2.2.2.2.1 bt482.2.2.2.2.2.2)))) = some (r1, r2, r3, r4, r5, r6, r7, r8) := h
 clear h
 replace H := Option.bind_eq_some_iff.mp H
 obtain ⟨⟨t482, t483, t484, t487, t490, t491, t492⟩, A30, H⟩ := H
 replace H : ((impl_EventOk.f k a0_0 a0_1 l0_2 l0_3 a0_4 a0_5 a0_6).bind fun t494 => (if t494 = true then ((impl_isClient.f a1).bind fun t495 => (impl_Stand.j0 k a1 (!t495) a0_0 a0_1 l0_2 l0_3 a0_4 a0_5 a0_6 t482 t483 t484 t487 t490 t491 t492)) else (impl_Stand.j0 k a1 true a0_0 a0_1 l0_2 l0_3 a0_4 a0_5 a0_6 t482 t483 t484 t487 t490 t491 t492))) = some (r1, r2, r3, r4, r5, r6, r7, r8) := H
 have A3 := am A30
 clear A30
 have HC4 := am H
 clear H
 go_enter Try.func29, Try.ntmps29
 go_upto_region 2 with (first | ((with_reducible refine gate_dst (N := 2) rfl ?_); (try (refine gate_guard (by rfl) ?_; dsimp only)); refine box_event ?hg (N := 2) ?hd (cs := #[.bool a0_0, .bool a0_1, .slice A0_2 l0_2.length c0_2, .slice A0_3 l0_3.length c0_3, .int .i64 a0_4, .int .i64 a0_5, .int .i64 a0_6]) (t := 27) ?hr ?_; (case hd => rfl); (case hg => rfl); (case hr => first | (go_simp; done) | (go_simp; rfl)); intro gb480 hg w5 hbox hb; have BK480 := am (hbox); have GW480 := am ((by rw [hg]; exact (below_size (pkB HB.out)) : w.heap.size ≤ gb480)); have GE480 := am ((by rw [hg]; exact (below_size (pkB HB.out)) : w.heap.size ≤ gb480)); replace HB := am (below_step (pkB HB.out) hb); clear hb hbox hg) | ((with_reducible refine gate_dst (N := 4) rfl ?_); (try (refine gate_guard (by rfl) ?_; dsimp only)); refine box_event ?hg (N := 4) ?hd (cs := #[.bool false, .bool false, .slice none 0 0, .slice none 0 0, .int .i64 0, .int .i64 0, .int .i64 0]) (t := 27) ?hr ?_; (case hd => rfl); (case hg => rfl); (case hr => first | (go_simp; done) | (go_simp; rfl)); intro gb481 hg w6 hbox hb; have BK481 := am (hbox); have GW481 := am ((by rw [hg]; exact (below_size (pkW HB.out)) : w.heap.size ≤ gb481)); have GE481 := am ((by rw [hg]; exact (below_size (pkW HB.out)) : w.heap.size ≤ gb481)); replace HB := bst HB hb; have NB480_481 := am ((by rw [hg]; exact Nat.ne_of_lt (blk_lt (g := gb480) (o := .cells #[.bool a0_0, .bool a0_1, .slice A0_2 l0_2.length c0_2, .slice A0_3 l0_3.length c0_3, .int .i64 a0_4, .int .i64 a0_5, .int .i64 a0_6] 27 (0, 0)) (pkK BK480.out)) : gb480 ≠ gb481)); have NB481_480 := am ((by rw [hg]; exact Nat.ne_of_gt (blk_lt (g := gb480) (o := .cells #[.bool a0_0, .bool a0_1, .slice A0_2 l0_2.length c0_2, .slice A0_3 l0_3.length c0_3, .int .i64 a0_4, .int .i64 a0_5, .int .i64 a0_6] 27 (0, 0)) (pkK BK480.out)) : gb481 ≠ gb480)); replace BK480 := bbk BK480 hb; clear hb hbox hg; have hnb7 := NB480_481.out; have hnc7 := NB481_480.out; obtain ⟨hcz8_0, hcz8_1, hcz8_2, hcz8_3, hcz8_4, hcz8_5, hcz8_6, hfz8_0, hfz8_1, hfz8_2, hfz8_3, hfz8_4, hfz8_5, hfz8_6⟩ := bk7 BK480.out) | ((with_reducible refine gate_callee (f := 64) rfl ?_); refine goesL_ (some 8) rfl rfl Try.func64 (by kernel_rfl) rfl #[.agg #[.bool a0_0, .bool a0_1, .slice A0_2 l0_2.length c0_2, .slice A0_3 l0_3.length c0_3, .int .i64 a0_4, .int .i64 a0_5, .int .i64 a0_6]] rfl mpx ?_; (with_reducible refine (impl_copyEvent.calls a0_0 a0_1 _ _ l0_2 _ _ l0_3 a0_4 a0_5 a0_6 t482 t483 t484 t487 t490 t491 t492 _ ?side1 ?side2 ?side3 ?side4 A3.out).mono ?_); (case side1 => exact pkC (Kd.C_below HR0_2.out HB.out)); (case side2 => exact HC0_2.out); (case side3 => exact pkC (Kd.C_below HR0_3.out HB.out)); (case side4 => exact HC0_3.out); rintro e w9 ⟨v485, v488, rfl, ho0, ho1, hb⟩; refine ⟨_, rfl, ?_⟩; have HO486 := am (Kd.R_lower ho0 (below_size (pkW HB.out))); have HO489 := am (Kd.R_lower ho1 (below_size (pkW HB.out))); replace BK480 := bbk BK480 hb; replace BK481 := bbk BK481 hb; replace HB := bst HB hb; (try clear hb ho0 ho1)) | ((with_reducible refine gate_dst (N := 6) rfl ?_); (try (refine gate_guard (by rfl) ?_; dsimp only)); refine box_event ?hg (N := 6) ?hd (cs := #[.bool false, .bool false, .slice none 0 0, .slice none 0 0, .int .i64 0, .int .i64 0, .int .i64 0]) (t := 27) ?hr ?_; (case hd => rfl); (case hg => rfl); (case hr => first | (go_simp; done) | (go_simp; rfl)); intro gb493 hg w10 hbox hb; replace HO486 := rbl HO486 hb; replace HO489 := rbl HO489 hb; have BK493 := am (hbox); have GW493 := am ((by rw [hg]; exact (below_size (pkW HB.out)) : w.heap.size ≤ gb493)); have GE493 := am ((by rw [hg]; exact (below_size (pkW HB.out)) : w.heap.size ≤ gb493)); replace HB := bst HB hb; have NB480_493 := am ((by rw [hg]; exact Nat.ne_of_lt (blk_lt (g := gb480) (o := .cells #[.bool a0_0, .bool a0_1, .slice A0_2 l0_2.length c0_2, .slice A0_3 l0_3.length c0_3, .int .i64 a0_4, .int .i64 a0_5, .int .i64 a0_6] 27 (0, 0)) (pkK BK480.out)) : gb480 ≠ gb493)); have NB493_480 := am ((by rw [hg]; exact Nat.ne_of_gt (blk_lt (g := gb480) (o := .cells #[.bool a0_0, .bool a0_1, .slice A0_2 l0_2.length c0_2, .slice A0_3 l0_3.length c0_3, .int .i64 a0_4, .int .i64 a0_5, .int .i64 a0_6] 27 (0, 0)) (pkK BK480.out)) : gb493 ≠ gb480)); replace BK480 := bbk BK480 hb; have NB481_493 := am ((by rw [hg]; exact Nat.ne_of_lt (blk_lt (g := gb481) (o := .cells #[.bool false, .bool false, .slice none 0 0, .slice none 0 0, .int .i64 0, .int .i64 0, .int .i64 0] 27 (0, 0)) (pkK BK481.out)) : gb481 ≠ gb493)); have NB493_481 := am ((by rw [hg]; exact Nat.ne_of_gt (blk_lt (g := gb481) (o := .cells #[.bool false, .bool false, .slice none 0 0, .slice none 0 0, .int .i64 0, .int .i64 0, .int .i64 0] 27 (0, 0)) (pkK BK481.out)) : gb493 ≠ gb481)); replace BK481 := bbk BK481 hb; clear hb hbox hg; have hnb11 := NB493_480.out; have hnc11 := NB480_493.out; have hnb12 := NB493_481.out; have hnc12 := NB481_493.out; obtain ⟨hcz13_0, hcz13_1, hcz13_2, hcz13_3, hcz13_4, hcz13_5, hcz13_6, hfz13_0, hfz13_1, hfz13_2, hfz13_3, hfz13_4, hfz13_5, hfz13_6⟩ := bk7 BK493.out; obtain ⟨Ao14, co14, eo14⟩ := Kd.R_slice HO486.out; subst eo14; obtain ⟨Ao15, co15, eo15⟩ := Kd.R_slice HO489.out; subst eo15))
 (try simp only [Act.put, List.setIfInBounds_toArray, List.set_cons_zero, List.set_cons_succ])
 go_cut [9] (fun v9 wc => ∃ (kq : Nat) (x9_3 : Bool), v9 = .bool x9_3 ∧ Aside0 (impl_Stand.j0 kq a1 x9_3 a0_0 a0_1 l0_2 l0_3 a0_4 a0_5 a0_6 t482 t483 t484 t487 t490 t491 t492 = some (r1, r2, r3, r4, r5, r6, r7, r8)) ∧ Aside0 (kq ≤ k) ∧ Aside0 (Kd.R (Kd.int .i64) 3 wc w.heap.size (fun k_ => some k_ ≠ ((.slice Ao15 t487.length co15) : Value).ownBlock) (.slice Ao14 t484.length co14) t484) ∧ Aside0 (Kd.R (Kd.int .i64) 3 wc w.heap.size (fun k_ => some k_ ≠ ((.slice Ao14 t484.length co14) : Value).ownBlock) (.slice Ao15 t487.length co15) t487) ∧ Aside0 (wc.heap[gb480]? = some (.cells #[.bool a0_0, .bool a0_1, (.slice A0_2 l0_2.length c0_2), (.slice A0_3 l0_3.length c0_3), .int .i64 a0_4, .int .i64 a0_5, .int .i64 a0_6] 27 (0, 0))) ∧ Aside0 (wc.heap[gb481]? = some (.cells #[.bool false, .bool false, (.slice none 0 0), (.slice none 0 0), .int .i64 0, .int .i64 0, .int .i64 0] 27 (0, 0))) ∧ Aside0 (wc.heap[gb493]? = some (.cells #[.bool t482, .bool t483, (.slice Ao14 t484.length co14), (.slice Ao15 t487.length co15), .int .i64 t490, .int .i64 t491, .int .i64 t492] 27 (0, 0))) ∧ Aside0 (Below w.heap.size w wc))
 case first =>
  have H := HC4.out
  clear HC4
  replace H := Option.bind_eq_some_iff.mp H
  obtain ⟨t494, A160, H⟩ := H
  replace H : (if t494 = true then ((impl_isClient.f a1).bind fun t495 => (impl_Stand.j0 k a1 (!t495) a0_0 a0_1 l0_2 l0_3 a0_4 a0_5 a0_6 t482 t483 t484 t487 t490 t491 t492)) else (impl_Stand.j0 k a1 true a0_0 a0_1 l0_2 l0_3 a0_4 a0_5 a0_6 t482 t483 t484 t487 t490 t491 t492)) = some (r1, r2, r3, r4, r5, r6, r7, r8) := H
  have A16 := am A160
  clear A160
  by_cases c17 : t494 = true
  ·subst c17
   replace H : ((impl_isClient.f a1).bind fun t495 => (impl_Stand.j0 k a1 (!t495) a0_0 a0_1 l0_2 l0_3 a0_4 a0_5 a0_6 t482 t483 t484 t487 t490 t491 t492)) = some (r1, r2, r3, r4, r5, r6, r7, r8) := by rw [if_pos rfl] at H; exact H
   replace H := Option.bind_eq_some_iff.mp H
   obtain ⟨t495, A180, H⟩ := H
   replace H : (impl_Stand.j0 k a1 (!t495) a0_0 a0_1 l0_2 l0_3 a0_4 a0_5 a0_6 t482 t483 t484 t487 t490 t491 t492) = some (r1, r2, r3, r4, r5, r6, r7, r8) := H
   have A18 := am A180
   clear A180
   have H' := am H
   clear H
   have hnb19 := NB480_481.out
   have hnc19 := NB481_480.out
   have hnb20 := NB480_493.out
   have hnc20 := NB493_480.out
   obtain ⟨hcz21_0, hcz21_1, hcz21_2, hcz21_3, hcz21_4, hcz21_5, hcz21_6, hfz21_0, hfz21_1, hfz21_2, hfz21_3, hfz21_4, hfz21_5, hfz21_6⟩ := bk7 BK480.out
   go_wp2_with (first | ((with_reducible refine gate_callee (f := 17) rfl ?_); refine goesL_ (some 11) rfl rfl Try.func17 (by kernel_rfl) rfl #[.agg #[.bool a0_0, .bool a0_1, .slice A0_2 l0_2.length c0_2, .slice A0_3 l0_3.length c0_3, .int .i64 a0_4, .int .i64 a0_5, .int .i64 a0_6]] rfl mpx ?_; (with_reducible refine (impl_EventOk.calls k a0_0 a0_1 _ _ l0_2 _ _ l0_3 a0_4 a0_5 a0_6 true _ ?side1 ?side2 ?side3 ?side4 A16.out).mono ?_); (case side1 => exact Kd.C_below HR0_2.out (pkW HB.out)); (case side2 => exact HC0_2.out); (case side3 => exact Kd.C_below HR0_3.out (pkW HB.out)); (case side4 => exact HC0_3.out); rintro e w22 ⟨rfl, hb⟩; refine ⟨_, rfl, ?_⟩; replace HO486 := am (Kd.R_below (by (with_reducible repeat (first | apply Kd.R_alloc | apply Kd.R_drewN | apply Kd.R_drew)); exact (Kd.R_mono (Kd.R_far (p := ⟨gb493, 6, none⟩) (Kd.R_far (p := ⟨gb493, 5, none⟩) (Kd.R_far (p := ⟨gb493, 4, none⟩) (Kd.R_far (p := ⟨gb493, 3, none⟩) (Kd.R_far (p := ⟨gb493, 2, none⟩) (Kd.R_far (p := ⟨gb493, 1, none⟩) (Kd.R_far (p := ⟨gb493, 0, none⟩) (Kd.R_types HO486.out BK493.out (by decide)) (fun _ hk => hk.2) (.bool t482)) (fun _ hk => hk.2) (.bool t483)) (fun _ hk => hk.2) (.slice Ao14 t484.length co14)) (fun _ hk => hk.2) (.slice Ao15 t487.length co15)) (fun _ hk => hk.2) (.int .i64 t490)) (fun _ hk => hk.2) (.int .i64 t491)) (fun _ hk => hk.2) (.int .i64 t492)) (fun _ h_ => h_.1))) hb); replace HO489 := am (Kd.R_below (by (with_reducible repeat (first | apply Kd.R_alloc | apply Kd.R_drewN | apply Kd.R_drew)); exact (Kd.R_mono (Kd.R_far (p := ⟨gb493, 6, none⟩) (Kd.R_far (p := ⟨gb493, 5, none⟩) (Kd.R_far (p := ⟨gb493, 4, none⟩) (Kd.R_far (p := ⟨gb493, 3, none⟩) (Kd.R_far (p := ⟨gb493, 2, none⟩) (Kd.R_far (p := ⟨gb493, 1, none⟩) (Kd.R_far (p := ⟨gb493, 0, none⟩) (Kd.R_types HO489.out BK493.out (by decide)) (fun _ hk => hk.2) (.bool t482)) (fun _ hk => hk.2) (.bool t483)) (fun _ hk => hk.2) (.slice Ao14 t484.length co14)) (fun _ hk => hk.2) (.slice Ao15 t487.length co15)) (fun _ hk => hk.2) (.int .i64 t490)) (fun _ hk => hk.2) (.int .i64 t491)) (fun _ hk => hk.2) (.int .i64 t492)) (fun _ h_ => h_.1))) hb); replace BK480 := am (blk_below (g := gb480) (o := .cells #[.bool a0_0, .bool a0_1, .slice A0_2 l0_2.length c0_2, .slice A0_3 l0_3.length c0_3, .int .i64 a0_4, .int .i64 a0_5, .int .i64 a0_6] 27 (0, 0)) (by refine blk_far ?_ NB480_493.out _; refine blk_far ?_ NB480_493.out _; refine blk_far ?_ NB480_493.out _; refine blk_far ?_ NB480_493.out _; refine blk_far ?_ NB480_493.out _; refine blk_far ?_ NB480_493.out _; refine blk_far ?_ NB480_493.out _; exact pkK BK480.out) hb); replace BK481 := am (blk_below (g := gb481) (o := .cells #[.bool false, .bool false, .slice none 0 0, .slice none 0 0, .int .i64 0, .int .i64 0, .int .i64 0] 27 (0, 0)) (by refine blk_far ?_ NB481_493.out _; refine blk_far ?_ NB481_493.out _; refine blk_far ?_ NB481_493.out _; refine blk_far ?_ NB481_493.out _; refine blk_far ?_ NB481_493.out _; refine blk_far ?_ NB481_493.out _; refine blk_far ?_ NB481_493.out _; exact pkK BK481.out) hb); replace BK493 := am (blk_below (g := gb493) (o := .cells #[.bool t482, .bool t483, .slice Ao14 t484.length co14, .slice Ao15 t487.length co15, .int .i64 t490, .int .i64 t491, .int .i64 t492] 27 (0, 0)) (by refine blk_put (cs := #[.bool t482, .bool t483, .slice Ao14 t484.length co14, .slice Ao15 t487.length co15, .int .i64 t490, .int .i64 t491, .int .i64 0]) ?_ 6 _ rfl; refine blk_put (cs := #[.bool t482, .bool t483, .slice Ao14 t484.length co14, .slice Ao15 t487.length co15, .int .i64 t490, .int .i64 0, .int .i64 0]) ?_ 5 _ rfl; refine blk_put (cs := #[.bool t482, .bool t483, .slice Ao14 t484.length co14, .slice Ao15 t487.length co15, .int .i64 0, .int .i64 0, .int .i64 0]) ?_ 4 _ rfl; refine blk_put (cs := #[.bool t482, .bool t483, .slice Ao14 t484.length co14, .slice none 0 0, .int .i64 0, .int .i64 0, .int .i64 0]) ?_ 3 _ rfl; refine blk_put (cs := #[.bool t482, .bool t483, .slice none 0 0, .slice none 0 0, .int .i64 0, .int .i64 0, .int .i64 0]) ?_ 2 _ rfl; refine blk_put (cs := #[.bool t482, .bool false, .slice none 0 0, .slice none 0 0, .int .i64 0, .int .i64 0, .int .i64 0]) ?_ 1 _ rfl; refine blk_put (cs := #[.bool false, .bool false, .slice none 0 0, .slice none 0 0, .int .i64 0, .int .i64 0, .int .i64 0]) ?_ 0 _ rfl; exact pkK BK493.out) hb); replace HB := bst HB hb; (try clear hb)) | (go_at_call 65; (with_reducible refine (impl_isClient.calls a1 t495 _ A18.out).mono ?_); rintro e w' ⟨rfl, nd, rfl⟩))
   go_meet
   case rel => exact ⟨_, (!t495), rfx, H', ⟨by first | omega | exact Nat.le_refl _⟩, ⟨pkR HO486.out⟩, ⟨pkR HO489.out⟩, ⟨pkK BK480.out⟩, ⟨pkK BK481.out⟩, ⟨pkK BK493.out⟩, ⟨pkW HB.out⟩⟩
  ·replace c17 := Bool.eq_false_iff.mpr c17
   subst c17
   replace H : (impl_Stand.j0 k a1 true a0_0 a0_1 l0_2 l0_3 a0_4 a0_5 a0_6 t482 t483 t484 t487 t490 t491 t492) = some (r1, r2, r3, r4, r5, r6, r7, r8) := by rw [if_neg (show ¬ (false = true) by decide)] at H; exact H
   have H' := am H
   clear H
   have hnb23 := NB480_481.out
   have hnc23 := NB481_480.out
   have hnb24 := NB480_493.out
   have hnc24 := NB493_480.out
   obtain ⟨hcz25_0, hcz25_1, hcz25_2, hcz25_3, hcz25_4, hcz25_5, hcz25_6, hfz25_0, hfz25_1, hfz25_2, hfz25_3, hfz25_4, hfz25_5, hfz25_6⟩ := bk7 BK480.out
   go_wp2_with (first | ((with_reducible refine gate_callee (f := 17) rfl ?_); refine goesL_ (some 11) rfl rfl Try.func17 (by kernel_rfl) rfl #[.agg #[.bool a0_0, .bool a0_1, .slice A0_2 l0_2.length c0_2, .slice A0_3 l0_3.length c0_3, .int .i64 a0_4, .int .i64 a0_5, .int .i64 a0_6]] rfl mpx ?_; (with_reducible refine (impl_EventOk.calls k a0_0 a0_1 _ _ l0_2 _ _ l0_3 a0_4 a0_5 a0_6 false _ ?side1 ?side2 ?side3 ?side4 A16.out).mono ?_); (case side1 => exact Kd.C_below HR0_2.out (pkW HB.out)); (case side2 => exact HC0_2.out); (case side3 => exact Kd.C_below HR0_3.out (pkW HB.out)); (case side4 => exact HC0_3.out); rintro e w26 ⟨rfl, hb⟩; refine ⟨_, rfl, ?_⟩; replace HO486 := am (Kd.R_below (by (with_reducible repeat (first | apply Kd.R_alloc | apply Kd.R_drewN | apply Kd.R_drew)); exact (Kd.R_mono (Kd.R_far (p := ⟨gb493, 6, none⟩) (Kd.R_far (p := ⟨gb493, 5, none⟩) (Kd.R_far (p := ⟨gb493, 4, none⟩) (Kd.R_far (p := ⟨gb493, 3, none⟩) (Kd.R_far (p := ⟨gb493, 2, none⟩) (Kd.R_far (p := ⟨gb493, 1, none⟩) (Kd.R_far (p := ⟨gb493, 0, none⟩) (Kd.R_types HO486.out BK493.out (by decide)) (fun _ hk => hk.2) (.bool t482)) (fun _ hk => hk.2) (.bool t483)) (fun _ hk => hk.2) (.slice Ao14 t484.length co14)) (fun _ hk => hk.2) (.slice Ao15 t487.length co15)) (fun _ hk => hk.2) (.int .i64 t490)) (fun _ hk => hk.2) (.int .i64 t491)) (fun _ hk => hk.2) (.int .i64 t492)) (fun _ h_ => h_.1))) hb); replace HO489 := am (Kd.R_below (by (with_reducible repeat (first | apply Kd.R_alloc | apply Kd.R_drewN | apply Kd.R_drew)); exact (Kd.R_mono (Kd.R_far (p := ⟨gb493, 6, none⟩) (Kd.R_far (p := ⟨gb493, 5, none⟩) (Kd.R_far (p := ⟨gb493, 4, none⟩) (Kd.R_far (p := ⟨gb493, 3, none⟩) (Kd.R_far (p := ⟨gb493, 2, none⟩) (Kd.R_far (p := ⟨gb493, 1, none⟩) (Kd.R_far (p := ⟨gb493, 0, none⟩) (Kd.R_types HO489.out BK493.out (by decide)) (fun _ hk => hk.2) (.bool t482)) (fun _ hk => hk.2) (.bool t483)) (fun _ hk => hk.2) (.slice Ao14 t484.length co14)) (fun _ hk => hk.2) (.slice Ao15 t487.length co15)) (fun _ hk => hk.2) (.int .i64 t490)) (fun _ hk => hk.2) (.int .i64 t491)) (fun _ hk => hk.2) (.int .i64 t492)) (fun _ h_ => h_.1))) hb); replace BK480 := am (blk_below (g := gb480) (o := .cells #[.bool a0_0, .bool a0_1, .slice A0_2 l0_2.length c0_2, .slice A0_3 l0_3.length c0_3, .int .i64 a0_4, .int .i64 a0_5, .int .i64 a0_6] 27 (0, 0)) (by refine blk_far ?_ NB480_493.out _; refine blk_far ?_ NB480_493.out _; refine blk_far ?_ NB480_493.out _; refine blk_far ?_ NB480_493.out _; refine blk_far ?_ NB480_493.out _; refine blk_far ?_ NB480_493.out _; refine blk_far ?_ NB480_493.out _; exact pkK BK480.out) hb); replace BK481 := am (blk_below (g := gb481) (o := .cells #[.bool false, .bool false, .slice none 0 0, .slice none 0 0, .int .i64 0, .int .i64 0, .int .i64 0] 27 (0, 0)) (by refine blk_far ?_ NB481_493.out _; refine blk_far ?_ NB481_493.out _; refine blk_far ?_ NB481_493.out _; refine blk_far ?_ NB481_493.out _; refine blk_far ?_ NB481_493.out _; refine blk_far ?_ NB481_493.out _; refine blk_far ?_ NB481_493.out _; exact pkK BK481.out) hb); replace BK493 := am (blk_below (g := gb493) (o := .cells #[.bool t482, .bool t483, .slice Ao14 t484.length co14, .slice Ao15 t487.length co15, .int .i64 t490, .int .i64 t491, .int .i64 t492] 27 (0, 0)) (by refine blk_put (cs := #[.bool t482, .bool t483, .slice Ao14 t484.length co14, .slice Ao15 t487.length co15, .int .i64 t490, .int .i64 t491, .int .i64 0]) ?_ 6 _ rfl; refine blk_put (cs := #[.bool t482, .bool t483, .slice Ao14 t484.length co14, .slice Ao15 t487.length co15, .int .i64 t490, .int .i64 0, .int .i64 0]) ?_ 5 _ rfl; refine blk_put (cs := #[.bool t482, .bool t483, .slice Ao14 t484.length co14, .slice Ao15 t487.length co15, .int .i64 0, .int .i64 0, .int .i64 0]) ?_ 4 _ rfl; refine blk_put (cs := #[.bool t482, .bool t483, .slice Ao14 t484.length co14, .slice none 0 0, .int .i64 0, .int .i64 0, .int .i64 0]) ?_ 3 _ rfl; refine blk_put (cs := #[.bool t482, .bool t483, .slice none 0 0, .slice none 0 0, .int .i64 0, .int .i64 0, .int .i64 0]) ?_ 2 _ rfl; refine blk_put (cs := #[.bool t482, .bool false, .slice none 0 0, .slice none 0 0, .int .i64 0, .int .i64 0, .int .i64 0]) ?_ 1 _ rfl; refine blk_put (cs := #[.bool false, .bool false, .slice none 0 0, .slice none 0 0, .int .i64 0, .int .i64 0, .int .i64 0]) ?_ 0 _ rfl; exact pkK BK493.out) hb); replace HB := bst HB hb; (try clear hb)))
   go_meet
   case rel => exact ⟨_, (true), rfx, H', ⟨by first | omega | exact Nat.le_refl _⟩, ⟨pkR HO486.out⟩, ⟨pkR HO489.out⟩, ⟨pkK BK480.out⟩, ⟨pkK BK481.out⟩, ⟨pkK BK493.out⟩, ⟨pkW HB.out⟩⟩
 case rest =>
  clear HC4
  try clear c1
  try clear c2
  try clear p2
  try clear c6
  try clear c7
  try clear c11
  try clear c12
  try clear c17
  try clear c19
  try clear c20
  try clear c23
  try clear c24
  try clear hcz13_0
  try clear hcz13_1
  try clear hcz13_2
  try clear hcz13_3
  try clear hcz13_4
  try clear hcz13_5
  try clear hcz13_6
  try clear hcz21_0
  try clear hcz21_1
  try clear hcz21_2
  try clear hcz21_3
  try clear hcz21_4
  try clear hcz21_5
  try clear hcz21_6
  try clear hcz25_0
  try clear hcz25_1
  try clear hcz25_2
  try clear hcz25_3
  try clear hcz25_4
  try clear hcz25_5
  try clear hcz25_6
  try clear hcz8_0
  try clear hcz8_1
  try clear hcz8_2
  try clear hcz8_3
  try clear hcz8_4
  try clear hcz8_5
  try clear hcz8_6
  try clear hfz13_0
  try clear hfz13_1
  try clear hfz13_2
  try clear hfz13_3
  try clear hfz13_4
  try clear hfz13_5
  try clear hfz13_6
  try clear hfz21_0
  try clear hfz21_1
  try clear hfz21_2
  try clear hfz21_3
  try clear hfz21_4
  try clear hfz21_5
  try clear hfz21_6
  try clear hfz25_0
  try clear hfz25_1
  try clear hfz25_2
  try clear hfz25_3
  try clear hfz25_4
  try clear hfz25_5
  try clear hfz25_6
  try clear hfz8_0
  try clear hfz8_1
  try clear hfz8_2
  try clear hfz8_3
  try clear hfz8_4
  try clear hfz8_5
  try clear hfz8_6
  obtain ⟨kq, x9_3, rfl, HA, HJ3, HO_494002, HO_494003, BK480, BK481, BK493, HB⟩ := hcut
  cases kq with
  | zero => exact absurd HA.out (by simp [impl_Stand.j0])
  | succ kj3 =>
   have H := HA.out
   clear HA
   simp only [impl_Stand.j0] at H
   by_cases c27 : x9_3 = true
   ·subst c27
    replace H : (some (t482, t483, t484, t487, t490, t491, t492, 1)) = some (r1, r2, r3, r4, r5, r6, r7, r8) := by rw [if_pos rfl] at H; exact H
    simp only [Option.some.injEq, Prod.mk.injEq] at H
    obtain ⟨rfl, rfl, rfl, rfl, rfl, rfl, rfl, rfl⟩ := H
    have hnb28 := NB493_480.out
    have hnc28 := NB480_493.out
    have hnb29 := NB493_481.out
    have hnc29 := NB481_493.out
    obtain ⟨hcz30_0, hcz30_1, hcz30_2, hcz30_3, hcz30_4, hcz30_5, hcz30_6, hfz30_0, hfz30_1, hfz30_2, hfz30_3, hfz30_4, hfz30_5, hfz30_6⟩ := bk7 BK493.out
    have hnb31 := NB481_480.out
    have hnc31 := NB480_481.out
    obtain ⟨hcz32_0, hcz32_1, hcz32_2, hcz32_3, hcz32_4, hcz32_5, hcz32_6, hfz32_0, hfz32_1, hfz32_2, hfz32_3, hfz32_4, hfz32_5, hfz32_6⟩ := bk7 BK481.out
    go_wp2
    refine bodyPost_ret (results_ct rfl _ _ gb481 27 #[.bool t482, .bool t483, .slice Ao14 t484.length co14, .slice Ao15 t487.length co15, .int .i64 t490, .int .i64 t491, .int .i64 t492] (0, 0) _ rfl (by refine blk_put (cs := #[.bool t482, .bool t483, .slice Ao14 t484.length co14, .slice Ao15 t487.length co15, .int .i64 t490, .int .i64 t491, .int .i64 0]) ?_ 6 _ rfl; refine blk_put (cs := #[.bool t482, .bool t483, .slice Ao14 t484.length co14, .slice Ao15 t487.length co15, .int .i64 t490, .int .i64 0, .int .i64 0]) ?_ 5 _ rfl; refine blk_put (cs := #[.bool t482, .bool t483, .slice Ao14 t484.length co14, .slice Ao15 t487.length co15, .int .i64 0, .int .i64 0, .int .i64 0]) ?_ 4 _ rfl; refine blk_put (cs := #[.bool t482, .bool t483, .slice Ao14 t484.length co14, .slice none 0 0, .int .i64 0, .int .i64 0, .int .i64 0]) ?_ 3 _ rfl; refine blk_put (cs := #[.bool t482, .bool t483, .slice none 0 0, .slice none 0 0, .int .i64 0, .int .i64 0, .int .i64 0]) ?_ 2 _ rfl; refine blk_put (cs := #[.bool t482, .bool false, .slice none 0 0, .slice none 0 0, .int .i64 0, .int .i64 0, .int .i64 0]) ?_ 1 _ rfl; refine blk_put (cs := #[.bool false, .bool false, .slice none 0 0, .slice none 0 0, .int .i64 0, .int .i64 0, .int .i64 0]) ?_ 0 _ rfl; exact pkK BK481.out) Try.underlying27 rfl (by kernel_rfl)) rfl ?_
    exact ⟨_, _, rfe, by (with_reducible repeat (first | apply Kd.R_alloc | apply Kd.R_drewN | apply Kd.R_drew)); exact Kd.R_mono (Kd.R_far (p := ⟨gb481, 6, none⟩) (Kd.R_far (p := ⟨gb481, 5, none⟩) (Kd.R_far (p := ⟨gb481, 4, none⟩) (Kd.R_far (p := ⟨gb481, 3, none⟩) (Kd.R_far (p := ⟨gb481, 2, none⟩) (Kd.R_far (p := ⟨gb481, 1, none⟩) (Kd.R_far (p := ⟨gb481, 0, none⟩) (Kd.R_types HO_494002.out BK481.out (by decide)) (fun _ hk => hk.2) (.bool t482)) (fun _ hk => hk.2) (.bool t483)) (fun _ hk => hk.2) (.slice Ao14 t484.length co14)) (fun _ hk => hk.2) (.slice Ao15 t487.length co15)) (fun _ hk => hk.2) (.int .i64 t490)) (fun _ hk => hk.2) (.int .i64 t491)) (fun _ hk => hk.2) (.int .i64 t492)) (fun _ hk => hk.1), by (with_reducible repeat (first | apply Kd.R_alloc | apply Kd.R_drewN | apply Kd.R_drew)); exact Kd.R_mono (Kd.R_far (p := ⟨gb481, 6, none⟩) (Kd.R_far (p := ⟨gb481, 5, none⟩) (Kd.R_far (p := ⟨gb481, 4, none⟩) (Kd.R_far (p := ⟨gb481, 3, none⟩) (Kd.R_far (p := ⟨gb481, 2, none⟩) (Kd.R_far (p := ⟨gb481, 1, none⟩) (Kd.R_far (p := ⟨gb481, 0, none⟩) (Kd.R_types HO_494003.out BK481.out (by decide)) (fun _ hk => hk.2) (.bool t482)) (fun _ hk => hk.2) (.bool t483)) (fun _ hk => hk.2) (.slice Ao14 t484.length co14)) (fun _ hk => hk.2) (.slice Ao15 t487.length co15)) (fun _ hk => hk.2) (.int .i64 t490)) (fun _ hk => hk.2) (.int .i64 t491)) (fun _ hk => hk.2) (.int .i64 t492)) (fun _ hk => hk.1), pkW HB.out⟩
   ·replace c27 := Bool.eq_false_iff.mpr c27
    subst c27
    replace H : ((slices_Contains_int_int.f kj3 l0_2 a1).bind fun t496 => (if t496 = true then (impl_Stand.j1 kj3 a1 true a0_0 a0_1 l0_2 l0_3 a0_4 a0_5 a0_6 t482 t483 t484 t487 t490 t491 t492) else ((slices_Contains_int_int.f kj3 l0_3 a1).bind fun t497 => (impl_Stand.j1 kj3 a1 t497 a0_0 a0_1 l0_2 l0_3 a0_4 a0_5 a0_6 t482 t483 t484 t487 t490 t491 t492)))) = some (r1, r2, r3, r4, r5, r6, r7, r8) := by rw [if_neg (show ¬ (false = true) by decide)] at H; exact H
    have HC33 := am H
    clear H
    go_upto_region 4 with (fail)
    go_cut [19] (fun v19 wc => ∃ (kq : Nat) (x19_32 : Bool), v19 = .bool x19_32 ∧ Aside0 (impl_Stand.j1 kq a1 x19_32 a0_0 a0_1 l0_2 l0_3 a0_4 a0_5 a0_6 t482 t483 t484 t487 t490 t491 t492 = some (r1, r2, r3, r4, r5, r6, r7, r8)) ∧ Aside0 (kq ≤ kj3) ∧ Aside0 (Kd.R (Kd.int .i64) 3 wc w.heap.size (fun k_ => some k_ ≠ ((.slice Ao15 t487.length co15) : Value).ownBlock) (.slice Ao14 t484.length co14) t484) ∧ Aside0 (Kd.R (Kd.int .i64) 3 wc w.heap.size (fun k_ => some k_ ≠ ((.slice Ao14 t484.length co14) : Value).ownBlock) (.slice Ao15 t487.length co15) t487) ∧ Aside0 (wc.heap[gb480]? = some (.cells #[.bool a0_0, .bool a0_1, (.slice A0_2 l0_2.length c0_2), (.slice A0_3 l0_3.length c0_3), .int .i64 a0_4, .int .i64 a0_5, .int .i64 a0_6] 27 (0, 0))) ∧ Aside0 (wc.heap[gb481]? = some (.cells #[.bool false, .bool false, (.slice none 0 0), (.slice none 0 0), .int .i64 0, .int .i64 0, .int .i64 0] 27 (0, 0))) ∧ Aside0 (wc.heap[gb493]? = some (.cells #[.bool t482, .bool t483, (.slice Ao14 t484.length co14), (.slice Ao15 t487.length co15), .int .i64 t490, .int .i64 t491, .int .i64 t492] 27 (0, 0))) ∧ Aside0 (Below w.heap.size w wc))
    case first =>
     have H := HC33.out
     clear HC33
     replace H := Option.bind_eq_some_iff.mp H
     obtain ⟨t496, A340, H⟩ := H
     replace H : (if t496 = true then (impl_Stand.j1 kj3 a1 true a0_0 a0_1 l0_2 l0_3 a0_4 a0_5 a0_6 t482 t483 t484 t487 t490 t491 t492) else ((slices_Contains_int_int.f kj3 l0_3 a1).bind fun t497 => (impl_Stand.j1 kj3 a1 t497 a0_0 a0_1 l0_2 l0_3 a0_4 a0_5 a0_6 t482 t483 t484 t487 t490 t491 t492))) = some (r1, r2, r3, r4, r5, r6, r7, r8) := H
     have A34 := am A340
     clear A340
     by_cases c35 : t496 = true
     ·subst c35
      replace H : (impl_Stand.j1 kj3 a1 true a0_0 a0_1 l0_2 l0_3 a0_4 a0_5 a0_6 t482 t483 t484 t487 t490 t491 t492) = some (r1, r2, r3, r4, r5, r6, r7, r8) := by rw [if_pos rfl] at H; exact H
      have H' := am H
      clear H
      have hnb36 := NB480_481.out
      have hnc36 := NB481_480.out
      have hnb37 := NB480_493.out
      have hnc37 := NB493_480.out
      obtain ⟨hcz38_0, hcz38_1, hcz38_2, hcz38_3, hcz38_4, hcz38_5, hcz38_6, hfz38_0, hfz38_1, hfz38_2, hfz38_3, hfz38_4, hfz38_5, hfz38_6⟩ := bk7 BK480.out
      go_wp2_with (first | ((with_reducible refine gate_callee (f := 66) rfl ?_); refine goesL_ (some 23) rfl rfl Try.func66 (by kernel_rfl) rfl #[.slice A0_2 l0_2.length c0_2, .int .i64 a1] rfl mpx ?_; (with_reducible refine (slices_Contains_int_int.calls kj3 _ _ l0_2 a1 true _ ?side1 ?side2 A34.out).mono ?_); (case side1 => exact pkC (Kd.C_below HR0_2.out HB.out)); (case side2 => exact HC0_2.out); rintro e w' ⟨rfl, nd, rfl⟩; refine ⟨_, rfl, ?_⟩))
      go_meet
      case rel => exact ⟨_, (true), rfx, H', ⟨by have := HJ3.out; first | omega | exact Nat.le_refl _⟩, ⟨pkR HO_494002.out⟩, ⟨pkR HO_494003.out⟩, ⟨pkK BK480.out⟩, ⟨pkK BK481.out⟩, ⟨pkK BK493.out⟩, ⟨pkW HB.out⟩⟩
     ·replace c35 := Bool.eq_false_iff.mpr c35
      subst c35
      replace H : ((slices_Contains_int_int.f kj3 l0_3 a1).bind fun t497 => (impl_Stand.j1 kj3 a1 t497 a0_0 a0_1 l0_2 l0_3 a0_4 a0_5 a0_6 t482 t483 t484 t487 t490 t491 t492)) = some (r1, r2, r3, r4, r5, r6, r7, r8) := by rw [if_neg (show ¬ (false = true) by decide)] at H; exact H
      replace H := Option.bind_eq_some_iff.mp H
      obtain ⟨t497, A390, H⟩ := H
      replace H : (impl_Stand.j1 kj3 a1 t497 a0_0 a0_1 l0_2 l0_3 a0_4 a0_5 a0_6 t482 t483 t484 t487 t490 t491 t492) = some (r1, r2, r3, r4, r5, r6, r7, r8) := H
      have A39 := am A390
      clear A390
      have H' := am H
      clear H
      have hnb40 := NB480_481.out
      have hnc40 := NB481_480.out
      have hnb41 := NB480_493.out
      have hnc41 := NB493_480.out
      obtain ⟨hcz42_0, hcz42_1, hcz42_2, hcz42_3, hcz42_4, hcz42_5, hcz42_6, hfz42_0, hfz42_1, hfz42_2, hfz42_3, hfz42_4, hfz42_5, hfz42_6⟩ := bk7 BK480.out
      go_wp2_with (first | ((with_reducible refine gate_callee (f := 66) rfl ?_); refine goesL_ (some 23) rfl rfl Try.func66 (by kernel_rfl) rfl #[.slice A0_2 l0_2.length c0_2, .int .i64 a1] rfl mpx ?_; (with_reducible refine (slices_Contains_int_int.calls kj3 _ _ l0_2 a1 false _ ?side1 ?side2 A34.out).mono ?_); (case side1 => exact pkC (Kd.C_below HR0_2.out HB.out)); (case side2 => exact HC0_2.out); rintro e w' ⟨rfl, nd, rfl⟩; refine ⟨_, rfl, ?_⟩) | (go_at_call 66; (with_reducible refine (slices_Contains_int_int.calls kj3 _ _ l0_3 a1 t497 _ ?side1 ?side2 A39.out).mono ?_); (case side1 => repeat (first | exact (Kd.C_below HR0_3.out (pkW HB.out)) | (with_reducible refine Kd.C_alloc ?_ _) | (with_reducible refine Kd.C_drewN ?_ _) | (with_reducible refine Kd.C_drew ?_))); (case side2 => exact HC0_3.out); rintro e w' ⟨rfl, nd, rfl⟩))
      go_meet
      case rel => exact ⟨_, (t497), rfx, H', ⟨by have := HJ3.out; first | omega | exact Nat.le_refl _⟩, ⟨pkR HO_494002.out⟩, ⟨pkR HO_494003.out⟩, ⟨pkK BK480.out⟩, ⟨pkK BK481.out⟩, ⟨pkK BK493.out⟩, ⟨pkW HB.out⟩⟩
    case rest =>
     clear HC33
     try clear c1
     try clear c2
     try clear p2
     try clear c3
     try clear c4
     try clear c6
     try clear c7
     try clear c11
     try clear c12
     try clear c17
     try clear c19
     try clear c20
     try clear c23
     try clear c24
     try clear c27
     try clear c28
     try clear c29
     try clear c31
     try clear c35
     try clear c36
     try clear c37
     try clear c40
     try clear c41
     try clear hcz13_0
     try clear hcz13_1
     try clear hcz13_2
     try clear hcz13_3
     try clear hcz13_4
     try clear hcz13_5
     try clear hcz13_6
     try clear hcz21_0
     try clear hcz21_1
     try clear hcz21_2
     try clear hcz21_3
     try clear hcz21_4
     try clear hcz21_5
     try clear hcz21_6
     try clear hcz25_0
     try clear hcz25_1
     try clear hcz25_2
     try clear hcz25_3
     try clear hcz25_4
     try clear hcz25_5
     try clear hcz25_6
     try clear hcz30_0
     try clear hcz30_1
     try clear hcz30_2
     try clear hcz30_3
     try clear hcz30_4
     try clear hcz30_5
     try clear hcz30_6
     try clear hcz32_0
     try clear hcz32_1
     try clear hcz32_2
     try clear hcz32_3
     try clear hcz32_4
     try clear hcz32_5
     try clear hcz32_6
     try clear hcz38_0
     try clear hcz38_1
     try clear hcz38_2
     try clear hcz38_3
     try clear hcz38_4
     try clear hcz38_5
     try clear hcz38_6
     try clear hcz42_0
     try clear hcz42_1
     try clear hcz42_2
     try clear hcz42_3
     try clear hcz42_4
     try clear hcz42_5
     try clear hcz42_6
     try clear hcz8_0
     try clear hcz8_1
     try clear hcz8_2
     try clear hcz8_3
     try clear hcz8_4
     try clear hcz8_5
     try clear hcz8_6
     try clear hfz13_0
     try clear hfz13_1
     try clear hfz13_2
     try clear hfz13_3
     try clear hfz13_4
     try clear hfz13_5
     try clear hfz13_6
     try clear hfz21_0
     try clear hfz21_1
     try clear hfz21_2
     try clear hfz21_3
     try clear hfz21_4
     try clear hfz21_5
     try clear hfz21_6
     try clear hfz25_0
     try clear hfz25_1
     try clear hfz25_2
     try clear hfz25_3
     try clear hfz25_4
     try clear hfz25_5
     try clear hfz25_6
     try clear hfz30_0
     try clear hfz30_1
     try clear hfz30_2
     try clear hfz30_3
     try clear hfz30_4
     try clear hfz30_5
     try clear hfz30_6
     try clear hfz32_0
     try clear hfz32_1
     try clear hfz32_2
     try clear hfz32_3
     try clear hfz32_4
     try clear hfz32_5
     try clear hfz32_6
     try clear hfz38_0
     try clear hfz38_1
     try clear hfz38_2
     try clear hfz38_3
     try clear hfz38_4
     try clear hfz38_5
     try clear hfz38_6
     try clear hfz42_0
     try clear hfz42_1
     try clear hfz42_2
     try clear hfz42_3
     try clear hfz42_4
     try clear hfz42_5
     try clear hfz42_6
     try clear hfz8_0
     try clear hfz8_1
     try clear hfz8_2
     try clear hfz8_3
     try clear hfz8_4
     try clear hfz8_5
     try clear hfz8_6
     try clear p2
     obtain ⟨kq, x19_32, rfl, HA, HJ32, HO_494002, HO_494003, BK480, BK481, BK493, HB⟩ := hcut
     cases kq with
     | zero => exact absurd HA.out (by simp [impl_Stand.j1])
     | succ kj32 =>
      have H := HA.out
      clear HA
      simp only [impl_Stand.j1] at H
      by_cases c43 : x19_32 = true
      ·subst c43
       replace H : (some (t482, t483, t484, t487, t490, t491, t492, 5)) = some (r1, r2, r3, r4, r5, r6, r7, r8) := by rw [if_pos rfl] at H; exact H
       simp only [Option.some.injEq, Prod.mk.injEq] at H
       obtain ⟨rfl, rfl, rfl, rfl, rfl, rfl, rfl, rfl⟩ := H
       have hnb44 := NB493_480.out
       have hnc44 := NB480_493.out
       have hnb45 := NB493_481.out
       have hnc45 := NB481_493.out
       obtain ⟨hcz46_0, hcz46_1, hcz46_2, hcz46_3, hcz46_4, hcz46_5, hcz46_6, hfz46_0, hfz46_1, hfz46_2, hfz46_3, hfz46_4, hfz46_5, hfz46_6⟩ := bk7 BK493.out
       have hnb47 := NB481_480.out
       have hnc47 := NB480_481.out
       obtain ⟨hcz48_0, hcz48_1, hcz48_2, hcz48_3, hcz48_4, hcz48_5, hcz48_6, hfz48_0, hfz48_1, hfz48_2, hfz48_3, hfz48_4, hfz48_5, hfz48_6⟩ := bk7 BK481.out
       go_wp2
       refine bodyPost_ret (results_ct rfl _ _ gb481 27 #[.bool t482, .bool t483, .slice Ao14 t484.length co14, .slice Ao15 t487.length co15, .int .i64 t490, .int .i64 t491, .int .i64 t492] (0, 0) _ rfl (by refine blk_put (cs := #[.bool t482, .bool t483, .slice Ao14 t484.length co14, .slice Ao15 t487.length co15, .int .i64 t490, .int .i64 t491, .int .i64 0]) ?_ 6 _ rfl; refine blk_put (cs := #[.bool t482, .bool t483, .slice Ao14 t484.length co14, .slice Ao15 t487.length co15, .int .i64 t490, .int .i64 0, .int .i64 0]) ?_ 5 _ rfl; refine blk_put (cs := #[.bool t482, .bool t483, .slice Ao14 t484.length co14, .slice Ao15 t487.length co15, .int .i64 0, .int .i64 0, .int .i64 0]) ?_ 4 _ rfl; refine blk_put (cs := #[.bool t482, .bool t483, .slice Ao14 t484.length co14, .slice none 0 0, .int .i64 0, .int .i64 0, .int .i64 0]) ?_ 3 _ rfl; refine blk_put (cs := #[.bool t482, .bool t483, .slice none 0 0, .slice none 0 0, .int .i64 0, .int .i64 0, .int .i64 0]) ?_ 2 _ rfl; refine blk_put (cs := #[.bool t482, .bool false, .slice none 0 0, .slice none 0 0, .int .i64 0, .int .i64 0, .int .i64 0]) ?_ 1 _ rfl; refine blk_put (cs := #[.bool false, .bool false, .slice none 0 0, .slice none 0 0, .int .i64 0, .int .i64 0, .int .i64 0]) ?_ 0 _ rfl; exact pkK BK481.out) Try.underlying27 rfl (by kernel_rfl)) rfl ?_
       exact ⟨_, _, rfe, by (with_reducible repeat (first | apply Kd.R_alloc | apply Kd.R_drewN | apply Kd.R_drew)); exact Kd.R_mono (Kd.R_far (p := ⟨gb481, 6, none⟩) (Kd.R_far (p := ⟨gb481, 5, none⟩) (Kd.R_far (p := ⟨gb481, 4, none⟩) (Kd.R_far (p := ⟨gb481, 3, none⟩) (Kd.R_far (p := ⟨gb481, 2, none⟩) (Kd.R_far (p := ⟨gb481, 1, none⟩) (Kd.R_far (p := ⟨gb481, 0, none⟩) (Kd.R_types HO_494002.out BK481.out (by decide)) (fun _ hk => hk.2) (.bool t482)) (fun _ hk => hk.2) (.bool t483)) (fun _ hk => hk.2) (.slice Ao14 t484.length co14)) (fun _ hk => hk.2) (.slice Ao15 t487.length co15)) (fun _ hk => hk.2) (.int .i64 t490)) (fun _ hk => hk.2) (.int .i64 t491)) (fun _ hk => hk.2) (.int .i64 t492)) (fun _ hk => hk.1), by (with_reducible repeat (first | apply Kd.R_alloc | apply Kd.R_drewN | apply Kd.R_drew)); exact Kd.R_mono (Kd.R_far (p := ⟨gb481, 6, none⟩) (Kd.R_far (p := ⟨gb481, 5, none⟩) (Kd.R_far (p := ⟨gb481, 4, none⟩) (Kd.R_far (p := ⟨gb481, 3, none⟩) (Kd.R_far (p := ⟨gb481, 2, none⟩) (Kd.R_far (p := ⟨gb481, 1, none⟩) (Kd.R_far (p := ⟨gb481, 0, none⟩) (Kd.R_types HO_494003.out BK481.out (by decide)) (fun _ hk => hk.2) (.bool t482)) (fun _ hk => hk.2) (.bool t483)) (fun _ hk => hk.2) (.slice Ao14 t484.length co14)) (fun _ hk => hk.2) (.slice Ao15 t487.length co15)) (fun _ hk => hk.2) (.int .i64 t490)) (fun _ hk => hk.2) (.int .i64 t491)) (fun _ hk => hk.2) (.int .i64 t492)) (fun _ hk => hk.1), pkW HB.out⟩
      ·replace c43 := Bool.eq_false_iff.mpr c43
       subst c43
       replace H : (if a0_0 = true then (if a0_6 = 1000000000 then (impl_Stand.j2 kj32 a1 true a0_0 a0_1 l0_2 l0_3 a0_4 a0_5 a0_6 t482 t483 t484 t487 t490 t491 t492) else (if a0_1 = true then (impl_Stand.j2 kj32 a1 false a0_0 a0_1 l0_2 l0_3 a0_4 a0_5 a0_6 t482 t483 t484 t487 t490 t491 t492) else (impl_Stand.j2 kj32 a1 ((l0_2.length : Int) == 32) a0_0 a0_1 l0_2 l0_3 a0_4 a0_5 a0_6 t482 t483 t484 t487 t490 t491 t492))) else (if a0_1 = true then (impl_Stand.j2 kj32 a1 false a0_0 a0_1 l0_2 l0_3 a0_4 a0_5 a0_6 t482 t483 t484 t487 t490 t491 t492) else (impl_Stand.j2 kj32 a1 ((l0_2.length : Int) == 32) a0_0 a0_1 l0_2 l0_3 a0_4 a0_5 a0_6 t482 t483 t484 t487 t490 t491 t492))) = some (r1, r2, r3, r4, r5, r6, r7, r8) := by rw [if_neg (show ¬ (false = true) by decide)] at H; exact H
       have HC49 := am H
       clear H
       go_upto_region 6 with (fail)
       go_cut [31] (fun v31 wc => ∃ (kq : Nat) (x31_48 : Bool), v31 = .bool x31_48 ∧ Aside0 (impl_Stand.j2 kq a1 x31_48 a0_0 a0_1 l0_2 l0_3 a0_4 a0_5 a0_6 t482 t483 t484 t487 t490 t491 t492 = some (r1, r2, r3, r4, r5, r6, r7, r8)) ∧ Aside0 (kq ≤ kj32) ∧ Aside0 (Kd.R (Kd.int .i64) 3 wc w.heap.size (fun k_ => some k_ ≠ ((.slice Ao15 t487.length co15) : Value).ownBlock) (.slice Ao14 t484.length co14) t484) ∧ Aside0 (Kd.R (Kd.int .i64) 3 wc w.heap.size (fun k_ => some k_ ≠ ((.slice Ao14 t484.length co14) : Value).ownBlock) (.slice Ao15 t487.length co15) t487) ∧ Aside0 (wc.heap[gb480]? = some (.cells #[.bool a0_0, .bool a0_1, (.slice A0_2 l0_2.length c0_2), (.slice A0_3 l0_3.length c0_3), .int .i64 a0_4, .int .i64 a0_5, .int .i64 a0_6] 27 (0, 0))) ∧ Aside0 (wc.heap[gb481]? = some (.cells #[.bool false, .bool false, (.slice none 0 0), (.slice none 0 0), .int .i64 0, .int .i64 0, .int .i64 0] 27 (0, 0))) ∧ Aside0 (wc.heap[gb493]? = some (.cells #[.bool t482, .bool t483, (.slice Ao14 t484.length co14), (.slice Ao15 t487.length co15), .int .i64 t490, .int .i64 t491, .int .i64 t492] 27 (0, 0))) ∧ Aside0 (Below w.heap.size w wc))
       case first =>
        have H := HC49.out
        clear HC49
        by_cases c50 : a0_0 = true
        ·subst c50
         replace H : (if a0_6 = 1000000000 then (impl_Stand.j2 kj32 a1 true true a0_1 l0_2 l0_3 a0_4 a0_5 a0_6 t482 t483 t484 t487 t490 t491 t492) else (if a0_1 = true then (impl_Stand.j2 kj32 a1 false true a0_1 l0_2 l0_3 a0_4 a0_5 a0_6 t482 t483 t484 t487 t490 t491 t492) else (impl_Stand.j2 kj32 a1 ((l0_2.length : Int) == 32) true a0_1 l0_2 l0_3 a0_4 a0_5 a0_6 t482 t483 t484 t487 t490 t491 t492))) = some (r1, r2, r3, r4, r5, r6, r7, r8) := by rw [if_pos rfl] at H; exact H
         by_cases c51 : a0_6 = 1000000000
         ·rw [if_pos c51] at H
          have c51b0 : (a0_6 == 1000000000) = true := beq_iff_eq.mpr c51
          have c51b1 : (a0_6 != 1000000000) = false := bne_eq_false_iff_eq.mpr c51
          clear c51
          (first | rw [c51b0] | (simp only [i64_w, i32_w]; rw [c51b0]) | skip)
          have H' := am H
          clear H
          have hnb52 := NB480_481.out
          have hnc52 := NB481_480.out
          have hnb53 := NB480_493.out
          have hnc53 := NB493_480.out
          obtain ⟨hcz54_0, hcz54_1, hcz54_2, hcz54_3, hcz54_4, hcz54_5, hcz54_6, hfz54_0, hfz54_1, hfz54_2, hfz54_3, hfz54_4, hfz54_5, hfz54_6⟩ := bk7 BK480.out
          go_wp2
          go_meet
          case rel => exact ⟨_, (true), rfx, H', ⟨by have := HJ3.out; have := HJ32.out; first | omega | exact Nat.le_refl _⟩, ⟨pkR HO_494002.out⟩, ⟨pkR HO_494003.out⟩, ⟨pkK BK480.out⟩, ⟨pkK BK481.out⟩, ⟨pkK BK493.out⟩, ⟨pkW HB.out⟩⟩
         ·rw [if_neg c51] at H
          have c51b0 : (a0_6 == 1000000000) = false := beq_eq_false_iff_ne.mpr c51
          have c51b1 : (a0_6 != 1000000000) = true := bne_iff_ne.mpr c51
          (first | rw [c51b0] | (simp only [i64_w, i32_w]; rw [c51b0]) | skip)
          by_cases c55 : a0_1 = true
          ·subst c55
           replace H : (impl_Stand.j2 kj32 a1 false true true l0_2 l0_3 a0_4 a0_5 a0_6 t482 t483 t484 t487 t490 t491 t492) = some (r1, r2, r3, r4, r5, r6, r7, r8) := by rw [if_pos rfl] at H; exact H
           have H' := am H
           clear H
           have hnb56 := NB480_481.out
           have hnc56 := NB481_480.out
           have hnb57 := NB480_493.out
           have hnc57 := NB493_480.out
           obtain ⟨hcz58_0, hcz58_1, hcz58_2, hcz58_3, hcz58_4, hcz58_5, hcz58_6, hfz58_0, hfz58_1, hfz58_2, hfz58_3, hfz58_4, hfz58_5, hfz58_6⟩ := bk7 BK480.out
           go_wp2
           go_meet
           case rel => exact ⟨_, (false), rfx, H', ⟨by have := HJ3.out; have := HJ32.out; first | omega | exact Nat.le_refl _⟩, ⟨pkR HO_494002.out⟩, ⟨pkR HO_494003.out⟩, ⟨pkK BK480.out⟩, ⟨pkK BK481.out⟩, ⟨pkK BK493.out⟩, ⟨pkW HB.out⟩⟩
          ·replace c55 := Bool.eq_false_iff.mpr c55
           subst c55
           replace H : (impl_Stand.j2 kj32 a1 ((l0_2.length : Int) == 32) true false l0_2 l0_3 a0_4 a0_5 a0_6 t482 t483 t484 t487 t490 t491 t492) = some (r1, r2, r3, r4, r5, r6, r7, r8) := by rw [if_neg (show ¬ (false = true) by decide)] at H; exact H
           have H' := am H
           clear H
           have hnb59 := NB480_481.out
           have hnc59 := NB481_480.out
           have hnb60 := NB480_493.out
           have hnc60 := NB493_480.out
           obtain ⟨hcz61_0, hcz61_1, hcz61_2, hcz61_3, hcz61_4, hcz61_5, hcz61_6, hfz61_0, hfz61_1, hfz61_2, hfz61_3, hfz61_4, hfz61_5, hfz61_6⟩ := bk7 BK480.out
           go_wp2
           go_meet
           case rel => exact ⟨_, (((l0_2.length : Int) == 32)), rfx, H', ⟨by have := HJ3.out; have := HJ32.out; first | omega | exact Nat.le_refl _⟩, ⟨pkR HO_494002.out⟩, ⟨pkR HO_494003.out⟩, ⟨pkK BK480.out⟩, ⟨pkK BK481.out⟩, ⟨pkK BK493.out⟩, ⟨pkW HB.out⟩⟩
        ·replace c50 := Bool.eq_false_iff.mpr c50
         subst c50
         replace H : (if a0_1 = true then (impl_Stand.j2 kj32 a1 false false a0_1 l0_2 l0_3 a0_4 a0_5 a0_6 t482 t483 t484 t487 t490 t491 t492) else (impl_Stand.j2 kj32 a1 ((l0_2.length : Int) == 32) false a0_1 l0_2 l0_3 a0_4 a0_5 a0_6 t482 t483 t484 t487 t490 t491 t492)) = some (r1, r2, r3, r4, r5, r6, r7, r8) := by rw [if_neg (show ¬ (false = true) by decide)] at H; exact H
         by_cases c62 : a0_1 = true
         ·subst c62
          replace H : (impl_Stand.j2 kj32 a1 false false true l0_2 l0_3 a0_4 a0_5 a0_6 t482 t483 t484 t487 t490 t491 t492) = some (r1, r2, r3, r4, r5, r6, r7, r8) := by rw [if_pos rfl] at H; exact H
          have H' := am H
          clear H
          have hnb63 := NB480_481.out
          have hnc63 := NB481_480.out
          have hnb64 := NB480_493.out
          have hnc64 := NB493_480.out
          obtain ⟨hcz65_0, hcz65_1, hcz65_2, hcz65_3, hcz65_4, hcz65_5, hcz65_6, hfz65_0, hfz65_1, hfz65_2, hfz65_3, hfz65_4, hfz65_5, hfz65_6⟩ := bk7 BK480.out
          go_wp2
          go_meet
          case rel => exact ⟨_, (false), rfx, H', ⟨by have := HJ3.out; have := HJ32.out; first | omega | exact Nat.le_refl _⟩, ⟨pkR HO_494002.out⟩, ⟨pkR HO_494003.out⟩, ⟨pkK BK480.out⟩, ⟨pkK BK481.out⟩, ⟨pkK BK493.out⟩, ⟨pkW HB.out⟩⟩
         ·replace c62 := Bool.eq_false_iff.mpr c62
          subst c62
          replace H : (impl_Stand.j2 kj32 a1 ((l0_2.length : Int) == 32) false false l0_2 l0_3 a0_4 a0_5 a0_6 t482 t483 t484 t487 t490 t491 t492) = some (r1, r2, r3, r4, r5, r6, r7, r8) := by rw [if_neg (show ¬ (false = true) by decide)] at H; exact H
          have H' := am H
          clear H
          have hnb66 := NB480_481.out
          have hnc66 := NB481_480.out
          have hnb67 := NB480_493.out
          have hnc67 := NB493_480.out
          obtain ⟨hcz68_0, hcz68_1, hcz68_2, hcz68_3, hcz68_4, hcz68_5, hcz68_6, hfz68_0, hfz68_1, hfz68_2, hfz68_3, hfz68_4, hfz68_5, hfz68_6⟩ := bk7 BK480.out
          go_wp2
          go_meet
          case rel => exact ⟨_, (((l0_2.length : Int) == 32)), rfx, H', ⟨by have := HJ3.out; have := HJ32.out; first | omega | exact Nat.le_refl _⟩, ⟨pkR HO_494002.out⟩, ⟨pkR HO_494003.out⟩, ⟨pkK BK480.out⟩, ⟨pkK BK481.out⟩, ⟨pkK BK493.out⟩, ⟨pkW HB.out⟩⟩
       case rest =>
        clear HC49
        try clear c1
        try clear c2
        try clear p2
        try clear c3
        try clear c4
        try clear c5
        try clear c6
        try clear c7
        try clear c11
        try clear c12
        try clear c17
        try clear c19
        try clear c20
        try clear c23
        try clear c24
        try clear c27
        try clear c28
        try clear c29
        try clear c31
        try clear c35
        try clear c36
        try clear c37
        try clear c40
        try clear c41
        try clear c43
        try clear c44
        try clear c45
        try clear c47
        try clear c50
        try clear c51
        try clear c51b0
        try clear c51b1
        try clear c52
        try clear c53
        try clear c55
        try clear c56
        try clear c57
        try clear c59
        try clear c60
        try clear c62
        try clear c63
        try clear c64
        try clear c66
        try clear c67
        try clear hcz13_0
        try clear hcz13_1
        try clear hcz13_2
        try clear hcz13_3
        try clear hcz13_4
        try clear hcz13_5
        try clear hcz13_6
        try clear hcz21_0
        try clear hcz21_1
        try clear hcz21_2
        try clear hcz21_3
        try clear hcz21_4
        try clear hcz21_5
        try clear hcz21_6
        try clear hcz25_0
        try clear hcz25_1
        try clear hcz25_2
        try clear hcz25_3
        try clear hcz25_4
        try clear hcz25_5
        try clear hcz25_6
        try clear hcz30_0
        try clear hcz30_1
        try clear hcz30_2
        try clear hcz30_3
        try clear hcz30_4
        try clear hcz30_5
        try clear hcz30_6
        try clear hcz32_0
        try clear hcz32_1
        try clear hcz32_2
        try clear hcz32_3
        try clear hcz32_4
        try clear hcz32_5
        try clear hcz32_6
        try clear hcz38_0
        try clear hcz38_1
        try clear hcz38_2
        try clear hcz38_3
        try clear hcz38_4
        try clear hcz38_5
        try clear hcz38_6
        try clear hcz42_0
        try clear hcz42_1
        try clear hcz42_2
        try clear hcz42_3
        try clear hcz42_4
        try clear hcz42_5
        try clear hcz42_6
        try clear hcz46_0
        try clear hcz46_1
        try clear hcz46_2
        try clear hcz46_3
        try clear hcz46_4
        try clear hcz46_5
        try clear hcz46_6
        try clear hcz48_0
        try clear hcz48_1
        try clear hcz48_2
        try clear hcz48_3
        try clear hcz48_4
        try clear hcz48_5
        try clear hcz48_6
        try clear hcz54_0
        try clear hcz54_1
        try clear hcz54_2
        try clear hcz54_3
        try clear hcz54_4
        try clear hcz54_5
        try clear hcz54_6
        try clear hcz58_0
        try clear hcz58_1
        try clear hcz58_2
        try clear hcz58_3
        try clear hcz58_4
        try clear hcz58_5
        try clear hcz58_6
        try clear hcz61_0
        try clear hcz61_1
        try clear hcz61_2
        try clear hcz61_3
        try clear hcz61_4
        try clear hcz61_5
        try clear hcz61_6
        try clear hcz65_0
        try clear hcz65_1
        try clear hcz65_2
        try clear hcz65_3
        try clear hcz65_4
        try clear hcz65_5
        try clear hcz65_6
        try clear hcz68_0
        try clear hcz68_1
        try clear hcz68_2
        try clear hcz68_3
        try clear hcz68_4
        try clear hcz68_5
        try clear hcz68_6
        try clear hcz8_0
        try clear hcz8_1
        try clear hcz8_2
        try clear hcz8_3
        try clear hcz8_4
        try clear hcz8_5
        try clear hcz8_6
        try clear hfz13_0
        try clear hfz13_1
        try clear hfz13_2
        try clear hfz13_3
        try clear hfz13_4
        try clear hfz13_5
        try clear hfz13_6
        try clear hfz21_0
        try clear hfz21_1
        try clear hfz21_2
        try clear hfz21_3
        try clear hfz21_4
        try clear hfz21_5
        try clear hfz21_6
        try clear hfz25_0
        try clear hfz25_1
        try clear hfz25_2
        try clear hfz25_3
        try clear hfz25_4
        try clear hfz25_5
        try clear hfz25_6
        try clear hfz30_0
        try clear hfz30_1
        try clear hfz30_2
        try clear hfz30_3
        try clear hfz30_4
        try clear hfz30_5
        try clear hfz30_6
        try clear hfz32_0
        try clear hfz32_1
        try clear hfz32_2
        try clear hfz32_3
        try clear hfz32_4
        try clear hfz32_5
        try clear hfz32_6
        try clear hfz38_0
        try clear hfz38_1
        try clear hfz38_2
        try clear hfz38_3
        try clear hfz38_4
        try clear hfz38_5
        try clear hfz38_6
        try clear hfz42_0
        try clear hfz42_1
        try clear hfz42_2
        try clear hfz42_3
        try clear hfz42_4
        try clear hfz42_5
        try clear hfz42_6
        try clear hfz46_0
        try clear hfz46_1
        try clear hfz46_2
        try clear hfz46_3
        try clear hfz46_4
        try clear hfz46_5
        try clear hfz46_6
        try clear hfz48_0
        try clear hfz48_1
        try clear hfz48_2
        try clear hfz48_3
        try clear hfz48_4
        try clear hfz48_5
        try clear hfz48_6
        try clear hfz54_0
        try clear hfz54_1
        try clear hfz54_2
        try clear hfz54_3
        try clear hfz54_4
        try clear hfz54_5
        try clear hfz54_6
        try clear hfz58_0
        try clear hfz58_1
        try clear hfz58_2
        try clear hfz58_3
        try clear hfz58_4
        try clear hfz58_5
        try clear hfz58_6
        try clear hfz61_0
        try clear hfz61_1
        try clear hfz61_2
        try clear hfz61_3
        try clear hfz61_4
        try clear hfz61_5
        try clear hfz61_6
        try clear hfz65_0
        try clear hfz65_1
        try clear hfz65_2
        try clear hfz65_3
        try clear hfz65_4
        try clear hfz65_5
        try clear hfz65_6
        try clear hfz68_0
        try clear hfz68_1
        try clear hfz68_2
        try clear hfz68_3
        try clear hfz68_4
        try clear hfz68_5
        try clear hfz68_6
        try clear hfz8_0
        try clear hfz8_1
        try clear hfz8_2
        try clear hfz8_3
        try clear hfz8_4
        try clear hfz8_5
        try clear hfz8_6
        try clear p2
        obtain ⟨kq, x31_48, rfl, HA, HJ48, HO_494002, HO_494003, BK480, BK481, BK493, HB⟩ := hcut
        cases kq with
        | zero => exact absurd HA.out (by simp [impl_Stand.j2])
        | succ kj48 =>
         have H := HA.out
         clear HA
         simp only [impl_Stand.j2] at H
         by_cases c69 : x31_48 = true
         ·subst c69
          replace H : (some (t482, t483, t484, t487, t490, t491, t492, 2)) = some (r1, r2, r3, r4, r5, r6, r7, r8) := by rw [if_pos rfl] at H; exact H
          simp only [Option.some.injEq, Prod.mk.injEq] at H
          obtain ⟨rfl, rfl, rfl, rfl, rfl, rfl, rfl, rfl⟩ := H
          have hnb70 := NB493_480.out
          have hnc70 := NB480_493.out
          have hnb71 := NB493_481.out
          have hnc71 := NB481_493.out
          obtain ⟨hcz72_0, hcz72_1, hcz72_2, hcz72_3, hcz72_4, hcz72_5, hcz72_6, hfz72_0, hfz72_1, hfz72_2, hfz72_3, hfz72_4, hfz72_5, hfz72_6⟩ := bk7 BK493.out
          have hnb73 := NB481_480.out
          have hnc73 := NB480_481.out
          obtain ⟨hcz74_0, hcz74_1, hcz74_2, hcz74_3, hcz74_4, hcz74_5, hcz74_6, hfz74_0, hfz74_1, hfz74_2, hfz74_3, hfz74_4, hfz74_5, hfz74_6⟩ := bk7 BK481.out
          go_wp2
          refine bodyPost_ret (results_ct rfl _ _ gb481 27 #[.bool t482, .bool t483, .slice Ao14 t484.length co14, .slice Ao15 t487.length co15, .int .i64 t490, .int .i64 t491, .int .i64 t492] (0, 0) _ rfl (by refine blk_put (cs := #[.bool t482, .bool t483, .slice Ao14 t484.length co14, .slice Ao15 t487.length co15, .int .i64 t490, .int .i64 t491, .int .i64 0]) ?_ 6 _ rfl; refine blk_put (cs := #[.bool t482, .bool t483, .slice Ao14 t484.length co14, .slice Ao15 t487.length co15, .int .i64 t490, .int .i64 0, .int .i64 0]) ?_ 5 _ rfl; refine blk_put (cs := #[.bool t482, .bool t483, .slice Ao14 t484.length co14, .slice Ao15 t487.length co15, .int .i64 0, .int .i64 0, .int .i64 0]) ?_ 4 _ rfl; refine blk_put (cs := #[.bool t482, .bool t483, .slice Ao14 t484.length co14, .slice none 0 0, .int .i64 0, .int .i64 0, .int .i64 0]) ?_ 3 _ rfl; refine blk_put (cs := #[.bool t482, .bool t483, .slice none 0 0, .slice none 0 0, .int .i64 0, .int .i64 0, .int .i64 0]) ?_ 2 _ rfl; refine blk_put (cs := #[.bool t482, .bool false, .slice none 0 0, .slice none 0 0, .int .i64 0, .int .i64 0, .int .i64 0]) ?_ 1 _ rfl; refine blk_put (cs := #[.bool false, .bool false, .slice none 0 0, .slice none 0 0, .int .i64 0, .int .i64 0, .int .i64 0]) ?_ 0 _ rfl; exact pkK BK481.out) Try.underlying27 rfl (by kernel_rfl)) rfl ?_
          exact ⟨_, _, rfe, by (with_reducible repeat (first | apply Kd.R_alloc | apply Kd.R_drewN | apply Kd.R_drew)); exact Kd.R_mono (Kd.R_far (p := ⟨gb481, 6, none⟩) (Kd.R_far (p := ⟨gb481, 5, none⟩) (Kd.R_far (p := ⟨gb481, 4, none⟩) (Kd.R_far (p := ⟨gb481, 3, none⟩) (Kd.R_far (p := ⟨gb481, 2, none⟩) (Kd.R_far (p := ⟨gb481, 1, none⟩) (Kd.R_far (p := ⟨gb481, 0, none⟩) (Kd.R_types HO_494002.out BK481.out (by decide)) (fun _ hk => hk.2) (.bool t482)) (fun _ hk => hk.2) (.bool t483)) (fun _ hk => hk.2) (.slice Ao14 t484.length co14)) (fun _ hk => hk.2) (.slice Ao15 t487.length co15)) (fun _ hk => hk.2) (.int .i64 t490)) (fun _ hk => hk.2) (.int .i64 t491)) (fun _ hk => hk.2) (.int .i64 t492)) (fun _ hk => hk.1), by (with_reducible repeat (first | apply Kd.R_alloc | apply Kd.R_drewN | apply Kd.R_drew)); exact Kd.R_mono (Kd.R_far (p := ⟨gb481, 6, none⟩) (Kd.R_far (p := ⟨gb481, 5, none⟩) (Kd.R_far (p := ⟨gb481, 4, none⟩) (Kd.R_far (p := ⟨gb481, 3, none⟩) (Kd.R_far (p := ⟨gb481, 2, none⟩) (Kd.R_far (p := ⟨gb481, 1, none⟩) (Kd.R_far (p := ⟨gb481, 0, none⟩) (Kd.R_types HO_494003.out BK481.out (by decide)) (fun _ hk => hk.2) (.bool t482)) (fun _ hk => hk.2) (.bool t483)) (fun _ hk => hk.2) (.slice Ao14 t484.length co14)) (fun _ hk => hk.2) (.slice Ao15 t487.length co15)) (fun _ hk => hk.2) (.int .i64 t490)) (fun _ hk => hk.2) (.int .i64 t491)) (fun _ hk => hk.2) (.int .i64 t492)) (fun _ hk => hk.1), pkW HB.out⟩
         ·replace c69 := Bool.eq_false_iff.mpr c69
          subst c69
          replace H : (if a0_1 = true then (impl_Stand.j3 kj48 a1 a0_0 a0_0 a0_1 l0_2 l0_3 a0_4 a0_5 a0_6 t482 t483 t484 t487 t490 t491 t492) else (impl_Stand.j3 kj48 a1 false a0_0 a0_1 l0_2 l0_3 a0_4 a0_5 a0_6 t482 t483 t484 t487 t490 t491 t492)) = some (r1, r2, r3, r4, r5, r6, r7, r8) := by rw [if_neg (show ¬ (false = true) by decide)] at H; exact H
          have HC75 := am H
          clear H
          go_upto_region 8 with (fail)
          go_cut [51] (fun v51 wc => ∃ (kq : Nat) (x51_74 : Bool), v51 = .bool x51_74 ∧ Aside0 (impl_Stand.j3 kq a1 x51_74 a0_0 a0_1 l0_2 l0_3 a0_4 a0_5 a0_6 t482 t483 t484 t487 t490 t491 t492 = some (r1, r2, r3, r4, r5, r6, r7, r8)) ∧ Aside0 (kq ≤ kj48) ∧ Aside0 (Kd.R (Kd.int .i64) 3 wc w.heap.size (fun k_ => some k_ ≠ ((.slice Ao15 t487.length co15) : Value).ownBlock) (.slice Ao14 t484.length co14) t484) ∧ Aside0 (Kd.R (Kd.int .i64) 3 wc w.heap.size (fun k_ => some k_ ≠ ((.slice Ao14 t484.length co14) : Value).ownBlock) (.slice Ao15 t487.length co15) t487) ∧ Aside0 (wc.heap[gb480]? = some (.cells #[.bool a0_0, .bool a0_1, (.slice A0_2 l0_2.length c0_2), (.slice A0_3 l0_3.length c0_3), .int .i64 a0_4, .int .i64 a0_5, .int .i64 a0_6] 27 (0, 0))) ∧ Aside0 (wc.heap[gb481]? = some (.cells #[.bool false, .bool false, (.slice none 0 0), (.slice none 0 0), .int .i64 0, .int .i64 0, .int .i64 0] 27 (0, 0))) ∧ Aside0 (wc.heap[gb493]? = some (.cells #[.bool t482, .bool t483, (.slice Ao14 t484.length co14), (.slice Ao15 t487.length co15), .int .i64 t490, .int .i64 t491, .int .i64 t492] 27 (0, 0))) ∧ Aside0 (Below w.heap.size w wc))
          case first =>
           have H := HC75.out
           clear HC75
           by_cases c76 : a0_1 = true
           ·subst c76
            replace H : (impl_Stand.j3 kj48 a1 a0_0 a0_0 true l0_2 l0_3 a0_4 a0_5 a0_6 t482 t483 t484 t487 t490 t491 t492) = some (r1, r2, r3, r4, r5, r6, r7, r8) := by rw [if_pos rfl] at H; exact H
            have H' := am H
            clear H
            have hnb77 := NB480_481.out
            have hnc77 := NB481_480.out
            have hnb78 := NB480_493.out
            have hnc78 := NB493_480.out
            obtain ⟨hcz79_0, hcz79_1, hcz79_2, hcz79_3, hcz79_4, hcz79_5, hcz79_6, hfz79_0, hfz79_1, hfz79_2, hfz79_3, hfz79_4, hfz79_5, hfz79_6⟩ := bk7 BK480.out
            go_wp2
            go_meet
            case rel => exact ⟨_, (a0_0), rfx, H', ⟨by have := HJ3.out; have := HJ32.out; have := HJ48.out; first | omega | exact Nat.le_refl _⟩, ⟨pkR HO_494002.out⟩, ⟨pkR HO_494003.out⟩, ⟨pkK BK480.out⟩, ⟨pkK BK481.out⟩, ⟨pkK BK493.out⟩, ⟨pkW HB.out⟩⟩
           ·replace c76 := Bool.eq_false_iff.mpr c76
            subst c76
            replace H : (impl_Stand.j3 kj48 a1 false a0_0 false l0_2 l0_3 a0_4 a0_5 a0_6 t482 t483 t484 t487 t490 t491 t492) = some (r1, r2, r3, r4, r5, r6, r7, r8) := by rw [if_neg (show ¬ (false = true) by decide)] at H; exact H
            have H' := am H
            clear H
            have hnb80 := NB480_481.out
            have hnc80 := NB481_480.out
            have hnb81 := NB480_493.out
            have hnc81 := NB493_480.out
            obtain ⟨hcz82_0, hcz82_1, hcz82_2, hcz82_3, hcz82_4, hcz82_5, hcz82_6, hfz82_0, hfz82_1, hfz82_2, hfz82_3, hfz82_4, hfz82_5, hfz82_6⟩ := bk7 BK480.out
            go_wp2
            go_meet
            case rel => exact ⟨_, (false), rfx, H', ⟨by have := HJ3.out; have := HJ32.out; have := HJ48.out; first | omega | exact Nat.le_refl _⟩, ⟨pkR HO_494002.out⟩, ⟨pkR HO_494003.out⟩, ⟨pkK BK480.out⟩, ⟨pkK BK481.out⟩, ⟨pkK BK493.out⟩, ⟨pkW HB.out⟩⟩
          case rest =>
           clear HC75
           try clear c1
           try clear c2
           try clear p2
           try clear c3
           try clear c4
           try clear c5
           try clear c6
           try clear c7
           try clear c8
           try clear c11
           try clear c12
           try clear c17
           try clear c19
           try clear c20
           try clear c23
           try clear c24
           try clear c27
           try clear c28
           try clear c29
           try clear c31
           try clear c35
           try clear c36
           try clear c37
           try clear c40
           try clear c41
           try clear c43
           try clear c44
           try clear c45
           try clear c47
           try clear c50
           try clear c51
           try clear c51b0
           try clear c51b1
           try clear c52
           try clear c53
           try clear c55
           try clear c56
           try clear c57
           try clear c59
           try clear c60
           try clear c62
           try clear c63
           try clear c64
           try clear c66
           try clear c67
           try clear c69
           try clear c70
           try clear c71
           try clear c73
           try clear c76
           try clear c77
           try clear c78
           try clear c80
           try clear c81
           try clear hcz13_0
           try clear hcz13_1
           try clear hcz13_2
           try clear hcz13_3
           try clear hcz13_4
           try clear hcz13_5
           try clear hcz13_6
           try clear hcz21_0
           try clear hcz21_1
           try clear hcz21_2
           try clear hcz21_3
           try clear hcz21_4
           try clear hcz21_5
           try clear hcz21_6
           try clear hcz25_0
           try clear hcz25_1
           try clear hcz25_2
           try clear hcz25_3
           try clear hcz25_4
           try clear hcz25_5
           try clear hcz25_6
           try clear hcz30_0
           try clear hcz30_1
           try clear hcz30_2
           try clear hcz30_3
           try clear hcz30_4
           try clear hcz30_5
           try clear hcz30_6
           try clear hcz32_0
           try clear hcz32_1
           try clear hcz32_2
           try clear hcz32_3
           try clear hcz32_4
           try clear hcz32_5
           try clear hcz32_6
           try clear hcz38_0
           try clear hcz38_1
           try clear hcz38_2
           try clear hcz38_3
           try clear hcz38_4
           try clear hcz38_5
           try clear hcz38_6
           try clear hcz42_0
           try clear hcz42_1
           try clear hcz42_2
           try clear hcz42_3
           try clear hcz42_4
           try clear hcz42_5
           try clear hcz42_6
           try clear hcz46_0
           try clear hcz46_1
           try clear hcz46_2
           try clear hcz46_3
           try clear hcz46_4
           try clear hcz46_5
           try clear hcz46_6
           try clear hcz48_0
           try clear hcz48_1
           try clear hcz48_2
           try clear hcz48_3
           try clear hcz48_4
           try clear hcz48_5
           try clear hcz48_6
           try clear hcz54_0
           try clear hcz54_1
           try clear hcz54_2
           try clear hcz54_3
           try clear hcz54_4
           try clear hcz54_5
           try clear hcz54_6
           try clear hcz58_0
           try clear hcz58_1
           try clear hcz58_2
           try clear hcz58_3
           try clear hcz58_4
           try clear hcz58_5
           try clear hcz58_6
           try clear hcz61_0
           try clear hcz61_1
           try clear hcz61_2
           try clear hcz61_3
           try clear hcz61_4
           try clear hcz61_5
           try clear hcz61_6
           try clear hcz65_0
           try clear hcz65_1
           try clear hcz65_2
           try clear hcz65_3
           try clear hcz65_4
           try clear hcz65_5
           try clear hcz65_6
           try clear hcz68_0
           try clear hcz68_1
           try clear hcz68_2
           try clear hcz68_3
           try clear hcz68_4
           try clear hcz68_5
           try clear hcz68_6
           try clear hcz72_0
           try clear hcz72_1
           try clear hcz72_2
           try clear hcz72_3
           try clear hcz72_4
           try clear hcz72_5
           try clear hcz72_6
           try clear hcz74_0
           try clear hcz74_1
           try clear hcz74_2
           try clear hcz74_3
           try clear hcz74_4
           try clear hcz74_5
           try clear hcz74_6
           try clear hcz79_0
           try clear hcz79_1
           try clear hcz79_2
           try clear hcz79_3
           try clear hcz79_4
           try clear hcz79_5
           try clear hcz79_6
           try clear hcz82_0
           try clear hcz82_1
           try clear hcz82_2
           try clear hcz82_3
           try clear hcz82_4
           try clear hcz82_5
           try clear hcz82_6
           try clear hcz8_0
           try clear hcz8_1
           try clear hcz8_2
           try clear hcz8_3
           try clear hcz8_4
           try clear hcz8_5
           try clear hcz8_6
           try clear hfz13_0
           try clear hfz13_1
           try clear hfz13_2
           try clear hfz13_3
           try clear hfz13_4
           try clear hfz13_5
           try clear hfz13_6
           try clear hfz21_0
           try clear hfz21_1
           try clear hfz21_2
           try clear hfz21_3
           try clear hfz21_4
           try clear hfz21_5
           try clear hfz21_6
           try clear hfz25_0
           try clear hfz25_1
           try clear hfz25_2
           try clear hfz25_3
           try clear hfz25_4
           try clear hfz25_5
           try clear hfz25_6
           try clear hfz30_0
           try clear hfz30_1
           try clear hfz30_2
           try clear hfz30_3
           try clear hfz30_4
           try clear hfz30_5
           try clear hfz30_6
           try clear hfz32_0
           try clear hfz32_1
           try clear hfz32_2
           try clear hfz32_3
           try clear hfz32_4
           try clear hfz32_5
           try clear hfz32_6
           try clear hfz38_0
           try clear hfz38_1
           try clear hfz38_2
           try clear hfz38_3
           try clear hfz38_4
           try clear hfz38_5
           try clear hfz38_6
           try clear hfz42_0
           try clear hfz42_1
           try clear hfz42_2
           try clear hfz42_3
           try clear hfz42_4
           try clear hfz42_5
           try clear hfz42_6
           try clear hfz46_0
           try clear hfz46_1
           try clear hfz46_2
           try clear hfz46_3
           try clear hfz46_4
           try clear hfz46_5
           try clear hfz46_6
           try clear hfz48_0
           try clear hfz48_1
           try clear hfz48_2
           try clear hfz48_3
           try clear hfz48_4
           try clear hfz48_5
           try clear hfz48_6
           try clear hfz54_0
           try clear hfz54_1
           try clear hfz54_2
           try clear hfz54_3
           try clear hfz54_4
           try clear hfz54_5
           try clear hfz54_6
           try clear hfz58_0
           try clear hfz58_1
           try clear hfz58_2
           try clear hfz58_3
           try clear hfz58_4
           try clear hfz58_5
           try clear hfz58_6
           try clear hfz61_0
           try clear hfz61_1
           try clear hfz61_2
           try clear hfz61_3
           try clear hfz61_4
           try clear hfz61_5
           try clear hfz61_6
           try clear hfz65_0
           try clear hfz65_1
           try clear hfz65_2
           try clear hfz65_3
           try clear hfz65_4
           try clear hfz65_5
           try clear hfz65_6
           try clear hfz68_0
           try clear hfz68_1
           try clear hfz68_2
           try clear hfz68_3
           try clear hfz68_4
           try clear hfz68_5
           try clear hfz68_6
           try clear hfz72_0
           try clear hfz72_1
           try clear hfz72_2
           try clear hfz72_3
           try clear hfz72_4
           try clear hfz72_5
           try clear hfz72_6
           try clear hfz74_0
           try clear hfz74_1
           try clear hfz74_2
           try clear hfz74_3
           try clear hfz74_4
           try clear hfz74_5
           try clear hfz74_6
           try clear hfz79_0
           try clear hfz79_1
           try clear hfz79_2
           try clear hfz79_3
           try clear hfz79_4
           try clear hfz79_5
           try clear hfz79_6
           try clear hfz82_0
           try clear hfz82_1
           try clear hfz82_2
           try clear hfz82_3
           try clear hfz82_4
           try clear hfz82_5
           try clear hfz82_6
           try clear hfz8_0
           try clear hfz8_1
           try clear hfz8_2
           try clear hfz8_3
           try clear hfz8_4
           try clear hfz8_5
           try clear hfz8_6
           try clear p2
           obtain ⟨kq, x51_74, rfl, HA, HJ74, HO_494002, HO_494003, BK480, BK481, BK493, HB⟩ := hcut
           cases kq with
           | zero => exact absurd HA.out (by simp [impl_Stand.j3])
           | succ kj74 =>
            have H := HA.out
            clear HA
            simp only [impl_Stand.j3] at H
            by_cases c83 : x51_74 = true
            ·subst c83
             replace H : (some (t482, false, t484, t487, t490, t491, wrap64 (t492 + 1), 0)) = some (r1, r2, r3, r4, r5, r6, r7, r8) := by rw [if_pos rfl] at H; exact H
             simp only [Option.some.injEq, Prod.mk.injEq] at H
             obtain ⟨rfl, rfl, rfl, rfl, rfl, rfl, rfl, rfl⟩ := H
             have hnb84 := NB493_480.out
             have hnc84 := NB480_493.out
             have hnb85 := NB493_481.out
             have hnc85 := NB481_493.out
             obtain ⟨hcz86_0, hcz86_1, hcz86_2, hcz86_3, hcz86_4, hcz86_5, hcz86_6, hfz86_0, hfz86_1, hfz86_2, hfz86_3, hfz86_4, hfz86_5, hfz86_6⟩ := bk7 BK493.out
             have hnb87 := NB481_480.out
             have hnc87 := NB480_481.out
             obtain ⟨hcz88_0, hcz88_1, hcz88_2, hcz88_3, hcz88_4, hcz88_5, hcz88_6, hfz88_0, hfz88_1, hfz88_2, hfz88_3, hfz88_4, hfz88_5, hfz88_6⟩ := bk7 BK481.out
             go_wp2
             refine bodyPost_ret (results_ct rfl _ _ gb481 27 #[.bool t482, .bool false, .slice Ao14 t484.length co14, .slice Ao15 t487.length co15, .int .i64 t490, .int .i64 t491, .int .i64 (wrap64 (t492 + 1))] (0, 0) _ rfl (by refine blk_put (cs := #[.bool t482, .bool false, .slice Ao14 t484.length co14, .slice Ao15 t487.length co15, .int .i64 t490, .int .i64 t491, .int .i64 0]) ?_ 6 _ rfl; refine blk_put (cs := #[.bool t482, .bool false, .slice Ao14 t484.length co14, .slice Ao15 t487.length co15, .int .i64 t490, .int .i64 0, .int .i64 0]) ?_ 5 _ rfl; refine blk_put (cs := #[.bool t482, .bool false, .slice Ao14 t484.length co14, .slice Ao15 t487.length co15, .int .i64 0, .int .i64 0, .int .i64 0]) ?_ 4 _ rfl; refine blk_put (cs := #[.bool t482, .bool false, .slice Ao14 t484.length co14, .slice none 0 0, .int .i64 0, .int .i64 0, .int .i64 0]) ?_ 3 _ rfl; refine blk_put (cs := #[.bool t482, .bool false, .slice none 0 0, .slice none 0 0, .int .i64 0, .int .i64 0, .int .i64 0]) ?_ 2 _ rfl; refine blk_put (cs := #[.bool t482, .bool false, .slice none 0 0, .slice none 0 0, .int .i64 0, .int .i64 0, .int .i64 0]) ?_ 1 _ rfl; refine blk_put (cs := #[.bool false, .bool false, .slice none 0 0, .slice none 0 0, .int .i64 0, .int .i64 0, .int .i64 0]) ?_ 0 _ rfl; refine blk_far ?_ NB481_493.out _; refine blk_far ?_ NB481_493.out _; exact pkK BK481.out) Try.underlying27 rfl (by kernel_rfl)) rfl ?_
             exact ⟨_, _, rfe, by (with_reducible repeat (first | apply Kd.R_alloc | apply Kd.R_drewN | apply Kd.R_drew)); exact Kd.R_mono (Kd.R_far (p := ⟨gb481, 6, none⟩) (Kd.R_far (p := ⟨gb481, 5, none⟩) (Kd.R_far (p := ⟨gb481, 4, none⟩) (Kd.R_far (p := ⟨gb481, 3, none⟩) (Kd.R_far (p := ⟨gb481, 2, none⟩) (Kd.R_far (p := ⟨gb481, 1, none⟩) (Kd.R_far (p := ⟨gb481, 0, none⟩) (Kd.R_far (p := ⟨gb493, 6, none⟩) (Kd.R_far (p := ⟨gb493, 1, none⟩) (Kd.R_types (Kd.R_types HO_494002.out BK493.out (by decide)) BK481.out (by decide)) (fun _ hk => hk.1.2) (.bool false)) (fun _ hk => hk.1.2) (.int .i64 (wrap64 (t492 + 1)))) (fun _ hk => hk.2) (.bool t482)) (fun _ hk => hk.2) (.bool false)) (fun _ hk => hk.2) (.slice Ao14 t484.length co14)) (fun _ hk => hk.2) (.slice Ao15 t487.length co15)) (fun _ hk => hk.2) (.int .i64 t490)) (fun _ hk => hk.2) (.int .i64 t491)) (fun _ hk => hk.2) (.int .i64 (wrap64 (t492 + 1)))) (fun _ hk => hk.1.1), by (with_reducible repeat (first | apply Kd.R_alloc | apply Kd.R_drewN | apply Kd.R_drew)); exact Kd.R_mono (Kd.R_far (p := ⟨gb481, 6, none⟩) (Kd.R_far (p := ⟨gb481, 5, none⟩) (Kd.R_far (p := ⟨gb481, 4, none⟩) (Kd.R_far (p := ⟨gb481, 3, none⟩) (Kd.R_far (p := ⟨gb481, 2, none⟩) (Kd.R_far (p := ⟨gb481, 1, none⟩) (Kd.R_far (p := ⟨gb481, 0, none⟩) (Kd.R_far (p := ⟨gb493, 6, none⟩) (Kd.R_far (p := ⟨gb493, 1, none⟩) (Kd.R_types (Kd.R_types HO_494003.out BK493.out (by decide)) BK481.out (by decide)) (fun _ hk => hk.1.2) (.bool false)) (fun _ hk => hk.1.2) (.int .i64 (wrap64 (t492 + 1)))) (fun _ hk => hk.2) (.bool t482)) (fun _ hk => hk.2) (.bool false)) (fun _ hk => hk.2) (.slice Ao14 t484.length co14)) (fun _ hk => hk.2) (.slice Ao15 t487.length co15)) (fun _ hk => hk.2) (.int .i64 t490)) (fun _ hk => hk.2) (.int .i64 t491)) (fun _ hk => hk.2) (.int .i64 (wrap64 (t492 + 1)))) (fun _ hk => hk.1.1), pkW HB.out⟩
            ·replace c83 := Bool.eq_false_iff.mpr c83
             subst c83
             replace H : (if a0_1 = true then (some (t482, t483, t484, t487, t490, t491, t492, 0)) else (if t484.length < 17592186044416 then (some (t482, t483, (t484 ++ [a1]), t487, t490, t491, t492, 4)) else (none))) = some (r1, r2, r3, r4, r5, r6, r7, r8) := by rw [if_neg (show ¬ (false = true) by decide)] at H; exact H
             by_cases c89 : a0_1 = true
             ·subst c89
              replace H : (some (t482, t483, t484, t487, t490, t491, t492, 0)) = some (r1, r2, r3, r4, r5, r6, r7, r8) := by rw [if_pos rfl] at H; exact H
              simp only [Option.some.injEq, Prod.mk.injEq] at H
              obtain ⟨rfl, rfl, rfl, rfl, rfl, rfl, rfl, rfl⟩ := H
              have hnb90 := NB480_481.out
              have hnc90 := NB481_480.out
              have hnb91 := NB480_493.out
              have hnc91 := NB493_480.out
              obtain ⟨hcz92_0, hcz92_1, hcz92_2, hcz92_3, hcz92_4, hcz92_5, hcz92_6, hfz92_0, hfz92_1, hfz92_2, hfz92_3, hfz92_4, hfz92_5, hfz92_6⟩ := bk7 BK480.out
              have hnb93 := NB493_481.out
              have hnc93 := NB481_493.out
              obtain ⟨hcz94_0, hcz94_1, hcz94_2, hcz94_3, hcz94_4, hcz94_5, hcz94_6, hfz94_0, hfz94_1, hfz94_2, hfz94_3, hfz94_4, hfz94_5, hfz94_6⟩ := bk7 BK493.out
              obtain ⟨hcz95_0, hcz95_1, hcz95_2, hcz95_3, hcz95_4, hcz95_5, hcz95_6, hfz95_0, hfz95_1, hfz95_2, hfz95_3, hfz95_4, hfz95_5, hfz95_6⟩ := bk7 BK481.out
              go_wp2
              refine bodyPost_ret (results_ct rfl _ _ gb481 27 #[.bool t482, .bool t483, .slice Ao14 t484.length co14, .slice Ao15 t487.length co15, .int .i64 t490, .int .i64 t491, .int .i64 t492] (0, 0) _ rfl (by refine blk_put (cs := #[.bool t482, .bool t483, .slice Ao14 t484.length co14, .slice Ao15 t487.length co15, .int .i64 t490, .int .i64 t491, .int .i64 0]) ?_ 6 _ rfl; refine blk_put (cs := #[.bool t482, .bool t483, .slice Ao14 t484.length co14, .slice Ao15 t487.length co15, .int .i64 t490, .int .i64 0, .int .i64 0]) ?_ 5 _ rfl; refine blk_put (cs := #[.bool t482, .bool t483, .slice Ao14 t484.length co14, .slice Ao15 t487.length co15, .int .i64 0, .int .i64 0, .int .i64 0]) ?_ 4 _ rfl; refine blk_put (cs := #[.bool t482, .bool t483, .slice Ao14 t484.length co14, .slice none 0 0, .int .i64 0, .int .i64 0, .int .i64 0]) ?_ 3 _ rfl; refine blk_put (cs := #[.bool t482, .bool t483, .slice none 0 0, .slice none 0 0, .int .i64 0, .int .i64 0, .int .i64 0]) ?_ 2 _ rfl; refine blk_put (cs := #[.bool t482, .bool false, .slice none 0 0, .slice none 0 0, .int .i64 0, .int .i64 0, .int .i64 0]) ?_ 1 _ rfl; refine blk_put (cs := #[.bool false, .bool false, .slice none 0 0, .slice none 0 0, .int .i64 0, .int .i64 0, .int .i64 0]) ?_ 0 _ rfl; exact pkK BK481.out) Try.underlying27 rfl (by kernel_rfl)) rfl ?_
              exact ⟨_, _, rfe, by (with_reducible repeat (first | apply Kd.R_alloc | apply Kd.R_drewN | apply Kd.R_drew)); exact Kd.R_mono (Kd.R_far (p := ⟨gb481, 6, none⟩) (Kd.R_far (p := ⟨gb481, 5, none⟩) (Kd.R_far (p := ⟨gb481, 4, none⟩) (Kd.R_far (p := ⟨gb481, 3, none⟩) (Kd.R_far (p := ⟨gb481, 2, none⟩) (Kd.R_far (p := ⟨gb481, 1, none⟩) (Kd.R_far (p := ⟨gb481, 0, none⟩) (Kd.R_types HO_494002.out BK481.out (by decide)) (fun _ hk => hk.2) (.bool t482)) (fun _ hk => hk.2) (.bool t483)) (fun _ hk => hk.2) (.slice Ao14 t484.length co14)) (fun _ hk => hk.2) (.slice Ao15 t487.length co15)) (fun _ hk => hk.2) (.int .i64 t490)) (fun _ hk => hk.2) (.int .i64 t491)) (fun _ hk => hk.2) (.int .i64 t492)) (fun _ hk => hk.1), by (with_reducible repeat (first | apply Kd.R_alloc | apply Kd.R_drewN | apply Kd.R_drew)); exact Kd.R_mono (Kd.R_far (p := ⟨gb481, 6, none⟩) (Kd.R_far (p := ⟨gb481, 5, none⟩) (Kd.R_far (p := ⟨gb481, 4, none⟩) (Kd.R_far (p := ⟨gb481, 3, none⟩) (Kd.R_far (p := ⟨gb481, 2, none⟩) (Kd.R_far (p := ⟨gb481, 1, none⟩) (Kd.R_far (p := ⟨gb481, 0, none⟩) (Kd.R_types HO_494003.out BK481.out (by decide)) (fun _ hk => hk.2) (.bool t482)) (fun _ hk => hk.2) (.bool t483)) (fun _ hk => hk.2) (.slice Ao14 t484.length co14)) (fun _ hk => hk.2) (.slice Ao15 t487.length co15)) (fun _ hk => hk.2) (.int .i64 t490)) (fun _ hk => hk.2) (.int .i64 t491)) (fun _ hk => hk.2) (.int .i64 t492)) (fun _ hk => hk.1), pkW HB.out⟩
             ·replace c89 := Bool.eq_false_iff.mpr c89
              subst c89
              replace H : (if t484.length < 17592186044416 then (some (t482, t483, (t484 ++ [a1]), t487, t490, t491, t492, 4)) else (none)) = some (r1, r2, r3, r4, r5, r6, r7, r8) := by rw [if_neg (show ¬ (false = true) by decide)] at H; exact H
              by_cases c96 : t484.length < 17592186044416
              ·rw [if_pos c96] at H
               have LMc96 := am c96
               clear c96
               obtain ⟨y498, hy498⟩ : ∃ y_ : List Int, y_ = (t484 ++ [a1]) := ⟨_, rfl⟩
               replace H : (some (t482, t483, y498, t487, t490, t491, t492, 4)) = some (r1, r2, r3, r4, r5, r6, r7, r8) := by first | (rw [hy498]; with_reducible exact H) | (have H2_ := (Option.bind_some _ _).symm.trans H; rw [hy498]; with_reducible exact H2_) | (have H2_ := (Option.bind_some _ _).symm.trans H; with_reducible exact H2_) | with_reducible exact H | (rw [hy498]; exact H) | exact H
               have Ny498 := am hy498
               clear hy498
               simp only [Option.some.injEq, Prod.mk.injEq] at H
               obtain ⟨rfl, rfl, rfl, rfl, rfl, rfl, rfl, rfl⟩ := H
               have hnb97 := NB480_481.out
               have hnc97 := NB481_480.out
               have hnb98 := NB480_493.out
               have hnc98 := NB493_480.out
               obtain ⟨hcz99_0, hcz99_1, hcz99_2, hcz99_3, hcz99_4, hcz99_5, hcz99_6, hfz99_0, hfz99_1, hfz99_2, hfz99_3, hfz99_4, hfz99_5, hfz99_6⟩ := bk7 BK480.out
               have hnb100 := NB493_481.out
               have hnc100 := NB481_493.out
               obtain ⟨hcz101_0, hcz101_1, hcz101_2, hcz101_3, hcz101_4, hcz101_5, hcz101_6, hfz101_0, hfz101_1, hfz101_2, hfz101_3, hfz101_4, hfz101_5, hfz101_6⟩ := bk7 BK493.out
               go_wp2_with (first | ((with_reducible refine gate_builtin (b := .append) (xs := #[.tmp 69, .tmp 71]) rfl ?_); (try (refine gate_guard (by rfl) ?_; dsimp only)); at_builtin; refine Kd.R_append (Kd.int .i64) (w0 := w) w.heap.size rfl (.tmp 69) (.tmp 71) 22 3 (.int .i64 0) 8 rfl Try.underlying22 info3 rfl (by decide) (by omega) (.slice Ao14 t484.length co14) t484 a1 [.int .i64 a1] (fun k_ => some k_ ≠ (.slice Ao15 t487.length co15 : Value).ownBlock) (fun _ => False) rfl rfl ?aP (fun _ hk => hk.elim) ?aF ?aO ?aB ?aS ?aL ?_; (case aP => exact rfl); (case aB => exact (pkW HB.out)); (case aF => exact (fun k_ hk => Kd.fresh' (Kd.R_lt (pkR HO_494003.out)) k_ hk)); (case aO => exact (pkR HO_494002.out)); (case aS => exact (below_size (pkW HB.out))); (case aL => have := LMc96.out; omega); intro v499 w102 ho hb hg hat; rw [← Ny498.out] at ho; replace HO_494003 := am (Kd.R_after (ok := (fun _ => True)) (Kd.R_mono (pkR HO_494003.out) (fun _ hk => ⟨trivial, hk⟩)) hg hat); replace BK480 := am (blk_grown (g := gb480) (o := .cells #[.bool a0_0, .bool false, .slice A0_2 l0_2.length c0_2, .slice A0_3 l0_3.length c0_3, .int .i64 a0_4, .int .i64 a0_5, .int .i64 a0_6] 27 (0, 0)) (pkK BK480.out) hg (Kd.R_ne HO_494002.out BK480.out (by decide))); replace BK481 := am (blk_grown (g := gb481) (o := .cells #[.bool false, .bool false, .slice none 0 0, .slice none 0 0, .int .i64 0, .int .i64 0, .int .i64 0] 27 (0, 0)) (pkK BK481.out) hg (Kd.R_ne HO_494002.out BK481.out (by decide))); replace BK493 := am (blk_grown (g := gb493) (o := .cells #[.bool t482, .bool t483, .slice Ao14 t484.length co14, .slice Ao15 t487.length co15, .int .i64 t490, .int .i64 t491, .int .i64 t492] 27 (0, 0)) (pkK BK493.out) hg (Kd.R_ne HO_494002.out BK493.out (by decide))); replace HB := am (hb); have HO500 := am (ho); clear HO_494002; clear ho hb hg hat; obtain ⟨Ao103, co103, eo103⟩ := Kd.R_slice HO500.out; subst eo103; obtain ⟨hcz104_0, hcz104_1, hcz104_2, hcz104_3, hcz104_4, hcz104_5, hcz104_6, hfz104_0, hfz104_1, hfz104_2, hfz104_3, hfz104_4, hfz104_5, hfz104_6⟩ := bk7 BK493.out; obtain ⟨hcz105_0, hcz105_1, hcz105_2, hcz105_3, hcz105_4, hcz105_5, hcz105_6, hfz105_0, hfz105_1, hfz105_2, hfz105_3, hfz105_4, hfz105_5, hfz105_6⟩ := bk7 BK481.out))
               refine bodyPost_ret (results_ct rfl _ _ gb481 27 #[.bool t482, .bool t483, .slice Ao103 y498.length co103, .slice Ao15 t487.length co15, .int .i64 t490, .int .i64 t491, .int .i64 t492] (0, 0) _ rfl (by refine blk_put (cs := #[.bool t482, .bool t483, .slice Ao103 y498.length co103, .slice Ao15 t487.length co15, .int .i64 t490, .int .i64 t491, .int .i64 0]) ?_ 6 _ rfl; refine blk_put (cs := #[.bool t482, .bool t483, .slice Ao103 y498.length co103, .slice Ao15 t487.length co15, .int .i64 t490, .int .i64 0, .int .i64 0]) ?_ 5 _ rfl; refine blk_put (cs := #[.bool t482, .bool t483, .slice Ao103 y498.length co103, .slice Ao15 t487.length co15, .int .i64 0, .int .i64 0, .int .i64 0]) ?_ 4 _ rfl; refine blk_put (cs := #[.bool t482, .bool t483, .slice Ao103 y498.length co103, .slice none 0 0, .int .i64 0, .int .i64 0, .int .i64 0]) ?_ 3 _ rfl; refine blk_put (cs := #[.bool t482, .bool t483, .slice none 0 0, .slice none 0 0, .int .i64 0, .int .i64 0, .int .i64 0]) ?_ 2 _ rfl; refine blk_put (cs := #[.bool t482, .bool false, .slice none 0 0, .slice none 0 0, .int .i64 0, .int .i64 0, .int .i64 0]) ?_ 1 _ rfl; refine blk_put (cs := #[.bool false, .bool false, .slice none 0 0, .slice none 0 0, .int .i64 0, .int .i64 0, .int .i64 0]) ?_ 0 _ rfl; refine blk_far ?_ NB481_493.out _; exact pkK BK481.out) Try.underlying27 rfl (by kernel_rfl)) rfl ?_
               exact ⟨_, _, rfe, by (with_reducible repeat (first | apply Kd.R_alloc | apply Kd.R_drewN | apply Kd.R_drew)); exact Kd.R_mono (Kd.R_far (p := ⟨gb481, 6, none⟩) (Kd.R_far (p := ⟨gb481, 5, none⟩) (Kd.R_far (p := ⟨gb481, 4, none⟩) (Kd.R_far (p := ⟨gb481, 3, none⟩) (Kd.R_far (p := ⟨gb481, 2, none⟩) (Kd.R_far (p := ⟨gb481, 1, none⟩) (Kd.R_far (p := ⟨gb481, 0, none⟩) (Kd.R_far (p := ⟨gb493, 2, none⟩) (Kd.R_types (Kd.R_types HO500.out BK493.out (by decide)) BK481.out (by decide)) (fun _ hk => hk.1.2) (.slice Ao103 y498.length co103)) (fun _ hk => hk.2) (.bool t482)) (fun _ hk => hk.2) (.bool t483)) (fun _ hk => hk.2) (.slice Ao103 y498.length co103)) (fun _ hk => hk.2) (.slice Ao15 t487.length co15)) (fun _ hk => hk.2) (.int .i64 t490)) (fun _ hk => hk.2) (.int .i64 t491)) (fun _ hk => hk.2) (.int .i64 t492)) (fun _ hk => hk.1.1), by (with_reducible repeat (first | apply Kd.R_alloc | apply Kd.R_drewN | apply Kd.R_drew)); exact Kd.R_mono (Kd.R_far (p := ⟨gb481, 6, none⟩) (Kd.R_far (p := ⟨gb481, 5, none⟩) (Kd.R_far (p := ⟨gb481, 4, none⟩) (Kd.R_far (p := ⟨gb481, 3, none⟩) (Kd.R_far (p := ⟨gb481, 2, none⟩) (Kd.R_far (p := ⟨gb481, 1, none⟩) (Kd.R_far (p := ⟨gb481, 0, none⟩) (Kd.R_far (p := ⟨gb493, 2, none⟩) (Kd.R_types (Kd.R_types HO_494003.out BK493.out (by decide)) BK481.out (by decide)) (fun _ hk => hk.1.2) (.slice Ao103 y498.length co103)) (fun _ hk => hk.2) (.bool t482)) (fun _ hk => hk.2) (.bool t483)) (fun _ hk => hk.2) (.slice Ao103 y498.length co103)) (fun _ hk => hk.2) (.slice Ao15 t487.length co15)) (fun _ hk => hk.2) (.int .i64 t490)) (fun _ hk => hk.2) (.int .i64 t491)) (fun _ hk => hk.2) (.int .i64 t492)) (fun _ hk => hk.1.1.2), pkW HB.out⟩
              ·rw [if_neg c96] at H
               exact absurd H (by simp)
end Go.Proofs.Ytdagpmnadapbjaa.Z
