import Derived.Test.YtdagpmnadapbjaaZx0
import Derived.Test.YtdagpmnadapbjaaZx7
import Derived.Test.YtdagpmnadapbjaaZx11
import Derived.Test.YtdagpmnadapbjaaZx22
namespace Go.Proofs.Ytdagpmnadapbjaa.Z
open Go.RowKit Go.Proofs.YtdagpmnadapbjaaW.PrintWords Go.Proofs.YtdagpmnadapbjaaW.PrintLast Go.Proofs.YtdagpmnadapbjaaW.PrintMore
attribute [local go_sem] max2_int min2_int max_two min_two max_three min_three max_four min_four   -- for this text's walks alone
set_option linter.unusedVariables false
set_option linter.unusedSimpArgs false
mutual
def impl_Stand.j0 : Nat → Int → Bool → Bool → Bool → List Int → List Int → Int → Int → Int → Bool → Bool → List Int → List Int → Int → Int → Int → Option (Bool × Bool × List Int × List Int × Int × Int × Int × Int)
  | 0, _, _, _, _, _, _, _, _, _, _, _, _, _, _, _, _ => none
  | k + 1, x1, x9, x481000, x481001, x481002, x481003, x481004, x481005, x481006, x494000, x494001, x494002, x494003, x494004, x494005, x494006 => if x9 = true then (some (x494000, x494001, x494002, x494003, x494004, x494005, x494006, 1)) else ((slices_Contains_int_int.f k x481002 x1).bind fun t496 => (if t496 = true then (impl_Stand.j1 k x1 true x481000 x481001 x481002 x481003 x481004 x481005 x481006 x494000 x494001 x494002 x494003 x494004 x494005 x494006) else ((slices_Contains_int_int.f k x481003 x1).bind fun t497 => (impl_Stand.j1 k x1 t497 x481000 x481001 x481002 x481003 x481004 x481005 x481006 x494000 x494001 x494002 x494003 x494004 x494005 x494006))))
def impl_Stand.j1 : Nat → Int → Bool → Bool → Bool → List Int → List Int → Int → Int → Int → Bool → Bool → List Int → List Int → Int → Int → Int → Option (Bool × Bool × List Int × List Int × Int × Int × Int × Int)
  | 0, _, _, _, _, _, _, _, _, _, _, _, _, _, _, _, _ => none
  | k + 1, x1, x19, x481000, x481001, x481002, x481003, x481004, x481005, x481006, x494000, x494001, x494002, x494003, x494004, x494005, x494006 => if x19 = true then (some (x494000, x494001, x494002, x494003, x494004, x494005, x494006, 5)) else (if x481000 = true then (if x481006 = 1000000000 then (impl_Stand.j2 k x1 true x481000 x481001 x481002 x481003 x481004 x481005 x481006 x494000 x494001 x494002 x494003 x494004 x494005 x494006) else (if x481001 = true then (impl_Stand.j2 k x1 false x481000 x481001 x481002 x481003 x481004 x481005 x481006 x494000 x494001 x494002 x494003 x494004 x494005 x494006) else (impl_Stand.j2 k x1 ((x481002.length : Int) == 32) x481000 x481001 x481002 x481003 x481004 x481005 x481006 x494000 x494001 x494002 x494003 x494004 x494005 x494006))) else (if x481001 = true then (impl_Stand.j2 k x1 false x481000 x481001 x481002 x481003 x481004 x481005 x481006 x494000 x494001 x494002 x494003 x494004 x494005 x494006) else (impl_Stand.j2 k x1 ((x481002.length : Int) == 32) x481000 x481001 x481002 x481003 x481004 x481005 x481006 x494000 x494001 x494002 x494003 x494004 x494005 x494006)))
def impl_Stand.j2 : Nat → Int → Bool → Bool → Bool → List Int → List Int → Int → Int → Int → Bool → Bool → List Int → List Int → Int → Int → Int → Option (Bool × Bool × List Int × List Int × Int × Int × Int × Int)
  | 0, _, _, _, _, _, _, _, _, _, _, _, _, _, _, _, _ => none
  | k + 1, x1, x31, x481000, x481001, x481002, x481003, x481004, x481005, x481006, x494000, x494001, x494002, x494003, x494004, x494005, x494006 => if x31 = true then (some (x494000, x494001, x494002, x494003, x494004, x494005, x494006, 2)) else (if x481001 = true then (impl_Stand.j3 k x1 x481000 x481000 x481001 x481002 x481003 x481004 x481005 x481006 x494000 x494001 x494002 x494003 x494004 x494005 x494006) else (impl_Stand.j3 k x1 false x481000 x481001 x481002 x481003 x481004 x481005 x481006 x494000 x494001 x494002 x494003 x494004 x494005 x494006))
def impl_Stand.j3 : Nat → Int → Bool → Bool → Bool → List Int → List Int → Int → Int → Int → Bool → Bool → List Int → List Int → Int → Int → Int → Option (Bool × Bool × List Int × List Int × Int × Int × Int × Int)
  | 0, _, _, _, _, _, _, _, _, _, _, _, _, _, _, _, _ => none
  | k + 1, x1, x51, x481000, x481001, x481002, x481003, x481004, x481005, x481006, x494000, x494001, x494002, x494003, x494004, x494005, x494006 => if x51 = true then (some (x494000, false, x494002, x494003, x494004, x494005, wrap64 (x494006 + 1), 0)) else (if x481001 = true then (some (x494000, x494001, x494002, x494003, x494004, x494005, x494006, 0)) else (if x494002.length < 17592186044416 then (some (x494000, x494001, (x494002 ++ [x1]), x494003, x494004, x494005, x494006, 4)) else (none)))
end
def impl_Stand.f (k : Nat) (a0_0 : Bool) (a0_1 : Bool) (l0_2 : List Int) (l0_3 : List Int) (a0_4 : Int) (a0_5 : Int) (a0_6 : Int) (a1 : Int) : Option (Bool × Bool × List Int × List Int × Int × Int × Int × Int) := (impl_copyEvent.f a0_0 a0_1 l0_2 l0_3 a0_4 a0_5 a0_6).bind fun bt482 => ((impl_EventOk.f k a0_0 a0_1 l0_2 l0_3 a0_4 a0_5 a0_6).bind fun t494 => (if t494 = true then ((impl_isClient.f a1).bind fun t495 => (impl_Stand.j0 k a1 (!t495) a0_0 a0_1 l0_2 l0_3 a0_4 a0_5 a0_6 bt482.1 bt482.2.1 bt482.2.2.1 bt482.2.2.2.1 bt482.2.2.2.2.1 bt482.2.2.2.2.2.1 bt482.2.2.2.2.2.2)) else (impl_Stand.j0 k a1 true a0_0 a0_1 l0_2 l0_3 a0_4 a0_5 a0_6 bt482.1 bt482.2.1 bt482.2.2.1 bt482.2.2.2.1 bt482.2.2.2.2.1 bt482.2.2.2.2.2.1 bt482.2.2.2.2.2.2)))
theorem impl_Stand.mono_l : ∀ k, (∀ y0 y1 y2 y3 y4 y5 y6 y7 y8 y9 y10 y11 y12 y13 y14 y15, LeO (impl_Stand.j0 k y0 y1 y2 y3 y4 y5 y6 y7 y8 y9 y10 y11 y12 y13 y14 y15) (impl_Stand.j0 (k + 1) y0 y1 y2 y3 y4 y5 y6 y7 y8 y9 y10 y11 y12 y13 y14 y15)) ∧ (∀ y0 y1 y2 y3 y4 y5 y6 y7 y8 y9 y10 y11 y12 y13 y14 y15, LeO (impl_Stand.j1 k y0 y1 y2 y3 y4 y5 y6 y7 y8 y9 y10 y11 y12 y13 y14 y15) (impl_Stand.j1 (k + 1) y0 y1 y2 y3 y4 y5 y6 y7 y8 y9 y10 y11 y12 y13 y14 y15)) ∧ (∀ y0 y1 y2 y3 y4 y5 y6 y7 y8 y9 y10 y11 y12 y13 y14 y15, LeO (impl_Stand.j2 k y0 y1 y2 y3 y4 y5 y6 y7 y8 y9 y10 y11 y12 y13 y14 y15) (impl_Stand.j2 (k + 1) y0 y1 y2 y3 y4 y5 y6 y7 y8 y9 y10 y11 y12 y13 y14 y15)) ∧ (∀ y0 y1 y2 y3 y4 y5 y6 y7 y8 y9 y10 y11 y12 y13 y14 y15, LeO (impl_Stand.j3 k y0 y1 y2 y3 y4 y5 y6 y7 y8 y9 y10 y11 y12 y13 y14 y15) (impl_Stand.j3 (k + 1) y0 y1 y2 y3 y4 y5 y6 y7 y8 y9 y10 y11 y12 y13 y14 y15))
  | 0 => ⟨fun _ _ _ _ _ _ _ _ _ _ _ _ _ _ _ _ r h => by simp [impl_Stand.j0] at h, fun _ _ _ _ _ _ _ _ _ _ _ _ _ _ _ _ r h => by simp [impl_Stand.j1] at h, fun _ _ _ _ _ _ _ _ _ _ _ _ _ _ _ _ r h => by simp [impl_Stand.j2] at h, fun _ _ _ _ _ _ _ _ _ _ _ _ _ _ _ _ r h => by simp [impl_Stand.j3] at h⟩
  | k + 1 => by
    obtain ⟨ih0, ih1, ih2, ih3⟩ := impl_Stand.mono_l k
    refine ⟨?_, ?_, ?_, ?_⟩
    · intro y0 y1 y2 y3 y4 y5 y6 y7 y8 y9 y10 y11 y12 y13 y14 y15
      unfold impl_Stand.j0
      repeat' first
      | (with_reducible exact ih0 _ _ _ _ _ _ _ _ _ _ _ _ _ _ _ _)
      | (with_reducible exact ih1 _ _ _ _ _ _ _ _ _ _ _ _ _ _ _ _)
      | (with_reducible exact ih2 _ _ _ _ _ _ _ _ _ _ _ _ _ _ _ _)
      | (with_reducible exact ih3 _ _ _ _ _ _ _ _ _ _ _ _ _ _ _ _)
      | (with_reducible exact impl_EventOk.mono _ _ _ _ _ _ _ _)
      | (with_reducible exact slices_Contains_int_int.mono _ _ _)
      | (with_reducible exact LeO.refl _)
      | (with_reducible exact LeO.none _)
      | (with_reducible refine LeO.ite ?_ ?_)
      | (with_reducible refine LeO.bind ?_ (fun _ => ?_))
      | exact ih0 _ _ _ _ _ _ _ _ _ _ _ _ _ _ _ _
      | exact ih1 _ _ _ _ _ _ _ _ _ _ _ _ _ _ _ _
      | exact ih2 _ _ _ _ _ _ _ _ _ _ _ _ _ _ _ _
      | exact ih3 _ _ _ _ _ _ _ _ _ _ _ _ _ _ _ _
      | exact impl_EventOk.mono _ _ _ _ _ _ _ _
      | exact slices_Contains_int_int.mono _ _ _
      | exact LeO.none _
      | refine LeO.ite ?_ ?_
      | refine LeO.bind ?_ (fun _ => ?_)
    · intro y0 y1 y2 y3 y4 y5 y6 y7 y8 y9 y10 y11 y12 y13 y14 y15
      unfold impl_Stand.j1
      repeat' first
      | (with_reducible exact ih0 _ _ _ _ _ _ _ _ _ _ _ _ _ _ _ _)
      | (with_reducible exact ih1 _ _ _ _ _ _ _ _ _ _ _ _ _ _ _ _)
      | (with_reducible exact ih2 _ _ _ _ _ _ _ _ _ _ _ _ _ _ _ _)
      | (with_reducible exact ih3 _ _ _ _ _ _ _ _ _ _ _ _ _ _ _ _)
      | (with_reducible exact impl_EventOk.mono _ _ _ _ _ _ _ _)
      | (with_reducible exact slices_Contains_int_int.mono _ _ _)
      | (with_reducible exact LeO.refl _)
      | (with_reducible exact LeO.none _)
      | (with_reducible refine LeO.ite ?_ ?_)
      | (with_reducible refine LeO.bind ?_ (fun _ => ?_))
      | exact ih0 _ _ _ _ _ _ _ _ _ _ _ _ _ _ _ _
      | exact ih1 _ _ _ _ _ _ _ _ _ _ _ _ _ _ _ _
      | exact ih2 _ _ _ _ _ _ _ _ _ _ _ _ _ _ _ _
      | exact ih3 _ _ _ _ _ _ _ _ _ _ _ _ _ _ _ _
      | exact impl_EventOk.mono _ _ _ _ _ _ _ _
      | exact slices_Contains_int_int.mono _ _ _
      | exact LeO.none _
      | refine LeO.ite ?_ ?_
      | refine LeO.bind ?_ (fun _ => ?_)
    · intro y0 y1 y2 y3 y4 y5 y6 y7 y8 y9 y10 y11 y12 y13 y14 y15
      unfold impl_Stand.j2
      repeat' first
      | (with_reducible exact ih0 _ _ _ _ _ _ _ _ _ _ _ _ _ _ _ _)
      | (with_reducible exact ih1 _ _ _ _ _ _ _ _ _ _ _ _ _ _ _ _)
      | (with_reducible exact ih2 _ _ _ _ _ _ _ _ _ _ _ _ _ _ _ _)
      | (with_reducible exact ih3 _ _ _ _ _ _ _ _ _ _ _ _ _ _ _ _)
      | (with_reducible exact impl_EventOk.mono _ _ _ _ _ _ _ _)
      | (with_reducible exact slices_Contains_int_int.mono _ _ _)
      | (with_reducible exact LeO.refl _)
      | (with_reducible exact LeO.none _)
      | (with_reducible refine LeO.ite ?_ ?_)
      | (with_reducible refine LeO.bind ?_ (fun _ => ?_))
      | exact ih0 _ _ _ _ _ _ _ _ _ _ _ _ _ _ _ _
      | exact ih1 _ _ _ _ _ _ _ _ _ _ _ _ _ _ _ _
      | exact ih2 _ _ _ _ _ _ _ _ _ _ _ _ _ _ _ _
      | exact ih3 _ _ _ _ _ _ _ _ _ _ _ _ _ _ _ _
      | exact impl_EventOk.mono _ _ _ _ _ _ _ _
      | exact slices_Contains_int_int.mono _ _ _
      | exact LeO.none _
      | refine LeO.ite ?_ ?_
      | refine LeO.bind ?_ (fun _ => ?_)
    · intro y0 y1 y2 y3 y4 y5 y6 y7 y8 y9 y10 y11 y12 y13 y14 y15
      unfold impl_Stand.j3
      repeat' first
      | (with_reducible exact ih0 _ _ _ _ _ _ _ _ _ _ _ _ _ _ _ _)
      | (with_reducible exact ih1 _ _ _ _ _ _ _ _ _ _ _ _ _ _ _ _)
      | (with_reducible exact ih2 _ _ _ _ _ _ _ _ _ _ _ _ _ _ _ _)
      | (with_reducible exact ih3 _ _ _ _ _ _ _ _ _ _ _ _ _ _ _ _)
      | (with_reducible exact impl_EventOk.mono _ _ _ _ _ _ _ _)
      | (with_reducible exact slices_Contains_int_int.mono _ _ _)
      | (with_reducible exact LeO.refl _)
      | (with_reducible exact LeO.none _)
      | (with_reducible refine LeO.ite ?_ ?_)
      | (with_reducible refine LeO.bind ?_ (fun _ => ?_))
      | exact ih0 _ _ _ _ _ _ _ _ _ _ _ _ _ _ _ _
      | exact ih1 _ _ _ _ _ _ _ _ _ _ _ _ _ _ _ _
      | exact ih2 _ _ _ _ _ _ _ _ _ _ _ _ _ _ _ _
      | exact ih3 _ _ _ _ _ _ _ _ _ _ _ _ _ _ _ _
      | exact impl_EventOk.mono _ _ _ _ _ _ _ _
      | exact slices_Contains_int_int.mono _ _ _
      | exact LeO.none _
      | refine LeO.ite ?_ ?_
      | refine LeO.bind ?_ (fun _ => ?_)
theorem impl_Stand.mono : ∀ a0 a1 a2 a3 a4 a5 a6 a7 k, LeO (impl_Stand.f k a0 a1 a2 a3 a4 a5 a6 a7) (impl_Stand.f (k + 1) a0 a1 a2 a3 a4 a5 a6 a7) := by
  intro a0 a1 a2 a3 a4 a5 a6 a7 k
  obtain ⟨ih0, ih1, ih2, ih3⟩ := impl_Stand.mono_l k
  unfold impl_Stand.f
  repeat' first
      | (with_reducible exact ih0 _ _ _ _ _ _ _ _ _ _ _ _ _ _ _ _)
      | (with_reducible exact ih1 _ _ _ _ _ _ _ _ _ _ _ _ _ _ _ _)
      | (with_reducible exact ih2 _ _ _ _ _ _ _ _ _ _ _ _ _ _ _ _)
      | (with_reducible exact ih3 _ _ _ _ _ _ _ _ _ _ _ _ _ _ _ _)
      | (with_reducible exact impl_EventOk.mono _ _ _ _ _ _ _ _)
      | (with_reducible exact slices_Contains_int_int.mono _ _ _)
      | (with_reducible exact LeO.refl _)
      | (with_reducible exact LeO.none _)
      | (with_reducible refine LeO.ite ?_ ?_)
      | (with_reducible refine LeO.bind ?_ (fun _ => ?_))
      | exact ih0 _ _ _ _ _ _ _ _ _ _ _ _ _ _ _ _
      | exact ih1 _ _ _ _ _ _ _ _ _ _ _ _ _ _ _ _
      | exact ih2 _ _ _ _ _ _ _ _ _ _ _ _ _ _ _ _
      | exact ih3 _ _ _ _ _ _ _ _ _ _ _ _ _ _ _ _
      | exact impl_EventOk.mono _ _ _ _ _ _ _ _
      | exact slices_Contains_int_int.mono _ _ _
      | exact LeO.none _
      | refine LeO.ite ?_ ?_
      | refine LeO.bind ?_ (fun _ => ?_)
set_option maxHeartbeats 8000000 in
set_option maxRecDepth 100000 in
theorem impl_Stand.calls (k : Nat) (a0_0 : Bool) (a0_1 : Bool) (A0_2 : Option Addr) (c0_2 : Nat) (l0_2 : List Int) (A0_3 : Option Addr) (c0_3 : Nat) (l0_3 : List Int) (a0_4 : Int) (a0_5 : Int) (a0_6 : Int) (a1 : Int) (r1 : Bool) (r2 : Bool) (r3 : List Int) (r4 : List Int) (r5 : Int) (r6 : Int) (r7 : Int) (r8 : Int) (w : World) (hr0_2 : Kd.C (Kd.int .i64) w A0_2 l0_2.length l0_2) (hc0_2 : l0_2.length ≤ c0_2) (hr0_3 : Kd.C (Kd.int .i64) w A0_3 l0_3.length l0_3) (hc0_3 : l0_3.length ≤ c0_3) (h : impl_Stand.f k a0_0 a0_1 l0_2 l0_3 a0_4 a0_5 a0_6 a1 = some (r1, r2, r3, r4, r5, r6, r7, r8)) :
    Calls Try.prog 29 #[.agg #[.bool a0_0, .bool a0_1, .slice A0_2 l0_2.length c0_2, .slice A0_3 l0_3.length c0_3, .int .i64 a0_4, .int .i64 a0_5, .int .i64 a0_6], .int .i64 a1] w fun e w' => ∃ v2_ v3_ : Value, e = .returned (.tuple #[.agg #[.bool r1, .bool r2, v2_, v3_, .int .i64 r5, .int .i64 r6, .int .i64 r7], .int .i64 r8]) ∧ Kd.R (Kd.int .i64) 3 w' w.heap.size (fun k_ => some k_ ≠ (v3_ : Value).ownBlock) v2_ r3 ∧ Kd.R (Kd.int .i64) 3 w' w.heap.size (fun k_ => some k_ ≠ (v2_ : Value).ownBlock) v3_ r4 ∧ Below w.heap.size w w' := by
  have hu27 := Try.underlying27
  have HR0_2 := Aside0.mk hr0_2
  have HC0_2 := Aside0.mk hc0_2
  clear hr0_2 hc0_2
  have HR0_3 := Aside0.mk hr0_3
  have HC0_3 := Aside0.mk hc0_3
  clear hr0_3 hc0_3
  have HB := Aside0.mk (Below.refl w.heap.size w)
  have H : ((impl_copyEvent.f a0_0 a0_1 l0_2 l0_3 a0_4 a0_5 a0_6).bind fun bt482 => ((impl_EventOk.f k a0_0 a0_1 l0_2 l0_3 a0_4 a0_5 a0_6).bind fun t494 => (if t494 = true then ((impl_isClient.f a1).bind fun t495 => (impl_Stand.j0 k a1 (!t495) a0_0 a0_1 l0_2 l0_3 a0_4 a0_5 a0_6 bt482.1 bt482.2.1 bt482.2.2.1 bt482.2.2.2.1 bt482.2.2.2.2.1 bt482.2.2.2.2.2.1 bt482.2.2.2.2.2.2)) else (impl_Stand.j0 k a1 true a0_0 a0_1 l0_2 l0_3 a0_4 a0_5 a0_6 bt482.1 bt482.2.1 bt482.2.2.1 bt482.2.2.2.1 bt482.2.2.2.2.1 bt482.2.2.2.2.2.1 bt482.2.2.2.2.2.2)))) = some (r1, r2, r3, r4, r5, r6, r7, r8) := h
  clear h
  replace H := Option.bind_eq_some_iff.mp H
  obtain ⟨⟨t482, t483, t484, t487, t490, t491, t492⟩, A30, H⟩ := H
  replace H : ((impl_EventOk.f k a0_0 a0_1 l0_2 l0_3 a0_4 a0_5 a0_6).bind fun t494 => (if t494 = true then ((impl_isClient.f a1).bind fun t495 => (impl_Stand.j0 k a1 (!t495) a0_0 a0_1 l0_2 l0_3 a0_4 a0_5 a0_6 t482 t483 t484 t487 t490 t491 t492)) else (impl_Stand.j0 k a1 true a0_0 a0_1 l0_2 l0_3 a0_4 a0_5 a0_6 t482 t483 t484 t487 t490 t491 t492))) = some (r1, r2, r3, r4, r5, r6, r7, r8) := H
  have A3 := Aside0.mk A30
  clear A30
  have HC4 := Aside0.mk H
  clear H
  go_enter Try.func29, Try.ntmps29
  go_upto_region 2 with (first | ((with_reducible refine gate_dst (N := 2) rfl ?_); (try (refine gate_guard (by rfl) ?_; dsimp only)); refine box_event ?hg (N := 2) ?hd (cs := #[.bool a0_0, .bool a0_1, .slice A0_2 l0_2.length c0_2, .slice A0_3 l0_3.length c0_3, .int .i64 a0_4, .int .i64 a0_5, .int .i64 a0_6]) (t := 27) ?hr ?_; (case hd => rfl); (case hg => rfl); (case hr => first | (go_simp; done) | (go_simp; rfl)); intro gb480 hg w5 hbox hb; have n0_ := Aside0.mk (below_step (pkB HB.out) hb); have n1_ := Aside0.mk (hbox); have n2_ := Aside0.mk ((by rw [hg]; exact (below_size (pkB HB.out)) : w.heap.size ≤ gb480)); have n3_ := Aside0.mk ((by rw [hg]; exact (below_size (pkB HB.out)) : w.heap.size ≤ gb480)); clear HB; have HB := n0_; have BK480 := n1_; have GW480 := n2_; have GE480 := n3_; clear n0_ n1_ n2_ n3_; clear hb hbox hg) | ((with_reducible refine gate_dst (N := 4) rfl ?_); (try (refine gate_guard (by rfl) ?_; dsimp only)); refine box_event ?hg (N := 4) ?hd (cs := #[.bool false, .bool false, .slice none 0 0, .slice none 0 0, .int .i64 0, .int .i64 0, .int .i64 0]) (t := 27) ?hr ?_; (case hd => rfl); (case hg => rfl); (case hr => first | (go_simp; done) | (go_simp; rfl)); intro gb481 hg w6 hbox hb; have n0_ := Aside0.mk (blk_below (g := gb480) (o := .cells #[.bool a0_0, .bool a0_1, .slice A0_2 l0_2.length c0_2, .slice A0_3 l0_3.length c0_3, .int .i64 a0_4, .int .i64 a0_5, .int .i64 a0_6] 27 (0, 0)) (pkK BK480.out) hb); have n1_ := Aside0.mk (below_step (by repeat (first | (with_reducible first | exact HB.out | apply below_alloc | apply pw_below_drewN | apply below_drew1 | refine below_set ?_ GE480.out) | exact HB.out)) hb); have n2_ := Aside0.mk (hbox); have n3_ := Aside0.mk ((by rw [hg]; exact (below_size (by repeat (first | (with_reducible first | exact HB.out | apply below_alloc | apply pw_below_drewN | apply below_drew1 | refine below_set ?_ GE480.out) | exact HB.out))) : w.heap.size ≤ gb481)); have n4_ := Aside0.mk ((by rw [hg]; exact (below_size (by repeat (first | (with_reducible first | exact HB.out | apply below_alloc | apply pw_below_drewN | apply below_drew1 | refine below_set ?_ GE480.out) | exact HB.out))) : w.heap.size ≤ gb481)); have n5_ := Aside0.mk ((by rw [hg]; exact Nat.ne_of_lt (blk_lt (g := gb480) (o := .cells #[.bool a0_0, .bool a0_1, .slice A0_2 l0_2.length c0_2, .slice A0_3 l0_3.length c0_3, .int .i64 a0_4, .int .i64 a0_5, .int .i64 a0_6] 27 (0, 0)) (pkK BK480.out)) : gb480 ≠ gb481)); have n6_ := Aside0.mk ((by rw [hg]; exact Nat.ne_of_gt (blk_lt (g := gb480) (o := .cells #[.bool a0_0, .bool a0_1, .slice A0_2 l0_2.length c0_2, .slice A0_3 l0_3.length c0_3, .int .i64 a0_4, .int .i64 a0_5, .int .i64 a0_6] 27 (0, 0)) (pkK BK480.out)) : gb481 ≠ gb480)); clear BK480 HB; have BK480 := n0_; have HB := n1_; have BK481 := n2_; have GW481 := n3_; have GE481 := n4_; have NB480_481 := n5_; have NB481_480 := n6_; clear n0_ n1_ n2_ n3_ n4_ n5_ n6_; clear hb hbox hg; have hnb7 := NB480_481.out; have hnc7 := NB481_480.out; have hcz8_0 : w6.cell? ⟨gb480, 0, none⟩ = some (.bool a0_0) := (blk_cell BK480.out 0).trans rfl; have hcz8_1 : w6.cell? ⟨gb480, 1, none⟩ = some (.bool a0_1) := (blk_cell BK480.out 1).trans rfl; have hcz8_2 : w6.cell? ⟨gb480, 2, none⟩ = some (.slice A0_2 l0_2.length c0_2) := (blk_cell BK480.out 2).trans rfl; have hcz8_3 : w6.cell? ⟨gb480, 3, none⟩ = some (.slice A0_3 l0_3.length c0_3) := (blk_cell BK480.out 3).trans rfl; have hcz8_4 : w6.cell? ⟨gb480, 4, none⟩ = some (.int .i64 a0_4) := (blk_cell BK480.out 4).trans rfl; have hcz8_5 : w6.cell? ⟨gb480, 5, none⟩ = some (.int .i64 a0_5) := (blk_cell BK480.out 5).trans rfl; have hcz8_6 : w6.cell? ⟨gb480, 6, none⟩ = some (.int .i64 a0_6) := (blk_cell BK480.out 6).trans rfl; have hfz8_0 := blk_frozen BK480.out 0; have hfz8_1 := blk_frozen BK480.out 1; have hfz8_2 := blk_frozen BK480.out 2; have hfz8_3 := blk_frozen BK480.out 3; have hfz8_4 := blk_frozen BK480.out 4; have hfz8_5 := blk_frozen BK480.out 5; have hfz8_6 := blk_frozen BK480.out 6) | ((with_reducible refine gate_callee (f := 64) rfl ?_); refine goesL_ (some 8) rfl rfl Try.func64 (by kernel_rfl) rfl #[.agg #[.bool a0_0, .bool a0_1, .slice A0_2 l0_2.length c0_2, .slice A0_3 l0_3.length c0_3, .int .i64 a0_4, .int .i64 a0_5, .int .i64 a0_6]] rfl (by (try simp only [List.map_toArray, List.map_cons, List.map_nil]); first | done | rfl | (simp only [List.length_drop, List.length_take]; rfl) | (go_simp; done) | (simp [*]; done)) ?_; (with_reducible refine (impl_copyEvent.calls a0_0 a0_1 _ _ l0_2 _ _ l0_3 a0_4 a0_5 a0_6 t482 t483 t484 t487 t490 t491 t492 _ ?side1 ?side2 ?side3 ?side4 A3.out).mono ?_); (case side1 => exact pkC (Kd.C_below HR0_2.out HB.out)); (case side2 => exact HC0_2.out); (case side3 => exact pkC (Kd.C_below HR0_3.out HB.out)); (case side4 => exact HC0_3.out); rintro e w9 ⟨v485, v488, rfl, ho0, ho1, hb⟩; refine ⟨_, rfl, ?_⟩; have n0_ := Aside0.mk (Kd.R_lower ho0 (below_size (by repeat (first | (with_reducible first | exact HB.out | apply below_alloc | apply pw_below_drewN | apply below_drew1 | refine below_set ?_ GE480.out | refine below_set ?_ GE481.out) | exact HB.out)))); have n1_ := Aside0.mk (Kd.R_lower ho1 (below_size (by repeat (first | (with_reducible first | exact HB.out | apply below_alloc | apply pw_below_drewN | apply below_drew1 | refine below_set ?_ GE480.out | refine below_set ?_ GE481.out) | exact HB.out)))); have n2_ := Aside0.mk (blk_below (g := gb480) (o := .cells #[.bool a0_0, .bool a0_1, .slice A0_2 l0_2.length c0_2, .slice A0_3 l0_3.length c0_3, .int .i64 a0_4, .int .i64 a0_5, .int .i64 a0_6] 27 (0, 0)) (pkK BK480.out) hb); have n3_ := Aside0.mk (blk_below (g := gb481) (o := .cells #[.bool false, .bool false, .slice none 0 0, .slice none 0 0, .int .i64 0, .int .i64 0, .int .i64 0] 27 (0, 0)) (pkK BK481.out) hb); have n4_ := Aside0.mk (below_step (by repeat (first | (with_reducible first | exact HB.out | apply below_alloc | apply pw_below_drewN | apply below_drew1 | refine below_set ?_ GE480.out | refine below_set ?_ GE481.out) | exact HB.out)) hb); clear BK480 BK481 HB; have HO486 := n0_; have HO489 := n1_; have BK480 := n2_; have BK481 := n3_; have HB := n4_; clear n0_ n1_ n2_ n3_ n4_; (try clear hb); (try clear hb2); (try clear hk); (try clear hi); (try clear ho0); (try clear ho1)) | ((with_reducible refine gate_dst (N := 6) rfl ?_); (try (refine gate_guard (by rfl) ?_; dsimp only)); refine box_event ?hg (N := 6) ?hd (cs := #[.bool false, .bool false, .slice none 0 0, .slice none 0 0, .int .i64 0, .int .i64 0, .int .i64 0]) (t := 27) ?hr ?_; (case hd => rfl); (case hg => rfl); (case hr => first | (go_simp; done) | (go_simp; rfl)); intro gb493 hg w10 hbox hb; have n0_ := Aside0.mk (Kd.R_below (pkR HO486.out) hb); have n1_ := Aside0.mk (Kd.R_below (pkR HO489.out) hb); have n2_ := Aside0.mk (blk_below (g := gb480) (o := .cells #[.bool a0_0, .bool a0_1, .slice A0_2 l0_2.length c0_2, .slice A0_3 l0_3.length c0_3, .int .i64 a0_4, .int .i64 a0_5, .int .i64 a0_6] 27 (0, 0)) (pkK BK480.out) hb); have n3_ := Aside0.mk (blk_below (g := gb481) (o := .cells #[.bool false, .bool false, .slice none 0 0, .slice none 0 0, .int .i64 0, .int .i64 0, .int .i64 0] 27 (0, 0)) (pkK BK481.out) hb); have n4_ := Aside0.mk (below_step (by repeat (first | (with_reducible first | exact HB.out | apply below_alloc | apply pw_below_drewN | apply below_drew1 | refine below_set ?_ GE480.out | refine below_set ?_ GE481.out) | exact HB.out)) hb); have n5_ := Aside0.mk (hbox); have n6_ := Aside0.mk ((by rw [hg]; exact (below_size (by repeat (first | (with_reducible first | exact HB.out | apply below_alloc | apply pw_below_drewN | apply below_drew1 | refine below_set ?_ GE480.out | refine below_set ?_ GE481.out) | exact HB.out))) : w.heap.size ≤ gb493)); have n7_ := Aside0.mk ((by rw [hg]; exact (below_size (by repeat (first | (with_reducible first | exact HB.out | apply below_alloc | apply pw_below_drewN | apply below_drew1 | refine below_set ?_ GE480.out | refine below_set ?_ GE481.out) | exact HB.out))) : w.heap.size ≤ gb493)); have n8_ := Aside0.mk ((by rw [hg]; exact Nat.ne_of_lt (blk_lt (g := gb480) (o := .cells #[.bool a0_0, .bool a0_1, .slice A0_2 l0_2.length c0_2, .slice A0_3 l0_3.length c0_3, .int .i64 a0_4, .int .i64 a0_5, .int .i64 a0_6] 27 (0, 0)) (pkK BK480.out)) : gb480 ≠ gb493)); have n9_ := Aside0.mk ((by rw [hg]; exact Nat.ne_of_gt (blk_lt (g := gb480) (o := .cells #[.bool a0_0, .bool a0_1, .slice A0_2 l0_2.length c0_2, .slice A0_3 l0_3.length c0_3, .int .i64 a0_4, .int .i64 a0_5, .int .i64 a0_6] 27 (0, 0)) (pkK BK480.out)) : gb493 ≠ gb480)); have n10_ := Aside0.mk ((by rw [hg]; exact Nat.ne_of_lt (blk_lt (g := gb481) (o := .cells #[.bool false, .bool false, .slice none 0 0, .slice none 0 0, .int .i64 0, .int .i64 0, .int .i64 0] 27 (0, 0)) (pkK BK481.out)) : gb481 ≠ gb493)); have n11_ := Aside0.mk ((by rw [hg]; exact Nat.ne_of_gt (blk_lt (g := gb481) (o := .cells #[.bool false, .bool false, .slice none 0 0, .slice none 0 0, .int .i64 0, .int .i64 0, .int .i64 0] 27 (0, 0)) (pkK BK481.out)) : gb493 ≠ gb481)); clear HO486 HO489 BK480 BK481 HB; have HO486 := n0_; have HO489 := n1_; have BK480 := n2_; have BK481 := n3_; have HB := n4_; have BK493 := n5_; have GW493 := n6_; have GE493 := n7_; have NB480_493 := n8_; have NB493_480 := n9_; have NB481_493 := n10_; have NB493_481 := n11_; clear n0_ n1_ n2_ n3_ n4_ n5_ n6_ n7_ n8_ n9_ n10_ n11_; clear hb hbox hg; have hnb11 := NB493_480.out; have hnc11 := NB480_493.out; have hnb12 := NB493_481.out; have hnc12 := NB481_493.out; have hcz13_0 : w10.cell? ⟨gb493, 0, none⟩ = some (.bool false) := (blk_cell BK493.out 0).trans rfl; have hcz13_1 : w10.cell? ⟨gb493, 1, none⟩ = some (.bool false) := (blk_cell BK493.out 1).trans rfl; have hcz13_2 : w10.cell? ⟨gb493, 2, none⟩ = some (.slice none 0 0) := (blk_cell BK493.out 2).trans rfl; have hcz13_3 : w10.cell? ⟨gb493, 3, none⟩ = some (.slice none 0 0) := (blk_cell BK493.out 3).trans rfl; have hcz13_4 : w10.cell? ⟨gb493, 4, none⟩ = some (.int .i64 0) := (blk_cell BK493.out 4).trans rfl; have hcz13_5 : w10.cell? ⟨gb493, 5, none⟩ = some (.int .i64 0) := (blk_cell BK493.out 5).trans rfl; have hcz13_6 : w10.cell? ⟨gb493, 6, none⟩ = some (.int .i64 0) := (blk_cell BK493.out 6).trans rfl; have hfz13_0 := blk_frozen BK493.out 0; have hfz13_1 := blk_frozen BK493.out 1; have hfz13_2 := blk_frozen BK493.out 2; have hfz13_3 := blk_frozen BK493.out 3; have hfz13_4 := blk_frozen BK493.out 4; have hfz13_5 := blk_frozen BK493.out 5; have hfz13_6 := blk_frozen BK493.out 6; obtain ⟨Ao14, co14, eo14⟩ := Kd.R_slice HO486.out; subst eo14; obtain ⟨Ao15, co15, eo15⟩ := Kd.R_slice HO489.out; subst eo15))
  (try simp only [Act.put, List.setIfInBounds_toArray, List.set_cons_zero, List.set_cons_succ])
  go_cut [9] (fun v9 wc => ∃ (kq : Nat) (x9_3 : Bool), v9 = .bool x9_3 ∧ Aside0 (impl_Stand.j0 kq a1 x9_3 a0_0 a0_1 l0_2 l0_3 a0_4 a0_5 a0_6 t482 t483 t484 t487 t490 t491 t492 = some (r1, r2, r3, r4, r5, r6, r7, r8)) ∧ Aside0 (kq ≤ k) ∧ Aside0 (Kd.R (Kd.int .i64) 3 wc w.heap.size (fun k_ => some k_ ≠ ((.slice Ao15 t487.length co15) : Value).ownBlock) (.slice Ao14 t484.length co14) t484) ∧ Aside0 (Kd.R (Kd.int .i64) 3 wc w.heap.size (fun k_ => some k_ ≠ ((.slice Ao14 t484.length co14) : Value).ownBlock) (.slice Ao15 t487.length co15) t487) ∧ Aside0 (wc.heap[gb480]? = some (.cells #[.bool a0_0, .bool a0_1, (.slice A0_2 l0_2.length c0_2), (.slice A0_3 l0_3.length c0_3), .int .i64 a0_4, .int .i64 a0_5, .int .i64 a0_6] 27 (0, 0))) ∧ Aside0 (wc.heap[gb481]? = some (.cells #[.bool false, .bool false, (.slice none 0 0), (.slice none 0 0), .int .i64 0, .int .i64 0, .int .i64 0] 27 (0, 0))) ∧ Aside0 (wc.heap[gb493]? = some (.cells #[.bool t482, .bool t483, (.slice Ao14 t484.length co14), (.slice Ao15 t487.length co15), .int .i64 t490, .int .i64 t491, .int .i64 t492] 27 (0, 0))) ∧ Aside0 (Below w.heap.size w wc))
  case first =>
    have H := HC4.out
    clear HC4
    replace H := Option.bind_eq_some_iff.mp H
    obtain ⟨t494, A160, H⟩ := H
    replace H : (if t494 = true then ((impl_isClient.f a1).bind fun t495 => (impl_Stand.j0 k a1 (!t495) a0_0 a0_1 l0_2 l0_3 a0_4 a0_5 a0_6 t482 t483 t484 t487 t490 t491 t492)) else (impl_Stand.j0 k a1 true a0_0 a0_1 l0_2 l0_3 a0_4 a0_5 a0_6 t482 t483 t484 t487 t490 t491 t492)) = some (r1, r2, r3, r4, r5, r6, r7, r8) := H
    have A16 := Aside0.mk A160
    clear A160
    by_cases c17 : t494 = true
    · subst c17
      have H1 : ((impl_isClient.f a1).bind fun t495 => (impl_Stand.j0 k a1 (!t495) a0_0 a0_1 l0_2 l0_3 a0_4 a0_5 a0_6 t482 t483 t484 t487 t490 t491 t492)) = some (r1, r2, r3, r4, r5, r6, r7, r8) := by rw [if_pos rfl] at H; exact H
      clear H
      have H := H1
      clear H1
      replace H := Option.bind_eq_some_iff.mp H
      obtain ⟨t495, A180, H⟩ := H
      replace H : (impl_Stand.j0 k a1 (!t495) a0_0 a0_1 l0_2 l0_3 a0_4 a0_5 a0_6 t482 t483 t484 t487 t490 t491 t492) = some (r1, r2, r3, r4, r5, r6, r7, r8) := H
      have A18 := Aside0.mk A180
      clear A180
      have H' := Aside0.mk H
      clear H
      have hnb19 := NB480_481.out
      have hnc19 := NB481_480.out
      have hnb20 := NB480_493.out
      have hnc20 := NB493_480.out
      have hcz21_0 : w10.cell? ⟨gb480, 0, none⟩ = some (.bool a0_0) := (blk_cell BK480.out 0).trans rfl
      have hcz21_1 : w10.cell? ⟨gb480, 1, none⟩ = some (.bool a0_1) := (blk_cell BK480.out 1).trans rfl
      have hcz21_2 : w10.cell? ⟨gb480, 2, none⟩ = some (.slice A0_2 l0_2.length c0_2) := (blk_cell BK480.out 2).trans rfl
      have hcz21_3 : w10.cell? ⟨gb480, 3, none⟩ = some (.slice A0_3 l0_3.length c0_3) := (blk_cell BK480.out 3).trans rfl
      have hcz21_4 : w10.cell? ⟨gb480, 4, none⟩ = some (.int .i64 a0_4) := (blk_cell BK480.out 4).trans rfl
      have hcz21_5 : w10.cell? ⟨gb480, 5, none⟩ = some (.int .i64 a0_5) := (blk_cell BK480.out 5).trans rfl
      have hcz21_6 : w10.cell? ⟨gb480, 6, none⟩ = some (.int .i64 a0_6) := (blk_cell BK480.out 6).trans rfl
      have hfz21_0 := blk_frozen BK480.out 0
      have hfz21_1 := blk_frozen BK480.out 1
      have hfz21_2 := blk_frozen BK480.out 2
      have hfz21_3 := blk_frozen BK480.out 3
      have hfz21_4 := blk_frozen BK480.out 4
      have hfz21_5 := blk_frozen BK480.out 5
      have hfz21_6 := blk_frozen BK480.out 6
      go_wp2_with (first | ((with_reducible refine gate_callee (f := 17) rfl ?_); refine goesL_ (some 11) rfl rfl Try.func17 (by kernel_rfl) rfl #[.agg #[.bool a0_0, .bool a0_1, .slice A0_2 l0_2.length c0_2, .slice A0_3 l0_3.length c0_3, .int .i64 a0_4, .int .i64 a0_5, .int .i64 a0_6]] rfl (by (try simp only [List.map_toArray, List.map_cons, List.map_nil]); first | done | rfl | (simp only [List.length_drop, List.length_take]; rfl) | (go_simp; done) | (simp [*]; done)) ?_; (with_reducible refine (impl_EventOk.calls k a0_0 a0_1 _ _ l0_2 _ _ l0_3 a0_4 a0_5 a0_6 true _ ?side1 ?side2 ?side3 ?side4 A16.out).mono ?_); (case side1 => exact Kd.C_below HR0_2.out (by repeat (first | (with_reducible first | exact HB.out | apply below_alloc | apply pw_below_drewN | apply below_drew1 | refine below_set ?_ GE480.out | refine below_set ?_ GE481.out | refine below_set ?_ GE493.out) | exact HB.out))); (case side2 => exact HC0_2.out); (case side3 => exact Kd.C_below HR0_3.out (by repeat (first | (with_reducible first | exact HB.out | apply below_alloc | apply pw_below_drewN | apply below_drew1 | refine below_set ?_ GE480.out | refine below_set ?_ GE481.out | refine below_set ?_ GE493.out) | exact HB.out))); (case side4 => exact HC0_3.out); rintro e w22 ⟨rfl, hb⟩; refine ⟨_, rfl, ?_⟩; have n0_ := Aside0.mk (Kd.R_below (by (with_reducible repeat (first | apply Kd.R_alloc | apply Kd.R_drewN | apply Kd.R_drew)); exact (Kd.R_mono (Kd.R_far (p := ⟨gb493, 6, none⟩) (Kd.R_far (p := ⟨gb493, 5, none⟩) (Kd.R_far (p := ⟨gb493, 4, none⟩) (Kd.R_far (p := ⟨gb493, 3, none⟩) (Kd.R_far (p := ⟨gb493, 2, none⟩) (Kd.R_far (p := ⟨gb493, 1, none⟩) (Kd.R_far (p := ⟨gb493, 0, none⟩) (Kd.R_types HO486.out BK493.out (by decide)) (fun _ hk => hk.2) (.bool t482)) (fun _ hk => hk.2) (.bool t483)) (fun _ hk => hk.2) (.slice Ao14 t484.length co14)) (fun _ hk => hk.2) (.slice Ao15 t487.length co15)) (fun _ hk => hk.2) (.int .i64 t490)) (fun _ hk => hk.2) (.int .i64 t491)) (fun _ hk => hk.2) (.int .i64 t492)) (fun _ h_ => h_.1))) hb); have n1_ := Aside0.mk (Kd.R_below (by (with_reducible repeat (first | apply Kd.R_alloc | apply Kd.R_drewN | apply Kd.R_drew)); exact (Kd.R_mono (Kd.R_far (p := ⟨gb493, 6, none⟩) (Kd.R_far (p := ⟨gb493, 5, none⟩) (Kd.R_far (p := ⟨gb493, 4, none⟩) (Kd.R_far (p := ⟨gb493, 3, none⟩) (Kd.R_far (p := ⟨gb493, 2, none⟩) (Kd.R_far (p := ⟨gb493, 1, none⟩) (Kd.R_far (p := ⟨gb493, 0, none⟩) (Kd.R_types HO489.out BK493.out (by decide)) (fun _ hk => hk.2) (.bool t482)) (fun _ hk => hk.2) (.bool t483)) (fun _ hk => hk.2) (.slice Ao14 t484.length co14)) (fun _ hk => hk.2) (.slice Ao15 t487.length co15)) (fun _ hk => hk.2) (.int .i64 t490)) (fun _ hk => hk.2) (.int .i64 t491)) (fun _ hk => hk.2) (.int .i64 t492)) (fun _ h_ => h_.1))) hb); have n2_ := Aside0.mk (blk_below (g := gb480) (o := .cells #[.bool a0_0, .bool a0_1, .slice A0_2 l0_2.length c0_2, .slice A0_3 l0_3.length c0_3, .int .i64 a0_4, .int .i64 a0_5, .int .i64 a0_6] 27 (0, 0)) (by (with_reducible repeat (first | refine blk_drewN ?_ _ | refine blk_drew ?_ | refine blk_alloc ?_ _)); refine blk_far ?_ NB480_493.out _; (with_reducible repeat (first | refine blk_drewN ?_ _ | refine blk_drew ?_ | refine blk_alloc ?_ _)); refine blk_far ?_ NB480_493.out _; (with_reducible repeat (first | refine blk_drewN ?_ _ | refine blk_drew ?_ | refine blk_alloc ?_ _)); refine blk_far ?_ NB480_493.out _; (with_reducible repeat (first | refine blk_drewN ?_ _ | refine blk_drew ?_ | refine blk_alloc ?_ _)); refine blk_far ?_ NB480_493.out _; (with_reducible repeat (first | refine blk_drewN ?_ _ | refine blk_drew ?_ | refine blk_alloc ?_ _)); refine blk_far ?_ NB480_493.out _; (with_reducible repeat (first | refine blk_drewN ?_ _ | refine blk_drew ?_ | refine blk_alloc ?_ _)); refine blk_far ?_ NB480_493.out _; (with_reducible repeat (first | refine blk_drewN ?_ _ | refine blk_drew ?_ | refine blk_alloc ?_ _)); refine blk_far ?_ NB480_493.out _; (with_reducible repeat (first | refine blk_drewN ?_ _ | refine blk_drew ?_ | refine blk_alloc ?_ _)); exact BK480.out) hb); have n3_ := Aside0.mk (blk_below (g := gb481) (o := .cells #[.bool false, .bool false, .slice none 0 0, .slice none 0 0, .int .i64 0, .int .i64 0, .int .i64 0] 27 (0, 0)) (by (with_reducible repeat (first | refine blk_drewN ?_ _ | refine blk_drew ?_ | refine blk_alloc ?_ _)); refine blk_far ?_ NB481_493.out _; (with_reducible repeat (first | refine blk_drewN ?_ _ | refine blk_drew ?_ | refine blk_alloc ?_ _)); refine blk_far ?_ NB481_493.out _; (with_reducible repeat (first | refine blk_drewN ?_ _ | refine blk_drew ?_ | refine blk_alloc ?_ _)); refine blk_far ?_ NB481_493.out _; (with_reducible repeat (first | refine blk_drewN ?_ _ | refine blk_drew ?_ | refine blk_alloc ?_ _)); refine blk_far ?_ NB481_493.out _; (with_reducible repeat (first | refine blk_drewN ?_ _ | refine blk_drew ?_ | refine blk_alloc ?_ _)); refine blk_far ?_ NB481_493.out _; (with_reducible repeat (first | refine blk_drewN ?_ _ | refine blk_drew ?_ | refine blk_alloc ?_ _)); refine blk_far ?_ NB481_493.out _; (with_reducible repeat (first | refine blk_drewN ?_ _ | refine blk_drew ?_ | refine blk_alloc ?_ _)); refine blk_far ?_ NB481_493.out _; (with_reducible repeat (first | refine blk_drewN ?_ _ | refine blk_drew ?_ | refine blk_alloc ?_ _)); exact BK481.out) hb); have n4_ := Aside0.mk (blk_below (g := gb493) (o := .cells #[.bool t482, .bool t483, .slice Ao14 t484.length co14, .slice Ao15 t487.length co15, .int .i64 t490, .int .i64 t491, .int .i64 t492] 27 (0, 0)) (by (with_reducible repeat (first | refine blk_drewN ?_ _ | refine blk_drew ?_ | refine blk_alloc ?_ _)); refine blk_put (cs := #[.bool t482, .bool t483, .slice Ao14 t484.length co14, .slice Ao15 t487.length co15, .int .i64 t490, .int .i64 t491, .int .i64 0]) ?_ 6 _ rfl; (with_reducible repeat (first | refine blk_drewN ?_ _ | refine blk_drew ?_ | refine blk_alloc ?_ _)); refine blk_put (cs := #[.bool t482, .bool t483, .slice Ao14 t484.length co14, .slice Ao15 t487.length co15, .int .i64 t490, .int .i64 0, .int .i64 0]) ?_ 5 _ rfl; (with_reducible repeat (first | refine blk_drewN ?_ _ | refine blk_drew ?_ | refine blk_alloc ?_ _)); refine blk_put (cs := #[.bool t482, .bool t483, .slice Ao14 t484.length co14, .slice Ao15 t487.length co15, .int .i64 0, .int .i64 0, .int .i64 0]) ?_ 4 _ rfl; (with_reducible repeat (first | refine blk_drewN ?_ _ | refine blk_drew ?_ | refine blk_alloc ?_ _)); refine blk_put (cs := #[.bool t482, .bool t483, .slice Ao14 t484.length co14, .slice none 0 0, .int .i64 0, .int .i64 0, .int .i64 0]) ?_ 3 _ rfl; (with_reducible repeat (first | refine blk_drewN ?_ _ | refine blk_drew ?_ | refine blk_alloc ?_ _)); refine blk_put (cs := #[.bool t482, .bool t483, .slice none 0 0, .slice none 0 0, .int .i64 0, .int .i64 0, .int .i64 0]) ?_ 2 _ rfl; (with_reducible repeat (first | refine blk_drewN ?_ _ | refine blk_drew ?_ | refine blk_alloc ?_ _)); refine blk_put (cs := #[.bool t482, .bool false, .slice none 0 0, .slice none 0 0, .int .i64 0, .int .i64 0, .int .i64 0]) ?_ 1 _ rfl; (with_reducible repeat (first | refine blk_drewN ?_ _ | refine blk_drew ?_ | refine blk_alloc ?_ _)); refine blk_put (cs := #[.bool false, .bool false, .slice none 0 0, .slice none 0 0, .int .i64 0, .int .i64 0, .int .i64 0]) ?_ 0 _ rfl; (with_reducible repeat (first | refine blk_drewN ?_ _ | refine blk_drew ?_ | refine blk_alloc ?_ _)); exact BK493.out) hb); have n5_ := Aside0.mk (below_step (by repeat (first | (with_reducible first | exact HB.out | apply below_alloc | apply pw_below_drewN | apply below_drew1 | refine below_set ?_ GE480.out | refine below_set ?_ GE481.out | refine below_set ?_ GE493.out) | exact HB.out)) hb); clear HO486 HO489 BK480 BK481 BK493 HB; have HO486 := n0_; have HO489 := n1_; have BK480 := n2_; have BK481 := n3_; have BK493 := n4_; have HB := n5_; clear n0_ n1_ n2_ n3_ n4_ n5_; (try clear hb); (try clear hb2); (try clear hk); (try clear hi)) | (go_at_call 65; (with_reducible refine (impl_isClient.calls a1 t495 _ A18.out).mono ?_); rintro e w' ⟨rfl, ⟨nd, rfl⟩⟩))
      go_meet
      case rel => exact ⟨_, (!t495), (by first | rfl | (simp; done) | (simp [*]; done)), H', ⟨by first | omega | exact Nat.le_refl _⟩, ⟨pkR HO486.out⟩, ⟨pkR HO489.out⟩, ⟨pkK BK480.out⟩, ⟨pkK BK481.out⟩, ⟨pkK BK493.out⟩, ⟨by repeat (first | (with_reducible first | exact HB.out | apply below_alloc | apply pw_below_drewN | apply below_drew1 | refine below_set ?_ GE480.out | refine below_set ?_ GE481.out | refine below_set ?_ GE493.out) | exact HB.out)⟩⟩
    · replace c17 := Bool.eq_false_iff.mpr c17
      subst c17
      have H1 : (impl_Stand.j0 k a1 true a0_0 a0_1 l0_2 l0_3 a0_4 a0_5 a0_6 t482 t483 t484 t487 t490 t491 t492) = some (r1, r2, r3, r4, r5, r6, r7, r8) := by rw [if_neg (show ¬ (false = true) by decide)] at H; exact H
      clear H
      have H := H1
      clear H1
      have H' := Aside0.mk H
      clear H
      have hnb23 := NB480_481.out
      have hnc23 := NB481_480.out
      have hnb24 := NB480_493.out
      have hnc24 := NB493_480.out
      have hcz25_0 : w10.cell? ⟨gb480, 0, none⟩ = some (.bool a0_0) := (blk_cell BK480.out 0).trans rfl
      have hcz25_1 : w10.cell? ⟨gb480, 1, none⟩ = some (.bool a0_1) := (blk_cell BK480.out 1).trans rfl
      have hcz25_2 : w10.cell? ⟨gb480, 2, none⟩ = some (.slice A0_2 l0_2.length c0_2) := (blk_cell BK480.out 2).trans rfl
      have hcz25_3 : w10.cell? ⟨gb480, 3, none⟩ = some (.slice A0_3 l0_3.length c0_3) := (blk_cell BK480.out 3).trans rfl
      have hcz25_4 : w10.cell? ⟨gb480, 4, none⟩ = some (.int .i64 a0_4) := (blk_cell BK480.out 4).trans rfl
      have hcz25_5 : w10.cell? ⟨gb480, 5, none⟩ = some (.int .i64 a0_5) := (blk_cell BK480.out 5).trans rfl
      have hcz25_6 : w10.cell? ⟨gb480, 6, none⟩ = some (.int .i64 a0_6) := (blk_cell BK480.out 6).trans rfl
      have hfz25_0 := blk_frozen BK480.out 0
      have hfz25_1 := blk_frozen BK480.out 1
      have hfz25_2 := blk_frozen BK480.out 2
      have hfz25_3 := blk_frozen BK480.out 3
      have hfz25_4 := blk_frozen BK480.out 4
      have hfz25_5 := blk_frozen BK480.out 5
      have hfz25_6 := blk_frozen BK480.out 6
      go_wp2_with (first | ((with_reducible refine gate_callee (f := 17) rfl ?_); refine goesL_ (some 11) rfl rfl Try.func17 (by kernel_rfl) rfl #[.agg #[.bool a0_0, .bool a0_1, .slice A0_2 l0_2.length c0_2, .slice A0_3 l0_3.length c0_3, .int .i64 a0_4, .int .i64 a0_5, .int .i64 a0_6]] rfl (by (try simp only [List.map_toArray, List.map_cons, List.map_nil]); first | done | rfl | (simp only [List.length_drop, List.length_take]; rfl) | (go_simp; done) | (simp [*]; done)) ?_; (with_reducible refine (impl_EventOk.calls k a0_0 a0_1 _ _ l0_2 _ _ l0_3 a0_4 a0_5 a0_6 false _ ?side1 ?side2 ?side3 ?side4 A16.out).mono ?_); (case side1 => exact Kd.C_below HR0_2.out (by repeat (first | (with_reducible first | exact HB.out | apply below_alloc | apply pw_below_drewN | apply below_drew1 | refine below_set ?_ GE480.out | refine below_set ?_ GE481.out | refine below_set ?_ GE493.out) | exact HB.out))); (case side2 => exact HC0_2.out); (case side3 => exact Kd.C_below HR0_3.out (by repeat (first | (with_reducible first | exact HB.out | apply below_alloc | apply pw_below_drewN | apply below_drew1 | refine below_set ?_ GE480.out | refine below_set ?_ GE481.out | refine below_set ?_ GE493.out) | exact HB.out))); (case side4 => exact HC0_3.out); rintro e w26 ⟨rfl, hb⟩; refine ⟨_, rfl, ?_⟩; have n0_ := Aside0.mk (Kd.R_below (by (with_reducible repeat (first | apply Kd.R_alloc | apply Kd.R_drewN | apply Kd.R_drew)); exact (Kd.R_mono (Kd.R_far (p := ⟨gb493, 6, none⟩) (Kd.R_far (p := ⟨gb493, 5, none⟩) (Kd.R_far (p := ⟨gb493, 4, none⟩) (Kd.R_far (p := ⟨gb493, 3, none⟩) (Kd.R_far (p := ⟨gb493, 2, none⟩) (Kd.R_far (p := ⟨gb493, 1, none⟩) (Kd.R_far (p := ⟨gb493, 0, none⟩) (Kd.R_types HO486.out BK493.out (by decide)) (fun _ hk => hk.2) (.bool t482)) (fun _ hk => hk.2) (.bool t483)) (fun _ hk => hk.2) (.slice Ao14 t484.length co14)) (fun _ hk => hk.2) (.slice Ao15 t487.length co15)) (fun _ hk => hk.2) (.int .i64 t490)) (fun _ hk => hk.2) (.int .i64 t491)) (fun _ hk => hk.2) (.int .i64 t492)) (fun _ h_ => h_.1))) hb); have n1_ := Aside0.mk (Kd.R_below (by (with_reducible repeat (first | apply Kd.R_alloc | apply Kd.R_drewN | apply Kd.R_drew)); exact (Kd.R_mono (Kd.R_far (p := ⟨gb493, 6, none⟩) (Kd.R_far (p := ⟨gb493, 5, none⟩) (Kd.R_far (p := ⟨gb493, 4, none⟩) (Kd.R_far (p := ⟨gb493, 3, none⟩) (Kd.R_far (p := ⟨gb493, 2, none⟩) (Kd.R_far (p := ⟨gb493, 1, none⟩) (Kd.R_far (p := ⟨gb493, 0, none⟩) (Kd.R_types HO489.out BK493.out (by decide)) (fun _ hk => hk.2) (.bool t482)) (fun _ hk => hk.2) (.bool t483)) (fun _ hk => hk.2) (.slice Ao14 t484.length co14)) (fun _ hk => hk.2) (.slice Ao15 t487.length co15)) (fun _ hk => hk.2) (.int .i64 t490)) (fun _ hk => hk.2) (.int .i64 t491)) (fun _ hk => hk.2) (.int .i64 t492)) (fun _ h_ => h_.1))) hb); have n2_ := Aside0.mk (blk_below (g := gb480) (o := .cells #[.bool a0_0, .bool a0_1, .slice A0_2 l0_2.length c0_2, .slice A0_3 l0_3.length c0_3, .int .i64 a0_4, .int .i64 a0_5, .int .i64 a0_6] 27 (0, 0)) (by (with_reducible repeat (first | refine blk_drewN ?_ _ | refine blk_drew ?_ | refine blk_alloc ?_ _)); refine blk_far ?_ NB480_493.out _; (with_reducible repeat (first | refine blk_drewN ?_ _ | refine blk_drew ?_ | refine blk_alloc ?_ _)); refine blk_far ?_ NB480_493.out _; (with_reducible repeat (first | refine blk_drewN ?_ _ | refine blk_drew ?_ | refine blk_alloc ?_ _)); refine blk_far ?_ NB480_493.out _; (with_reducible repeat (first | refine blk_drewN ?_ _ | refine blk_drew ?_ | refine blk_alloc ?_ _)); refine blk_far ?_ NB480_493.out _; (with_reducible repeat (first | refine blk_drewN ?_ _ | refine blk_drew ?_ | refine blk_alloc ?_ _)); refine blk_far ?_ NB480_493.out _; (with_reducible repeat (first | refine blk_drewN ?_ _ | refine blk_drew ?_ | refine blk_alloc ?_ _)); refine blk_far ?_ NB480_493.out _; (with_reducible repeat (first | refine blk_drewN ?_ _ | refine blk_drew ?_ | refine blk_alloc ?_ _)); refine blk_far ?_ NB480_493.out _; (with_reducible repeat (first | refine blk_drewN ?_ _ | refine blk_drew ?_ | refine blk_alloc ?_ _)); exact BK480.out) hb); have n3_ := Aside0.mk (blk_below (g := gb481) (o := .cells #[.bool false, .bool false, .slice none 0 0, .slice none 0 0, .int .i64 0, .int .i64 0, .int .i64 0] 27 (0, 0)) (by (with_reducible repeat (first | refine blk_drewN ?_ _ | refine blk_drew ?_ | refine blk_alloc ?_ _)); refine blk_far ?_ NB481_493.out _; (with_reducible repeat (first | refine blk_drewN ?_ _ | refine blk_drew ?_ | refine blk_alloc ?_ _)); refine blk_far ?_ NB481_493.out _; (with_reducible repeat (first | refine blk_drewN ?_ _ | refine blk_drew ?_ | refine blk_alloc ?_ _)); refine blk_far ?_ NB481_493.out _; (with_reducible repeat (first | refine blk_drewN ?_ _ | refine blk_drew ?_ | refine blk_alloc ?_ _)); refine blk_far ?_ NB481_493.out _; (with_reducible repeat (first | refine blk_drewN ?_ _ | refine blk_drew ?_ | refine blk_alloc ?_ _)); refine blk_far ?_ NB481_493.out _; (with_reducible repeat (first | refine blk_drewN ?_ _ | refine blk_drew ?_ | refine blk_alloc ?_ _)); refine blk_far ?_ NB481_493.out _; (with_reducible repeat (first | refine blk_drewN ?_ _ | refine blk_drew ?_ | refine blk_alloc ?_ _)); refine blk_far ?_ NB481_493.out _; (with_reducible repeat (first | refine blk_drewN ?_ _ | refine blk_drew ?_ | refine blk_alloc ?_ _)); exact BK481.out) hb); have n4_ := Aside0.mk (blk_below (g := gb493) (o := .cells #[.bool t482, .bool t483, .slice Ao14 t484.length co14, .slice Ao15 t487.length co15, .int .i64 t490, .int .i64 t491, .int .i64 t492] 27 (0, 0)) (by (with_reducible repeat (first | refine blk_drewN ?_ _ | refine blk_drew ?_ | refine blk_alloc ?_ _)); refine blk_put (cs := #[.bool t482, .bool t483, .slice Ao14 t484.length co14, .slice Ao15 t487.length co15, .int .i64 t490, .int .i64 t491, .int .i64 0]) ?_ 6 _ rfl; (with_reducible repeat (first | refine blk_drewN ?_ _ | refine blk_drew ?_ | refine blk_alloc ?_ _)); refine blk_put (cs := #[.bool t482, .bool t483, .slice Ao14 t484.length co14, .slice Ao15 t487.length co15, .int .i64 t490, .int .i64 0, .int .i64 0]) ?_ 5 _ rfl; (with_reducible repeat (first | refine blk_drewN ?_ _ | refine blk_drew ?_ | refine blk_alloc ?_ _)); refine blk_put (cs := #[.bool t482, .bool t483, .slice Ao14 t484.length co14, .slice Ao15 t487.length co15, .int .i64 0, .int .i64 0, .int .i64 0]) ?_ 4 _ rfl; (with_reducible repeat (first | refine blk_drewN ?_ _ | refine blk_drew ?_ | refine blk_alloc ?_ _)); refine blk_put (cs := #[.bool t482, .bool t483, .slice Ao14 t484.length co14, .slice none 0 0, .int .i64 0, .int .i64 0, .int .i64 0]) ?_ 3 _ rfl; (with_reducible repeat (first | refine blk_drewN ?_ _ | refine blk_drew ?_ | refine blk_alloc ?_ _)); refine blk_put (cs := #[.bool t482, .bool t483, .slice none 0 0, .slice none 0 0, .int .i64 0, .int .i64 0, .int .i64 0]) ?_ 2 _ rfl; (with_reducible repeat (first | refine blk_drewN ?_ _ | refine blk_drew ?_ | refine blk_alloc ?_ _)); refine blk_put (cs := #[.bool t482, .bool false, .slice none 0 0, .slice none 0 0, .int .i64 0, .int .i64 0, .int .i64 0]) ?_ 1 _ rfl; (with_reducible repeat (first | refine blk_drewN ?_ _ | refine blk_drew ?_ | refine blk_alloc ?_ _)); refine blk_put (cs := #[.bool false, .bool false, .slice none 0 0, .slice none 0 0, .int .i64 0, .int .i64 0, .int .i64 0]) ?_ 0 _ rfl; (with_reducible repeat (first | refine blk_drewN ?_ _ | refine blk_drew ?_ | refine blk_alloc ?_ _)); exact BK493.out) hb); have n5_ := Aside0.mk (below_step (by repeat (first | (with_reducible first | exact HB.out | apply below_alloc | apply pw_below_drewN | apply below_drew1 | refine below_set ?_ GE480.out | refine below_set ?_ GE481.out | refine below_set ?_ GE493.out) | exact HB.out)) hb); clear HO486 HO489 BK480 BK481 BK493 HB; have HO486 := n0_; have HO489 := n1_; have BK480 := n2_; have BK481 := n3_; have BK493 := n4_; have HB := n5_; clear n0_ n1_ n2_ n3_ n4_ n5_; (try clear hb); (try clear hb2); (try clear hk); (try clear hi)))
      go_meet
      case rel => exact ⟨_, (true), (by first | rfl | (simp; done) | (simp [*]; done)), H', ⟨by first | omega | exact Nat.le_refl _⟩, ⟨pkR HO486.out⟩, ⟨pkR HO489.out⟩, ⟨pkK BK480.out⟩, ⟨pkK BK481.out⟩, ⟨pkK BK493.out⟩, ⟨by repeat (first | (with_reducible first | exact HB.out | apply below_alloc | apply pw_below_drewN | apply below_drew1 | refine below_set ?_ GE480.out | refine below_set ?_ GE481.out | refine below_set ?_ GE493.out) | exact HB.out)⟩⟩
  case rest =>
    clear HC4
    try clear c1
    try clear c2
    try clear p2
    try clear c6
    try clear c7
    try clear c11
    try clear c12
    try clear c17
    try clear c19
    try clear c20
    try clear c23
    try clear c24
    try clear hcz13_0
    try clear hcz13_1
    try clear hcz13_2
    try clear hcz13_3
    try clear hcz13_4
    try clear hcz13_5
    try clear hcz13_6
    try clear hcz21_0
    try clear hcz21_1
    try clear hcz21_2
    try clear hcz21_3
    try clear hcz21_4
    try clear hcz21_5
    try clear hcz21_6
    try clear hcz25_0
    try clear hcz25_1
    try clear hcz25_2
    try clear hcz25_3
    try clear hcz25_4
    try clear hcz25_5
    try clear hcz25_6
    try clear hcz8_0
    try clear hcz8_1
    try clear hcz8_2
    try clear hcz8_3
    try clear hcz8_4
    try clear hcz8_5
    try clear hcz8_6
    try clear hfz13_0
    try clear hfz13_1
    try clear hfz13_2
    try clear hfz13_3
    try clear hfz13_4
    try clear hfz13_5
    try clear hfz13_6
    try clear hfz21_0
    try clear hfz21_1
    try clear hfz21_2
    try clear hfz21_3
    try clear hfz21_4
    try clear hfz21_5
    try clear hfz21_6
    try clear hfz25_0
    try clear hfz25_1
    try clear hfz25_2
    try clear hfz25_3
    try clear hfz25_4
    try clear hfz25_5
    try clear hfz25_6
    try clear hfz8_0
    try clear hfz8_1
    try clear hfz8_2
    try clear hfz8_3
    try clear hfz8_4
    try clear hfz8_5
    try clear hfz8_6
    obtain ⟨kq, x9_3, rfl, HA, HJ3, HO_494002, HO_494003, BK480, BK481, BK493, HB⟩ := hcut
    cases kq with
    | zero => exact absurd HA.out (by simp [impl_Stand.j0])
    | succ kj3 =>
      have H := HA.out
      clear HA
      simp only [impl_Stand.j0] at H
      by_cases c27 : x9_3 = true
      · subst c27
        have H1 : (some (t482, t483, t484, t487, t490, t491, t492, 1)) = some (r1, r2, r3, r4, r5, r6, r7, r8) := by rw [if_pos rfl] at H; exact H
        clear H
        have H := H1
        clear H1
        simp only [Option.some.injEq, Prod.mk.injEq] at H
        obtain ⟨rfl, rfl, rfl, rfl, rfl, rfl, rfl, rfl⟩ := H
        have hnb28 := NB493_480.out
        have hnc28 := NB480_493.out
        have hnb29 := NB493_481.out
        have hnc29 := NB481_493.out
        have hcz30_0 : wc.cell? ⟨gb493, 0, none⟩ = some (.bool t482) := (blk_cell BK493.out 0).trans rfl
        have hcz30_1 : wc.cell? ⟨gb493, 1, none⟩ = some (.bool t483) := (blk_cell BK493.out 1).trans rfl
        have hcz30_2 : wc.cell? ⟨gb493, 2, none⟩ = some (.slice Ao14 t484.length co14) := (blk_cell BK493.out 2).trans rfl
        have hcz30_3 : wc.cell? ⟨gb493, 3, none⟩ = some (.slice Ao15 t487.length co15) := (blk_cell BK493.out 3).trans rfl
        have hcz30_4 : wc.cell? ⟨gb493, 4, none⟩ = some (.int .i64 t490) := (blk_cell BK493.out 4).trans rfl
        have hcz30_5 : wc.cell? ⟨gb493, 5, none⟩ = some (.int .i64 t491) := (blk_cell BK493.out 5).trans rfl
        have hcz30_6 : wc.cell? ⟨gb493, 6, none⟩ = some (.int .i64 t492) := (blk_cell BK493.out 6).trans rfl
        have hfz30_0 := blk_frozen BK493.out 0
        have hfz30_1 := blk_frozen BK493.out 1
        have hfz30_2 := blk_frozen BK493.out 2
        have hfz30_3 := blk_frozen BK493.out 3
        have hfz30_4 := blk_frozen BK493.out 4
        have hfz30_5 := blk_frozen BK493.out 5
        have hfz30_6 := blk_frozen BK493.out 6
        have hnb31 := NB481_480.out
        have hnc31 := NB480_481.out
        have hcz32_0 : wc.cell? ⟨gb481, 0, none⟩ = some (.bool false) := (blk_cell BK481.out 0).trans rfl
        have hcz32_1 : wc.cell? ⟨gb481, 1, none⟩ = some (.bool false) := (blk_cell BK481.out 1).trans rfl
        have hcz32_2 : wc.cell? ⟨gb481, 2, none⟩ = some (.slice none 0 0) := (blk_cell BK481.out 2).trans rfl
        have hcz32_3 : wc.cell? ⟨gb481, 3, none⟩ = some (.slice none 0 0) := (blk_cell BK481.out 3).trans rfl
        have hcz32_4 : wc.cell? ⟨gb481, 4, none⟩ = some (.int .i64 0) := (blk_cell BK481.out 4).trans rfl
        have hcz32_5 : wc.cell? ⟨gb481, 5, none⟩ = some (.int .i64 0) := (blk_cell BK481.out 5).trans rfl
        have hcz32_6 : wc.cell? ⟨gb481, 6, none⟩ = some (.int .i64 0) := (blk_cell BK481.out 6).trans rfl
        have hfz32_0 := blk_frozen BK481.out 0
        have hfz32_1 := blk_frozen BK481.out 1
        have hfz32_2 := blk_frozen BK481.out 2
        have hfz32_3 := blk_frozen BK481.out 3
        have hfz32_4 := blk_frozen BK481.out 4
        have hfz32_5 := blk_frozen BK481.out 5
        have hfz32_6 := blk_frozen BK481.out 6
        go_wp2
        refine bodyPost_ret (results_ct rfl _ _ gb481 27 #[.bool t482, .bool t483, .slice Ao14 t484.length co14, .slice Ao15 t487.length co15, .int .i64 t490, .int .i64 t491, .int .i64 t492] (0, 0) _ rfl (by (with_reducible repeat (first | refine blk_drewN ?_ _ | refine blk_drew ?_ | refine blk_alloc ?_ _)); refine blk_put (cs := #[.bool t482, .bool t483, .slice Ao14 t484.length co14, .slice Ao15 t487.length co15, .int .i64 t490, .int .i64 t491, .int .i64 0]) ?_ 6 _ rfl; (with_reducible repeat (first | refine blk_drewN ?_ _ | refine blk_drew ?_ | refine blk_alloc ?_ _)); refine blk_put (cs := #[.bool t482, .bool t483, .slice Ao14 t484.length co14, .slice Ao15 t487.length co15, .int .i64 t490, .int .i64 0, .int .i64 0]) ?_ 5 _ rfl; (with_reducible repeat (first | refine blk_drewN ?_ _ | refine blk_drew ?_ | refine blk_alloc ?_ _)); refine blk_put (cs := #[.bool t482, .bool t483, .slice Ao14 t484.length co14, .slice Ao15 t487.length co15, .int .i64 0, .int .i64 0, .int .i64 0]) ?_ 4 _ rfl; (with_reducible repeat (first | refine blk_drewN ?_ _ | refine blk_drew ?_ | refine blk_alloc ?_ _)); refine blk_put (cs := #[.bool t482, .bool t483, .slice Ao14 t484.length co14, .slice none 0 0, .int .i64 0, .int .i64 0, .int .i64 0]) ?_ 3 _ rfl; (with_reducible repeat (first | refine blk_drewN ?_ _ | refine blk_drew ?_ | refine blk_alloc ?_ _)); refine blk_put (cs := #[.bool t482, .bool t483, .slice none 0 0, .slice none 0 0, .int .i64 0, .int .i64 0, .int .i64 0]) ?_ 2 _ rfl; (with_reducible repeat (first | refine blk_drewN ?_ _ | refine blk_drew ?_ | refine blk_alloc ?_ _)); refine blk_put (cs := #[.bool t482, .bool false, .slice none 0 0, .slice none 0 0, .int .i64 0, .int .i64 0, .int .i64 0]) ?_ 1 _ rfl; (with_reducible repeat (first | refine blk_drewN ?_ _ | refine blk_drew ?_ | refine blk_alloc ?_ _)); refine blk_put (cs := #[.bool false, .bool false, .slice none 0 0, .slice none 0 0, .int .i64 0, .int .i64 0, .int .i64 0]) ?_ 0 _ rfl; (with_reducible repeat (first | refine blk_drewN ?_ _ | refine blk_drew ?_ | refine blk_alloc ?_ _)); exact BK481.out) Try.underlying27 rfl (by kernel_rfl)) rfl ?_
        exact ⟨_, _, by first | rfl | (simp [errW_none, errW_some] <;> rfl) | (simp [*, errW_none, errW_some] <;> rfl), by (with_reducible repeat (first | apply Kd.R_alloc | apply Kd.R_drewN | apply Kd.R_drew)); exact Kd.R_mono (Kd.R_far (p := ⟨gb481, 6, none⟩) (Kd.R_far (p := ⟨gb481, 5, none⟩) (Kd.R_far (p := ⟨gb481, 4, none⟩) (Kd.R_far (p := ⟨gb481, 3, none⟩) (Kd.R_far (p := ⟨gb481, 2, none⟩) (Kd.R_far (p := ⟨gb481, 1, none⟩) (Kd.R_far (p := ⟨gb481, 0, none⟩) (Kd.R_types HO_494002.out BK481.out (by decide)) (fun _ hk => hk.2) (.bool t482)) (fun _ hk => hk.2) (.bool t483)) (fun _ hk => hk.2) (.slice Ao14 t484.length co14)) (fun _ hk => hk.2) (.slice Ao15 t487.length co15)) (fun _ hk => hk.2) (.int .i64 t490)) (fun _ hk => hk.2) (.int .i64 t491)) (fun _ hk => hk.2) (.int .i64 t492)) (fun _ hk => hk.1), by (with_reducible repeat (first | apply Kd.R_alloc | apply Kd.R_drewN | apply Kd.R_drew)); exact Kd.R_mono (Kd.R_far (p := ⟨gb481, 6, none⟩) (Kd.R_far (p := ⟨gb481, 5, none⟩) (Kd.R_far (p := ⟨gb481, 4, none⟩) (Kd.R_far (p := ⟨gb481, 3, none⟩) (Kd.R_far (p := ⟨gb481, 2, none⟩) (Kd.R_far (p := ⟨gb481, 1, none⟩) (Kd.R_far (p := ⟨gb481, 0, none⟩) (Kd.R_types HO_494003.out BK481.out (by decide)) (fun _ hk => hk.2) (.bool t482)) (fun _ hk => hk.2) (.bool t483)) (fun _ hk => hk.2) (.slice Ao14 t484.length co14)) (fun _ hk => hk.2) (.slice Ao15 t487.length co15)) (fun _ hk => hk.2) (.int .i64 t490)) (fun _ hk => hk.2) (.int .i64 t491)) (fun _ hk => hk.2) (.int .i64 t492)) (fun _ hk => hk.1), by repeat (first | (with_reducible first | exact HB.out | apply below_alloc | apply pw_below_drewN | apply below_drew1 | refine below_set ?_ GE480.out | refine below_set ?_ GE481.out | refine below_set ?_ GE493.out) | exact HB.out)⟩
      · replace c27 := Bool.eq_false_iff.mpr c27
        subst c27
        have H1 : ((slices_Contains_int_int.f kj3 l0_2 a1).bind fun t496 => (if t496 = true then (impl_Stand.j1 kj3 a1 true a0_0 a0_1 l0_2 l0_3 a0_4 a0_5 a0_6 t482 t483 t484 t487 t490 t491 t492) else ((slices_Contains_int_int.f kj3 l0_3 a1).bind fun t497 => (impl_Stand.j1 kj3 a1 t497 a0_0 a0_1 l0_2 l0_3 a0_4 a0_5 a0_6 t482 t483 t484 t487 t490 t491 t492)))) = some (r1, r2, r3, r4, r5, r6, r7, r8) := by rw [if_neg (show ¬ (false = true) by decide)] at H; exact H
        clear H
        have H := H1
        clear H1
        have HC33 := Aside0.mk H
        clear H
        go_upto_region 4 with (fail)
        go_cut [19] (fun v19 wc => ∃ (kq : Nat) (x19_32 : Bool), v19 = .bool x19_32 ∧ Aside0 (impl_Stand.j1 kq a1 x19_32 a0_0 a0_1 l0_2 l0_3 a0_4 a0_5 a0_6 t482 t483 t484 t487 t490 t491 t492 = some (r1, r2, r3, r4, r5, r6, r7, r8)) ∧ Aside0 (kq ≤ kj3) ∧ Aside0 (Kd.R (Kd.int .i64) 3 wc w.heap.size (fun k_ => some k_ ≠ ((.slice Ao15 t487.length co15) : Value).ownBlock) (.slice Ao14 t484.length co14) t484) ∧ Aside0 (Kd.R (Kd.int .i64) 3 wc w.heap.size (fun k_ => some k_ ≠ ((.slice Ao14 t484.length co14) : Value).ownBlock) (.slice Ao15 t487.length co15) t487) ∧ Aside0 (wc.heap[gb480]? = some (.cells #[.bool a0_0, .bool a0_1, (.slice A0_2 l0_2.length c0_2), (.slice A0_3 l0_3.length c0_3), .int .i64 a0_4, .int .i64 a0_5, .int .i64 a0_6] 27 (0, 0))) ∧ Aside0 (wc.heap[gb481]? = some (.cells #[.bool false, .bool false, (.slice none 0 0), (.slice none 0 0), .int .i64 0, .int .i64 0, .int .i64 0] 27 (0, 0))) ∧ Aside0 (wc.heap[gb493]? = some (.cells #[.bool t482, .bool t483, (.slice Ao14 t484.length co14), (.slice Ao15 t487.length co15), .int .i64 t490, .int .i64 t491, .int .i64 t492] 27 (0, 0))) ∧ Aside0 (Below w.heap.size w wc))
        case first =>
          have H := HC33.out
          clear HC33
          replace H := Option.bind_eq_some_iff.mp H
          obtain ⟨t496, A340, H⟩ := H
          replace H : (if t496 = true then (impl_Stand.j1 kj3 a1 true a0_0 a0_1 l0_2 l0_3 a0_4 a0_5 a0_6 t482 t483 t484 t487 t490 t491 t492) else ((slices_Contains_int_int.f kj3 l0_3 a1).bind fun t497 => (impl_Stand.j1 kj3 a1 t497 a0_0 a0_1 l0_2 l0_3 a0_4 a0_5 a0_6 t482 t483 t484 t487 t490 t491 t492))) = some (r1, r2, r3, r4, r5, r6, r7, r8) := H
          have A34 := Aside0.mk A340
          clear A340
          by_cases c35 : t496 = true
          · subst c35
            have H1 : (impl_Stand.j1 kj3 a1 true a0_0 a0_1 l0_2 l0_3 a0_4 a0_5 a0_6 t482 t483 t484 t487 t490 t491 t492) = some (r1, r2, r3, r4, r5, r6, r7, r8) := by rw [if_pos rfl] at H; exact H
            clear H
            have H := H1
            clear H1
            have H' := Aside0.mk H
            clear H
            have hnb36 := NB480_481.out
            have hnc36 := NB481_480.out
            have hnb37 := NB480_493.out
            have hnc37 := NB493_480.out
            have hcz38_0 : wc.cell? ⟨gb480, 0, none⟩ = some (.bool a0_0) := (blk_cell BK480.out 0).trans rfl
            have hcz38_1 : wc.cell? ⟨gb480, 1, none⟩ = some (.bool a0_1) := (blk_cell BK480.out 1).trans rfl
            have hcz38_2 : wc.cell? ⟨gb480, 2, none⟩ = some (.slice A0_2 l0_2.length c0_2) := (blk_cell BK480.out 2).trans rfl
            have hcz38_3 : wc.cell? ⟨gb480, 3, none⟩ = some (.slice A0_3 l0_3.length c0_3) := (blk_cell BK480.out 3).trans rfl
            have hcz38_4 : wc.cell? ⟨gb480, 4, none⟩ = some (.int .i64 a0_4) := (blk_cell BK480.out 4).trans rfl
            have hcz38_5 : wc.cell? ⟨gb480, 5, none⟩ = some (.int .i64 a0_5) := (blk_cell BK480.out 5).trans rfl
            have hcz38_6 : wc.cell? ⟨gb480, 6, none⟩ = some (.int .i64 a0_6) := (blk_cell BK480.out 6).trans rfl
            have hfz38_0 := blk_frozen BK480.out 0
            have hfz38_1 := blk_frozen BK480.out 1
            have hfz38_2 := blk_frozen BK480.out 2
            have hfz38_3 := blk_frozen BK480.out 3
            have hfz38_4 := blk_frozen BK480.out 4
            have hfz38_5 := blk_frozen BK480.out 5
            have hfz38_6 := blk_frozen BK480.out 6
            go_wp2_with (first | ((with_reducible refine gate_callee (f := 66) rfl ?_); refine goesL_ (some 23) rfl rfl Try.func66 (by kernel_rfl) rfl #[.slice A0_2 l0_2.length c0_2, .int .i64 a1] rfl (by (try simp only [List.map_toArray, List.map_cons, List.map_nil]); first | done | rfl | (simp only [List.length_drop, List.length_take]; rfl) | (go_simp; done) | (simp [*]; done)) ?_; (with_reducible refine (slices_Contains_int_int.calls kj3 _ _ l0_2 a1 true _ ?side1 ?side2 A34.out).mono ?_); (case side1 => exact pkC (Kd.C_below HR0_2.out HB.out)); (case side2 => exact HC0_2.out); rintro e w' ⟨rfl, ⟨nd, rfl⟩⟩; refine ⟨_, rfl, ?_⟩))
            go_meet
            case rel => exact ⟨_, (true), (by first | rfl | (simp; done) | (simp [*]; done)), H', ⟨by have := HJ3.out; first | omega | exact Nat.le_refl _⟩, ⟨pkR HO_494002.out⟩, ⟨pkR HO_494003.out⟩, ⟨pkK BK480.out⟩, ⟨pkK BK481.out⟩, ⟨pkK BK493.out⟩, ⟨by repeat (first | (with_reducible first | exact HB.out | apply below_alloc | apply pw_below_drewN | apply below_drew1 | refine below_set ?_ GE480.out | refine below_set ?_ GE481.out | refine below_set ?_ GE493.out) | exact HB.out)⟩⟩
          · replace c35 := Bool.eq_false_iff.mpr c35
            subst c35
            have H1 : ((slices_Contains_int_int.f kj3 l0_3 a1).bind fun t497 => (impl_Stand.j1 kj3 a1 t497 a0_0 a0_1 l0_2 l0_3 a0_4 a0_5 a0_6 t482 t483 t484 t487 t490 t491 t492)) = some (r1, r2, r3, r4, r5, r6, r7, r8) := by rw [if_neg (show ¬ (false = true) by decide)] at H; exact H
            clear H
            have H := H1
            clear H1
            replace H := Option.bind_eq_some_iff.mp H
            obtain ⟨t497, A390, H⟩ := H
            replace H : (impl_Stand.j1 kj3 a1 t497 a0_0 a0_1 l0_2 l0_3 a0_4 a0_5 a0_6 t482 t483 t484 t487 t490 t491 t492) = some (r1, r2, r3, r4, r5, r6, r7, r8) := H
            have A39 := Aside0.mk A390
            clear A390
            have H' := Aside0.mk H
            clear H
            have hnb40 := NB480_481.out
            have hnc40 := NB481_480.out
            have hnb41 := NB480_493.out
            have hnc41 := NB493_480.out
            have hcz42_0 : wc.cell? ⟨gb480, 0, none⟩ = some (.bool a0_0) := (blk_cell BK480.out 0).trans rfl
            have hcz42_1 : wc.cell? ⟨gb480, 1, none⟩ = some (.bool a0_1) := (blk_cell BK480.out 1).trans rfl
            have hcz42_2 : wc.cell? ⟨gb480, 2, none⟩ = some (.slice A0_2 l0_2.length c0_2) := (blk_cell BK480.out 2).trans rfl
            have hcz42_3 : wc.cell? ⟨gb480, 3, none⟩ = some (.slice A0_3 l0_3.length c0_3) := (blk_cell BK480.out 3).trans rfl
            have hcz42_4 : wc.cell? ⟨gb480, 4, none⟩ = some (.int .i64 a0_4) := (blk_cell BK480.out 4).trans rfl
            have hcz42_5 : wc.cell? ⟨gb480, 5, none⟩ = some (.int .i64 a0_5) := (blk_cell BK480.out 5).trans rfl
            have hcz42_6 : wc.cell? ⟨gb480, 6, none⟩ = some (.int .i64 a0_6) := (blk_cell BK480.out 6).trans rfl
            have hfz42_0 := blk_frozen BK480.out 0
            have hfz42_1 := blk_frozen BK480.out 1
            have hfz42_2 := blk_frozen BK480.out 2
            have hfz42_3 := blk_frozen BK480.out 3
            have hfz42_4 := blk_frozen BK480.out 4
            have hfz42_5 := blk_frozen BK480.out 5
            have hfz42_6 := blk_frozen BK480.out 6
            go_wp2_with (first | ((with_reducible refine gate_callee (f := 66) rfl ?_); refine goesL_ (some 23) rfl rfl Try.func66 (by kernel_rfl) rfl #[.slice A0_2 l0_2.length c0_2, .int .i64 a1] rfl (by (try simp only [List.map_toArray, List.map_cons, List.map_nil]); first | done | rfl | (simp only [List.length_drop, List.length_take]; rfl) | (go_simp; done) | (simp [*]; done)) ?_; (with_reducible refine (slices_Contains_int_int.calls kj3 _ _ l0_2 a1 false _ ?side1 ?side2 A34.out).mono ?_); (case side1 => exact pkC (Kd.C_below HR0_2.out HB.out)); (case side2 => exact HC0_2.out); rintro e w' ⟨rfl, ⟨nd, rfl⟩⟩; refine ⟨_, rfl, ?_⟩) | (go_at_call 66; (with_reducible refine (slices_Contains_int_int.calls kj3 _ _ l0_3 a1 t497 _ ?side1 ?side2 A39.out).mono ?_); (case side1 => repeat (first | exact (Kd.C_below HR0_3.out (by repeat (first | (with_reducible first | exact HB.out | apply below_alloc | apply pw_below_drewN | apply below_drew1 | refine below_set ?_ GE480.out | refine below_set ?_ GE481.out | refine below_set ?_ GE493.out) | exact HB.out))) | (with_reducible refine Kd.C_alloc ?_ _) | (with_reducible refine Kd.C_drewN ?_ _) | (with_reducible refine Kd.C_drew ?_))); (case side2 => exact HC0_3.out); rintro e w' ⟨rfl, ⟨nd, rfl⟩⟩))
            go_meet
            case rel => exact ⟨_, (t497), (by first | rfl | (simp; done) | (simp [*]; done)), H', ⟨by have := HJ3.out; first | omega | exact Nat.le_refl _⟩, ⟨pkR HO_494002.out⟩, ⟨pkR HO_494003.out⟩, ⟨pkK BK480.out⟩, ⟨pkK BK481.out⟩, ⟨pkK BK493.out⟩, ⟨by repeat (first | (with_reducible first | exact HB.out | apply below_alloc | apply pw_below_drewN | apply below_drew1 | refine below_set ?_ GE480.out | refine below_set ?_ GE481.out | refine below_set ?_ GE493.out) | exact HB.out)⟩⟩
        case rest =>
          clear HC33
          try clear c1
          try clear c2
          try clear p2
          try clear c3
          try clear c4
          try clear c6
          try clear c7
          try clear c11
          try clear c12
          try clear c17
          try clear c19
          try clear c20
          try clear c23
          try clear c24
          try clear c27
          try clear c28
          try clear c29
          try clear c31
          try clear c35
          try clear c36
          try clear c37
          try clear c40
          try clear c41
          try clear hcz13_0
          try clear hcz13_1
          try clear hcz13_2
          try clear hcz13_3
          try clear hcz13_4
          try clear hcz13_5
          try clear hcz13_6
          try clear hcz21_0
          try clear hcz21_1
          try clear hcz21_2
          try clear hcz21_3
          try clear hcz21_4
          try clear hcz21_5
          try clear hcz21_6
          try clear hcz25_0
          try clear hcz25_1
          try clear hcz25_2
          try clear hcz25_3
          try clear hcz25_4
          try clear hcz25_5
          try clear hcz25_6
          try clear hcz30_0
          try clear hcz30_1
          try clear hcz30_2
          try clear hcz30_3
          try clear hcz30_4
          try clear hcz30_5
          try clear hcz30_6
          try clear hcz32_0
          try clear hcz32_1
          try clear hcz32_2
          try clear hcz32_3
          try clear hcz32_4
          try clear hcz32_5
          try clear hcz32_6
          try clear hcz38_0
          try clear hcz38_1
          try clear hcz38_2
          try clear hcz38_3
          try clear hcz38_4
          try clear hcz38_5
          try clear hcz38_6
          try clear hcz42_0
          try clear hcz42_1
          try clear hcz42_2
          try clear hcz42_3
          try clear hcz42_4
          try clear hcz42_5
          try clear hcz42_6
          try clear hcz8_0
          try clear hcz8_1
          try clear hcz8_2
          try clear hcz8_3
          try clear hcz8_4
          try clear hcz8_5
          try clear hcz8_6
          try clear hfz13_0
          try clear hfz13_1
          try clear hfz13_2
          try clear hfz13_3
          try clear hfz13_4
          try clear hfz13_5
          try clear hfz13_6
          try clear hfz21_0
          try clear hfz21_1
          try clear hfz21_2
          try clear hfz21_3
          try clear hfz21_4
          try clear hfz21_5
          try clear hfz21_6
          try clear hfz25_0
          try clear hfz25_1
          try clear hfz25_2
          try clear hfz25_3
          try clear hfz25_4
          try clear hfz25_5
          try clear hfz25_6
          try clear hfz30_0
          try clear hfz30_1
          try clear hfz30_2
          try clear hfz30_3
          try clear hfz30_4
          try clear hfz30_5
          try clear hfz30_6
          try clear hfz32_0
          try clear hfz32_1
          try clear hfz32_2
          try clear hfz32_3
          try clear hfz32_4
          try clear hfz32_5
          try clear hfz32_6
          try clear hfz38_0
          try clear hfz38_1
          try clear hfz38_2
          try clear hfz38_3
          try clear hfz38_4
          try clear hfz38_5
          try clear hfz38_6
          try clear hfz42_0
          try clear hfz42_1
          try clear hfz42_2
          try clear hfz42_3
          try clear hfz42_4
          try clear hfz42_5
          try clear hfz42_6
          try clear hfz8_0
          try clear hfz8_1
          try clear hfz8_2
          try clear hfz8_3
          try clear hfz8_4
          try clear hfz8_5
          try clear hfz8_6
          try clear p2
          obtain ⟨kq, x19_32, rfl, HA, HJ32, HO_494002, HO_494003, BK480, BK481, BK493, HB⟩ := hcut
          cases kq with
          | zero => exact absurd HA.out (by simp [impl_Stand.j1])
          | succ kj32 =>
            have H := HA.out
            clear HA
            simp only [impl_Stand.j1] at H
            by_cases c43 : x19_32 = true
            · subst c43
              have H1 : (some (t482, t483, t484, t487, t490, t491, t492, 5)) = some (r1, r2, r3, r4, r5, r6, r7, r8) := by rw [if_pos rfl] at H; exact H
              clear H
              have H := H1
              clear H1
              simp only [Option.some.injEq, Prod.mk.injEq] at H
              obtain ⟨rfl, rfl, rfl, rfl, rfl, rfl, rfl, rfl⟩ := H
              have hnb44 := NB493_480.out
              have hnc44 := NB480_493.out
              have hnb45 := NB493_481.out
              have hnc45 := NB481_493.out
              have hcz46_0 : wc.cell? ⟨gb493, 0, none⟩ = some (.bool t482) := (blk_cell BK493.out 0).trans rfl
              have hcz46_1 : wc.cell? ⟨gb493, 1, none⟩ = some (.bool t483) := (blk_cell BK493.out 1).trans rfl
              have hcz46_2 : wc.cell? ⟨gb493, 2, none⟩ = some (.slice Ao14 t484.length co14) := (blk_cell BK493.out 2).trans rfl
              have hcz46_3 : wc.cell? ⟨gb493, 3, none⟩ = some (.slice Ao15 t487.length co15) := (blk_cell BK493.out 3).trans rfl
              have hcz46_4 : wc.cell? ⟨gb493, 4, none⟩ = some (.int .i64 t490) := (blk_cell BK493.out 4).trans rfl
              have hcz46_5 : wc.cell? ⟨gb493, 5, none⟩ = some (.int .i64 t491) := (blk_cell BK493.out 5).trans rfl
              have hcz46_6 : wc.cell? ⟨gb493, 6, none⟩ = some (.int .i64 t492) := (blk_cell BK493.out 6).trans rfl
              have hfz46_0 := blk_frozen BK493.out 0
              have hfz46_1 := blk_frozen BK493.out 1
              have hfz46_2 := blk_frozen BK493.out 2
              have hfz46_3 := blk_frozen BK493.out 3
              have hfz46_4 := blk_frozen BK493.out 4
              have hfz46_5 := blk_frozen BK493.out 5
              have hfz46_6 := blk_frozen BK493.out 6
              have hnb47 := NB481_480.out
              have hnc47 := NB480_481.out
              have hcz48_0 : wc.cell? ⟨gb481, 0, none⟩ = some (.bool false) := (blk_cell BK481.out 0).trans rfl
              have hcz48_1 : wc.cell? ⟨gb481, 1, none⟩ = some (.bool false) := (blk_cell BK481.out 1).trans rfl
              have hcz48_2 : wc.cell? ⟨gb481, 2, none⟩ = some (.slice none 0 0) := (blk_cell BK481.out 2).trans rfl
              have hcz48_3 : wc.cell? ⟨gb481, 3, none⟩ = some (.slice none 0 0) := (blk_cell BK481.out 3).trans rfl
              have hcz48_4 : wc.cell? ⟨gb481, 4, none⟩ = some (.int .i64 0) := (blk_cell BK481.out 4).trans rfl
              have hcz48_5 : wc.cell? ⟨gb481, 5, none⟩ = some (.int .i64 0) := (blk_cell BK481.out 5).trans rfl
              have hcz48_6 : wc.cell? ⟨gb481, 6, none⟩ = some (.int .i64 0) := (blk_cell BK481.out 6).trans rfl
              have hfz48_0 := blk_frozen BK481.out 0
              have hfz48_1 := blk_frozen BK481.out 1
              have hfz48_2 := blk_frozen BK481.out 2
              have hfz48_3 := blk_frozen BK481.out 3
              have hfz48_4 := blk_frozen BK481.out 4
              have hfz48_5 := blk_frozen BK481.out 5
              have hfz48_6 := blk_frozen BK481.out 6
              go_wp2
              refine bodyPost_ret (results_ct rfl _ _ gb481 27 #[.bool t482, .bool t483, .slice Ao14 t484.length co14, .slice Ao15 t487.length co15, .int .i64 t490, .int .i64 t491, .int .i64 t492] (0, 0) _ rfl (by (with_reducible repeat (first | refine blk_drewN ?_ _ | refine blk_drew ?_ | refine blk_alloc ?_ _)); refine blk_put (cs := #[.bool t482, .bool t483, .slice Ao14 t484.length co14, .slice Ao15 t487.length co15, .int .i64 t490, .int .i64 t491, .int .i64 0]) ?_ 6 _ rfl; (with_reducible repeat (first | refine blk_drewN ?_ _ | refine blk_drew ?_ | refine blk_alloc ?_ _)); refine blk_put (cs := #[.bool t482, .bool t483, .slice Ao14 t484.length co14, .slice Ao15 t487.length co15, .int .i64 t490, .int .i64 0, .int .i64 0]) ?_ 5 _ rfl; (with_reducible repeat (first | refine blk_drewN ?_ _ | refine blk_drew ?_ | refine blk_alloc ?_ _)); refine blk_put (cs := #[.bool t482, .bool t483, .slice Ao14 t484.length co14, .slice Ao15 t487.length co15, .int .i64 0, .int .i64 0, .int .i64 0]) ?_ 4 _ rfl; (with_reducible repeat (first | refine blk_drewN ?_ _ | refine blk_drew ?_ | refine blk_alloc ?_ _)); refine blk_put (cs := #[.bool t482, .bool t483, .slice Ao14 t484.length co14, .slice none 0 0, .int .i64 0, .int .i64 0, .int .i64 0]) ?_ 3 _ rfl; (with_reducible repeat (first | refine blk_drewN ?_ _ | refine blk_drew ?_ | refine blk_alloc ?_ _)); refine blk_put (cs := #[.bool t482, .bool t483, .slice none 0 0, .slice none 0 0, .int .i64 0, .int .i64 0, .int .i64 0]) ?_ 2 _ rfl; (with_reducible repeat (first | refine blk_drewN ?_ _ | refine blk_drew ?_ | refine blk_alloc ?_ _)); refine blk_put (cs := #[.bool t482, .bool false, .slice none 0 0, .slice none 0 0, .int .i64 0, .int .i64 0, .int .i64 0]) ?_ 1 _ rfl; (with_reducible repeat (first | refine blk_drewN ?_ _ | refine blk_drew ?_ | refine blk_alloc ?_ _)); refine blk_put (cs := #[.bool false, .bool false, .slice none 0 0, .slice none 0 0, .int .i64 0, .int .i64 0, .int .i64 0]) ?_ 0 _ rfl; (with_reducible repeat (first | refine blk_drewN ?_ _ | refine blk_drew ?_ | refine blk_alloc ?_ _)); exact BK481.out) Try.underlying27 rfl (by kernel_rfl)) rfl ?_
              exact ⟨_, _, by first | rfl | (simp [errW_none, errW_some] <;> rfl) | (simp [*, errW_none, errW_some] <;> rfl), by (with_reducible repeat (first | apply Kd.R_alloc | apply Kd.R_drewN | apply Kd.R_drew)); exact Kd.R_mono (Kd.R_far (p := ⟨gb481, 6, none⟩) (Kd.R_far (p := ⟨gb481, 5, none⟩) (Kd.R_far (p := ⟨gb481, 4, none⟩) (Kd.R_far (p := ⟨gb481, 3, none⟩) (Kd.R_far (p := ⟨gb481, 2, none⟩) (Kd.R_far (p := ⟨gb481, 1, none⟩) (Kd.R_far (p := ⟨gb481, 0, none⟩) (Kd.R_types HO_494002.out BK481.out (by decide)) (fun _ hk => hk.2) (.bool t482)) (fun _ hk => hk.2) (.bool t483)) (fun _ hk => hk.2) (.slice Ao14 t484.length co14)) (fun _ hk => hk.2) (.slice Ao15 t487.length co15)) (fun _ hk => hk.2) (.int .i64 t490)) (fun _ hk => hk.2) (.int .i64 t491)) (fun _ hk => hk.2) (.int .i64 t492)) (fun _ hk => hk.1), by (with_reducible repeat (first | apply Kd.R_alloc | apply Kd.R_drewN | apply Kd.R_drew)); exact Kd.R_mono (Kd.R_far (p := ⟨gb481, 6, none⟩) (Kd.R_far (p := ⟨gb481, 5, none⟩) (Kd.R_far (p := ⟨gb481, 4, none⟩) (Kd.R_far (p := ⟨gb481, 3, none⟩) (Kd.R_far (p := ⟨gb481, 2, none⟩) (Kd.R_far (p := ⟨gb481, 1, none⟩) (Kd.R_far (p := ⟨gb481, 0, none⟩) (Kd.R_types HO_494003.out BK481.out (by decide)) (fun _ hk => hk.2) (.bool t482)) (fun _ hk => hk.2) (.bool t483)) (fun _ hk => hk.2) (.slice Ao14 t484.length co14)) (fun _ hk => hk.2) (.slice Ao15 t487.length co15)) (fun _ hk => hk.2) (.int .i64 t490)) (fun _ hk => hk.2) (.int .i64 t491)) (fun _ hk => hk.2) (.int .i64 t492)) (fun _ hk => hk.1), by repeat (first | (with_reducible first | exact HB.out | apply below_alloc | apply pw_below_drewN | apply below_drew1 | refine below_set ?_ GE480.out | refine below_set ?_ GE481.out | refine below_set ?_ GE493.out) | exact HB.out)⟩
            · replace c43 := Bool.eq_false_iff.mpr c43
              subst c43
              have H1 : (if a0_0 = true then (if a0_6 = 1000000000 then (impl_Stand.j2 kj32 a1 true a0_0 a0_1 l0_2 l0_3 a0_4 a0_5 a0_6 t482 t483 t484 t487 t490 t491 t492) else (if a0_1 = true then (impl_Stand.j2 kj32 a1 false a0_0 a0_1 l0_2 l0_3 a0_4 a0_5 a0_6 t482 t483 t484 t487 t490 t491 t492) else (impl_Stand.j2 kj32 a1 ((l0_2.length : Int) == 32) a0_0 a0_1 l0_2 l0_3 a0_4 a0_5 a0_6 t482 t483 t484 t487 t490 t491 t492))) else (if a0_1 = true then (impl_Stand.j2 kj32 a1 false a0_0 a0_1 l0_2 l0_3 a0_4 a0_5 a0_6 t482 t483 t484 t487 t490 t491 t492) else (impl_Stand.j2 kj32 a1 ((l0_2.length : Int) == 32) a0_0 a0_1 l0_2 l0_3 a0_4 a0_5 a0_6 t482 t483 t484 t487 t490 t491 t492))) = some (r1, r2, r3, r4, r5, r6, r7, r8) := by rw [if_neg (show ¬ (false = true) by decide)] at H; exact H
              clear H
              have H := H1
              clear H1
              have HC49 := Aside0.mk H
              clear H
              go_upto_region 6 with (fail)
              go_cut [31] (fun v31 wc => ∃ (kq : Nat) (x31_48 : Bool), v31 = .bool x31_48 ∧ Aside0 (impl_Stand.j2 kq a1 x31_48 a0_0 a0_1 l0_2 l0_3 a0_4 a0_5 a0_6 t482 t483 t484 t487 t490 t491 t492 = some (r1, r2, r3, r4, r5, r6, r7, r8)) ∧ Aside0 (kq ≤ kj32) ∧ Aside0 (Kd.R (Kd.int .i64) 3 wc w.heap.size (fun k_ => some k_ ≠ ((.slice Ao15 t487.length co15) : Value).ownBlock) (.slice Ao14 t484.length co14) t484) ∧ Aside0 (Kd.R (Kd.int .i64) 3 wc w.heap.size (fun k_ => some k_ ≠ ((.slice Ao14 t484.length co14) : Value).ownBlock) (.slice Ao15 t487.length co15) t487) ∧ Aside0 (wc.heap[gb480]? = some (.cells #[.bool a0_0, .bool a0_1, (.slice A0_2 l0_2.length c0_2), (.slice A0_3 l0_3.length c0_3), .int .i64 a0_4, .int .i64 a0_5, .int .i64 a0_6] 27 (0, 0))) ∧ Aside0 (wc.heap[gb481]? = some (.cells #[.bool false, .bool false, (.slice none 0 0), (.slice none 0 0), .int .i64 0, .int .i64 0, .int .i64 0] 27 (0, 0))) ∧ Aside0 (wc.heap[gb493]? = some (.cells #[.bool t482, .bool t483, (.slice Ao14 t484.length co14), (.slice Ao15 t487.length co15), .int .i64 t490, .int .i64 t491, .int .i64 t492] 27 (0, 0))) ∧ Aside0 (Below w.heap.size w wc))
              case first =>
                have H := HC49.out
                clear HC49
                by_cases c50 : a0_0 = true
                · subst c50
                  have H1 : (if a0_6 = 1000000000 then (impl_Stand.j2 kj32 a1 true true a0_1 l0_2 l0_3 a0_4 a0_5 a0_6 t482 t483 t484 t487 t490 t491 t492) else (if a0_1 = true then (impl_Stand.j2 kj32 a1 false true a0_1 l0_2 l0_3 a0_4 a0_5 a0_6 t482 t483 t484 t487 t490 t491 t492) else (impl_Stand.j2 kj32 a1 ((l0_2.length : Int) == 32) true a0_1 l0_2 l0_3 a0_4 a0_5 a0_6 t482 t483 t484 t487 t490 t491 t492))) = some (r1, r2, r3, r4, r5, r6, r7, r8) := by rw [if_pos rfl] at H; exact H
                  clear H
                  have H := H1
                  clear H1
                  by_cases c51 : a0_6 = 1000000000
                  · rw [if_pos c51] at H
                    have c51b0 : (a0_6 == 1000000000) = true := beq_iff_eq.mpr c51
                    have c51b1 : (a0_6 != 1000000000) = false := bne_eq_false_iff_eq.mpr c51
                    clear c51
                    (first | rw [c51b0] | (simp only [i64_w, i32_w]; rw [c51b0]) | skip)
                    have H' := Aside0.mk H
                    clear H
                    have hnb52 := NB480_481.out
                    have hnc52 := NB481_480.out
                    have hnb53 := NB480_493.out
                    have hnc53 := NB493_480.out
                    have hcz54_0 : wc.cell? ⟨gb480, 0, none⟩ = some (.bool true) := (blk_cell BK480.out 0).trans rfl
                    have hcz54_1 : wc.cell? ⟨gb480, 1, none⟩ = some (.bool a0_1) := (blk_cell BK480.out 1).trans rfl
                    have hcz54_2 : wc.cell? ⟨gb480, 2, none⟩ = some (.slice A0_2 l0_2.length c0_2) := (blk_cell BK480.out 2).trans rfl
                    have hcz54_3 : wc.cell? ⟨gb480, 3, none⟩ = some (.slice A0_3 l0_3.length c0_3) := (blk_cell BK480.out 3).trans rfl
                    have hcz54_4 : wc.cell? ⟨gb480, 4, none⟩ = some (.int .i64 a0_4) := (blk_cell BK480.out 4).trans rfl
                    have hcz54_5 : wc.cell? ⟨gb480, 5, none⟩ = some (.int .i64 a0_5) := (blk_cell BK480.out 5).trans rfl
                    have hcz54_6 : wc.cell? ⟨gb480, 6, none⟩ = some (.int .i64 a0_6) := (blk_cell BK480.out 6).trans rfl
                    have hfz54_0 := blk_frozen BK480.out 0
                    have hfz54_1 := blk_frozen BK480.out 1
                    have hfz54_2 := blk_frozen BK480.out 2
                    have hfz54_3 := blk_frozen BK480.out 3
                    have hfz54_4 := blk_frozen BK480.out 4
                    have hfz54_5 := blk_frozen BK480.out 5
                    have hfz54_6 := blk_frozen BK480.out 6
                    go_wp2
                    go_meet
                    case rel => exact ⟨_, (true), (by first | rfl | (simp; done) | (simp [*]; done)), H', ⟨by have := HJ3.out; have := HJ32.out; first | omega | exact Nat.le_refl _⟩, ⟨pkR HO_494002.out⟩, ⟨pkR HO_494003.out⟩, ⟨pkK BK480.out⟩, ⟨pkK BK481.out⟩, ⟨pkK BK493.out⟩, ⟨by repeat (first | (with_reducible first | exact HB.out | apply below_alloc | apply pw_below_drewN | apply below_drew1 | refine below_set ?_ GE480.out | refine below_set ?_ GE481.out | refine below_set ?_ GE493.out) | exact HB.out)⟩⟩
                  · rw [if_neg c51] at H
                    have c51b0 : (a0_6 == 1000000000) = false := beq_eq_false_iff_ne.mpr c51
                    have c51b1 : (a0_6 != 1000000000) = true := bne_iff_ne.mpr c51
                    (first | rw [c51b0] | (simp only [i64_w, i32_w]; rw [c51b0]) | skip)
                    by_cases c55 : a0_1 = true
                    · subst c55
                      have H1 : (impl_Stand.j2 kj32 a1 false true true l0_2 l0_3 a0_4 a0_5 a0_6 t482 t483 t484 t487 t490 t491 t492) = some (r1, r2, r3, r4, r5, r6, r7, r8) := by rw [if_pos rfl] at H; exact H
                      clear H
                      have H := H1
                      clear H1
                      have H' := Aside0.mk H
                      clear H
                      have hnb56 := NB480_481.out
                      have hnc56 := NB481_480.out
                      have hnb57 := NB480_493.out
                      have hnc57 := NB493_480.out
                      have hcz58_0 : wc.cell? ⟨gb480, 0, none⟩ = some (.bool true) := (blk_cell BK480.out 0).trans rfl
                      have hcz58_1 : wc.cell? ⟨gb480, 1, none⟩ = some (.bool true) := (blk_cell BK480.out 1).trans rfl
                      have hcz58_2 : wc.cell? ⟨gb480, 2, none⟩ = some (.slice A0_2 l0_2.length c0_2) := (blk_cell BK480.out 2).trans rfl
                      have hcz58_3 : wc.cell? ⟨gb480, 3, none⟩ = some (.slice A0_3 l0_3.length c0_3) := (blk_cell BK480.out 3).trans rfl
                      have hcz58_4 : wc.cell? ⟨gb480, 4, none⟩ = some (.int .i64 a0_4) := (blk_cell BK480.out 4).trans rfl
                      have hcz58_5 : wc.cell? ⟨gb480, 5, none⟩ = some (.int .i64 a0_5) := (blk_cell BK480.out 5).trans rfl
                      have hcz58_6 : wc.cell? ⟨gb480, 6, none⟩ = some (.int .i64 a0_6) := (blk_cell BK480.out 6).trans rfl
                      have hfz58_0 := blk_frozen BK480.out 0
                      have hfz58_1 := blk_frozen BK480.out 1
                      have hfz58_2 := blk_frozen BK480.out 2
                      have hfz58_3 := blk_frozen BK480.out 3
                      have hfz58_4 := blk_frozen BK480.out 4
                      have hfz58_5 := blk_frozen BK480.out 5
                      have hfz58_6 := blk_frozen BK480.out 6
                      go_wp2
                      go_meet
                      case rel => exact ⟨_, (false), (by first | rfl | (simp; done) | (simp [*]; done)), H', ⟨by have := HJ3.out; have := HJ32.out; first | omega | exact Nat.le_refl _⟩, ⟨pkR HO_494002.out⟩, ⟨pkR HO_494003.out⟩, ⟨pkK BK480.out⟩, ⟨pkK BK481.out⟩, ⟨pkK BK493.out⟩, ⟨by repeat (first | (with_reducible first | exact HB.out | apply below_alloc | apply pw_below_drewN | apply below_drew1 | refine below_set ?_ GE480.out | refine below_set ?_ GE481.out | refine below_set ?_ GE493.out) | exact HB.out)⟩⟩
                    · replace c55 := Bool.eq_false_iff.mpr c55
                      subst c55
                      have H1 : (impl_Stand.j2 kj32 a1 ((l0_2.length : Int) == 32) true false l0_2 l0_3 a0_4 a0_5 a0_6 t482 t483 t484 t487 t490 t491 t492) = some (r1, r2, r3, r4, r5, r6, r7, r8) := by rw [if_neg (show ¬ (false = true) by decide)] at H; exact H
                      clear H
                      have H := H1
                      clear H1
                      have H' := Aside0.mk H
                      clear H
                      have hnb59 := NB480_481.out
                      have hnc59 := NB481_480.out
                      have hnb60 := NB480_493.out
                      have hnc60 := NB493_480.out
                      have hcz61_0 : wc.cell? ⟨gb480, 0, none⟩ = some (.bool true) := (blk_cell BK480.out 0).trans rfl
                      have hcz61_1 : wc.cell? ⟨gb480, 1, none⟩ = some (.bool false) := (blk_cell BK480.out 1).trans rfl
                      have hcz61_2 : wc.cell? ⟨gb480, 2, none⟩ = some (.slice A0_2 l0_2.length c0_2) := (blk_cell BK480.out 2).trans rfl
                      have hcz61_3 : wc.cell? ⟨gb480, 3, none⟩ = some (.slice A0_3 l0_3.length c0_3) := (blk_cell BK480.out 3).trans rfl
                      have hcz61_4 : wc.cell? ⟨gb480, 4, none⟩ = some (.int .i64 a0_4) := (blk_cell BK480.out 4).trans rfl
                      have hcz61_5 : wc.cell? ⟨gb480, 5, none⟩ = some (.int .i64 a0_5) := (blk_cell BK480.out 5).trans rfl
                      have hcz61_6 : wc.cell? ⟨gb480, 6, none⟩ = some (.int .i64 a0_6) := (blk_cell BK480.out 6).trans rfl
                      have hfz61_0 := blk_frozen BK480.out 0
                      have hfz61_1 := blk_frozen BK480.out 1
                      have hfz61_2 := blk_frozen BK480.out 2
                      have hfz61_3 := blk_frozen BK480.out 3
                      have hfz61_4 := blk_frozen BK480.out 4
                      have hfz61_5 := blk_frozen BK480.out 5
                      have hfz61_6 := blk_frozen BK480.out 6
                      go_wp2
                      go_meet
                      case rel => exact ⟨_, (((l0_2.length : Int) == 32)), (by first | rfl | (simp; done) | (simp [*]; done)), H', ⟨by have := HJ3.out; have := HJ32.out; first | omega | exact Nat.le_refl _⟩, ⟨pkR HO_494002.out⟩, ⟨pkR HO_494003.out⟩, ⟨pkK BK480.out⟩, ⟨pkK BK481.out⟩, ⟨pkK BK493.out⟩, ⟨by repeat (first | (with_reducible first | exact HB.out | apply below_alloc | apply pw_below_drewN | apply below_drew1 | refine below_set ?_ GE480.out | refine below_set ?_ GE481.out | refine below_set ?_ GE493.out) | exact HB.out)⟩⟩
                · replace c50 := Bool.eq_false_iff.mpr c50
                  subst c50
                  have H1 : (if a0_1 = true then (impl_Stand.j2 kj32 a1 false false a0_1 l0_2 l0_3 a0_4 a0_5 a0_6 t482 t483 t484 t487 t490 t491 t492) else (impl_Stand.j2 kj32 a1 ((l0_2.length : Int) == 32) false a0_1 l0_2 l0_3 a0_4 a0_5 a0_6 t482 t483 t484 t487 t490 t491 t492)) = some (r1, r2, r3, r4, r5, r6, r7, r8) := by rw [if_neg (show ¬ (false = true) by decide)] at H; exact H
                  clear H
                  have H := H1
                  clear H1
                  by_cases c62 : a0_1 = true
                  · subst c62
                    have H1 : (impl_Stand.j2 kj32 a1 false false true l0_2 l0_3 a0_4 a0_5 a0_6 t482 t483 t484 t487 t490 t491 t492) = some (r1, r2, r3, r4, r5, r6, r7, r8) := by rw [if_pos rfl] at H; exact H
                    clear H
                    have H := H1
                    clear H1
                    have H' := Aside0.mk H
                    clear H
                    have hnb63 := NB480_481.out
                    have hnc63 := NB481_480.out
                    have hnb64 := NB480_493.out
                    have hnc64 := NB493_480.out
                    have hcz65_0 : wc.cell? ⟨gb480, 0, none⟩ = some (.bool false) := (blk_cell BK480.out 0).trans rfl
                    have hcz65_1 : wc.cell? ⟨gb480, 1, none⟩ = some (.bool true) := (blk_cell BK480.out 1).trans rfl
                    have hcz65_2 : wc.cell? ⟨gb480, 2, none⟩ = some (.slice A0_2 l0_2.length c0_2) := (blk_cell BK480.out 2).trans rfl
                    have hcz65_3 : wc.cell? ⟨gb480, 3, none⟩ = some (.slice A0_3 l0_3.length c0_3) := (blk_cell BK480.out 3).trans rfl
                    have hcz65_4 : wc.cell? ⟨gb480, 4, none⟩ = some (.int .i64 a0_4) := (blk_cell BK480.out 4).trans rfl
                    have hcz65_5 : wc.cell? ⟨gb480, 5, none⟩ = some (.int .i64 a0_5) := (blk_cell BK480.out 5).trans rfl
                    have hcz65_6 : wc.cell? ⟨gb480, 6, none⟩ = some (.int .i64 a0_6) := (blk_cell BK480.out 6).trans rfl
                    have hfz65_0 := blk_frozen BK480.out 0
                    have hfz65_1 := blk_frozen BK480.out 1
                    have hfz65_2 := blk_frozen BK480.out 2
                    have hfz65_3 := blk_frozen BK480.out 3
                    have hfz65_4 := blk_frozen BK480.out 4
                    have hfz65_5 := blk_frozen BK480.out 5
                    have hfz65_6 := blk_frozen BK480.out 6
                    go_wp2
                    go_meet
                    case rel => exact ⟨_, (false), (by first | rfl | (simp; done) | (simp [*]; done)), H', ⟨by have := HJ3.out; have := HJ32.out; first | omega | exact Nat.le_refl _⟩, ⟨pkR HO_494002.out⟩, ⟨pkR HO_494003.out⟩, ⟨pkK BK480.out⟩, ⟨pkK BK481.out⟩, ⟨pkK BK493.out⟩, ⟨by repeat (first | (with_reducible first | exact HB.out | apply below_alloc | apply pw_below_drewN | apply below_drew1 | refine below_set ?_ GE480.out | refine below_set ?_ GE481.out | refine below_set ?_ GE493.out) | exact HB.out)⟩⟩
                  · replace c62 := Bool.eq_false_iff.mpr c62
                    subst c62
                    have H1 : (impl_Stand.j2 kj32 a1 ((l0_2.length : Int) == 32) false false l0_2 l0_3 a0_4 a0_5 a0_6 t482 t483 t484 t487 t490 t491 t492) = some (r1, r2, r3, r4, r5, r6, r7, r8) := by rw [if_neg (show ¬ (false = true) by decide)] at H; exact H
                    clear H
                    have H := H1
                    clear H1
                    have H' := Aside0.mk H
                    clear H
                    have hnb66 := NB480_481.out
                    have hnc66 := NB481_480.out
                    have hnb67 := NB480_493.out
                    have hnc67 := NB493_480.out
                    have hcz68_0 : wc.cell? ⟨gb480, 0, none⟩ = some (.bool false) := (blk_cell BK480.out 0).trans rfl
                    have hcz68_1 : wc.cell? ⟨gb480, 1, none⟩ = some (.bool false) := (blk_cell BK480.out 1).trans rfl
                    have hcz68_2 : wc.cell? ⟨gb480, 2, none⟩ = some (.slice A0_2 l0_2.length c0_2) := (blk_cell BK480.out 2).trans rfl
                    have hcz68_3 : wc.cell? ⟨gb480, 3, none⟩ = some (.slice A0_3 l0_3.length c0_3) := (blk_cell BK480.out 3).trans rfl
                    have hcz68_4 : wc.cell? ⟨gb480, 4, none⟩ = some (.int .i64 a0_4) := (blk_cell BK480.out 4).trans rfl
                    have hcz68_5 : wc.cell? ⟨gb480, 5, none⟩ = some (.int .i64 a0_5) := (blk_cell BK480.out 5).trans rfl
                    have hcz68_6 : wc.cell? ⟨gb480, 6, none⟩ = some (.int .i64 a0_6) := (blk_cell BK480.out 6).trans rfl
                    have hfz68_0 := blk_frozen BK480.out 0
                    have hfz68_1 := blk_frozen BK480.out 1
                    have hfz68_2 := blk_frozen BK480.out 2
                    have hfz68_3 := blk_frozen BK480.out 3
                    have hfz68_4 := blk_frozen BK480.out 4
                    have hfz68_5 := blk_frozen BK480.out 5
                    have hfz68_6 := blk_frozen BK480.out 6
                    go_wp2
                    go_meet
                    case rel => exact ⟨_, (((l0_2.length : Int) == 32)), (by first | rfl | (simp; done) | (simp [*]; done)), H', ⟨by have := HJ3.out; have := HJ32.out; first | omega | exact Nat.le_refl _⟩, ⟨pkR HO_494002.out⟩, ⟨pkR HO_494003.out⟩, ⟨pkK BK480.out⟩, ⟨pkK BK481.out⟩, ⟨pkK BK493.out⟩, ⟨by repeat (first | (with_reducible first | exact HB.out | apply below_alloc | apply pw_below_drewN | apply below_drew1 | refine below_set ?_ GE480.out | refine below_set ?_ GE481.out | refine below_set ?_ GE493.out) | exact HB.out)⟩⟩
              case rest =>
                clear HC49
                try clear c1
                try clear c2
                try clear p2
                try clear c3
                try clear c4
                try clear c5
                try clear c6
                try clear c7
                try clear c11
                try clear c12
                try clear c17
                try clear c19
                try clear c20
                try clear c23
                try clear c24
                try clear c27
                try clear c28
                try clear c29
                try clear c31
                try clear c35
                try clear c36
                try clear c37
                try clear c40
                try clear c41
                try clear c43
                try clear c44
                try clear c45
                try clear c47
                try clear c50
                try clear c51
                try clear c51b0
                try clear c51b1
                try clear c52
                try clear c53
                try clear c55
                try clear c56
                try clear c57
                try clear c59
                try clear c60
                try clear c62
                try clear c63
                try clear c64
                try clear c66
                try clear c67
                try clear hcz13_0
                try clear hcz13_1
                try clear hcz13_2
                try clear hcz13_3
                try clear hcz13_4
                try clear hcz13_5
                try clear hcz13_6
                try clear hcz21_0
                try clear hcz21_1
                try clear hcz21_2
                try clear hcz21_3
                try clear hcz21_4
                try clear hcz21_5
                try clear hcz21_6
                try clear hcz25_0
                try clear hcz25_1
                try clear hcz25_2
                try clear hcz25_3
                try clear hcz25_4
                try clear hcz25_5
                try clear hcz25_6
                try clear hcz30_0
                try clear hcz30_1
                try clear hcz30_2
                try clear hcz30_3
                try clear hcz30_4
                try clear hcz30_5
                try clear hcz30_6
                try clear hcz32_0
                try clear hcz32_1
                try clear hcz32_2
                try clear hcz32_3
                try clear hcz32_4
                try clear hcz32_5
                try clear hcz32_6
                try clear hcz38_0
                try clear hcz38_1
                try clear hcz38_2
                try clear hcz38_3
                try clear hcz38_4
                try clear hcz38_5
                try clear hcz38_6
                try clear hcz42_0
                try clear hcz42_1
                try clear hcz42_2
                try clear hcz42_3
                try clear hcz42_4
                try clear hcz42_5
                try clear hcz42_6
                try clear hcz46_0
                try clear hcz46_1
                try clear hcz46_2
                try clear hcz46_3
                try clear hcz46_4
                try clear hcz46_5
                try clear hcz46_6
                try clear hcz48_0
                try clear hcz48_1
                try clear hcz48_2
                try clear hcz48_3
                try clear hcz48_4
                try clear hcz48_5
                try clear hcz48_6
                try clear hcz54_0
                try clear hcz54_1
                try clear hcz54_2
                try clear hcz54_3
                try clear hcz54_4
                try clear hcz54_5
                try clear hcz54_6
                try clear hcz58_0
                try clear hcz58_1
                try clear hcz58_2
                try clear hcz58_3
                try clear hcz58_4
                try clear hcz58_5
                try clear hcz58_6
                try clear hcz61_0
                try clear hcz61_1
                try clear hcz61_2
                try clear hcz61_3
                try clear hcz61_4
                try clear hcz61_5
                try clear hcz61_6
                try clear hcz65_0
                try clear hcz65_1
                try clear hcz65_2
                try clear hcz65_3
                try clear hcz65_4
                try clear hcz65_5
                try clear hcz65_6
                try clear hcz68_0
                try clear hcz68_1
                try clear hcz68_2
                try clear hcz68_3
                try clear hcz68_4
                try clear hcz68_5
                try clear hcz68_6
                try clear hcz8_0
                try clear hcz8_1
                try clear hcz8_2
                try clear hcz8_3
                try clear hcz8_4
                try clear hcz8_5
                try clear hcz8_6
                try clear hfz13_0
                try clear hfz13_1
                try clear hfz13_2
                try clear hfz13_3
                try clear hfz13_4
                try clear hfz13_5
                try clear hfz13_6
                try clear hfz21_0
                try clear hfz21_1
                try clear hfz21_2
                try clear hfz21_3
                try clear hfz21_4
                try clear hfz21_5
                try clear hfz21_6
                try clear hfz25_0
                try clear hfz25_1
                try clear hfz25_2
                try clear hfz25_3
                try clear hfz25_4
                try clear hfz25_5
                try clear hfz25_6
                try clear hfz30_0
                try clear hfz30_1
                try clear hfz30_2
                try clear hfz30_3
                try clear hfz30_4
                try clear hfz30_5
                try clear hfz30_6
                try clear hfz32_0
                try clear hfz32_1
                try clear hfz32_2
                try clear hfz32_3
                try clear hfz32_4
                try clear hfz32_5
                try clear hfz32_6
                try clear hfz38_0
                try clear hfz38_1
                try clear hfz38_2
                try clear hfz38_3
                try clear hfz38_4
                try clear hfz38_5
                try clear hfz38_6
                try clear hfz42_0
                try clear hfz42_1
                try clear hfz42_2
                try clear hfz42_3
                try clear hfz42_4
                try clear hfz42_5
                try clear hfz42_6
                try clear hfz46_0
                try clear hfz46_1
                try clear hfz46_2
                try clear hfz46_3
                try clear hfz46_4
                try clear hfz46_5
                try clear hfz46_6
                try clear hfz48_0
                try clear hfz48_1
                try clear hfz48_2
                try clear hfz48_3
                try clear hfz48_4
                try clear hfz48_5
                try clear hfz48_6
                try clear hfz54_0
                try clear hfz54_1
                try clear hfz54_2
                try clear hfz54_3
                try clear hfz54_4
                try clear hfz54_5
                try clear hfz54_6
                try clear hfz58_0
                try clear hfz58_1
                try clear hfz58_2
                try clear hfz58_3
                try clear hfz58_4
                try clear hfz58_5
                try clear hfz58_6
                try clear hfz61_0
                try clear hfz61_1
                try clear hfz61_2
                try clear hfz61_3
                try clear hfz61_4
                try clear hfz61_5
                try clear hfz61_6
                try clear hfz65_0
                try clear hfz65_1
                try clear hfz65_2
                try clear hfz65_3
                try clear hfz65_4
                try clear hfz65_5
                try clear hfz65_6
                try clear hfz68_0
                try clear hfz68_1
                try clear hfz68_2
                try clear hfz68_3
                try clear hfz68_4
                try clear hfz68_5
                try clear hfz68_6
                try clear hfz8_0
                try clear hfz8_1
                try clear hfz8_2
                try clear hfz8_3
                try clear hfz8_4
                try clear hfz8_5
                try clear hfz8_6
                try clear p2
                obtain ⟨kq, x31_48, rfl, HA, HJ48, HO_494002, HO_494003, BK480, BK481, BK493, HB⟩ := hcut
                cases kq with
                | zero => exact absurd HA.out (by simp [impl_Stand.j2])
                | succ kj48 =>
                  have H := HA.out
                  clear HA
                  simp only [impl_Stand.j2] at H
                  by_cases c69 : x31_48 = true
                  · subst c69
                    have H1 : (some (t482, t483, t484, t487, t490, t491, t492, 2)) = some (r1, r2, r3, r4, r5, r6, r7, r8) := by rw [if_pos rfl] at H; exact H
                    clear H
                    have H := H1
                    clear H1
                    simp only [Option.some.injEq, Prod.mk.injEq] at H
                    obtain ⟨rfl, rfl, rfl, rfl, rfl, rfl, rfl, rfl⟩ := H
                    have hnb70 := NB493_480.out
                    have hnc70 := NB480_493.out
                    have hnb71 := NB493_481.out
                    have hnc71 := NB481_493.out
                    have hcz72_0 : wc.cell? ⟨gb493, 0, none⟩ = some (.bool t482) := (blk_cell BK493.out 0).trans rfl
                    have hcz72_1 : wc.cell? ⟨gb493, 1, none⟩ = some (.bool t483) := (blk_cell BK493.out 1).trans rfl
                    have hcz72_2 : wc.cell? ⟨gb493, 2, none⟩ = some (.slice Ao14 t484.length co14) := (blk_cell BK493.out 2).trans rfl
                    have hcz72_3 : wc.cell? ⟨gb493, 3, none⟩ = some (.slice Ao15 t487.length co15) := (blk_cell BK493.out 3).trans rfl
                    have hcz72_4 : wc.cell? ⟨gb493, 4, none⟩ = some (.int .i64 t490) := (blk_cell BK493.out 4).trans rfl
                    have hcz72_5 : wc.cell? ⟨gb493, 5, none⟩ = some (.int .i64 t491) := (blk_cell BK493.out 5).trans rfl
                    have hcz72_6 : wc.cell? ⟨gb493, 6, none⟩ = some (.int .i64 t492) := (blk_cell BK493.out 6).trans rfl
                    have hfz72_0 := blk_frozen BK493.out 0
                    have hfz72_1 := blk_frozen BK493.out 1
                    have hfz72_2 := blk_frozen BK493.out 2
                    have hfz72_3 := blk_frozen BK493.out 3
                    have hfz72_4 := blk_frozen BK493.out 4
                    have hfz72_5 := blk_frozen BK493.out 5
                    have hfz72_6 := blk_frozen BK493.out 6
                    have hnb73 := NB481_480.out
                    have hnc73 := NB480_481.out
                    have hcz74_0 : wc.cell? ⟨gb481, 0, none⟩ = some (.bool false) := (blk_cell BK481.out 0).trans rfl
                    have hcz74_1 : wc.cell? ⟨gb481, 1, none⟩ = some (.bool false) := (blk_cell BK481.out 1).trans rfl
                    have hcz74_2 : wc.cell? ⟨gb481, 2, none⟩ = some (.slice none 0 0) := (blk_cell BK481.out 2).trans rfl
                    have hcz74_3 : wc.cell? ⟨gb481, 3, none⟩ = some (.slice none 0 0) := (blk_cell BK481.out 3).trans rfl
                    have hcz74_4 : wc.cell? ⟨gb481, 4, none⟩ = some (.int .i64 0) := (blk_cell BK481.out 4).trans rfl
                    have hcz74_5 : wc.cell? ⟨gb481, 5, none⟩ = some (.int .i64 0) := (blk_cell BK481.out 5).trans rfl
                    have hcz74_6 : wc.cell? ⟨gb481, 6, none⟩ = some (.int .i64 0) := (blk_cell BK481.out 6).trans rfl
                    have hfz74_0 := blk_frozen BK481.out 0
                    have hfz74_1 := blk_frozen BK481.out 1
                    have hfz74_2 := blk_frozen BK481.out 2
                    have hfz74_3 := blk_frozen BK481.out 3
                    have hfz74_4 := blk_frozen BK481.out 4
                    have hfz74_5 := blk_frozen BK481.out 5
                    have hfz74_6 := blk_frozen BK481.out 6
                    go_wp2
                    refine bodyPost_ret (results_ct rfl _ _ gb481 27 #[.bool t482, .bool t483, .slice Ao14 t484.length co14, .slice Ao15 t487.length co15, .int .i64 t490, .int .i64 t491, .int .i64 t492] (0, 0) _ rfl (by (with_reducible repeat (first | refine blk_drewN ?_ _ | refine blk_drew ?_ | refine blk_alloc ?_ _)); refine blk_put (cs := #[.bool t482, .bool t483, .slice Ao14 t484.length co14, .slice Ao15 t487.length co15, .int .i64 t490, .int .i64 t491, .int .i64 0]) ?_ 6 _ rfl; (with_reducible repeat (first | refine blk_drewN ?_ _ | refine blk_drew ?_ | refine blk_alloc ?_ _)); refine blk_put (cs := #[.bool t482, .bool t483, .slice Ao14 t484.length co14, .slice Ao15 t487.length co15, .int .i64 t490, .int .i64 0, .int .i64 0]) ?_ 5 _ rfl; (with_reducible repeat (first | refine blk_drewN ?_ _ | refine blk_drew ?_ | refine blk_alloc ?_ _)); refine blk_put (cs := #[.bool t482, .bool t483, .slice Ao14 t484.length co14, .slice Ao15 t487.length co15, .int .i64 0, .int .i64 0, .int .i64 0]) ?_ 4 _ rfl; (with_reducible repeat (first | refine blk_drewN ?_ _ | refine blk_drew ?_ | refine blk_alloc ?_ _)); refine blk_put (cs := #[.bool t482, .bool t483, .slice Ao14 t484.length co14, .slice none 0 0, .int .i64 0, .int .i64 0, .int .i64 0]) ?_ 3 _ rfl; (with_reducible repeat (first | refine blk_drewN ?_ _ | refine blk_drew ?_ | refine blk_alloc ?_ _)); refine blk_put (cs := #[.bool t482, .bool t483, .slice none 0 0, .slice none 0 0, .int .i64 0, .int .i64 0, .int .i64 0]) ?_ 2 _ rfl; (with_reducible repeat (first | refine blk_drewN ?_ _ | refine blk_drew ?_ | refine blk_alloc ?_ _)); refine blk_put (cs := #[.bool t482, .bool false, .slice none 0 0, .slice none 0 0, .int .i64 0, .int .i64 0, .int .i64 0]) ?_ 1 _ rfl; (with_reducible repeat (first | refine blk_drewN ?_ _ | refine blk_drew ?_ | refine blk_alloc ?_ _)); refine blk_put (cs := #[.bool false, .bool false, .slice none 0 0, .slice none 0 0, .int .i64 0, .int .i64 0, .int .i64 0]) ?_ 0 _ rfl; (with_reducible repeat (first | refine blk_drewN ?_ _ | refine blk_drew ?_ | refine blk_alloc ?_ _)); exact BK481.out) Try.underlying27 rfl (by kernel_rfl)) rfl ?_
                    exact ⟨_, _, by first | rfl | (simp [errW_none, errW_some] <;> rfl) | (simp [*, errW_none, errW_some] <;> rfl), by (with_reducible repeat (first | apply Kd.R_alloc | apply Kd.R_drewN | apply Kd.R_drew)); exact Kd.R_mono (Kd.R_far (p := ⟨gb481, 6, none⟩) (Kd.R_far (p := ⟨gb481, 5, none⟩) (Kd.R_far (p := ⟨gb481, 4, none⟩) (Kd.R_far (p := ⟨gb481, 3, none⟩) (Kd.R_far (p := ⟨gb481, 2, none⟩) (Kd.R_far (p := ⟨gb481, 1, none⟩) (Kd.R_far (p := ⟨gb481, 0, none⟩) (Kd.R_types HO_494002.out BK481.out (by decide)) (fun _ hk => hk.2) (.bool t482)) (fun _ hk => hk.2) (.bool t483)) (fun _ hk => hk.2) (.slice Ao14 t484.length co14)) (fun _ hk => hk.2) (.slice Ao15 t487.length co15)) (fun _ hk => hk.2) (.int .i64 t490)) (fun _ hk => hk.2) (.int .i64 t491)) (fun _ hk => hk.2) (.int .i64 t492)) (fun _ hk => hk.1), by (with_reducible repeat (first | apply Kd.R_alloc | apply Kd.R_drewN | apply Kd.R_drew)); exact Kd.R_mono (Kd.R_far (p := ⟨gb481, 6, none⟩) (Kd.R_far (p := ⟨gb481, 5, none⟩) (Kd.R_far (p := ⟨gb481, 4, none⟩) (Kd.R_far (p := ⟨gb481, 3, none⟩) (Kd.R_far (p := ⟨gb481, 2, none⟩) (Kd.R_far (p := ⟨gb481, 1, none⟩) (Kd.R_far (p := ⟨gb481, 0, none⟩) (Kd.R_types HO_494003.out BK481.out (by decide)) (fun _ hk => hk.2) (.bool t482)) (fun _ hk => hk.2) (.bool t483)) (fun _ hk => hk.2) (.slice Ao14 t484.length co14)) (fun _ hk => hk.2) (.slice Ao15 t487.length co15)) (fun _ hk => hk.2) (.int .i64 t490)) (fun _ hk => hk.2) (.int .i64 t491)) (fun _ hk => hk.2) (.int .i64 t492)) (fun _ hk => hk.1), by repeat (first | (with_reducible first | exact HB.out | apply below_alloc | apply pw_below_drewN | apply below_drew1 | refine below_set ?_ GE480.out | refine below_set ?_ GE481.out | refine below_set ?_ GE493.out) | exact HB.out)⟩
                  · replace c69 := Bool.eq_false_iff.mpr c69
                    subst c69
                    have H1 : (if a0_1 = true then (impl_Stand.j3 kj48 a1 a0_0 a0_0 a0_1 l0_2 l0_3 a0_4 a0_5 a0_6 t482 t483 t484 t487 t490 t491 t492) else (impl_Stand.j3 kj48 a1 false a0_0 a0_1 l0_2 l0_3 a0_4 a0_5 a0_6 t482 t483 t484 t487 t490 t491 t492)) = some (r1, r2, r3, r4, r5, r6, r7, r8) := by rw [if_neg (show ¬ (false = true) by decide)] at H; exact H
                    clear H
                    have H := H1
                    clear H1
                    have HC75 := Aside0.mk H
                    clear H
                    go_upto_region 8 with (fail)
                    go_cut [51] (fun v51 wc => ∃ (kq : Nat) (x51_74 : Bool), v51 = .bool x51_74 ∧ Aside0 (impl_Stand.j3 kq a1 x51_74 a0_0 a0_1 l0_2 l0_3 a0_4 a0_5 a0_6 t482 t483 t484 t487 t490 t491 t492 = some (r1, r2, r3, r4, r5, r6, r7, r8)) ∧ Aside0 (kq ≤ kj48) ∧ Aside0 (Kd.R (Kd.int .i64) 3 wc w.heap.size (fun k_ => some k_ ≠ ((.slice Ao15 t487.length co15) : Value).ownBlock) (.slice Ao14 t484.length co14) t484) ∧ Aside0 (Kd.R (Kd.int .i64) 3 wc w.heap.size (fun k_ => some k_ ≠ ((.slice Ao14 t484.length co14) : Value).ownBlock) (.slice Ao15 t487.length co15) t487) ∧ Aside0 (wc.heap[gb480]? = some (.cells #[.bool a0_0, .bool a0_1, (.slice A0_2 l0_2.length c0_2), (.slice A0_3 l0_3.length c0_3), .int .i64 a0_4, .int .i64 a0_5, .int .i64 a0_6] 27 (0, 0))) ∧ Aside0 (wc.heap[gb481]? = some (.cells #[.bool false, .bool false, (.slice none 0 0), (.slice none 0 0), .int .i64 0, .int .i64 0, .int .i64 0] 27 (0, 0))) ∧ Aside0 (wc.heap[gb493]? = some (.cells #[.bool t482, .bool t483, (.slice Ao14 t484.length co14), (.slice Ao15 t487.length co15), .int .i64 t490, .int .i64 t491, .int .i64 t492] 27 (0, 0))) ∧ Aside0 (Below w.heap.size w wc))
                    case first =>
                      have H := HC75.out
                      clear HC75
                      by_cases c76 : a0_1 = true
                      · subst c76
                        have H1 : (impl_Stand.j3 kj48 a1 a0_0 a0_0 true l0_2 l0_3 a0_4 a0_5 a0_6 t482 t483 t484 t487 t490 t491 t492) = some (r1, r2, r3, r4, r5, r6, r7, r8) := by rw [if_pos rfl] at H; exact H
                        clear H
                        have H := H1
                        clear H1
                        have H' := Aside0.mk H
                        clear H
                        have hnb77 := NB480_481.out
                        have hnc77 := NB481_480.out
                        have hnb78 := NB480_493.out
                        have hnc78 := NB493_480.out
                        have hcz79_0 : wc.cell? ⟨gb480, 0, none⟩ = some (.bool a0_0) := (blk_cell BK480.out 0).trans rfl
                        have hcz79_1 : wc.cell? ⟨gb480, 1, none⟩ = some (.bool true) := (blk_cell BK480.out 1).trans rfl
                        have hcz79_2 : wc.cell? ⟨gb480, 2, none⟩ = some (.slice A0_2 l0_2.length c0_2) := (blk_cell BK480.out 2).trans rfl
                        have hcz79_3 : wc.cell? ⟨gb480, 3, none⟩ = some (.slice A0_3 l0_3.length c0_3) := (blk_cell BK480.out 3).trans rfl
                        have hcz79_4 : wc.cell? ⟨gb480, 4, none⟩ = some (.int .i64 a0_4) := (blk_cell BK480.out 4).trans rfl
                        have hcz79_5 : wc.cell? ⟨gb480, 5, none⟩ = some (.int .i64 a0_5) := (blk_cell BK480.out 5).trans rfl
                        have hcz79_6 : wc.cell? ⟨gb480, 6, none⟩ = some (.int .i64 a0_6) := (blk_cell BK480.out 6).trans rfl
                        have hfz79_0 := blk_frozen BK480.out 0
                        have hfz79_1 := blk_frozen BK480.out 1
                        have hfz79_2 := blk_frozen BK480.out 2
                        have hfz79_3 := blk_frozen BK480.out 3
                        have hfz79_4 := blk_frozen BK480.out 4
                        have hfz79_5 := blk_frozen BK480.out 5
                        have hfz79_6 := blk_frozen BK480.out 6
                        go_wp2
                        go_meet
                        case rel => exact ⟨_, (a0_0), (by first | rfl | (simp; done) | (simp [*]; done)), H', ⟨by have := HJ3.out; have := HJ32.out; have := HJ48.out; first | omega | exact Nat.le_refl _⟩, ⟨pkR HO_494002.out⟩, ⟨pkR HO_494003.out⟩, ⟨pkK BK480.out⟩, ⟨pkK BK481.out⟩, ⟨pkK BK493.out⟩, ⟨by repeat (first | (with_reducible first | exact HB.out | apply below_alloc | apply pw_below_drewN | apply below_drew1 | refine below_set ?_ GE480.out | refine below_set ?_ GE481.out | refine below_set ?_ GE493.out) | exact HB.out)⟩⟩
                      · replace c76 := Bool.eq_false_iff.mpr c76
                        subst c76
                        have H1 : (impl_Stand.j3 kj48 a1 false a0_0 false l0_2 l0_3 a0_4 a0_5 a0_6 t482 t483 t484 t487 t490 t491 t492) = some (r1, r2, r3, r4, r5, r6, r7, r8) := by rw [if_neg (show ¬ (false = true) by decide)] at H; exact H
                        clear H
                        have H := H1
                        clear H1
                        have H' := Aside0.mk H
                        clear H
                        have hnb80 := NB480_481.out
                        have hnc80 := NB481_480.out
                        have hnb81 := NB480_493.out
                        have hnc81 := NB493_480.out
                        have hcz82_0 : wc.cell? ⟨gb480, 0, none⟩ = some (.bool a0_0) := (blk_cell BK480.out 0).trans rfl
                        have hcz82_1 : wc.cell? ⟨gb480, 1, none⟩ = some (.bool false) := (blk_cell BK480.out 1).trans rfl
                        have hcz82_2 : wc.cell? ⟨gb480, 2, none⟩ = some (.slice A0_2 l0_2.length c0_2) := (blk_cell BK480.out 2).trans rfl
                        have hcz82_3 : wc.cell? ⟨gb480, 3, none⟩ = some (.slice A0_3 l0_3.length c0_3) := (blk_cell BK480.out 3).trans rfl
                        have hcz82_4 : wc.cell? ⟨gb480, 4, none⟩ = some (.int .i64 a0_4) := (blk_cell BK480.out 4).trans rfl
                        have hcz82_5 : wc.cell? ⟨gb480, 5, none⟩ = some (.int .i64 a0_5) := (blk_cell BK480.out 5).trans rfl
                        have hcz82_6 : wc.cell? ⟨gb480, 6, none⟩ = some (.int .i64 a0_6) := (blk_cell BK480.out 6).trans rfl
                        have hfz82_0 := blk_frozen BK480.out 0
                        have hfz82_1 := blk_frozen BK480.out 1
                        have hfz82_2 := blk_frozen BK480.out 2
                        have hfz82_3 := blk_frozen BK480.out 3
                        have hfz82_4 := blk_frozen BK480.out 4
                        have hfz82_5 := blk_frozen BK480.out 5
                        have hfz82_6 := blk_frozen BK480.out 6
                        go_wp2
                        go_meet
                        case rel => exact ⟨_, (false), (by first | rfl | (simp; done) | (simp [*]; done)), H', ⟨by have := HJ3.out; have := HJ32.out; have := HJ48.out; first | omega | exact Nat.le_refl _⟩, ⟨pkR HO_494002.out⟩, ⟨pkR HO_494003.out⟩, ⟨pkK BK480.out⟩, ⟨pkK BK481.out⟩, ⟨pkK BK493.out⟩, ⟨by repeat (first | (with_reducible first | exact HB.out | apply below_alloc | apply pw_below_drewN | apply below_drew1 | refine below_set ?_ GE480.out | refine below_set ?_ GE481.out | refine below_set ?_ GE493.out) | exact HB.out)⟩⟩
                    case rest =>
                      clear HC75
                      try clear c1
                      try clear c2
                      try clear p2
                      try clear c3
                      try clear c4
                      try clear c5
                      try clear c6
                      try clear c7
                      try clear c8
                      try clear c11
                      try clear c12
                      try clear c17
                      try clear c19
                      try clear c20
                      try clear c23
                      try clear c24
                      try clear c27
                      try clear c28
                      try clear c29
                      try clear c31
                      try clear c35
                      try clear c36
                      try clear c37
                      try clear c40
                      try clear c41
                      try clear c43
                      try clear c44
                      try clear c45
                      try clear c47
                      try clear c50
                      try clear c51
                      try clear c51b0
                      try clear c51b1
                      try clear c52
                      try clear c53
                      try clear c55
                      try clear c56
                      try clear c57
                      try clear c59
                      try clear c60
                      try clear c62
                      try clear c63
                      try clear c64
                      try clear c66
                      try clear c67
                      try clear c69
                      try clear c70
                      try clear c71
                      try clear c73
                      try clear c76
                      try clear c77
                      try clear c78
                      try clear c80
                      try clear c81
                      try clear hcz13_0
                      try clear hcz13_1
                      try clear hcz13_2
                      try clear hcz13_3
                      try clear hcz13_4
                      try clear hcz13_5
                      try clear hcz13_6
                      try clear hcz21_0
                      try clear hcz21_1
                      try clear hcz21_2
                      try clear hcz21_3
                      try clear hcz21_4
                      try clear hcz21_5
                      try clear hcz21_6
                      try clear hcz25_0
                      try clear hcz25_1
                      try clear hcz25_2
                      try clear hcz25_3
                      try clear hcz25_4
                      try clear hcz25_5
                      try clear hcz25_6
                      try clear hcz30_0
                      try clear hcz30_1
                      try clear hcz30_2
                      try clear hcz30_3
                      try clear hcz30_4
                      try clear hcz30_5
                      try clear hcz30_6
                      try clear hcz32_0
                      try clear hcz32_1
                      try clear hcz32_2
                      try clear hcz32_3
                      try clear hcz32_4
                      try clear hcz32_5
                      try clear hcz32_6
                      try clear hcz38_0
                      try clear hcz38_1
                      try clear hcz38_2
                      try clear hcz38_3
                      try clear hcz38_4
                      try clear hcz38_5
                      try clear hcz38_6
                      try clear hcz42_0
                      try clear hcz42_1
                      try clear hcz42_2
                      try clear hcz42_3
                      try clear hcz42_4
                      try clear hcz42_5
                      try clear hcz42_6
                      try clear hcz46_0
                      try clear hcz46_1
                      try clear hcz46_2
                      try clear hcz46_3
                      try clear hcz46_4
                      try clear hcz46_5
                      try clear hcz46_6
                      try clear hcz48_0
                      try clear hcz48_1
                      try clear hcz48_2
                      try clear hcz48_3
                      try clear hcz48_4
                      try clear hcz48_5
                      try clear hcz48_6
                      try clear hcz54_0
                      try clear hcz54_1
                      try clear hcz54_2
                      try clear hcz54_3
                      try clear hcz54_4
                      try clear hcz54_5
                      try clear hcz54_6
                      try clear hcz58_0
                      try clear hcz58_1
                      try clear hcz58_2
                      try clear hcz58_3
                      try clear hcz58_4
                      try clear hcz58_5
                      try clear hcz58_6
                      try clear hcz61_0
                      try clear hcz61_1
                      try clear hcz61_2
                      try clear hcz61_3
                      try clear hcz61_4
                      try clear hcz61_5
                      try clear hcz61_6
                      try clear hcz65_0
                      try clear hcz65_1
                      try clear hcz65_2
                      try clear hcz65_3
                      try clear hcz65_4
                      try clear hcz65_5
                      try clear hcz65_6
                      try clear hcz68_0
                      try clear hcz68_1
                      try clear hcz68_2
                      try clear hcz68_3
                      try clear hcz68_4
                      try clear hcz68_5
                      try clear hcz68_6
                      try clear hcz72_0
                      try clear hcz72_1
                      try clear hcz72_2
                      try clear hcz72_3
                      try clear hcz72_4
                      try clear hcz72_5
                      try clear hcz72_6
                      try clear hcz74_0
                      try clear hcz74_1
                      try clear hcz74_2
                      try clear hcz74_3
                      try clear hcz74_4
                      try clear hcz74_5
                      try clear hcz74_6
                      try clear hcz79_0
                      try clear hcz79_1
                      try clear hcz79_2
                      try clear hcz79_3
                      try clear hcz79_4
                      try clear hcz79_5
                      try clear hcz79_6
                      try clear hcz82_0
                      try clear hcz82_1
                      try clear hcz82_2
                      try clear hcz82_3
                      try clear hcz82_4
                      try clear hcz82_5
                      try clear hcz82_6
                      try clear hcz8_0
                      try clear hcz8_1
                      try clear hcz8_2
                      try clear hcz8_3
                      try clear hcz8_4
                      try clear hcz8_5
                      try clear hcz8_6
                      try clear hfz13_0
                      try clear hfz13_1
                      try clear hfz13_2
                      try clear hfz13_3
                      try clear hfz13_4
                      try clear hfz13_5
                      try clear hfz13_6
                      try clear hfz21_0
                      try clear hfz21_1
                      try clear hfz21_2
                      try clear hfz21_3
                      try clear hfz21_4
                      try clear hfz21_5
                      try clear hfz21_6
                      try clear hfz25_0
                      try clear hfz25_1
                      try clear hfz25_2
                      try clear hfz25_3
                      try clear hfz25_4
                      try clear hfz25_5
                      try clear hfz25_6
                      try clear hfz30_0
                      try clear hfz30_1
                      try clear hfz30_2
                      try clear hfz30_3
                      try clear hfz30_4
                      try clear hfz30_5
                      try clear hfz30_6
                      try clear hfz32_0
                      try clear hfz32_1
                      try clear hfz32_2
                      try clear hfz32_3
                      try clear hfz32_4
                      try clear hfz32_5
                      try clear hfz32_6
                      try clear hfz38_0
                      try clear hfz38_1
                      try clear hfz38_2
                      try clear hfz38_3
                      try clear hfz38_4
                      try clear hfz38_5
                      try clear hfz38_6
                      try clear hfz42_0
                      try clear hfz42_1
                      try clear hfz42_2
                      try clear hfz42_3
                      try clear hfz42_4
                      try clear hfz42_5
                      try clear hfz42_6
                      try clear hfz46_0
                      try clear hfz46_1
                      try clear hfz46_2
                      try clear hfz46_3
                      try clear hfz46_4
                      try clear hfz46_5
                      try clear hfz46_6
                      try clear hfz48_0
                      try clear hfz48_1
                      try clear hfz48_2
                      try clear hfz48_3
                      try clear hfz48_4
                      try clear hfz48_5
                      try clear hfz48_6
                      try clear hfz54_0
                      try clear hfz54_1
                      try clear hfz54_2
                      try clear hfz54_3
                      try clear hfz54_4
                      try clear hfz54_5
                      try clear hfz54_6
                      try clear hfz58_0
                      try clear hfz58_1
                      try clear hfz58_2
                      try clear hfz58_3
                      try clear hfz58_4
                      try clear hfz58_5
                      try clear hfz58_6
                      try clear hfz61_0
                      try clear hfz61_1
                      try clear hfz61_2
                      try clear hfz61_3
                      try clear hfz61_4
                      try clear hfz61_5
                      try clear hfz61_6
                      try clear hfz65_0
                      try clear hfz65_1
                      try clear hfz65_2
                      try clear hfz65_3
                      try clear hfz65_4
                      try clear hfz65_5
                      try clear hfz65_6
                      try clear hfz68_0
                      try clear hfz68_1
                      try clear hfz68_2
                      try clear hfz68_3
                      try clear hfz68_4
                      try clear hfz68_5
                      try clear hfz68_6
                      try clear hfz72_0
                      try clear hfz72_1
                      try clear hfz72_2
                      try clear hfz72_3
                      try clear hfz72_4
                      try clear hfz72_5
                      try clear hfz72_6
                      try clear hfz74_0
                      try clear hfz74_1
                      try clear hfz74_2
                      try clear hfz74_3
                      try clear hfz74_4
                      try clear hfz74_5
                      try clear hfz74_6
                      try clear hfz79_0
                      try clear hfz79_1
                      try clear hfz79_2
                      try clear hfz79_3
                      try clear hfz79_4
                      try clear hfz79_5
                      try clear hfz79_6
                      try clear hfz82_0
                      try clear hfz82_1
                      try clear hfz82_2
                      try clear hfz82_3
                      try clear hfz82_4
                      try clear hfz82_5
                      try clear hfz82_6
                      try clear hfz8_0
                      try clear hfz8_1
                      try clear hfz8_2
                      try clear hfz8_3
                      try clear hfz8_4
                      try clear hfz8_5
                      try clear hfz8_6
                      try clear p2
                      obtain ⟨kq, x51_74, rfl, HA, HJ74, HO_494002, HO_494003, BK480, BK481, BK493, HB⟩ := hcut
                      cases kq with
                      | zero => exact absurd HA.out (by simp [impl_Stand.j3])
                      | succ kj74 =>
                        have H := HA.out
                        clear HA
                        simp only [impl_Stand.j3] at H
                        by_cases c83 : x51_74 = true
                        · subst c83
                          have H1 : (some (t482, false, t484, t487, t490, t491, wrap64 (t492 + 1), 0)) = some (r1, r2, r3, r4, r5, r6, r7, r8) := by rw [if_pos rfl] at H; exact H
                          clear H
                          have H := H1
                          clear H1
                          simp only [Option.some.injEq, Prod.mk.injEq] at H
                          obtain ⟨rfl, rfl, rfl, rfl, rfl, rfl, rfl, rfl⟩ := H
                          have hnb84 := NB493_480.out
                          have hnc84 := NB480_493.out
                          have hnb85 := NB493_481.out
                          have hnc85 := NB481_493.out
                          have hcz86_0 : wc.cell? ⟨gb493, 0, none⟩ = some (.bool t482) := (blk_cell BK493.out 0).trans rfl
                          have hcz86_1 : wc.cell? ⟨gb493, 1, none⟩ = some (.bool t483) := (blk_cell BK493.out 1).trans rfl
                          have hcz86_2 : wc.cell? ⟨gb493, 2, none⟩ = some (.slice Ao14 t484.length co14) := (blk_cell BK493.out 2).trans rfl
                          have hcz86_3 : wc.cell? ⟨gb493, 3, none⟩ = some (.slice Ao15 t487.length co15) := (blk_cell BK493.out 3).trans rfl
                          have hcz86_4 : wc.cell? ⟨gb493, 4, none⟩ = some (.int .i64 t490) := (blk_cell BK493.out 4).trans rfl
                          have hcz86_5 : wc.cell? ⟨gb493, 5, none⟩ = some (.int .i64 t491) := (blk_cell BK493.out 5).trans rfl
                          have hcz86_6 : wc.cell? ⟨gb493, 6, none⟩ = some (.int .i64 t492) := (blk_cell BK493.out 6).trans rfl
                          have hfz86_0 := blk_frozen BK493.out 0
                          have hfz86_1 := blk_frozen BK493.out 1
                          have hfz86_2 := blk_frozen BK493.out 2
                          have hfz86_3 := blk_frozen BK493.out 3
                          have hfz86_4 := blk_frozen BK493.out 4
                          have hfz86_5 := blk_frozen BK493.out 5
                          have hfz86_6 := blk_frozen BK493.out 6
                          have hnb87 := NB481_480.out
                          have hnc87 := NB480_481.out
                          have hcz88_0 : wc.cell? ⟨gb481, 0, none⟩ = some (.bool false) := (blk_cell BK481.out 0).trans rfl
                          have hcz88_1 : wc.cell? ⟨gb481, 1, none⟩ = some (.bool false) := (blk_cell BK481.out 1).trans rfl
                          have hcz88_2 : wc.cell? ⟨gb481, 2, none⟩ = some (.slice none 0 0) := (blk_cell BK481.out 2).trans rfl
                          have hcz88_3 : wc.cell? ⟨gb481, 3, none⟩ = some (.slice none 0 0) := (blk_cell BK481.out 3).trans rfl
                          have hcz88_4 : wc.cell? ⟨gb481, 4, none⟩ = some (.int .i64 0) := (blk_cell BK481.out 4).trans rfl
                          have hcz88_5 : wc.cell? ⟨gb481, 5, none⟩ = some (.int .i64 0) := (blk_cell BK481.out 5).trans rfl
                          have hcz88_6 : wc.cell? ⟨gb481, 6, none⟩ = some (.int .i64 0) := (blk_cell BK481.out 6).trans rfl
                          have hfz88_0 := blk_frozen BK481.out 0
                          have hfz88_1 := blk_frozen BK481.out 1
                          have hfz88_2 := blk_frozen BK481.out 2
                          have hfz88_3 := blk_frozen BK481.out 3
                          have hfz88_4 := blk_frozen BK481.out 4
                          have hfz88_5 := blk_frozen BK481.out 5
                          have hfz88_6 := blk_frozen BK481.out 6
                          go_wp2
                          refine bodyPost_ret (results_ct rfl _ _ gb481 27 #[.bool t482, .bool false, .slice Ao14 t484.length co14, .slice Ao15 t487.length co15, .int .i64 t490, .int .i64 t491, .int .i64 (wrap64 (t492 + 1))] (0, 0) _ rfl (by (with_reducible repeat (first | refine blk_drewN ?_ _ | refine blk_drew ?_ | refine blk_alloc ?_ _)); refine blk_put (cs := #[.bool t482, .bool false, .slice Ao14 t484.length co14, .slice Ao15 t487.length co15, .int .i64 t490, .int .i64 t491, .int .i64 0]) ?_ 6 _ rfl; (with_reducible repeat (first | refine blk_drewN ?_ _ | refine blk_drew ?_ | refine blk_alloc ?_ _)); refine blk_put (cs := #[.bool t482, .bool false, .slice Ao14 t484.length co14, .slice Ao15 t487.length co15, .int .i64 t490, .int .i64 0, .int .i64 0]) ?_ 5 _ rfl; (with_reducible repeat (first | refine blk_drewN ?_ _ | refine blk_drew ?_ | refine blk_alloc ?_ _)); refine blk_put (cs := #[.bool t482, .bool false, .slice Ao14 t484.length co14, .slice Ao15 t487.length co15, .int .i64 0, .int .i64 0, .int .i64 0]) ?_ 4 _ rfl; (with_reducible repeat (first | refine blk_drewN ?_ _ | refine blk_drew ?_ | refine blk_alloc ?_ _)); refine blk_put (cs := #[.bool t482, .bool false, .slice Ao14 t484.length co14, .slice none 0 0, .int .i64 0, .int .i64 0, .int .i64 0]) ?_ 3 _ rfl; (with_reducible repeat (first | refine blk_drewN ?_ _ | refine blk_drew ?_ | refine blk_alloc ?_ _)); refine blk_put (cs := #[.bool t482, .bool false, .slice none 0 0, .slice none 0 0, .int .i64 0, .int .i64 0, .int .i64 0]) ?_ 2 _ rfl; (with_reducible repeat (first | refine blk_drewN ?_ _ | refine blk_drew ?_ | refine blk_alloc ?_ _)); refine blk_put (cs := #[.bool t482, .bool false, .slice none 0 0, .slice none 0 0, .int .i64 0, .int .i64 0, .int .i64 0]) ?_ 1 _ rfl; (with_reducible repeat (first | refine blk_drewN ?_ _ | refine blk_drew ?_ | refine blk_alloc ?_ _)); refine blk_put (cs := #[.bool false, .bool false, .slice none 0 0, .slice none 0 0, .int .i64 0, .int .i64 0, .int .i64 0]) ?_ 0 _ rfl; (with_reducible repeat (first | refine blk_drewN ?_ _ | refine blk_drew ?_ | refine blk_alloc ?_ _)); refine blk_far ?_ NB481_493.out _; (with_reducible repeat (first | refine blk_drewN ?_ _ | refine blk_drew ?_ | refine blk_alloc ?_ _)); refine blk_far ?_ NB481_493.out _; (with_reducible repeat (first | refine blk_drewN ?_ _ | refine blk_drew ?_ | refine blk_alloc ?_ _)); exact BK481.out) Try.underlying27 rfl (by kernel_rfl)) rfl ?_
                          exact ⟨_, _, by first | rfl | (simp [errW_none, errW_some] <;> rfl) | (simp [*, errW_none, errW_some] <;> rfl), by (with_reducible repeat (first | apply Kd.R_alloc | apply Kd.R_drewN | apply Kd.R_drew)); exact Kd.R_mono (Kd.R_far (p := ⟨gb481, 6, none⟩) (Kd.R_far (p := ⟨gb481, 5, none⟩) (Kd.R_far (p := ⟨gb481, 4, none⟩) (Kd.R_far (p := ⟨gb481, 3, none⟩) (Kd.R_far (p := ⟨gb481, 2, none⟩) (Kd.R_far (p := ⟨gb481, 1, none⟩) (Kd.R_far (p := ⟨gb481, 0, none⟩) (Kd.R_far (p := ⟨gb493, 6, none⟩) (Kd.R_far (p := ⟨gb493, 1, none⟩) (Kd.R_types (Kd.R_types HO_494002.out BK493.out (by decide)) BK481.out (by decide)) (fun _ hk => hk.1.2) (.bool false)) (fun _ hk => hk.1.2) (.int .i64 (wrap64 (t492 + 1)))) (fun _ hk => hk.2) (.bool t482)) (fun _ hk => hk.2) (.bool false)) (fun _ hk => hk.2) (.slice Ao14 t484.length co14)) (fun _ hk => hk.2) (.slice Ao15 t487.length co15)) (fun _ hk => hk.2) (.int .i64 t490)) (fun _ hk => hk.2) (.int .i64 t491)) (fun _ hk => hk.2) (.int .i64 (wrap64 (t492 + 1)))) (fun _ hk => hk.1.1), by (with_reducible repeat (first | apply Kd.R_alloc | apply Kd.R_drewN | apply Kd.R_drew)); exact Kd.R_mono (Kd.R_far (p := ⟨gb481, 6, none⟩) (Kd.R_far (p := ⟨gb481, 5, none⟩) (Kd.R_far (p := ⟨gb481, 4, none⟩) (Kd.R_far (p := ⟨gb481, 3, none⟩) (Kd.R_far (p := ⟨gb481, 2, none⟩) (Kd.R_far (p := ⟨gb481, 1, none⟩) (Kd.R_far (p := ⟨gb481, 0, none⟩) (Kd.R_far (p := ⟨gb493, 6, none⟩) (Kd.R_far (p := ⟨gb493, 1, none⟩) (Kd.R_types (Kd.R_types HO_494003.out BK493.out (by decide)) BK481.out (by decide)) (fun _ hk => hk.1.2) (.bool false)) (fun _ hk => hk.1.2) (.int .i64 (wrap64 (t492 + 1)))) (fun _ hk => hk.2) (.bool t482)) (fun _ hk => hk.2) (.bool false)) (fun _ hk => hk.2) (.slice Ao14 t484.length co14)) (fun _ hk => hk.2) (.slice Ao15 t487.length co15)) (fun _ hk => hk.2) (.int .i64 t490)) (fun _ hk => hk.2) (.int .i64 t491)) (fun _ hk => hk.2) (.int .i64 (wrap64 (t492 + 1)))) (fun _ hk => hk.1.1), by repeat (first | (with_reducible first | exact HB.out | apply below_alloc | apply pw_below_drewN | apply below_drew1 | refine below_set ?_ GE480.out | refine below_set ?_ GE481.out | refine below_set ?_ GE493.out) | exact HB.out)⟩
                        · replace c83 := Bool.eq_false_iff.mpr c83
                          subst c83
                          have H1 : (if a0_1 = true then (some (t482, t483, t484, t487, t490, t491, t492, 0)) else (if t484.length < 17592186044416 then (some (t482, t483, (t484 ++ [a1]), t487, t490, t491, t492, 4)) else (none))) = some (r1, r2, r3, r4, r5, r6, r7, r8) := by rw [if_neg (show ¬ (false = true) by decide)] at H; exact H
                          clear H
                          have H := H1
                          clear H1
                          by_cases c89 : a0_1 = true
                          · subst c89
                            have H1 : (some (t482, t483, t484, t487, t490, t491, t492, 0)) = some (r1, r2, r3, r4, r5, r6, r7, r8) := by rw [if_pos rfl] at H; exact H
                            clear H
                            have H := H1
                            clear H1
                            simp only [Option.some.injEq, Prod.mk.injEq] at H
                            obtain ⟨rfl, rfl, rfl, rfl, rfl, rfl, rfl, rfl⟩ := H
                            have hnb90 := NB480_481.out
                            have hnc90 := NB481_480.out
                            have hnb91 := NB480_493.out
                            have hnc91 := NB493_480.out
                            have hcz92_0 : wc.cell? ⟨gb480, 0, none⟩ = some (.bool a0_0) := (blk_cell BK480.out 0).trans rfl
                            have hcz92_1 : wc.cell? ⟨gb480, 1, none⟩ = some (.bool true) := (blk_cell BK480.out 1).trans rfl
                            have hcz92_2 : wc.cell? ⟨gb480, 2, none⟩ = some (.slice A0_2 l0_2.length c0_2) := (blk_cell BK480.out 2).trans rfl
                            have hcz92_3 : wc.cell? ⟨gb480, 3, none⟩ = some (.slice A0_3 l0_3.length c0_3) := (blk_cell BK480.out 3).trans rfl
                            have hcz92_4 : wc.cell? ⟨gb480, 4, none⟩ = some (.int .i64 a0_4) := (blk_cell BK480.out 4).trans rfl
                            have hcz92_5 : wc.cell? ⟨gb480, 5, none⟩ = some (.int .i64 a0_5) := (blk_cell BK480.out 5).trans rfl
                            have hcz92_6 : wc.cell? ⟨gb480, 6, none⟩ = some (.int .i64 a0_6) := (blk_cell BK480.out 6).trans rfl
                            have hfz92_0 := blk_frozen BK480.out 0
                            have hfz92_1 := blk_frozen BK480.out 1
                            have hfz92_2 := blk_frozen BK480.out 2
                            have hfz92_3 := blk_frozen BK480.out 3
                            have hfz92_4 := blk_frozen BK480.out 4
                            have hfz92_5 := blk_frozen BK480.out 5
                            have hfz92_6 := blk_frozen BK480.out 6
                            have hnb93 := NB493_481.out
                            have hnc93 := NB481_493.out
                            have hcz94_0 : wc.cell? ⟨gb493, 0, none⟩ = some (.bool t482) := (blk_cell BK493.out 0).trans rfl
                            have hcz94_1 : wc.cell? ⟨gb493, 1, none⟩ = some (.bool t483) := (blk_cell BK493.out 1).trans rfl
                            have hcz94_2 : wc.cell? ⟨gb493, 2, none⟩ = some (.slice Ao14 t484.length co14) := (blk_cell BK493.out 2).trans rfl
                            have hcz94_3 : wc.cell? ⟨gb493, 3, none⟩ = some (.slice Ao15 t487.length co15) := (blk_cell BK493.out 3).trans rfl
                            have hcz94_4 : wc.cell? ⟨gb493, 4, none⟩ = some (.int .i64 t490) := (blk_cell BK493.out 4).trans rfl
                            have hcz94_5 : wc.cell? ⟨gb493, 5, none⟩ = some (.int .i64 t491) := (blk_cell BK493.out 5).trans rfl
                            have hcz94_6 : wc.cell? ⟨gb493, 6, none⟩ = some (.int .i64 t492) := (blk_cell BK493.out 6).trans rfl
                            have hfz94_0 := blk_frozen BK493.out 0
                            have hfz94_1 := blk_frozen BK493.out 1
                            have hfz94_2 := blk_frozen BK493.out 2
                            have hfz94_3 := blk_frozen BK493.out 3
                            have hfz94_4 := blk_frozen BK493.out 4
                            have hfz94_5 := blk_frozen BK493.out 5
                            have hfz94_6 := blk_frozen BK493.out 6
                            have hcz95_0 : wc.cell? ⟨gb481, 0, none⟩ = some (.bool false) := (blk_cell BK481.out 0).trans rfl
                            have hcz95_1 : wc.cell? ⟨gb481, 1, none⟩ = some (.bool false) := (blk_cell BK481.out 1).trans rfl
                            have hcz95_2 : wc.cell? ⟨gb481, 2, none⟩ = some (.slice none 0 0) := (blk_cell BK481.out 2).trans rfl
                            have hcz95_3 : wc.cell? ⟨gb481, 3, none⟩ = some (.slice none 0 0) := (blk_cell BK481.out 3).trans rfl
                            have hcz95_4 : wc.cell? ⟨gb481, 4, none⟩ = some (.int .i64 0) := (blk_cell BK481.out 4).trans rfl
                            have hcz95_5 : wc.cell? ⟨gb481, 5, none⟩ = some (.int .i64 0) := (blk_cell BK481.out 5).trans rfl
                            have hcz95_6 : wc.cell? ⟨gb481, 6, none⟩ = some (.int .i64 0) := (blk_cell BK481.out 6).trans rfl
                            have hfz95_0 := blk_frozen BK481.out 0
                            have hfz95_1 := blk_frozen BK481.out 1
                            have hfz95_2 := blk_frozen BK481.out 2
                            have hfz95_3 := blk_frozen BK481.out 3
                            have hfz95_4 := blk_frozen BK481.out 4
                            have hfz95_5 := blk_frozen BK481.out 5
                            have hfz95_6 := blk_frozen BK481.out 6
                            go_wp2
                            refine bodyPost_ret (results_ct rfl _ _ gb481 27 #[.bool t482, .bool t483, .slice Ao14 t484.length co14, .slice Ao15 t487.length co15, .int .i64 t490, .int .i64 t491, .int .i64 t492] (0, 0) _ rfl (by (with_reducible repeat (first | refine blk_drewN ?_ _ | refine blk_drew ?_ | refine blk_alloc ?_ _)); refine blk_put (cs := #[.bool t482, .bool t483, .slice Ao14 t484.length co14, .slice Ao15 t487.length co15, .int .i64 t490, .int .i64 t491, .int .i64 0]) ?_ 6 _ rfl; (with_reducible repeat (first | refine blk_drewN ?_ _ | refine blk_drew ?_ | refine blk_alloc ?_ _)); refine blk_put (cs := #[.bool t482, .bool t483, .slice Ao14 t484.length co14, .slice Ao15 t487.length co15, .int .i64 t490, .int .i64 0, .int .i64 0]) ?_ 5 _ rfl; (with_reducible repeat (first | refine blk_drewN ?_ _ | refine blk_drew ?_ | refine blk_alloc ?_ _)); refine blk_put (cs := #[.bool t482, .bool t483, .slice Ao14 t484.length co14, .slice Ao15 t487.length co15, .int .i64 0, .int .i64 0, .int .i64 0]) ?_ 4 _ rfl; (with_reducible repeat (first | refine blk_drewN ?_ _ | refine blk_drew ?_ | refine blk_alloc ?_ _)); refine blk_put (cs := #[.bool t482, .bool t483, .slice Ao14 t484.length co14, .slice none 0 0, .int .i64 0, .int .i64 0, .int .i64 0]) ?_ 3 _ rfl; (with_reducible repeat (first | refine blk_drewN ?_ _ | refine blk_drew ?_ | refine blk_alloc ?_ _)); refine blk_put (cs := #[.bool t482, .bool t483, .slice none 0 0, .slice none 0 0, .int .i64 0, .int .i64 0, .int .i64 0]) ?_ 2 _ rfl; (with_reducible repeat (first | refine blk_drewN ?_ _ | refine blk_drew ?_ | refine blk_alloc ?_ _)); refine blk_put (cs := #[.bool t482, .bool false, .slice none 0 0, .slice none 0 0, .int .i64 0, .int .i64 0, .int .i64 0]) ?_ 1 _ rfl; (with_reducible repeat (first | refine blk_drewN ?_ _ | refine blk_drew ?_ | refine blk_alloc ?_ _)); refine blk_put (cs := #[.bool false, .bool false, .slice none 0 0, .slice none 0 0, .int .i64 0, .int .i64 0, .int .i64 0]) ?_ 0 _ rfl; (with_reducible repeat (first | refine blk_drewN ?_ _ | refine blk_drew ?_ | refine blk_alloc ?_ _)); exact BK481.out) Try.underlying27 rfl (by kernel_rfl)) rfl ?_
                            exact ⟨_, _, by first | rfl | (simp [errW_none, errW_some] <;> rfl) | (simp [*, errW_none, errW_some] <;> rfl), by (with_reducible repeat (first | apply Kd.R_alloc | apply Kd.R_drewN | apply Kd.R_drew)); exact Kd.R_mono (Kd.R_far (p := ⟨gb481, 6, none⟩) (Kd.R_far (p := ⟨gb481, 5, none⟩) (Kd.R_far (p := ⟨gb481, 4, none⟩) (Kd.R_far (p := ⟨gb481, 3, none⟩) (Kd.R_far (p := ⟨gb481, 2, none⟩) (Kd.R_far (p := ⟨gb481, 1, none⟩) (Kd.R_far (p := ⟨gb481, 0, none⟩) (Kd.R_types HO_494002.out BK481.out (by decide)) (fun _ hk => hk.2) (.bool t482)) (fun _ hk => hk.2) (.bool t483)) (fun _ hk => hk.2) (.slice Ao14 t484.length co14)) (fun _ hk => hk.2) (.slice Ao15 t487.length co15)) (fun _ hk => hk.2) (.int .i64 t490)) (fun _ hk => hk.2) (.int .i64 t491)) (fun _ hk => hk.2) (.int .i64 t492)) (fun _ hk => hk.1), by (with_reducible repeat (first | apply Kd.R_alloc | apply Kd.R_drewN | apply Kd.R_drew)); exact Kd.R_mono (Kd.R_far (p := ⟨gb481, 6, none⟩) (Kd.R_far (p := ⟨gb481, 5, none⟩) (Kd.R_far (p := ⟨gb481, 4, none⟩) (Kd.R_far (p := ⟨gb481, 3, none⟩) (Kd.R_far (p := ⟨gb481, 2, none⟩) (Kd.R_far (p := ⟨gb481, 1, none⟩) (Kd.R_far (p := ⟨gb481, 0, none⟩) (Kd.R_types HO_494003.out BK481.out (by decide)) (fun _ hk => hk.2) (.bool t482)) (fun _ hk => hk.2) (.bool t483)) (fun _ hk => hk.2) (.slice Ao14 t484.length co14)) (fun _ hk => hk.2) (.slice Ao15 t487.length co15)) (fun _ hk => hk.2) (.int .i64 t490)) (fun _ hk => hk.2) (.int .i64 t491)) (fun _ hk => hk.2) (.int .i64 t492)) (fun _ hk => hk.1), by repeat (first | (with_reducible first | exact HB.out | apply below_alloc | apply pw_below_drewN | apply below_drew1 | refine below_set ?_ GE480.out | refine below_set ?_ GE481.out | refine below_set ?_ GE493.out) | exact HB.out)⟩
                          · replace c89 := Bool.eq_false_iff.mpr c89
                            subst c89
                            have H1 : (if t484.length < 17592186044416 then (some (t482, t483, (t484 ++ [a1]), t487, t490, t491, t492, 4)) else (none)) = some (r1, r2, r3, r4, r5, r6, r7, r8) := by rw [if_neg (show ¬ (false = true) by decide)] at H; exact H
                            clear H
                            have H := H1
                            clear H1
                            by_cases c96 : t484.length < 17592186044416
                            · rw [if_pos c96] at H
                              have LMc96 := Aside0.mk c96
                              clear c96
                              obtain ⟨y498, hy498⟩ : ∃ y_ : List Int, y_ = (t484 ++ [a1]) := ⟨_, rfl⟩
                              replace H : (some (t482, t483, y498, t487, t490, t491, t492, 4)) = some (r1, r2, r3, r4, r5, r6, r7, r8) := by first | (rw [hy498]; with_reducible exact H) | (have H2_ := (Option.bind_some _ _).symm.trans H; rw [hy498]; with_reducible exact H2_) | (have H2_ := (Option.bind_some _ _).symm.trans H; with_reducible exact H2_) | with_reducible exact H | (rw [hy498]; exact H) | exact H
                              have Ny498 := Aside0.mk hy498
                              clear hy498
                              simp only [Option.some.injEq, Prod.mk.injEq] at H
                              obtain ⟨rfl, rfl, rfl, rfl, rfl, rfl, rfl, rfl⟩ := H
                              have hnb97 := NB480_481.out
                              have hnc97 := NB481_480.out
                              have hnb98 := NB480_493.out
                              have hnc98 := NB493_480.out
                              have hcz99_0 : wc.cell? ⟨gb480, 0, none⟩ = some (.bool a0_0) := (blk_cell BK480.out 0).trans rfl
                              have hcz99_1 : wc.cell? ⟨gb480, 1, none⟩ = some (.bool false) := (blk_cell BK480.out 1).trans rfl
                              have hcz99_2 : wc.cell? ⟨gb480, 2, none⟩ = some (.slice A0_2 l0_2.length c0_2) := (blk_cell BK480.out 2).trans rfl
                              have hcz99_3 : wc.cell? ⟨gb480, 3, none⟩ = some (.slice A0_3 l0_3.length c0_3) := (blk_cell BK480.out 3).trans rfl
                              have hcz99_4 : wc.cell? ⟨gb480, 4, none⟩ = some (.int .i64 a0_4) := (blk_cell BK480.out 4).trans rfl
                              have hcz99_5 : wc.cell? ⟨gb480, 5, none⟩ = some (.int .i64 a0_5) := (blk_cell BK480.out 5).trans rfl
                              have hcz99_6 : wc.cell? ⟨gb480, 6, none⟩ = some (.int .i64 a0_6) := (blk_cell BK480.out 6).trans rfl
                              have hfz99_0 := blk_frozen BK480.out 0
                              have hfz99_1 := blk_frozen BK480.out 1
                              have hfz99_2 := blk_frozen BK480.out 2
                              have hfz99_3 := blk_frozen BK480.out 3
                              have hfz99_4 := blk_frozen BK480.out 4
                              have hfz99_5 := blk_frozen BK480.out 5
                              have hfz99_6 := blk_frozen BK480.out 6
                              have hnb100 := NB493_481.out
                              have hnc100 := NB481_493.out
                              have hcz101_0 : wc.cell? ⟨gb493, 0, none⟩ = some (.bool t482) := (blk_cell BK493.out 0).trans rfl
                              have hcz101_1 : wc.cell? ⟨gb493, 1, none⟩ = some (.bool t483) := (blk_cell BK493.out 1).trans rfl
                              have hcz101_2 : wc.cell? ⟨gb493, 2, none⟩ = some (.slice Ao14 t484.length co14) := (blk_cell BK493.out 2).trans rfl
                              have hcz101_3 : wc.cell? ⟨gb493, 3, none⟩ = some (.slice Ao15 t487.length co15) := (blk_cell BK493.out 3).trans rfl
                              have hcz101_4 : wc.cell? ⟨gb493, 4, none⟩ = some (.int .i64 t490) := (blk_cell BK493.out 4).trans rfl
                              have hcz101_5 : wc.cell? ⟨gb493, 5, none⟩ = some (.int .i64 t491) := (blk_cell BK493.out 5).trans rfl
                              have hcz101_6 : wc.cell? ⟨gb493, 6, none⟩ = some (.int .i64 t492) := (blk_cell BK493.out 6).trans rfl
                              have hfz101_0 := blk_frozen BK493.out 0
                              have hfz101_1 := blk_frozen BK493.out 1
                              have hfz101_2 := blk_frozen BK493.out 2
                              have hfz101_3 := blk_frozen BK493.out 3
                              have hfz101_4 := blk_frozen BK493.out 4
                              have hfz101_5 := blk_frozen BK493.out 5
                              have hfz101_6 := blk_frozen BK493.out 6
                              go_wp2_with (first | ((with_reducible refine gate_builtin (b := .append) (xs := #[.tmp 69, .tmp 71]) rfl ?_); (try (refine gate_guard (by rfl) ?_; dsimp only)); at_builtin; refine Kd.R_append (Kd.int .i64) (w0 := w) w.heap.size rfl (.tmp 69) (.tmp 71) 22 3 (.int .i64 0) 8 rfl Try.underlying22 info3 rfl (by decide) (by omega) (.slice Ao14 t484.length co14) t484 a1 [.int .i64 a1] (fun k_ => some k_ ≠ (.slice Ao15 t487.length co15 : Value).ownBlock) (fun _ => False) rfl rfl ?aP (fun _ hk => hk.elim) ?aF ?aO ?aB ?aS ?aL ?_; (case aP => exact rfl); (case aB => exact (by repeat (first | (with_reducible first | exact HB.out | apply below_alloc | apply pw_below_drewN | apply below_drew1 | refine below_set ?_ GE480.out | refine below_set ?_ GE481.out | refine below_set ?_ GE493.out) | exact HB.out))); (case aF => exact (fun k_ hk => Kd.fresh' (Kd.R_lt (pkR HO_494003.out)) k_ hk)); (case aO => exact (pkR HO_494002.out)); (case aS => exact (below_size (by repeat (first | (with_reducible first | exact HB.out | apply below_alloc | apply pw_below_drewN | apply below_drew1 | refine below_set ?_ GE480.out | refine below_set ?_ GE481.out | refine below_set ?_ GE493.out) | exact HB.out)))); (case aL => have := LMc96.out; omega); intro v499 w102 ho hb hg hat; rw [← Ny498.out] at ho; have n0_ := Aside0.mk (Kd.R_after (ok := (fun _ => True)) (by (with_reducible repeat (first | apply Kd.R_alloc | apply Kd.R_drewN | apply Kd.R_drew)); exact Kd.R_mono HO_494003.out (fun _ hk => ⟨trivial, hk⟩)) hg hat); have n1_ := Aside0.mk (blk_grown (g := gb480) (o := .cells #[.bool a0_0, .bool false, .slice A0_2 l0_2.length c0_2, .slice A0_3 l0_3.length c0_3, .int .i64 a0_4, .int .i64 a0_5, .int .i64 a0_6] 27 (0, 0)) (pkK BK480.out) hg (Kd.R_ne HO_494002.out BK480.out (by decide))); have n2_ := Aside0.mk (blk_grown (g := gb481) (o := .cells #[.bool false, .bool false, .slice none 0 0, .slice none 0 0, .int .i64 0, .int .i64 0, .int .i64 0] 27 (0, 0)) (pkK BK481.out) hg (Kd.R_ne HO_494002.out BK481.out (by decide))); have n3_ := Aside0.mk (blk_grown (g := gb493) (o := .cells #[.bool t482, .bool t483, .slice Ao14 t484.length co14, .slice Ao15 t487.length co15, .int .i64 t490, .int .i64 t491, .int .i64 t492] 27 (0, 0)) (pkK BK493.out) hg (Kd.R_ne HO_494002.out BK493.out (by decide))); have n4_ := Aside0.mk (hb); have n5_ := Aside0.mk (ho); clear HO_494003 BK480 BK481 BK493 HB HO_494002; have HO_494003 := n0_; have BK480 := n1_; have BK481 := n2_; have BK493 := n3_; have HB := n4_; have HO500 := n5_; clear n0_ n1_ n2_ n3_ n4_ n5_; clear ho hb hg hat; obtain ⟨Ao103, co103, eo103⟩ := Kd.R_slice HO500.out; subst eo103; have hcz104_0 : w102.cell? ⟨gb493, 0, none⟩ = some (.bool t482) := (blk_cell BK493.out 0).trans rfl; have hcz104_1 : w102.cell? ⟨gb493, 1, none⟩ = some (.bool t483) := (blk_cell BK493.out 1).trans rfl; have hcz104_2 : w102.cell? ⟨gb493, 2, none⟩ = some (.slice Ao14 t484.length co14) := (blk_cell BK493.out 2).trans rfl; have hcz104_3 : w102.cell? ⟨gb493, 3, none⟩ = some (.slice Ao15 t487.length co15) := (blk_cell BK493.out 3).trans rfl; have hcz104_4 : w102.cell? ⟨gb493, 4, none⟩ = some (.int .i64 t490) := (blk_cell BK493.out 4).trans rfl; have hcz104_5 : w102.cell? ⟨gb493, 5, none⟩ = some (.int .i64 t491) := (blk_cell BK493.out 5).trans rfl; have hcz104_6 : w102.cell? ⟨gb493, 6, none⟩ = some (.int .i64 t492) := (blk_cell BK493.out 6).trans rfl; have hfz104_0 := blk_frozen BK493.out 0; have hfz104_1 := blk_frozen BK493.out 1; have hfz104_2 := blk_frozen BK493.out 2; have hfz104_3 := blk_frozen BK493.out 3; have hfz104_4 := blk_frozen BK493.out 4; have hfz104_5 := blk_frozen BK493.out 5; have hfz104_6 := blk_frozen BK493.out 6; have hcz105_0 : w102.cell? ⟨gb481, 0, none⟩ = some (.bool false) := (blk_cell BK481.out 0).trans rfl; have hcz105_1 : w102.cell? ⟨gb481, 1, none⟩ = some (.bool false) := (blk_cell BK481.out 1).trans rfl; have hcz105_2 : w102.cell? ⟨gb481, 2, none⟩ = some (.slice none 0 0) := (blk_cell BK481.out 2).trans rfl; have hcz105_3 : w102.cell? ⟨gb481, 3, none⟩ = some (.slice none 0 0) := (blk_cell BK481.out 3).trans rfl; have hcz105_4 : w102.cell? ⟨gb481, 4, none⟩ = some (.int .i64 0) := (blk_cell BK481.out 4).trans rfl; have hcz105_5 : w102.cell? ⟨gb481, 5, none⟩ = some (.int .i64 0) := (blk_cell BK481.out 5).trans rfl; have hcz105_6 : w102.cell? ⟨gb481, 6, none⟩ = some (.int .i64 0) := (blk_cell BK481.out 6).trans rfl; have hfz105_0 := blk_frozen BK481.out 0; have hfz105_1 := blk_frozen BK481.out 1; have hfz105_2 := blk_frozen BK481.out 2; have hfz105_3 := blk_frozen BK481.out 3; have hfz105_4 := blk_frozen BK481.out 4; have hfz105_5 := blk_frozen BK481.out 5; have hfz105_6 := blk_frozen BK481.out 6))
                              refine bodyPost_ret (results_ct rfl _ _ gb481 27 #[.bool t482, .bool t483, .slice Ao103 y498.length co103, .slice Ao15 t487.length co15, .int .i64 t490, .int .i64 t491, .int .i64 t492] (0, 0) _ rfl (by (with_reducible repeat (first | refine blk_drewN ?_ _ | refine blk_drew ?_ | refine blk_alloc ?_ _)); refine blk_put (cs := #[.bool t482, .bool t483, .slice Ao103 y498.length co103, .slice Ao15 t487.length co15, .int .i64 t490, .int .i64 t491, .int .i64 0]) ?_ 6 _ rfl; (with_reducible repeat (first | refine blk_drewN ?_ _ | refine blk_drew ?_ | refine blk_alloc ?_ _)); refine blk_put (cs := #[.bool t482, .bool t483, .slice Ao103 y498.length co103, .slice Ao15 t487.length co15, .int .i64 t490, .int .i64 0, .int .i64 0]) ?_ 5 _ rfl; (with_reducible repeat (first | refine blk_drewN ?_ _ | refine blk_drew ?_ | refine blk_alloc ?_ _)); refine blk_put (cs := #[.bool t482, .bool t483, .slice Ao103 y498.length co103, .slice Ao15 t487.length co15, .int .i64 0, .int .i64 0, .int .i64 0]) ?_ 4 _ rfl; (with_reducible repeat (first | refine blk_drewN ?_ _ | refine blk_drew ?_ | refine blk_alloc ?_ _)); refine blk_put (cs := #[.bool t482, .bool t483, .slice Ao103 y498.length co103, .slice none 0 0, .int .i64 0, .int .i64 0, .int .i64 0]) ?_ 3 _ rfl; (with_reducible repeat (first | refine blk_drewN ?_ _ | refine blk_drew ?_ | refine blk_alloc ?_ _)); refine blk_put (cs := #[.bool t482, .bool t483, .slice none 0 0, .slice none 0 0, .int .i64 0, .int .i64 0, .int .i64 0]) ?_ 2 _ rfl; (with_reducible repeat (first | refine blk_drewN ?_ _ | refine blk_drew ?_ | refine blk_alloc ?_ _)); refine blk_put (cs := #[.bool t482, .bool false, .slice none 0 0, .slice none 0 0, .int .i64 0, .int .i64 0, .int .i64 0]) ?_ 1 _ rfl; (with_reducible repeat (first | refine blk_drewN ?_ _ | refine blk_drew ?_ | refine blk_alloc ?_ _)); refine blk_put (cs := #[.bool false, .bool false, .slice none 0 0, .slice none 0 0, .int .i64 0, .int .i64 0, .int .i64 0]) ?_ 0 _ rfl; (with_reducible repeat (first | refine blk_drewN ?_ _ | refine blk_drew ?_ | refine blk_alloc ?_ _)); refine blk_far ?_ NB481_493.out _; (with_reducible repeat (first | refine blk_drewN ?_ _ | refine blk_drew ?_ | refine blk_alloc ?_ _)); exact BK481.out) Try.underlying27 rfl (by kernel_rfl)) rfl ?_
                              exact ⟨_, _, by first | rfl | (simp [errW_none, errW_some] <;> rfl) | (simp [*, errW_none, errW_some] <;> rfl), by (with_reducible repeat (first | apply Kd.R_alloc | apply Kd.R_drewN | apply Kd.R_drew)); exact Kd.R_mono (Kd.R_far (p := ⟨gb481, 6, none⟩) (Kd.R_far (p := ⟨gb481, 5, none⟩) (Kd.R_far (p := ⟨gb481, 4, none⟩) (Kd.R_far (p := ⟨gb481, 3, none⟩) (Kd.R_far (p := ⟨gb481, 2, none⟩) (Kd.R_far (p := ⟨gb481, 1, none⟩) (Kd.R_far (p := ⟨gb481, 0, none⟩) (Kd.R_far (p := ⟨gb493, 2, none⟩) (Kd.R_types (Kd.R_types HO500.out BK493.out (by decide)) BK481.out (by decide)) (fun _ hk => hk.1.2) (.slice Ao103 y498.length co103)) (fun _ hk => hk.2) (.bool t482)) (fun _ hk => hk.2) (.bool t483)) (fun _ hk => hk.2) (.slice Ao103 y498.length co103)) (fun _ hk => hk.2) (.slice Ao15 t487.length co15)) (fun _ hk => hk.2) (.int .i64 t490)) (fun _ hk => hk.2) (.int .i64 t491)) (fun _ hk => hk.2) (.int .i64 t492)) (fun _ hk => hk.1.1), by (with_reducible repeat (first | apply Kd.R_alloc | apply Kd.R_drewN | apply Kd.R_drew)); exact Kd.R_mono (Kd.R_far (p := ⟨gb481, 6, none⟩) (Kd.R_far (p := ⟨gb481, 5, none⟩) (Kd.R_far (p := ⟨gb481, 4, none⟩) (Kd.R_far (p := ⟨gb481, 3, none⟩) (Kd.R_far (p := ⟨gb481, 2, none⟩) (Kd.R_far (p := ⟨gb481, 1, none⟩) (Kd.R_far (p := ⟨gb481, 0, none⟩) (Kd.R_far (p := ⟨gb493, 2, none⟩) (Kd.R_types (Kd.R_types HO_494003.out BK493.out (by decide)) BK481.out (by decide)) (fun _ hk => hk.1.2) (.slice Ao103 y498.length co103)) (fun _ hk => hk.2) (.bool t482)) (fun _ hk => hk.2) (.bool t483)) (fun _ hk => hk.2) (.slice Ao103 y498.length co103)) (fun _ hk => hk.2) (.slice Ao15 t487.length co15)) (fun _ hk => hk.2) (.int .i64 t490)) (fun _ hk => hk.2) (.int .i64 t491)) (fun _ hk => hk.2) (.int .i64 t492)) (fun _ hk => hk.1.1.2), by repeat (first | (with_reducible first | exact HB.out | apply below_alloc | apply pw_below_drewN | apply below_drew1 | refine below_set ?_ GE480.out | refine below_set ?_ GE481.out | refine below_set ?_ GE493.out) | exact HB.out)⟩
                            · rw [if_neg c96] at H
                              exact absurd H (by simp)
end Go.Proofs.Ytdagpmnadapbjaa.Z
