import Derived.Test.YtffcphplnilokaaZx0
import Derived.Test.YtffcphplnilokaaZx17
import Derived.Test.YtffcphplnilokaaZx19
import Derived.Test.YtffcphplnilokaaZx22
import Derived.Test.YtffcphplnilokaaZx29
import Derived.Test.YtffcphplnilokaaZx30
import Derived.Test.YtffcphplnilokaaZx33
import Derived.Test.YtffcphplnilokaaZx34
namespace Go.Proofs.Ytffcphplnilokaa.Z
open Go.RowKit Go.Proofs.YtffcphplnilokaaW.PrintWords Go.Proofs.YtffcphplnilokaaW.PrintLast Go.Proofs.YtffcphplnilokaaW.PrintMore
attribute [local go_sem] max2_int min2_int max_two min_two max_three min_three max_four min_four   -- for this text's walks alone
set_option linter.unusedVariables false
set_option linter.unusedSimpArgs false
mutual
def laws_FnExactQuitLatch.j0 : Nat → Int → Int → Int → Bool → Int → List Int → List Int → Int → List Int → List Int → Int → List Int → List Int → Int → List Int → List Int → Option (Bool)
  | 0, _, _, _, _, _, _, _, _, _, _, _, _, _, _, _, _ => none
  | k + 1, x1, x7, x10, x44, x670000, x670001, x670002, x687000, x687001, x687002, x695000, x695001, x695002, x704000, x704001, x704002 => if x44 = true then (some false) else ((laws_toLatch.f k x670000 x670001 x670002).bind fun bt705 => ((laws_eqLatch.f k x695000 x695001 x695002 bt705.1 bt705.2.1 bt705.2.2).bind fun t712 => (if t712 = true then ((laws_markLatch.f k x695000 x695001 x695002 1).bind fun bt713 => (if bt713.1 < 0 then (laws_FnExactQuitLatch.j1 k x1 x7 true x670000 x670001 x670002 x687000 x687001 x687002 x704000 x704001 x704002) else ((laws_eqLatch.f k x704000 x704001 x704002 x687000 x687001 x687002).bind fun t716 => (if t716 = true then (laws_FnExactQuitLatch.j1 k x1 x7 (x10 != x7) x670000 x670001 x670002 x687000 x687001 x687002 x704000 x704001 x704002) else (laws_FnExactQuitLatch.j1 k x1 x7 true x670000 x670001 x670002 x687000 x687001 x687002 x704000 x704001 x704002))))) else (some false))))
def laws_FnExactQuitLatch.j1 : Nat → Int → Int → Bool → Int → List Int → List Int → Int → List Int → List Int → Int → List Int → List Int → Option (Bool)
  | 0, _, _, _, _, _, _, _, _, _, _, _, _ => none
  | k + 1, x1, x7, x65, x670000, x670001, x670002, x687000, x687001, x687002, x704000, x704001, x704002 => if x65 = true then (some false) else ((laws_markLatch.f k x704000 x704001 x704002 1).bind fun bt717 => ((laws_heldLatch.f k x704000 bt717.2.1 bt717.2.2 1).bind fun t720 => (if t720 < 0 then (some false) else (if t720 = bt717.1 then ((laws_toLatch.f k x670000 x670001 x670002).bind fun bt721 => ((impl_QuitLatch.f k bt721.1 bt721.2.1 bt721.2.2 x1).bind fun bt728 => ((laws_eqLatch.f k bt728.1 bt728.2.1 bt728.2.2.1 x687000 x687001 x687002).bind fun t737 => (if t737 = true then (laws_FnExactQuitLatch.j2 k bt717.1 (bt728.2.2.2 != x7) x704000 bt717.2.1 bt717.2.2) else (laws_FnExactQuitLatch.j2 k bt717.1 true x704000 bt717.2.1 bt717.2.2))))) else (some false)))))
def laws_FnExactQuitLatch.j2 : Nat → Int → Bool → Int → List Int → List Int → Option (Bool)
  | 0, _, _, _, _, _ => none
  | k + 1, x12, x92, x704000, x704001, x704002 => if x92 = true then (some false) else ((laws_heldLatch.f k x704000 x704001 x704002 1).bind fun t738 => (if t738 < 0 then (some false) else (if t738 = x12 then (some true) else (some false))))
end
def laws_FnExactQuitLatch.f (k : Nat) (a0_0 : Int) (l0_1 : List Int) (l0_2 : List Int) (a1 : Int) : Option (Bool) := (laws_szLatch.f a0_0 l0_1 l0_2 1048576).bind fun t670 => (if t670 < 0 then (some true) else ((laws_toLatch.f k a0_0 l0_1 l0_2).bind fun bt671 => ((spec_QuitLatch.f k bt671.1 bt671.2.1 bt671.2.2 a1).bind fun bt678 => ((laws_toLatch.f k a0_0 l0_1 l0_2).bind fun bt687 => ((impl_QuitLatch.f k bt687.1 bt687.2.1 bt687.2.2 a1).bind fun bt695 => ((laws_eqLatch.f k bt695.1 bt695.2.1 bt695.2.2.1 bt678.1 bt678.2.1 bt678.2.2.1).bind fun t704 => (if t704 = true then (laws_FnExactQuitLatch.j0 k a1 bt678.2.2.2 bt695.2.2.2 (bt695.2.2.2 != bt678.2.2.2) a0_0 l0_1 l0_2 bt678.1 bt678.2.1 bt678.2.2.1 bt687.1 bt687.2.1 bt687.2.2 bt695.1 bt695.2.1 bt695.2.2.1) else (laws_FnExactQuitLatch.j0 k a1 bt678.2.2.2 bt695.2.2.2 true a0_0 l0_1 l0_2 bt678.1 bt678.2.1 bt678.2.2.1 bt687.1 bt687.2.1 bt687.2.2 bt695.1 bt695.2.1 bt695.2.2.1))))))))
theorem laws_FnExactQuitLatch.mono_l : ∀ k, (∀ y0 y1 y2 y3 y4 y5 y6 y7 y8 y9 y10 y11 y12 y13 y14 y15, LeO (laws_FnExactQuitLatch.j0 k y0 y1 y2 y3 y4 y5 y6 y7 y8 y9 y10 y11 y12 y13 y14 y15) (laws_FnExactQuitLatch.j0 (k + 1) y0 y1 y2 y3 y4 y5 y6 y7 y8 y9 y10 y11 y12 y13 y14 y15)) ∧ (∀ y0 y1 y2 y3 y4 y5 y6 y7 y8 y9 y10 y11, LeO (laws_FnExactQuitLatch.j1 k y0 y1 y2 y3 y4 y5 y6 y7 y8 y9 y10 y11) (laws_FnExactQuitLatch.j1 (k + 1) y0 y1 y2 y3 y4 y5 y6 y7 y8 y9 y10 y11)) ∧ (∀ y0 y1 y2 y3 y4, LeO (laws_FnExactQuitLatch.j2 k y0 y1 y2 y3 y4) (laws_FnExactQuitLatch.j2 (k + 1) y0 y1 y2 y3 y4))
  | 0 => ⟨fun _ _ _ _ _ _ _ _ _ _ _ _ _ _ _ _ r h => by simp [laws_FnExactQuitLatch.j0] at h, fun _ _ _ _ _ _ _ _ _ _ _ _ r h => by simp [laws_FnExactQuitLatch.j1] at h, fun _ _ _ _ _ r h => by simp [laws_FnExactQuitLatch.j2] at h⟩
  | k + 1 => by
    obtain ⟨ih0, ih1, ih2⟩ := laws_FnExactQuitLatch.mono_l k
    refine ⟨?_, ?_, ?_⟩
    · intro y0 y1 y2 y3 y4 y5 y6 y7 y8 y9 y10 y11 y12 y13 y14 y15
      unfold laws_FnExactQuitLatch.j0
      repeat' first
      | (with_reducible exact ih0 _ _ _ _ _ _ _ _ _ _ _ _ _ _ _ _)
      | (with_reducible exact ih1 _ _ _ _ _ _ _ _ _ _ _ _)
      | (with_reducible exact ih2 _ _ _ _ _)
      | (with_reducible exact impl_QuitLatch.mono _ _ _ _ _)
      | (with_reducible exact laws_eqLatch.mono _ _ _ _ _ _ _)
      | (with_reducible exact laws_heldLatch.mono _ _ _ _ _)
      | (with_reducible exact laws_markLatch.mono _ _ _ _ _)
      | (with_reducible exact laws_toLatch.mono _ _ _ _)
      | (with_reducible exact spec_QuitLatch.mono _ _ _ _ _)
      | (with_reducible exact LeO.refl _)
      | (with_reducible exact LeO.none _)
      | (with_reducible refine LeO.ite ?_ ?_)
      | (with_reducible refine LeO.bind ?_ (fun _ => ?_))
      | exact ih0 _ _ _ _ _ _ _ _ _ _ _ _ _ _ _ _
      | exact ih1 _ _ _ _ _ _ _ _ _ _ _ _
      | exact ih2 _ _ _ _ _
      | exact impl_QuitLatch.mono _ _ _ _ _
      | exact laws_eqLatch.mono _ _ _ _ _ _ _
      | exact laws_heldLatch.mono _ _ _ _ _
      | exact laws_markLatch.mono _ _ _ _ _
      | exact laws_toLatch.mono _ _ _ _
      | exact spec_QuitLatch.mono _ _ _ _ _
      | exact LeO.none _
      | refine LeO.ite ?_ ?_
      | refine LeO.bind ?_ (fun _ => ?_)
    · intro y0 y1 y2 y3 y4 y5 y6 y7 y8 y9 y10 y11
      unfold laws_FnExactQuitLatch.j1
      repeat' first
      | (with_reducible exact ih0 _ _ _ _ _ _ _ _ _ _ _ _ _ _ _ _)
      | (with_reducible exact ih1 _ _ _ _ _ _ _ _ _ _ _ _)
      | (with_reducible exact ih2 _ _ _ _ _)
      | (with_reducible exact impl_QuitLatch.mono _ _ _ _ _)
      | (with_reducible exact laws_eqLatch.mono _ _ _ _ _ _ _)
      | (with_reducible exact laws_heldLatch.mono _ _ _ _ _)
      | (with_reducible exact laws_markLatch.mono _ _ _ _ _)
      | (with_reducible exact laws_toLatch.mono _ _ _ _)
      | (with_reducible exact spec_QuitLatch.mono _ _ _ _ _)
      | (with_reducible exact LeO.refl _)
      | (with_reducible exact LeO.none _)
      | (with_reducible refine LeO.ite ?_ ?_)
      | (with_reducible refine LeO.bind ?_ (fun _ => ?_))
      | exact ih0 _ _ _ _ _ _ _ _ _ _ _ _ _ _ _ _
      | exact ih1 _ _ _ _ _ _ _ _ _ _ _ _
      | exact ih2 _ _ _ _ _
      | exact impl_QuitLatch.mono _ _ _ _ _
      | exact laws_eqLatch.mono _ _ _ _ _ _ _
      | exact laws_heldLatch.mono _ _ _ _ _
      | exact laws_markLatch.mono _ _ _ _ _
      | exact laws_toLatch.mono _ _ _ _
      | exact spec_QuitLatch.mono _ _ _ _ _
      | exact LeO.none _
      | refine LeO.ite ?_ ?_
      | refine LeO.bind ?_ (fun _ => ?_)
    · intro y0 y1 y2 y3 y4
      unfold laws_FnExactQuitLatch.j2
      repeat' first
      | (with_reducible exact ih0 _ _ _ _ _ _ _ _ _ _ _ _ _ _ _ _)
      | (with_reducible exact ih1 _ _ _ _ _ _ _ _ _ _ _ _)
      | (with_reducible exact ih2 _ _ _ _ _)
      | (with_reducible exact impl_QuitLatch.mono _ _ _ _ _)
      | (with_reducible exact laws_eqLatch.mono _ _ _ _ _ _ _)
      | (with_reducible exact laws_heldLatch.mono _ _ _ _ _)
      | (with_reducible exact laws_markLatch.mono _ _ _ _ _)
      | (with_reducible exact laws_toLatch.mono _ _ _ _)
      | (with_reducible exact spec_QuitLatch.mono _ _ _ _ _)
      | (with_reducible exact LeO.refl _)
      | (with_reducible exact LeO.none _)
      | (with_reducible refine LeO.ite ?_ ?_)
      | (with_reducible refine LeO.bind ?_ (fun _ => ?_))
      | exact ih0 _ _ _ _ _ _ _ _ _ _ _ _ _ _ _ _
      | exact ih1 _ _ _ _ _ _ _ _ _ _ _ _
      | exact ih2 _ _ _ _ _
      | exact impl_QuitLatch.mono _ _ _ _ _
      | exact laws_eqLatch.mono _ _ _ _ _ _ _
      | exact laws_heldLatch.mono _ _ _ _ _
      | exact laws_markLatch.mono _ _ _ _ _
      | exact laws_toLatch.mono _ _ _ _
      | exact spec_QuitLatch.mono _ _ _ _ _
      | exact LeO.none _
      | refine LeO.ite ?_ ?_
      | refine LeO.bind ?_ (fun _ => ?_)
theorem laws_FnExactQuitLatch.mono : ∀ a0 a1 a2 a3 k, LeO (laws_FnExactQuitLatch.f k a0 a1 a2 a3) (laws_FnExactQuitLatch.f (k + 1) a0 a1 a2 a3) := by
  intro a0 a1 a2 a3 k
  obtain ⟨ih0, ih1, ih2⟩ := laws_FnExactQuitLatch.mono_l k
  unfold laws_FnExactQuitLatch.f
  repeat' first
      | (with_reducible exact ih0 _ _ _ _ _ _ _ _ _ _ _ _ _ _ _ _)
      | (with_reducible exact ih1 _ _ _ _ _ _ _ _ _ _ _ _)
      | (with_reducible exact ih2 _ _ _ _ _)
      | (with_reducible exact impl_QuitLatch.mono _ _ _ _ _)
      | (with_reducible exact laws_eqLatch.mono _ _ _ _ _ _ _)
      | (with_reducible exact laws_heldLatch.mono _ _ _ _ _)
      | (with_reducible exact laws_markLatch.mono _ _ _ _ _)
      | (with_reducible exact laws_toLatch.mono _ _ _ _)
      | (with_reducible exact spec_QuitLatch.mono _ _ _ _ _)
      | (with_reducible exact LeO.refl _)
      | (with_reducible exact LeO.none _)
      | (with_reducible refine LeO.ite ?_ ?_)
      | (with_reducible refine LeO.bind ?_ (fun _ => ?_))
      | exact ih0 _ _ _ _ _ _ _ _ _ _ _ _ _ _ _ _
      | exact ih1 _ _ _ _ _ _ _ _ _ _ _ _
      | exact ih2 _ _ _ _ _
      | exact impl_QuitLatch.mono _ _ _ _ _
      | exact laws_eqLatch.mono _ _ _ _ _ _ _
      | exact laws_heldLatch.mono _ _ _ _ _
      | exact laws_markLatch.mono _ _ _ _ _
      | exact laws_toLatch.mono _ _ _ _
      | exact spec_QuitLatch.mono _ _ _ _ _
      | exact LeO.none _
      | refine LeO.ite ?_ ?_
      | refine LeO.bind ?_ (fun _ => ?_)
set_option maxHeartbeats 8000000 in
set_option maxRecDepth 100000 in
theorem laws_FnExactQuitLatch.calls (k : Nat) (a0_0 : Int) (A0_1 : Option Addr) (c0_1 : Nat) (l0_1 : List Int) (A0_2 : Option Addr) (c0_2 : Nat) (l0_2 : List Int) (a1 : Int) (r : Bool) (w : World) (hr0_1 : Kd.C (Kd.int .i64) w A0_1 l0_1.length l0_1) (hc0_1 : l0_1.length ≤ c0_1) (hr0_2 : Kd.C (Kd.int .i64) w A0_2 l0_2.length l0_2) (hc0_2 : l0_2.length ≤ c0_2) (HQ_ : Aside0 (r = true)) (h : laws_FnExactQuitLatch.f k a0_0 l0_1 l0_2 a1 = some r) :
    Calls Try.prog 9 #[.agg #[.int .i64 a0_0, .slice A0_1 l0_1.length c0_1, .slice A0_2 l0_2.length c0_2], .int .i64 a1] w fun e w' => e = .returned (.bool r) ∧ Below w.heap.size w w' := by
  have hu43 := Try.underlying43
  have hu46 := Try.underlying46
  have HR0_1 := Aside0.mk hr0_1
  have HC0_1 := Aside0.mk hc0_1
  clear hr0_1 hc0_1
  have HR0_2 := Aside0.mk hr0_2
  have HC0_2 := Aside0.mk hc0_2
  clear hr0_2 hc0_2
  have HB := Aside0.mk (Below.refl w.heap.size w)
  have H : ((laws_szLatch.f a0_0 l0_1 l0_2 1048576).bind fun t670 => (if t670 < 0 then (some true) else ((laws_toLatch.f k a0_0 l0_1 l0_2).bind fun bt671 => ((spec_QuitLatch.f k bt671.1 bt671.2.1 bt671.2.2 a1).bind fun bt678 => ((laws_toLatch.f k a0_0 l0_1 l0_2).bind fun bt687 => ((impl_QuitLatch.f k bt687.1 bt687.2.1 bt687.2.2 a1).bind fun bt695 => ((laws_eqLatch.f k bt695.1 bt695.2.1 bt695.2.2.1 bt678.1 bt678.2.1 bt678.2.2.1).bind fun t704 => (if t704 = true then (laws_FnExactQuitLatch.j0 k a1 bt678.2.2.2 bt695.2.2.2 (bt695.2.2.2 != bt678.2.2.2) a0_0 l0_1 l0_2 bt678.1 bt678.2.1 bt678.2.2.1 bt687.1 bt687.2.1 bt687.2.2 bt695.1 bt695.2.1 bt695.2.2.1) else (laws_FnExactQuitLatch.j0 k a1 bt678.2.2.2 bt695.2.2.2 true a0_0 l0_1 l0_2 bt678.1 bt678.2.1 bt678.2.2.1 bt687.1 bt687.2.1 bt687.2.2 bt695.1 bt695.2.1 bt695.2.2.1))))))))) = some r := h
  clear h
  replace H := Option.bind_eq_some_iff.mp H
  obtain ⟨t670, A30, H⟩ := H
  replace H : (if t670 < 0 then (some true) else ((laws_toLatch.f k a0_0 l0_1 l0_2).bind fun bt671 => ((spec_QuitLatch.f k bt671.1 bt671.2.1 bt671.2.2 a1).bind fun bt678 => ((laws_toLatch.f k a0_0 l0_1 l0_2).bind fun bt687 => ((impl_QuitLatch.f k bt687.1 bt687.2.1 bt687.2.2 a1).bind fun bt695 => ((laws_eqLatch.f k bt695.1 bt695.2.1 bt695.2.2.1 bt678.1 bt678.2.1 bt678.2.2.1).bind fun t704 => (if t704 = true then (laws_FnExactQuitLatch.j0 k a1 bt678.2.2.2 bt695.2.2.2 (bt695.2.2.2 != bt678.2.2.2) a0_0 l0_1 l0_2 bt678.1 bt678.2.1 bt678.2.2.1 bt687.1 bt687.2.1 bt687.2.2 bt695.1 bt695.2.1 bt695.2.2.1) else (laws_FnExactQuitLatch.j0 k a1 bt678.2.2.2 bt695.2.2.2 true a0_0 l0_1 l0_2 bt678.1 bt678.2.1 bt678.2.2.1 bt687.1 bt687.2.1 bt687.2.2 bt695.1 bt695.2.1 bt695.2.2.1)))))))) = some r := H
  have A3 := Aside0.mk A30
  clear A30
  by_cases c4 : t670 < 0
  · rw [if_pos c4] at H
    have c4b0 : decide (t670 < 0) = true := decide_eq_true c4
    clear c4
    obtain rfl := Option.some.inj H
    go_enter Try.func9, Try.ntmps9
    go_wp2_with (first | ((with_reducible refine gate_dst (N := 2) rfl ?_); refine box_event ?hg (N := 2) ?hd (cs := #[.int .i64 a0_0, .slice A0_1 l0_1.length c0_1, .slice A0_2 l0_2.length c0_2]) (t := 43) ?hr ?_; (case hd => rfl); (case hg => rfl); (case hr => first | (go_simp; done) | (go_simp; rfl)); intro gb669 hg w5 hbox hb; have n0_ := Aside0.mk (below_step (pkB HB.out) hb); have n1_ := Aside0.mk (hbox); have n2_ := Aside0.mk ((by rw [hg]; exact (below_size (pkB HB.out)) : w.heap.size ≤ gb669)); have n3_ := Aside0.mk ((by rw [hg]; exact (below_size (pkB HB.out)) : w.heap.size ≤ gb669)); clear HB; have HB := n0_; have BK669 := n1_; have GW669 := n2_; have GE669 := n3_; clear n0_ n1_ n2_ n3_; clear hb hbox hg; have hcz6_0 : w5.cell? ⟨gb669, 0, none⟩ = some (.int .i64 a0_0) := (blk_cell BK669.out 0).trans rfl; have hcz6_1 : w5.cell? ⟨gb669, 1, none⟩ = some (.slice A0_1 l0_1.length c0_1) := (blk_cell BK669.out 1).trans rfl; have hcz6_2 : w5.cell? ⟨gb669, 2, none⟩ = some (.slice A0_2 l0_2.length c0_2) := (blk_cell BK669.out 2).trans rfl; have hfz6_0 := blk_frozen BK669.out 0; have hfz6_1 := blk_frozen BK669.out 1; have hfz6_2 := blk_frozen BK669.out 2) | ((with_reducible refine gate_callee (f := 23) rfl ?_); refine goesL_ (some 18) rfl rfl Try.func23 (by kernel_rfl) rfl #[.agg #[.int .i64 a0_0, .slice A0_1 l0_1.length c0_1, .slice A0_2 l0_2.length c0_2], .int .i64 1048576] rfl (by (try simp only [List.map_toArray, List.map_cons, List.map_nil]); first | done | rfl | (simp only [List.length_drop, List.length_take]; rfl) | (go_simp; done) | (simp [*]; done)) ?_; (with_reducible refine (laws_szLatch.calls a0_0 _ _ l0_1 _ _ l0_2 1048576 t670 _ ?side1 ?side2 ?side3 ?side4 A3.out).mono ?_); (case side1 => exact pkC (Kd.C_below HR0_1.out HB.out)); (case side2 => exact HC0_1.out); (case side3 => exact pkC (Kd.C_below HR0_2.out HB.out)); (case side4 => exact HC0_2.out); rintro e w7 ⟨rfl, hb⟩; refine ⟨_, rfl, ?_⟩; have n0_ := Aside0.mk (blk_below (g := gb669) (o := .cells #[.int .i64 a0_0, .slice A0_1 l0_1.length c0_1, .slice A0_2 l0_2.length c0_2] 43 (0, 0)) (pkK BK669.out) hb); have n1_ := Aside0.mk (below_step (by repeat (first | (with_reducible first | exact HB.out | apply below_alloc | apply pw_below_drewN | apply below_drew1 | refine below_set ?_ GE669.out) | exact HB.out)) hb); clear BK669 HB; have BK669 := n0_; have HB := n1_; clear n0_ n1_; (try clear hb); (try clear hb2); (try clear hk); (try clear hi)))
    go_ret
    exact ⟨by first | rfl | (simp [errW_none, errW_some] <;> rfl) | (simp [*, errW_none, errW_some] <;> rfl), by repeat (first | (with_reducible first | exact HB.out | apply below_alloc | apply pw_below_drewN | apply below_drew1 | refine below_set ?_ GE669.out) | exact HB.out)⟩
  · rw [if_neg c4] at H
    have c4b0 : decide (t670 < 0) = false := decide_eq_false c4
    clear c4
    replace H := Option.bind_eq_some_iff.mp H
    obtain ⟨⟨t671, t672, t675⟩, A80, H⟩ := H
    replace H : ((spec_QuitLatch.f k t671 t672 t675 a1).bind fun bt678 => ((laws_toLatch.f k a0_0 l0_1 l0_2).bind fun bt687 => ((impl_QuitLatch.f k bt687.1 bt687.2.1 bt687.2.2 a1).bind fun bt695 => ((laws_eqLatch.f k bt695.1 bt695.2.1 bt695.2.2.1 bt678.1 bt678.2.1 bt678.2.2.1).bind fun t704 => (if t704 = true then (laws_FnExactQuitLatch.j0 k a1 bt678.2.2.2 bt695.2.2.2 (bt695.2.2.2 != bt678.2.2.2) a0_0 l0_1 l0_2 bt678.1 bt678.2.1 bt678.2.2.1 bt687.1 bt687.2.1 bt687.2.2 bt695.1 bt695.2.1 bt695.2.2.1) else (laws_FnExactQuitLatch.j0 k a1 bt678.2.2.2 bt695.2.2.2 true a0_0 l0_1 l0_2 bt678.1 bt678.2.1 bt678.2.2.1 bt687.1 bt687.2.1 bt687.2.2 bt695.1 bt695.2.1 bt695.2.2.1)))))) = some r := H
    have A8 := Aside0.mk A80
    clear A80
    replace H := Option.bind_eq_some_iff.mp H
    obtain ⟨⟨t678, t679, t682, t685⟩, A90, H⟩ := H
    replace H : ((laws_toLatch.f k a0_0 l0_1 l0_2).bind fun bt687 => ((impl_QuitLatch.f k bt687.1 bt687.2.1 bt687.2.2 a1).bind fun bt695 => ((laws_eqLatch.f k bt695.1 bt695.2.1 bt695.2.2.1 t678 t679 t682).bind fun t704 => (if t704 = true then (laws_FnExactQuitLatch.j0 k a1 t685 bt695.2.2.2 (bt695.2.2.2 != t685) a0_0 l0_1 l0_2 t678 t679 t682 bt687.1 bt687.2.1 bt687.2.2 bt695.1 bt695.2.1 bt695.2.2.1) else (laws_FnExactQuitLatch.j0 k a1 t685 bt695.2.2.2 true a0_0 l0_1 l0_2 t678 t679 t682 bt687.1 bt687.2.1 bt687.2.2 bt695.1 bt695.2.1 bt695.2.2.1))))) = some r := H
    have A9 := Aside0.mk A90
    clear A90
    replace H := Option.bind_eq_some_iff.mp H
    obtain ⟨⟨t687, t688, t691⟩, A100, H⟩ := H
    replace H : ((impl_QuitLatch.f k t687 t688 t691 a1).bind fun bt695 => ((laws_eqLatch.f k bt695.1 bt695.2.1 bt695.2.2.1 t678 t679 t682).bind fun t704 => (if t704 = true then (laws_FnExactQuitLatch.j0 k a1 t685 bt695.2.2.2 (bt695.2.2.2 != t685) a0_0 l0_1 l0_2 t678 t679 t682 t687 t688 t691 bt695.1 bt695.2.1 bt695.2.2.1) else (laws_FnExactQuitLatch.j0 k a1 t685 bt695.2.2.2 true a0_0 l0_1 l0_2 t678 t679 t682 t687 t688 t691 bt695.1 bt695.2.1 bt695.2.2.1)))) = some r := H
    have A10 := Aside0.mk A100
    clear A100
    replace H := Option.bind_eq_some_iff.mp H
    obtain ⟨⟨t695, t696, t699, t702⟩, A110, H⟩ := H
    replace H : ((laws_eqLatch.f k t695 t696 t699 t678 t679 t682).bind fun t704 => (if t704 = true then (laws_FnExactQuitLatch.j0 k a1 t685 t702 (t702 != t685) a0_0 l0_1 l0_2 t678 t679 t682 t687 t688 t691 t695 t696 t699) else (laws_FnExactQuitLatch.j0 k a1 t685 t702 true a0_0 l0_1 l0_2 t678 t679 t682 t687 t688 t691 t695 t696 t699))) = some r := H
    have A11 := Aside0.mk A110
    clear A110
    have HC12 := Aside0.mk H
    clear H
    go_enter Try.func9, Try.ntmps9
    go_upto_region 8 with (first | ((with_reducible refine gate_dst (N := 2) rfl ?_); refine box_event ?hg (N := 2) ?hd (cs := #[.int .i64 a0_0, .slice A0_1 l0_1.length c0_1, .slice A0_2 l0_2.length c0_2]) (t := 43) ?hr ?_; (case hd => rfl); (case hg => rfl); (case hr => first | (go_simp; done) | (go_simp; rfl)); intro gb669 hg w13 hbox hb; have n0_ := Aside0.mk (below_step (pkB HB.out) hb); have n1_ := Aside0.mk (hbox); have n2_ := Aside0.mk ((by rw [hg]; exact (below_size (pkB HB.out)) : w.heap.size ≤ gb669)); have n3_ := Aside0.mk ((by rw [hg]; exact (below_size (pkB HB.out)) : w.heap.size ≤ gb669)); clear HB; have HB := n0_; have BK669 := n1_; have GW669 := n2_; have GE669 := n3_; clear n0_ n1_ n2_ n3_; clear hb hbox hg; have hcz14_0 : w13.cell? ⟨gb669, 0, none⟩ = some (.int .i64 a0_0) := (blk_cell BK669.out 0).trans rfl; have hcz14_1 : w13.cell? ⟨gb669, 1, none⟩ = some (.slice A0_1 l0_1.length c0_1) := (blk_cell BK669.out 1).trans rfl; have hcz14_2 : w13.cell? ⟨gb669, 2, none⟩ = some (.slice A0_2 l0_2.length c0_2) := (blk_cell BK669.out 2).trans rfl; have hfz14_0 := blk_frozen BK669.out 0; have hfz14_1 := blk_frozen BK669.out 1; have hfz14_2 := blk_frozen BK669.out 2) | ((with_reducible refine gate_callee (f := 23) rfl ?_); refine goesL_ (some 18) rfl rfl Try.func23 (by kernel_rfl) rfl #[.agg #[.int .i64 a0_0, .slice A0_1 l0_1.length c0_1, .slice A0_2 l0_2.length c0_2], .int .i64 1048576] rfl (by (try simp only [List.map_toArray, List.map_cons, List.map_nil]); first | done | rfl | (simp only [List.length_drop, List.length_take]; rfl) | (go_simp; done) | (simp [*]; done)) ?_; (with_reducible refine (laws_szLatch.calls a0_0 _ _ l0_1 _ _ l0_2 1048576 t670 _ ?side1 ?side2 ?side3 ?side4 A3.out).mono ?_); (case side1 => exact pkC (Kd.C_below HR0_1.out HB.out)); (case side2 => exact HC0_1.out); (case side3 => exact pkC (Kd.C_below HR0_2.out HB.out)); (case side4 => exact HC0_2.out); rintro e w15 ⟨rfl, hb⟩; refine ⟨_, rfl, ?_⟩; have n0_ := Aside0.mk (blk_below (g := gb669) (o := .cells #[.int .i64 a0_0, .slice A0_1 l0_1.length c0_1, .slice A0_2 l0_2.length c0_2] 43 (0, 0)) (pkK BK669.out) hb); have n1_ := Aside0.mk (below_step (by repeat (first | (with_reducible first | exact HB.out | apply below_alloc | apply pw_below_drewN | apply below_drew1 | refine below_set ?_ GE669.out) | exact HB.out)) hb); clear BK669 HB; have BK669 := n0_; have HB := n1_; clear n0_ n1_; (try clear hb); (try clear hb2); (try clear hk); (try clear hi); have hcz16_0 : w15.cell? ⟨gb669, 0, none⟩ = some (.int .i64 a0_0) := (blk_cell BK669.out 0).trans rfl; have hcz16_1 : w15.cell? ⟨gb669, 1, none⟩ = some (.slice A0_1 l0_1.length c0_1) := (blk_cell BK669.out 1).trans rfl; have hcz16_2 : w15.cell? ⟨gb669, 2, none⟩ = some (.slice A0_2 l0_2.length c0_2) := (blk_cell BK669.out 2).trans rfl; have hfz16_0 := blk_frozen BK669.out 0; have hfz16_1 := blk_frozen BK669.out 1; have hfz16_2 := blk_frozen BK669.out 2) | ((with_reducible refine gate_callee (f := 25) rfl ?_); refine goesL_ (some 23) rfl rfl Try.func25 (by kernel_rfl) rfl #[.agg #[.int .i64 a0_0, .slice A0_1 l0_1.length c0_1, .slice A0_2 l0_2.length c0_2]] rfl (by (try simp only [List.map_toArray, List.map_cons, List.map_nil]); first | done | rfl | (simp only [List.length_drop, List.length_take]; rfl) | (go_simp; done) | (simp [*]; done)) ?_; (with_reducible refine (laws_toLatch.calls k a0_0 _ _ l0_1 _ _ l0_2 t671 t672 t675 _ ?side1 ?side2 ?side3 ?side4 A8.out).mono ?_); (case side1 => exact pkC (Kd.C_below HR0_1.out HB.out)); (case side2 => exact HC0_1.out); (case side3 => exact pkC (Kd.C_below HR0_2.out HB.out)); (case side4 => exact HC0_2.out); rintro e w17 ⟨v673, v676, rfl, ho0, ho1, hb⟩; refine ⟨_, rfl, ?_⟩; have n0_ := Aside0.mk (Kd.R_lower ho0 (below_size (by repeat (first | (with_reducible first | exact HB.out | apply below_alloc | apply pw_below_drewN | apply below_drew1 | refine below_set ?_ GE669.out) | exact HB.out)))); have n1_ := Aside0.mk (Kd.R_lower ho1 (below_size (by repeat (first | (with_reducible first | exact HB.out | apply below_alloc | apply pw_below_drewN | apply below_drew1 | refine below_set ?_ GE669.out) | exact HB.out)))); have n2_ := Aside0.mk (blk_below (g := gb669) (o := .cells #[.int .i64 a0_0, .slice A0_1 l0_1.length c0_1, .slice A0_2 l0_2.length c0_2] 43 (0, 0)) (pkK BK669.out) hb); have n3_ := Aside0.mk (below_step (by repeat (first | (with_reducible first | exact HB.out | apply below_alloc | apply pw_below_drewN | apply below_drew1 | refine below_set ?_ GE669.out) | exact HB.out)) hb); clear BK669 HB; have HO674 := n0_; have HO677 := n1_; have BK669 := n2_; have HB := n3_; clear n0_ n1_ n2_ n3_; (try clear hb); (try clear hb2); (try clear hk); (try clear hi); (try clear ho0); (try clear ho1); obtain ⟨Ao18, co18, eo18⟩ := Kd.R_slice HO674.out; subst eo18; obtain ⟨Ao19, co19, eo19⟩ := Kd.R_slice HO677.out; subst eo19) | ((with_reducible refine gate_callee (f := 40) rfl ?_); refine goesL_ (some 25) rfl rfl Try.func40 (by kernel_rfl) rfl #[.agg #[.int .i64 t671, .slice Ao18 t672.length co18, .slice Ao19 t675.length co19], .int .i64 a1] rfl (by (try simp only [List.map_toArray, List.map_cons, List.map_nil]); first | done | rfl | (simp only [List.length_drop, List.length_take]; rfl) | (go_simp; done) | (simp [*]; done)) ?_; (with_reducible refine (spec_QuitLatch.calls k t671 _ _ t672 _ _ t675 a1 t678 t679 t682 t685 _ ?side1 ?side2 ?side3 ?side4 A9.out).mono ?_); (case side1 => exact pkC (Kd.R_reads' HO674.out).2.2); (case side2 => exact (Kd.R_reads' HO674.out).2.1); (case side3 => exact pkC (Kd.R_reads' HO677.out).2.2); (case side4 => exact (Kd.R_reads' HO677.out).2.1); rintro e w20 ⟨v680, v683, rfl, ho0, ho1, hb⟩; refine ⟨_, rfl, ?_⟩; have n0_ := Aside0.mk (Kd.R_mono (Kd.R_told (Kd.R_told (Kd.R_old (pkR HO674.out) hb) (Kd.R_base ho0)) (Kd.R_base ho1)) (fun _ h_ => h_.1)); have n1_ := Aside0.mk (Kd.R_mono (Kd.R_told (Kd.R_told (Kd.R_old (pkR HO677.out) hb) (Kd.R_base ho0)) (Kd.R_base ho1)) (fun _ h_ => h_.1)); have n2_ := Aside0.mk (Kd.R_lower (Kd.R_new' (Kd.R_new' ho0 (Kd.R_lt (pkR HO674.out))) (Kd.R_lt (pkR HO677.out))) (below_size (by repeat (first | (with_reducible first | exact HB.out | apply below_alloc | apply pw_below_drewN | apply below_drew1 | refine below_set ?_ GE669.out) | exact HB.out)))); have n3_ := Aside0.mk (Kd.R_lower (Kd.R_new' (Kd.R_new' ho1 (Kd.R_lt (pkR HO674.out))) (Kd.R_lt (pkR HO677.out))) (below_size (by repeat (first | (with_reducible first | exact HB.out | apply below_alloc | apply pw_below_drewN | apply below_drew1 | refine below_set ?_ GE669.out) | exact HB.out)))); have n4_ := Aside0.mk (blk_below (g := gb669) (o := .cells #[.int .i64 a0_0, .slice A0_1 l0_1.length c0_1, .slice A0_2 l0_2.length c0_2] 43 (0, 0)) (pkK BK669.out) hb); have n5_ := Aside0.mk (below_step (by repeat (first | (with_reducible first | exact HB.out | apply below_alloc | apply pw_below_drewN | apply below_drew1 | refine below_set ?_ GE669.out) | exact HB.out)) hb); clear HO674 HO677 BK669 HB; have HO674 := n0_; have HO677 := n1_; have HO681 := n2_; have HO684 := n3_; have BK669 := n4_; have HB := n5_; clear n0_ n1_ n2_ n3_ n4_ n5_; (try clear hb); (try clear hb2); (try clear hk); (try clear hi); (try clear ho0); (try clear ho1)) | ((with_reducible refine gate_dst (N := 6) rfl ?_); refine box_event ?hg (N := 6) ?hd (cs := #[.int .i64 0, .slice none 0 0, .slice none 0 0]) (t := 46) ?hr ?_; (case hd => rfl); (case hg => rfl); (case hr => first | (go_simp; done) | (go_simp; rfl)); intro gb686 hg w21 hbox hb; have n0_ := Aside0.mk (Kd.R_below (pkR HO674.out) hb); have n1_ := Aside0.mk (Kd.R_below (pkR HO677.out) hb); have n2_ := Aside0.mk (Kd.R_below (pkR HO681.out) hb); have n3_ := Aside0.mk (Kd.R_below (pkR HO684.out) hb); have n4_ := Aside0.mk (blk_below (g := gb669) (o := .cells #[.int .i64 a0_0, .slice A0_1 l0_1.length c0_1, .slice A0_2 l0_2.length c0_2] 43 (0, 0)) (pkK BK669.out) hb); have n5_ := Aside0.mk (below_step (by repeat (first | (with_reducible first | exact HB.out | apply below_alloc | apply pw_below_drewN | apply below_drew1 | refine below_set ?_ GE669.out) | exact HB.out)) hb); have n6_ := Aside0.mk (hbox); have n7_ := Aside0.mk ((by rw [hg]; exact (below_size (by repeat (first | (with_reducible first | exact HB.out | apply below_alloc | apply pw_below_drewN | apply below_drew1 | refine below_set ?_ GE669.out) | exact HB.out))) : w.heap.size ≤ gb686)); have n8_ := Aside0.mk ((by rw [hg]; exact (below_size (by repeat (first | (with_reducible first | exact HB.out | apply below_alloc | apply pw_below_drewN | apply below_drew1 | refine below_set ?_ GE669.out) | exact HB.out))) : w.heap.size ≤ gb686)); have n9_ := Aside0.mk ((by rw [hg]; exact Nat.ne_of_lt (blk_lt (g := gb669) (o := .cells #[.int .i64 a0_0, .slice A0_1 l0_1.length c0_1, .slice A0_2 l0_2.length c0_2] 43 (0, 0)) (pkK BK669.out)) : gb669 ≠ gb686)); have n10_ := Aside0.mk ((by rw [hg]; exact Nat.ne_of_gt (blk_lt (g := gb669) (o := .cells #[.int .i64 a0_0, .slice A0_1 l0_1.length c0_1, .slice A0_2 l0_2.length c0_2] 43 (0, 0)) (pkK BK669.out)) : gb686 ≠ gb669)); clear HO674 HO677 HO681 HO684 BK669 HB; have HO674 := n0_; have HO677 := n1_; have HO681 := n2_; have HO684 := n3_; have BK669 := n4_; have HB := n5_; have BK686 := n6_; have GW686 := n7_; have GE686 := n8_; have NB669_686 := n9_; have NB686_669 := n10_; clear n0_ n1_ n2_ n3_ n4_ n5_ n6_ n7_ n8_ n9_ n10_; clear hb hbox hg; have hnb22 := NB686_669.out; have hnc22 := NB669_686.out; have hcz23_0 : w21.cell? ⟨gb686, 0, none⟩ = some (.int .i64 0) := (blk_cell BK686.out 0).trans rfl; have hcz23_1 : w21.cell? ⟨gb686, 1, none⟩ = some (.slice none 0 0) := (blk_cell BK686.out 1).trans rfl; have hcz23_2 : w21.cell? ⟨gb686, 2, none⟩ = some (.slice none 0 0) := (blk_cell BK686.out 2).trans rfl; have hfz23_0 := blk_frozen BK686.out 0; have hfz23_1 := blk_frozen BK686.out 1; have hfz23_2 := blk_frozen BK686.out 2; obtain ⟨Ao24, co24, eo24⟩ := Kd.R_slice HO681.out; subst eo24; obtain ⟨Ao25, co25, eo25⟩ := Kd.R_slice HO684.out; subst eo25; have hcz26_0 : w21.cell? ⟨gb669, 0, none⟩ = some (.int .i64 a0_0) := (blk_cell BK669.out 0).trans rfl; have hcz26_1 : w21.cell? ⟨gb669, 1, none⟩ = some (.slice A0_1 l0_1.length c0_1) := (blk_cell BK669.out 1).trans rfl; have hcz26_2 : w21.cell? ⟨gb669, 2, none⟩ = some (.slice A0_2 l0_2.length c0_2) := (blk_cell BK669.out 2).trans rfl; have hfz26_0 := blk_frozen BK669.out 0; have hfz26_1 := blk_frozen BK669.out 1; have hfz26_2 := blk_frozen BK669.out 2) | ((with_reducible refine gate_callee (f := 25) rfl ?_); refine goesL_ (some 29) rfl rfl Try.func25 (by kernel_rfl) rfl #[.agg #[.int .i64 a0_0, .slice A0_1 l0_1.length c0_1, .slice A0_2 l0_2.length c0_2]] rfl (by (try simp only [List.map_toArray, List.map_cons, List.map_nil]); first | done | rfl | (simp only [List.length_drop, List.length_take]; rfl) | (go_simp; done) | (simp [*]; done)) ?_; (with_reducible refine (laws_toLatch.calls k a0_0 _ _ l0_1 _ _ l0_2 t687 t688 t691 _ ?side1 ?side2 ?side3 ?side4 A10.out).mono ?_); (case side1 => exact Kd.C_below HR0_1.out (by repeat (first | (with_reducible first | exact HB.out | apply below_alloc | apply pw_below_drewN | apply below_drew1 | refine below_set ?_ GE669.out | refine below_set ?_ GE686.out) | exact HB.out))); (case side2 => exact HC0_1.out); (case side3 => exact Kd.C_below HR0_2.out (by repeat (first | (with_reducible first | exact HB.out | apply below_alloc | apply pw_below_drewN | apply below_drew1 | refine below_set ?_ GE669.out | refine below_set ?_ GE686.out) | exact HB.out))); (case side4 => exact HC0_2.out); rintro e w27 ⟨v689, v692, rfl, ho0, ho1, hb⟩; refine ⟨_, rfl, ?_⟩; have n0_ := Aside0.mk (Kd.R_mono (Kd.R_told (Kd.R_told (Kd.R_old (by (with_reducible repeat (first | apply Kd.R_alloc | apply Kd.R_drewN | apply Kd.R_drew)); exact (Kd.R_mono (Kd.R_far (p := ⟨gb686, 2, none⟩) (Kd.R_far (p := ⟨gb686, 1, none⟩) (Kd.R_far (p := ⟨gb686, 0, none⟩) (Kd.R_types HO674.out BK686.out (by decide)) (fun _ hk => hk.2) (.int .i64 t678)) (fun _ hk => hk.2) (.slice Ao24 t679.length co24)) (fun _ hk => hk.2) (.slice Ao25 t682.length co25)) (fun _ h_ => h_.1))) hb) (Kd.R_base ho0)) (Kd.R_base ho1)) (fun _ h_ => h_.1)); have n1_ := Aside0.mk (Kd.R_mono (Kd.R_told (Kd.R_told (Kd.R_old (by (with_reducible repeat (first | apply Kd.R_alloc | apply Kd.R_drewN | apply Kd.R_drew)); exact (Kd.R_mono (Kd.R_far (p := ⟨gb686, 2, none⟩) (Kd.R_far (p := ⟨gb686, 1, none⟩) (Kd.R_far (p := ⟨gb686, 0, none⟩) (Kd.R_types HO677.out BK686.out (by decide)) (fun _ hk => hk.2) (.int .i64 t678)) (fun _ hk => hk.2) (.slice Ao24 t679.length co24)) (fun _ hk => hk.2) (.slice Ao25 t682.length co25)) (fun _ h_ => h_.1))) hb) (Kd.R_base ho0)) (Kd.R_base ho1)) (fun _ h_ => h_.1)); have n2_ := Aside0.mk (Kd.R_mono (Kd.R_told (Kd.R_told (Kd.R_old (by (with_reducible repeat (first | apply Kd.R_alloc | apply Kd.R_drewN | apply Kd.R_drew)); exact (Kd.R_mono (Kd.R_far (p := ⟨gb686, 2, none⟩) (Kd.R_far (p := ⟨gb686, 1, none⟩) (Kd.R_far (p := ⟨gb686, 0, none⟩) (Kd.R_types HO681.out BK686.out (by decide)) (fun _ hk => hk.2) (.int .i64 t678)) (fun _ hk => hk.2) (.slice Ao24 t679.length co24)) (fun _ hk => hk.2) (.slice Ao25 t682.length co25)) (fun _ h_ => h_.1))) hb) (Kd.R_base ho0)) (Kd.R_base ho1)) (fun _ h_ => h_.1)); have n3_ := Aside0.mk (Kd.R_mono (Kd.R_told (Kd.R_told (Kd.R_old (by (with_reducible repeat (first | apply Kd.R_alloc | apply Kd.R_drewN | apply Kd.R_drew)); exact (Kd.R_mono (Kd.R_far (p := ⟨gb686, 2, none⟩) (Kd.R_far (p := ⟨gb686, 1, none⟩) (Kd.R_far (p := ⟨gb686, 0, none⟩) (Kd.R_types HO684.out BK686.out (by decide)) (fun _ hk => hk.2) (.int .i64 t678)) (fun _ hk => hk.2) (.slice Ao24 t679.length co24)) (fun _ hk => hk.2) (.slice Ao25 t682.length co25)) (fun _ h_ => h_.1))) hb) (Kd.R_base ho0)) (Kd.R_base ho1)) (fun _ h_ => h_.1)); have n4_ := Aside0.mk (Kd.R_lower (Kd.R_new' (Kd.R_new' (Kd.R_new' (Kd.R_new' ho0 (Kd.R_lt (by (with_reducible repeat (first | apply Kd.R_alloc | apply Kd.R_drewN | apply Kd.R_drew)); exact (Kd.R_mono (Kd.R_far (p := ⟨gb686, 2, none⟩) (Kd.R_far (p := ⟨gb686, 1, none⟩) (Kd.R_far (p := ⟨gb686, 0, none⟩) (Kd.R_types HO674.out BK686.out (by decide)) (fun _ hk => hk.2) (.int .i64 t678)) (fun _ hk => hk.2) (.slice Ao24 t679.length co24)) (fun _ hk => hk.2) (.slice Ao25 t682.length co25)) (fun _ h_ => h_.1))))) (Kd.R_lt (by (with_reducible repeat (first | apply Kd.R_alloc | apply Kd.R_drewN | apply Kd.R_drew)); exact (Kd.R_mono (Kd.R_far (p := ⟨gb686, 2, none⟩) (Kd.R_far (p := ⟨gb686, 1, none⟩) (Kd.R_far (p := ⟨gb686, 0, none⟩) (Kd.R_types HO677.out BK686.out (by decide)) (fun _ hk => hk.2) (.int .i64 t678)) (fun _ hk => hk.2) (.slice Ao24 t679.length co24)) (fun _ hk => hk.2) (.slice Ao25 t682.length co25)) (fun _ h_ => h_.1))))) (Kd.R_lt (by (with_reducible repeat (first | apply Kd.R_alloc | apply Kd.R_drewN | apply Kd.R_drew)); exact (Kd.R_mono (Kd.R_far (p := ⟨gb686, 2, none⟩) (Kd.R_far (p := ⟨gb686, 1, none⟩) (Kd.R_far (p := ⟨gb686, 0, none⟩) (Kd.R_types HO681.out BK686.out (by decide)) (fun _ hk => hk.2) (.int .i64 t678)) (fun _ hk => hk.2) (.slice Ao24 t679.length co24)) (fun _ hk => hk.2) (.slice Ao25 t682.length co25)) (fun _ h_ => h_.1))))) (Kd.R_lt (by (with_reducible repeat (first | apply Kd.R_alloc | apply Kd.R_drewN | apply Kd.R_drew)); exact (Kd.R_mono (Kd.R_far (p := ⟨gb686, 2, none⟩) (Kd.R_far (p := ⟨gb686, 1, none⟩) (Kd.R_far (p := ⟨gb686, 0, none⟩) (Kd.R_types HO684.out BK686.out (by decide)) (fun _ hk => hk.2) (.int .i64 t678)) (fun _ hk => hk.2) (.slice Ao24 t679.length co24)) (fun _ hk => hk.2) (.slice Ao25 t682.length co25)) (fun _ h_ => h_.1))))) (below_size (by repeat (first | (with_reducible first | exact HB.out | apply below_alloc | apply pw_below_drewN | apply below_drew1 | refine below_set ?_ GE669.out | refine below_set ?_ GE686.out) | exact HB.out)))); have n5_ := Aside0.mk (Kd.R_lower (Kd.R_new' (Kd.R_new' (Kd.R_new' (Kd.R_new' ho1 (Kd.R_lt (by (with_reducible repeat (first | apply Kd.R_alloc | apply Kd.R_drewN | apply Kd.R_drew)); exact (Kd.R_mono (Kd.R_far (p := ⟨gb686, 2, none⟩) (Kd.R_far (p := ⟨gb686, 1, none⟩) (Kd.R_far (p := ⟨gb686, 0, none⟩) (Kd.R_types HO674.out BK686.out (by decide)) (fun _ hk => hk.2) (.int .i64 t678)) (fun _ hk => hk.2) (.slice Ao24 t679.length co24)) (fun _ hk => hk.2) (.slice Ao25 t682.length co25)) (fun _ h_ => h_.1))))) (Kd.R_lt (by (with_reducible repeat (first | apply Kd.R_alloc | apply Kd.R_drewN | apply Kd.R_drew)); exact (Kd.R_mono (Kd.R_far (p := ⟨gb686, 2, none⟩) (Kd.R_far (p := ⟨gb686, 1, none⟩) (Kd.R_far (p := ⟨gb686, 0, none⟩) (Kd.R_types HO677.out BK686.out (by decide)) (fun _ hk => hk.2) (.int .i64 t678)) (fun _ hk => hk.2) (.slice Ao24 t679.length co24)) (fun _ hk => hk.2) (.slice Ao25 t682.length co25)) (fun _ h_ => h_.1))))) (Kd.R_lt (by (with_reducible repeat (first | apply Kd.R_alloc | apply Kd.R_drewN | apply Kd.R_drew)); exact (Kd.R_mono (Kd.R_far (p := ⟨gb686, 2, none⟩) (Kd.R_far (p := ⟨gb686, 1, none⟩) (Kd.R_far (p := ⟨gb686, 0, none⟩) (Kd.R_types HO681.out BK686.out (by decide)) (fun _ hk => hk.2) (.int .i64 t678)) (fun _ hk => hk.2) (.slice Ao24 t679.length co24)) (fun _ hk => hk.2) (.slice Ao25 t682.length co25)) (fun _ h_ => h_.1))))) (Kd.R_lt (by (with_reducible repeat (first | apply Kd.R_alloc | apply Kd.R_drewN | apply Kd.R_drew)); exact (Kd.R_mono (Kd.R_far (p := ⟨gb686, 2, none⟩) (Kd.R_far (p := ⟨gb686, 1, none⟩) (Kd.R_far (p := ⟨gb686, 0, none⟩) (Kd.R_types HO684.out BK686.out (by decide)) (fun _ hk => hk.2) (.int .i64 t678)) (fun _ hk => hk.2) (.slice Ao24 t679.length co24)) (fun _ hk => hk.2) (.slice Ao25 t682.length co25)) (fun _ h_ => h_.1))))) (below_size (by repeat (first | (with_reducible first | exact HB.out | apply below_alloc | apply pw_below_drewN | apply below_drew1 | refine below_set ?_ GE669.out | refine below_set ?_ GE686.out) | exact HB.out)))); have n6_ := Aside0.mk (blk_below (g := gb669) (o := .cells #[.int .i64 a0_0, .slice A0_1 l0_1.length c0_1, .slice A0_2 l0_2.length c0_2] 43 (0, 0)) (by (with_reducible repeat (first | refine blk_drewN ?_ _ | refine blk_drew ?_ | refine blk_alloc ?_ _)); refine blk_far ?_ NB669_686.out _; (with_reducible repeat (first | refine blk_drewN ?_ _ | refine blk_drew ?_ | refine blk_alloc ?_ _)); refine blk_far ?_ NB669_686.out _; (with_reducible repeat (first | refine blk_drewN ?_ _ | refine blk_drew ?_ | refine blk_alloc ?_ _)); refine blk_far ?_ NB669_686.out _; (with_reducible repeat (first | refine blk_drewN ?_ _ | refine blk_drew ?_ | refine blk_alloc ?_ _)); exact BK669.out) hb); have n7_ := Aside0.mk (blk_below (g := gb686) (o := .cells #[.int .i64 t678, .slice Ao24 t679.length co24, .slice Ao25 t682.length co25] 46 (0, 0)) (by (with_reducible repeat (first | refine blk_drewN ?_ _ | refine blk_drew ?_ | refine blk_alloc ?_ _)); refine blk_put (cs := #[.int .i64 t678, .slice Ao24 t679.length co24, .slice none 0 0]) ?_ 2 _ rfl; (with_reducible repeat (first | refine blk_drewN ?_ _ | refine blk_drew ?_ | refine blk_alloc ?_ _)); refine blk_put (cs := #[.int .i64 t678, .slice none 0 0, .slice none 0 0]) ?_ 1 _ rfl; (with_reducible repeat (first | refine blk_drewN ?_ _ | refine blk_drew ?_ | refine blk_alloc ?_ _)); refine blk_put (cs := #[.int .i64 0, .slice none 0 0, .slice none 0 0]) ?_ 0 _ rfl; (with_reducible repeat (first | refine blk_drewN ?_ _ | refine blk_drew ?_ | refine blk_alloc ?_ _)); exact BK686.out) hb); have n8_ := Aside0.mk (below_step (by repeat (first | (with_reducible first | exact HB.out | apply below_alloc | apply pw_below_drewN | apply below_drew1 | refine below_set ?_ GE669.out | refine below_set ?_ GE686.out) | exact HB.out)) hb); clear HO674 HO677 HO681 HO684 BK669 BK686 HB; have HO674 := n0_; have HO677 := n1_; have HO681 := n2_; have HO684 := n3_; have HO690 := n4_; have HO693 := n5_; have BK669 := n6_; have BK686 := n7_; have HB := n8_; clear n0_ n1_ n2_ n3_ n4_ n5_ n6_ n7_ n8_; (try clear hb); (try clear hb2); (try clear hk); (try clear hi); (try clear ho0); (try clear ho1)) | ((with_reducible refine gate_dst (N := 8) rfl ?_); refine box_event ?hg (N := 8) ?hd (cs := #[.int .i64 0, .slice none 0 0, .slice none 0 0]) (t := 46) ?hr ?_; (case hd => rfl); (case hg => rfl); (case hr => first | (go_simp; done) | (go_simp; rfl)); intro gb694 hg w28 hbox hb; have n0_ := Aside0.mk (Kd.R_below (pkR HO674.out) hb); have n1_ := Aside0.mk (Kd.R_below (pkR HO677.out) hb); have n2_ := Aside0.mk (Kd.R_below (pkR HO681.out) hb); have n3_ := Aside0.mk (Kd.R_below (pkR HO684.out) hb); have n4_ := Aside0.mk (Kd.R_below (pkR HO690.out) hb); have n5_ := Aside0.mk (Kd.R_below (pkR HO693.out) hb); have n6_ := Aside0.mk (blk_below (g := gb669) (o := .cells #[.int .i64 a0_0, .slice A0_1 l0_1.length c0_1, .slice A0_2 l0_2.length c0_2] 43 (0, 0)) (pkK BK669.out) hb); have n7_ := Aside0.mk (blk_below (g := gb686) (o := .cells #[.int .i64 t678, .slice Ao24 t679.length co24, .slice Ao25 t682.length co25] 46 (0, 0)) (pkK BK686.out) hb); have n8_ := Aside0.mk (below_step (by repeat (first | (with_reducible first | exact HB.out | apply below_alloc | apply pw_below_drewN | apply below_drew1 | refine below_set ?_ GE669.out | refine below_set ?_ GE686.out) | exact HB.out)) hb); have n9_ := Aside0.mk (hbox); have n10_ := Aside0.mk ((by rw [hg]; exact (below_size (by repeat (first | (with_reducible first | exact HB.out | apply below_alloc | apply pw_below_drewN | apply below_drew1 | refine below_set ?_ GE669.out | refine below_set ?_ GE686.out) | exact HB.out))) : w.heap.size ≤ gb694)); have n11_ := Aside0.mk ((by rw [hg]; exact (below_size (by repeat (first | (with_reducible first | exact HB.out | apply below_alloc | apply pw_below_drewN | apply below_drew1 | refine below_set ?_ GE669.out | refine below_set ?_ GE686.out) | exact HB.out))) : w.heap.size ≤ gb694)); have n12_ := Aside0.mk ((by rw [hg]; exact Nat.ne_of_lt (blk_lt (g := gb669) (o := .cells #[.int .i64 a0_0, .slice A0_1 l0_1.length c0_1, .slice A0_2 l0_2.length c0_2] 43 (0, 0)) (pkK BK669.out)) : gb669 ≠ gb694)); have n13_ := Aside0.mk ((by rw [hg]; exact Nat.ne_of_gt (blk_lt (g := gb669) (o := .cells #[.int .i64 a0_0, .slice A0_1 l0_1.length c0_1, .slice A0_2 l0_2.length c0_2] 43 (0, 0)) (pkK BK669.out)) : gb694 ≠ gb669)); have n14_ := Aside0.mk ((by rw [hg]; exact Nat.ne_of_lt (blk_lt (g := gb686) (o := .cells #[.int .i64 t678, .slice Ao24 t679.length co24, .slice Ao25 t682.length co25] 46 (0, 0)) (pkK BK686.out)) : gb686 ≠ gb694)); have n15_ := Aside0.mk ((by rw [hg]; exact Nat.ne_of_gt (blk_lt (g := gb686) (o := .cells #[.int .i64 t678, .slice Ao24 t679.length co24, .slice Ao25 t682.length co25] 46 (0, 0)) (pkK BK686.out)) : gb694 ≠ gb686)); clear HO674 HO677 HO681 HO684 HO690 HO693 BK669 BK686 HB; have HO674 := n0_; have HO677 := n1_; have HO681 := n2_; have HO684 := n3_; have HO690 := n4_; have HO693 := n5_; have BK669 := n6_; have BK686 := n7_; have HB := n8_; have BK694 := n9_; have GW694 := n10_; have GE694 := n11_; have NB669_694 := n12_; have NB694_669 := n13_; have NB686_694 := n14_; have NB694_686 := n15_; clear n0_ n1_ n2_ n3_ n4_ n5_ n6_ n7_ n8_ n9_ n10_ n11_ n12_ n13_ n14_ n15_; clear hb hbox hg; have hnb29 := NB694_669.out; have hnc29 := NB669_694.out; have hnb30 := NB694_686.out; have hnc30 := NB686_694.out; have hcz31_0 : w28.cell? ⟨gb694, 0, none⟩ = some (.int .i64 0) := (blk_cell BK694.out 0).trans rfl; have hcz31_1 : w28.cell? ⟨gb694, 1, none⟩ = some (.slice none 0 0) := (blk_cell BK694.out 1).trans rfl; have hcz31_2 : w28.cell? ⟨gb694, 2, none⟩ = some (.slice none 0 0) := (blk_cell BK694.out 2).trans rfl; have hfz31_0 := blk_frozen BK694.out 0; have hfz31_1 := blk_frozen BK694.out 1; have hfz31_2 := blk_frozen BK694.out 2; obtain ⟨Ao32, co32, eo32⟩ := Kd.R_slice HO690.out; subst eo32; obtain ⟨Ao33, co33, eo33⟩ := Kd.R_slice HO693.out; subst eo33) | ((with_reducible refine gate_callee (f := 41) rfl ?_); refine goesL_ (some 33) rfl rfl Try.func41 (by kernel_rfl) rfl #[.agg #[.int .i64 t687, .slice Ao32 t688.length co32, .slice Ao33 t691.length co33], .int .i64 a1] rfl (by (try simp only [List.map_toArray, List.map_cons, List.map_nil]); first | done | rfl | (simp only [List.length_drop, List.length_take]; rfl) | (go_simp; done) | (simp [*]; done)) ?_; (with_reducible refine (impl_QuitLatch.calls k t687 _ _ t688 _ _ t691 a1 t695 t696 t699 t702 _ ?side1 ?side2 ?side3 ?side4 A11.out).mono ?_); (case side1 => refine (Kd.R_reads' (e := 3) (base := w.heap.size) (ok := fun k_ => ((((some k_ ≠ (.slice Ao33 t691.length co33 : Value).ownBlock ∧ some k_ ≠ (.slice Ao18 t672.length co18 : Value).ownBlock) ∧ some k_ ≠ (.slice Ao19 t675.length co19 : Value).ownBlock) ∧ some k_ ≠ (.slice Ao24 t679.length co24 : Value).ownBlock) ∧ some k_ ≠ (.slice Ao25 t682.length co25 : Value).ownBlock)) (n := t688.length) (c := co32) ?_).2.2; exact (by (with_reducible repeat (first | apply Kd.R_alloc | apply Kd.R_drewN | apply Kd.R_drew)); exact (Kd.R_mono (Kd.R_far (p := ⟨gb694, 2, none⟩) (Kd.R_far (p := ⟨gb694, 1, none⟩) (Kd.R_far (p := ⟨gb694, 0, none⟩) (Kd.R_types HO690.out BK694.out (by decide)) (fun _ hk => hk.2) (.int .i64 t687)) (fun _ hk => hk.2) (.slice Ao32 t688.length co32)) (fun _ hk => hk.2) (.slice Ao33 t691.length co33)) (fun _ h_ => h_.1)))); (case side2 => exact (Kd.R_reads' HO690.out).2.1); (case side3 => refine (Kd.R_reads' (e := 3) (base := w.heap.size) (ok := fun k_ => ((((some k_ ≠ (.slice Ao32 t688.length co32 : Value).ownBlock ∧ some k_ ≠ (.slice Ao18 t672.length co18 : Value).ownBlock) ∧ some k_ ≠ (.slice Ao19 t675.length co19 : Value).ownBlock) ∧ some k_ ≠ (.slice Ao24 t679.length co24 : Value).ownBlock) ∧ some k_ ≠ (.slice Ao25 t682.length co25 : Value).ownBlock)) (n := t691.length) (c := co33) ?_).2.2; exact (by (with_reducible repeat (first | apply Kd.R_alloc | apply Kd.R_drewN | apply Kd.R_drew)); exact (Kd.R_mono (Kd.R_far (p := ⟨gb694, 2, none⟩) (Kd.R_far (p := ⟨gb694, 1, none⟩) (Kd.R_far (p := ⟨gb694, 0, none⟩) (Kd.R_types HO693.out BK694.out (by decide)) (fun _ hk => hk.2) (.int .i64 t687)) (fun _ hk => hk.2) (.slice Ao32 t688.length co32)) (fun _ hk => hk.2) (.slice Ao33 t691.length co33)) (fun _ h_ => h_.1)))); (case side4 => exact (Kd.R_reads' HO693.out).2.1); rintro e w34 ⟨v697, v700, rfl, ho0, ho1, hb⟩; refine ⟨_, rfl, ?_⟩; have n0_ := Aside0.mk (Kd.R_mono (Kd.R_told (Kd.R_told (Kd.R_old (by (with_reducible repeat (first | apply Kd.R_alloc | apply Kd.R_drewN | apply Kd.R_drew)); exact (Kd.R_mono (Kd.R_far (p := ⟨gb694, 2, none⟩) (Kd.R_far (p := ⟨gb694, 1, none⟩) (Kd.R_far (p := ⟨gb694, 0, none⟩) (Kd.R_types HO674.out BK694.out (by decide)) (fun _ hk => hk.2) (.int .i64 t687)) (fun _ hk => hk.2) (.slice Ao32 t688.length co32)) (fun _ hk => hk.2) (.slice Ao33 t691.length co33)) (fun _ h_ => h_.1))) hb) (Kd.R_base ho0)) (Kd.R_base ho1)) (fun _ h_ => h_.1)); have n1_ := Aside0.mk (Kd.R_mono (Kd.R_told (Kd.R_told (Kd.R_old (by (with_reducible repeat (first | apply Kd.R_alloc | apply Kd.R_drewN | apply Kd.R_drew)); exact (Kd.R_mono (Kd.R_far (p := ⟨gb694, 2, none⟩) (Kd.R_far (p := ⟨gb694, 1, none⟩) (Kd.R_far (p := ⟨gb694, 0, none⟩) (Kd.R_types HO677.out BK694.out (by decide)) (fun _ hk => hk.2) (.int .i64 t687)) (fun _ hk => hk.2) (.slice Ao32 t688.length co32)) (fun _ hk => hk.2) (.slice Ao33 t691.length co33)) (fun _ h_ => h_.1))) hb) (Kd.R_base ho0)) (Kd.R_base ho1)) (fun _ h_ => h_.1)); have n2_ := Aside0.mk (Kd.R_mono (Kd.R_told (Kd.R_told (Kd.R_old (by (with_reducible repeat (first | apply Kd.R_alloc | apply Kd.R_drewN | apply Kd.R_drew)); exact (Kd.R_mono (Kd.R_far (p := ⟨gb694, 2, none⟩) (Kd.R_far (p := ⟨gb694, 1, none⟩) (Kd.R_far (p := ⟨gb694, 0, none⟩) (Kd.R_types HO681.out BK694.out (by decide)) (fun _ hk => hk.2) (.int .i64 t687)) (fun _ hk => hk.2) (.slice Ao32 t688.length co32)) (fun _ hk => hk.2) (.slice Ao33 t691.length co33)) (fun _ h_ => h_.1))) hb) (Kd.R_base ho0)) (Kd.R_base ho1)) (fun _ h_ => h_.1)); have n3_ := Aside0.mk (Kd.R_mono (Kd.R_told (Kd.R_told (Kd.R_old (by (with_reducible repeat (first | apply Kd.R_alloc | apply Kd.R_drewN | apply Kd.R_drew)); exact (Kd.R_mono (Kd.R_far (p := ⟨gb694, 2, none⟩) (Kd.R_far (p := ⟨gb694, 1, none⟩) (Kd.R_far (p := ⟨gb694, 0, none⟩) (Kd.R_types HO684.out BK694.out (by decide)) (fun _ hk => hk.2) (.int .i64 t687)) (fun _ hk => hk.2) (.slice Ao32 t688.length co32)) (fun _ hk => hk.2) (.slice Ao33 t691.length co33)) (fun _ h_ => h_.1))) hb) (Kd.R_base ho0)) (Kd.R_base ho1)) (fun _ h_ => h_.1)); have n4_ := Aside0.mk (Kd.R_mono (Kd.R_told (Kd.R_told (Kd.R_old (by (with_reducible repeat (first | apply Kd.R_alloc | apply Kd.R_drewN | apply Kd.R_drew)); exact (Kd.R_mono (Kd.R_far (p := ⟨gb694, 2, none⟩) (Kd.R_far (p := ⟨gb694, 1, none⟩) (Kd.R_far (p := ⟨gb694, 0, none⟩) (Kd.R_types HO690.out BK694.out (by decide)) (fun _ hk => hk.2) (.int .i64 t687)) (fun _ hk => hk.2) (.slice Ao32 t688.length co32)) (fun _ hk => hk.2) (.slice Ao33 t691.length co33)) (fun _ h_ => h_.1))) hb) (Kd.R_base ho0)) (Kd.R_base ho1)) (fun _ h_ => h_.1)); have n5_ := Aside0.mk (Kd.R_mono (Kd.R_told (Kd.R_told (Kd.R_old (by (with_reducible repeat (first | apply Kd.R_alloc | apply Kd.R_drewN | apply Kd.R_drew)); exact (Kd.R_mono (Kd.R_far (p := ⟨gb694, 2, none⟩) (Kd.R_far (p := ⟨gb694, 1, none⟩) (Kd.R_far (p := ⟨gb694, 0, none⟩) (Kd.R_types HO693.out BK694.out (by decide)) (fun _ hk => hk.2) (.int .i64 t687)) (fun _ hk => hk.2) (.slice Ao32 t688.length co32)) (fun _ hk => hk.2) (.slice Ao33 t691.length co33)) (fun _ h_ => h_.1))) hb) (Kd.R_base ho0)) (Kd.R_base ho1)) (fun _ h_ => h_.1)); have n6_ := Aside0.mk (Kd.R_lower (Kd.R_new' (Kd.R_new' (Kd.R_new' (Kd.R_new' (Kd.R_new' (Kd.R_new' ho0 (Kd.R_lt (by (with_reducible repeat (first | apply Kd.R_alloc | apply Kd.R_drewN | apply Kd.R_drew)); exact (Kd.R_mono (Kd.R_far (p := ⟨gb694, 2, none⟩) (Kd.R_far (p := ⟨gb694, 1, none⟩) (Kd.R_far (p := ⟨gb694, 0, none⟩) (Kd.R_types HO674.out BK694.out (by decide)) (fun _ hk => hk.2) (.int .i64 t687)) (fun _ hk => hk.2) (.slice Ao32 t688.length co32)) (fun _ hk => hk.2) (.slice Ao33 t691.length co33)) (fun _ h_ => h_.1))))) (Kd.R_lt (by (with_reducible repeat (first | apply Kd.R_alloc | apply Kd.R_drewN | apply Kd.R_drew)); exact (Kd.R_mono (Kd.R_far (p := ⟨gb694, 2, none⟩) (Kd.R_far (p := ⟨gb694, 1, none⟩) (Kd.R_far (p := ⟨gb694, 0, none⟩) (Kd.R_types HO677.out BK694.out (by decide)) (fun _ hk => hk.2) (.int .i64 t687)) (fun _ hk => hk.2) (.slice Ao32 t688.length co32)) (fun _ hk => hk.2) (.slice Ao33 t691.length co33)) (fun _ h_ => h_.1))))) (Kd.R_lt (by (with_reducible repeat (first | apply Kd.R_alloc | apply Kd.R_drewN | apply Kd.R_drew)); exact (Kd.R_mono (Kd.R_far (p := ⟨gb694, 2, none⟩) (Kd.R_far (p := ⟨gb694, 1, none⟩) (Kd.R_far (p := ⟨gb694, 0, none⟩) (Kd.R_types HO681.out BK694.out (by decide)) (fun _ hk => hk.2) (.int .i64 t687)) (fun _ hk => hk.2) (.slice Ao32 t688.length co32)) (fun _ hk => hk.2) (.slice Ao33 t691.length co33)) (fun _ h_ => h_.1))))) (Kd.R_lt (by (with_reducible repeat (first | apply Kd.R_alloc | apply Kd.R_drewN | apply Kd.R_drew)); exact (Kd.R_mono (Kd.R_far (p := ⟨gb694, 2, none⟩) (Kd.R_far (p := ⟨gb694, 1, none⟩) (Kd.R_far (p := ⟨gb694, 0, none⟩) (Kd.R_types HO684.out BK694.out (by decide)) (fun _ hk => hk.2) (.int .i64 t687)) (fun _ hk => hk.2) (.slice Ao32 t688.length co32)) (fun _ hk => hk.2) (.slice Ao33 t691.length co33)) (fun _ h_ => h_.1))))) (Kd.R_lt (by (with_reducible repeat (first | apply Kd.R_alloc | apply Kd.R_drewN | apply Kd.R_drew)); exact (Kd.R_mono (Kd.R_far (p := ⟨gb694, 2, none⟩) (Kd.R_far (p := ⟨gb694, 1, none⟩) (Kd.R_far (p := ⟨gb694, 0, none⟩) (Kd.R_types HO690.out BK694.out (by decide)) (fun _ hk => hk.2) (.int .i64 t687)) (fun _ hk => hk.2) (.slice Ao32 t688.length co32)) (fun _ hk => hk.2) (.slice Ao33 t691.length co33)) (fun _ h_ => h_.1))))) (Kd.R_lt (by (with_reducible repeat (first | apply Kd.R_alloc | apply Kd.R_drewN | apply Kd.R_drew)); exact (Kd.R_mono (Kd.R_far (p := ⟨gb694, 2, none⟩) (Kd.R_far (p := ⟨gb694, 1, none⟩) (Kd.R_far (p := ⟨gb694, 0, none⟩) (Kd.R_types HO693.out BK694.out (by decide)) (fun _ hk => hk.2) (.int .i64 t687)) (fun _ hk => hk.2) (.slice Ao32 t688.length co32)) (fun _ hk => hk.2) (.slice Ao33 t691.length co33)) (fun _ h_ => h_.1))))) (below_size (by repeat (first | (with_reducible first | exact HB.out | apply below_alloc | apply pw_below_drewN | apply below_drew1 | refine below_set ?_ GE669.out | refine below_set ?_ GE686.out | refine below_set ?_ GE694.out) | exact HB.out)))); have n7_ := Aside0.mk (Kd.R_lower (Kd.R_new' (Kd.R_new' (Kd.R_new' (Kd.R_new' (Kd.R_new' (Kd.R_new' ho1 (Kd.R_lt (by (with_reducible repeat (first | apply Kd.R_alloc | apply Kd.R_drewN | apply Kd.R_drew)); exact (Kd.R_mono (Kd.R_far (p := ⟨gb694, 2, none⟩) (Kd.R_far (p := ⟨gb694, 1, none⟩) (Kd.R_far (p := ⟨gb694, 0, none⟩) (Kd.R_types HO674.out BK694.out (by decide)) (fun _ hk => hk.2) (.int .i64 t687)) (fun _ hk => hk.2) (.slice Ao32 t688.length co32)) (fun _ hk => hk.2) (.slice Ao33 t691.length co33)) (fun _ h_ => h_.1))))) (Kd.R_lt (by (with_reducible repeat (first | apply Kd.R_alloc | apply Kd.R_drewN | apply Kd.R_drew)); exact (Kd.R_mono (Kd.R_far (p := ⟨gb694, 2, none⟩) (Kd.R_far (p := ⟨gb694, 1, none⟩) (Kd.R_far (p := ⟨gb694, 0, none⟩) (Kd.R_types HO677.out BK694.out (by decide)) (fun _ hk => hk.2) (.int .i64 t687)) (fun _ hk => hk.2) (.slice Ao32 t688.length co32)) (fun _ hk => hk.2) (.slice Ao33 t691.length co33)) (fun _ h_ => h_.1))))) (Kd.R_lt (by (with_reducible repeat (first | apply Kd.R_alloc | apply Kd.R_drewN | apply Kd.R_drew)); exact (Kd.R_mono (Kd.R_far (p := ⟨gb694, 2, none⟩) (Kd.R_far (p := ⟨gb694, 1, none⟩) (Kd.R_far (p := ⟨gb694, 0, none⟩) (Kd.R_types HO681.out BK694.out (by decide)) (fun _ hk => hk.2) (.int .i64 t687)) (fun _ hk => hk.2) (.slice Ao32 t688.length co32)) (fun _ hk => hk.2) (.slice Ao33 t691.length co33)) (fun _ h_ => h_.1))))) (Kd.R_lt (by (with_reducible repeat (first | apply Kd.R_alloc | apply Kd.R_drewN | apply Kd.R_drew)); exact (Kd.R_mono (Kd.R_far (p := ⟨gb694, 2, none⟩) (Kd.R_far (p := ⟨gb694, 1, none⟩) (Kd.R_far (p := ⟨gb694, 0, none⟩) (Kd.R_types HO684.out BK694.out (by decide)) (fun _ hk => hk.2) (.int .i64 t687)) (fun _ hk => hk.2) (.slice Ao32 t688.length co32)) (fun _ hk => hk.2) (.slice Ao33 t691.length co33)) (fun _ h_ => h_.1))))) (Kd.R_lt (by (with_reducible repeat (first | apply Kd.R_alloc | apply Kd.R_drewN | apply Kd.R_drew)); exact (Kd.R_mono (Kd.R_far (p := ⟨gb694, 2, none⟩) (Kd.R_far (p := ⟨gb694, 1, none⟩) (Kd.R_far (p := ⟨gb694, 0, none⟩) (Kd.R_types HO690.out BK694.out (by decide)) (fun _ hk => hk.2) (.int .i64 t687)) (fun _ hk => hk.2) (.slice Ao32 t688.length co32)) (fun _ hk => hk.2) (.slice Ao33 t691.length co33)) (fun _ h_ => h_.1))))) (Kd.R_lt (by (with_reducible repeat (first | apply Kd.R_alloc | apply Kd.R_drewN | apply Kd.R_drew)); exact (Kd.R_mono (Kd.R_far (p := ⟨gb694, 2, none⟩) (Kd.R_far (p := ⟨gb694, 1, none⟩) (Kd.R_far (p := ⟨gb694, 0, none⟩) (Kd.R_types HO693.out BK694.out (by decide)) (fun _ hk => hk.2) (.int .i64 t687)) (fun _ hk => hk.2) (.slice Ao32 t688.length co32)) (fun _ hk => hk.2) (.slice Ao33 t691.length co33)) (fun _ h_ => h_.1))))) (below_size (by repeat (first | (with_reducible first | exact HB.out | apply below_alloc | apply pw_below_drewN | apply below_drew1 | refine below_set ?_ GE669.out | refine below_set ?_ GE686.out | refine below_set ?_ GE694.out) | exact HB.out)))); have n8_ := Aside0.mk (blk_below (g := gb669) (o := .cells #[.int .i64 a0_0, .slice A0_1 l0_1.length c0_1, .slice A0_2 l0_2.length c0_2] 43 (0, 0)) (by (with_reducible repeat (first | refine blk_drewN ?_ _ | refine blk_drew ?_ | refine blk_alloc ?_ _)); refine blk_far ?_ NB669_694.out _; (with_reducible repeat (first | refine blk_drewN ?_ _ | refine blk_drew ?_ | refine blk_alloc ?_ _)); refine blk_far ?_ NB669_694.out _; (with_reducible repeat (first | refine blk_drewN ?_ _ | refine blk_drew ?_ | refine blk_alloc ?_ _)); refine blk_far ?_ NB669_694.out _; (with_reducible repeat (first | refine blk_drewN ?_ _ | refine blk_drew ?_ | refine blk_alloc ?_ _)); exact BK669.out) hb); have n9_ := Aside0.mk (blk_below (g := gb686) (o := .cells #[.int .i64 t678, .slice Ao24 t679.length co24, .slice Ao25 t682.length co25] 46 (0, 0)) (by (with_reducible repeat (first | refine blk_drewN ?_ _ | refine blk_drew ?_ | refine blk_alloc ?_ _)); refine blk_far ?_ NB686_694.out _; (with_reducible repeat (first | refine blk_drewN ?_ _ | refine blk_drew ?_ | refine blk_alloc ?_ _)); refine blk_far ?_ NB686_694.out _; (with_reducible repeat (first | refine blk_drewN ?_ _ | refine blk_drew ?_ | refine blk_alloc ?_ _)); refine blk_far ?_ NB686_694.out _; (with_reducible repeat (first | refine blk_drewN ?_ _ | refine blk_drew ?_ | refine blk_alloc ?_ _)); exact BK686.out) hb); have n10_ := Aside0.mk (blk_below (g := gb694) (o := .cells #[.int .i64 t687, .slice Ao32 t688.length co32, .slice Ao33 t691.length co33] 46 (0, 0)) (by (with_reducible repeat (first | refine blk_drewN ?_ _ | refine blk_drew ?_ | refine blk_alloc ?_ _)); refine blk_put (cs := #[.int .i64 t687, .slice Ao32 t688.length co32, .slice none 0 0]) ?_ 2 _ rfl; (with_reducible repeat (first | refine blk_drewN ?_ _ | refine blk_drew ?_ | refine blk_alloc ?_ _)); refine blk_put (cs := #[.int .i64 t687, .slice none 0 0, .slice none 0 0]) ?_ 1 _ rfl; (with_reducible repeat (first | refine blk_drewN ?_ _ | refine blk_drew ?_ | refine blk_alloc ?_ _)); refine blk_put (cs := #[.int .i64 0, .slice none 0 0, .slice none 0 0]) ?_ 0 _ rfl; (with_reducible repeat (first | refine blk_drewN ?_ _ | refine blk_drew ?_ | refine blk_alloc ?_ _)); exact BK694.out) hb); have n11_ := Aside0.mk (below_step (by repeat (first | (with_reducible first | exact HB.out | apply below_alloc | apply pw_below_drewN | apply below_drew1 | refine below_set ?_ GE669.out | refine below_set ?_ GE686.out | refine below_set ?_ GE694.out) | exact HB.out)) hb); clear HO674 HO677 HO681 HO684 HO690 HO693 BK669 BK686 BK694 HB; have HO674 := n0_; have HO677 := n1_; have HO681 := n2_; have HO684 := n3_; have HO690 := n4_; have HO693 := n5_; have HO698 := n6_; have HO701 := n7_; have BK669 := n8_; have BK686 := n9_; have BK694 := n10_; have HB := n11_; clear n0_ n1_ n2_ n3_ n4_ n5_ n6_ n7_ n8_ n9_ n10_ n11_; (try clear hb); (try clear hb2); (try clear hk); (try clear hi); (try clear ho0); (try clear ho1)) | ((with_reducible refine gate_dst (N := 9) rfl ?_); refine box_event ?hg (N := 9) ?hd (cs := #[.int .i64 0, .slice none 0 0, .slice none 0 0]) (t := 46) ?hr ?_; (case hd => rfl); (case hg => rfl); (case hr => first | (go_simp; done) | (go_simp; rfl)); intro gb703 hg w35 hbox hb; have n0_ := Aside0.mk (Kd.R_below (pkR HO674.out) hb); have n1_ := Aside0.mk (Kd.R_below (pkR HO677.out) hb); have n2_ := Aside0.mk (Kd.R_below (pkR HO681.out) hb); have n3_ := Aside0.mk (Kd.R_below (pkR HO684.out) hb); have n4_ := Aside0.mk (Kd.R_below (pkR HO690.out) hb); have n5_ := Aside0.mk (Kd.R_below (pkR HO693.out) hb); have n6_ := Aside0.mk (Kd.R_below (pkR HO698.out) hb); have n7_ := Aside0.mk (Kd.R_below (pkR HO701.out) hb); have n8_ := Aside0.mk (blk_below (g := gb669) (o := .cells #[.int .i64 a0_0, .slice A0_1 l0_1.length c0_1, .slice A0_2 l0_2.length c0_2] 43 (0, 0)) (pkK BK669.out) hb); have n9_ := Aside0.mk (blk_below (g := gb686) (o := .cells #[.int .i64 t678, .slice Ao24 t679.length co24, .slice Ao25 t682.length co25] 46 (0, 0)) (pkK BK686.out) hb); have n10_ := Aside0.mk (blk_below (g := gb694) (o := .cells #[.int .i64 t687, .slice Ao32 t688.length co32, .slice Ao33 t691.length co33] 46 (0, 0)) (pkK BK694.out) hb); have n11_ := Aside0.mk (below_step (by repeat (first | (with_reducible first | exact HB.out | apply below_alloc | apply pw_below_drewN | apply below_drew1 | refine below_set ?_ GE669.out | refine below_set ?_ GE686.out | refine below_set ?_ GE694.out) | exact HB.out)) hb); have n12_ := Aside0.mk (hbox); have n13_ := Aside0.mk ((by rw [hg]; exact (below_size (by repeat (first | (with_reducible first | exact HB.out | apply below_alloc | apply pw_below_drewN | apply below_drew1 | refine below_set ?_ GE669.out | refine below_set ?_ GE686.out | refine below_set ?_ GE694.out) | exact HB.out))) : w.heap.size ≤ gb703)); have n14_ := Aside0.mk ((by rw [hg]; exact (below_size (by repeat (first | (with_reducible first | exact HB.out | apply below_alloc | apply pw_below_drewN | apply below_drew1 | refine below_set ?_ GE669.out | refine below_set ?_ GE686.out | refine below_set ?_ GE694.out) | exact HB.out))) : w.heap.size ≤ gb703)); have n15_ := Aside0.mk ((by rw [hg]; exact Nat.ne_of_lt (blk_lt (g := gb669) (o := .cells #[.int .i64 a0_0, .slice A0_1 l0_1.length c0_1, .slice A0_2 l0_2.length c0_2] 43 (0, 0)) (pkK BK669.out)) : gb669 ≠ gb703)); have n16_ := Aside0.mk ((by rw [hg]; exact Nat.ne_of_gt (blk_lt (g := gb669) (o := .cells #[.int .i64 a0_0, .slice A0_1 l0_1.length c0_1, .slice A0_2 l0_2.length c0_2] 43 (0, 0)) (pkK BK669.out)) : gb703 ≠ gb669)); have n17_ := Aside0.mk ((by rw [hg]; exact Nat.ne_of_lt (blk_lt (g := gb686) (o := .cells #[.int .i64 t678, .slice Ao24 t679.length co24, .slice Ao25 t682.length co25] 46 (0, 0)) (pkK BK686.out)) : gb686 ≠ gb703)); have n18_ := Aside0.mk ((by rw [hg]; exact Nat.ne_of_gt (blk_lt (g := gb686) (o := .cells #[.int .i64 t678, .slice Ao24 t679.length co24, .slice Ao25 t682.length co25] 46 (0, 0)) (pkK BK686.out)) : gb703 ≠ gb686)); have n19_ := Aside0.mk ((by rw [hg]; exact Nat.ne_of_lt (blk_lt (g := gb694) (o := .cells #[.int .i64 t687, .slice Ao32 t688.length co32, .slice Ao33 t691.length co33] 46 (0, 0)) (pkK BK694.out)) : gb694 ≠ gb703)); have n20_ := Aside0.mk ((by rw [hg]; exact Nat.ne_of_gt (blk_lt (g := gb694) (o := .cells #[.int .i64 t687, .slice Ao32 t688.length co32, .slice Ao33 t691.length co33] 46 (0, 0)) (pkK BK694.out)) : gb703 ≠ gb694)); clear HO674 HO677 HO681 HO684 HO690 HO693 HO698 HO701 BK669 BK686 BK694 HB; have HO674 := n0_; have HO677 := n1_; have HO681 := n2_; have HO684 := n3_; have HO690 := n4_; have HO693 := n5_; have HO698 := n6_; have HO701 := n7_; have BK669 := n8_; have BK686 := n9_; have BK694 := n10_; have HB := n11_; have BK703 := n12_; have GW703 := n13_; have GE703 := n14_; have NB669_703 := n15_; have NB703_669 := n16_; have NB686_703 := n17_; have NB703_686 := n18_; have NB694_703 := n19_; have NB703_694 := n20_; clear n0_ n1_ n2_ n3_ n4_ n5_ n6_ n7_ n8_ n9_ n10_ n11_ n12_ n13_ n14_ n15_ n16_ n17_ n18_ n19_ n20_; clear hb hbox hg; have hnb36 := NB703_669.out; have hnc36 := NB669_703.out; have hnb37 := NB703_686.out; have hnc37 := NB686_703.out; have hnb38 := NB703_694.out; have hnc38 := NB694_703.out; have hcz39_0 : w35.cell? ⟨gb703, 0, none⟩ = some (.int .i64 0) := (blk_cell BK703.out 0).trans rfl; have hcz39_1 : w35.cell? ⟨gb703, 1, none⟩ = some (.slice none 0 0) := (blk_cell BK703.out 1).trans rfl; have hcz39_2 : w35.cell? ⟨gb703, 2, none⟩ = some (.slice none 0 0) := (blk_cell BK703.out 2).trans rfl; have hfz39_0 := blk_frozen BK703.out 0; have hfz39_1 := blk_frozen BK703.out 1; have hfz39_2 := blk_frozen BK703.out 2; obtain ⟨Ao40, co40, eo40⟩ := Kd.R_slice HO698.out; subst eo40; obtain ⟨Ao41, co41, eo41⟩ := Kd.R_slice HO701.out; subst eo41))
    (try simp only [Act.put, List.setIfInBounds_toArray, List.set_cons_zero, List.set_cons_succ])
    go_cut [44] (fun v44 wc => ∃ (kq : Nat) (x44_11 : Bool), v44 = .bool x44_11 ∧ Aside0 (laws_FnExactQuitLatch.j0 kq a1 t685 t702 x44_11 a0_0 l0_1 l0_2 t678 t679 t682 t687 t688 t691 t695 t696 t699 = some r) ∧ Aside0 (kq ≤ k) ∧ Aside0 (Kd.R (Kd.int .i64) 3 wc w.heap.size (fun k_ => some k_ ≠ ((.slice Ao25 t682.length co25) : Value).ownBlock ∧ some k_ ≠ ((.slice Ao32 t688.length co32) : Value).ownBlock ∧ some k_ ≠ ((.slice Ao33 t691.length co33) : Value).ownBlock ∧ some k_ ≠ ((.slice Ao40 t696.length co40) : Value).ownBlock ∧ some k_ ≠ ((.slice Ao41 t699.length co41) : Value).ownBlock) (.slice Ao24 t679.length co24) t679) ∧ Aside0 (Kd.R (Kd.int .i64) 3 wc w.heap.size (fun k_ => some k_ ≠ ((.slice Ao24 t679.length co24) : Value).ownBlock ∧ some k_ ≠ ((.slice Ao32 t688.length co32) : Value).ownBlock ∧ some k_ ≠ ((.slice Ao33 t691.length co33) : Value).ownBlock ∧ some k_ ≠ ((.slice Ao40 t696.length co40) : Value).ownBlock ∧ some k_ ≠ ((.slice Ao41 t699.length co41) : Value).ownBlock) (.slice Ao25 t682.length co25) t682) ∧ Aside0 (Kd.R (Kd.int .i64) 3 wc w.heap.size (fun k_ => some k_ ≠ ((.slice Ao24 t679.length co24) : Value).ownBlock ∧ some k_ ≠ ((.slice Ao25 t682.length co25) : Value).ownBlock ∧ some k_ ≠ ((.slice Ao33 t691.length co33) : Value).ownBlock ∧ some k_ ≠ ((.slice Ao40 t696.length co40) : Value).ownBlock ∧ some k_ ≠ ((.slice Ao41 t699.length co41) : Value).ownBlock) (.slice Ao32 t688.length co32) t688) ∧ Aside0 (Kd.R (Kd.int .i64) 3 wc w.heap.size (fun k_ => some k_ ≠ ((.slice Ao24 t679.length co24) : Value).ownBlock ∧ some k_ ≠ ((.slice Ao25 t682.length co25) : Value).ownBlock ∧ some k_ ≠ ((.slice Ao32 t688.length co32) : Value).ownBlock ∧ some k_ ≠ ((.slice Ao40 t696.length co40) : Value).ownBlock ∧ some k_ ≠ ((.slice Ao41 t699.length co41) : Value).ownBlock) (.slice Ao33 t691.length co33) t691) ∧ Aside0 (Kd.R (Kd.int .i64) 3 wc w.heap.size (fun k_ => some k_ ≠ ((.slice Ao24 t679.length co24) : Value).ownBlock ∧ some k_ ≠ ((.slice Ao25 t682.length co25) : Value).ownBlock ∧ some k_ ≠ ((.slice Ao32 t688.length co32) : Value).ownBlock ∧ some k_ ≠ ((.slice Ao33 t691.length co33) : Value).ownBlock ∧ some k_ ≠ ((.slice Ao41 t699.length co41) : Value).ownBlock) (.slice Ao40 t696.length co40) t696) ∧ Aside0 (Kd.R (Kd.int .i64) 3 wc w.heap.size (fun k_ => some k_ ≠ ((.slice Ao24 t679.length co24) : Value).ownBlock ∧ some k_ ≠ ((.slice Ao25 t682.length co25) : Value).ownBlock ∧ some k_ ≠ ((.slice Ao32 t688.length co32) : Value).ownBlock ∧ some k_ ≠ ((.slice Ao33 t691.length co33) : Value).ownBlock ∧ some k_ ≠ ((.slice Ao40 t696.length co40) : Value).ownBlock) (.slice Ao41 t699.length co41) t699) ∧ Aside0 (wc.heap[gb669]? = some (.cells #[.int .i64 a0_0, (.slice A0_1 l0_1.length c0_1), (.slice A0_2 l0_2.length c0_2)] 43 (0, 0))) ∧ Aside0 (wc.heap[gb686]? = some (.cells #[.int .i64 t678, (.slice Ao24 t679.length co24), (.slice Ao25 t682.length co25)] 46 (0, 0))) ∧ Aside0 (wc.heap[gb694]? = some (.cells #[.int .i64 t687, (.slice Ao32 t688.length co32), (.slice Ao33 t691.length co33)] 46 (0, 0))) ∧ Aside0 (wc.heap[gb703]? = some (.cells #[.int .i64 t695, (.slice Ao40 t696.length co40), (.slice Ao41 t699.length co41)] 46 (0, 0))) ∧ Aside0 (Below w.heap.size w wc))
    case first =>
      have H := HC12.out
      clear HC12
      replace H := Option.bind_eq_some_iff.mp H
      obtain ⟨t704, A420, H⟩ := H
      replace H : (if t704 = true then (laws_FnExactQuitLatch.j0 k a1 t685 t702 (t702 != t685) a0_0 l0_1 l0_2 t678 t679 t682 t687 t688 t691 t695 t696 t699) else (laws_FnExactQuitLatch.j0 k a1 t685 t702 true a0_0 l0_1 l0_2 t678 t679 t682 t687 t688 t691 t695 t696 t699)) = some r := H
      have A42 := Aside0.mk A420
      clear A420
      by_cases c43 : t704 = true
      · subst c43
        have H1 : (laws_FnExactQuitLatch.j0 k a1 t685 t702 (t702 != t685) a0_0 l0_1 l0_2 t678 t679 t682 t687 t688 t691 t695 t696 t699) = some r := by rw [if_pos rfl] at H; exact H
        clear H
        have H := H1
        clear H1
        have H' := Aside0.mk H
        clear H
        have hnb44 := NB703_669.out
        have hnc44 := NB669_703.out
        have hnb45 := NB703_686.out
        have hnc45 := NB686_703.out
        have hnb46 := NB703_694.out
        have hnc46 := NB694_703.out
        have hcz47_0 : w35.cell? ⟨gb703, 0, none⟩ = some (.int .i64 0) := (blk_cell BK703.out 0).trans rfl
        have hcz47_1 : w35.cell? ⟨gb703, 1, none⟩ = some (.slice none 0 0) := (blk_cell BK703.out 1).trans rfl
        have hcz47_2 : w35.cell? ⟨gb703, 2, none⟩ = some (.slice none 0 0) := (blk_cell BK703.out 2).trans rfl
        have hfz47_0 := blk_frozen BK703.out 0
        have hfz47_1 := blk_frozen BK703.out 1
        have hfz47_2 := blk_frozen BK703.out 2
        have hnb48 := NB686_669.out
        have hnc48 := NB669_686.out
        have hnb49 := NB686_694.out
        have hnc49 := NB694_686.out
        have hcz50_0 : w35.cell? ⟨gb686, 0, none⟩ = some (.int .i64 t678) := (blk_cell BK686.out 0).trans rfl
        have hcz50_1 : w35.cell? ⟨gb686, 1, none⟩ = some (.slice Ao24 t679.length co24) := (blk_cell BK686.out 1).trans rfl
        have hcz50_2 : w35.cell? ⟨gb686, 2, none⟩ = some (.slice Ao25 t682.length co25) := (blk_cell BK686.out 2).trans rfl
        have hfz50_0 := blk_frozen BK686.out 0
        have hfz50_1 := blk_frozen BK686.out 1
        have hfz50_2 := blk_frozen BK686.out 2
        go_wp2_with (first | ((with_reducible refine gate_callee (f := 27) rfl ?_); refine goesL_ (some 38) rfl rfl Try.func27 (by kernel_rfl) rfl #[.agg #[.int .i64 t695, .slice Ao40 t696.length co40, .slice Ao41 t699.length co41], .agg #[.int .i64 t678, .slice Ao24 t679.length co24, .slice Ao25 t682.length co25]] rfl (by (try simp only [List.map_toArray, List.map_cons, List.map_nil]); first | done | rfl | (simp only [List.length_drop, List.length_take]; rfl) | (go_simp; done) | (simp [*]; done)) ?_; (with_reducible refine (laws_eqLatch.calls k t695 _ _ t696 _ _ t699 t678 _ _ t679 _ _ t682 true _ ?side1 ?side2 ?side3 ?side4 ?side5 ?side6 ?side7 ?side8 A42.out).mono ?_); (case side1 => refine (Kd.R_reads' (e := 3) (base := w.heap.size) (ok := fun k_ => ((((((some k_ ≠ (.slice Ao41 t699.length co41 : Value).ownBlock ∧ some k_ ≠ (.slice Ao18 t672.length co18 : Value).ownBlock) ∧ some k_ ≠ (.slice Ao19 t675.length co19 : Value).ownBlock) ∧ some k_ ≠ (.slice Ao24 t679.length co24 : Value).ownBlock) ∧ some k_ ≠ (.slice Ao25 t682.length co25 : Value).ownBlock) ∧ some k_ ≠ (.slice Ao32 t688.length co32 : Value).ownBlock) ∧ some k_ ≠ (.slice Ao33 t691.length co33 : Value).ownBlock)) (n := t696.length) (c := co40) ?_).2.2; exact (by (with_reducible repeat (first | apply Kd.R_alloc | apply Kd.R_drewN | apply Kd.R_drew)); exact (Kd.R_mono (Kd.R_far (p := ⟨gb703, 2, none⟩) (Kd.R_far (p := ⟨gb703, 1, none⟩) (Kd.R_far (p := ⟨gb703, 0, none⟩) (Kd.R_types HO698.out BK703.out (by decide)) (fun _ hk => hk.2) (.int .i64 t695)) (fun _ hk => hk.2) (.slice Ao40 t696.length co40)) (fun _ hk => hk.2) (.slice Ao41 t699.length co41)) (fun _ h_ => h_.1)))); (case side2 => exact (Kd.R_reads' HO698.out).2.1); (case side3 => refine (Kd.R_reads' (e := 3) (base := w.heap.size) (ok := fun k_ => ((((((some k_ ≠ (.slice Ao40 t696.length co40 : Value).ownBlock ∧ some k_ ≠ (.slice Ao18 t672.length co18 : Value).ownBlock) ∧ some k_ ≠ (.slice Ao19 t675.length co19 : Value).ownBlock) ∧ some k_ ≠ (.slice Ao24 t679.length co24 : Value).ownBlock) ∧ some k_ ≠ (.slice Ao25 t682.length co25 : Value).ownBlock) ∧ some k_ ≠ (.slice Ao32 t688.length co32 : Value).ownBlock) ∧ some k_ ≠ (.slice Ao33 t691.length co33 : Value).ownBlock)) (n := t699.length) (c := co41) ?_).2.2; exact (by (with_reducible repeat (first | apply Kd.R_alloc | apply Kd.R_drewN | apply Kd.R_drew)); exact (Kd.R_mono (Kd.R_far (p := ⟨gb703, 2, none⟩) (Kd.R_far (p := ⟨gb703, 1, none⟩) (Kd.R_far (p := ⟨gb703, 0, none⟩) (Kd.R_types HO701.out BK703.out (by decide)) (fun _ hk => hk.2) (.int .i64 t695)) (fun _ hk => hk.2) (.slice Ao40 t696.length co40)) (fun _ hk => hk.2) (.slice Ao41 t699.length co41)) (fun _ h_ => h_.1)))); (case side4 => exact (Kd.R_reads' HO701.out).2.1); (case side5 => refine (Kd.R_reads' (e := 3) (base := w.heap.size) (ok := fun k_ => ((((((some k_ ≠ (.slice Ao25 t682.length co25 : Value).ownBlock ∧ some k_ ≠ (.slice Ao18 t672.length co18 : Value).ownBlock) ∧ some k_ ≠ (.slice Ao19 t675.length co19 : Value).ownBlock) ∧ some k_ ≠ (.slice Ao32 t688.length co32 : Value).ownBlock) ∧ some k_ ≠ (.slice Ao33 t691.length co33 : Value).ownBlock) ∧ some k_ ≠ (.slice Ao40 t696.length co40 : Value).ownBlock) ∧ some k_ ≠ (.slice Ao41 t699.length co41 : Value).ownBlock)) (n := t679.length) (c := co24) ?_).2.2; exact (by (with_reducible repeat (first | apply Kd.R_alloc | apply Kd.R_drewN | apply Kd.R_drew)); exact (Kd.R_mono (Kd.R_far (p := ⟨gb703, 2, none⟩) (Kd.R_far (p := ⟨gb703, 1, none⟩) (Kd.R_far (p := ⟨gb703, 0, none⟩) (Kd.R_types HO681.out BK703.out (by decide)) (fun _ hk => hk.2) (.int .i64 t695)) (fun _ hk => hk.2) (.slice Ao40 t696.length co40)) (fun _ hk => hk.2) (.slice Ao41 t699.length co41)) (fun _ h_ => h_.1)))); (case side6 => exact (Kd.R_reads' HO681.out).2.1); (case side7 => refine (Kd.R_reads' (e := 3) (base := w.heap.size) (ok := fun k_ => ((((((some k_ ≠ (.slice Ao24 t679.length co24 : Value).ownBlock ∧ some k_ ≠ (.slice Ao18 t672.length co18 : Value).ownBlock) ∧ some k_ ≠ (.slice Ao19 t675.length co19 : Value).ownBlock) ∧ some k_ ≠ (.slice Ao32 t688.length co32 : Value).ownBlock) ∧ some k_ ≠ (.slice Ao33 t691.length co33 : Value).ownBlock) ∧ some k_ ≠ (.slice Ao40 t696.length co40 : Value).ownBlock) ∧ some k_ ≠ (.slice Ao41 t699.length co41 : Value).ownBlock)) (n := t682.length) (c := co25) ?_).2.2; exact (by (with_reducible repeat (first | apply Kd.R_alloc | apply Kd.R_drewN | apply Kd.R_drew)); exact (Kd.R_mono (Kd.R_far (p := ⟨gb703, 2, none⟩) (Kd.R_far (p := ⟨gb703, 1, none⟩) (Kd.R_far (p := ⟨gb703, 0, none⟩) (Kd.R_types HO684.out BK703.out (by decide)) (fun _ hk => hk.2) (.int .i64 t695)) (fun _ hk => hk.2) (.slice Ao40 t696.length co40)) (fun _ hk => hk.2) (.slice Ao41 t699.length co41)) (fun _ h_ => h_.1)))); (case side8 => exact (Kd.R_reads' HO684.out).2.1); rintro e w51 ⟨rfl, hb⟩; refine ⟨_, rfl, ?_⟩; have n0_ := Aside0.mk (Kd.R_below (by (with_reducible repeat (first | apply Kd.R_alloc | apply Kd.R_drewN | apply Kd.R_drew)); exact (Kd.R_mono (Kd.R_far (p := ⟨gb703, 2, none⟩) (Kd.R_far (p := ⟨gb703, 1, none⟩) (Kd.R_far (p := ⟨gb703, 0, none⟩) (Kd.R_types HO674.out BK703.out (by decide)) (fun _ hk => hk.2) (.int .i64 t695)) (fun _ hk => hk.2) (.slice Ao40 t696.length co40)) (fun _ hk => hk.2) (.slice Ao41 t699.length co41)) (fun _ h_ => h_.1))) hb); have n1_ := Aside0.mk (Kd.R_below (by (with_reducible repeat (first | apply Kd.R_alloc | apply Kd.R_drewN | apply Kd.R_drew)); exact (Kd.R_mono (Kd.R_far (p := ⟨gb703, 2, none⟩) (Kd.R_far (p := ⟨gb703, 1, none⟩) (Kd.R_far (p := ⟨gb703, 0, none⟩) (Kd.R_types HO677.out BK703.out (by decide)) (fun _ hk => hk.2) (.int .i64 t695)) (fun _ hk => hk.2) (.slice Ao40 t696.length co40)) (fun _ hk => hk.2) (.slice Ao41 t699.length co41)) (fun _ h_ => h_.1))) hb); have n2_ := Aside0.mk (Kd.R_below (by (with_reducible repeat (first | apply Kd.R_alloc | apply Kd.R_drewN | apply Kd.R_drew)); exact (Kd.R_mono (Kd.R_far (p := ⟨gb703, 2, none⟩) (Kd.R_far (p := ⟨gb703, 1, none⟩) (Kd.R_far (p := ⟨gb703, 0, none⟩) (Kd.R_types HO681.out BK703.out (by decide)) (fun _ hk => hk.2) (.int .i64 t695)) (fun _ hk => hk.2) (.slice Ao40 t696.length co40)) (fun _ hk => hk.2) (.slice Ao41 t699.length co41)) (fun _ h_ => h_.1))) hb); have n3_ := Aside0.mk (Kd.R_below (by (with_reducible repeat (first | apply Kd.R_alloc | apply Kd.R_drewN | apply Kd.R_drew)); exact (Kd.R_mono (Kd.R_far (p := ⟨gb703, 2, none⟩) (Kd.R_far (p := ⟨gb703, 1, none⟩) (Kd.R_far (p := ⟨gb703, 0, none⟩) (Kd.R_types HO684.out BK703.out (by decide)) (fun _ hk => hk.2) (.int .i64 t695)) (fun _ hk => hk.2) (.slice Ao40 t696.length co40)) (fun _ hk => hk.2) (.slice Ao41 t699.length co41)) (fun _ h_ => h_.1))) hb); have n4_ := Aside0.mk (Kd.R_below (by (with_reducible repeat (first | apply Kd.R_alloc | apply Kd.R_drewN | apply Kd.R_drew)); exact (Kd.R_mono (Kd.R_far (p := ⟨gb703, 2, none⟩) (Kd.R_far (p := ⟨gb703, 1, none⟩) (Kd.R_far (p := ⟨gb703, 0, none⟩) (Kd.R_types HO690.out BK703.out (by decide)) (fun _ hk => hk.2) (.int .i64 t695)) (fun _ hk => hk.2) (.slice Ao40 t696.length co40)) (fun _ hk => hk.2) (.slice Ao41 t699.length co41)) (fun _ h_ => h_.1))) hb); have n5_ := Aside0.mk (Kd.R_below (by (with_reducible repeat (first | apply Kd.R_alloc | apply Kd.R_drewN | apply Kd.R_drew)); exact (Kd.R_mono (Kd.R_far (p := ⟨gb703, 2, none⟩) (Kd.R_far (p := ⟨gb703, 1, none⟩) (Kd.R_far (p := ⟨gb703, 0, none⟩) (Kd.R_types HO693.out BK703.out (by decide)) (fun _ hk => hk.2) (.int .i64 t695)) (fun _ hk => hk.2) (.slice Ao40 t696.length co40)) (fun _ hk => hk.2) (.slice Ao41 t699.length co41)) (fun _ h_ => h_.1))) hb); have n6_ := Aside0.mk (Kd.R_below (by (with_reducible repeat (first | apply Kd.R_alloc | apply Kd.R_drewN | apply Kd.R_drew)); exact (Kd.R_mono (Kd.R_far (p := ⟨gb703, 2, none⟩) (Kd.R_far (p := ⟨gb703, 1, none⟩) (Kd.R_far (p := ⟨gb703, 0, none⟩) (Kd.R_types HO698.out BK703.out (by decide)) (fun _ hk => hk.2) (.int .i64 t695)) (fun _ hk => hk.2) (.slice Ao40 t696.length co40)) (fun _ hk => hk.2) (.slice Ao41 t699.length co41)) (fun _ h_ => h_.1))) hb); have n7_ := Aside0.mk (Kd.R_below (by (with_reducible repeat (first | apply Kd.R_alloc | apply Kd.R_drewN | apply Kd.R_drew)); exact (Kd.R_mono (Kd.R_far (p := ⟨gb703, 2, none⟩) (Kd.R_far (p := ⟨gb703, 1, none⟩) (Kd.R_far (p := ⟨gb703, 0, none⟩) (Kd.R_types HO701.out BK703.out (by decide)) (fun _ hk => hk.2) (.int .i64 t695)) (fun _ hk => hk.2) (.slice Ao40 t696.length co40)) (fun _ hk => hk.2) (.slice Ao41 t699.length co41)) (fun _ h_ => h_.1))) hb); have n8_ := Aside0.mk (blk_below (g := gb669) (o := .cells #[.int .i64 a0_0, .slice A0_1 l0_1.length c0_1, .slice A0_2 l0_2.length c0_2] 43 (0, 0)) (by (with_reducible repeat (first | refine blk_drewN ?_ _ | refine blk_drew ?_ | refine blk_alloc ?_ _)); refine blk_far ?_ NB669_703.out _; (with_reducible repeat (first | refine blk_drewN ?_ _ | refine blk_drew ?_ | refine blk_alloc ?_ _)); refine blk_far ?_ NB669_703.out _; (with_reducible repeat (first | refine blk_drewN ?_ _ | refine blk_drew ?_ | refine blk_alloc ?_ _)); refine blk_far ?_ NB669_703.out _; (with_reducible repeat (first | refine blk_drewN ?_ _ | refine blk_drew ?_ | refine blk_alloc ?_ _)); exact BK669.out) hb); have n9_ := Aside0.mk (blk_below (g := gb686) (o := .cells #[.int .i64 t678, .slice Ao24 t679.length co24, .slice Ao25 t682.length co25] 46 (0, 0)) (by (with_reducible repeat (first | refine blk_drewN ?_ _ | refine blk_drew ?_ | refine blk_alloc ?_ _)); refine blk_far ?_ NB686_703.out _; (with_reducible repeat (first | refine blk_drewN ?_ _ | refine blk_drew ?_ | refine blk_alloc ?_ _)); refine blk_far ?_ NB686_703.out _; (with_reducible repeat (first | refine blk_drewN ?_ _ | refine blk_drew ?_ | refine blk_alloc ?_ _)); refine blk_far ?_ NB686_703.out _; (with_reducible repeat (first | refine blk_drewN ?_ _ | refine blk_drew ?_ | refine blk_alloc ?_ _)); exact BK686.out) hb); have n10_ := Aside0.mk (blk_below (g := gb694) (o := .cells #[.int .i64 t687, .slice Ao32 t688.length co32, .slice Ao33 t691.length co33] 46 (0, 0)) (by (with_reducible repeat (first | refine blk_drewN ?_ _ | refine blk_drew ?_ | refine blk_alloc ?_ _)); refine blk_far ?_ NB694_703.out _; (with_reducible repeat (first | refine blk_drewN ?_ _ | refine blk_drew ?_ | refine blk_alloc ?_ _)); refine blk_far ?_ NB694_703.out _; (with_reducible repeat (first | refine blk_drewN ?_ _ | refine blk_drew ?_ | refine blk_alloc ?_ _)); refine blk_far ?_ NB694_703.out _; (with_reducible repeat (first | refine blk_drewN ?_ _ | refine blk_drew ?_ | refine blk_alloc ?_ _)); exact BK694.out) hb); have n11_ := Aside0.mk (blk_below (g := gb703) (o := .cells #[.int .i64 t695, .slice Ao40 t696.length co40, .slice Ao41 t699.length co41] 46 (0, 0)) (by (with_reducible repeat (first | refine blk_drewN ?_ _ | refine blk_drew ?_ | refine blk_alloc ?_ _)); refine blk_put (cs := #[.int .i64 t695, .slice Ao40 t696.length co40, .slice none 0 0]) ?_ 2 _ rfl; (with_reducible repeat (first | refine blk_drewN ?_ _ | refine blk_drew ?_ | refine blk_alloc ?_ _)); refine blk_put (cs := #[.int .i64 t695, .slice none 0 0, .slice none 0 0]) ?_ 1 _ rfl; (with_reducible repeat (first | refine blk_drewN ?_ _ | refine blk_drew ?_ | refine blk_alloc ?_ _)); refine blk_put (cs := #[.int .i64 0, .slice none 0 0, .slice none 0 0]) ?_ 0 _ rfl; (with_reducible repeat (first | refine blk_drewN ?_ _ | refine blk_drew ?_ | refine blk_alloc ?_ _)); exact BK703.out) hb); have n12_ := Aside0.mk (below_step (by repeat (first | (with_reducible first | exact HB.out | apply below_alloc | apply pw_below_drewN | apply below_drew1 | refine below_set ?_ GE669.out | refine below_set ?_ GE686.out | refine below_set ?_ GE694.out | refine below_set ?_ GE703.out) | exact HB.out)) hb); clear HO674 HO677 HO681 HO684 HO690 HO693 HO698 HO701 BK669 BK686 BK694 BK703 HB; have HO674 := n0_; have HO677 := n1_; have HO681 := n2_; have HO684 := n3_; have HO690 := n4_; have HO693 := n5_; have HO698 := n6_; have HO701 := n7_; have BK669 := n8_; have BK686 := n9_; have BK694 := n10_; have BK703 := n11_; have HB := n12_; clear n0_ n1_ n2_ n3_ n4_ n5_ n6_ n7_ n8_ n9_ n10_ n11_ n12_; (try clear hb); (try clear hb2); (try clear hk); (try clear hi)))
        go_meet
        case rel => exact ⟨_, ((t702 != t685)), (by first | rfl | (simp; done) | (simp [*]; done)), H', ⟨by first | omega | exact Nat.le_refl _⟩, ⟨by (with_reducible repeat (first | apply Kd.R_alloc | apply Kd.R_drewN | apply Kd.R_drew)); exact Kd.R_mono HO681.out (fun _ hk => ⟨hk.1.1.1.1.1.1, ⟨hk.1.1.1.2, ⟨hk.1.1.2, ⟨hk.1.2, hk.2⟩⟩⟩⟩)⟩, ⟨by (with_reducible repeat (first | apply Kd.R_alloc | apply Kd.R_drewN | apply Kd.R_drew)); exact Kd.R_mono HO684.out (fun _ hk => ⟨hk.1.1.1.1.1.1, ⟨hk.1.1.1.2, ⟨hk.1.1.2, ⟨hk.1.2, hk.2⟩⟩⟩⟩)⟩, ⟨by (with_reducible repeat (first | apply Kd.R_alloc | apply Kd.R_drewN | apply Kd.R_drew)); exact Kd.R_mono HO690.out (fun _ hk => ⟨hk.1.1.1.2, ⟨hk.1.1.2, ⟨hk.1.1.1.1.1.1, ⟨hk.1.2, hk.2⟩⟩⟩⟩)⟩, ⟨by (with_reducible repeat (first | apply Kd.R_alloc | apply Kd.R_drewN | apply Kd.R_drew)); exact Kd.R_mono HO693.out (fun _ hk => ⟨hk.1.1.1.2, ⟨hk.1.1.2, ⟨hk.1.1.1.1.1.1, ⟨hk.1.2, hk.2⟩⟩⟩⟩)⟩, ⟨by (with_reducible repeat (first | apply Kd.R_alloc | apply Kd.R_drewN | apply Kd.R_drew)); exact Kd.R_mono HO698.out (fun _ hk => ⟨hk.1.1.1.2, ⟨hk.1.1.2, ⟨hk.1.2, ⟨hk.2, hk.1.1.1.1.1.1⟩⟩⟩⟩)⟩, ⟨by (with_reducible repeat (first | apply Kd.R_alloc | apply Kd.R_drewN | apply Kd.R_drew)); exact Kd.R_mono HO701.out (fun _ hk => ⟨hk.1.1.1.2, ⟨hk.1.1.2, ⟨hk.1.2, ⟨hk.2, hk.1.1.1.1.1.1⟩⟩⟩⟩)⟩, ⟨pkK BK669.out⟩, ⟨pkK BK686.out⟩, ⟨pkK BK694.out⟩, ⟨pkK BK703.out⟩, ⟨by repeat (first | (with_reducible first | exact HB.out | apply below_alloc | apply pw_below_drewN | apply below_drew1 | refine below_set ?_ GE669.out | refine below_set ?_ GE686.out | refine below_set ?_ GE694.out | refine below_set ?_ GE703.out) | exact HB.out)⟩⟩
      · replace c43 := Bool.eq_false_iff.mpr c43
        subst c43
        have H1 : (laws_FnExactQuitLatch.j0 k a1 t685 t702 true a0_0 l0_1 l0_2 t678 t679 t682 t687 t688 t691 t695 t696 t699) = some r := by rw [if_neg (show ¬ (false = true) by decide)] at H; exact H
        clear H
        have H := H1
        clear H1
        cases k with
        | zero => exact absurd H (by simp [laws_FnExactQuitLatch.j0])
        | succ k_ => (simp only [laws_FnExactQuitLatch.j0, if_pos] at H; exact absurd (Option.some.inj H) (by rw [HQ_.out]; simp))
    case rest =>
      clear HC12
      try clear c2
      try clear p2
      try clear c3
      try clear c4
      try clear c4b0
      try clear c9
      try clear c22
      try clear c23
      try clear c25
      try clear c27
      try clear c29
      try clear c30
      try clear c36
      try clear c37
      try clear c38
      try clear c40
      try clear c41
      try clear c43
      try clear c44
      try clear c45
      try clear c46
      try clear c48
      try clear c49
      try clear hcz14_0
      try clear hcz14_1
      try clear hcz14_2
      try clear hcz16_0
      try clear hcz16_1
      try clear hcz16_2
      try clear hcz23_0
      try clear hcz23_1
      try clear hcz23_2
      try clear hcz26_0
      try clear hcz26_1
      try clear hcz26_2
      try clear hcz31_0
      try clear hcz31_1
      try clear hcz31_2
      try clear hcz39_0
      try clear hcz39_1
      try clear hcz39_2
      try clear hcz47_0
      try clear hcz47_1
      try clear hcz47_2
      try clear hcz50_0
      try clear hcz50_1
      try clear hcz50_2
      try clear hcz6_0
      try clear hcz6_1
      try clear hcz6_2
      try clear hfz14_0
      try clear hfz14_1
      try clear hfz14_2
      try clear hfz16_0
      try clear hfz16_1
      try clear hfz16_2
      try clear hfz23_0
      try clear hfz23_1
      try clear hfz23_2
      try clear hfz26_0
      try clear hfz26_1
      try clear hfz26_2
      try clear hfz31_0
      try clear hfz31_1
      try clear hfz31_2
      try clear hfz39_0
      try clear hfz39_1
      try clear hfz39_2
      try clear hfz47_0
      try clear hfz47_1
      try clear hfz47_2
      try clear hfz50_0
      try clear hfz50_1
      try clear hfz50_2
      try clear hfz6_0
      try clear hfz6_1
      try clear hfz6_2
      obtain ⟨kq, x44_11, rfl, HA, HJ11, HO_687001, HO_687002, HO_695001, HO_695002, HO_704001, HO_704002, BK669, BK686, BK694, BK703, HB⟩ := hcut
      cases kq with
      | zero => exact absurd HA.out (by simp [laws_FnExactQuitLatch.j0])
      | succ kj11 =>
        have H := HA.out
        clear HA
        simp only [laws_FnExactQuitLatch.j0] at H
        by_cases c52 : x44_11 = true
        · subst c52
          have H1 : (some false) = some r := by rw [if_pos rfl] at H; exact H
          clear H
          have H := H1
          clear H1
          exact absurd (Option.some.inj H) (by rw [HQ_.out]; simp)
        · replace c52 := Bool.eq_false_iff.mpr c52
          subst c52
          have H1 : ((laws_toLatch.f kj11 a0_0 l0_1 l0_2).bind fun bt705 => ((laws_eqLatch.f kj11 t687 t688 t691 bt705.1 bt705.2.1 bt705.2.2).bind fun t712 => (if t712 = true then ((laws_markLatch.f kj11 t687 t688 t691 1).bind fun bt713 => (if bt713.1 < 0 then (laws_FnExactQuitLatch.j1 kj11 a1 t685 true a0_0 l0_1 l0_2 t678 t679 t682 t695 t696 t699) else ((laws_eqLatch.f kj11 t695 t696 t699 t678 t679 t682).bind fun t716 => (if t716 = true then (laws_FnExactQuitLatch.j1 kj11 a1 t685 (t702 != t685) a0_0 l0_1 l0_2 t678 t679 t682 t695 t696 t699) else (laws_FnExactQuitLatch.j1 kj11 a1 t685 true a0_0 l0_1 l0_2 t678 t679 t682 t695 t696 t699))))) else (some false)))) = some r := by rw [if_neg (show ¬ (false = true) by decide)] at H; exact H
          clear H
          have H := H1
          clear H1
          replace H := Option.bind_eq_some_iff.mp H
          obtain ⟨⟨t705, t706, t709⟩, A530, H⟩ := H
          replace H : ((laws_eqLatch.f kj11 t687 t688 t691 t705 t706 t709).bind fun t712 => (if t712 = true then ((laws_markLatch.f kj11 t687 t688 t691 1).bind fun bt713 => (if bt713.1 < 0 then (laws_FnExactQuitLatch.j1 kj11 a1 t685 true a0_0 l0_1 l0_2 t678 t679 t682 t695 t696 t699) else ((laws_eqLatch.f kj11 t695 t696 t699 t678 t679 t682).bind fun t716 => (if t716 = true then (laws_FnExactQuitLatch.j1 kj11 a1 t685 (t702 != t685) a0_0 l0_1 l0_2 t678 t679 t682 t695 t696 t699) else (laws_FnExactQuitLatch.j1 kj11 a1 t685 true a0_0 l0_1 l0_2 t678 t679 t682 t695 t696 t699))))) else (some false))) = some r := H
          have A53 := Aside0.mk A530
          clear A530
          replace H := Option.bind_eq_some_iff.mp H
          obtain ⟨t712, A540, H⟩ := H
          replace H : (if t712 = true then ((laws_markLatch.f kj11 t687 t688 t691 1).bind fun bt713 => (if bt713.1 < 0 then (laws_FnExactQuitLatch.j1 kj11 a1 t685 true a0_0 l0_1 l0_2 t678 t679 t682 t695 t696 t699) else ((laws_eqLatch.f kj11 t695 t696 t699 t678 t679 t682).bind fun t716 => (if t716 = true then (laws_FnExactQuitLatch.j1 kj11 a1 t685 (t702 != t685) a0_0 l0_1 l0_2 t678 t679 t682 t695 t696 t699) else (laws_FnExactQuitLatch.j1 kj11 a1 t685 true a0_0 l0_1 l0_2 t678 t679 t682 t695 t696 t699))))) else (some false)) = some r := H
          have A54 := Aside0.mk A540
          clear A540
          by_cases c55 : t712 = true
          · subst c55
            have H1 : ((laws_markLatch.f kj11 t687 t688 t691 1).bind fun bt713 => (if bt713.1 < 0 then (laws_FnExactQuitLatch.j1 kj11 a1 t685 true a0_0 l0_1 l0_2 t678 t679 t682 t695 t696 t699) else ((laws_eqLatch.f kj11 t695 t696 t699 t678 t679 t682).bind fun t716 => (if t716 = true then (laws_FnExactQuitLatch.j1 kj11 a1 t685 (t702 != t685) a0_0 l0_1 l0_2 t678 t679 t682 t695 t696 t699) else (laws_FnExactQuitLatch.j1 kj11 a1 t685 true a0_0 l0_1 l0_2 t678 t679 t682 t695 t696 t699))))) = some r := by rw [if_pos rfl] at H; exact H
            clear H
            have H := H1
            clear H1
            replace H := Option.bind_eq_some_iff.mp H
            obtain ⟨⟨t713, t714, t715⟩, A560, H⟩ := H
            replace H : (if t713 < 0 then (laws_FnExactQuitLatch.j1 kj11 a1 t685 true a0_0 l0_1 l0_2 t678 t679 t682 t695 t696 t699) else ((laws_eqLatch.f kj11 t695 t696 t699 t678 t679 t682).bind fun t716 => (if t716 = true then (laws_FnExactQuitLatch.j1 kj11 a1 t685 (t702 != t685) a0_0 l0_1 l0_2 t678 t679 t682 t695 t696 t699) else (laws_FnExactQuitLatch.j1 kj11 a1 t685 true a0_0 l0_1 l0_2 t678 t679 t682 t695 t696 t699)))) = some r := H
            have A56 := Aside0.mk A560
            clear A560
            have HC57 := Aside0.mk H
            clear H
            try go_wp2
            have n0_ := Aside0.mk (Kd.R_drew HO_687001.out)
            have n1_ := Aside0.mk (Kd.R_drew HO_687002.out)
            have n2_ := Aside0.mk (Kd.R_drew HO_695001.out)
            have n3_ := Aside0.mk (Kd.R_drew HO_695002.out)
            have n4_ := Aside0.mk (Kd.R_drew HO_704001.out)
            have n5_ := Aside0.mk (Kd.R_drew HO_704002.out)
            have n6_ := Aside0.mk (blk_drew BK669.out)
            have n7_ := Aside0.mk (blk_drew BK686.out)
            have n8_ := Aside0.mk (blk_drew BK694.out)
            have n9_ := Aside0.mk (blk_drew BK703.out)
            have n10_ := Aside0.mk (below_drew1 HB.out)
            clear HO_687001 HO_687002 HO_695001 HO_695002 HO_704001 HO_704002 BK669 BK686 BK694 BK703 HB
            have HO_687001 := n0_; have HO_687002 := n1_; have HO_695001 := n2_; have HO_695002 := n3_; have HO_704001 := n4_; have HO_704002 := n5_; have BK669 := n6_; have BK686 := n7_; have BK694 := n8_; have BK703 := n9_; have HB := n10_
            clear n0_ n1_ n2_ n3_ n4_ n5_ n6_ n7_ n8_ n9_ n10_
            refine start_ (n := 5) (S := fun w' => w'.cell? ⟨gb694, 0, none⟩ = some (.int .i64 t687) ∧ w'.cell? ⟨gb694, 1, none⟩ = some (.slice Ao32 t688.length co32) ∧ w'.cell? ⟨gb694, 2, none⟩ = some (.slice Ao33 t691.length co33) ∧ w'.cell? ⟨gb669, 0, none⟩ = some (.int .i64 a0_0) ∧ w'.cell? ⟨gb669, 1, none⟩ = some (.slice A0_1 l0_1.length c0_1) ∧ w'.cell? ⟨gb669, 2, none⟩ = some (.slice A0_2 l0_2.length c0_2)) (ds := []) #[false, false, false, false, false] (by kernel_rfl) rfl rfl ⟨(blk_cell BK694.out 0).trans rfl, (blk_cell BK694.out 1).trans rfl, (blk_cell BK694.out 2).trans rfl, (blk_cell BK669.out 0).trans rfl, (blk_cell BK669.out 1).trans rfl, (blk_cell BK669.out 2).trans rfl⟩ (fun hHeld => ?_)
            generalize wc.drew = w58 at HO_687001 HO_687002 HO_695001 HO_695002 HO_704001 HO_704002 BK669 BK686 BK694 BK703 HB hHeld ⊢
            refine take_ (i := 0) (N := some 45) (v := ?_) (a' := ?_) #[true, false, false, false, false] rfl rfl (by kernel_rfl) (fun _ _ _ h => h) (Or.inl ⟨by rfl, ?_⟩) hHeld ?_ ?_
            rotate_left
            · rintro w' ⟨s0, s1, s2, s3, s4, s5⟩
              go_simp
              with_reducible rfl
            rotate_left
            · simp only [Act.put, List.setIfInBounds_toArray, List.set_cons_zero, List.set_cons_succ, i64_w, i32_w]
              rfl
            refine take_ (i := 1) (N := some 46) (v := ?_) (a' := ?_) #[true, true, false, false, false] rfl rfl (by kernel_rfl) (fun _ _ _ h => h) (Or.inl ⟨by rfl, ?_⟩) hHeld ?_ ?_
            rotate_left
            · rintro w' ⟨s0, s1, s2, s3, s4, s5⟩
              go_simp
              with_reducible rfl
            rotate_left
            · simp only [Act.put, List.setIfInBounds_toArray, List.set_cons_zero, List.set_cons_succ, i64_w, i32_w]
              rfl
            refine one_ (i := 2) (N := some 47) #[true, true, true, false, false] rfl rfl (by kernel_rfl) (by decide) (fun K hK => ?_)
            refine goes_ Try.func25 (by kernel_rfl) rfl #[.agg #[.int .i64 a0_0, .slice A0_1 l0_1.length c0_1, .slice A0_2 l0_2.length c0_2]] (by rfl) rfl rfl (by (try simp only [List.map_toArray, List.map_cons, List.map_nil]); first | done | rfl | (simp only [List.length_drop, List.length_take]; rfl) | (go_simp; done) | (simp [*]; done)) ?_
            with_reducible refine (laws_toLatch.calls kj11 a0_0 _ _ l0_1 _ _ l0_2 t705 t706 t709 _ ?side1 ?side2 ?side3 ?side4 A53.out).mono ?_
            (case side1 => exact pkC (Kd.C_below HR0_1.out HB.out))
            (case side2 => exact HC0_1.out)
            (case side3 => exact pkC (Kd.C_below HR0_2.out HB.out))
            (case side4 => exact HC0_2.out)
            rintro e w59 ⟨v707, v710, rfl, ho0, ho1, hb⟩
            refine ⟨_, rfl, ?_⟩
            have n0_ := Aside0.mk (Kd.R_mono (Kd.R_told (Kd.R_told (Kd.R_old (pkR HO_687001.out) hb) (Kd.R_base ho0)) (Kd.R_base ho1)) (fun _ h_ => h_.1))
            have n1_ := Aside0.mk (Kd.R_mono (Kd.R_told (Kd.R_told (Kd.R_old (pkR HO_687002.out) hb) (Kd.R_base ho0)) (Kd.R_base ho1)) (fun _ h_ => h_.1))
            have n2_ := Aside0.mk (Kd.R_mono (Kd.R_told (Kd.R_told (Kd.R_old (pkR HO_695001.out) hb) (Kd.R_base ho0)) (Kd.R_base ho1)) (fun _ h_ => h_.1))
            have n3_ := Aside0.mk (Kd.R_mono (Kd.R_told (Kd.R_told (Kd.R_old (pkR HO_695002.out) hb) (Kd.R_base ho0)) (Kd.R_base ho1)) (fun _ h_ => h_.1))
            have n4_ := Aside0.mk (Kd.R_mono (Kd.R_told (Kd.R_told (Kd.R_old (pkR HO_704001.out) hb) (Kd.R_base ho0)) (Kd.R_base ho1)) (fun _ h_ => h_.1))
            have n5_ := Aside0.mk (Kd.R_mono (Kd.R_told (Kd.R_told (Kd.R_old (pkR HO_704002.out) hb) (Kd.R_base ho0)) (Kd.R_base ho1)) (fun _ h_ => h_.1))
            have n6_ := Aside0.mk (Kd.R_lower (Kd.R_new' (Kd.R_new' (Kd.R_new' (Kd.R_new' (Kd.R_new' (Kd.R_new' ho0 (Kd.R_lt (pkR HO_687001.out))) (Kd.R_lt (pkR HO_687002.out))) (Kd.R_lt (pkR HO_695001.out))) (Kd.R_lt (pkR HO_695002.out))) (Kd.R_lt (pkR HO_704001.out))) (Kd.R_lt (pkR HO_704002.out))) (below_size (by repeat (first | (with_reducible first | exact HB.out | apply below_alloc | apply pw_below_drewN | apply below_drew1 | refine below_set ?_ GE669.out | refine below_set ?_ GE686.out | refine below_set ?_ GE694.out | refine below_set ?_ GE703.out) | exact HB.out))))
            have n7_ := Aside0.mk (Kd.R_lower (Kd.R_new' (Kd.R_new' (Kd.R_new' (Kd.R_new' (Kd.R_new' (Kd.R_new' ho1 (Kd.R_lt (pkR HO_687001.out))) (Kd.R_lt (pkR HO_687002.out))) (Kd.R_lt (pkR HO_695001.out))) (Kd.R_lt (pkR HO_695002.out))) (Kd.R_lt (pkR HO_704001.out))) (Kd.R_lt (pkR HO_704002.out))) (below_size (by repeat (first | (with_reducible first | exact HB.out | apply below_alloc | apply pw_below_drewN | apply below_drew1 | refine below_set ?_ GE669.out | refine below_set ?_ GE686.out | refine below_set ?_ GE694.out | refine below_set ?_ GE703.out) | exact HB.out))))
            have n8_ := Aside0.mk (blk_below (g := gb669) (o := .cells #[.int .i64 a0_0, .slice A0_1 l0_1.length c0_1, .slice A0_2 l0_2.length c0_2] 43 (0, 0)) (pkK BK669.out) hb)
            have n9_ := Aside0.mk (blk_below (g := gb686) (o := .cells #[.int .i64 t678, .slice Ao24 t679.length co24, .slice Ao25 t682.length co25] 46 (0, 0)) (pkK BK686.out) hb)
            have n10_ := Aside0.mk (blk_below (g := gb694) (o := .cells #[.int .i64 t687, .slice Ao32 t688.length co32, .slice Ao33 t691.length co33] 46 (0, 0)) (pkK BK694.out) hb)
            have n11_ := Aside0.mk (blk_below (g := gb703) (o := .cells #[.int .i64 t695, .slice Ao40 t696.length co40, .slice Ao41 t699.length co41] 46 (0, 0)) (pkK BK703.out) hb)
            have n12_ := Aside0.mk (below_step (by repeat (first | (with_reducible first | exact HB.out | apply below_alloc | apply pw_below_drewN | apply below_drew1 | refine below_set ?_ GE669.out | refine below_set ?_ GE686.out | refine below_set ?_ GE694.out | refine below_set ?_ GE703.out) | exact HB.out)) hb)
            clear HO_687001 HO_687002 HO_695001 HO_695002 HO_704001 HO_704002 BK669 BK686 BK694 BK703 HB
            have HO_687001 := n0_; have HO_687002 := n1_; have HO_695001 := n2_; have HO_695002 := n3_; have HO_704001 := n4_; have HO_704002 := n5_; have HO708 := n6_; have HO711 := n7_; have BK669 := n8_; have BK686 := n9_; have BK694 := n10_; have BK703 := n11_; have HB := n12_
            clear n0_ n1_ n2_ n3_ n4_ n5_ n6_ n7_ n8_ n9_ n10_ n11_ n12_
            (try clear hb); (try clear hb2); (try clear hk); (try clear hi); (try clear ho0); (try clear ho1)
            obtain ⟨Ao60, co60, eo60⟩ := Kd.R_slice HO708.out
            (first | subst eo60 | (injection eo60 with f1_ f2_ f3_; have f4_ := f1_.symm; have f5_ := f3_.symm; clear f1_ f2_ f3_; subst f4_; subst f5_))
            obtain ⟨Ao61, co61, eo61⟩ := Kd.R_slice HO711.out
            (first | subst eo61 | (injection eo61 with f1_ f2_ f3_; have f4_ := f1_.symm; have f5_ := f3_.symm; clear f1_ f2_ f3_; subst f4_; subst f5_))
            refine hK.out _ _ ⟨(blk_cell BK694.out 0).trans rfl, (blk_cell BK694.out 1).trans rfl, (blk_cell BK694.out 2).trans rfl, (blk_cell BK669.out 0).trans rfl, (blk_cell BK669.out 1).trans rfl, (blk_cell BK669.out 2).trans rfl⟩ (fun hHeld => ?_)
            clear hK K
            refine norm_ (a' := ?_) ?_ ?_
            rotate_left
            · show Act.put _ (some 47) _ = _
              simp only [Act.put, List.setIfInBounds_toArray, List.set_cons_zero, List.set_cons_succ, i64_w, i32_w]
              rfl
            refine one_ (i := 3) (N := some 48) #[true, true, true, true, false] rfl rfl (by kernel_rfl) (by decide) (fun K hK => ?_)
            refine goes_ Try.func27 (by kernel_rfl) rfl #[.agg #[.int .i64 t687, .slice Ao32 t688.length co32, .slice Ao33 t691.length co33], .agg #[.int .i64 t705, .slice Ao60 t706.length co60, .slice Ao61 t709.length co61]] (by rfl) rfl rfl (by (try simp only [List.map_toArray, List.map_cons, List.map_nil]); first | done | rfl | (simp only [List.length_drop, List.length_take]; rfl) | (go_simp; done) | (simp [*]; done)) ?_
            with_reducible refine (laws_eqLatch.calls kj11 t687 _ _ t688 _ _ t691 t705 _ _ t706 _ _ t709 true _ ?side1 ?side2 ?side3 ?side4 ?side5 ?side6 ?side7 ?side8 A54.out).mono ?_
            (case side1 => exact pkC (Kd.R_reads' HO_695001.out).2.2)
            (case side2 => exact (Kd.R_reads' HO_695001.out).2.1)
            (case side3 => exact pkC (Kd.R_reads' HO_695002.out).2.2)
            (case side4 => exact (Kd.R_reads' HO_695002.out).2.1)
            (case side5 => exact pkC (Kd.R_reads' HO708.out).2.2)
            (case side6 => exact (Kd.R_reads' HO708.out).2.1)
            (case side7 => exact pkC (Kd.R_reads' HO711.out).2.2)
            (case side8 => exact (Kd.R_reads' HO711.out).2.1)
            rintro e w62 ⟨rfl, hb⟩
            refine ⟨_, rfl, ?_⟩
            have n0_ := Aside0.mk (Kd.R_below (pkR HO_687001.out) hb)
            have n1_ := Aside0.mk (Kd.R_below (pkR HO_687002.out) hb)
            have n2_ := Aside0.mk (Kd.R_below (pkR HO_695001.out) hb)
            have n3_ := Aside0.mk (Kd.R_below (pkR HO_695002.out) hb)
            have n4_ := Aside0.mk (Kd.R_below (pkR HO_704001.out) hb)
            have n5_ := Aside0.mk (Kd.R_below (pkR HO_704002.out) hb)
            have n6_ := Aside0.mk (Kd.R_below (pkR HO708.out) hb)
            have n7_ := Aside0.mk (Kd.R_below (pkR HO711.out) hb)
            have n8_ := Aside0.mk (blk_below (g := gb669) (o := .cells #[.int .i64 a0_0, .slice A0_1 l0_1.length c0_1, .slice A0_2 l0_2.length c0_2] 43 (0, 0)) (pkK BK669.out) hb)
            have n9_ := Aside0.mk (blk_below (g := gb686) (o := .cells #[.int .i64 t678, .slice Ao24 t679.length co24, .slice Ao25 t682.length co25] 46 (0, 0)) (pkK BK686.out) hb)
            have n10_ := Aside0.mk (blk_below (g := gb694) (o := .cells #[.int .i64 t687, .slice Ao32 t688.length co32, .slice Ao33 t691.length co33] 46 (0, 0)) (pkK BK694.out) hb)
            have n11_ := Aside0.mk (blk_below (g := gb703) (o := .cells #[.int .i64 t695, .slice Ao40 t696.length co40, .slice Ao41 t699.length co41] 46 (0, 0)) (pkK BK703.out) hb)
            have n12_ := Aside0.mk (below_step (by repeat (first | (with_reducible first | exact HB.out | apply below_alloc | apply pw_below_drewN | apply below_drew1 | refine below_set ?_ GE669.out | refine below_set ?_ GE686.out | refine below_set ?_ GE694.out | refine below_set ?_ GE703.out) | exact HB.out)) hb)
            clear HO_687001 HO_687002 HO_695001 HO_695002 HO_704001 HO_704002 HO708 HO711 BK669 BK686 BK694 BK703 HB
            have HO_687001 := n0_; have HO_687002 := n1_; have HO_695001 := n2_; have HO_695002 := n3_; have HO_704001 := n4_; have HO_704002 := n5_; have HO708 := n6_; have HO711 := n7_; have BK669 := n8_; have BK686 := n9_; have BK694 := n10_; have BK703 := n11_; have HB := n12_
            clear n0_ n1_ n2_ n3_ n4_ n5_ n6_ n7_ n8_ n9_ n10_ n11_ n12_
            (try clear hb); (try clear hb2); (try clear hk); (try clear hi)
            refine hK.out _ _ ⟨(blk_cell BK694.out 0).trans rfl, (blk_cell BK694.out 1).trans rfl, (blk_cell BK694.out 2).trans rfl, (blk_cell BK669.out 0).trans rfl, (blk_cell BK669.out 1).trans rfl, (blk_cell BK669.out 2).trans rfl⟩ (fun hHeld => ?_)
            clear hK K
            refine norm_ (a' := ?_) ?_ ?_
            rotate_left
            · show Act.put _ (some 48) _ = _
              simp only [Act.put, List.setIfInBounds_toArray, List.set_cons_zero, List.set_cons_succ, i64_w, i32_w]
              rfl
            refine pure_ (i := 4) (N := some 49) (v := ?_) (a' := ?_) #[true, true, true, true, true] rfl rfl (by kernel_rfl) (fun _ _ _ h => h) (Or.inl ⟨by rfl, ?_⟩) ?_ ?_
            rotate_left
            · intro w'
              go_simp
              with_reducible rfl
            rotate_left
            · simp only [Act.put, List.setIfInBounds_toArray, List.set_cons_zero, List.set_cons_succ, i64_w, i32_w]
              rfl
            refine done_ (by kernel_rfl) ?_
            have hnb63 := NB694_669.out
            have hnc63 := NB669_694.out
            have hnb64 := NB694_686.out
            have hnc64 := NB686_694.out
            have hnb65 := NB694_703.out
            have hnc65 := NB703_694.out
            have hcz66_0 : w62.cell? ⟨gb694, 0, none⟩ = some (.int .i64 t687) := (blk_cell BK694.out 0).trans rfl
            have hcz66_1 : w62.cell? ⟨gb694, 1, none⟩ = some (.slice Ao32 t688.length co32) := (blk_cell BK694.out 1).trans rfl
            have hcz66_2 : w62.cell? ⟨gb694, 2, none⟩ = some (.slice Ao33 t691.length co33) := (blk_cell BK694.out 2).trans rfl
            have hfz66_0 := blk_frozen BK694.out 0
            have hfz66_1 := blk_frozen BK694.out 1
            have hfz66_2 := blk_frozen BK694.out 2
            go_upto_region 14 with (first | ((with_reducible refine gate_callee (f := 36) rfl ?_); refine goesL_ (some 52) rfl rfl Try.func36 (by kernel_rfl) rfl #[.agg #[.int .i64 t687, .slice Ao32 t688.length co32, .slice Ao33 t691.length co33], .int .i64 1] rfl (by (try simp only [List.map_toArray, List.map_cons, List.map_nil]); first | done | rfl | (simp only [List.length_drop, List.length_take]; rfl) | (go_simp; done) | (simp [*]; done)) ?_; (with_reducible refine (laws_markLatch.calls kj11 t687 (fun k_ => some k_ = (.slice Ao32 t688.length co32 : Value).ownBlock) (.slice Ao32 t688.length co32) t688 (fun k_ => some k_ = (.slice Ao33 t691.length co33 : Value).ownBlock) (.slice Ao33 t691.length co33) t691 1 t713 t714 t715 w _ ?side1 ?side2 ?side3 ?side4 ?side5 A56.out).mono ?_); (case side1 => repeat (first | (with_reducible first | exact HB.out | apply below_alloc | apply pw_below_drewN | apply below_drew1 | refine below_set ?_ GE669.out | refine below_set ?_ GE686.out | refine below_set ?_ GE694.out | refine below_set ?_ GE703.out) | exact HB.out)); (case side2 => exact Kd.R_tight rfl HO_695001.out); (case side3 => exact fun k_ e_ => (HO_695001.out.1 k_ e_.symm).1.1.2.2.1); (case side4 => exact Kd.R_tight rfl HO_695002.out); (case side5 => exact fun k_ e_ => (HO_695002.out.1 k_ e_.symm).1.1.2.2.1); rintro e w67 ⟨rfl, hy0, hy1, hb, hkp⟩; refine ⟨_, rfl, ?_⟩; have n0_ := Aside0.mk (Kd.R_mono (ok' := fun k_ => some k_ ≠ (.slice Ao25 t682.length co25 : Value).ownBlock ∧ some k_ ≠ (.slice Ao32 t688.length co32 : Value).ownBlock ∧ some k_ ≠ (.slice Ao33 t691.length co33 : Value).ownBlock ∧ some k_ ≠ (.slice Ao40 t696.length co40 : Value).ownBlock ∧ some k_ ≠ (.slice Ao41 t699.length co41 : Value).ownBlock ∧ some k_ ≠ (.slice Ao60 t706.length co60 : Value).ownBlock ∧ some k_ ≠ (.slice Ao61 t709.length co61 : Value).ownBlock) (Kd.R_keptB (HO_687001.out) hkp (fun k_ hk_ hs_ => Or.elim hs_ (fun e_ => (hk_.1.1.2.1) e_) (fun e_ => (hk_.1.1.2.2.1) e_))) (fun k_ hk_ => ⟨hk_.1.1.1.1, hk_.1.1.1.2.1, hk_.1.1.1.2.2.1, hk_.1.1.1.2.2.2.1, hk_.1.1.1.2.2.2.2, hk_.1.1.2, hk_.1.2⟩)); have n1_ := Aside0.mk (Kd.R_mono (ok' := fun k_ => some k_ ≠ (.slice Ao24 t679.length co24 : Value).ownBlock ∧ some k_ ≠ (.slice Ao32 t688.length co32 : Value).ownBlock ∧ some k_ ≠ (.slice Ao33 t691.length co33 : Value).ownBlock ∧ some k_ ≠ (.slice Ao40 t696.length co40 : Value).ownBlock ∧ some k_ ≠ (.slice Ao41 t699.length co41 : Value).ownBlock ∧ some k_ ≠ (.slice Ao60 t706.length co60 : Value).ownBlock ∧ some k_ ≠ (.slice Ao61 t709.length co61 : Value).ownBlock) (Kd.R_keptB (HO_687002.out) hkp (fun k_ hk_ hs_ => Or.elim hs_ (fun e_ => (hk_.1.1.2.1) e_) (fun e_ => (hk_.1.1.2.2.1) e_))) (fun k_ hk_ => ⟨hk_.1.1.1.1, hk_.1.1.1.2.1, hk_.1.1.1.2.2.1, hk_.1.1.1.2.2.2.1, hk_.1.1.1.2.2.2.2, hk_.1.1.2, hk_.1.2⟩)); have n2_ := Aside0.mk (Kd.R_reok rfl hy0 (fun k_ e_ => HO_695001.out.1 k_ e_)); have n3_ := Aside0.mk (Kd.R_reok rfl hy1 (fun k_ e_ => HO_695002.out.1 k_ e_)); have n4_ := Aside0.mk (Kd.R_mono (ok' := fun k_ => some k_ ≠ (.slice Ao24 t679.length co24 : Value).ownBlock ∧ some k_ ≠ (.slice Ao25 t682.length co25 : Value).ownBlock ∧ some k_ ≠ (.slice Ao32 t688.length co32 : Value).ownBlock ∧ some k_ ≠ (.slice Ao33 t691.length co33 : Value).ownBlock ∧ some k_ ≠ (.slice Ao41 t699.length co41 : Value).ownBlock ∧ some k_ ≠ (.slice Ao60 t706.length co60 : Value).ownBlock ∧ some k_ ≠ (.slice Ao61 t709.length co61 : Value).ownBlock) (Kd.R_keptB (HO_704001.out) hkp (fun k_ hk_ hs_ => Or.elim hs_ (fun e_ => (hk_.1.1.2.2.1) e_) (fun e_ => (hk_.1.1.2.2.2.1) e_))) (fun k_ hk_ => ⟨hk_.1.1.1.1, hk_.1.1.1.2.1, hk_.1.1.1.2.2.1, hk_.1.1.1.2.2.2.1, hk_.1.1.1.2.2.2.2, hk_.1.1.2, hk_.1.2⟩)); have n5_ := Aside0.mk (Kd.R_mono (ok' := fun k_ => some k_ ≠ (.slice Ao24 t679.length co24 : Value).ownBlock ∧ some k_ ≠ (.slice Ao25 t682.length co25 : Value).ownBlock ∧ some k_ ≠ (.slice Ao32 t688.length co32 : Value).ownBlock ∧ some k_ ≠ (.slice Ao33 t691.length co33 : Value).ownBlock ∧ some k_ ≠ (.slice Ao40 t696.length co40 : Value).ownBlock ∧ some k_ ≠ (.slice Ao60 t706.length co60 : Value).ownBlock ∧ some k_ ≠ (.slice Ao61 t709.length co61 : Value).ownBlock) (Kd.R_keptB (HO_704002.out) hkp (fun k_ hk_ hs_ => Or.elim hs_ (fun e_ => (hk_.1.1.2.2.1) e_) (fun e_ => (hk_.1.1.2.2.2.1) e_))) (fun k_ hk_ => ⟨hk_.1.1.1.1, hk_.1.1.1.2.1, hk_.1.1.1.2.2.1, hk_.1.1.1.2.2.2.1, hk_.1.1.1.2.2.2.2, hk_.1.1.2, hk_.1.2⟩)); have n6_ := Aside0.mk (blk_kept (pkK BK669.out) hkp (fun hs_ => Or.elim hs_ (fun e_ => (fun e_ => (Kd.R_ne HO_695001.out BK669.out (by decide)) e_) e_) (fun e_ => (fun e_ => (Kd.R_ne HO_695002.out BK669.out (by decide)) e_) e_))); have n7_ := Aside0.mk (blk_kept (pkK BK686.out) hkp (fun hs_ => Or.elim hs_ (fun e_ => (fun e_ => (Kd.R_ne HO_695001.out BK686.out (by decide)) e_) e_) (fun e_ => (fun e_ => (Kd.R_ne HO_695002.out BK686.out (by decide)) e_) e_))); have n8_ := Aside0.mk (blk_kept (pkK BK694.out) hkp (fun hs_ => Or.elim hs_ (fun e_ => (fun e_ => (Kd.R_ne HO_695001.out BK694.out (by decide)) e_) e_) (fun e_ => (fun e_ => (Kd.R_ne HO_695002.out BK694.out (by decide)) e_) e_))); have n9_ := Aside0.mk (blk_kept (pkK BK703.out) hkp (fun hs_ => Or.elim hs_ (fun e_ => (fun e_ => (Kd.R_ne HO_695001.out BK703.out (by decide)) e_) e_) (fun e_ => (fun e_ => (Kd.R_ne HO_695002.out BK703.out (by decide)) e_) e_))); have n10_ := Aside0.mk (Kd.R_mono (ok' := fun k_ => some k_ ≠ (.slice Ao24 t679.length co24 : Value).ownBlock ∧ some k_ ≠ (.slice Ao25 t682.length co25 : Value).ownBlock ∧ some k_ ≠ (.slice Ao32 t688.length co32 : Value).ownBlock ∧ some k_ ≠ (.slice Ao33 t691.length co33 : Value).ownBlock ∧ some k_ ≠ (.slice Ao40 t696.length co40 : Value).ownBlock ∧ some k_ ≠ (.slice Ao41 t699.length co41 : Value).ownBlock ∧ some k_ ≠ (.slice Ao61 t709.length co61 : Value).ownBlock) (Kd.R_keptB (HO708.out) hkp (fun k_ hk_ hs_ => Or.elim hs_ (fun e_ => (hk_.1.1.1.2) e_) (fun e_ => (hk_.1.1.2) e_))) (fun k_ hk_ => ⟨hk_.1.1.1.1.1.1.2, hk_.1.1.1.1.1.2, hk_.1.1.1.1.2, hk_.1.1.1.2, hk_.1.1.2, hk_.1.2, hk_.1.1.1.1.1.1.1⟩)); have n11_ := Aside0.mk (Kd.R_mono (ok' := fun k_ => some k_ ≠ (.slice Ao24 t679.length co24 : Value).ownBlock ∧ some k_ ≠ (.slice Ao25 t682.length co25 : Value).ownBlock ∧ some k_ ≠ (.slice Ao32 t688.length co32 : Value).ownBlock ∧ some k_ ≠ (.slice Ao33 t691.length co33 : Value).ownBlock ∧ some k_ ≠ (.slice Ao40 t696.length co40 : Value).ownBlock ∧ some k_ ≠ (.slice Ao41 t699.length co41 : Value).ownBlock ∧ some k_ ≠ (.slice Ao60 t706.length co60 : Value).ownBlock) (Kd.R_keptB (HO711.out) hkp (fun k_ hk_ hs_ => Or.elim hs_ (fun e_ => (hk_.1.1.1.2) e_) (fun e_ => (hk_.1.1.2) e_))) (fun k_ hk_ => ⟨hk_.1.1.1.1.1.1.2, hk_.1.1.1.1.1.2, hk_.1.1.1.1.2, hk_.1.1.1.2, hk_.1.1.2, hk_.1.2, hk_.1.1.1.1.1.1.1⟩)); have n12_ := Aside0.mk (hb); clear HO_687001 HO_687002 HO_695001 HO_695002 HO_704001 HO_704002 BK669 BK686 BK694 BK703 HO708 HO711 HB; have HO_687001 := n0_; have HO_687002 := n1_; have HO_695001 := n2_; have HO_695002 := n3_; have HO_704001 := n4_; have HO_704002 := n5_; have BK669 := n6_; have BK686 := n7_; have BK694 := n8_; have BK703 := n9_; have HO708 := n10_; have HO711 := n11_; have HB := n12_; clear n0_ n1_ n2_ n3_ n4_ n5_ n6_ n7_ n8_ n9_ n10_ n11_ n12_; (try clear hb); (try clear hkp); (try clear hy0); (try clear hy1)))
            (try simp only [Act.put, List.setIfInBounds_toArray, List.set_cons_zero, List.set_cons_succ])
            go_cut [65] (fun v65 wc => ∃ (kq : Nat) (x65_56 : Bool), v65 = .bool x65_56 ∧ Aside0 (laws_FnExactQuitLatch.j1 kq a1 t685 x65_56 a0_0 l0_1 l0_2 t678 t679 t682 t695 t696 t699 = some r) ∧ Aside0 (kq ≤ kj11) ∧ Aside0 (Kd.R (Kd.int .i64) 3 wc w.heap.size (fun k_ => some k_ ≠ ((.slice Ao25 t682.length co25) : Value).ownBlock ∧ some k_ ≠ ((.slice Ao32 t688.length co32) : Value).ownBlock ∧ some k_ ≠ ((.slice Ao33 t691.length co33) : Value).ownBlock ∧ some k_ ≠ ((.slice Ao40 t696.length co40) : Value).ownBlock ∧ some k_ ≠ ((.slice Ao41 t699.length co41) : Value).ownBlock) (.slice Ao24 t679.length co24) t679) ∧ Aside0 (Kd.R (Kd.int .i64) 3 wc w.heap.size (fun k_ => some k_ ≠ ((.slice Ao24 t679.length co24) : Value).ownBlock ∧ some k_ ≠ ((.slice Ao32 t688.length co32) : Value).ownBlock ∧ some k_ ≠ ((.slice Ao33 t691.length co33) : Value).ownBlock ∧ some k_ ≠ ((.slice Ao40 t696.length co40) : Value).ownBlock ∧ some k_ ≠ ((.slice Ao41 t699.length co41) : Value).ownBlock) (.slice Ao25 t682.length co25) t682) ∧ Aside0 (Kd.R (Kd.int .i64) 3 wc w.heap.size (fun k_ => some k_ ≠ ((.slice Ao24 t679.length co24) : Value).ownBlock ∧ some k_ ≠ ((.slice Ao25 t682.length co25) : Value).ownBlock ∧ some k_ ≠ ((.slice Ao33 t691.length co33) : Value).ownBlock ∧ some k_ ≠ ((.slice Ao40 t696.length co40) : Value).ownBlock ∧ some k_ ≠ ((.slice Ao41 t699.length co41) : Value).ownBlock) (.slice Ao32 t688.length co32) t714) ∧ Aside0 (Kd.R (Kd.int .i64) 3 wc w.heap.size (fun k_ => some k_ ≠ ((.slice Ao24 t679.length co24) : Value).ownBlock ∧ some k_ ≠ ((.slice Ao25 t682.length co25) : Value).ownBlock ∧ some k_ ≠ ((.slice Ao32 t688.length co32) : Value).ownBlock ∧ some k_ ≠ ((.slice Ao40 t696.length co40) : Value).ownBlock ∧ some k_ ≠ ((.slice Ao41 t699.length co41) : Value).ownBlock) (.slice Ao33 t691.length co33) t715) ∧ Aside0 (Kd.R (Kd.int .i64) 3 wc w.heap.size (fun k_ => some k_ ≠ ((.slice Ao24 t679.length co24) : Value).ownBlock ∧ some k_ ≠ ((.slice Ao25 t682.length co25) : Value).ownBlock ∧ some k_ ≠ ((.slice Ao32 t688.length co32) : Value).ownBlock ∧ some k_ ≠ ((.slice Ao33 t691.length co33) : Value).ownBlock ∧ some k_ ≠ ((.slice Ao41 t699.length co41) : Value).ownBlock) (.slice Ao40 t696.length co40) t696) ∧ Aside0 (Kd.R (Kd.int .i64) 3 wc w.heap.size (fun k_ => some k_ ≠ ((.slice Ao24 t679.length co24) : Value).ownBlock ∧ some k_ ≠ ((.slice Ao25 t682.length co25) : Value).ownBlock ∧ some k_ ≠ ((.slice Ao32 t688.length co32) : Value).ownBlock ∧ some k_ ≠ ((.slice Ao33 t691.length co33) : Value).ownBlock ∧ some k_ ≠ ((.slice Ao40 t696.length co40) : Value).ownBlock) (.slice Ao41 t699.length co41) t699) ∧ Aside0 (wc.heap[gb669]? = some (.cells #[.int .i64 a0_0, (.slice A0_1 l0_1.length c0_1), (.slice A0_2 l0_2.length c0_2)] 43 (0, 0))) ∧ Aside0 (wc.heap[gb686]? = some (.cells #[.int .i64 t678, (.slice Ao24 t679.length co24), (.slice Ao25 t682.length co25)] 46 (0, 0))) ∧ Aside0 (wc.heap[gb694]? = some (.cells #[.int .i64 t687, (.slice Ao32 t688.length co32), (.slice Ao33 t691.length co33)] 46 (0, 0))) ∧ Aside0 (wc.heap[gb703]? = some (.cells #[.int .i64 t695, (.slice Ao40 t696.length co40), (.slice Ao41 t699.length co41)] 46 (0, 0))) ∧ Aside0 (Below w.heap.size w wc))
            case first =>
              have H := HC57.out
              clear HC57
              by_cases c68 : t713 < 0
              · rw [if_pos c68] at H
                have c68b0 : decide (t713 < 0) = true := decide_eq_true c68
                clear c68
                (first | rw [c68b0] | (simp only [i64_w, i32_w]; rw [c68b0]) | skip)
                cases kj11 with
                | zero => exact absurd H (by simp [laws_FnExactQuitLatch.j1])
                | succ k_ => (simp only [laws_FnExactQuitLatch.j1, if_pos] at H; exact absurd (Option.some.inj H) (by rw [HQ_.out]; simp))
              · rw [if_neg c68] at H
                have c68b0 : decide (t713 < 0) = false := decide_eq_false c68
                clear c68
                (first | rw [c68b0] | (simp only [i64_w, i32_w]; rw [c68b0]) | skip)
                replace H := Option.bind_eq_some_iff.mp H
                obtain ⟨t716, A690, H⟩ := H
                replace H : (if t716 = true then (laws_FnExactQuitLatch.j1 kj11 a1 t685 (t702 != t685) a0_0 l0_1 l0_2 t678 t679 t682 t695 t696 t699) else (laws_FnExactQuitLatch.j1 kj11 a1 t685 true a0_0 l0_1 l0_2 t678 t679 t682 t695 t696 t699)) = some r := H
                have A69 := Aside0.mk A690
                clear A690
                by_cases c70 : t716 = true
                · subst c70
                  have H1 : (laws_FnExactQuitLatch.j1 kj11 a1 t685 (t702 != t685) a0_0 l0_1 l0_2 t678 t679 t682 t695 t696 t699) = some r := by rw [if_pos rfl] at H; exact H
                  clear H
                  have H := H1
                  clear H1
                  have H' := Aside0.mk H
                  clear H
                  have hnb71 := NB703_669.out
                  have hnc71 := NB669_703.out
                  have hnb72 := NB703_686.out
                  have hnc72 := NB686_703.out
                  have hnb73 := NB703_694.out
                  have hnc73 := NB694_703.out
                  have hcz74_0 : w67.cell? ⟨gb703, 0, none⟩ = some (.int .i64 t695) := (blk_cell BK703.out 0).trans rfl
                  have hcz74_1 : w67.cell? ⟨gb703, 1, none⟩ = some (.slice Ao40 t696.length co40) := (blk_cell BK703.out 1).trans rfl
                  have hcz74_2 : w67.cell? ⟨gb703, 2, none⟩ = some (.slice Ao41 t699.length co41) := (blk_cell BK703.out 2).trans rfl
                  have hfz74_0 := blk_frozen BK703.out 0
                  have hfz74_1 := blk_frozen BK703.out 1
                  have hfz74_2 := blk_frozen BK703.out 2
                  have hnb75 := NB686_669.out
                  have hnc75 := NB669_686.out
                  have hnb76 := NB686_694.out
                  have hnc76 := NB694_686.out
                  have hcz77_0 : w67.cell? ⟨gb686, 0, none⟩ = some (.int .i64 t678) := (blk_cell BK686.out 0).trans rfl
                  have hcz77_1 : w67.cell? ⟨gb686, 1, none⟩ = some (.slice Ao24 t679.length co24) := (blk_cell BK686.out 1).trans rfl
                  have hcz77_2 : w67.cell? ⟨gb686, 2, none⟩ = some (.slice Ao25 t682.length co25) := (blk_cell BK686.out 2).trans rfl
                  have hfz77_0 := blk_frozen BK686.out 0
                  have hfz77_1 := blk_frozen BK686.out 1
                  have hfz77_2 := blk_frozen BK686.out 2
                  go_wp2_with (first | (go_at_call 27; (with_reducible refine (laws_eqLatch.calls kj11 t695 _ _ t696 _ _ t699 t678 _ _ t679 _ _ t682 true _ ?side1 ?side2 ?side3 ?side4 ?side5 ?side6 ?side7 ?side8 A69.out).mono ?_); (case side1 => exact pkC (Kd.R_reads' HO_704001.out).2.2); (case side2 => exact (Kd.R_reads' HO_704001.out).2.1); (case side3 => exact pkC (Kd.R_reads' HO_704002.out).2.2); (case side4 => exact (Kd.R_reads' HO_704002.out).2.1); (case side5 => exact pkC (Kd.R_reads' HO_687001.out).2.2); (case side6 => exact (Kd.R_reads' HO_687001.out).2.1); (case side7 => exact pkC (Kd.R_reads' HO_687002.out).2.2); (case side8 => exact (Kd.R_reads' HO_687002.out).2.1); rintro e w78 ⟨rfl, hb⟩; have n0_ := Aside0.mk (Kd.R_below (pkR HO_687001.out) hb); have n1_ := Aside0.mk (Kd.R_below (pkR HO_687002.out) hb); have n2_ := Aside0.mk (Kd.R_below (pkR HO_695001.out) hb); have n3_ := Aside0.mk (Kd.R_below (pkR HO_695002.out) hb); have n4_ := Aside0.mk (Kd.R_below (pkR HO_704001.out) hb); have n5_ := Aside0.mk (Kd.R_below (pkR HO_704002.out) hb); have n6_ := Aside0.mk (Kd.R_below (pkR HO708.out) hb); have n7_ := Aside0.mk (Kd.R_below (pkR HO711.out) hb); have n8_ := Aside0.mk (blk_below (g := gb669) (o := .cells #[.int .i64 a0_0, .slice A0_1 l0_1.length c0_1, .slice A0_2 l0_2.length c0_2] 43 (0, 0)) (pkK BK669.out) hb); have n9_ := Aside0.mk (blk_below (g := gb686) (o := .cells #[.int .i64 t678, .slice Ao24 t679.length co24, .slice Ao25 t682.length co25] 46 (0, 0)) (pkK BK686.out) hb); have n10_ := Aside0.mk (blk_below (g := gb694) (o := .cells #[.int .i64 t687, .slice Ao32 t688.length co32, .slice Ao33 t691.length co33] 46 (0, 0)) (pkK BK694.out) hb); have n11_ := Aside0.mk (blk_below (g := gb703) (o := .cells #[.int .i64 t695, .slice Ao40 t696.length co40, .slice Ao41 t699.length co41] 46 (0, 0)) (pkK BK703.out) hb); have n12_ := Aside0.mk (below_step (by repeat (first | (with_reducible first | exact HB.out | apply below_alloc | apply pw_below_drewN | apply below_drew1 | refine below_set ?_ GE669.out | refine below_set ?_ GE686.out | refine below_set ?_ GE694.out | refine below_set ?_ GE703.out) | exact HB.out)) hb); clear HO_687001 HO_687002 HO_695001 HO_695002 HO_704001 HO_704002 HO708 HO711 BK669 BK686 BK694 BK703 HB; have HO_687001 := n0_; have HO_687002 := n1_; have HO_695001 := n2_; have HO_695002 := n3_; have HO_704001 := n4_; have HO_704002 := n5_; have HO708 := n6_; have HO711 := n7_; have BK669 := n8_; have BK686 := n9_; have BK694 := n10_; have BK703 := n11_; have HB := n12_; clear n0_ n1_ n2_ n3_ n4_ n5_ n6_ n7_ n8_ n9_ n10_ n11_ n12_; (try clear hb); (try clear hb2); (try clear hk); (try clear hi)))
                  go_meet
                  case rel => exact ⟨_, ((t702 != t685)), (by first | rfl | (simp; done) | (simp [*]; done)), H', ⟨by have := HJ11.out; first | omega | exact Nat.le_refl _⟩, ⟨by (with_reducible repeat (first | apply Kd.R_alloc | apply Kd.R_drewN | apply Kd.R_drew)); exact Kd.R_mono HO_687001.out (fun _ hk => ⟨hk.1, ⟨hk.2.1, ⟨hk.2.2.1, ⟨hk.2.2.2.1, hk.2.2.2.2.1⟩⟩⟩⟩)⟩, ⟨by (with_reducible repeat (first | apply Kd.R_alloc | apply Kd.R_drewN | apply Kd.R_drew)); exact Kd.R_mono HO_687002.out (fun _ hk => ⟨hk.1, ⟨hk.2.1, ⟨hk.2.2.1, ⟨hk.2.2.2.1, hk.2.2.2.2.1⟩⟩⟩⟩)⟩, ⟨by (with_reducible repeat (first | apply Kd.R_alloc | apply Kd.R_drewN | apply Kd.R_drew)); exact Kd.R_mono HO_695001.out (fun _ hk => ⟨hk.1.1.1, ⟨hk.1.1.2.1, ⟨hk.1.1.2.2.1, ⟨hk.1.1.2.2.2.1, hk.1.1.2.2.2.2⟩⟩⟩⟩)⟩, ⟨by (with_reducible repeat (first | apply Kd.R_alloc | apply Kd.R_drewN | apply Kd.R_drew)); exact Kd.R_mono HO_695002.out (fun _ hk => ⟨hk.1.1.1, ⟨hk.1.1.2.1, ⟨hk.1.1.2.2.1, ⟨hk.1.1.2.2.2.1, hk.1.1.2.2.2.2⟩⟩⟩⟩)⟩, ⟨by (with_reducible repeat (first | apply Kd.R_alloc | apply Kd.R_drewN | apply Kd.R_drew)); exact Kd.R_mono HO_704001.out (fun _ hk => ⟨hk.1, ⟨hk.2.1, ⟨hk.2.2.1, ⟨hk.2.2.2.1, hk.2.2.2.2.1⟩⟩⟩⟩)⟩, ⟨by (with_reducible repeat (first | apply Kd.R_alloc | apply Kd.R_drewN | apply Kd.R_drew)); exact Kd.R_mono HO_704002.out (fun _ hk => ⟨hk.1, ⟨hk.2.1, ⟨hk.2.2.1, ⟨hk.2.2.2.1, hk.2.2.2.2.1⟩⟩⟩⟩)⟩, ⟨pkK BK669.out⟩, ⟨pkK BK686.out⟩, ⟨pkK BK694.out⟩, ⟨pkK BK703.out⟩, ⟨by repeat (first | (with_reducible first | exact HB.out | apply below_alloc | apply pw_below_drewN | apply below_drew1 | refine below_set ?_ GE669.out | refine below_set ?_ GE686.out | refine below_set ?_ GE694.out | refine below_set ?_ GE703.out) | exact HB.out)⟩⟩
                · replace c70 := Bool.eq_false_iff.mpr c70
                  subst c70
                  have H1 : (laws_FnExactQuitLatch.j1 kj11 a1 t685 true a0_0 l0_1 l0_2 t678 t679 t682 t695 t696 t699) = some r := by rw [if_neg (show ¬ (false = true) by decide)] at H; exact H
                  clear H
                  have H := H1
                  clear H1
                  cases kj11 with
                  | zero => exact absurd H (by simp [laws_FnExactQuitLatch.j1])
                  | succ k_ => (simp only [laws_FnExactQuitLatch.j1, if_pos] at H; exact absurd (Option.some.inj H) (by rw [HQ_.out]; simp))
            case rest =>
              clear HC57
              try clear c2
              try clear p2
              try clear c3
              try clear c4
              try clear c4b0
              try clear c5
              try clear c6
              try clear c7
              try clear c9
              try clear c22
              try clear c23
              try clear c25
              try clear c27
              try clear c29
              try clear c30
              try clear c36
              try clear c37
              try clear c38
              try clear c40
              try clear c41
              try clear c43
              try clear c44
              try clear c45
              try clear c46
              try clear c48
              try clear c49
              try clear c52
              try clear c55
              try clear c63
              try clear c64
              try clear c65
              try clear c68
              try clear c68b0
              try clear c70
              try clear c71
              try clear c72
              try clear c73
              try clear c75
              try clear c76
              try clear hcz14_0
              try clear hcz14_1
              try clear hcz14_2
              try clear hcz16_0
              try clear hcz16_1
              try clear hcz16_2
              try clear hcz23_0
              try clear hcz23_1
              try clear hcz23_2
              try clear hcz26_0
              try clear hcz26_1
              try clear hcz26_2
              try clear hcz31_0
              try clear hcz31_1
              try clear hcz31_2
              try clear hcz39_0
              try clear hcz39_1
              try clear hcz39_2
              try clear hcz47_0
              try clear hcz47_1
              try clear hcz47_2
              try clear hcz50_0
              try clear hcz50_1
              try clear hcz50_2
              try clear hcz66_0
              try clear hcz66_1
              try clear hcz66_2
              try clear hcz6_0
              try clear hcz6_1
              try clear hcz6_2
              try clear hcz74_0
              try clear hcz74_1
              try clear hcz74_2
              try clear hcz77_0
              try clear hcz77_1
              try clear hcz77_2
              try clear hfz14_0
              try clear hfz14_1
              try clear hfz14_2
              try clear hfz16_0
              try clear hfz16_1
              try clear hfz16_2
              try clear hfz23_0
              try clear hfz23_1
              try clear hfz23_2
              try clear hfz26_0
              try clear hfz26_1
              try clear hfz26_2
              try clear hfz31_0
              try clear hfz31_1
              try clear hfz31_2
              try clear hfz39_0
              try clear hfz39_1
              try clear hfz39_2
              try clear hfz47_0
              try clear hfz47_1
              try clear hfz47_2
              try clear hfz50_0
              try clear hfz50_1
              try clear hfz50_2
              try clear hfz66_0
              try clear hfz66_1
              try clear hfz66_2
              try clear hfz6_0
              try clear hfz6_1
              try clear hfz6_2
              try clear hfz74_0
              try clear hfz74_1
              try clear hfz74_2
              try clear hfz77_0
              try clear hfz77_1
              try clear hfz77_2
              try clear p2
              obtain ⟨kq, x65_56, rfl, HA, HJ56, HO_687001, HO_687002, HO_695001, HO_695002, HO_704001, HO_704002, BK669, BK686, BK694, BK703, HB⟩ := hcut
              have hl695001_56 := (Kd.R_reads' HO_695001.out).1
              rw [hl695001_56] at HO_695001
              (try simp only [hl695001_56])
              (try simp only [hl695001_56] at BK669)
              (try simp only [hl695001_56] at BK686)
              (try simp only [hl695001_56] at BK694)
              (try simp only [hl695001_56] at BK703)
              (try simp only [hl695001_56] at HO_687001)
              (try simp only [hl695001_56] at HO_687002)
              (try simp only [hl695001_56] at HO_695002)
              (try simp only [hl695001_56] at HO_704001)
              (try simp only [hl695001_56] at HO_704002)
              have hl695002_56 := (Kd.R_reads' HO_695002.out).1
              rw [hl695002_56] at HO_695002
              (try simp only [hl695002_56])
              (try simp only [hl695002_56] at BK669)
              (try simp only [hl695002_56] at BK686)
              (try simp only [hl695002_56] at BK694)
              (try simp only [hl695002_56] at BK703)
              (try simp only [hl695002_56] at HO_687001)
              (try simp only [hl695002_56] at HO_687002)
              (try simp only [hl695002_56] at HO_695001)
              (try simp only [hl695002_56] at HO_704001)
              (try simp only [hl695002_56] at HO_704002)
              cases kq with
              | zero => exact absurd HA.out (by simp [laws_FnExactQuitLatch.j1])
              | succ kj56 =>
                have H := HA.out
                clear HA
                simp only [laws_FnExactQuitLatch.j1] at H
                by_cases c79 : x65_56 = true
                · subst c79
                  have H1 : (some false) = some r := by rw [if_pos rfl] at H; exact H
                  clear H
                  have H := H1
                  clear H1
                  exact absurd (Option.some.inj H) (by rw [HQ_.out]; simp)
                · replace c79 := Bool.eq_false_iff.mpr c79
                  subst c79
                  have H1 : ((laws_markLatch.f kj56 t695 t696 t699 1).bind fun bt717 => ((laws_heldLatch.f kj56 t695 bt717.2.1 bt717.2.2 1).bind fun t720 => (if t720 < 0 then (some false) else (if t720 = bt717.1 then ((laws_toLatch.f kj56 a0_0 l0_1 l0_2).bind fun bt721 => ((impl_QuitLatch.f kj56 bt721.1 bt721.2.1 bt721.2.2 a1).bind fun bt728 => ((laws_eqLatch.f kj56 bt728.1 bt728.2.1 bt728.2.2.1 t678 t679 t682).bind fun t737 => (if t737 = true then (laws_FnExactQuitLatch.j2 kj56 bt717.1 (bt728.2.2.2 != t685) t695 bt717.2.1 bt717.2.2) else (laws_FnExactQuitLatch.j2 kj56 bt717.1 true t695 bt717.2.1 bt717.2.2))))) else (some false))))) = some r := by rw [if_neg (show ¬ (false = true) by decide)] at H; exact H
                  clear H
                  have H := H1
                  clear H1
                  replace H := Option.bind_eq_some_iff.mp H
                  obtain ⟨⟨t717, t718, t719⟩, A800, H⟩ := H
                  replace H : ((laws_heldLatch.f kj56 t695 t718 t719 1).bind fun t720 => (if t720 < 0 then (some false) else (if t720 = t717 then ((laws_toLatch.f kj56 a0_0 l0_1 l0_2).bind fun bt721 => ((impl_QuitLatch.f kj56 bt721.1 bt721.2.1 bt721.2.2 a1).bind fun bt728 => ((laws_eqLatch.f kj56 bt728.1 bt728.2.1 bt728.2.2.1 t678 t679 t682).bind fun t737 => (if t737 = true then (laws_FnExactQuitLatch.j2 kj56 t717 (bt728.2.2.2 != t685) t695 t718 t719) else (laws_FnExactQuitLatch.j2 kj56 t717 true t695 t718 t719))))) else (some false)))) = some r := H
                  have A80 := Aside0.mk A800
                  clear A800
                  replace H := Option.bind_eq_some_iff.mp H
                  obtain ⟨t720, A810, H⟩ := H
                  replace H : (if t720 < 0 then (some false) else (if t720 = t717 then ((laws_toLatch.f kj56 a0_0 l0_1 l0_2).bind fun bt721 => ((impl_QuitLatch.f kj56 bt721.1 bt721.2.1 bt721.2.2 a1).bind fun bt728 => ((laws_eqLatch.f kj56 bt728.1 bt728.2.1 bt728.2.2.1 t678 t679 t682).bind fun t737 => (if t737 = true then (laws_FnExactQuitLatch.j2 kj56 t717 (bt728.2.2.2 != t685) t695 t718 t719) else (laws_FnExactQuitLatch.j2 kj56 t717 true t695 t718 t719))))) else (some false))) = some r := H
                  have A81 := Aside0.mk A810
                  clear A810
                  by_cases c82 : t720 < 0
                  · rw [if_pos c82] at H
                    have c82b0 : decide (t720 < 0) = true := decide_eq_true c82
                    clear c82
                    exact absurd (Option.some.inj H) (by rw [HQ_.out]; simp)
                  · rw [if_neg c82] at H
                    have c82b0 : decide (t720 < 0) = false := decide_eq_false c82
                    clear c82
                    by_cases c83 : t720 = t717
                    · rw [if_pos c83] at H
                      have c83b0 : (t720 == t717) = true := beq_iff_eq.mpr c83
                      have c83b1 : (t720 != t717) = false := bne_eq_false_iff_eq.mpr c83
                      clear c83
                      replace H := Option.bind_eq_some_iff.mp H
                      obtain ⟨⟨t721, t722, t725⟩, A840, H⟩ := H
                      replace H : ((impl_QuitLatch.f kj56 t721 t722 t725 a1).bind fun bt728 => ((laws_eqLatch.f kj56 bt728.1 bt728.2.1 bt728.2.2.1 t678 t679 t682).bind fun t737 => (if t737 = true then (laws_FnExactQuitLatch.j2 kj56 t717 (bt728.2.2.2 != t685) t695 t718 t719) else (laws_FnExactQuitLatch.j2 kj56 t717 true t695 t718 t719)))) = some r := H
                      have A84 := Aside0.mk A840
                      clear A840
                      replace H := Option.bind_eq_some_iff.mp H
                      obtain ⟨⟨t728, t729, t732, t735⟩, A850, H⟩ := H
                      replace H : ((laws_eqLatch.f kj56 t728 t729 t732 t678 t679 t682).bind fun t737 => (if t737 = true then (laws_FnExactQuitLatch.j2 kj56 t717 (t735 != t685) t695 t718 t719) else (laws_FnExactQuitLatch.j2 kj56 t717 true t695 t718 t719))) = some r := H
                      have A85 := Aside0.mk A850
                      clear A850
                      have HC86 := Aside0.mk H
                      clear H
                      have hnb87 := NB703_669.out
                      have hnc87 := NB669_703.out
                      have hnb88 := NB703_686.out
                      have hnc88 := NB686_703.out
                      have hnb89 := NB703_694.out
                      have hnc89 := NB694_703.out
                      have hcz90_0 : wc.cell? ⟨gb703, 0, none⟩ = some (.int .i64 t695) := (blk_cell BK703.out 0).trans rfl
                      have hcz90_1 : wc.cell? ⟨gb703, 1, none⟩ = some (.slice Ao40 t696.length co40) := (blk_cell BK703.out 1).trans rfl
                      have hcz90_2 : wc.cell? ⟨gb703, 2, none⟩ = some (.slice Ao41 t699.length co41) := (blk_cell BK703.out 2).trans rfl
                      have hfz90_0 := blk_frozen BK703.out 0
                      have hfz90_1 := blk_frozen BK703.out 1
                      have hfz90_2 := blk_frozen BK703.out 2
                      go_upto_region 25 with (first | ((with_reducible refine gate_callee (f := 36) rfl ?_); refine goesL_ (some 68) rfl rfl Try.func36 (by kernel_rfl) rfl #[.agg #[.int .i64 t695, .slice Ao40 t696.length co40, .slice Ao41 t699.length co41], .int .i64 1] rfl (by (try simp only [List.map_toArray, List.map_cons, List.map_nil]); first | done | rfl | (simp only [List.length_drop, List.length_take]; rfl) | (go_simp; done) | (simp [*]; done)) ?_; (with_reducible refine (laws_markLatch.calls kj56 t695 (fun k_ => some k_ = (.slice Ao40 t696.length co40 : Value).ownBlock) (.slice Ao40 t696.length co40) t696 (fun k_ => some k_ = (.slice Ao41 t699.length co41 : Value).ownBlock) (.slice Ao41 t699.length co41) t699 1 t717 t718 t719 w _ ?side1 ?side2 ?side3 ?side4 ?side5 A80.out).mono ?_); (case side1 => repeat (first | (with_reducible first | exact HB.out | apply below_alloc | apply pw_below_drewN | apply below_drew1 | refine below_set ?_ GE669.out | refine below_set ?_ GE686.out | refine below_set ?_ GE694.out | refine below_set ?_ GE703.out) | exact HB.out)); (case side2 => exact Kd.R_tight rfl HO_704001.out); (case side3 => exact fun k_ e_ => (HO_704001.out.1 k_ e_.symm).2.2.2.2); (case side4 => exact Kd.R_tight rfl HO_704002.out); (case side5 => exact fun k_ e_ => (HO_704002.out.1 k_ e_.symm).2.2.2.2); rintro e w91 ⟨rfl, hy0, hy1, hb, hkp⟩; refine ⟨_, rfl, ?_⟩; have n0_ := Aside0.mk (Kd.R_mono (ok' := fun k_ => some k_ ≠ (.slice Ao25 t682.length co25 : Value).ownBlock ∧ some k_ ≠ (.slice Ao32 t714.length co32 : Value).ownBlock ∧ some k_ ≠ (.slice Ao33 t715.length co33 : Value).ownBlock ∧ some k_ ≠ (.slice Ao40 t696.length co40 : Value).ownBlock ∧ some k_ ≠ (.slice Ao41 t699.length co41 : Value).ownBlock) (Kd.R_keptB (HO_687001.out) hkp (fun k_ hk_ hs_ => Or.elim hs_ (fun e_ => (hk_.2.2.2.1) e_) (fun e_ => (hk_.2.2.2.2) e_))) (fun k_ hk_ => ⟨hk_.1.1, hk_.1.2.1, hk_.1.2.2.1, hk_.1.2.2.2.1, hk_.1.2.2.2.2⟩)); have n1_ := Aside0.mk (Kd.R_mono (ok' := fun k_ => some k_ ≠ (.slice Ao24 t679.length co24 : Value).ownBlock ∧ some k_ ≠ (.slice Ao32 t714.length co32 : Value).ownBlock ∧ some k_ ≠ (.slice Ao33 t715.length co33 : Value).ownBlock ∧ some k_ ≠ (.slice Ao40 t696.length co40 : Value).ownBlock ∧ some k_ ≠ (.slice Ao41 t699.length co41 : Value).ownBlock) (Kd.R_keptB (HO_687002.out) hkp (fun k_ hk_ hs_ => Or.elim hs_ (fun e_ => (hk_.2.2.2.1) e_) (fun e_ => (hk_.2.2.2.2) e_))) (fun k_ hk_ => ⟨hk_.1.1, hk_.1.2.1, hk_.1.2.2.1, hk_.1.2.2.2.1, hk_.1.2.2.2.2⟩)); have n2_ := Aside0.mk (Kd.R_mono (ok' := fun k_ => some k_ ≠ (.slice Ao24 t679.length co24 : Value).ownBlock ∧ some k_ ≠ (.slice Ao25 t682.length co25 : Value).ownBlock ∧ some k_ ≠ (.slice Ao33 t715.length co33 : Value).ownBlock ∧ some k_ ≠ (.slice Ao40 t696.length co40 : Value).ownBlock ∧ some k_ ≠ (.slice Ao41 t699.length co41 : Value).ownBlock) (Kd.R_keptB (HO_695001.out) hkp (fun k_ hk_ hs_ => Or.elim hs_ (fun e_ => (hk_.2.2.2.1) e_) (fun e_ => (hk_.2.2.2.2) e_))) (fun k_ hk_ => ⟨hk_.1.1, hk_.1.2.1, hk_.1.2.2.1, hk_.1.2.2.2.1, hk_.1.2.2.2.2⟩)); have n3_ := Aside0.mk (Kd.R_mono (ok' := fun k_ => some k_ ≠ (.slice Ao24 t679.length co24 : Value).ownBlock ∧ some k_ ≠ (.slice Ao25 t682.length co25 : Value).ownBlock ∧ some k_ ≠ (.slice Ao32 t714.length co32 : Value).ownBlock ∧ some k_ ≠ (.slice Ao40 t696.length co40 : Value).ownBlock ∧ some k_ ≠ (.slice Ao41 t699.length co41 : Value).ownBlock) (Kd.R_keptB (HO_695002.out) hkp (fun k_ hk_ hs_ => Or.elim hs_ (fun e_ => (hk_.2.2.2.1) e_) (fun e_ => (hk_.2.2.2.2) e_))) (fun k_ hk_ => ⟨hk_.1.1, hk_.1.2.1, hk_.1.2.2.1, hk_.1.2.2.2.1, hk_.1.2.2.2.2⟩)); have n4_ := Aside0.mk (Kd.R_reok rfl hy0 (fun k_ e_ => HO_704001.out.1 k_ e_)); have n5_ := Aside0.mk (Kd.R_reok rfl hy1 (fun k_ e_ => HO_704002.out.1 k_ e_)); have n6_ := Aside0.mk (blk_kept (pkK BK669.out) hkp (fun hs_ => Or.elim hs_ (fun e_ => (fun e_ => (Kd.R_ne HO_704001.out BK669.out (by decide)) e_) e_) (fun e_ => (fun e_ => (Kd.R_ne HO_704002.out BK669.out (by decide)) e_) e_))); have n7_ := Aside0.mk (blk_kept (pkK BK686.out) hkp (fun hs_ => Or.elim hs_ (fun e_ => (fun e_ => (Kd.R_ne HO_704001.out BK686.out (by decide)) e_) e_) (fun e_ => (fun e_ => (Kd.R_ne HO_704002.out BK686.out (by decide)) e_) e_))); have n8_ := Aside0.mk (blk_kept (pkK BK694.out) hkp (fun hs_ => Or.elim hs_ (fun e_ => (fun e_ => (Kd.R_ne HO_704001.out BK694.out (by decide)) e_) e_) (fun e_ => (fun e_ => (Kd.R_ne HO_704002.out BK694.out (by decide)) e_) e_))); have n9_ := Aside0.mk (blk_kept (pkK BK703.out) hkp (fun hs_ => Or.elim hs_ (fun e_ => (fun e_ => (Kd.R_ne HO_704001.out BK703.out (by decide)) e_) e_) (fun e_ => (fun e_ => (Kd.R_ne HO_704002.out BK703.out (by decide)) e_) e_))); have n10_ := Aside0.mk (hb); clear HO_687001 HO_687002 HO_695001 HO_695002 HO_704001 HO_704002 BK669 BK686 BK694 BK703 HB; have HO_687001 := n0_; have HO_687002 := n1_; have HO_695001 := n2_; have HO_695002 := n3_; have HO_704001 := n4_; have HO_704002 := n5_; have BK669 := n6_; have BK686 := n7_; have BK694 := n8_; have BK703 := n9_; have HB := n10_; clear n0_ n1_ n2_ n3_ n4_ n5_ n6_ n7_ n8_ n9_ n10_; (try clear hb); (try clear hkp); (try clear hy0); (try clear hy1); have hcz92_0 : w91.cell? ⟨gb703, 0, none⟩ = some (.int .i64 t695) := (blk_cell BK703.out 0).trans rfl; have hcz92_1 : w91.cell? ⟨gb703, 1, none⟩ = some (.slice Ao40 t696.length co40) := (blk_cell BK703.out 1).trans rfl; have hcz92_2 : w91.cell? ⟨gb703, 2, none⟩ = some (.slice Ao41 t699.length co41) := (blk_cell BK703.out 2).trans rfl; have hfz92_0 := blk_frozen BK703.out 0; have hfz92_1 := blk_frozen BK703.out 1; have hfz92_2 := blk_frozen BK703.out 2) | ((with_reducible refine gate_callee (f := 37) rfl ?_); refine goesL_ (some 71) rfl rfl Try.func37 (by kernel_rfl) rfl #[.agg #[.int .i64 t695, .slice Ao40 t718.length co40, .slice Ao41 t719.length co41], .int .i64 1] rfl (by (try simp only [List.map_toArray, List.map_cons, List.map_nil]); first | done | (rw [show t718.length = t696.length from (Kd.R_reads' HO_704001.out).1.symm, show t719.length = t699.length from (Kd.R_reads' HO_704002.out).1.symm] <;> rfl) | rfl | (simp only [List.length_drop, List.length_take]; rfl) | (go_simp; done) | (simp [*]; done)) ?_; (with_reducible refine (laws_heldLatch.calls kj56 t695 _ _ t718 _ _ t719 1 t720 _ ?side1 ?side2 ?side3 ?side4 A81.out).mono ?_); (case side1 => exact pkC (Kd.R_reads' HO_704001.out).2.2); (case side2 => rw [show t718.length = t696.length from (Kd.R_reads' HO_704001.out).1.symm]; exact (Kd.R_reads' HO_704001.out).2.1); (case side3 => exact pkC (Kd.R_reads' HO_704002.out).2.2); (case side4 => rw [show t719.length = t699.length from (Kd.R_reads' HO_704002.out).1.symm]; exact (Kd.R_reads' HO_704002.out).2.1); rintro e w93 ⟨rfl, hb⟩; refine ⟨_, rfl, ?_⟩; have n0_ := Aside0.mk (Kd.R_below (pkR HO_687001.out) hb); have n1_ := Aside0.mk (Kd.R_below (pkR HO_687002.out) hb); have n2_ := Aside0.mk (Kd.R_below (pkR HO_695001.out) hb); have n3_ := Aside0.mk (Kd.R_below (pkR HO_695002.out) hb); have n4_ := Aside0.mk (Kd.R_below (pkR HO_704001.out) hb); have n5_ := Aside0.mk (Kd.R_below (pkR HO_704002.out) hb); have n6_ := Aside0.mk (blk_below (g := gb669) (o := .cells #[.int .i64 a0_0, .slice A0_1 l0_1.length c0_1, .slice A0_2 l0_2.length c0_2] 43 (0, 0)) (pkK BK669.out) hb); have n7_ := Aside0.mk (blk_below (g := gb686) (o := .cells #[.int .i64 t678, .slice Ao24 t679.length co24, .slice Ao25 t682.length co25] 46 (0, 0)) (pkK BK686.out) hb); have n8_ := Aside0.mk (blk_below (g := gb694) (o := .cells #[.int .i64 t687, .slice Ao32 t714.length co32, .slice Ao33 t715.length co33] 46 (0, 0)) (pkK BK694.out) hb); have n9_ := Aside0.mk (blk_below (g := gb703) (o := .cells #[.int .i64 t695, .slice Ao40 t696.length co40, .slice Ao41 t699.length co41] 46 (0, 0)) (pkK BK703.out) hb); have n10_ := Aside0.mk (below_step (by repeat (first | (with_reducible first | exact HB.out | apply below_alloc | apply pw_below_drewN | apply below_drew1 | refine below_set ?_ GE669.out | refine below_set ?_ GE686.out | refine below_set ?_ GE694.out | refine below_set ?_ GE703.out) | exact HB.out)) hb); clear HO_687001 HO_687002 HO_695001 HO_695002 HO_704001 HO_704002 BK669 BK686 BK694 BK703 HB; have HO_687001 := n0_; have HO_687002 := n1_; have HO_695001 := n2_; have HO_695002 := n3_; have HO_704001 := n4_; have HO_704002 := n5_; have BK669 := n6_; have BK686 := n7_; have BK694 := n8_; have BK703 := n9_; have HB := n10_; clear n0_ n1_ n2_ n3_ n4_ n5_ n6_ n7_ n8_ n9_ n10_; (try clear hb); (try clear hb2); (try clear hk); (try clear hi); have hnb94 := NB669_686.out; have hnc94 := NB686_669.out; have hnb95 := NB669_694.out; have hnc95 := NB694_669.out; have hcz96_0 : w93.cell? ⟨gb669, 0, none⟩ = some (.int .i64 a0_0) := (blk_cell BK669.out 0).trans rfl; have hcz96_1 : w93.cell? ⟨gb669, 1, none⟩ = some (.slice A0_1 l0_1.length c0_1) := (blk_cell BK669.out 1).trans rfl; have hcz96_2 : w93.cell? ⟨gb669, 2, none⟩ = some (.slice A0_2 l0_2.length c0_2) := (blk_cell BK669.out 2).trans rfl; have hfz96_0 := blk_frozen BK669.out 0; have hfz96_1 := blk_frozen BK669.out 1; have hfz96_2 := blk_frozen BK669.out 2) | ((with_reducible refine gate_callee (f := 25) rfl ?_); refine goesL_ (some 79) rfl rfl Try.func25 (by kernel_rfl) rfl #[.agg #[.int .i64 a0_0, .slice A0_1 l0_1.length c0_1, .slice A0_2 l0_2.length c0_2]] rfl (by (try simp only [List.map_toArray, List.map_cons, List.map_nil]); first | done | rfl | (simp only [List.length_drop, List.length_take]; rfl) | (go_simp; done) | (simp [*]; done)) ?_; (with_reducible refine (laws_toLatch.calls kj56 a0_0 _ _ l0_1 _ _ l0_2 t721 t722 t725 _ ?side1 ?side2 ?side3 ?side4 A84.out).mono ?_); (case side1 => exact pkC (Kd.C_below HR0_1.out HB.out)); (case side2 => exact HC0_1.out); (case side3 => exact pkC (Kd.C_below HR0_2.out HB.out)); (case side4 => exact HC0_2.out); rintro e w97 ⟨v723, v726, rfl, ho0, ho1, hb⟩; refine ⟨_, rfl, ?_⟩; have n0_ := Aside0.mk (Kd.R_mono (Kd.R_told (Kd.R_told (Kd.R_old (pkR HO_687001.out) hb) (Kd.R_base ho0)) (Kd.R_base ho1)) (fun _ h_ => h_.1)); have n1_ := Aside0.mk (Kd.R_mono (Kd.R_told (Kd.R_told (Kd.R_old (pkR HO_687002.out) hb) (Kd.R_base ho0)) (Kd.R_base ho1)) (fun _ h_ => h_.1)); have n2_ := Aside0.mk (Kd.R_mono (Kd.R_told (Kd.R_told (Kd.R_old (pkR HO_695001.out) hb) (Kd.R_base ho0)) (Kd.R_base ho1)) (fun _ h_ => h_.1)); have n3_ := Aside0.mk (Kd.R_mono (Kd.R_told (Kd.R_told (Kd.R_old (pkR HO_695002.out) hb) (Kd.R_base ho0)) (Kd.R_base ho1)) (fun _ h_ => h_.1)); have n4_ := Aside0.mk (Kd.R_mono (Kd.R_told (Kd.R_told (Kd.R_old (pkR HO_704001.out) hb) (Kd.R_base ho0)) (Kd.R_base ho1)) (fun _ h_ => h_.1)); have n5_ := Aside0.mk (Kd.R_mono (Kd.R_told (Kd.R_told (Kd.R_old (pkR HO_704002.out) hb) (Kd.R_base ho0)) (Kd.R_base ho1)) (fun _ h_ => h_.1)); have n6_ := Aside0.mk (Kd.R_lower (Kd.R_new' (Kd.R_new' (Kd.R_new' (Kd.R_new' (Kd.R_new' (Kd.R_new' ho0 (Kd.R_lt (pkR HO_687001.out))) (Kd.R_lt (pkR HO_687002.out))) (Kd.R_lt (pkR HO_695001.out))) (Kd.R_lt (pkR HO_695002.out))) (Kd.R_lt (pkR HO_704001.out))) (Kd.R_lt (pkR HO_704002.out))) (below_size (by repeat (first | (with_reducible first | exact HB.out | apply below_alloc | apply pw_below_drewN | apply below_drew1 | refine below_set ?_ GE669.out | refine below_set ?_ GE686.out | refine below_set ?_ GE694.out | refine below_set ?_ GE703.out) | exact HB.out)))); have n7_ := Aside0.mk (Kd.R_lower (Kd.R_new' (Kd.R_new' (Kd.R_new' (Kd.R_new' (Kd.R_new' (Kd.R_new' ho1 (Kd.R_lt (pkR HO_687001.out))) (Kd.R_lt (pkR HO_687002.out))) (Kd.R_lt (pkR HO_695001.out))) (Kd.R_lt (pkR HO_695002.out))) (Kd.R_lt (pkR HO_704001.out))) (Kd.R_lt (pkR HO_704002.out))) (below_size (by repeat (first | (with_reducible first | exact HB.out | apply below_alloc | apply pw_below_drewN | apply below_drew1 | refine below_set ?_ GE669.out | refine below_set ?_ GE686.out | refine below_set ?_ GE694.out | refine below_set ?_ GE703.out) | exact HB.out)))); have n8_ := Aside0.mk (blk_below (g := gb669) (o := .cells #[.int .i64 a0_0, .slice A0_1 l0_1.length c0_1, .slice A0_2 l0_2.length c0_2] 43 (0, 0)) (pkK BK669.out) hb); have n9_ := Aside0.mk (blk_below (g := gb686) (o := .cells #[.int .i64 t678, .slice Ao24 t679.length co24, .slice Ao25 t682.length co25] 46 (0, 0)) (pkK BK686.out) hb); have n10_ := Aside0.mk (blk_below (g := gb694) (o := .cells #[.int .i64 t687, .slice Ao32 t714.length co32, .slice Ao33 t715.length co33] 46 (0, 0)) (pkK BK694.out) hb); have n11_ := Aside0.mk (blk_below (g := gb703) (o := .cells #[.int .i64 t695, .slice Ao40 t696.length co40, .slice Ao41 t699.length co41] 46 (0, 0)) (pkK BK703.out) hb); have n12_ := Aside0.mk (below_step (by repeat (first | (with_reducible first | exact HB.out | apply below_alloc | apply pw_below_drewN | apply below_drew1 | refine below_set ?_ GE669.out | refine below_set ?_ GE686.out | refine below_set ?_ GE694.out | refine below_set ?_ GE703.out) | exact HB.out)) hb); clear HO_687001 HO_687002 HO_695001 HO_695002 HO_704001 HO_704002 BK669 BK686 BK694 BK703 HB; have HO_687001 := n0_; have HO_687002 := n1_; have HO_695001 := n2_; have HO_695002 := n3_; have HO_704001 := n4_; have HO_704002 := n5_; have HO724 := n6_; have HO727 := n7_; have BK669 := n8_; have BK686 := n9_; have BK694 := n10_; have BK703 := n11_; have HB := n12_; clear n0_ n1_ n2_ n3_ n4_ n5_ n6_ n7_ n8_ n9_ n10_ n11_ n12_; (try clear hb); (try clear hb2); (try clear hk); (try clear hi); (try clear ho0); (try clear ho1); obtain ⟨Ao98, co98, eo98⟩ := Kd.R_slice HO724.out; subst eo98; obtain ⟨Ao99, co99, eo99⟩ := Kd.R_slice HO727.out; subst eo99) | ((with_reducible refine gate_callee (f := 41) rfl ?_); refine goesL_ (some 81) rfl rfl Try.func41 (by kernel_rfl) rfl #[.agg #[.int .i64 t721, .slice Ao98 t722.length co98, .slice Ao99 t725.length co99], .int .i64 a1] rfl (by (try simp only [List.map_toArray, List.map_cons, List.map_nil]); first | done | rfl | (simp only [List.length_drop, List.length_take]; rfl) | (go_simp; done) | (simp [*]; done)) ?_; (with_reducible refine (impl_QuitLatch.calls kj56 t721 _ _ t722 _ _ t725 a1 t728 t729 t732 t735 _ ?side1 ?side2 ?side3 ?side4 A85.out).mono ?_); (case side1 => exact pkC (Kd.R_reads' HO724.out).2.2); (case side2 => exact (Kd.R_reads' HO724.out).2.1); (case side3 => exact pkC (Kd.R_reads' HO727.out).2.2); (case side4 => exact (Kd.R_reads' HO727.out).2.1); rintro e w100 ⟨v730, v733, rfl, ho0, ho1, hb⟩; refine ⟨_, rfl, ?_⟩; have n0_ := Aside0.mk (Kd.R_mono (Kd.R_told (Kd.R_told (Kd.R_old (pkR HO_687001.out) hb) (Kd.R_base ho0)) (Kd.R_base ho1)) (fun _ h_ => h_.1)); have n1_ := Aside0.mk (Kd.R_mono (Kd.R_told (Kd.R_told (Kd.R_old (pkR HO_687002.out) hb) (Kd.R_base ho0)) (Kd.R_base ho1)) (fun _ h_ => h_.1)); have n2_ := Aside0.mk (Kd.R_mono (Kd.R_told (Kd.R_told (Kd.R_old (pkR HO_695001.out) hb) (Kd.R_base ho0)) (Kd.R_base ho1)) (fun _ h_ => h_.1)); have n3_ := Aside0.mk (Kd.R_mono (Kd.R_told (Kd.R_told (Kd.R_old (pkR HO_695002.out) hb) (Kd.R_base ho0)) (Kd.R_base ho1)) (fun _ h_ => h_.1)); have n4_ := Aside0.mk (Kd.R_mono (Kd.R_told (Kd.R_told (Kd.R_old (pkR HO_704001.out) hb) (Kd.R_base ho0)) (Kd.R_base ho1)) (fun _ h_ => h_.1)); have n5_ := Aside0.mk (Kd.R_mono (Kd.R_told (Kd.R_told (Kd.R_old (pkR HO_704002.out) hb) (Kd.R_base ho0)) (Kd.R_base ho1)) (fun _ h_ => h_.1)); have n6_ := Aside0.mk (Kd.R_mono (Kd.R_told (Kd.R_told (Kd.R_old (pkR HO724.out) hb) (Kd.R_base ho0)) (Kd.R_base ho1)) (fun _ h_ => h_.1)); have n7_ := Aside0.mk (Kd.R_mono (Kd.R_told (Kd.R_told (Kd.R_old (pkR HO727.out) hb) (Kd.R_base ho0)) (Kd.R_base ho1)) (fun _ h_ => h_.1)); have n8_ := Aside0.mk (Kd.R_lower (Kd.R_new' (Kd.R_new' (Kd.R_new' (Kd.R_new' (Kd.R_new' (Kd.R_new' (Kd.R_new' (Kd.R_new' ho0 (Kd.R_lt (pkR HO_687001.out))) (Kd.R_lt (pkR HO_687002.out))) (Kd.R_lt (pkR HO_695001.out))) (Kd.R_lt (pkR HO_695002.out))) (Kd.R_lt (pkR HO_704001.out))) (Kd.R_lt (pkR HO_704002.out))) (Kd.R_lt (pkR HO724.out))) (Kd.R_lt (pkR HO727.out))) (below_size (by repeat (first | (with_reducible first | exact HB.out | apply below_alloc | apply pw_below_drewN | apply below_drew1 | refine below_set ?_ GE669.out | refine below_set ?_ GE686.out | refine below_set ?_ GE694.out | refine below_set ?_ GE703.out) | exact HB.out)))); have n9_ := Aside0.mk (Kd.R_lower (Kd.R_new' (Kd.R_new' (Kd.R_new' (Kd.R_new' (Kd.R_new' (Kd.R_new' (Kd.R_new' (Kd.R_new' ho1 (Kd.R_lt (pkR HO_687001.out))) (Kd.R_lt (pkR HO_687002.out))) (Kd.R_lt (pkR HO_695001.out))) (Kd.R_lt (pkR HO_695002.out))) (Kd.R_lt (pkR HO_704001.out))) (Kd.R_lt (pkR HO_704002.out))) (Kd.R_lt (pkR HO724.out))) (Kd.R_lt (pkR HO727.out))) (below_size (by repeat (first | (with_reducible first | exact HB.out | apply below_alloc | apply pw_below_drewN | apply below_drew1 | refine below_set ?_ GE669.out | refine below_set ?_ GE686.out | refine below_set ?_ GE694.out | refine below_set ?_ GE703.out) | exact HB.out)))); have n10_ := Aside0.mk (blk_below (g := gb669) (o := .cells #[.int .i64 a0_0, .slice A0_1 l0_1.length c0_1, .slice A0_2 l0_2.length c0_2] 43 (0, 0)) (pkK BK669.out) hb); have n11_ := Aside0.mk (blk_below (g := gb686) (o := .cells #[.int .i64 t678, .slice Ao24 t679.length co24, .slice Ao25 t682.length co25] 46 (0, 0)) (pkK BK686.out) hb); have n12_ := Aside0.mk (blk_below (g := gb694) (o := .cells #[.int .i64 t687, .slice Ao32 t714.length co32, .slice Ao33 t715.length co33] 46 (0, 0)) (pkK BK694.out) hb); have n13_ := Aside0.mk (blk_below (g := gb703) (o := .cells #[.int .i64 t695, .slice Ao40 t696.length co40, .slice Ao41 t699.length co41] 46 (0, 0)) (pkK BK703.out) hb); have n14_ := Aside0.mk (below_step (by repeat (first | (with_reducible first | exact HB.out | apply below_alloc | apply pw_below_drewN | apply below_drew1 | refine below_set ?_ GE669.out | refine below_set ?_ GE686.out | refine below_set ?_ GE694.out | refine below_set ?_ GE703.out) | exact HB.out)) hb); clear HO_687001 HO_687002 HO_695001 HO_695002 HO_704001 HO_704002 HO724 HO727 BK669 BK686 BK694 BK703 HB; have HO_687001 := n0_; have HO_687002 := n1_; have HO_695001 := n2_; have HO_695002 := n3_; have HO_704001 := n4_; have HO_704002 := n5_; have HO724 := n6_; have HO727 := n7_; have HO731 := n8_; have HO734 := n9_; have BK669 := n10_; have BK686 := n11_; have BK694 := n12_; have BK703 := n13_; have HB := n14_; clear n0_ n1_ n2_ n3_ n4_ n5_ n6_ n7_ n8_ n9_ n10_ n11_ n12_ n13_ n14_; (try clear hb); (try clear hb2); (try clear hk); (try clear hi); (try clear ho0); (try clear ho1)) | ((with_reducible refine gate_dst (N := 14) rfl ?_); refine box_event ?hg (N := 14) ?hd (cs := #[.int .i64 0, .slice none 0 0, .slice none 0 0]) (t := 46) ?hr ?_; (case hd => rfl); (case hg => rfl); (case hr => first | (go_simp; done) | (go_simp; rfl)); intro gb736 hg w101 hbox hb; have n0_ := Aside0.mk (Kd.R_below (pkR HO_687001.out) hb); have n1_ := Aside0.mk (Kd.R_below (pkR HO_687002.out) hb); have n2_ := Aside0.mk (Kd.R_below (pkR HO_695001.out) hb); have n3_ := Aside0.mk (Kd.R_below (pkR HO_695002.out) hb); have n4_ := Aside0.mk (Kd.R_below (pkR HO_704001.out) hb); have n5_ := Aside0.mk (Kd.R_below (pkR HO_704002.out) hb); have n6_ := Aside0.mk (Kd.R_below (pkR HO724.out) hb); have n7_ := Aside0.mk (Kd.R_below (pkR HO727.out) hb); have n8_ := Aside0.mk (Kd.R_below (pkR HO731.out) hb); have n9_ := Aside0.mk (Kd.R_below (pkR HO734.out) hb); have n10_ := Aside0.mk (blk_below (g := gb669) (o := .cells #[.int .i64 a0_0, .slice A0_1 l0_1.length c0_1, .slice A0_2 l0_2.length c0_2] 43 (0, 0)) (pkK BK669.out) hb); have n11_ := Aside0.mk (blk_below (g := gb686) (o := .cells #[.int .i64 t678, .slice Ao24 t679.length co24, .slice Ao25 t682.length co25] 46 (0, 0)) (pkK BK686.out) hb); have n12_ := Aside0.mk (blk_below (g := gb694) (o := .cells #[.int .i64 t687, .slice Ao32 t714.length co32, .slice Ao33 t715.length co33] 46 (0, 0)) (pkK BK694.out) hb); have n13_ := Aside0.mk (blk_below (g := gb703) (o := .cells #[.int .i64 t695, .slice Ao40 t696.length co40, .slice Ao41 t699.length co41] 46 (0, 0)) (pkK BK703.out) hb); have n14_ := Aside0.mk (below_step (by repeat (first | (with_reducible first | exact HB.out | apply below_alloc | apply pw_below_drewN | apply below_drew1 | refine below_set ?_ GE669.out | refine below_set ?_ GE686.out | refine below_set ?_ GE694.out | refine below_set ?_ GE703.out) | exact HB.out)) hb); have n15_ := Aside0.mk (hbox); have n16_ := Aside0.mk ((by rw [hg]; exact (below_size (by repeat (first | (with_reducible first | exact HB.out | apply below_alloc | apply pw_below_drewN | apply below_drew1 | refine below_set ?_ GE669.out | refine below_set ?_ GE686.out | refine below_set ?_ GE694.out | refine below_set ?_ GE703.out) | exact HB.out))) : w.heap.size ≤ gb736)); have n17_ := Aside0.mk ((by rw [hg]; exact (below_size (by repeat (first | (with_reducible first | exact HB.out | apply below_alloc | apply pw_below_drewN | apply below_drew1 | refine below_set ?_ GE669.out | refine below_set ?_ GE686.out | refine below_set ?_ GE694.out | refine below_set ?_ GE703.out) | exact HB.out))) : w.heap.size ≤ gb736)); have n18_ := Aside0.mk ((by rw [hg]; exact Nat.ne_of_lt (blk_lt (g := gb669) (o := .cells #[.int .i64 a0_0, .slice A0_1 l0_1.length c0_1, .slice A0_2 l0_2.length c0_2] 43 (0, 0)) (pkK BK669.out)) : gb669 ≠ gb736)); have n19_ := Aside0.mk ((by rw [hg]; exact Nat.ne_of_gt (blk_lt (g := gb669) (o := .cells #[.int .i64 a0_0, .slice A0_1 l0_1.length c0_1, .slice A0_2 l0_2.length c0_2] 43 (0, 0)) (pkK BK669.out)) : gb736 ≠ gb669)); have n20_ := Aside0.mk ((by rw [hg]; exact Nat.ne_of_lt (blk_lt (g := gb686) (o := .cells #[.int .i64 t678, .slice Ao24 t679.length co24, .slice Ao25 t682.length co25] 46 (0, 0)) (pkK BK686.out)) : gb686 ≠ gb736)); have n21_ := Aside0.mk ((by rw [hg]; exact Nat.ne_of_gt (blk_lt (g := gb686) (o := .cells #[.int .i64 t678, .slice Ao24 t679.length co24, .slice Ao25 t682.length co25] 46 (0, 0)) (pkK BK686.out)) : gb736 ≠ gb686)); have n22_ := Aside0.mk ((by rw [hg]; exact Nat.ne_of_lt (blk_lt (g := gb694) (o := .cells #[.int .i64 t687, .slice Ao32 t714.length co32, .slice Ao33 t715.length co33] 46 (0, 0)) (pkK BK694.out)) : gb694 ≠ gb736)); have n23_ := Aside0.mk ((by rw [hg]; exact Nat.ne_of_gt (blk_lt (g := gb694) (o := .cells #[.int .i64 t687, .slice Ao32 t714.length co32, .slice Ao33 t715.length co33] 46 (0, 0)) (pkK BK694.out)) : gb736 ≠ gb694)); have n24_ := Aside0.mk ((by rw [hg]; exact Nat.ne_of_lt (blk_lt (g := gb703) (o := .cells #[.int .i64 t695, .slice Ao40 t696.length co40, .slice Ao41 t699.length co41] 46 (0, 0)) (pkK BK703.out)) : gb703 ≠ gb736)); have n25_ := Aside0.mk ((by rw [hg]; exact Nat.ne_of_gt (blk_lt (g := gb703) (o := .cells #[.int .i64 t695, .slice Ao40 t696.length co40, .slice Ao41 t699.length co41] 46 (0, 0)) (pkK BK703.out)) : gb736 ≠ gb703)); clear HO_687001 HO_687002 HO_695001 HO_695002 HO_704001 HO_704002 HO724 HO727 HO731 HO734 BK669 BK686 BK694 BK703 HB; have HO_687001 := n0_; have HO_687002 := n1_; have HO_695001 := n2_; have HO_695002 := n3_; have HO_704001 := n4_; have HO_704002 := n5_; have HO724 := n6_; have HO727 := n7_; have HO731 := n8_; have HO734 := n9_; have BK669 := n10_; have BK686 := n11_; have BK694 := n12_; have BK703 := n13_; have HB := n14_; have BK736 := n15_; have GW736 := n16_; have GE736 := n17_; have NB669_736 := n18_; have NB736_669 := n19_; have NB686_736 := n20_; have NB736_686 := n21_; have NB694_736 := n22_; have NB736_694 := n23_; have NB703_736 := n24_; have NB736_703 := n25_; clear n0_ n1_ n2_ n3_ n4_ n5_ n6_ n7_ n8_ n9_ n10_ n11_ n12_ n13_ n14_ n15_ n16_ n17_ n18_ n19_ n20_ n21_ n22_ n23_ n24_ n25_; clear hb hbox hg; have hnb102 := NB736_669.out; have hnc102 := NB669_736.out; have hnb103 := NB736_686.out; have hnc103 := NB686_736.out; have hnb104 := NB736_694.out; have hnc104 := NB694_736.out; have hnb105 := NB736_703.out; have hnc105 := NB703_736.out; have hcz106_0 : w101.cell? ⟨gb736, 0, none⟩ = some (.int .i64 0) := (blk_cell BK736.out 0).trans rfl; have hcz106_1 : w101.cell? ⟨gb736, 1, none⟩ = some (.slice none 0 0) := (blk_cell BK736.out 1).trans rfl; have hcz106_2 : w101.cell? ⟨gb736, 2, none⟩ = some (.slice none 0 0) := (blk_cell BK736.out 2).trans rfl; have hfz106_0 := blk_frozen BK736.out 0; have hfz106_1 := blk_frozen BK736.out 1; have hfz106_2 := blk_frozen BK736.out 2; obtain ⟨Ao107, co107, eo107⟩ := Kd.R_slice HO731.out; subst eo107; obtain ⟨Ao108, co108, eo108⟩ := Kd.R_slice HO734.out; subst eo108))
                      (try simp only [Act.put, List.setIfInBounds_toArray, List.set_cons_zero, List.set_cons_succ])
                      go_cut [92] (fun v92 wc => ∃ (kq : Nat) (x92_85 : Bool), v92 = .bool x92_85 ∧ Aside0 (laws_FnExactQuitLatch.j2 kq t717 x92_85 t695 t718 t719 = some r) ∧ Aside0 (kq ≤ kj56) ∧ Aside0 (Kd.R (Kd.int .i64) 3 wc w.heap.size (fun k_ => some k_ ≠ ((.slice Ao25 t682.length co25) : Value).ownBlock ∧ some k_ ≠ ((.slice Ao32 t714.length co32) : Value).ownBlock ∧ some k_ ≠ ((.slice Ao33 t715.length co33) : Value).ownBlock ∧ some k_ ≠ ((.slice Ao40 t696.length co40) : Value).ownBlock ∧ some k_ ≠ ((.slice Ao41 t699.length co41) : Value).ownBlock ∧ some k_ ≠ ((.slice Ao107 t729.length co107) : Value).ownBlock ∧ some k_ ≠ ((.slice Ao108 t732.length co108) : Value).ownBlock) (.slice Ao24 t679.length co24) t679) ∧ Aside0 (Kd.R (Kd.int .i64) 3 wc w.heap.size (fun k_ => some k_ ≠ ((.slice Ao24 t679.length co24) : Value).ownBlock ∧ some k_ ≠ ((.slice Ao32 t714.length co32) : Value).ownBlock ∧ some k_ ≠ ((.slice Ao33 t715.length co33) : Value).ownBlock ∧ some k_ ≠ ((.slice Ao40 t696.length co40) : Value).ownBlock ∧ some k_ ≠ ((.slice Ao41 t699.length co41) : Value).ownBlock ∧ some k_ ≠ ((.slice Ao107 t729.length co107) : Value).ownBlock ∧ some k_ ≠ ((.slice Ao108 t732.length co108) : Value).ownBlock) (.slice Ao25 t682.length co25) t682) ∧ Aside0 (Kd.R (Kd.int .i64) 3 wc w.heap.size (fun k_ => some k_ ≠ ((.slice Ao24 t679.length co24) : Value).ownBlock ∧ some k_ ≠ ((.slice Ao25 t682.length co25) : Value).ownBlock ∧ some k_ ≠ ((.slice Ao33 t715.length co33) : Value).ownBlock ∧ some k_ ≠ ((.slice Ao40 t696.length co40) : Value).ownBlock ∧ some k_ ≠ ((.slice Ao41 t699.length co41) : Value).ownBlock ∧ some k_ ≠ ((.slice Ao107 t729.length co107) : Value).ownBlock ∧ some k_ ≠ ((.slice Ao108 t732.length co108) : Value).ownBlock) (.slice Ao32 t714.length co32) t714) ∧ Aside0 (Kd.R (Kd.int .i64) 3 wc w.heap.size (fun k_ => some k_ ≠ ((.slice Ao24 t679.length co24) : Value).ownBlock ∧ some k_ ≠ ((.slice Ao25 t682.length co25) : Value).ownBlock ∧ some k_ ≠ ((.slice Ao32 t714.length co32) : Value).ownBlock ∧ some k_ ≠ ((.slice Ao40 t696.length co40) : Value).ownBlock ∧ some k_ ≠ ((.slice Ao41 t699.length co41) : Value).ownBlock ∧ some k_ ≠ ((.slice Ao107 t729.length co107) : Value).ownBlock ∧ some k_ ≠ ((.slice Ao108 t732.length co108) : Value).ownBlock) (.slice Ao33 t715.length co33) t715) ∧ Aside0 (Kd.R (Kd.int .i64) 3 wc w.heap.size (fun k_ => some k_ ≠ ((.slice Ao24 t679.length co24) : Value).ownBlock ∧ some k_ ≠ ((.slice Ao25 t682.length co25) : Value).ownBlock ∧ some k_ ≠ ((.slice Ao32 t714.length co32) : Value).ownBlock ∧ some k_ ≠ ((.slice Ao33 t715.length co33) : Value).ownBlock ∧ some k_ ≠ ((.slice Ao41 t699.length co41) : Value).ownBlock ∧ some k_ ≠ ((.slice Ao107 t729.length co107) : Value).ownBlock ∧ some k_ ≠ ((.slice Ao108 t732.length co108) : Value).ownBlock) (.slice Ao40 t696.length co40) t718) ∧ Aside0 (Kd.R (Kd.int .i64) 3 wc w.heap.size (fun k_ => some k_ ≠ ((.slice Ao24 t679.length co24) : Value).ownBlock ∧ some k_ ≠ ((.slice Ao25 t682.length co25) : Value).ownBlock ∧ some k_ ≠ ((.slice Ao32 t714.length co32) : Value).ownBlock ∧ some k_ ≠ ((.slice Ao33 t715.length co33) : Value).ownBlock ∧ some k_ ≠ ((.slice Ao40 t696.length co40) : Value).ownBlock ∧ some k_ ≠ ((.slice Ao107 t729.length co107) : Value).ownBlock ∧ some k_ ≠ ((.slice Ao108 t732.length co108) : Value).ownBlock) (.slice Ao41 t699.length co41) t719) ∧ Aside0 (Kd.R (Kd.int .i64) 3 wc w.heap.size (fun k_ => some k_ ≠ ((.slice Ao24 t679.length co24) : Value).ownBlock ∧ some k_ ≠ ((.slice Ao25 t682.length co25) : Value).ownBlock ∧ some k_ ≠ ((.slice Ao32 t714.length co32) : Value).ownBlock ∧ some k_ ≠ ((.slice Ao33 t715.length co33) : Value).ownBlock ∧ some k_ ≠ ((.slice Ao40 t696.length co40) : Value).ownBlock ∧ some k_ ≠ ((.slice Ao41 t699.length co41) : Value).ownBlock ∧ some k_ ≠ ((.slice Ao108 t732.length co108) : Value).ownBlock) (.slice Ao107 t729.length co107) t729) ∧ Aside0 (Kd.R (Kd.int .i64) 3 wc w.heap.size (fun k_ => some k_ ≠ ((.slice Ao24 t679.length co24) : Value).ownBlock ∧ some k_ ≠ ((.slice Ao25 t682.length co25) : Value).ownBlock ∧ some k_ ≠ ((.slice Ao32 t714.length co32) : Value).ownBlock ∧ some k_ ≠ ((.slice Ao33 t715.length co33) : Value).ownBlock ∧ some k_ ≠ ((.slice Ao40 t696.length co40) : Value).ownBlock ∧ some k_ ≠ ((.slice Ao41 t699.length co41) : Value).ownBlock ∧ some k_ ≠ ((.slice Ao107 t729.length co107) : Value).ownBlock) (.slice Ao108 t732.length co108) t732) ∧ Aside0 (wc.heap[gb669]? = some (.cells #[.int .i64 a0_0, (.slice A0_1 l0_1.length c0_1), (.slice A0_2 l0_2.length c0_2)] 43 (0, 0))) ∧ Aside0 (wc.heap[gb686]? = some (.cells #[.int .i64 t678, (.slice Ao24 t679.length co24), (.slice Ao25 t682.length co25)] 46 (0, 0))) ∧ Aside0 (wc.heap[gb694]? = some (.cells #[.int .i64 t687, (.slice Ao32 t714.length co32), (.slice Ao33 t715.length co33)] 46 (0, 0))) ∧ Aside0 (wc.heap[gb703]? = some (.cells #[.int .i64 t695, (.slice Ao40 t696.length co40), (.slice Ao41 t699.length co41)] 46 (0, 0))) ∧ Aside0 (wc.heap[gb736]? = some (.cells #[.int .i64 t728, (.slice Ao107 t729.length co107), (.slice Ao108 t732.length co108)] 46 (0, 0))) ∧ Aside0 (Below w.heap.size w wc))
                      case first =>
                        have H := HC86.out
                        clear HC86
                        replace H := Option.bind_eq_some_iff.mp H
                        obtain ⟨t737, A1090, H⟩ := H
                        replace H : (if t737 = true then (laws_FnExactQuitLatch.j2 kj56 t717 (t735 != t685) t695 t718 t719) else (laws_FnExactQuitLatch.j2 kj56 t717 true t695 t718 t719)) = some r := H
                        have A109 := Aside0.mk A1090
                        clear A1090
                        by_cases c110 : t737 = true
                        · subst c110
                          have H1 : (laws_FnExactQuitLatch.j2 kj56 t717 (t735 != t685) t695 t718 t719) = some r := by rw [if_pos rfl] at H; exact H
                          clear H
                          have H := H1
                          clear H1
                          have H' := Aside0.mk H
                          clear H
                          have hnb111 := NB736_669.out
                          have hnc111 := NB669_736.out
                          have hnb112 := NB736_686.out
                          have hnc112 := NB686_736.out
                          have hnb113 := NB736_694.out
                          have hnc113 := NB694_736.out
                          have hnb114 := NB736_703.out
                          have hnc114 := NB703_736.out
                          have hcz115_0 : w101.cell? ⟨gb736, 0, none⟩ = some (.int .i64 0) := (blk_cell BK736.out 0).trans rfl
                          have hcz115_1 : w101.cell? ⟨gb736, 1, none⟩ = some (.slice none 0 0) := (blk_cell BK736.out 1).trans rfl
                          have hcz115_2 : w101.cell? ⟨gb736, 2, none⟩ = some (.slice none 0 0) := (blk_cell BK736.out 2).trans rfl
                          have hfz115_0 := blk_frozen BK736.out 0
                          have hfz115_1 := blk_frozen BK736.out 1
                          have hfz115_2 := blk_frozen BK736.out 2
                          have hnb116 := NB686_669.out
                          have hnc116 := NB669_686.out
                          have hnb117 := NB686_694.out
                          have hnc117 := NB694_686.out
                          have hnb118 := NB686_703.out
                          have hnc118 := NB703_686.out
                          have hcz119_0 : w101.cell? ⟨gb686, 0, none⟩ = some (.int .i64 t678) := (blk_cell BK686.out 0).trans rfl
                          have hcz119_1 : w101.cell? ⟨gb686, 1, none⟩ = some (.slice Ao24 t679.length co24) := (blk_cell BK686.out 1).trans rfl
                          have hcz119_2 : w101.cell? ⟨gb686, 2, none⟩ = some (.slice Ao25 t682.length co25) := (blk_cell BK686.out 2).trans rfl
                          have hfz119_0 := blk_frozen BK686.out 0
                          have hfz119_1 := blk_frozen BK686.out 1
                          have hfz119_2 := blk_frozen BK686.out 2
                          go_wp2_with (first | ((with_reducible refine gate_callee (f := 27) rfl ?_); refine goesL_ (some 86) rfl rfl Try.func27 (by kernel_rfl) rfl #[.agg #[.int .i64 t728, .slice Ao107 t729.length co107, .slice Ao108 t732.length co108], .agg #[.int .i64 t678, .slice Ao24 t679.length co24, .slice Ao25 t682.length co25]] rfl (by (try simp only [List.map_toArray, List.map_cons, List.map_nil]); first | done | rfl | (simp only [List.length_drop, List.length_take]; rfl) | (go_simp; done) | (simp [*]; done)) ?_; (with_reducible refine (laws_eqLatch.calls kj56 t728 _ _ t729 _ _ t732 t678 _ _ t679 _ _ t682 true _ ?side1 ?side2 ?side3 ?side4 ?side5 ?side6 ?side7 ?side8 A109.out).mono ?_); (case side1 => refine (Kd.R_reads' (e := 3) (base := w.heap.size) (ok := fun k_ => ((((((((some k_ ≠ (.slice Ao108 t732.length co108 : Value).ownBlock ∧ some k_ ≠ (.slice Ao24 t679.length co24 : Value).ownBlock) ∧ some k_ ≠ (.slice Ao25 t682.length co25 : Value).ownBlock) ∧ some k_ ≠ (.slice Ao32 t714.length co32 : Value).ownBlock) ∧ some k_ ≠ (.slice Ao33 t715.length co33 : Value).ownBlock) ∧ some k_ ≠ (.slice Ao40 t696.length co40 : Value).ownBlock) ∧ some k_ ≠ (.slice Ao41 t699.length co41 : Value).ownBlock) ∧ some k_ ≠ (.slice Ao98 t722.length co98 : Value).ownBlock) ∧ some k_ ≠ (.slice Ao99 t725.length co99 : Value).ownBlock)) (n := t729.length) (c := co107) ?_).2.2; exact (by (with_reducible repeat (first | apply Kd.R_alloc | apply Kd.R_drewN | apply Kd.R_drew)); exact (Kd.R_mono (Kd.R_far (p := ⟨gb736, 2, none⟩) (Kd.R_far (p := ⟨gb736, 1, none⟩) (Kd.R_far (p := ⟨gb736, 0, none⟩) (Kd.R_types HO731.out BK736.out (by decide)) (fun _ hk => hk.2) (.int .i64 t728)) (fun _ hk => hk.2) (.slice Ao107 t729.length co107)) (fun _ hk => hk.2) (.slice Ao108 t732.length co108)) (fun _ h_ => h_.1)))); (case side2 => exact (Kd.R_reads' HO731.out).2.1); (case side3 => refine (Kd.R_reads' (e := 3) (base := w.heap.size) (ok := fun k_ => ((((((((some k_ ≠ (.slice Ao107 t729.length co107 : Value).ownBlock ∧ some k_ ≠ (.slice Ao24 t679.length co24 : Value).ownBlock) ∧ some k_ ≠ (.slice Ao25 t682.length co25 : Value).ownBlock) ∧ some k_ ≠ (.slice Ao32 t714.length co32 : Value).ownBlock) ∧ some k_ ≠ (.slice Ao33 t715.length co33 : Value).ownBlock) ∧ some k_ ≠ (.slice Ao40 t696.length co40 : Value).ownBlock) ∧ some k_ ≠ (.slice Ao41 t699.length co41 : Value).ownBlock) ∧ some k_ ≠ (.slice Ao98 t722.length co98 : Value).ownBlock) ∧ some k_ ≠ (.slice Ao99 t725.length co99 : Value).ownBlock)) (n := t732.length) (c := co108) ?_).2.2; exact (by (with_reducible repeat (first | apply Kd.R_alloc | apply Kd.R_drewN | apply Kd.R_drew)); exact (Kd.R_mono (Kd.R_far (p := ⟨gb736, 2, none⟩) (Kd.R_far (p := ⟨gb736, 1, none⟩) (Kd.R_far (p := ⟨gb736, 0, none⟩) (Kd.R_types HO734.out BK736.out (by decide)) (fun _ hk => hk.2) (.int .i64 t728)) (fun _ hk => hk.2) (.slice Ao107 t729.length co107)) (fun _ hk => hk.2) (.slice Ao108 t732.length co108)) (fun _ h_ => h_.1)))); (case side4 => exact (Kd.R_reads' HO734.out).2.1); (case side5 => refine (Kd.R_reads' (e := 3) (base := w.heap.size) (ok := fun k_ => (((((some k_ ≠ (.slice Ao25 t682.length co25 : Value).ownBlock ∧ (some k_ ≠ (.slice Ao32 t714.length co32 : Value).ownBlock ∧ (some k_ ≠ (.slice Ao33 t715.length co33 : Value).ownBlock ∧ (some k_ ≠ (.slice Ao40 t696.length co40 : Value).ownBlock ∧ some k_ ≠ (.slice Ao41 t699.length co41 : Value).ownBlock)))) ∧ some k_ ≠ (.slice Ao98 t722.length co98 : Value).ownBlock) ∧ some k_ ≠ (.slice Ao99 t725.length co99 : Value).ownBlock) ∧ some k_ ≠ (.slice Ao107 t729.length co107 : Value).ownBlock) ∧ some k_ ≠ (.slice Ao108 t732.length co108 : Value).ownBlock)) (n := t679.length) (c := co24) ?_).2.2; exact (by (with_reducible repeat (first | apply Kd.R_alloc | apply Kd.R_drewN | apply Kd.R_drew)); exact (Kd.R_mono (Kd.R_far (p := ⟨gb736, 2, none⟩) (Kd.R_far (p := ⟨gb736, 1, none⟩) (Kd.R_far (p := ⟨gb736, 0, none⟩) (Kd.R_types HO_687001.out BK736.out (by decide)) (fun _ hk => hk.2) (.int .i64 t728)) (fun _ hk => hk.2) (.slice Ao107 t729.length co107)) (fun _ hk => hk.2) (.slice Ao108 t732.length co108)) (fun _ h_ => h_.1)))); (case side6 => exact (Kd.R_reads' HO_687001.out).2.1); (case side7 => refine (Kd.R_reads' (e := 3) (base := w.heap.size) (ok := fun k_ => (((((some k_ ≠ (.slice Ao24 t679.length co24 : Value).ownBlock ∧ (some k_ ≠ (.slice Ao32 t714.length co32 : Value).ownBlock ∧ (some k_ ≠ (.slice Ao33 t715.length co33 : Value).ownBlock ∧ (some k_ ≠ (.slice Ao40 t696.length co40 : Value).ownBlock ∧ some k_ ≠ (.slice Ao41 t699.length co41 : Value).ownBlock)))) ∧ some k_ ≠ (.slice Ao98 t722.length co98 : Value).ownBlock) ∧ some k_ ≠ (.slice Ao99 t725.length co99 : Value).ownBlock) ∧ some k_ ≠ (.slice Ao107 t729.length co107 : Value).ownBlock) ∧ some k_ ≠ (.slice Ao108 t732.length co108 : Value).ownBlock)) (n := t682.length) (c := co25) ?_).2.2; exact (by (with_reducible repeat (first | apply Kd.R_alloc | apply Kd.R_drewN | apply Kd.R_drew)); exact (Kd.R_mono (Kd.R_far (p := ⟨gb736, 2, none⟩) (Kd.R_far (p := ⟨gb736, 1, none⟩) (Kd.R_far (p := ⟨gb736, 0, none⟩) (Kd.R_types HO_687002.out BK736.out (by decide)) (fun _ hk => hk.2) (.int .i64 t728)) (fun _ hk => hk.2) (.slice Ao107 t729.length co107)) (fun _ hk => hk.2) (.slice Ao108 t732.length co108)) (fun _ h_ => h_.1)))); (case side8 => exact (Kd.R_reads' HO_687002.out).2.1); rintro e w120 ⟨rfl, hb⟩; refine ⟨_, rfl, ?_⟩; have n0_ := Aside0.mk (Kd.R_below (by (with_reducible repeat (first | apply Kd.R_alloc | apply Kd.R_drewN | apply Kd.R_drew)); exact (Kd.R_mono (Kd.R_far (p := ⟨gb736, 2, none⟩) (Kd.R_far (p := ⟨gb736, 1, none⟩) (Kd.R_far (p := ⟨gb736, 0, none⟩) (Kd.R_types HO_687001.out BK736.out (by decide)) (fun _ hk => hk.2) (.int .i64 t728)) (fun _ hk => hk.2) (.slice Ao107 t729.length co107)) (fun _ hk => hk.2) (.slice Ao108 t732.length co108)) (fun _ h_ => h_.1))) hb); have n1_ := Aside0.mk (Kd.R_below (by (with_reducible repeat (first | apply Kd.R_alloc | apply Kd.R_drewN | apply Kd.R_drew)); exact (Kd.R_mono (Kd.R_far (p := ⟨gb736, 2, none⟩) (Kd.R_far (p := ⟨gb736, 1, none⟩) (Kd.R_far (p := ⟨gb736, 0, none⟩) (Kd.R_types HO_687002.out BK736.out (by decide)) (fun _ hk => hk.2) (.int .i64 t728)) (fun _ hk => hk.2) (.slice Ao107 t729.length co107)) (fun _ hk => hk.2) (.slice Ao108 t732.length co108)) (fun _ h_ => h_.1))) hb); have n2_ := Aside0.mk (Kd.R_below (by (with_reducible repeat (first | apply Kd.R_alloc | apply Kd.R_drewN | apply Kd.R_drew)); exact (Kd.R_mono (Kd.R_far (p := ⟨gb736, 2, none⟩) (Kd.R_far (p := ⟨gb736, 1, none⟩) (Kd.R_far (p := ⟨gb736, 0, none⟩) (Kd.R_types HO_695001.out BK736.out (by decide)) (fun _ hk => hk.2) (.int .i64 t728)) (fun _ hk => hk.2) (.slice Ao107 t729.length co107)) (fun _ hk => hk.2) (.slice Ao108 t732.length co108)) (fun _ h_ => h_.1))) hb); have n3_ := Aside0.mk (Kd.R_below (by (with_reducible repeat (first | apply Kd.R_alloc | apply Kd.R_drewN | apply Kd.R_drew)); exact (Kd.R_mono (Kd.R_far (p := ⟨gb736, 2, none⟩) (Kd.R_far (p := ⟨gb736, 1, none⟩) (Kd.R_far (p := ⟨gb736, 0, none⟩) (Kd.R_types HO_695002.out BK736.out (by decide)) (fun _ hk => hk.2) (.int .i64 t728)) (fun _ hk => hk.2) (.slice Ao107 t729.length co107)) (fun _ hk => hk.2) (.slice Ao108 t732.length co108)) (fun _ h_ => h_.1))) hb); have n4_ := Aside0.mk (Kd.R_below (by (with_reducible repeat (first | apply Kd.R_alloc | apply Kd.R_drewN | apply Kd.R_drew)); exact (Kd.R_mono (Kd.R_far (p := ⟨gb736, 2, none⟩) (Kd.R_far (p := ⟨gb736, 1, none⟩) (Kd.R_far (p := ⟨gb736, 0, none⟩) (Kd.R_types HO_704001.out BK736.out (by decide)) (fun _ hk => hk.2) (.int .i64 t728)) (fun _ hk => hk.2) (.slice Ao107 t729.length co107)) (fun _ hk => hk.2) (.slice Ao108 t732.length co108)) (fun _ h_ => h_.1))) hb); have n5_ := Aside0.mk (Kd.R_below (by (with_reducible repeat (first | apply Kd.R_alloc | apply Kd.R_drewN | apply Kd.R_drew)); exact (Kd.R_mono (Kd.R_far (p := ⟨gb736, 2, none⟩) (Kd.R_far (p := ⟨gb736, 1, none⟩) (Kd.R_far (p := ⟨gb736, 0, none⟩) (Kd.R_types HO_704002.out BK736.out (by decide)) (fun _ hk => hk.2) (.int .i64 t728)) (fun _ hk => hk.2) (.slice Ao107 t729.length co107)) (fun _ hk => hk.2) (.slice Ao108 t732.length co108)) (fun _ h_ => h_.1))) hb); have n6_ := Aside0.mk (Kd.R_below (by (with_reducible repeat (first | apply Kd.R_alloc | apply Kd.R_drewN | apply Kd.R_drew)); exact (Kd.R_mono (Kd.R_far (p := ⟨gb736, 2, none⟩) (Kd.R_far (p := ⟨gb736, 1, none⟩) (Kd.R_far (p := ⟨gb736, 0, none⟩) (Kd.R_types HO724.out BK736.out (by decide)) (fun _ hk => hk.2) (.int .i64 t728)) (fun _ hk => hk.2) (.slice Ao107 t729.length co107)) (fun _ hk => hk.2) (.slice Ao108 t732.length co108)) (fun _ h_ => h_.1))) hb); have n7_ := Aside0.mk (Kd.R_below (by (with_reducible repeat (first | apply Kd.R_alloc | apply Kd.R_drewN | apply Kd.R_drew)); exact (Kd.R_mono (Kd.R_far (p := ⟨gb736, 2, none⟩) (Kd.R_far (p := ⟨gb736, 1, none⟩) (Kd.R_far (p := ⟨gb736, 0, none⟩) (Kd.R_types HO727.out BK736.out (by decide)) (fun _ hk => hk.2) (.int .i64 t728)) (fun _ hk => hk.2) (.slice Ao107 t729.length co107)) (fun _ hk => hk.2) (.slice Ao108 t732.length co108)) (fun _ h_ => h_.1))) hb); have n8_ := Aside0.mk (Kd.R_below (by (with_reducible repeat (first | apply Kd.R_alloc | apply Kd.R_drewN | apply Kd.R_drew)); exact (Kd.R_mono (Kd.R_far (p := ⟨gb736, 2, none⟩) (Kd.R_far (p := ⟨gb736, 1, none⟩) (Kd.R_far (p := ⟨gb736, 0, none⟩) (Kd.R_types HO731.out BK736.out (by decide)) (fun _ hk => hk.2) (.int .i64 t728)) (fun _ hk => hk.2) (.slice Ao107 t729.length co107)) (fun _ hk => hk.2) (.slice Ao108 t732.length co108)) (fun _ h_ => h_.1))) hb); have n9_ := Aside0.mk (Kd.R_below (by (with_reducible repeat (first | apply Kd.R_alloc | apply Kd.R_drewN | apply Kd.R_drew)); exact (Kd.R_mono (Kd.R_far (p := ⟨gb736, 2, none⟩) (Kd.R_far (p := ⟨gb736, 1, none⟩) (Kd.R_far (p := ⟨gb736, 0, none⟩) (Kd.R_types HO734.out BK736.out (by decide)) (fun _ hk => hk.2) (.int .i64 t728)) (fun _ hk => hk.2) (.slice Ao107 t729.length co107)) (fun _ hk => hk.2) (.slice Ao108 t732.length co108)) (fun _ h_ => h_.1))) hb); have n10_ := Aside0.mk (blk_below (g := gb669) (o := .cells #[.int .i64 a0_0, .slice A0_1 l0_1.length c0_1, .slice A0_2 l0_2.length c0_2] 43 (0, 0)) (by (with_reducible repeat (first | refine blk_drewN ?_ _ | refine blk_drew ?_ | refine blk_alloc ?_ _)); refine blk_far ?_ NB669_736.out _; (with_reducible repeat (first | refine blk_drewN ?_ _ | refine blk_drew ?_ | refine blk_alloc ?_ _)); refine blk_far ?_ NB669_736.out _; (with_reducible repeat (first | refine blk_drewN ?_ _ | refine blk_drew ?_ | refine blk_alloc ?_ _)); refine blk_far ?_ NB669_736.out _; (with_reducible repeat (first | refine blk_drewN ?_ _ | refine blk_drew ?_ | refine blk_alloc ?_ _)); exact BK669.out) hb); have n11_ := Aside0.mk (blk_below (g := gb686) (o := .cells #[.int .i64 t678, .slice Ao24 t679.length co24, .slice Ao25 t682.length co25] 46 (0, 0)) (by (with_reducible repeat (first | refine blk_drewN ?_ _ | refine blk_drew ?_ | refine blk_alloc ?_ _)); refine blk_far ?_ NB686_736.out _; (with_reducible repeat (first | refine blk_drewN ?_ _ | refine blk_drew ?_ | refine blk_alloc ?_ _)); refine blk_far ?_ NB686_736.out _; (with_reducible repeat (first | refine blk_drewN ?_ _ | refine blk_drew ?_ | refine blk_alloc ?_ _)); refine blk_far ?_ NB686_736.out _; (with_reducible repeat (first | refine blk_drewN ?_ _ | refine blk_drew ?_ | refine blk_alloc ?_ _)); exact BK686.out) hb); have n12_ := Aside0.mk (blk_below (g := gb694) (o := .cells #[.int .i64 t687, .slice Ao32 t714.length co32, .slice Ao33 t715.length co33] 46 (0, 0)) (by (with_reducible repeat (first | refine blk_drewN ?_ _ | refine blk_drew ?_ | refine blk_alloc ?_ _)); refine blk_far ?_ NB694_736.out _; (with_reducible repeat (first | refine blk_drewN ?_ _ | refine blk_drew ?_ | refine blk_alloc ?_ _)); refine blk_far ?_ NB694_736.out _; (with_reducible repeat (first | refine blk_drewN ?_ _ | refine blk_drew ?_ | refine blk_alloc ?_ _)); refine blk_far ?_ NB694_736.out _; (with_reducible repeat (first | refine blk_drewN ?_ _ | refine blk_drew ?_ | refine blk_alloc ?_ _)); exact BK694.out) hb); have n13_ := Aside0.mk (blk_below (g := gb703) (o := .cells #[.int .i64 t695, .slice Ao40 t696.length co40, .slice Ao41 t699.length co41] 46 (0, 0)) (by (with_reducible repeat (first | refine blk_drewN ?_ _ | refine blk_drew ?_ | refine blk_alloc ?_ _)); refine blk_far ?_ NB703_736.out _; (with_reducible repeat (first | refine blk_drewN ?_ _ | refine blk_drew ?_ | refine blk_alloc ?_ _)); refine blk_far ?_ NB703_736.out _; (with_reducible repeat (first | refine blk_drewN ?_ _ | refine blk_drew ?_ | refine blk_alloc ?_ _)); refine blk_far ?_ NB703_736.out _; (with_reducible repeat (first | refine blk_drewN ?_ _ | refine blk_drew ?_ | refine blk_alloc ?_ _)); exact BK703.out) hb); have n14_ := Aside0.mk (blk_below (g := gb736) (o := .cells #[.int .i64 t728, .slice Ao107 t729.length co107, .slice Ao108 t732.length co108] 46 (0, 0)) (by (with_reducible repeat (first | refine blk_drewN ?_ _ | refine blk_drew ?_ | refine blk_alloc ?_ _)); refine blk_put (cs := #[.int .i64 t728, .slice Ao107 t729.length co107, .slice none 0 0]) ?_ 2 _ rfl; (with_reducible repeat (first | refine blk_drewN ?_ _ | refine blk_drew ?_ | refine blk_alloc ?_ _)); refine blk_put (cs := #[.int .i64 t728, .slice none 0 0, .slice none 0 0]) ?_ 1 _ rfl; (with_reducible repeat (first | refine blk_drewN ?_ _ | refine blk_drew ?_ | refine blk_alloc ?_ _)); refine blk_put (cs := #[.int .i64 0, .slice none 0 0, .slice none 0 0]) ?_ 0 _ rfl; (with_reducible repeat (first | refine blk_drewN ?_ _ | refine blk_drew ?_ | refine blk_alloc ?_ _)); exact BK736.out) hb); have n15_ := Aside0.mk (below_step (by repeat (first | (with_reducible first | exact HB.out | apply below_alloc | apply pw_below_drewN | apply below_drew1 | refine below_set ?_ GE669.out | refine below_set ?_ GE686.out | refine below_set ?_ GE694.out | refine below_set ?_ GE703.out | refine below_set ?_ GE736.out) | exact HB.out)) hb); clear HO_687001 HO_687002 HO_695001 HO_695002 HO_704001 HO_704002 HO724 HO727 HO731 HO734 BK669 BK686 BK694 BK703 BK736 HB; have HO_687001 := n0_; have HO_687002 := n1_; have HO_695001 := n2_; have HO_695002 := n3_; have HO_704001 := n4_; have HO_704002 := n5_; have HO724 := n6_; have HO727 := n7_; have HO731 := n8_; have HO734 := n9_; have BK669 := n10_; have BK686 := n11_; have BK694 := n12_; have BK703 := n13_; have BK736 := n14_; have HB := n15_; clear n0_ n1_ n2_ n3_ n4_ n5_ n6_ n7_ n8_ n9_ n10_ n11_ n12_ n13_ n14_ n15_; (try clear hb); (try clear hb2); (try clear hk); (try clear hi)))
                          go_meet
                          case rel => exact ⟨_, ((t735 != t685)), (by first | rfl | (simp; done) | (simp [*]; done)), H', ⟨by have := HJ11.out; have := HJ56.out; first | omega | exact Nat.le_refl _⟩, ⟨by (try simp only [hl695001_56]); (try simp only [hl695002_56]); (with_reducible repeat (first | apply Kd.R_alloc | apply Kd.R_drewN | apply Kd.R_drew)); exact Kd.R_mono HO_687001.out (fun _ hk => ⟨hk.1.1.1.1.1, ⟨hk.1.1.1.1.2.1, ⟨hk.1.1.1.1.2.2.1, ⟨hk.1.1.1.1.2.2.2.1, ⟨hk.1.1.1.1.2.2.2.2, ⟨hk.1.2, hk.2⟩⟩⟩⟩⟩⟩)⟩, ⟨by (try simp only [hl695001_56]); (try simp only [hl695002_56]); (with_reducible repeat (first | apply Kd.R_alloc | apply Kd.R_drewN | apply Kd.R_drew)); exact Kd.R_mono HO_687002.out (fun _ hk => ⟨hk.1.1.1.1.1, ⟨hk.1.1.1.1.2.1, ⟨hk.1.1.1.1.2.2.1, ⟨hk.1.1.1.1.2.2.2.1, ⟨hk.1.1.1.1.2.2.2.2, ⟨hk.1.2, hk.2⟩⟩⟩⟩⟩⟩)⟩, ⟨by (try simp only [hl695001_56]); (try simp only [hl695002_56]); (with_reducible repeat (first | apply Kd.R_alloc | apply Kd.R_drewN | apply Kd.R_drew)); exact Kd.R_mono HO_695001.out (fun _ hk => ⟨hk.1.1.1.1.1, ⟨hk.1.1.1.1.2.1, ⟨hk.1.1.1.1.2.2.1, ⟨hk.1.1.1.1.2.2.2.1, ⟨hk.1.1.1.1.2.2.2.2, ⟨hk.1.2, hk.2⟩⟩⟩⟩⟩⟩)⟩, ⟨by (try simp only [hl695001_56]); (try simp only [hl695002_56]); (with_reducible repeat (first | apply Kd.R_alloc | apply Kd.R_drewN | apply Kd.R_drew)); exact Kd.R_mono HO_695002.out (fun _ hk => ⟨hk.1.1.1.1.1, ⟨hk.1.1.1.1.2.1, ⟨hk.1.1.1.1.2.2.1, ⟨hk.1.1.1.1.2.2.2.1, ⟨hk.1.1.1.1.2.2.2.2, ⟨hk.1.2, hk.2⟩⟩⟩⟩⟩⟩)⟩, ⟨by (try simp only [hl695001_56]); (try simp only [hl695002_56]); (with_reducible repeat (first | apply Kd.R_alloc | apply Kd.R_drewN | apply Kd.R_drew)); exact Kd.R_mono HO_704001.out (fun _ hk => ⟨hk.1.1.1.1.1, ⟨hk.1.1.1.1.2.1, ⟨hk.1.1.1.1.2.2.1, ⟨hk.1.1.1.1.2.2.2.1, ⟨hk.1.1.1.1.2.2.2.2, ⟨hk.1.2, hk.2⟩⟩⟩⟩⟩⟩)⟩, ⟨by (try simp only [hl695001_56]); (try simp only [hl695002_56]); (with_reducible repeat (first | apply Kd.R_alloc | apply Kd.R_drewN | apply Kd.R_drew)); exact Kd.R_mono HO_704002.out (fun _ hk => ⟨hk.1.1.1.1.1, ⟨hk.1.1.1.1.2.1, ⟨hk.1.1.1.1.2.2.1, ⟨hk.1.1.1.1.2.2.2.1, ⟨hk.1.1.1.1.2.2.2.2, ⟨hk.1.2, hk.2⟩⟩⟩⟩⟩⟩)⟩, ⟨by (try simp only [hl695001_56]); (try simp only [hl695002_56]); (with_reducible repeat (first | apply Kd.R_alloc | apply Kd.R_drewN | apply Kd.R_drew)); exact Kd.R_mono HO731.out (fun _ hk => ⟨hk.1.1.1.1.1.1.1.2, ⟨hk.1.1.1.1.1.1.2, ⟨hk.1.1.1.1.1.2, ⟨hk.1.1.1.1.2, ⟨hk.1.1.1.2, ⟨hk.1.1.2, hk.1.1.1.1.1.1.1.1⟩⟩⟩⟩⟩⟩)⟩, ⟨by (try simp only [hl695001_56]); (try simp only [hl695002_56]); (with_reducible repeat (first | apply Kd.R_alloc | apply Kd.R_drewN | apply Kd.R_drew)); exact Kd.R_mono HO734.out (fun _ hk => ⟨hk.1.1.1.1.1.1.1.2, ⟨hk.1.1.1.1.1.1.2, ⟨hk.1.1.1.1.1.2, ⟨hk.1.1.1.1.2, ⟨hk.1.1.1.2, ⟨hk.1.1.2, hk.1.1.1.1.1.1.1.1⟩⟩⟩⟩⟩⟩)⟩, ⟨by (try simp only [hl695001_56]); (try simp only [hl695002_56]); (with_reducible repeat (first | refine blk_drewN ?_ _ | refine blk_drew ?_ | refine blk_alloc ?_ _)); exact BK669.out⟩, ⟨by (try simp only [hl695001_56]); (try simp only [hl695002_56]); (with_reducible repeat (first | refine blk_drewN ?_ _ | refine blk_drew ?_ | refine blk_alloc ?_ _)); exact BK686.out⟩, ⟨by (try simp only [hl695001_56]); (try simp only [hl695002_56]); (with_reducible repeat (first | refine blk_drewN ?_ _ | refine blk_drew ?_ | refine blk_alloc ?_ _)); exact BK694.out⟩, ⟨by (try simp only [hl695001_56]); (try simp only [hl695002_56]); (with_reducible repeat (first | refine blk_drewN ?_ _ | refine blk_drew ?_ | refine blk_alloc ?_ _)); exact BK703.out⟩, ⟨by (try simp only [hl695001_56]); (try simp only [hl695002_56]); (with_reducible repeat (first | refine blk_drewN ?_ _ | refine blk_drew ?_ | refine blk_alloc ?_ _)); exact BK736.out⟩, ⟨by repeat (first | (with_reducible first | exact HB.out | apply below_alloc | apply pw_below_drewN | apply below_drew1 | refine below_set ?_ GE669.out | refine below_set ?_ GE686.out | refine below_set ?_ GE694.out | refine below_set ?_ GE703.out | refine below_set ?_ GE736.out) | exact HB.out)⟩⟩
                        · replace c110 := Bool.eq_false_iff.mpr c110
                          subst c110
                          have H1 : (laws_FnExactQuitLatch.j2 kj56 t717 true t695 t718 t719) = some r := by rw [if_neg (show ¬ (false = true) by decide)] at H; exact H
                          clear H
                          have H := H1
                          clear H1
                          cases kj56 with
                          | zero => exact absurd H (by simp [laws_FnExactQuitLatch.j2])
                          | succ k_ => (simp only [laws_FnExactQuitLatch.j2, if_pos] at H; exact absurd (Option.some.inj H) (by rw [HQ_.out]; simp))
                      case rest =>
                        clear HC86
                        try clear c1
                        try clear c2
                        try clear p2
                        try clear c3
                        try clear c4
                        try clear c4b0
                        try clear c5
                        try clear c6
                        try clear c7
                        try clear c8
                        try clear c9
                        try clear c10
                        try clear c11
                        try clear c22
                        try clear c23
                        try clear c25
                        try clear c27
                        try clear c29
                        try clear c30
                        try clear c36
                        try clear c37
                        try clear c38
                        try clear c40
                        try clear c41
                        try clear c43
                        try clear c44
                        try clear c45
                        try clear c46
                        try clear c48
                        try clear c49
                        try clear c52
                        try clear c55
                        try clear c63
                        try clear c64
                        try clear c65
                        try clear c68
                        try clear c68b0
                        try clear c70
                        try clear c71
                        try clear c72
                        try clear c73
                        try clear c75
                        try clear c76
                        try clear c79
                        try clear c82
                        try clear c82b0
                        try clear c83
                        try clear c83b0
                        try clear c83b1
                        try clear c87
                        try clear c88
                        try clear c89
                        try clear c94
                        try clear c95
                        try clear c102
                        try clear c103
                        try clear c104
                        try clear c105
                        try clear c110
                        try clear c111
                        try clear c112
                        try clear c113
                        try clear c114
                        try clear c116
                        try clear c117
                        try clear c118
                        try clear hcz106_0
                        try clear hcz106_1
                        try clear hcz106_2
                        try clear hcz115_0
                        try clear hcz115_1
                        try clear hcz115_2
                        try clear hcz119_0
                        try clear hcz119_1
                        try clear hcz119_2
                        try clear hcz14_0
                        try clear hcz14_1
                        try clear hcz14_2
                        try clear hcz16_0
                        try clear hcz16_1
                        try clear hcz16_2
                        try clear hcz23_0
                        try clear hcz23_1
                        try clear hcz23_2
                        try clear hcz26_0
                        try clear hcz26_1
                        try clear hcz26_2
                        try clear hcz31_0
                        try clear hcz31_1
                        try clear hcz31_2
                        try clear hcz39_0
                        try clear hcz39_1
                        try clear hcz39_2
                        try clear hcz47_0
                        try clear hcz47_1
                        try clear hcz47_2
                        try clear hcz50_0
                        try clear hcz50_1
                        try clear hcz50_2
                        try clear hcz66_0
                        try clear hcz66_1
                        try clear hcz66_2
                        try clear hcz6_0
                        try clear hcz6_1
                        try clear hcz6_2
                        try clear hcz74_0
                        try clear hcz74_1
                        try clear hcz74_2
                        try clear hcz77_0
                        try clear hcz77_1
                        try clear hcz77_2
                        try clear hcz90_0
                        try clear hcz90_1
                        try clear hcz90_2
                        try clear hcz92_0
                        try clear hcz92_1
                        try clear hcz92_2
                        try clear hcz96_0
                        try clear hcz96_1
                        try clear hcz96_2
                        try clear hfz106_0
                        try clear hfz106_1
                        try clear hfz106_2
                        try clear hfz115_0
                        try clear hfz115_1
                        try clear hfz115_2
                        try clear hfz119_0
                        try clear hfz119_1
                        try clear hfz119_2
                        try clear hfz14_0
                        try clear hfz14_1
                        try clear hfz14_2
                        try clear hfz16_0
                        try clear hfz16_1
                        try clear hfz16_2
                        try clear hfz23_0
                        try clear hfz23_1
                        try clear hfz23_2
                        try clear hfz26_0
                        try clear hfz26_1
                        try clear hfz26_2
                        try clear hfz31_0
                        try clear hfz31_1
                        try clear hfz31_2
                        try clear hfz39_0
                        try clear hfz39_1
                        try clear hfz39_2
                        try clear hfz47_0
                        try clear hfz47_1
                        try clear hfz47_2
                        try clear hfz50_0
                        try clear hfz50_1
                        try clear hfz50_2
                        try clear hfz66_0
                        try clear hfz66_1
                        try clear hfz66_2
                        try clear hfz6_0
                        try clear hfz6_1
                        try clear hfz6_2
                        try clear hfz74_0
                        try clear hfz74_1
                        try clear hfz74_2
                        try clear hfz77_0
                        try clear hfz77_1
                        try clear hfz77_2
                        try clear hfz90_0
                        try clear hfz90_1
                        try clear hfz90_2
                        try clear hfz92_0
                        try clear hfz92_1
                        try clear hfz92_2
                        try clear hfz96_0
                        try clear hfz96_1
                        try clear hfz96_2
                        try clear p2
                        obtain ⟨kq, x92_85, rfl, HA, HJ85, HO_687001, HO_687002, HO_695001, HO_695002, HO_704001, HO_704002, HO_737001, HO_737002, BK669, BK686, BK694, BK703, BK736, HB⟩ := hcut
                        have hl704001_85 := (Kd.R_reads' HO_704001.out).1
                        rw [hl704001_85] at HO_704001
                        (try simp only [hl704001_85])
                        (try simp only [hl704001_85] at BK669)
                        (try simp only [hl704001_85] at BK686)
                        (try simp only [hl704001_85] at BK694)
                        (try simp only [hl704001_85] at BK703)
                        (try simp only [hl704001_85] at BK736)
                        (try simp only [hl704001_85] at HO_687001)
                        (try simp only [hl704001_85] at HO_687002)
                        (try simp only [hl704001_85] at HO_695001)
                        (try simp only [hl704001_85] at HO_695002)
                        (try simp only [hl704001_85] at HO_704002)
                        (try simp only [hl704001_85] at HO_737001)
                        (try simp only [hl704001_85] at HO_737002)
                        have hl704002_85 := (Kd.R_reads' HO_704002.out).1
                        rw [hl704002_85] at HO_704002
                        (try simp only [hl704002_85])
                        (try simp only [hl704002_85] at BK669)
                        (try simp only [hl704002_85] at BK686)
                        (try simp only [hl704002_85] at BK694)
                        (try simp only [hl704002_85] at BK703)
                        (try simp only [hl704002_85] at BK736)
                        (try simp only [hl704002_85] at HO_687001)
                        (try simp only [hl704002_85] at HO_687002)
                        (try simp only [hl704002_85] at HO_695001)
                        (try simp only [hl704002_85] at HO_695002)
                        (try simp only [hl704002_85] at HO_704001)
                        (try simp only [hl704002_85] at HO_737001)
                        (try simp only [hl704002_85] at HO_737002)
                        cases kq with
                        | zero => exact absurd HA.out (by simp [laws_FnExactQuitLatch.j2])
                        | succ kj85 =>
                          have H := HA.out
                          clear HA
                          simp only [laws_FnExactQuitLatch.j2] at H
                          by_cases c121 : x92_85 = true
                          · subst c121
                            have H1 : (some false) = some r := by rw [if_pos rfl] at H; exact H
                            clear H
                            have H := H1
                            clear H1
                            exact absurd (Option.some.inj H) (by rw [HQ_.out]; simp)
                          · replace c121 := Bool.eq_false_iff.mpr c121
                            subst c121
                            have H1 : ((laws_heldLatch.f kj85 t695 t718 t719 1).bind fun t738 => (if t738 < 0 then (some false) else (if t738 = t717 then (some true) else (some false)))) = some r := by rw [if_neg (show ¬ (false = true) by decide)] at H; exact H
                            clear H
                            have H := H1
                            clear H1
                            replace H := Option.bind_eq_some_iff.mp H
                            obtain ⟨t738, A1220, H⟩ := H
                            replace H : (if t738 < 0 then (some false) else (if t738 = t717 then (some true) else (some false))) = some r := H
                            have A122 := Aside0.mk A1220
                            clear A1220
                            by_cases c123 : t738 < 0
                            · rw [if_pos c123] at H
                              have c123b0 : decide (t738 < 0) = true := decide_eq_true c123
                              clear c123
                              exact absurd (Option.some.inj H) (by rw [HQ_.out]; simp)
                            · rw [if_neg c123] at H
                              have c123b0 : decide (t738 < 0) = false := decide_eq_false c123
                              clear c123
                              by_cases c124 : t738 = t717
                              · rw [if_pos c124] at H
                                have c124b0 : (t738 == t717) = true := beq_iff_eq.mpr c124
                                have c124b1 : (t738 != t717) = false := bne_eq_false_iff_eq.mpr c124
                                clear c124
                                obtain rfl := Option.some.inj H
                                have hnb125 := NB703_669.out
                                have hnc125 := NB669_703.out
                                have hnb126 := NB703_686.out
                                have hnc126 := NB686_703.out
                                have hnb127 := NB703_694.out
                                have hnc127 := NB694_703.out
                                have hnb128 := NB703_736.out
                                have hnc128 := NB736_703.out
                                have hcz129_0 : wc.cell? ⟨gb703, 0, none⟩ = some (.int .i64 t695) := (blk_cell BK703.out 0).trans rfl
                                have hcz129_1 : wc.cell? ⟨gb703, 1, none⟩ = some (.slice Ao40 t718.length co40) := (blk_cell BK703.out 1).trans rfl
                                have hcz129_2 : wc.cell? ⟨gb703, 2, none⟩ = some (.slice Ao41 t719.length co41) := (blk_cell BK703.out 2).trans rfl
                                have hfz129_0 := blk_frozen BK703.out 0
                                have hfz129_1 := blk_frozen BK703.out 1
                                have hfz129_2 := blk_frozen BK703.out 2
                                go_wp2_with (first | ((with_reducible refine gate_callee (f := 37) rfl ?_); refine goesL_ (some 95) rfl rfl Try.func37 (by kernel_rfl) rfl #[.agg #[.int .i64 t695, .slice Ao40 t718.length co40, .slice Ao41 t719.length co41], .int .i64 1] rfl (by (try simp only [List.map_toArray, List.map_cons, List.map_nil]); first | done | rfl | (simp only [List.length_drop, List.length_take]; rfl) | (go_simp; done) | (simp [*]; done)) ?_; (with_reducible refine (laws_heldLatch.calls kj85 t695 _ _ t718 _ _ t719 1 t738 _ ?side1 ?side2 ?side3 ?side4 A122.out).mono ?_); (case side1 => exact pkC (Kd.R_reads' HO_704001.out).2.2); (case side2 => exact (Kd.R_reads' HO_704001.out).2.1); (case side3 => exact pkC (Kd.R_reads' HO_704002.out).2.2); (case side4 => exact (Kd.R_reads' HO_704002.out).2.1); rintro e w130 ⟨rfl, hb⟩; refine ⟨_, rfl, ?_⟩; have n0_ := Aside0.mk (Kd.R_below (pkR HO_687001.out) hb); have n1_ := Aside0.mk (Kd.R_below (pkR HO_687002.out) hb); have n2_ := Aside0.mk (Kd.R_below (pkR HO_695001.out) hb); have n3_ := Aside0.mk (Kd.R_below (pkR HO_695002.out) hb); have n4_ := Aside0.mk (Kd.R_below (pkR HO_704001.out) hb); have n5_ := Aside0.mk (Kd.R_below (pkR HO_704002.out) hb); have n6_ := Aside0.mk (Kd.R_below (pkR HO_737001.out) hb); have n7_ := Aside0.mk (Kd.R_below (pkR HO_737002.out) hb); have n8_ := Aside0.mk (blk_below (g := gb669) (o := .cells #[.int .i64 a0_0, .slice A0_1 l0_1.length c0_1, .slice A0_2 l0_2.length c0_2] 43 (0, 0)) (pkK BK669.out) hb); have n9_ := Aside0.mk (blk_below (g := gb686) (o := .cells #[.int .i64 t678, .slice Ao24 t679.length co24, .slice Ao25 t682.length co25] 46 (0, 0)) (pkK BK686.out) hb); have n10_ := Aside0.mk (blk_below (g := gb694) (o := .cells #[.int .i64 t687, .slice Ao32 t714.length co32, .slice Ao33 t715.length co33] 46 (0, 0)) (pkK BK694.out) hb); have n11_ := Aside0.mk (blk_below (g := gb703) (o := .cells #[.int .i64 t695, .slice Ao40 t718.length co40, .slice Ao41 t719.length co41] 46 (0, 0)) (pkK BK703.out) hb); have n12_ := Aside0.mk (blk_below (g := gb736) (o := .cells #[.int .i64 t728, .slice Ao107 t729.length co107, .slice Ao108 t732.length co108] 46 (0, 0)) (pkK BK736.out) hb); have n13_ := Aside0.mk (below_step (by repeat (first | (with_reducible first | exact HB.out | apply below_alloc | apply pw_below_drewN | apply below_drew1 | refine below_set ?_ GE669.out | refine below_set ?_ GE686.out | refine below_set ?_ GE694.out | refine below_set ?_ GE703.out | refine below_set ?_ GE736.out) | exact HB.out)) hb); clear HO_687001 HO_687002 HO_695001 HO_695002 HO_704001 HO_704002 HO_737001 HO_737002 BK669 BK686 BK694 BK703 BK736 HB; have HO_687001 := n0_; have HO_687002 := n1_; have HO_695001 := n2_; have HO_695002 := n3_; have HO_704001 := n4_; have HO_704002 := n5_; have HO_737001 := n6_; have HO_737002 := n7_; have BK669 := n8_; have BK686 := n9_; have BK694 := n10_; have BK703 := n11_; have BK736 := n12_; have HB := n13_; clear n0_ n1_ n2_ n3_ n4_ n5_ n6_ n7_ n8_ n9_ n10_ n11_ n12_ n13_; (try clear hb); (try clear hb2); (try clear hk); (try clear hi)))
                                go_ret
                                exact ⟨by first | rfl | (simp [errW_none, errW_some] <;> rfl) | (simp [*, errW_none, errW_some] <;> rfl), by repeat (first | (with_reducible first | exact HB.out | apply below_alloc | apply pw_below_drewN | apply below_drew1 | refine below_set ?_ GE669.out | refine below_set ?_ GE686.out | refine below_set ?_ GE694.out | refine below_set ?_ GE703.out | refine below_set ?_ GE736.out) | exact HB.out)⟩
                              · rw [if_neg c124] at H
                                have c124b0 : (t738 == t717) = false := beq_eq_false_iff_ne.mpr c124
                                have c124b1 : (t738 != t717) = true := bne_iff_ne.mpr c124
                                exact absurd (Option.some.inj H) (by rw [HQ_.out]; simp)
                    · rw [if_neg c83] at H
                      have c83b0 : (t720 == t717) = false := beq_eq_false_iff_ne.mpr c83
                      have c83b1 : (t720 != t717) = true := bne_iff_ne.mpr c83
                      exact absurd (Option.some.inj H) (by rw [HQ_.out]; simp)
          · replace c55 := Bool.eq_false_iff.mpr c55
            subst c55
            have H1 : (some false) = some r := by rw [if_neg (show ¬ (false = true) by decide)] at H; exact H
            clear H
            have H := H1
            clear H1
            exact absurd (Option.some.inj H) (by rw [HQ_.out]; simp)
end Go.Proofs.Ytffcphplnilokaa.Z
