import Derived.Test.YtffcphplnilokaaZx0
import Derived.Test.YtffcphplnilokaaZx17
import Derived.Test.YtffcphplnilokaaZx19
import Derived.Test.YtffcphplnilokaaZx22
import Derived.Test.YtffcphplnilokaaZx25
import Derived.Test.YtffcphplnilokaaZx29
import Derived.Test.YtffcphplnilokaaZx30
import Derived.Test.YtffcphplnilokaaZx35
namespace Go.Proofs.Ytffcphplnilokaa.Z
open Go.RowKit Go.Proofs.YtffcphplnilokaaW.PrintWords Go.Proofs.YtffcphplnilokaaW.PrintLast Go.Proofs.YtffcphplnilokaaW.PrintMore
attribute [local go_sem] max2_int min2_int max_two min_two max_three min_three max_four min_four   -- for this text's walks alone
set_option linter.unusedVariables false
set_option linter.unusedSimpArgs false
mutual
def laws_FnExactPassLatch.j0 : Nat → Int → Int → Int → Bool → Int → List Int → List Int → Int → List Int → List Int → Int → List Int → List Int → Int → List Int → List Int → Option (Bool)
  | 0, _, _, _, _, _, _, _, _, _, _, _, _, _, _, _, _ => none
  | k + 1, x1, x7, x10, x44, x756000, x756001, x756002, x773000, x773001, x773002, x781000, x781001, x781002, x790000, x790001, x790002 => if x44 = true then (some false) else ((laws_toLatch.f k x756000 x756001 x756002).bind fun bt791 => ((laws_eqLatch.f k x781000 x781001 x781002 bt791.1 bt791.2.1 bt791.2.2).bind fun t798 => (if t798 = true then ((laws_markLatch.f k x781000 x781001 x781002 1).bind fun bt799 => (if bt799.1 < 0 then (laws_FnExactPassLatch.j1 k x1 x7 true x756000 x756001 x756002 x773000 x773001 x773002 x790000 x790001 x790002) else ((laws_eqLatch.f k x790000 x790001 x790002 x773000 x773001 x773002).bind fun t802 => (if t802 = true then (laws_FnExactPassLatch.j1 k x1 x7 (x10 != x7) x756000 x756001 x756002 x773000 x773001 x773002 x790000 x790001 x790002) else (laws_FnExactPassLatch.j1 k x1 x7 true x756000 x756001 x756002 x773000 x773001 x773002 x790000 x790001 x790002))))) else (some false))))
def laws_FnExactPassLatch.j1 : Nat → Int → Int → Bool → Int → List Int → List Int → Int → List Int → List Int → Int → List Int → List Int → Option (Bool)
  | 0, _, _, _, _, _, _, _, _, _, _, _, _ => none
  | k + 1, x1, x7, x65, x756000, x756001, x756002, x773000, x773001, x773002, x790000, x790001, x790002 => if x65 = true then (some false) else ((laws_markLatch.f k x790000 x790001 x790002 1).bind fun bt803 => ((laws_heldLatch.f k x790000 bt803.2.1 bt803.2.2 1).bind fun t806 => (if t806 < 0 then (some false) else (if t806 = bt803.1 then ((laws_toLatch.f k x756000 x756001 x756002).bind fun bt807 => ((impl_PassLatch.f k bt807.1 bt807.2.1 bt807.2.2 x1).bind fun bt814 => ((laws_eqLatch.f k bt814.1 bt814.2.1 bt814.2.2.1 x773000 x773001 x773002).bind fun t823 => (if t823 = true then (laws_FnExactPassLatch.j2 k bt803.1 (bt814.2.2.2 != x7) x790000 bt803.2.1 bt803.2.2) else (laws_FnExactPassLatch.j2 k bt803.1 true x790000 bt803.2.1 bt803.2.2))))) else (some false)))))
def laws_FnExactPassLatch.j2 : Nat → Int → Bool → Int → List Int → List Int → Option (Bool)
  | 0, _, _, _, _, _ => none
  | k + 1, x12, x92, x790000, x790001, x790002 => if x92 = true then (some false) else ((laws_heldLatch.f k x790000 x790001 x790002 1).bind fun t824 => (if t824 < 0 then (some false) else (if t824 = x12 then (some true) else (some false))))
end
def laws_FnExactPassLatch.f (k : Nat) (a0_0 : Int) (l0_1 : List Int) (l0_2 : List Int) (a1 : Int) : Option (Bool) := (laws_szLatch.f a0_0 l0_1 l0_2 1048576).bind fun t756 => (if t756 < 0 then (some true) else ((laws_toLatch.f k a0_0 l0_1 l0_2).bind fun bt757 => ((spec_PassLatch.f k bt757.1 bt757.2.1 bt757.2.2 a1).bind fun bt764 => ((laws_toLatch.f k a0_0 l0_1 l0_2).bind fun bt773 => ((impl_PassLatch.f k bt773.1 bt773.2.1 bt773.2.2 a1).bind fun bt781 => ((laws_eqLatch.f k bt781.1 bt781.2.1 bt781.2.2.1 bt764.1 bt764.2.1 bt764.2.2.1).bind fun t790 => (if t790 = true then (laws_FnExactPassLatch.j0 k a1 bt764.2.2.2 bt781.2.2.2 (bt781.2.2.2 != bt764.2.2.2) a0_0 l0_1 l0_2 bt764.1 bt764.2.1 bt764.2.2.1 bt773.1 bt773.2.1 bt773.2.2 bt781.1 bt781.2.1 bt781.2.2.1) else (laws_FnExactPassLatch.j0 k a1 bt764.2.2.2 bt781.2.2.2 true a0_0 l0_1 l0_2 bt764.1 bt764.2.1 bt764.2.2.1 bt773.1 bt773.2.1 bt773.2.2 bt781.1 bt781.2.1 bt781.2.2.1))))))))
theorem laws_FnExactPassLatch.mono_l : ∀ k, (∀ y0 y1 y2 y3 y4 y5 y6 y7 y8 y9 y10 y11 y12 y13 y14 y15, LeO (laws_FnExactPassLatch.j0 k y0 y1 y2 y3 y4 y5 y6 y7 y8 y9 y10 y11 y12 y13 y14 y15) (laws_FnExactPassLatch.j0 (k + 1) y0 y1 y2 y3 y4 y5 y6 y7 y8 y9 y10 y11 y12 y13 y14 y15)) ∧ (∀ y0 y1 y2 y3 y4 y5 y6 y7 y8 y9 y10 y11, LeO (laws_FnExactPassLatch.j1 k y0 y1 y2 y3 y4 y5 y6 y7 y8 y9 y10 y11) (laws_FnExactPassLatch.j1 (k + 1) y0 y1 y2 y3 y4 y5 y6 y7 y8 y9 y10 y11)) ∧ (∀ y0 y1 y2 y3 y4, LeO (laws_FnExactPassLatch.j2 k y0 y1 y2 y3 y4) (laws_FnExactPassLatch.j2 (k + 1) y0 y1 y2 y3 y4))
  | 0 => ⟨fun _ _ _ _ _ _ _ _ _ _ _ _ _ _ _ _ r h => by simp [laws_FnExactPassLatch.j0] at h, fun _ _ _ _ _ _ _ _ _ _ _ _ r h => by simp [laws_FnExactPassLatch.j1] at h, fun _ _ _ _ _ r h => by simp [laws_FnExactPassLatch.j2] at h⟩
  | k + 1 => by
    obtain ⟨ih0, ih1, ih2⟩ := laws_FnExactPassLatch.mono_l k
    refine ⟨?_, ?_, ?_⟩
    · intro y0 y1 y2 y3 y4 y5 y6 y7 y8 y9 y10 y11 y12 y13 y14 y15
      unfold laws_FnExactPassLatch.j0
      repeat' first
      | (with_reducible exact ih0 _ _ _ _ _ _ _ _ _ _ _ _ _ _ _ _)
      | (with_reducible exact ih1 _ _ _ _ _ _ _ _ _ _ _ _)
      | (with_reducible exact ih2 _ _ _ _ _)
      | (with_reducible exact impl_PassLatch.mono _ _ _ _ _)
      | (with_reducible exact laws_eqLatch.mono _ _ _ _ _ _ _)
      | (with_reducible exact laws_heldLatch.mono _ _ _ _ _)
      | (with_reducible exact laws_markLatch.mono _ _ _ _ _)
      | (with_reducible exact laws_toLatch.mono _ _ _ _)
      | (with_reducible exact spec_PassLatch.mono _ _ _ _ _)
      | (with_reducible exact LeO.refl _)
      | (with_reducible exact LeO.none _)
      | (with_reducible refine LeO.ite ?_ ?_)
      | (with_reducible refine LeO.bind ?_ (fun _ => ?_))
      | exact ih0 _ _ _ _ _ _ _ _ _ _ _ _ _ _ _ _
      | exact ih1 _ _ _ _ _ _ _ _ _ _ _ _
      | exact ih2 _ _ _ _ _
      | exact impl_PassLatch.mono _ _ _ _ _
      | exact laws_eqLatch.mono _ _ _ _ _ _ _
      | exact laws_heldLatch.mono _ _ _ _ _
      | exact laws_markLatch.mono _ _ _ _ _
      | exact laws_toLatch.mono _ _ _ _
      | exact spec_PassLatch.mono _ _ _ _ _
      | exact LeO.none _
      | refine LeO.ite ?_ ?_
      | refine LeO.bind ?_ (fun _ => ?_)
    · intro y0 y1 y2 y3 y4 y5 y6 y7 y8 y9 y10 y11
      unfold laws_FnExactPassLatch.j1
      repeat' first
      | (with_reducible exact ih0 _ _ _ _ _ _ _ _ _ _ _ _ _ _ _ _)
      | (with_reducible exact ih1 _ _ _ _ _ _ _ _ _ _ _ _)
      | (with_reducible exact ih2 _ _ _ _ _)
      | (with_reducible exact impl_PassLatch.mono _ _ _ _ _)
      | (with_reducible exact laws_eqLatch.mono _ _ _ _ _ _ _)
      | (with_reducible exact laws_heldLatch.mono _ _ _ _ _)
      | (with_reducible exact laws_markLatch.mono _ _ _ _ _)
      | (with_reducible exact laws_toLatch.mono _ _ _ _)
      | (with_reducible exact spec_PassLatch.mono _ _ _ _ _)
      | (with_reducible exact LeO.refl _)
      | (with_reducible exact LeO.none _)
      | (with_reducible refine LeO.ite ?_ ?_)
      | (with_reducible refine LeO.bind ?_ (fun _ => ?_))
      | exact ih0 _ _ _ _ _ _ _ _ _ _ _ _ _ _ _ _
      | exact ih1 _ _ _ _ _ _ _ _ _ _ _ _
      | exact ih2 _ _ _ _ _
      | exact impl_PassLatch.mono _ _ _ _ _
      | exact laws_eqLatch.mono _ _ _ _ _ _ _
      | exact laws_heldLatch.mono _ _ _ _ _
      | exact laws_markLatch.mono _ _ _ _ _
      | exact laws_toLatch.mono _ _ _ _
      | exact spec_PassLatch.mono _ _ _ _ _
      | exact LeO.none _
      | refine LeO.ite ?_ ?_
      | refine LeO.bind ?_ (fun _ => ?_)
    · intro y0 y1 y2 y3 y4
      unfold laws_FnExactPassLatch.j2
      repeat' first
      | (with_reducible exact ih0 _ _ _ _ _ _ _ _ _ _ _ _ _ _ _ _)
      | (with_reducible exact ih1 _ _ _ _ _ _ _ _ _ _ _ _)
      | (with_reducible exact ih2 _ _ _ _ _)
      | (with_reducible exact impl_PassLatch.mono _ _ _ _ _)
      | (with_reducible exact laws_eqLatch.mono _ _ _ _ _ _ _)
      | (with_reducible exact laws_heldLatch.mono _ _ _ _ _)
      | (with_reducible exact laws_markLatch.mono _ _ _ _ _)
      | (with_reducible exact laws_toLatch.mono _ _ _ _)
      | (with_reducible exact spec_PassLatch.mono _ _ _ _ _)
      | (with_reducible exact LeO.refl _)
      | (with_reducible exact LeO.none _)
      | (with_reducible refine LeO.ite ?_ ?_)
      | (with_reducible refine LeO.bind ?_ (fun _ => ?_))
      | exact ih0 _ _ _ _ _ _ _ _ _ _ _ _ _ _ _ _
      | exact ih1 _ _ _ _ _ _ _ _ _ _ _ _
      | exact ih2 _ _ _ _ _
      | exact impl_PassLatch.mono _ _ _ _ _
      | exact laws_eqLatch.mono _ _ _ _ _ _ _
      | exact laws_heldLatch.mono _ _ _ _ _
      | exact laws_markLatch.mono _ _ _ _ _
      | exact laws_toLatch.mono _ _ _ _
      | exact spec_PassLatch.mono _ _ _ _ _
      | exact LeO.none _
      | refine LeO.ite ?_ ?_
      | refine LeO.bind ?_ (fun _ => ?_)
theorem laws_FnExactPassLatch.mono : ∀ a0 a1 a2 a3 k, LeO (laws_FnExactPassLatch.f k a0 a1 a2 a3) (laws_FnExactPassLatch.f (k + 1) a0 a1 a2 a3) := by
  intro a0 a1 a2 a3 k
  obtain ⟨ih0, ih1, ih2⟩ := laws_FnExactPassLatch.mono_l k
  unfold laws_FnExactPassLatch.f
  repeat' first
      | (with_reducible exact ih0 _ _ _ _ _ _ _ _ _ _ _ _ _ _ _ _)
      | (with_reducible exact ih1 _ _ _ _ _ _ _ _ _ _ _ _)
      | (with_reducible exact ih2 _ _ _ _ _)
      | (with_reducible exact impl_PassLatch.mono _ _ _ _ _)
      | (with_reducible exact laws_eqLatch.mono _ _ _ _ _ _ _)
      | (with_reducible exact laws_heldLatch.mono _ _ _ _ _)
      | (with_reducible exact laws_markLatch.mono _ _ _ _ _)
      | (with_reducible exact laws_toLatch.mono _ _ _ _)
      | (with_reducible exact spec_PassLatch.mono _ _ _ _ _)
      | (with_reducible exact LeO.refl _)
      | (with_reducible exact LeO.none _)
      | (with_reducible refine LeO.ite ?_ ?_)
      | (with_reducible refine LeO.bind ?_ (fun _ => ?_))
      | exact ih0 _ _ _ _ _ _ _ _ _ _ _ _ _ _ _ _
      | exact ih1 _ _ _ _ _ _ _ _ _ _ _ _
      | exact ih2 _ _ _ _ _
      | exact impl_PassLatch.mono _ _ _ _ _
      | exact laws_eqLatch.mono _ _ _ _ _ _ _
      | exact laws_heldLatch.mono _ _ _ _ _
      | exact laws_markLatch.mono _ _ _ _ _
      | exact laws_toLatch.mono _ _ _ _
      | exact spec_PassLatch.mono _ _ _ _ _
      | exact LeO.none _
      | refine LeO.ite ?_ ?_
      | refine LeO.bind ?_ (fun _ => ?_)
set_option maxHeartbeats 8000000 in
set_option maxRecDepth 100000 in
theorem laws_FnExactPassLatch.calls (k : Nat) (a0_0 : Int) (A0_1 : Option Addr) (c0_1 : Nat) (l0_1 : List Int) (A0_2 : Option Addr) (c0_2 : Nat) (l0_2 : List Int) (a1 : Int) (r : Bool) (w : World) (hr0_1 : Kd.C (Kd.int .i64) w A0_1 l0_1.length l0_1) (hc0_1 : l0_1.length ≤ c0_1) (hr0_2 : Kd.C (Kd.int .i64) w A0_2 l0_2.length l0_2) (hc0_2 : l0_2.length ≤ c0_2) (HQ_ : Aside0 (r = true)) (h : laws_FnExactPassLatch.f k a0_0 l0_1 l0_2 a1 = some r) :
    Calls Try.prog 10 #[.agg #[.int .i64 a0_0, .slice A0_1 l0_1.length c0_1, .slice A0_2 l0_2.length c0_2], .int .i64 a1] w fun e w' => e = .returned (.bool r) ∧ Below w.heap.size w w' := by
  have hu43 := Try.underlying43
  have hu46 := Try.underlying46
  have HR0_1 := Aside0.mk hr0_1
  have HC0_1 := Aside0.mk hc0_1
  clear hr0_1 hc0_1
  have HR0_2 := Aside0.mk hr0_2
  have HC0_2 := Aside0.mk hc0_2
  clear hr0_2 hc0_2
  have HB := Aside0.mk (Below.refl w.heap.size w)
  have H : ((laws_szLatch.f a0_0 l0_1 l0_2 1048576).bind fun t756 => (if t756 < 0 then (some true) else ((laws_toLatch.f k a0_0 l0_1 l0_2).bind fun bt757 => ((spec_PassLatch.f k bt757.1 bt757.2.1 bt757.2.2 a1).bind fun bt764 => ((laws_toLatch.f k a0_0 l0_1 l0_2).bind fun bt773 => ((impl_PassLatch.f k bt773.1 bt773.2.1 bt773.2.2 a1).bind fun bt781 => ((laws_eqLatch.f k bt781.1 bt781.2.1 bt781.2.2.1 bt764.1 bt764.2.1 bt764.2.2.1).bind fun t790 => (if t790 = true then (laws_FnExactPassLatch.j0 k a1 bt764.2.2.2 bt781.2.2.2 (bt781.2.2.2 != bt764.2.2.2) a0_0 l0_1 l0_2 bt764.1 bt764.2.1 bt764.2.2.1 bt773.1 bt773.2.1 bt773.2.2 bt781.1 bt781.2.1 bt781.2.2.1) else (laws_FnExactPassLatch.j0 k a1 bt764.2.2.2 bt781.2.2.2 true a0_0 l0_1 l0_2 bt764.1 bt764.2.1 bt764.2.2.1 bt773.1 bt773.2.1 bt773.2.2 bt781.1 bt781.2.1 bt781.2.2.1))))))))) = some r := h
  clear h
  replace H := Option.bind_eq_some_iff.mp H
  obtain ⟨t756, A30, H⟩ := H
  replace H : (if t756 < 0 then (some true) else ((laws_toLatch.f k a0_0 l0_1 l0_2).bind fun bt757 => ((spec_PassLatch.f k bt757.1 bt757.2.1 bt757.2.2 a1).bind fun bt764 => ((laws_toLatch.f k a0_0 l0_1 l0_2).bind fun bt773 => ((impl_PassLatch.f k bt773.1 bt773.2.1 bt773.2.2 a1).bind fun bt781 => ((laws_eqLatch.f k bt781.1 bt781.2.1 bt781.2.2.1 bt764.1 bt764.2.1 bt764.2.2.1).bind fun t790 => (if t790 = true then (laws_FnExactPassLatch.j0 k a1 bt764.2.2.2 bt781.2.2.2 (bt781.2.2.2 != bt764.2.2.2) a0_0 l0_1 l0_2 bt764.1 bt764.2.1 bt764.2.2.1 bt773.1 bt773.2.1 bt773.2.2 bt781.1 bt781.2.1 bt781.2.2.1) else (laws_FnExactPassLatch.j0 k a1 bt764.2.2.2 bt781.2.2.2 true a0_0 l0_1 l0_2 bt764.1 bt764.2.1 bt764.2.2.1 bt773.1 bt773.2.1 bt773.2.2 bt781.1 bt781.2.1 bt781.2.2.1)))))))) = some r := H
  have A3 := Aside0.mk A30
  clear A30
  by_cases c4 : t756 < 0
  · rw [if_pos c4] at H
    have c4b0 : decide (t756 < 0) = true := decide_eq_true c4
    clear c4
    obtain rfl := Option.some.inj H
    go_enter Try.func10, Try.ntmps10
    go_wp2_with (first | ((with_reducible refine gate_dst (N := 2) rfl ?_); refine box_event ?hg (N := 2) ?hd (cs := #[.int .i64 a0_0, .slice A0_1 l0_1.length c0_1, .slice A0_2 l0_2.length c0_2]) (t := 43) ?hr ?_; (case hd => rfl); (case hg => rfl); (case hr => first | (go_simp; done) | (go_simp; rfl)); intro gb755 hg w5 hbox hb; have n0_ := Aside0.mk (below_step (pkB HB.out) hb); have n1_ := Aside0.mk (hbox); have n2_ := Aside0.mk ((by rw [hg]; exact (below_size (pkB HB.out)) : w.heap.size ≤ gb755)); have n3_ := Aside0.mk ((by rw [hg]; exact (below_size (pkB HB.out)) : w.heap.size ≤ gb755)); clear HB; have HB := n0_; have BK755 := n1_; have GW755 := n2_; have GE755 := n3_; clear n0_ n1_ n2_ n3_; clear hb hbox hg; have hcz6_0 : w5.cell? ⟨gb755, 0, none⟩ = some (.int .i64 a0_0) := (blk_cell BK755.out 0).trans rfl; have hcz6_1 : w5.cell? ⟨gb755, 1, none⟩ = some (.slice A0_1 l0_1.length c0_1) := (blk_cell BK755.out 1).trans rfl; have hcz6_2 : w5.cell? ⟨gb755, 2, none⟩ = some (.slice A0_2 l0_2.length c0_2) := (blk_cell BK755.out 2).trans rfl; have hfz6_0 := blk_frozen BK755.out 0; have hfz6_1 := blk_frozen BK755.out 1; have hfz6_2 := blk_frozen BK755.out 2) | ((with_reducible refine gate_callee (f := 23) rfl ?_); refine goesL_ (some 18) rfl rfl Try.func23 (by kernel_rfl) rfl #[.agg #[.int .i64 a0_0, .slice A0_1 l0_1.length c0_1, .slice A0_2 l0_2.length c0_2], .int .i64 1048576] rfl (by (try simp only [List.map_toArray, List.map_cons, List.map_nil]); first | done | rfl | (simp only [List.length_drop, List.length_take]; rfl) | (go_simp; done) | (simp [*]; done)) ?_; (with_reducible refine (laws_szLatch.calls a0_0 _ _ l0_1 _ _ l0_2 1048576 t756 _ ?side1 ?side2 ?side3 ?side4 A3.out).mono ?_); (case side1 => exact pkC (Kd.C_below HR0_1.out HB.out)); (case side2 => exact HC0_1.out); (case side3 => exact pkC (Kd.C_below HR0_2.out HB.out)); (case side4 => exact HC0_2.out); rintro e w7 ⟨rfl, hb⟩; refine ⟨_, rfl, ?_⟩; have n0_ := Aside0.mk (blk_below (g := gb755) (o := .cells #[.int .i64 a0_0, .slice A0_1 l0_1.length c0_1, .slice A0_2 l0_2.length c0_2] 43 (0, 0)) (pkK BK755.out) hb); have n1_ := Aside0.mk (below_step (by repeat (first | (with_reducible first | exact HB.out | apply below_alloc | apply pw_below_drewN | apply below_drew1 | refine below_set ?_ GE755.out) | exact HB.out)) hb); clear BK755 HB; have BK755 := n0_; have HB := n1_; clear n0_ n1_; (try clear hb); (try clear hb2); (try clear hk); (try clear hi)))
    go_ret
    exact ⟨by first | rfl | (simp [errW_none, errW_some] <;> rfl) | (simp [*, errW_none, errW_some] <;> rfl), by repeat (first | (with_reducible first | exact HB.out | apply below_alloc | apply pw_below_drewN | apply below_drew1 | refine below_set ?_ GE755.out) | exact HB.out)⟩
  · rw [if_neg c4] at H
    have c4b0 : decide (t756 < 0) = false := decide_eq_false c4
    clear c4
    replace H := Option.bind_eq_some_iff.mp H
    obtain ⟨⟨t757, t758, t761⟩, A80, H⟩ := H
    replace H : ((spec_PassLatch.f k t757 t758 t761 a1).bind fun bt764 => ((laws_toLatch.f k a0_0 l0_1 l0_2).bind fun bt773 => ((impl_PassLatch.f k bt773.1 bt773.2.1 bt773.2.2 a1).bind fun bt781 => ((laws_eqLatch.f k bt781.1 bt781.2.1 bt781.2.2.1 bt764.1 bt764.2.1 bt764.2.2.1).bind fun t790 => (if t790 = true then (laws_FnExactPassLatch.j0 k a1 bt764.2.2.2 bt781.2.2.2 (bt781.2.2.2 != bt764.2.2.2) a0_0 l0_1 l0_2 bt764.1 bt764.2.1 bt764.2.2.1 bt773.1 bt773.2.1 bt773.2.2 bt781.1 bt781.2.1 bt781.2.2.1) else (laws_FnExactPassLatch.j0 k a1 bt764.2.2.2 bt781.2.2.2 true a0_0 l0_1 l0_2 bt764.1 bt764.2.1 bt764.2.2.1 bt773.1 bt773.2.1 bt773.2.2 bt781.1 bt781.2.1 bt781.2.2.1)))))) = some r := H
    have A8 := Aside0.mk A80
    clear A80
    replace H := Option.bind_eq_some_iff.mp H
    obtain ⟨⟨t764, t765, t768, t771⟩, A90, H⟩ := H
    replace H : ((laws_toLatch.f k a0_0 l0_1 l0_2).bind fun bt773 => ((impl_PassLatch.f k bt773.1 bt773.2.1 bt773.2.2 a1).bind fun bt781 => ((laws_eqLatch.f k bt781.1 bt781.2.1 bt781.2.2.1 t764 t765 t768).bind fun t790 => (if t790 = true then (laws_FnExactPassLatch.j0 k a1 t771 bt781.2.2.2 (bt781.2.2.2 != t771) a0_0 l0_1 l0_2 t764 t765 t768 bt773.1 bt773.2.1 bt773.2.2 bt781.1 bt781.2.1 bt781.2.2.1) else (laws_FnExactPassLatch.j0 k a1 t771 bt781.2.2.2 true a0_0 l0_1 l0_2 t764 t765 t768 bt773.1 bt773.2.1 bt773.2.2 bt781.1 bt781.2.1 bt781.2.2.1))))) = some r := H
    have A9 := Aside0.mk A90
    clear A90
    replace H := Option.bind_eq_some_iff.mp H
    obtain ⟨⟨t773, t774, t777⟩, A100, H⟩ := H
    replace H : ((impl_PassLatch.f k t773 t774 t777 a1).bind fun bt781 => ((laws_eqLatch.f k bt781.1 bt781.2.1 bt781.2.2.1 t764 t765 t768).bind fun t790 => (if t790 = true then (laws_FnExactPassLatch.j0 k a1 t771 bt781.2.2.2 (bt781.2.2.2 != t771) a0_0 l0_1 l0_2 t764 t765 t768 t773 t774 t777 bt781.1 bt781.2.1 bt781.2.2.1) else (laws_FnExactPassLatch.j0 k a1 t771 bt781.2.2.2 true a0_0 l0_1 l0_2 t764 t765 t768 t773 t774 t777 bt781.1 bt781.2.1 bt781.2.2.1)))) = some r := H
    have A10 := Aside0.mk A100
    clear A100
    replace H := Option.bind_eq_some_iff.mp H
    obtain ⟨⟨t781, t782, t785, t788⟩, A110, H⟩ := H
    replace H : ((laws_eqLatch.f k t781 t782 t785 t764 t765 t768).bind fun t790 => (if t790 = true then (laws_FnExactPassLatch.j0 k a1 t771 t788 (t788 != t771) a0_0 l0_1 l0_2 t764 t765 t768 t773 t774 t777 t781 t782 t785) else (laws_FnExactPassLatch.j0 k a1 t771 t788 true a0_0 l0_1 l0_2 t764 t765 t768 t773 t774 t777 t781 t782 t785))) = some r := H
    have A11 := Aside0.mk A110
    clear A110
    have HC12 := Aside0.mk H
    clear H
    go_enter Try.func10, Try.ntmps10
    go_upto_region 8 with (first | ((with_reducible refine gate_dst (N := 2) rfl ?_); refine box_event ?hg (N := 2) ?hd (cs := #[.int .i64 a0_0, .slice A0_1 l0_1.length c0_1, .slice A0_2 l0_2.length c0_2]) (t := 43) ?hr ?_; (case hd => rfl); (case hg => rfl); (case hr => first | (go_simp; done) | (go_simp; rfl)); intro gb755 hg w13 hbox hb; have n0_ := Aside0.mk (below_step (pkB HB.out) hb); have n1_ := Aside0.mk (hbox); have n2_ := Aside0.mk ((by rw [hg]; exact (below_size (pkB HB.out)) : w.heap.size ≤ gb755)); have n3_ := Aside0.mk ((by rw [hg]; exact (below_size (pkB HB.out)) : w.heap.size ≤ gb755)); clear HB; have HB := n0_; have BK755 := n1_; have GW755 := n2_; have GE755 := n3_; clear n0_ n1_ n2_ n3_; clear hb hbox hg; have hcz14_0 : w13.cell? ⟨gb755, 0, none⟩ = some (.int .i64 a0_0) := (blk_cell BK755.out 0).trans rfl; have hcz14_1 : w13.cell? ⟨gb755, 1, none⟩ = some (.slice A0_1 l0_1.length c0_1) := (blk_cell BK755.out 1).trans rfl; have hcz14_2 : w13.cell? ⟨gb755, 2, none⟩ = some (.slice A0_2 l0_2.length c0_2) := (blk_cell BK755.out 2).trans rfl; have hfz14_0 := blk_frozen BK755.out 0; have hfz14_1 := blk_frozen BK755.out 1; have hfz14_2 := blk_frozen BK755.out 2) | ((with_reducible refine gate_callee (f := 23) rfl ?_); refine goesL_ (some 18) rfl rfl Try.func23 (by kernel_rfl) rfl #[.agg #[.int .i64 a0_0, .slice A0_1 l0_1.length c0_1, .slice A0_2 l0_2.length c0_2], .int .i64 1048576] rfl (by (try simp only [List.map_toArray, List.map_cons, List.map_nil]); first | done | rfl | (simp only [List.length_drop, List.length_take]; rfl) | (go_simp; done) | (simp [*]; done)) ?_; (with_reducible refine (laws_szLatch.calls a0_0 _ _ l0_1 _ _ l0_2 1048576 t756 _ ?side1 ?side2 ?side3 ?side4 A3.out).mono ?_); (case side1 => exact pkC (Kd.C_below HR0_1.out HB.out)); (case side2 => exact HC0_1.out); (case side3 => exact pkC (Kd.C_below HR0_2.out HB.out)); (case side4 => exact HC0_2.out); rintro e w15 ⟨rfl, hb⟩; refine ⟨_, rfl, ?_⟩; have n0_ := Aside0.mk (blk_below (g := gb755) (o := .cells #[.int .i64 a0_0, .slice A0_1 l0_1.length c0_1, .slice A0_2 l0_2.length c0_2] 43 (0, 0)) (pkK BK755.out) hb); have n1_ := Aside0.mk (below_step (by repeat (first | (with_reducible first | exact HB.out | apply below_alloc | apply pw_below_drewN | apply below_drew1 | refine below_set ?_ GE755.out) | exact HB.out)) hb); clear BK755 HB; have BK755 := n0_; have HB := n1_; clear n0_ n1_; (try clear hb); (try clear hb2); (try clear hk); (try clear hi); have hcz16_0 : w15.cell? ⟨gb755, 0, none⟩ = some (.int .i64 a0_0) := (blk_cell BK755.out 0).trans rfl; have hcz16_1 : w15.cell? ⟨gb755, 1, none⟩ = some (.slice A0_1 l0_1.length c0_1) := (blk_cell BK755.out 1).trans rfl; have hcz16_2 : w15.cell? ⟨gb755, 2, none⟩ = some (.slice A0_2 l0_2.length c0_2) := (blk_cell BK755.out 2).trans rfl; have hfz16_0 := blk_frozen BK755.out 0; have hfz16_1 := blk_frozen BK755.out 1; have hfz16_2 := blk_frozen BK755.out 2) | ((with_reducible refine gate_callee (f := 25) rfl ?_); refine goesL_ (some 23) rfl rfl Try.func25 (by kernel_rfl) rfl #[.agg #[.int .i64 a0_0, .slice A0_1 l0_1.length c0_1, .slice A0_2 l0_2.length c0_2]] rfl (by (try simp only [List.map_toArray, List.map_cons, List.map_nil]); first | done | rfl | (simp only [List.length_drop, List.length_take]; rfl) | (go_simp; done) | (simp [*]; done)) ?_; (with_reducible refine (laws_toLatch.calls k a0_0 _ _ l0_1 _ _ l0_2 t757 t758 t761 _ ?side1 ?side2 ?side3 ?side4 A8.out).mono ?_); (case side1 => exact pkC (Kd.C_below HR0_1.out HB.out)); (case side2 => exact HC0_1.out); (case side3 => exact pkC (Kd.C_below HR0_2.out HB.out)); (case side4 => exact HC0_2.out); rintro e w17 ⟨v759, v762, rfl, ho0, ho1, hb⟩; refine ⟨_, rfl, ?_⟩; have n0_ := Aside0.mk (Kd.R_lower ho0 (below_size (by repeat (first | (with_reducible first | exact HB.out | apply below_alloc | apply pw_below_drewN | apply below_drew1 | refine below_set ?_ GE755.out) | exact HB.out)))); have n1_ := Aside0.mk (Kd.R_lower ho1 (below_size (by repeat (first | (with_reducible first | exact HB.out | apply below_alloc | apply pw_below_drewN | apply below_drew1 | refine below_set ?_ GE755.out) | exact HB.out)))); have n2_ := Aside0.mk (blk_below (g := gb755) (o := .cells #[.int .i64 a0_0, .slice A0_1 l0_1.length c0_1, .slice A0_2 l0_2.length c0_2] 43 (0, 0)) (pkK BK755.out) hb); have n3_ := Aside0.mk (below_step (by repeat (first | (with_reducible first | exact HB.out | apply below_alloc | apply pw_below_drewN | apply below_drew1 | refine below_set ?_ GE755.out) | exact HB.out)) hb); clear BK755 HB; have HO760 := n0_; have HO763 := n1_; have BK755 := n2_; have HB := n3_; clear n0_ n1_ n2_ n3_; (try clear hb); (try clear hb2); (try clear hk); (try clear hi); (try clear ho0); (try clear ho1); obtain ⟨Ao18, co18, eo18⟩ := Kd.R_slice HO760.out; subst eo18; obtain ⟨Ao19, co19, eo19⟩ := Kd.R_slice HO763.out; subst eo19) | ((with_reducible refine gate_callee (f := 42) rfl ?_); refine goesL_ (some 25) rfl rfl Try.func42 (by kernel_rfl) rfl #[.agg #[.int .i64 t757, .slice Ao18 t758.length co18, .slice Ao19 t761.length co19], .int .i64 a1] rfl (by (try simp only [List.map_toArray, List.map_cons, List.map_nil]); first | done | rfl | (simp only [List.length_drop, List.length_take]; rfl) | (go_simp; done) | (simp [*]; done)) ?_; (with_reducible refine (spec_PassLatch.calls k t757 _ _ t758 _ _ t761 a1 t764 t765 t768 t771 _ ?side1 ?side2 ?side3 ?side4 A9.out).mono ?_); (case side1 => exact pkC (Kd.R_reads' HO760.out).2.2); (case side2 => exact (Kd.R_reads' HO760.out).2.1); (case side3 => exact pkC (Kd.R_reads' HO763.out).2.2); (case side4 => exact (Kd.R_reads' HO763.out).2.1); rintro e w20 ⟨v766, v769, rfl, ho0, ho1, hb⟩; refine ⟨_, rfl, ?_⟩; have n0_ := Aside0.mk (Kd.R_mono (Kd.R_told (Kd.R_told (Kd.R_old (pkR HO760.out) hb) (Kd.R_base ho0)) (Kd.R_base ho1)) (fun _ h_ => h_.1)); have n1_ := Aside0.mk (Kd.R_mono (Kd.R_told (Kd.R_told (Kd.R_old (pkR HO763.out) hb) (Kd.R_base ho0)) (Kd.R_base ho1)) (fun _ h_ => h_.1)); have n2_ := Aside0.mk (Kd.R_lower (Kd.R_new' (Kd.R_new' ho0 (Kd.R_lt (pkR HO760.out))) (Kd.R_lt (pkR HO763.out))) (below_size (by repeat (first | (with_reducible first | exact HB.out | apply below_alloc | apply pw_below_drewN | apply below_drew1 | refine below_set ?_ GE755.out) | exact HB.out)))); have n3_ := Aside0.mk (Kd.R_lower (Kd.R_new' (Kd.R_new' ho1 (Kd.R_lt (pkR HO760.out))) (Kd.R_lt (pkR HO763.out))) (below_size (by repeat (first | (with_reducible first | exact HB.out | apply below_alloc | apply pw_below_drewN | apply below_drew1 | refine below_set ?_ GE755.out) | exact HB.out)))); have n4_ := Aside0.mk (blk_below (g := gb755) (o := .cells #[.int .i64 a0_0, .slice A0_1 l0_1.length c0_1, .slice A0_2 l0_2.length c0_2] 43 (0, 0)) (pkK BK755.out) hb); have n5_ := Aside0.mk (below_step (by repeat (first | (with_reducible first | exact HB.out | apply below_alloc | apply pw_below_drewN | apply below_drew1 | refine below_set ?_ GE755.out) | exact HB.out)) hb); clear HO760 HO763 BK755 HB; have HO760 := n0_; have HO763 := n1_; have HO767 := n2_; have HO770 := n3_; have BK755 := n4_; have HB := n5_; clear n0_ n1_ n2_ n3_ n4_ n5_; (try clear hb); (try clear hb2); (try clear hk); (try clear hi); (try clear ho0); (try clear ho1)) | ((with_reducible refine gate_dst (N := 6) rfl ?_); refine box_event ?hg (N := 6) ?hd (cs := #[.int .i64 0, .slice none 0 0, .slice none 0 0]) (t := 46) ?hr ?_; (case hd => rfl); (case hg => rfl); (case hr => first | (go_simp; done) | (go_simp; rfl)); intro gb772 hg w21 hbox hb; have n0_ := Aside0.mk (Kd.R_below (pkR HO760.out) hb); have n1_ := Aside0.mk (Kd.R_below (pkR HO763.out) hb); have n2_ := Aside0.mk (Kd.R_below (pkR HO767.out) hb); have n3_ := Aside0.mk (Kd.R_below (pkR HO770.out) hb); have n4_ := Aside0.mk (blk_below (g := gb755) (o := .cells #[.int .i64 a0_0, .slice A0_1 l0_1.length c0_1, .slice A0_2 l0_2.length c0_2] 43 (0, 0)) (pkK BK755.out) hb); have n5_ := Aside0.mk (below_step (by repeat (first | (with_reducible first | exact HB.out | apply below_alloc | apply pw_below_drewN | apply below_drew1 | refine below_set ?_ GE755.out) | exact HB.out)) hb); have n6_ := Aside0.mk (hbox); have n7_ := Aside0.mk ((by rw [hg]; exact (below_size (by repeat (first | (with_reducible first | exact HB.out | apply below_alloc | apply pw_below_drewN | apply below_drew1 | refine below_set ?_ GE755.out) | exact HB.out))) : w.heap.size ≤ gb772)); have n8_ := Aside0.mk ((by rw [hg]; exact (below_size (by repeat (first | (with_reducible first | exact HB.out | apply below_alloc | apply pw_below_drewN | apply below_drew1 | refine below_set ?_ GE755.out) | exact HB.out))) : w.heap.size ≤ gb772)); have n9_ := Aside0.mk ((by rw [hg]; exact Nat.ne_of_lt (blk_lt (g := gb755) (o := .cells #[.int .i64 a0_0, .slice A0_1 l0_1.length c0_1, .slice A0_2 l0_2.length c0_2] 43 (0, 0)) (pkK BK755.out)) : gb755 ≠ gb772)); have n10_ := Aside0.mk ((by rw [hg]; exact Nat.ne_of_gt (blk_lt (g := gb755) (o := .cells #[.int .i64 a0_0, .slice A0_1 l0_1.length c0_1, .slice A0_2 l0_2.length c0_2] 43 (0, 0)) (pkK BK755.out)) : gb772 ≠ gb755)); clear HO760 HO763 HO767 HO770 BK755 HB; have HO760 := n0_; have HO763 := n1_; have HO767 := n2_; have HO770 := n3_; have BK755 := n4_; have HB := n5_; have BK772 := n6_; have GW772 := n7_; have GE772 := n8_; have NB755_772 := n9_; have NB772_755 := n10_; clear n0_ n1_ n2_ n3_ n4_ n5_ n6_ n7_ n8_ n9_ n10_; clear hb hbox hg; have hnb22 := NB772_755.out; have hnc22 := NB755_772.out; have hcz23_0 : w21.cell? ⟨gb772, 0, none⟩ = some (.int .i64 0) := (blk_cell BK772.out 0).trans rfl; have hcz23_1 : w21.cell? ⟨gb772, 1, none⟩ = some (.slice none 0 0) := (blk_cell BK772.out 1).trans rfl; have hcz23_2 : w21.cell? ⟨gb772, 2, none⟩ = some (.slice none 0 0) := (blk_cell BK772.out 2).trans rfl; have hfz23_0 := blk_frozen BK772.out 0; have hfz23_1 := blk_frozen BK772.out 1; have hfz23_2 := blk_frozen BK772.out 2; obtain ⟨Ao24, co24, eo24⟩ := Kd.R_slice HO767.out; subst eo24; obtain ⟨Ao25, co25, eo25⟩ := Kd.R_slice HO770.out; subst eo25; have hcz26_0 : w21.cell? ⟨gb755, 0, none⟩ = some (.int .i64 a0_0) := (blk_cell BK755.out 0).trans rfl; have hcz26_1 : w21.cell? ⟨gb755, 1, none⟩ = some (.slice A0_1 l0_1.length c0_1) := (blk_cell BK755.out 1).trans rfl; have hcz26_2 : w21.cell? ⟨gb755, 2, none⟩ = some (.slice A0_2 l0_2.length c0_2) := (blk_cell BK755.out 2).trans rfl; have hfz26_0 := blk_frozen BK755.out 0; have hfz26_1 := blk_frozen BK755.out 1; have hfz26_2 := blk_frozen BK755.out 2) | ((with_reducible refine gate_callee (f := 25) rfl ?_); refine goesL_ (some 29) rfl rfl Try.func25 (by kernel_rfl) rfl #[.agg #[.int .i64 a0_0, .slice A0_1 l0_1.length c0_1, .slice A0_2 l0_2.length c0_2]] rfl (by (try simp only [List.map_toArray, List.map_cons, List.map_nil]); first | done | rfl | (simp only [List.length_drop, List.length_take]; rfl) | (go_simp; done) | (simp [*]; done)) ?_; (with_reducible refine (laws_toLatch.calls k a0_0 _ _ l0_1 _ _ l0_2 t773 t774 t777 _ ?side1 ?side2 ?side3 ?side4 A10.out).mono ?_); (case side1 => exact Kd.C_below HR0_1.out (by repeat (first | (with_reducible first | exact HB.out | apply below_alloc | apply pw_below_drewN | apply below_drew1 | refine below_set ?_ GE755.out | refine below_set ?_ GE772.out) | exact HB.out))); (case side2 => exact HC0_1.out); (case side3 => exact Kd.C_below HR0_2.out (by repeat (first | (with_reducible first | exact HB.out | apply below_alloc | apply pw_below_drewN | apply below_drew1 | refine below_set ?_ GE755.out | refine below_set ?_ GE772.out) | exact HB.out))); (case side4 => exact HC0_2.out); rintro e w27 ⟨v775, v778, rfl, ho0, ho1, hb⟩; refine ⟨_, rfl, ?_⟩; have n0_ := Aside0.mk (Kd.R_mono (Kd.R_told (Kd.R_told (Kd.R_old (by (with_reducible repeat (first | apply Kd.R_alloc | apply Kd.R_drewN | apply Kd.R_drew)); exact (Kd.R_mono (Kd.R_far (p := ⟨gb772, 2, none⟩) (Kd.R_far (p := ⟨gb772, 1, none⟩) (Kd.R_far (p := ⟨gb772, 0, none⟩) (Kd.R_types HO760.out BK772.out (by decide)) (fun _ hk => hk.2) (.int .i64 t764)) (fun _ hk => hk.2) (.slice Ao24 t765.length co24)) (fun _ hk => hk.2) (.slice Ao25 t768.length co25)) (fun _ h_ => h_.1))) hb) (Kd.R_base ho0)) (Kd.R_base ho1)) (fun _ h_ => h_.1)); have n1_ := Aside0.mk (Kd.R_mono (Kd.R_told (Kd.R_told (Kd.R_old (by (with_reducible repeat (first | apply Kd.R_alloc | apply Kd.R_drewN | apply Kd.R_drew)); exact (Kd.R_mono (Kd.R_far (p := ⟨gb772, 2, none⟩) (Kd.R_far (p := ⟨gb772, 1, none⟩) (Kd.R_far (p := ⟨gb772, 0, none⟩) (Kd.R_types HO763.out BK772.out (by decide)) (fun _ hk => hk.2) (.int .i64 t764)) (fun _ hk => hk.2) (.slice Ao24 t765.length co24)) (fun _ hk => hk.2) (.slice Ao25 t768.length co25)) (fun _ h_ => h_.1))) hb) (Kd.R_base ho0)) (Kd.R_base ho1)) (fun _ h_ => h_.1)); have n2_ := Aside0.mk (Kd.R_mono (Kd.R_told (Kd.R_told (Kd.R_old (by (with_reducible repeat (first | apply Kd.R_alloc | apply Kd.R_drewN | apply Kd.R_drew)); exact (Kd.R_mono (Kd.R_far (p := ⟨gb772, 2, none⟩) (Kd.R_far (p := ⟨gb772, 1, none⟩) (Kd.R_far (p := ⟨gb772, 0, none⟩) (Kd.R_types HO767.out BK772.out (by decide)) (fun _ hk => hk.2) (.int .i64 t764)) (fun _ hk => hk.2) (.slice Ao24 t765.length co24)) (fun _ hk => hk.2) (.slice Ao25 t768.length co25)) (fun _ h_ => h_.1))) hb) (Kd.R_base ho0)) (Kd.R_base ho1)) (fun _ h_ => h_.1)); have n3_ := Aside0.mk (Kd.R_mono (Kd.R_told (Kd.R_told (Kd.R_old (by (with_reducible repeat (first | apply Kd.R_alloc | apply Kd.R_drewN | apply Kd.R_drew)); exact (Kd.R_mono (Kd.R_far (p := ⟨gb772, 2, none⟩) (Kd.R_far (p := ⟨gb772, 1, none⟩) (Kd.R_far (p := ⟨gb772, 0, none⟩) (Kd.R_types HO770.out BK772.out (by decide)) (fun _ hk => hk.2) (.int .i64 t764)) (fun _ hk => hk.2) (.slice Ao24 t765.length co24)) (fun _ hk => hk.2) (.slice Ao25 t768.length co25)) (fun _ h_ => h_.1))) hb) (Kd.R_base ho0)) (Kd.R_base ho1)) (fun _ h_ => h_.1)); have n4_ := Aside0.mk (Kd.R_lower (Kd.R_new' (Kd.R_new' (Kd.R_new' (Kd.R_new' ho0 (Kd.R_lt (by (with_reducible repeat (first | apply Kd.R_alloc | apply Kd.R_drewN | apply Kd.R_drew)); exact (Kd.R_mono (Kd.R_far (p := ⟨gb772, 2, none⟩) (Kd.R_far (p := ⟨gb772, 1, none⟩) (Kd.R_far (p := ⟨gb772, 0, none⟩) (Kd.R_types HO760.out BK772.out (by decide)) (fun _ hk => hk.2) (.int .i64 t764)) (fun _ hk => hk.2) (.slice Ao24 t765.length co24)) (fun _ hk => hk.2) (.slice Ao25 t768.length co25)) (fun _ h_ => h_.1))))) (Kd.R_lt (by (with_reducible repeat (first | apply Kd.R_alloc | apply Kd.R_drewN | apply Kd.R_drew)); exact (Kd.R_mono (Kd.R_far (p := ⟨gb772, 2, none⟩) (Kd.R_far (p := ⟨gb772, 1, none⟩) (Kd.R_far (p := ⟨gb772, 0, none⟩) (Kd.R_types HO763.out BK772.out (by decide)) (fun _ hk => hk.2) (.int .i64 t764)) (fun _ hk => hk.2) (.slice Ao24 t765.length co24)) (fun _ hk => hk.2) (.slice Ao25 t768.length co25)) (fun _ h_ => h_.1))))) (Kd.R_lt (by (with_reducible repeat (first | apply Kd.R_alloc | apply Kd.R_drewN | apply Kd.R_drew)); exact (Kd.R_mono (Kd.R_far (p := ⟨gb772, 2, none⟩) (Kd.R_far (p := ⟨gb772, 1, none⟩) (Kd.R_far (p := ⟨gb772, 0, none⟩) (Kd.R_types HO767.out BK772.out (by decide)) (fun _ hk => hk.2) (.int .i64 t764)) (fun _ hk => hk.2) (.slice Ao24 t765.length co24)) (fun _ hk => hk.2) (.slice Ao25 t768.length co25)) (fun _ h_ => h_.1))))) (Kd.R_lt (by (with_reducible repeat (first | apply Kd.R_alloc | apply Kd.R_drewN | apply Kd.R_drew)); exact (Kd.R_mono (Kd.R_far (p := ⟨gb772, 2, none⟩) (Kd.R_far (p := ⟨gb772, 1, none⟩) (Kd.R_far (p := ⟨gb772, 0, none⟩) (Kd.R_types HO770.out BK772.out (by decide)) (fun _ hk => hk.2) (.int .i64 t764)) (fun _ hk => hk.2) (.slice Ao24 t765.length co24)) (fun _ hk => hk.2) (.slice Ao25 t768.length co25)) (fun _ h_ => h_.1))))) (below_size (by repeat (first | (with_reducible first | exact HB.out | apply below_alloc | apply pw_below_drewN | apply below_drew1 | refine below_set ?_ GE755.out | refine below_set ?_ GE772.out) | exact HB.out)))); have n5_ := Aside0.mk (Kd.R_lower (Kd.R_new' (Kd.R_new' (Kd.R_new' (Kd.R_new' ho1 (Kd.R_lt (by (with_reducible repeat (first | apply Kd.R_alloc | apply Kd.R_drewN | apply Kd.R_drew)); exact (Kd.R_mono (Kd.R_far (p := ⟨gb772, 2, none⟩) (Kd.R_far (p := ⟨gb772, 1, none⟩) (Kd.R_far (p := ⟨gb772, 0, none⟩) (Kd.R_types HO760.out BK772.out (by decide)) (fun _ hk => hk.2) (.int .i64 t764)) (fun _ hk => hk.2) (.slice Ao24 t765.length co24)) (fun _ hk => hk.2) (.slice Ao25 t768.length co25)) (fun _ h_ => h_.1))))) (Kd.R_lt (by (with_reducible repeat (first | apply Kd.R_alloc | apply Kd.R_drewN | apply Kd.R_drew)); exact (Kd.R_mono (Kd.R_far (p := ⟨gb772, 2, none⟩) (Kd.R_far (p := ⟨gb772, 1, none⟩) (Kd.R_far (p := ⟨gb772, 0, none⟩) (Kd.R_types HO763.out BK772.out (by decide)) (fun _ hk => hk.2) (.int .i64 t764)) (fun _ hk => hk.2) (.slice Ao24 t765.length co24)) (fun _ hk => hk.2) (.slice Ao25 t768.length co25)) (fun _ h_ => h_.1))))) (Kd.R_lt (by (with_reducible repeat (first | apply Kd.R_alloc | apply Kd.R_drewN | apply Kd.R_drew)); exact (Kd.R_mono (Kd.R_far (p := ⟨gb772, 2, none⟩) (Kd.R_far (p := ⟨gb772, 1, none⟩) (Kd.R_far (p := ⟨gb772, 0, none⟩) (Kd.R_types HO767.out BK772.out (by decide)) (fun _ hk => hk.2) (.int .i64 t764)) (fun _ hk => hk.2) (.slice Ao24 t765.length co24)) (fun _ hk => hk.2) (.slice Ao25 t768.length co25)) (fun _ h_ => h_.1))))) (Kd.R_lt (by (with_reducible repeat (first | apply Kd.R_alloc | apply Kd.R_drewN | apply Kd.R_drew)); exact (Kd.R_mono (Kd.R_far (p := ⟨gb772, 2, none⟩) (Kd.R_far (p := ⟨gb772, 1, none⟩) (Kd.R_far (p := ⟨gb772, 0, none⟩) (Kd.R_types HO770.out BK772.out (by decide)) (fun _ hk => hk.2) (.int .i64 t764)) (fun _ hk => hk.2) (.slice Ao24 t765.length co24)) (fun _ hk => hk.2) (.slice Ao25 t768.length co25)) (fun _ h_ => h_.1))))) (below_size (by repeat (first | (with_reducible first | exact HB.out | apply below_alloc | apply pw_below_drewN | apply below_drew1 | refine below_set ?_ GE755.out | refine below_set ?_ GE772.out) | exact HB.out)))); have n6_ := Aside0.mk (blk_below (g := gb755) (o := .cells #[.int .i64 a0_0, .slice A0_1 l0_1.length c0_1, .slice A0_2 l0_2.length c0_2] 43 (0, 0)) (by (with_reducible repeat (first | refine blk_drewN ?_ _ | refine blk_drew ?_ | refine blk_alloc ?_ _)); refine blk_far ?_ NB755_772.out _; (with_reducible repeat (first | refine blk_drewN ?_ _ | refine blk_drew ?_ | refine blk_alloc ?_ _)); refine blk_far ?_ NB755_772.out _; (with_reducible repeat (first | refine blk_drewN ?_ _ | refine blk_drew ?_ | refine blk_alloc ?_ _)); refine blk_far ?_ NB755_772.out _; (with_reducible repeat (first | refine blk_drewN ?_ _ | refine blk_drew ?_ | refine blk_alloc ?_ _)); exact BK755.out) hb); have n7_ := Aside0.mk (blk_below (g := gb772) (o := .cells #[.int .i64 t764, .slice Ao24 t765.length co24, .slice Ao25 t768.length co25] 46 (0, 0)) (by (with_reducible repeat (first | refine blk_drewN ?_ _ | refine blk_drew ?_ | refine blk_alloc ?_ _)); refine blk_put (cs := #[.int .i64 t764, .slice Ao24 t765.length co24, .slice none 0 0]) ?_ 2 _ rfl; (with_reducible repeat (first | refine blk_drewN ?_ _ | refine blk_drew ?_ | refine blk_alloc ?_ _)); refine blk_put (cs := #[.int .i64 t764, .slice none 0 0, .slice none 0 0]) ?_ 1 _ rfl; (with_reducible repeat (first | refine blk_drewN ?_ _ | refine blk_drew ?_ | refine blk_alloc ?_ _)); refine blk_put (cs := #[.int .i64 0, .slice none 0 0, .slice none 0 0]) ?_ 0 _ rfl; (with_reducible repeat (first | refine blk_drewN ?_ _ | refine blk_drew ?_ | refine blk_alloc ?_ _)); exact BK772.out) hb); have n8_ := Aside0.mk (below_step (by repeat (first | (with_reducible first | exact HB.out | apply below_alloc | apply pw_below_drewN | apply below_drew1 | refine below_set ?_ GE755.out | refine below_set ?_ GE772.out) | exact HB.out)) hb); clear HO760 HO763 HO767 HO770 BK755 BK772 HB; have HO760 := n0_; have HO763 := n1_; have HO767 := n2_; have HO770 := n3_; have HO776 := n4_; have HO779 := n5_; have BK755 := n6_; have BK772 := n7_; have HB := n8_; clear n0_ n1_ n2_ n3_ n4_ n5_ n6_ n7_ n8_; (try clear hb); (try clear hb2); (try clear hk); (try clear hi); (try clear ho0); (try clear ho1)) | ((with_reducible refine gate_dst (N := 8) rfl ?_); refine box_event ?hg (N := 8) ?hd (cs := #[.int .i64 0, .slice none 0 0, .slice none 0 0]) (t := 46) ?hr ?_; (case hd => rfl); (case hg => rfl); (case hr => first | (go_simp; done) | (go_simp; rfl)); intro gb780 hg w28 hbox hb; have n0_ := Aside0.mk (Kd.R_below (pkR HO760.out) hb); have n1_ := Aside0.mk (Kd.R_below (pkR HO763.out) hb); have n2_ := Aside0.mk (Kd.R_below (pkR HO767.out) hb); have n3_ := Aside0.mk (Kd.R_below (pkR HO770.out) hb); have n4_ := Aside0.mk (Kd.R_below (pkR HO776.out) hb); have n5_ := Aside0.mk (Kd.R_below (pkR HO779.out) hb); have n6_ := Aside0.mk (blk_below (g := gb755) (o := .cells #[.int .i64 a0_0, .slice A0_1 l0_1.length c0_1, .slice A0_2 l0_2.length c0_2] 43 (0, 0)) (pkK BK755.out) hb); have n7_ := Aside0.mk (blk_below (g := gb772) (o := .cells #[.int .i64 t764, .slice Ao24 t765.length co24, .slice Ao25 t768.length co25] 46 (0, 0)) (pkK BK772.out) hb); have n8_ := Aside0.mk (below_step (by repeat (first | (with_reducible first | exact HB.out | apply below_alloc | apply pw_below_drewN | apply below_drew1 | refine below_set ?_ GE755.out | refine below_set ?_ GE772.out) | exact HB.out)) hb); have n9_ := Aside0.mk (hbox); have n10_ := Aside0.mk ((by rw [hg]; exact (below_size (by repeat (first | (with_reducible first | exact HB.out | apply below_alloc | apply pw_below_drewN | apply below_drew1 | refine below_set ?_ GE755.out | refine below_set ?_ GE772.out) | exact HB.out))) : w.heap.size ≤ gb780)); have n11_ := Aside0.mk ((by rw [hg]; exact (below_size (by repeat (first | (with_reducible first | exact HB.out | apply below_alloc | apply pw_below_drewN | apply below_drew1 | refine below_set ?_ GE755.out | refine below_set ?_ GE772.out) | exact HB.out))) : w.heap.size ≤ gb780)); have n12_ := Aside0.mk ((by rw [hg]; exact Nat.ne_of_lt (blk_lt (g := gb755) (o := .cells #[.int .i64 a0_0, .slice A0_1 l0_1.length c0_1, .slice A0_2 l0_2.length c0_2] 43 (0, 0)) (pkK BK755.out)) : gb755 ≠ gb780)); have n13_ := Aside0.mk ((by rw [hg]; exact Nat.ne_of_gt (blk_lt (g := gb755) (o := .cells #[.int .i64 a0_0, .slice A0_1 l0_1.length c0_1, .slice A0_2 l0_2.length c0_2] 43 (0, 0)) (pkK BK755.out)) : gb780 ≠ gb755)); have n14_ := Aside0.mk ((by rw [hg]; exact Nat.ne_of_lt (blk_lt (g := gb772) (o := .cells #[.int .i64 t764, .slice Ao24 t765.length co24, .slice Ao25 t768.length co25] 46 (0, 0)) (pkK BK772.out)) : gb772 ≠ gb780)); have n15_ := Aside0.mk ((by rw [hg]; exact Nat.ne_of_gt (blk_lt (g := gb772) (o := .cells #[.int .i64 t764, .slice Ao24 t765.length co24, .slice Ao25 t768.length co25] 46 (0, 0)) (pkK BK772.out)) : gb780 ≠ gb772)); clear HO760 HO763 HO767 HO770 HO776 HO779 BK755 BK772 HB; have HO760 := n0_; have HO763 := n1_; have HO767 := n2_; have HO770 := n3_; have HO776 := n4_; have HO779 := n5_; have BK755 := n6_; have BK772 := n7_; have HB := n8_; have BK780 := n9_; have GW780 := n10_; have GE780 := n11_; have NB755_780 := n12_; have NB780_755 := n13_; have NB772_780 := n14_; have NB780_772 := n15_; clear n0_ n1_ n2_ n3_ n4_ n5_ n6_ n7_ n8_ n9_ n10_ n11_ n12_ n13_ n14_ n15_; clear hb hbox hg; have hnb29 := NB780_755.out; have hnc29 := NB755_780.out; have hnb30 := NB780_772.out; have hnc30 := NB772_780.out; have hcz31_0 : w28.cell? ⟨gb780, 0, none⟩ = some (.int .i64 0) := (blk_cell BK780.out 0).trans rfl; have hcz31_1 : w28.cell? ⟨gb780, 1, none⟩ = some (.slice none 0 0) := (blk_cell BK780.out 1).trans rfl; have hcz31_2 : w28.cell? ⟨gb780, 2, none⟩ = some (.slice none 0 0) := (blk_cell BK780.out 2).trans rfl; have hfz31_0 := blk_frozen BK780.out 0; have hfz31_1 := blk_frozen BK780.out 1; have hfz31_2 := blk_frozen BK780.out 2; obtain ⟨Ao32, co32, eo32⟩ := Kd.R_slice HO776.out; subst eo32; obtain ⟨Ao33, co33, eo33⟩ := Kd.R_slice HO779.out; subst eo33) | ((with_reducible refine gate_callee (f := 30) rfl ?_); refine goesL_ (some 33) rfl rfl Try.func30 (by kernel_rfl) rfl #[.agg #[.int .i64 t773, .slice Ao32 t774.length co32, .slice Ao33 t777.length co33], .int .i64 a1] rfl (by (try simp only [List.map_toArray, List.map_cons, List.map_nil]); first | done | rfl | (simp only [List.length_drop, List.length_take]; rfl) | (go_simp; done) | (simp [*]; done)) ?_; (with_reducible refine (impl_PassLatch.calls k t773 _ _ t774 _ _ t777 a1 t781 t782 t785 t788 _ ?side1 ?side2 ?side3 ?side4 A11.out).mono ?_); (case side1 => refine (Kd.R_reads' (e := 3) (base := w.heap.size) (ok := fun k_ => ((((some k_ ≠ (.slice Ao33 t777.length co33 : Value).ownBlock ∧ some k_ ≠ (.slice Ao18 t758.length co18 : Value).ownBlock) ∧ some k_ ≠ (.slice Ao19 t761.length co19 : Value).ownBlock) ∧ some k_ ≠ (.slice Ao24 t765.length co24 : Value).ownBlock) ∧ some k_ ≠ (.slice Ao25 t768.length co25 : Value).ownBlock)) (n := t774.length) (c := co32) ?_).2.2; exact (by (with_reducible repeat (first | apply Kd.R_alloc | apply Kd.R_drewN | apply Kd.R_drew)); exact (Kd.R_mono (Kd.R_far (p := ⟨gb780, 2, none⟩) (Kd.R_far (p := ⟨gb780, 1, none⟩) (Kd.R_far (p := ⟨gb780, 0, none⟩) (Kd.R_types HO776.out BK780.out (by decide)) (fun _ hk => hk.2) (.int .i64 t773)) (fun _ hk => hk.2) (.slice Ao32 t774.length co32)) (fun _ hk => hk.2) (.slice Ao33 t777.length co33)) (fun _ h_ => h_.1)))); (case side2 => exact (Kd.R_reads' HO776.out).2.1); (case side3 => refine (Kd.R_reads' (e := 3) (base := w.heap.size) (ok := fun k_ => ((((some k_ ≠ (.slice Ao32 t774.length co32 : Value).ownBlock ∧ some k_ ≠ (.slice Ao18 t758.length co18 : Value).ownBlock) ∧ some k_ ≠ (.slice Ao19 t761.length co19 : Value).ownBlock) ∧ some k_ ≠ (.slice Ao24 t765.length co24 : Value).ownBlock) ∧ some k_ ≠ (.slice Ao25 t768.length co25 : Value).ownBlock)) (n := t777.length) (c := co33) ?_).2.2; exact (by (with_reducible repeat (first | apply Kd.R_alloc | apply Kd.R_drewN | apply Kd.R_drew)); exact (Kd.R_mono (Kd.R_far (p := ⟨gb780, 2, none⟩) (Kd.R_far (p := ⟨gb780, 1, none⟩) (Kd.R_far (p := ⟨gb780, 0, none⟩) (Kd.R_types HO779.out BK780.out (by decide)) (fun _ hk => hk.2) (.int .i64 t773)) (fun _ hk => hk.2) (.slice Ao32 t774.length co32)) (fun _ hk => hk.2) (.slice Ao33 t777.length co33)) (fun _ h_ => h_.1)))); (case side4 => exact (Kd.R_reads' HO779.out).2.1); rintro e w34 ⟨v783, v786, rfl, ho0, ho1, hb⟩; refine ⟨_, rfl, ?_⟩; have n0_ := Aside0.mk (Kd.R_mono (Kd.R_told (Kd.R_told (Kd.R_old (by (with_reducible repeat (first | apply Kd.R_alloc | apply Kd.R_drewN | apply Kd.R_drew)); exact (Kd.R_mono (Kd.R_far (p := ⟨gb780, 2, none⟩) (Kd.R_far (p := ⟨gb780, 1, none⟩) (Kd.R_far (p := ⟨gb780, 0, none⟩) (Kd.R_types HO760.out BK780.out (by decide)) (fun _ hk => hk.2) (.int .i64 t773)) (fun _ hk => hk.2) (.slice Ao32 t774.length co32)) (fun _ hk => hk.2) (.slice Ao33 t777.length co33)) (fun _ h_ => h_.1))) hb) (Kd.R_base ho0)) (Kd.R_base ho1)) (fun _ h_ => h_.1)); have n1_ := Aside0.mk (Kd.R_mono (Kd.R_told (Kd.R_told (Kd.R_old (by (with_reducible repeat (first | apply Kd.R_alloc | apply Kd.R_drewN | apply Kd.R_drew)); exact (Kd.R_mono (Kd.R_far (p := ⟨gb780, 2, none⟩) (Kd.R_far (p := ⟨gb780, 1, none⟩) (Kd.R_far (p := ⟨gb780, 0, none⟩) (Kd.R_types HO763.out BK780.out (by decide)) (fun _ hk => hk.2) (.int .i64 t773)) (fun _ hk => hk.2) (.slice Ao32 t774.length co32)) (fun _ hk => hk.2) (.slice Ao33 t777.length co33)) (fun _ h_ => h_.1))) hb) (Kd.R_base ho0)) (Kd.R_base ho1)) (fun _ h_ => h_.1)); have n2_ := Aside0.mk (Kd.R_mono (Kd.R_told (Kd.R_told (Kd.R_old (by (with_reducible repeat (first | apply Kd.R_alloc | apply Kd.R_drewN | apply Kd.R_drew)); exact (Kd.R_mono (Kd.R_far (p := ⟨gb780, 2, none⟩) (Kd.R_far (p := ⟨gb780, 1, none⟩) (Kd.R_far (p := ⟨gb780, 0, none⟩) (Kd.R_types HO767.out BK780.out (by decide)) (fun _ hk => hk.2) (.int .i64 t773)) (fun _ hk => hk.2) (.slice Ao32 t774.length co32)) (fun _ hk => hk.2) (.slice Ao33 t777.length co33)) (fun _ h_ => h_.1))) hb) (Kd.R_base ho0)) (Kd.R_base ho1)) (fun _ h_ => h_.1)); have n3_ := Aside0.mk (Kd.R_mono (Kd.R_told (Kd.R_told (Kd.R_old (by (with_reducible repeat (first | apply Kd.R_alloc | apply Kd.R_drewN | apply Kd.R_drew)); exact (Kd.R_mono (Kd.R_far (p := ⟨gb780, 2, none⟩) (Kd.R_far (p := ⟨gb780, 1, none⟩) (Kd.R_far (p := ⟨gb780, 0, none⟩) (Kd.R_types HO770.out BK780.out (by decide)) (fun _ hk => hk.2) (.int .i64 t773)) (fun _ hk => hk.2) (.slice Ao32 t774.length co32)) (fun _ hk => hk.2) (.slice Ao33 t777.length co33)) (fun _ h_ => h_.1))) hb) (Kd.R_base ho0)) (Kd.R_base ho1)) (fun _ h_ => h_.1)); have n4_ := Aside0.mk (Kd.R_mono (Kd.R_told (Kd.R_told (Kd.R_old (by (with_reducible repeat (first | apply Kd.R_alloc | apply Kd.R_drewN | apply Kd.R_drew)); exact (Kd.R_mono (Kd.R_far (p := ⟨gb780, 2, none⟩) (Kd.R_far (p := ⟨gb780, 1, none⟩) (Kd.R_far (p := ⟨gb780, 0, none⟩) (Kd.R_types HO776.out BK780.out (by decide)) (fun _ hk => hk.2) (.int .i64 t773)) (fun _ hk => hk.2) (.slice Ao32 t774.length co32)) (fun _ hk => hk.2) (.slice Ao33 t777.length co33)) (fun _ h_ => h_.1))) hb) (Kd.R_base ho0)) (Kd.R_base ho1)) (fun _ h_ => h_.1)); have n5_ := Aside0.mk (Kd.R_mono (Kd.R_told (Kd.R_told (Kd.R_old (by (with_reducible repeat (first | apply Kd.R_alloc | apply Kd.R_drewN | apply Kd.R_drew)); exact (Kd.R_mono (Kd.R_far (p := ⟨gb780, 2, none⟩) (Kd.R_far (p := ⟨gb780, 1, none⟩) (Kd.R_far (p := ⟨gb780, 0, none⟩) (Kd.R_types HO779.out BK780.out (by decide)) (fun _ hk => hk.2) (.int .i64 t773)) (fun _ hk => hk.2) (.slice Ao32 t774.length co32)) (fun _ hk => hk.2) (.slice Ao33 t777.length co33)) (fun _ h_ => h_.1))) hb) (Kd.R_base ho0)) (Kd.R_base ho1)) (fun _ h_ => h_.1)); have n6_ := Aside0.mk (Kd.R_lower (Kd.R_new' (Kd.R_new' (Kd.R_new' (Kd.R_new' (Kd.R_new' (Kd.R_new' ho0 (Kd.R_lt (by (with_reducible repeat (first | apply Kd.R_alloc | apply Kd.R_drewN | apply Kd.R_drew)); exact (Kd.R_mono (Kd.R_far (p := ⟨gb780, 2, none⟩) (Kd.R_far (p := ⟨gb780, 1, none⟩) (Kd.R_far (p := ⟨gb780, 0, none⟩) (Kd.R_types HO760.out BK780.out (by decide)) (fun _ hk => hk.2) (.int .i64 t773)) (fun _ hk => hk.2) (.slice Ao32 t774.length co32)) (fun _ hk => hk.2) (.slice Ao33 t777.length co33)) (fun _ h_ => h_.1))))) (Kd.R_lt (by (with_reducible repeat (first | apply Kd.R_alloc | apply Kd.R_drewN | apply Kd.R_drew)); exact (Kd.R_mono (Kd.R_far (p := ⟨gb780, 2, none⟩) (Kd.R_far (p := ⟨gb780, 1, none⟩) (Kd.R_far (p := ⟨gb780, 0, none⟩) (Kd.R_types HO763.out BK780.out (by decide)) (fun _ hk => hk.2) (.int .i64 t773)) (fun _ hk => hk.2) (.slice Ao32 t774.length co32)) (fun _ hk => hk.2) (.slice Ao33 t777.length co33)) (fun _ h_ => h_.1))))) (Kd.R_lt (by (with_reducible repeat (first | apply Kd.R_alloc | apply Kd.R_drewN | apply Kd.R_drew)); exact (Kd.R_mono (Kd.R_far (p := ⟨gb780, 2, none⟩) (Kd.R_far (p := ⟨gb780, 1, none⟩) (Kd.R_far (p := ⟨gb780, 0, none⟩) (Kd.R_types HO767.out BK780.out (by decide)) (fun _ hk => hk.2) (.int .i64 t773)) (fun _ hk => hk.2) (.slice Ao32 t774.length co32)) (fun _ hk => hk.2) (.slice Ao33 t777.length co33)) (fun _ h_ => h_.1))))) (Kd.R_lt (by (with_reducible repeat (first | apply Kd.R_alloc | apply Kd.R_drewN | apply Kd.R_drew)); exact (Kd.R_mono (Kd.R_far (p := ⟨gb780, 2, none⟩) (Kd.R_far (p := ⟨gb780, 1, none⟩) (Kd.R_far (p := ⟨gb780, 0, none⟩) (Kd.R_types HO770.out BK780.out (by decide)) (fun _ hk => hk.2) (.int .i64 t773)) (fun _ hk => hk.2) (.slice Ao32 t774.length co32)) (fun _ hk => hk.2) (.slice Ao33 t777.length co33)) (fun _ h_ => h_.1))))) (Kd.R_lt (by (with_reducible repeat (first | apply Kd.R_alloc | apply Kd.R_drewN | apply Kd.R_drew)); exact (Kd.R_mono (Kd.R_far (p := ⟨gb780, 2, none⟩) (Kd.R_far (p := ⟨gb780, 1, none⟩) (Kd.R_far (p := ⟨gb780, 0, none⟩) (Kd.R_types HO776.out BK780.out (by decide)) (fun _ hk => hk.2) (.int .i64 t773)) (fun _ hk => hk.2) (.slice Ao32 t774.length co32)) (fun _ hk => hk.2) (.slice Ao33 t777.length co33)) (fun _ h_ => h_.1))))) (Kd.R_lt (by (with_reducible repeat (first | apply Kd.R_alloc | apply Kd.R_drewN | apply Kd.R_drew)); exact (Kd.R_mono (Kd.R_far (p := ⟨gb780, 2, none⟩) (Kd.R_far (p := ⟨gb780, 1, none⟩) (Kd.R_far (p := ⟨gb780, 0, none⟩) (Kd.R_types HO779.out BK780.out (by decide)) (fun _ hk => hk.2) (.int .i64 t773)) (fun _ hk => hk.2) (.slice Ao32 t774.length co32)) (fun _ hk => hk.2) (.slice Ao33 t777.length co33)) (fun _ h_ => h_.1))))) (below_size (by repeat (first | (with_reducible first | exact HB.out | apply below_alloc | apply pw_below_drewN | apply below_drew1 | refine below_set ?_ GE755.out | refine below_set ?_ GE772.out | refine below_set ?_ GE780.out) | exact HB.out)))); have n7_ := Aside0.mk (Kd.R_lower (Kd.R_new' (Kd.R_new' (Kd.R_new' (Kd.R_new' (Kd.R_new' (Kd.R_new' ho1 (Kd.R_lt (by (with_reducible repeat (first | apply Kd.R_alloc | apply Kd.R_drewN | apply Kd.R_drew)); exact (Kd.R_mono (Kd.R_far (p := ⟨gb780, 2, none⟩) (Kd.R_far (p := ⟨gb780, 1, none⟩) (Kd.R_far (p := ⟨gb780, 0, none⟩) (Kd.R_types HO760.out BK780.out (by decide)) (fun _ hk => hk.2) (.int .i64 t773)) (fun _ hk => hk.2) (.slice Ao32 t774.length co32)) (fun _ hk => hk.2) (.slice Ao33 t777.length co33)) (fun _ h_ => h_.1))))) (Kd.R_lt (by (with_reducible repeat (first | apply Kd.R_alloc | apply Kd.R_drewN | apply Kd.R_drew)); exact (Kd.R_mono (Kd.R_far (p := ⟨gb780, 2, none⟩) (Kd.R_far (p := ⟨gb780, 1, none⟩) (Kd.R_far (p := ⟨gb780, 0, none⟩) (Kd.R_types HO763.out BK780.out (by decide)) (fun _ hk => hk.2) (.int .i64 t773)) (fun _ hk => hk.2) (.slice Ao32 t774.length co32)) (fun _ hk => hk.2) (.slice Ao33 t777.length co33)) (fun _ h_ => h_.1))))) (Kd.R_lt (by (with_reducible repeat (first | apply Kd.R_alloc | apply Kd.R_drewN | apply Kd.R_drew)); exact (Kd.R_mono (Kd.R_far (p := ⟨gb780, 2, none⟩) (Kd.R_far (p := ⟨gb780, 1, none⟩) (Kd.R_far (p := ⟨gb780, 0, none⟩) (Kd.R_types HO767.out BK780.out (by decide)) (fun _ hk => hk.2) (.int .i64 t773)) (fun _ hk => hk.2) (.slice Ao32 t774.length co32)) (fun _ hk => hk.2) (.slice Ao33 t777.length co33)) (fun _ h_ => h_.1))))) (Kd.R_lt (by (with_reducible repeat (first | apply Kd.R_alloc | apply Kd.R_drewN | apply Kd.R_drew)); exact (Kd.R_mono (Kd.R_far (p := ⟨gb780, 2, none⟩) (Kd.R_far (p := ⟨gb780, 1, none⟩) (Kd.R_far (p := ⟨gb780, 0, none⟩) (Kd.R_types HO770.out BK780.out (by decide)) (fun _ hk => hk.2) (.int .i64 t773)) (fun _ hk => hk.2) (.slice Ao32 t774.length co32)) (fun _ hk => hk.2) (.slice Ao33 t777.length co33)) (fun _ h_ => h_.1))))) (Kd.R_lt (by (with_reducible repeat (first | apply Kd.R_alloc | apply Kd.R_drewN | apply Kd.R_drew)); exact (Kd.R_mono (Kd.R_far (p := ⟨gb780, 2, none⟩) (Kd.R_far (p := ⟨gb780, 1, none⟩) (Kd.R_far (p := ⟨gb780, 0, none⟩) (Kd.R_types HO776.out BK780.out (by decide)) (fun _ hk => hk.2) (.int .i64 t773)) (fun _ hk => hk.2) (.slice Ao32 t774.length co32)) (fun _ hk => hk.2) (.slice Ao33 t777.length co33)) (fun _ h_ => h_.1))))) (Kd.R_lt (by (with_reducible repeat (first | apply Kd.R_alloc | apply Kd.R_drewN | apply Kd.R_drew)); exact (Kd.R_mono (Kd.R_far (p := ⟨gb780, 2, none⟩) (Kd.R_far (p := ⟨gb780, 1, none⟩) (Kd.R_far (p := ⟨gb780, 0, none⟩) (Kd.R_types HO779.out BK780.out (by decide)) (fun _ hk => hk.2) (.int .i64 t773)) (fun _ hk => hk.2) (.slice Ao32 t774.length co32)) (fun _ hk => hk.2) (.slice Ao33 t777.length co33)) (fun _ h_ => h_.1))))) (below_size (by repeat (first | (with_reducible first | exact HB.out | apply below_alloc | apply pw_below_drewN | apply below_drew1 | refine below_set ?_ GE755.out | refine below_set ?_ GE772.out | refine below_set ?_ GE780.out) | exact HB.out)))); have n8_ := Aside0.mk (blk_below (g := gb755) (o := .cells #[.int .i64 a0_0, .slice A0_1 l0_1.length c0_1, .slice A0_2 l0_2.length c0_2] 43 (0, 0)) (by (with_reducible repeat (first | refine blk_drewN ?_ _ | refine blk_drew ?_ | refine blk_alloc ?_ _)); refine blk_far ?_ NB755_780.out _; (with_reducible repeat (first | refine blk_drewN ?_ _ | refine blk_drew ?_ | refine blk_alloc ?_ _)); refine blk_far ?_ NB755_780.out _; (with_reducible repeat (first | refine blk_drewN ?_ _ | refine blk_drew ?_ | refine blk_alloc ?_ _)); refine blk_far ?_ NB755_780.out _; (with_reducible repeat (first | refine blk_drewN ?_ _ | refine blk_drew ?_ | refine blk_alloc ?_ _)); exact BK755.out) hb); have n9_ := Aside0.mk (blk_below (g := gb772) (o := .cells #[.int .i64 t764, .slice Ao24 t765.length co24, .slice Ao25 t768.length co25] 46 (0, 0)) (by (with_reducible repeat (first | refine blk_drewN ?_ _ | refine blk_drew ?_ | refine blk_alloc ?_ _)); refine blk_far ?_ NB772_780.out _; (with_reducible repeat (first | refine blk_drewN ?_ _ | refine blk_drew ?_ | refine blk_alloc ?_ _)); refine blk_far ?_ NB772_780.out _; (with_reducible repeat (first | refine blk_drewN ?_ _ | refine blk_drew ?_ | refine blk_alloc ?_ _)); refine blk_far ?_ NB772_780.out _; (with_reducible repeat (first | refine blk_drewN ?_ _ | refine blk_drew ?_ | refine blk_alloc ?_ _)); exact BK772.out) hb); have n10_ := Aside0.mk (blk_below (g := gb780) (o := .cells #[.int .i64 t773, .slice Ao32 t774.length co32, .slice Ao33 t777.length co33] 46 (0, 0)) (by (with_reducible repeat (first | refine blk_drewN ?_ _ | refine blk_drew ?_ | refine blk_alloc ?_ _)); refine blk_put (cs := #[.int .i64 t773, .slice Ao32 t774.length co32, .slice none 0 0]) ?_ 2 _ rfl; (with_reducible repeat (first | refine blk_drewN ?_ _ | refine blk_drew ?_ | refine blk_alloc ?_ _)); refine blk_put (cs := #[.int .i64 t773, .slice none 0 0, .slice none 0 0]) ?_ 1 _ rfl; (with_reducible repeat (first | refine blk_drewN ?_ _ | refine blk_drew ?_ | refine blk_alloc ?_ _)); refine blk_put (cs := #[.int .i64 0, .slice none 0 0, .slice none 0 0]) ?_ 0 _ rfl; (with_reducible repeat (first | refine blk_drewN ?_ _ | refine blk_drew ?_ | refine blk_alloc ?_ _)); exact BK780.out) hb); have n11_ := Aside0.mk (below_step (by repeat (first | (with_reducible first | exact HB.out | apply below_alloc | apply pw_below_drewN | apply below_drew1 | refine below_set ?_ GE755.out | refine below_set ?_ GE772.out | refine below_set ?_ GE780.out) | exact HB.out)) hb); clear HO760 HO763 HO767 HO770 HO776 HO779 BK755 BK772 BK780 HB; have HO760 := n0_; have HO763 := n1_; have HO767 := n2_; have HO770 := n3_; have HO776 := n4_; have HO779 := n5_; have HO784 := n6_; have HO787 := n7_; have BK755 := n8_; have BK772 := n9_; have BK780 := n10_; have HB := n11_; clear n0_ n1_ n2_ n3_ n4_ n5_ n6_ n7_ n8_ n9_ n10_ n11_; (try clear hb); (try clear hb2); (try clear hk); (try clear hi); (try clear ho0); (try clear ho1)) | ((with_reducible refine gate_dst (N := 9) rfl ?_); refine box_event ?hg (N := 9) ?hd (cs := #[.int .i64 0, .slice none 0 0, .slice none 0 0]) (t := 46) ?hr ?_; (case hd => rfl); (case hg => rfl); (case hr => first | (go_simp; done) | (go_simp; rfl)); intro gb789 hg w35 hbox hb; have n0_ := Aside0.mk (Kd.R_below (pkR HO760.out) hb); have n1_ := Aside0.mk (Kd.R_below (pkR HO763.out) hb); have n2_ := Aside0.mk (Kd.R_below (pkR HO767.out) hb); have n3_ := Aside0.mk (Kd.R_below (pkR HO770.out) hb); have n4_ := Aside0.mk (Kd.R_below (pkR HO776.out) hb); have n5_ := Aside0.mk (Kd.R_below (pkR HO779.out) hb); have n6_ := Aside0.mk (Kd.R_below (pkR HO784.out) hb); have n7_ := Aside0.mk (Kd.R_below (pkR HO787.out) hb); have n8_ := Aside0.mk (blk_below (g := gb755) (o := .cells #[.int .i64 a0_0, .slice A0_1 l0_1.length c0_1, .slice A0_2 l0_2.length c0_2] 43 (0, 0)) (pkK BK755.out) hb); have n9_ := Aside0.mk (blk_below (g := gb772) (o := .cells #[.int .i64 t764, .slice Ao24 t765.length co24, .slice Ao25 t768.length co25] 46 (0, 0)) (pkK BK772.out) hb); have n10_ := Aside0.mk (blk_below (g := gb780) (o := .cells #[.int .i64 t773, .slice Ao32 t774.length co32, .slice Ao33 t777.length co33] 46 (0, 0)) (pkK BK780.out) hb); have n11_ := Aside0.mk (below_step (by repeat (first | (with_reducible first | exact HB.out | apply below_alloc | apply pw_below_drewN | apply below_drew1 | refine below_set ?_ GE755.out | refine below_set ?_ GE772.out | refine below_set ?_ GE780.out) | exact HB.out)) hb); have n12_ := Aside0.mk (hbox); have n13_ := Aside0.mk ((by rw [hg]; exact (below_size (by repeat (first | (with_reducible first | exact HB.out | apply below_alloc | apply pw_below_drewN | apply below_drew1 | refine below_set ?_ GE755.out | refine below_set ?_ GE772.out | refine below_set ?_ GE780.out) | exact HB.out))) : w.heap.size ≤ gb789)); have n14_ := Aside0.mk ((by rw [hg]; exact (below_size (by repeat (first | (with_reducible first | exact HB.out | apply below_alloc | apply pw_below_drewN | apply below_drew1 | refine below_set ?_ GE755.out | refine below_set ?_ GE772.out | refine below_set ?_ GE780.out) | exact HB.out))) : w.heap.size ≤ gb789)); have n15_ := Aside0.mk ((by rw [hg]; exact Nat.ne_of_lt (blk_lt (g := gb755) (o := .cells #[.int .i64 a0_0, .slice A0_1 l0_1.length c0_1, .slice A0_2 l0_2.length c0_2] 43 (0, 0)) (pkK BK755.out)) : gb755 ≠ gb789)); have n16_ := Aside0.mk ((by rw [hg]; exact Nat.ne_of_gt (blk_lt (g := gb755) (o := .cells #[.int .i64 a0_0, .slice A0_1 l0_1.length c0_1, .slice A0_2 l0_2.length c0_2] 43 (0, 0)) (pkK BK755.out)) : gb789 ≠ gb755)); have n17_ := Aside0.mk ((by rw [hg]; exact Nat.ne_of_lt (blk_lt (g := gb772) (o := .cells #[.int .i64 t764, .slice Ao24 t765.length co24, .slice Ao25 t768.length co25] 46 (0, 0)) (pkK BK772.out)) : gb772 ≠ gb789)); have n18_ := Aside0.mk ((by rw [hg]; exact Nat.ne_of_gt (blk_lt (g := gb772) (o := .cells #[.int .i64 t764, .slice Ao24 t765.length co24, .slice Ao25 t768.length co25] 46 (0, 0)) (pkK BK772.out)) : gb789 ≠ gb772)); have n19_ := Aside0.mk ((by rw [hg]; exact Nat.ne_of_lt (blk_lt (g := gb780) (o := .cells #[.int .i64 t773, .slice Ao32 t774.length co32, .slice Ao33 t777.length co33] 46 (0, 0)) (pkK BK780.out)) : gb780 ≠ gb789)); have n20_ := Aside0.mk ((by rw [hg]; exact Nat.ne_of_gt (blk_lt (g := gb780) (o := .cells #[.int .i64 t773, .slice Ao32 t774.length co32, .slice Ao33 t777.length co33] 46 (0, 0)) (pkK BK780.out)) : gb789 ≠ gb780)); clear HO760 HO763 HO767 HO770 HO776 HO779 HO784 HO787 BK755 BK772 BK780 HB; have HO760 := n0_; have HO763 := n1_; have HO767 := n2_; have HO770 := n3_; have HO776 := n4_; have HO779 := n5_; have HO784 := n6_; have HO787 := n7_; have BK755 := n8_; have BK772 := n9_; have BK780 := n10_; have HB := n11_; have BK789 := n12_; have GW789 := n13_; have GE789 := n14_; have NB755_789 := n15_; have NB789_755 := n16_; have NB772_789 := n17_; have NB789_772 := n18_; have NB780_789 := n19_; have NB789_780 := n20_; clear n0_ n1_ n2_ n3_ n4_ n5_ n6_ n7_ n8_ n9_ n10_ n11_ n12_ n13_ n14_ n15_ n16_ n17_ n18_ n19_ n20_; clear hb hbox hg; have hnb36 := NB789_755.out; have hnc36 := NB755_789.out; have hnb37 := NB789_772.out; have hnc37 := NB772_789.out; have hnb38 := NB789_780.out; have hnc38 := NB780_789.out; have hcz39_0 : w35.cell? ⟨gb789, 0, none⟩ = some (.int .i64 0) := (blk_cell BK789.out 0).trans rfl; have hcz39_1 : w35.cell? ⟨gb789, 1, none⟩ = some (.slice none 0 0) := (blk_cell BK789.out 1).trans rfl; have hcz39_2 : w35.cell? ⟨gb789, 2, none⟩ = some (.slice none 0 0) := (blk_cell BK789.out 2).trans rfl; have hfz39_0 := blk_frozen BK789.out 0; have hfz39_1 := blk_frozen BK789.out 1; have hfz39_2 := blk_frozen BK789.out 2; obtain ⟨Ao40, co40, eo40⟩ := Kd.R_slice HO784.out; subst eo40; obtain ⟨Ao41, co41, eo41⟩ := Kd.R_slice HO787.out; subst eo41))
    (try simp only [Act.put, List.setIfInBounds_toArray, List.set_cons_zero, List.set_cons_succ])
    go_cut [44] (fun v44 wc => ∃ (kq : Nat) (x44_11 : Bool), v44 = .bool x44_11 ∧ Aside0 (laws_FnExactPassLatch.j0 kq a1 t771 t788 x44_11 a0_0 l0_1 l0_2 t764 t765 t768 t773 t774 t777 t781 t782 t785 = some r) ∧ Aside0 (kq ≤ k) ∧ Aside0 (Kd.R (Kd.int .i64) 3 wc w.heap.size (fun k_ => some k_ ≠ ((.slice Ao25 t768.length co25) : Value).ownBlock ∧ some k_ ≠ ((.slice Ao32 t774.length co32) : Value).ownBlock ∧ some k_ ≠ ((.slice Ao33 t777.length co33) : Value).ownBlock ∧ some k_ ≠ ((.slice Ao40 t782.length co40) : Value).ownBlock ∧ some k_ ≠ ((.slice Ao41 t785.length co41) : Value).ownBlock) (.slice Ao24 t765.length co24) t765) ∧ Aside0 (Kd.R (Kd.int .i64) 3 wc w.heap.size (fun k_ => some k_ ≠ ((.slice Ao24 t765.length co24) : Value).ownBlock ∧ some k_ ≠ ((.slice Ao32 t774.length co32) : Value).ownBlock ∧ some k_ ≠ ((.slice Ao33 t777.length co33) : Value).ownBlock ∧ some k_ ≠ ((.slice Ao40 t782.length co40) : Value).ownBlock ∧ some k_ ≠ ((.slice Ao41 t785.length co41) : Value).ownBlock) (.slice Ao25 t768.length co25) t768) ∧ Aside0 (Kd.R (Kd.int .i64) 3 wc w.heap.size (fun k_ => some k_ ≠ ((.slice Ao24 t765.length co24) : Value).ownBlock ∧ some k_ ≠ ((.slice Ao25 t768.length co25) : Value).ownBlock ∧ some k_ ≠ ((.slice Ao33 t777.length co33) : Value).ownBlock ∧ some k_ ≠ ((.slice Ao40 t782.length co40) : Value).ownBlock ∧ some k_ ≠ ((.slice Ao41 t785.length co41) : Value).ownBlock) (.slice Ao32 t774.length co32) t774) ∧ Aside0 (Kd.R (Kd.int .i64) 3 wc w.heap.size (fun k_ => some k_ ≠ ((.slice Ao24 t765.length co24) : Value).ownBlock ∧ some k_ ≠ ((.slice Ao25 t768.length co25) : Value).ownBlock ∧ some k_ ≠ ((.slice Ao32 t774.length co32) : Value).ownBlock ∧ some k_ ≠ ((.slice Ao40 t782.length co40) : Value).ownBlock ∧ some k_ ≠ ((.slice Ao41 t785.length co41) : Value).ownBlock) (.slice Ao33 t777.length co33) t777) ∧ Aside0 (Kd.R (Kd.int .i64) 3 wc w.heap.size (fun k_ => some k_ ≠ ((.slice Ao24 t765.length co24) : Value).ownBlock ∧ some k_ ≠ ((.slice Ao25 t768.length co25) : Value).ownBlock ∧ some k_ ≠ ((.slice Ao32 t774.length co32) : Value).ownBlock ∧ some k_ ≠ ((.slice Ao33 t777.length co33) : Value).ownBlock ∧ some k_ ≠ ((.slice Ao41 t785.length co41) : Value).ownBlock) (.slice Ao40 t782.length co40) t782) ∧ Aside0 (Kd.R (Kd.int .i64) 3 wc w.heap.size (fun k_ => some k_ ≠ ((.slice Ao24 t765.length co24) : Value).ownBlock ∧ some k_ ≠ ((.slice Ao25 t768.length co25) : Value).ownBlock ∧ some k_ ≠ ((.slice Ao32 t774.length co32) : Value).ownBlock ∧ some k_ ≠ ((.slice Ao33 t777.length co33) : Value).ownBlock ∧ some k_ ≠ ((.slice Ao40 t782.length co40) : Value).ownBlock) (.slice Ao41 t785.length co41) t785) ∧ Aside0 (wc.heap[gb755]? = some (.cells #[.int .i64 a0_0, (.slice A0_1 l0_1.length c0_1), (.slice A0_2 l0_2.length c0_2)] 43 (0, 0))) ∧ Aside0 (wc.heap[gb772]? = some (.cells #[.int .i64 t764, (.slice Ao24 t765.length co24), (.slice Ao25 t768.length co25)] 46 (0, 0))) ∧ Aside0 (wc.heap[gb780]? = some (.cells #[.int .i64 t773, (.slice Ao32 t774.length co32), (.slice Ao33 t777.length co33)] 46 (0, 0))) ∧ Aside0 (wc.heap[gb789]? = some (.cells #[.int .i64 t781, (.slice Ao40 t782.length co40), (.slice Ao41 t785.length co41)] 46 (0, 0))) ∧ Aside0 (Below w.heap.size w wc))
    case first =>
      have H := HC12.out
      clear HC12
      replace H := Option.bind_eq_some_iff.mp H
      obtain ⟨t790, A420, H⟩ := H
      replace H : (if t790 = true then (laws_FnExactPassLatch.j0 k a1 t771 t788 (t788 != t771) a0_0 l0_1 l0_2 t764 t765 t768 t773 t774 t777 t781 t782 t785) else (laws_FnExactPassLatch.j0 k a1 t771 t788 true a0_0 l0_1 l0_2 t764 t765 t768 t773 t774 t777 t781 t782 t785)) = some r := H
      have A42 := Aside0.mk A420
      clear A420
      by_cases c43 : t790 = true
      · subst c43
        have H1 : (laws_FnExactPassLatch.j0 k a1 t771 t788 (t788 != t771) a0_0 l0_1 l0_2 t764 t765 t768 t773 t774 t777 t781 t782 t785) = some r := by rw [if_pos rfl] at H; exact H
        clear H
        have H := H1
        clear H1
        have H' := Aside0.mk H
        clear H
        have hnb44 := NB789_755.out
        have hnc44 := NB755_789.out
        have hnb45 := NB789_772.out
        have hnc45 := NB772_789.out
        have hnb46 := NB789_780.out
        have hnc46 := NB780_789.out
        have hcz47_0 : w35.cell? ⟨gb789, 0, none⟩ = some (.int .i64 0) := (blk_cell BK789.out 0).trans rfl
        have hcz47_1 : w35.cell? ⟨gb789, 1, none⟩ = some (.slice none 0 0) := (blk_cell BK789.out 1).trans rfl
        have hcz47_2 : w35.cell? ⟨gb789, 2, none⟩ = some (.slice none 0 0) := (blk_cell BK789.out 2).trans rfl
        have hfz47_0 := blk_frozen BK789.out 0
        have hfz47_1 := blk_frozen BK789.out 1
        have hfz47_2 := blk_frozen BK789.out 2
        have hnb48 := NB772_755.out
        have hnc48 := NB755_772.out
        have hnb49 := NB772_780.out
        have hnc49 := NB780_772.out
        have hcz50_0 : w35.cell? ⟨gb772, 0, none⟩ = some (.int .i64 t764) := (blk_cell BK772.out 0).trans rfl
        have hcz50_1 : w35.cell? ⟨gb772, 1, none⟩ = some (.slice Ao24 t765.length co24) := (blk_cell BK772.out 1).trans rfl
        have hcz50_2 : w35.cell? ⟨gb772, 2, none⟩ = some (.slice Ao25 t768.length co25) := (blk_cell BK772.out 2).trans rfl
        have hfz50_0 := blk_frozen BK772.out 0
        have hfz50_1 := blk_frozen BK772.out 1
        have hfz50_2 := blk_frozen BK772.out 2
        go_wp2_with (first | ((with_reducible refine gate_callee (f := 27) rfl ?_); refine goesL_ (some 38) rfl rfl Try.func27 (by kernel_rfl) rfl #[.agg #[.int .i64 t781, .slice Ao40 t782.length co40, .slice Ao41 t785.length co41], .agg #[.int .i64 t764, .slice Ao24 t765.length co24, .slice Ao25 t768.length co25]] rfl (by (try simp only [List.map_toArray, List.map_cons, List.map_nil]); first | done | rfl | (simp only [List.length_drop, List.length_take]; rfl) | (go_simp; done) | (simp [*]; done)) ?_; (with_reducible refine (laws_eqLatch.calls k t781 _ _ t782 _ _ t785 t764 _ _ t765 _ _ t768 true _ ?side1 ?side2 ?side3 ?side4 ?side5 ?side6 ?side7 ?side8 A42.out).mono ?_); (case side1 => refine (Kd.R_reads' (e := 3) (base := w.heap.size) (ok := fun k_ => ((((((some k_ ≠ (.slice Ao41 t785.length co41 : Value).ownBlock ∧ some k_ ≠ (.slice Ao18 t758.length co18 : Value).ownBlock) ∧ some k_ ≠ (.slice Ao19 t761.length co19 : Value).ownBlock) ∧ some k_ ≠ (.slice Ao24 t765.length co24 : Value).ownBlock) ∧ some k_ ≠ (.slice Ao25 t768.length co25 : Value).ownBlock) ∧ some k_ ≠ (.slice Ao32 t774.length co32 : Value).ownBlock) ∧ some k_ ≠ (.slice Ao33 t777.length co33 : Value).ownBlock)) (n := t782.length) (c := co40) ?_).2.2; exact (by (with_reducible repeat (first | apply Kd.R_alloc | apply Kd.R_drewN | apply Kd.R_drew)); exact (Kd.R_mono (Kd.R_far (p := ⟨gb789, 2, none⟩) (Kd.R_far (p := ⟨gb789, 1, none⟩) (Kd.R_far (p := ⟨gb789, 0, none⟩) (Kd.R_types HO784.out BK789.out (by decide)) (fun _ hk => hk.2) (.int .i64 t781)) (fun _ hk => hk.2) (.slice Ao40 t782.length co40)) (fun _ hk => hk.2) (.slice Ao41 t785.length co41)) (fun _ h_ => h_.1)))); (case side2 => exact (Kd.R_reads' HO784.out).2.1); (case side3 => refine (Kd.R_reads' (e := 3) (base := w.heap.size) (ok := fun k_ => ((((((some k_ ≠ (.slice Ao40 t782.length co40 : Value).ownBlock ∧ some k_ ≠ (.slice Ao18 t758.length co18 : Value).ownBlock) ∧ some k_ ≠ (.slice Ao19 t761.length co19 : Value).ownBlock) ∧ some k_ ≠ (.slice Ao24 t765.length co24 : Value).ownBlock) ∧ some k_ ≠ (.slice Ao25 t768.length co25 : Value).ownBlock) ∧ some k_ ≠ (.slice Ao32 t774.length co32 : Value).ownBlock) ∧ some k_ ≠ (.slice Ao33 t777.length co33 : Value).ownBlock)) (n := t785.length) (c := co41) ?_).2.2; exact (by (with_reducible repeat (first | apply Kd.R_alloc | apply Kd.R_drewN | apply Kd.R_drew)); exact (Kd.R_mono (Kd.R_far (p := ⟨gb789, 2, none⟩) (Kd.R_far (p := ⟨gb789, 1, none⟩) (Kd.R_far (p := ⟨gb789, 0, none⟩) (Kd.R_types HO787.out BK789.out (by decide)) (fun _ hk => hk.2) (.int .i64 t781)) (fun _ hk => hk.2) (.slice Ao40 t782.length co40)) (fun _ hk => hk.2) (.slice Ao41 t785.length co41)) (fun _ h_ => h_.1)))); (case side4 => exact (Kd.R_reads' HO787.out).2.1); (case side5 => refine (Kd.R_reads' (e := 3) (base := w.heap.size) (ok := fun k_ => ((((((some k_ ≠ (.slice Ao25 t768.length co25 : Value).ownBlock ∧ some k_ ≠ (.slice Ao18 t758.length co18 : Value).ownBlock) ∧ some k_ ≠ (.slice Ao19 t761.length co19 : Value).ownBlock) ∧ some k_ ≠ (.slice Ao32 t774.length co32 : Value).ownBlock) ∧ some k_ ≠ (.slice Ao33 t777.length co33 : Value).ownBlock) ∧ some k_ ≠ (.slice Ao40 t782.length co40 : Value).ownBlock) ∧ some k_ ≠ (.slice Ao41 t785.length co41 : Value).ownBlock)) (n := t765.length) (c := co24) ?_).2.2; exact (by (with_reducible repeat (first | apply Kd.R_alloc | apply Kd.R_drewN | apply Kd.R_drew)); exact (Kd.R_mono (Kd.R_far (p := ⟨gb789, 2, none⟩) (Kd.R_far (p := ⟨gb789, 1, none⟩) (Kd.R_far (p := ⟨gb789, 0, none⟩) (Kd.R_types HO767.out BK789.out (by decide)) (fun _ hk => hk.2) (.int .i64 t781)) (fun _ hk => hk.2) (.slice Ao40 t782.length co40)) (fun _ hk => hk.2) (.slice Ao41 t785.length co41)) (fun _ h_ => h_.1)))); (case side6 => exact (Kd.R_reads' HO767.out).2.1); (case side7 => refine (Kd.R_reads' (e := 3) (base := w.heap.size) (ok := fun k_ => ((((((some k_ ≠ (.slice Ao24 t765.length co24 : Value).ownBlock ∧ some k_ ≠ (.slice Ao18 t758.length co18 : Value).ownBlock) ∧ some k_ ≠ (.slice Ao19 t761.length co19 : Value).ownBlock) ∧ some k_ ≠ (.slice Ao32 t774.length co32 : Value).ownBlock) ∧ some k_ ≠ (.slice Ao33 t777.length co33 : Value).ownBlock) ∧ some k_ ≠ (.slice Ao40 t782.length co40 : Value).ownBlock) ∧ some k_ ≠ (.slice Ao41 t785.length co41 : Value).ownBlock)) (n := t768.length) (c := co25) ?_).2.2; exact (by (with_reducible repeat (first | apply Kd.R_alloc | apply Kd.R_drewN | apply Kd.R_drew)); exact (Kd.R_mono (Kd.R_far (p := ⟨gb789, 2, none⟩) (Kd.R_far (p := ⟨gb789, 1, none⟩) (Kd.R_far (p := ⟨gb789, 0, none⟩) (Kd.R_types HO770.out BK789.out (by decide)) (fun _ hk => hk.2) (.int .i64 t781)) (fun _ hk => hk.2) (.slice Ao40 t782.length co40)) (fun _ hk => hk.2) (.slice Ao41 t785.length co41)) (fun _ h_ => h_.1)))); (case side8 => exact (Kd.R_reads' HO770.out).2.1); rintro e w51 ⟨rfl, hb⟩; refine ⟨_, rfl, ?_⟩; have n0_ := Aside0.mk (Kd.R_below (by (with_reducible repeat (first | apply Kd.R_alloc | apply Kd.R_drewN | apply Kd.R_drew)); exact (Kd.R_mono (Kd.R_far (p := ⟨gb789, 2, none⟩) (Kd.R_far (p := ⟨gb789, 1, none⟩) (Kd.R_far (p := ⟨gb789, 0, none⟩) (Kd.R_types HO760.out BK789.out (by decide)) (fun _ hk => hk.2) (.int .i64 t781)) (fun _ hk => hk.2) (.slice Ao40 t782.length co40)) (fun _ hk => hk.2) (.slice Ao41 t785.length co41)) (fun _ h_ => h_.1))) hb); have n1_ := Aside0.mk (Kd.R_below (by (with_reducible repeat (first | apply Kd.R_alloc | apply Kd.R_drewN | apply Kd.R_drew)); exact (Kd.R_mono (Kd.R_far (p := ⟨gb789, 2, none⟩) (Kd.R_far (p := ⟨gb789, 1, none⟩) (Kd.R_far (p := ⟨gb789, 0, none⟩) (Kd.R_types HO763.out BK789.out (by decide)) (fun _ hk => hk.2) (.int .i64 t781)) (fun _ hk => hk.2) (.slice Ao40 t782.length co40)) (fun _ hk => hk.2) (.slice Ao41 t785.length co41)) (fun _ h_ => h_.1))) hb); have n2_ := Aside0.mk (Kd.R_below (by (with_reducible repeat (first | apply Kd.R_alloc | apply Kd.R_drewN | apply Kd.R_drew)); exact (Kd.R_mono (Kd.R_far (p := ⟨gb789, 2, none⟩) (Kd.R_far (p := ⟨gb789, 1, none⟩) (Kd.R_far (p := ⟨gb789, 0, none⟩) (Kd.R_types HO767.out BK789.out (by decide)) (fun _ hk => hk.2) (.int .i64 t781)) (fun _ hk => hk.2) (.slice Ao40 t782.length co40)) (fun _ hk => hk.2) (.slice Ao41 t785.length co41)) (fun _ h_ => h_.1))) hb); have n3_ := Aside0.mk (Kd.R_below (by (with_reducible repeat (first | apply Kd.R_alloc | apply Kd.R_drewN | apply Kd.R_drew)); exact (Kd.R_mono (Kd.R_far (p := ⟨gb789, 2, none⟩) (Kd.R_far (p := ⟨gb789, 1, none⟩) (Kd.R_far (p := ⟨gb789, 0, none⟩) (Kd.R_types HO770.out BK789.out (by decide)) (fun _ hk => hk.2) (.int .i64 t781)) (fun _ hk => hk.2) (.slice Ao40 t782.length co40)) (fun _ hk => hk.2) (.slice Ao41 t785.length co41)) (fun _ h_ => h_.1))) hb); have n4_ := Aside0.mk (Kd.R_below (by (with_reducible repeat (first | apply Kd.R_alloc | apply Kd.R_drewN | apply Kd.R_drew)); exact (Kd.R_mono (Kd.R_far (p := ⟨gb789, 2, none⟩) (Kd.R_far (p := ⟨gb789, 1, none⟩) (Kd.R_far (p := ⟨gb789, 0, none⟩) (Kd.R_types HO776.out BK789.out (by decide)) (fun _ hk => hk.2) (.int .i64 t781)) (fun _ hk => hk.2) (.slice Ao40 t782.length co40)) (fun _ hk => hk.2) (.slice Ao41 t785.length co41)) (fun _ h_ => h_.1))) hb); have n5_ := Aside0.mk (Kd.R_below (by (with_reducible repeat (first | apply Kd.R_alloc | apply Kd.R_drewN | apply Kd.R_drew)); exact (Kd.R_mono (Kd.R_far (p := ⟨gb789, 2, none⟩) (Kd.R_far (p := ⟨gb789, 1, none⟩) (Kd.R_far (p := ⟨gb789, 0, none⟩) (Kd.R_types HO779.out BK789.out (by decide)) (fun _ hk => hk.2) (.int .i64 t781)) (fun _ hk => hk.2) (.slice Ao40 t782.length co40)) (fun _ hk => hk.2) (.slice Ao41 t785.length co41)) (fun _ h_ => h_.1))) hb); have n6_ := Aside0.mk (Kd.R_below (by (with_reducible repeat (first | apply Kd.R_alloc | apply Kd.R_drewN | apply Kd.R_drew)); exact (Kd.R_mono (Kd.R_far (p := ⟨gb789, 2, none⟩) (Kd.R_far (p := ⟨gb789, 1, none⟩) (Kd.R_far (p := ⟨gb789, 0, none⟩) (Kd.R_types HO784.out BK789.out (by decide)) (fun _ hk => hk.2) (.int .i64 t781)) (fun _ hk => hk.2) (.slice Ao40 t782.length co40)) (fun _ hk => hk.2) (.slice Ao41 t785.length co41)) (fun _ h_ => h_.1))) hb); have n7_ := Aside0.mk (Kd.R_below (by (with_reducible repeat (first | apply Kd.R_alloc | apply Kd.R_drewN | apply Kd.R_drew)); exact (Kd.R_mono (Kd.R_far (p := ⟨gb789, 2, none⟩) (Kd.R_far (p := ⟨gb789, 1, none⟩) (Kd.R_far (p := ⟨gb789, 0, none⟩) (Kd.R_types HO787.out BK789.out (by decide)) (fun _ hk => hk.2) (.int .i64 t781)) (fun _ hk => hk.2) (.slice Ao40 t782.length co40)) (fun _ hk => hk.2) (.slice Ao41 t785.length co41)) (fun _ h_ => h_.1))) hb); have n8_ := Aside0.mk (blk_below (g := gb755) (o := .cells #[.int .i64 a0_0, .slice A0_1 l0_1.length c0_1, .slice A0_2 l0_2.length c0_2] 43 (0, 0)) (by (with_reducible repeat (first | refine blk_drewN ?_ _ | refine blk_drew ?_ | refine blk_alloc ?_ _)); refine blk_far ?_ NB755_789.out _; (with_reducible repeat (first | refine blk_drewN ?_ _ | refine blk_drew ?_ | refine blk_alloc ?_ _)); refine blk_far ?_ NB755_789.out _; (with_reducible repeat (first | refine blk_drewN ?_ _ | refine blk_drew ?_ | refine blk_alloc ?_ _)); refine blk_far ?_ NB755_789.out _; (with_reducible repeat (first | refine blk_drewN ?_ _ | refine blk_drew ?_ | refine blk_alloc ?_ _)); exact BK755.out) hb); have n9_ := Aside0.mk (blk_below (g := gb772) (o := .cells #[.int .i64 t764, .slice Ao24 t765.length co24, .slice Ao25 t768.length co25] 46 (0, 0)) (by (with_reducible repeat (first | refine blk_drewN ?_ _ | refine blk_drew ?_ | refine blk_alloc ?_ _)); refine blk_far ?_ NB772_789.out _; (with_reducible repeat (first | refine blk_drewN ?_ _ | refine blk_drew ?_ | refine blk_alloc ?_ _)); refine blk_far ?_ NB772_789.out _; (with_reducible repeat (first | refine blk_drewN ?_ _ | refine blk_drew ?_ | refine blk_alloc ?_ _)); refine blk_far ?_ NB772_789.out _; (with_reducible repeat (first | refine blk_drewN ?_ _ | refine blk_drew ?_ | refine blk_alloc ?_ _)); exact BK772.out) hb); have n10_ := Aside0.mk (blk_below (g := gb780) (o := .cells #[.int .i64 t773, .slice Ao32 t774.length co32, .slice Ao33 t777.length co33] 46 (0, 0)) (by (with_reducible repeat (first | refine blk_drewN ?_ _ | refine blk_drew ?_ | refine blk_alloc ?_ _)); refine blk_far ?_ NB780_789.out _; (with_reducible repeat (first | refine blk_drewN ?_ _ | refine blk_drew ?_ | refine blk_alloc ?_ _)); refine blk_far ?_ NB780_789.out _; (with_reducible repeat (first | refine blk_drewN ?_ _ | refine blk_drew ?_ | refine blk_alloc ?_ _)); refine blk_far ?_ NB780_789.out _; (with_reducible repeat (first | refine blk_drewN ?_ _ | refine blk_drew ?_ | refine blk_alloc ?_ _)); exact BK780.out) hb); have n11_ := Aside0.mk (blk_below (g := gb789) (o := .cells #[.int .i64 t781, .slice Ao40 t782.length co40, .slice Ao41 t785.length co41] 46 (0, 0)) (by (with_reducible repeat (first | refine blk_drewN ?_ _ | refine blk_drew ?_ | refine blk_alloc ?_ _)); refine blk_put (cs := #[.int .i64 t781, .slice Ao40 t782.length co40, .slice none 0 0]) ?_ 2 _ rfl; (with_reducible repeat (first | refine blk_drewN ?_ _ | refine blk_drew ?_ | refine blk_alloc ?_ _)); refine blk_put (cs := #[.int .i64 t781, .slice none 0 0, .slice none 0 0]) ?_ 1 _ rfl; (with_reducible repeat (first | refine blk_drewN ?_ _ | refine blk_drew ?_ | refine blk_alloc ?_ _)); refine blk_put (cs := #[.int .i64 0, .slice none 0 0, .slice none 0 0]) ?_ 0 _ rfl; (with_reducible repeat (first | refine blk_drewN ?_ _ | refine blk_drew ?_ | refine blk_alloc ?_ _)); exact BK789.out) hb); have n12_ := Aside0.mk (below_step (by repeat (first | (with_reducible first | exact HB.out | apply below_alloc | apply pw_below_drewN | apply below_drew1 | refine below_set ?_ GE755.out | refine below_set ?_ GE772.out | refine below_set ?_ GE780.out | refine below_set ?_ GE789.out) | exact HB.out)) hb); clear HO760 HO763 HO767 HO770 HO776 HO779 HO784 HO787 BK755 BK772 BK780 BK789 HB; have HO760 := n0_; have HO763 := n1_; have HO767 := n2_; have HO770 := n3_; have HO776 := n4_; have HO779 := n5_; have HO784 := n6_; have HO787 := n7_; have BK755 := n8_; have BK772 := n9_; have BK780 := n10_; have BK789 := n11_; have HB := n12_; clear n0_ n1_ n2_ n3_ n4_ n5_ n6_ n7_ n8_ n9_ n10_ n11_ n12_; (try clear hb); (try clear hb2); (try clear hk); (try clear hi)))
        go_meet
        case rel => exact ⟨_, ((t788 != t771)), (by first | rfl | (simp; done) | (simp [*]; done)), H', ⟨by first | omega | exact Nat.le_refl _⟩, ⟨by (with_reducible repeat (first | apply Kd.R_alloc | apply Kd.R_drewN | apply Kd.R_drew)); exact Kd.R_mono HO767.out (fun _ hk => ⟨hk.1.1.1.1.1.1, ⟨hk.1.1.1.2, ⟨hk.1.1.2, ⟨hk.1.2, hk.2⟩⟩⟩⟩)⟩, ⟨by (with_reducible repeat (first | apply Kd.R_alloc | apply Kd.R_drewN | apply Kd.R_drew)); exact Kd.R_mono HO770.out (fun _ hk => ⟨hk.1.1.1.1.1.1, ⟨hk.1.1.1.2, ⟨hk.1.1.2, ⟨hk.1.2, hk.2⟩⟩⟩⟩)⟩, ⟨by (with_reducible repeat (first | apply Kd.R_alloc | apply Kd.R_drewN | apply Kd.R_drew)); exact Kd.R_mono HO776.out (fun _ hk => ⟨hk.1.1.1.2, ⟨hk.1.1.2, ⟨hk.1.1.1.1.1.1, ⟨hk.1.2, hk.2⟩⟩⟩⟩)⟩, ⟨by (with_reducible repeat (first | apply Kd.R_alloc | apply Kd.R_drewN | apply Kd.R_drew)); exact Kd.R_mono HO779.out (fun _ hk => ⟨hk.1.1.1.2, ⟨hk.1.1.2, ⟨hk.1.1.1.1.1.1, ⟨hk.1.2, hk.2⟩⟩⟩⟩)⟩, ⟨by (with_reducible repeat (first | apply Kd.R_alloc | apply Kd.R_drewN | apply Kd.R_drew)); exact Kd.R_mono HO784.out (fun _ hk => ⟨hk.1.1.1.2, ⟨hk.1.1.2, ⟨hk.1.2, ⟨hk.2, hk.1.1.1.1.1.1⟩⟩⟩⟩)⟩, ⟨by (with_reducible repeat (first | apply Kd.R_alloc | apply Kd.R_drewN | apply Kd.R_drew)); exact Kd.R_mono HO787.out (fun _ hk => ⟨hk.1.1.1.2, ⟨hk.1.1.2, ⟨hk.1.2, ⟨hk.2, hk.1.1.1.1.1.1⟩⟩⟩⟩)⟩, ⟨pkK BK755.out⟩, ⟨pkK BK772.out⟩, ⟨pkK BK780.out⟩, ⟨pkK BK789.out⟩, ⟨by repeat (first | (with_reducible first | exact HB.out | apply below_alloc | apply pw_below_drewN | apply below_drew1 | refine below_set ?_ GE755.out | refine below_set ?_ GE772.out | refine below_set ?_ GE780.out | refine below_set ?_ GE789.out) | exact HB.out)⟩⟩
      · replace c43 := Bool.eq_false_iff.mpr c43
        subst c43
        have H1 : (laws_FnExactPassLatch.j0 k a1 t771 t788 true a0_0 l0_1 l0_2 t764 t765 t768 t773 t774 t777 t781 t782 t785) = some r := by rw [if_neg (show ¬ (false = true) by decide)] at H; exact H
        clear H
        have H := H1
        clear H1
        cases k with
        | zero => exact absurd H (by simp [laws_FnExactPassLatch.j0])
        | succ k_ => (simp only [laws_FnExactPassLatch.j0, if_pos] at H; exact absurd (Option.some.inj H) (by rw [HQ_.out]; simp))
    case rest =>
      clear HC12
      try clear c1
      try clear c2
      try clear p2
      try clear c3
      try clear c4
      try clear c4b0
      try clear c10
      try clear c22
      try clear c23
      try clear c25
      try clear c27
      try clear c29
      try clear c30
      try clear c36
      try clear c37
      try clear c38
      try clear c42
      try clear c43
      try clear c44
      try clear c45
      try clear c46
      try clear c48
      try clear c49
      try clear hcz14_0
      try clear hcz14_1
      try clear hcz14_2
      try clear hcz16_0
      try clear hcz16_1
      try clear hcz16_2
      try clear hcz23_0
      try clear hcz23_1
      try clear hcz23_2
      try clear hcz26_0
      try clear hcz26_1
      try clear hcz26_2
      try clear hcz31_0
      try clear hcz31_1
      try clear hcz31_2
      try clear hcz39_0
      try clear hcz39_1
      try clear hcz39_2
      try clear hcz47_0
      try clear hcz47_1
      try clear hcz47_2
      try clear hcz50_0
      try clear hcz50_1
      try clear hcz50_2
      try clear hcz6_0
      try clear hcz6_1
      try clear hcz6_2
      try clear hfz14_0
      try clear hfz14_1
      try clear hfz14_2
      try clear hfz16_0
      try clear hfz16_1
      try clear hfz16_2
      try clear hfz23_0
      try clear hfz23_1
      try clear hfz23_2
      try clear hfz26_0
      try clear hfz26_1
      try clear hfz26_2
      try clear hfz31_0
      try clear hfz31_1
      try clear hfz31_2
      try clear hfz39_0
      try clear hfz39_1
      try clear hfz39_2
      try clear hfz47_0
      try clear hfz47_1
      try clear hfz47_2
      try clear hfz50_0
      try clear hfz50_1
      try clear hfz50_2
      try clear hfz6_0
      try clear hfz6_1
      try clear hfz6_2
      obtain ⟨kq, x44_11, rfl, HA, HJ11, HO_773001, HO_773002, HO_781001, HO_781002, HO_790001, HO_790002, BK755, BK772, BK780, BK789, HB⟩ := hcut
      cases kq with
      | zero => exact absurd HA.out (by simp [laws_FnExactPassLatch.j0])
      | succ kj11 =>
        have H := HA.out
        clear HA
        simp only [laws_FnExactPassLatch.j0] at H
        by_cases c52 : x44_11 = true
        · subst c52
          have H1 : (some false) = some r := by rw [if_pos rfl] at H; exact H
          clear H
          have H := H1
          clear H1
          exact absurd (Option.some.inj H) (by rw [HQ_.out]; simp)
        · replace c52 := Bool.eq_false_iff.mpr c52
          subst c52
          have H1 : ((laws_toLatch.f kj11 a0_0 l0_1 l0_2).bind fun bt791 => ((laws_eqLatch.f kj11 t773 t774 t777 bt791.1 bt791.2.1 bt791.2.2).bind fun t798 => (if t798 = true then ((laws_markLatch.f kj11 t773 t774 t777 1).bind fun bt799 => (if bt799.1 < 0 then (laws_FnExactPassLatch.j1 kj11 a1 t771 true a0_0 l0_1 l0_2 t764 t765 t768 t781 t782 t785) else ((laws_eqLatch.f kj11 t781 t782 t785 t764 t765 t768).bind fun t802 => (if t802 = true then (laws_FnExactPassLatch.j1 kj11 a1 t771 (t788 != t771) a0_0 l0_1 l0_2 t764 t765 t768 t781 t782 t785) else (laws_FnExactPassLatch.j1 kj11 a1 t771 true a0_0 l0_1 l0_2 t764 t765 t768 t781 t782 t785))))) else (some false)))) = some r := by rw [if_neg (show ¬ (false = true) by decide)] at H; exact H
          clear H
          have H := H1
          clear H1
          replace H := Option.bind_eq_some_iff.mp H
          obtain ⟨⟨t791, t792, t795⟩, A530, H⟩ := H
          replace H : ((laws_eqLatch.f kj11 t773 t774 t777 t791 t792 t795).bind fun t798 => (if t798 = true then ((laws_markLatch.f kj11 t773 t774 t777 1).bind fun bt799 => (if bt799.1 < 0 then (laws_FnExactPassLatch.j1 kj11 a1 t771 true a0_0 l0_1 l0_2 t764 t765 t768 t781 t782 t785) else ((laws_eqLatch.f kj11 t781 t782 t785 t764 t765 t768).bind fun t802 => (if t802 = true then (laws_FnExactPassLatch.j1 kj11 a1 t771 (t788 != t771) a0_0 l0_1 l0_2 t764 t765 t768 t781 t782 t785) else (laws_FnExactPassLatch.j1 kj11 a1 t771 true a0_0 l0_1 l0_2 t764 t765 t768 t781 t782 t785))))) else (some false))) = some r := H
          have A53 := Aside0.mk A530
          clear A530
          replace H := Option.bind_eq_some_iff.mp H
          obtain ⟨t798, A540, H⟩ := H
          replace H : (if t798 = true then ((laws_markLatch.f kj11 t773 t774 t777 1).bind fun bt799 => (if bt799.1 < 0 then (laws_FnExactPassLatch.j1 kj11 a1 t771 true a0_0 l0_1 l0_2 t764 t765 t768 t781 t782 t785) else ((laws_eqLatch.f kj11 t781 t782 t785 t764 t765 t768).bind fun t802 => (if t802 = true then (laws_FnExactPassLatch.j1 kj11 a1 t771 (t788 != t771) a0_0 l0_1 l0_2 t764 t765 t768 t781 t782 t785) else (laws_FnExactPassLatch.j1 kj11 a1 t771 true a0_0 l0_1 l0_2 t764 t765 t768 t781 t782 t785))))) else (some false)) = some r := H
          have A54 := Aside0.mk A540
          clear A540
          by_cases c55 : t798 = true
          · subst c55
            have H1 : ((laws_markLatch.f kj11 t773 t774 t777 1).bind fun bt799 => (if bt799.1 < 0 then (laws_FnExactPassLatch.j1 kj11 a1 t771 true a0_0 l0_1 l0_2 t764 t765 t768 t781 t782 t785) else ((laws_eqLatch.f kj11 t781 t782 t785 t764 t765 t768).bind fun t802 => (if t802 = true then (laws_FnExactPassLatch.j1 kj11 a1 t771 (t788 != t771) a0_0 l0_1 l0_2 t764 t765 t768 t781 t782 t785) else (laws_FnExactPassLatch.j1 kj11 a1 t771 true a0_0 l0_1 l0_2 t764 t765 t768 t781 t782 t785))))) = some r := by rw [if_pos rfl] at H; exact H
            clear H
            have H := H1
            clear H1
            replace H := Option.bind_eq_some_iff.mp H
            obtain ⟨⟨t799, t800, t801⟩, A560, H⟩ := H
            replace H : (if t799 < 0 then (laws_FnExactPassLatch.j1 kj11 a1 t771 true a0_0 l0_1 l0_2 t764 t765 t768 t781 t782 t785) else ((laws_eqLatch.f kj11 t781 t782 t785 t764 t765 t768).bind fun t802 => (if t802 = true then (laws_FnExactPassLatch.j1 kj11 a1 t771 (t788 != t771) a0_0 l0_1 l0_2 t764 t765 t768 t781 t782 t785) else (laws_FnExactPassLatch.j1 kj11 a1 t771 true a0_0 l0_1 l0_2 t764 t765 t768 t781 t782 t785)))) = some r := H
            have A56 := Aside0.mk A560
            clear A560
            have HC57 := Aside0.mk H
            clear H
            try go_wp2
            have n0_ := Aside0.mk (Kd.R_drew HO_773001.out)
            have n1_ := Aside0.mk (Kd.R_drew HO_773002.out)
            have n2_ := Aside0.mk (Kd.R_drew HO_781001.out)
            have n3_ := Aside0.mk (Kd.R_drew HO_781002.out)
            have n4_ := Aside0.mk (Kd.R_drew HO_790001.out)
            have n5_ := Aside0.mk (Kd.R_drew HO_790002.out)
            have n6_ := Aside0.mk (blk_drew BK755.out)
            have n7_ := Aside0.mk (blk_drew BK772.out)
            have n8_ := Aside0.mk (blk_drew BK780.out)
            have n9_ := Aside0.mk (blk_drew BK789.out)
            have n10_ := Aside0.mk (below_drew1 HB.out)
            clear HO_773001 HO_773002 HO_781001 HO_781002 HO_790001 HO_790002 BK755 BK772 BK780 BK789 HB
            have HO_773001 := n0_; have HO_773002 := n1_; have HO_781001 := n2_; have HO_781002 := n3_; have HO_790001 := n4_; have HO_790002 := n5_; have BK755 := n6_; have BK772 := n7_; have BK780 := n8_; have BK789 := n9_; have HB := n10_
            clear n0_ n1_ n2_ n3_ n4_ n5_ n6_ n7_ n8_ n9_ n10_
            refine start_ (n := 5) (S := fun w' => w'.cell? ⟨gb780, 0, none⟩ = some (.int .i64 t773) ∧ w'.cell? ⟨gb780, 1, none⟩ = some (.slice Ao32 t774.length co32) ∧ w'.cell? ⟨gb780, 2, none⟩ = some (.slice Ao33 t777.length co33) ∧ w'.cell? ⟨gb755, 0, none⟩ = some (.int .i64 a0_0) ∧ w'.cell? ⟨gb755, 1, none⟩ = some (.slice A0_1 l0_1.length c0_1) ∧ w'.cell? ⟨gb755, 2, none⟩ = some (.slice A0_2 l0_2.length c0_2)) (ds := []) #[false, false, false, false, false] (by kernel_rfl) rfl rfl ⟨(blk_cell BK780.out 0).trans rfl, (blk_cell BK780.out 1).trans rfl, (blk_cell BK780.out 2).trans rfl, (blk_cell BK755.out 0).trans rfl, (blk_cell BK755.out 1).trans rfl, (blk_cell BK755.out 2).trans rfl⟩ (fun hHeld => ?_)
            generalize wc.drew = w58 at HO_773001 HO_773002 HO_781001 HO_781002 HO_790001 HO_790002 BK755 BK772 BK780 BK789 HB hHeld ⊢
            refine take_ (i := 0) (N := some 45) (v := ?_) (a' := ?_) #[true, false, false, false, false] rfl rfl (by kernel_rfl) (fun _ _ _ h => h) (Or.inl ⟨by rfl, ?_⟩) hHeld ?_ ?_
            rotate_left
            · rintro w' ⟨s0, s1, s2, s3, s4, s5⟩
              go_simp
              with_reducible rfl
            rotate_left
            · simp only [Act.put, List.setIfInBounds_toArray, List.set_cons_zero, List.set_cons_succ, i64_w, i32_w]
              rfl
            refine take_ (i := 1) (N := some 46) (v := ?_) (a' := ?_) #[true, true, false, false, false] rfl rfl (by kernel_rfl) (fun _ _ _ h => h) (Or.inl ⟨by rfl, ?_⟩) hHeld ?_ ?_
            rotate_left
            · rintro w' ⟨s0, s1, s2, s3, s4, s5⟩
              go_simp
              with_reducible rfl
            rotate_left
            · simp only [Act.put, List.setIfInBounds_toArray, List.set_cons_zero, List.set_cons_succ, i64_w, i32_w]
              rfl
            refine one_ (i := 2) (N := some 47) #[true, true, true, false, false] rfl rfl (by kernel_rfl) (by decide) (fun K hK => ?_)
            refine goes_ Try.func25 (by kernel_rfl) rfl #[.agg #[.int .i64 a0_0, .slice A0_1 l0_1.length c0_1, .slice A0_2 l0_2.length c0_2]] (by rfl) rfl rfl (by (try simp only [List.map_toArray, List.map_cons, List.map_nil]); first | done | rfl | (simp only [List.length_drop, List.length_take]; rfl) | (go_simp; done) | (simp [*]; done)) ?_
            with_reducible refine (laws_toLatch.calls kj11 a0_0 _ _ l0_1 _ _ l0_2 t791 t792 t795 _ ?side1 ?side2 ?side3 ?side4 A53.out).mono ?_
            (case side1 => exact pkC (Kd.C_below HR0_1.out HB.out))
            (case side2 => exact HC0_1.out)
            (case side3 => exact pkC (Kd.C_below HR0_2.out HB.out))
            (case side4 => exact HC0_2.out)
            rintro e w59 ⟨v793, v796, rfl, ho0, ho1, hb⟩
            refine ⟨_, rfl, ?_⟩
            have n0_ := Aside0.mk (Kd.R_mono (Kd.R_told (Kd.R_told (Kd.R_old (pkR HO_773001.out) hb) (Kd.R_base ho0)) (Kd.R_base ho1)) (fun _ h_ => h_.1))
            have n1_ := Aside0.mk (Kd.R_mono (Kd.R_told (Kd.R_told (Kd.R_old (pkR HO_773002.out) hb) (Kd.R_base ho0)) (Kd.R_base ho1)) (fun _ h_ => h_.1))
            have n2_ := Aside0.mk (Kd.R_mono (Kd.R_told (Kd.R_told (Kd.R_old (pkR HO_781001.out) hb) (Kd.R_base ho0)) (Kd.R_base ho1)) (fun _ h_ => h_.1))
            have n3_ := Aside0.mk (Kd.R_mono (Kd.R_told (Kd.R_told (Kd.R_old (pkR HO_781002.out) hb) (Kd.R_base ho0)) (Kd.R_base ho1)) (fun _ h_ => h_.1))
            have n4_ := Aside0.mk (Kd.R_mono (Kd.R_told (Kd.R_told (Kd.R_old (pkR HO_790001.out) hb) (Kd.R_base ho0)) (Kd.R_base ho1)) (fun _ h_ => h_.1))
            have n5_ := Aside0.mk (Kd.R_mono (Kd.R_told (Kd.R_told (Kd.R_old (pkR HO_790002.out) hb) (Kd.R_base ho0)) (Kd.R_base ho1)) (fun _ h_ => h_.1))
            have n6_ := Aside0.mk (Kd.R_lower (Kd.R_new' (Kd.R_new' (Kd.R_new' (Kd.R_new' (Kd.R_new' (Kd.R_new' ho0 (Kd.R_lt (pkR HO_773001.out))) (Kd.R_lt (pkR HO_773002.out))) (Kd.R_lt (pkR HO_781001.out))) (Kd.R_lt (pkR HO_781002.out))) (Kd.R_lt (pkR HO_790001.out))) (Kd.R_lt (pkR HO_790002.out))) (below_size (by repeat (first | (with_reducible first | exact HB.out | apply below_alloc | apply pw_below_drewN | apply below_drew1 | refine below_set ?_ GE755.out | refine below_set ?_ GE772.out | refine below_set ?_ GE780.out | refine below_set ?_ GE789.out) | exact HB.out))))
            have n7_ := Aside0.mk (Kd.R_lower (Kd.R_new' (Kd.R_new' (Kd.R_new' (Kd.R_new' (Kd.R_new' (Kd.R_new' ho1 (Kd.R_lt (pkR HO_773001.out))) (Kd.R_lt (pkR HO_773002.out))) (Kd.R_lt (pkR HO_781001.out))) (Kd.R_lt (pkR HO_781002.out))) (Kd.R_lt (pkR HO_790001.out))) (Kd.R_lt (pkR HO_790002.out))) (below_size (by repeat (first | (with_reducible first | exact HB.out | apply below_alloc | apply pw_below_drewN | apply below_drew1 | refine below_set ?_ GE755.out | refine below_set ?_ GE772.out | refine below_set ?_ GE780.out | refine below_set ?_ GE789.out) | exact HB.out))))
            have n8_ := Aside0.mk (blk_below (g := gb755) (o := .cells #[.int .i64 a0_0, .slice A0_1 l0_1.length c0_1, .slice A0_2 l0_2.length c0_2] 43 (0, 0)) (pkK BK755.out) hb)
            have n9_ := Aside0.mk (blk_below (g := gb772) (o := .cells #[.int .i64 t764, .slice Ao24 t765.length co24, .slice Ao25 t768.length co25] 46 (0, 0)) (pkK BK772.out) hb)
            have n10_ := Aside0.mk (blk_below (g := gb780) (o := .cells #[.int .i64 t773, .slice Ao32 t774.length co32, .slice Ao33 t777.length co33] 46 (0, 0)) (pkK BK780.out) hb)
            have n11_ := Aside0.mk (blk_below (g := gb789) (o := .cells #[.int .i64 t781, .slice Ao40 t782.length co40, .slice Ao41 t785.length co41] 46 (0, 0)) (pkK BK789.out) hb)
            have n12_ := Aside0.mk (below_step (by repeat (first | (with_reducible first | exact HB.out | apply below_alloc | apply pw_below_drewN | apply below_drew1 | refine below_set ?_ GE755.out | refine below_set ?_ GE772.out | refine below_set ?_ GE780.out | refine below_set ?_ GE789.out) | exact HB.out)) hb)
            clear HO_773001 HO_773002 HO_781001 HO_781002 HO_790001 HO_790002 BK755 BK772 BK780 BK789 HB
            have HO_773001 := n0_; have HO_773002 := n1_; have HO_781001 := n2_; have HO_781002 := n3_; have HO_790001 := n4_; have HO_790002 := n5_; have HO794 := n6_; have HO797 := n7_; have BK755 := n8_; have BK772 := n9_; have BK780 := n10_; have BK789 := n11_; have HB := n12_
            clear n0_ n1_ n2_ n3_ n4_ n5_ n6_ n7_ n8_ n9_ n10_ n11_ n12_
            (try clear hb); (try clear hb2); (try clear hk); (try clear hi); (try clear ho0); (try clear ho1)
            obtain ⟨Ao60, co60, eo60⟩ := Kd.R_slice HO794.out
            (first | subst eo60 | (injection eo60 with f1_ f2_ f3_; have f4_ := f1_.symm; have f5_ := f3_.symm; clear f1_ f2_ f3_; subst f4_; subst f5_))
            obtain ⟨Ao61, co61, eo61⟩ := Kd.R_slice HO797.out
            (first | subst eo61 | (injection eo61 with f1_ f2_ f3_; have f4_ := f1_.symm; have f5_ := f3_.symm; clear f1_ f2_ f3_; subst f4_; subst f5_))
            refine hK.out _ _ ⟨(blk_cell BK780.out 0).trans rfl, (blk_cell BK780.out 1).trans rfl, (blk_cell BK780.out 2).trans rfl, (blk_cell BK755.out 0).trans rfl, (blk_cell BK755.out 1).trans rfl, (blk_cell BK755.out 2).trans rfl⟩ (fun hHeld => ?_)
            clear hK K
            refine norm_ (a' := ?_) ?_ ?_
            rotate_left
            · show Act.put _ (some 47) _ = _
              simp only [Act.put, List.setIfInBounds_toArray, List.set_cons_zero, List.set_cons_succ, i64_w, i32_w]
              rfl
            refine one_ (i := 3) (N := some 48) #[true, true, true, true, false] rfl rfl (by kernel_rfl) (by decide) (fun K hK => ?_)
            refine goes_ Try.func27 (by kernel_rfl) rfl #[.agg #[.int .i64 t773, .slice Ao32 t774.length co32, .slice Ao33 t777.length co33], .agg #[.int .i64 t791, .slice Ao60 t792.length co60, .slice Ao61 t795.length co61]] (by rfl) rfl rfl (by (try simp only [List.map_toArray, List.map_cons, List.map_nil]); first | done | rfl | (simp only [List.length_drop, List.length_take]; rfl) | (go_simp; done) | (simp [*]; done)) ?_
            with_reducible refine (laws_eqLatch.calls kj11 t773 _ _ t774 _ _ t777 t791 _ _ t792 _ _ t795 true _ ?side1 ?side2 ?side3 ?side4 ?side5 ?side6 ?side7 ?side8 A54.out).mono ?_
            (case side1 => exact pkC (Kd.R_reads' HO_781001.out).2.2)
            (case side2 => exact (Kd.R_reads' HO_781001.out).2.1)
            (case side3 => exact pkC (Kd.R_reads' HO_781002.out).2.2)
            (case side4 => exact (Kd.R_reads' HO_781002.out).2.1)
            (case side5 => exact pkC (Kd.R_reads' HO794.out).2.2)
            (case side6 => exact (Kd.R_reads' HO794.out).2.1)
            (case side7 => exact pkC (Kd.R_reads' HO797.out).2.2)
            (case side8 => exact (Kd.R_reads' HO797.out).2.1)
            rintro e w62 ⟨rfl, hb⟩
            refine ⟨_, rfl, ?_⟩
            have n0_ := Aside0.mk (Kd.R_below (pkR HO_773001.out) hb)
            have n1_ := Aside0.mk (Kd.R_below (pkR HO_773002.out) hb)
            have n2_ := Aside0.mk (Kd.R_below (pkR HO_781001.out) hb)
            have n3_ := Aside0.mk (Kd.R_below (pkR HO_781002.out) hb)
            have n4_ := Aside0.mk (Kd.R_below (pkR HO_790001.out) hb)
            have n5_ := Aside0.mk (Kd.R_below (pkR HO_790002.out) hb)
            have n6_ := Aside0.mk (Kd.R_below (pkR HO794.out) hb)
            have n7_ := Aside0.mk (Kd.R_below (pkR HO797.out) hb)
            have n8_ := Aside0.mk (blk_below (g := gb755) (o := .cells #[.int .i64 a0_0, .slice A0_1 l0_1.length c0_1, .slice A0_2 l0_2.length c0_2] 43 (0, 0)) (pkK BK755.out) hb)
            have n9_ := Aside0.mk (blk_below (g := gb772) (o := .cells #[.int .i64 t764, .slice Ao24 t765.length co24, .slice Ao25 t768.length co25] 46 (0, 0)) (pkK BK772.out) hb)
            have n10_ := Aside0.mk (blk_below (g := gb780) (o := .cells #[.int .i64 t773, .slice Ao32 t774.length co32, .slice Ao33 t777.length co33] 46 (0, 0)) (pkK BK780.out) hb)
            have n11_ := Aside0.mk (blk_below (g := gb789) (o := .cells #[.int .i64 t781, .slice Ao40 t782.length co40, .slice Ao41 t785.length co41] 46 (0, 0)) (pkK BK789.out) hb)
            have n12_ := Aside0.mk (below_step (by repeat (first | (with_reducible first | exact HB.out | apply below_alloc | apply pw_below_drewN | apply below_drew1 | refine below_set ?_ GE755.out | refine below_set ?_ GE772.out | refine below_set ?_ GE780.out | refine below_set ?_ GE789.out) | exact HB.out)) hb)
            clear HO_773001 HO_773002 HO_781001 HO_781002 HO_790001 HO_790002 HO794 HO797 BK755 BK772 BK780 BK789 HB
            have HO_773001 := n0_; have HO_773002 := n1_; have HO_781001 := n2_; have HO_781002 := n3_; have HO_790001 := n4_; have HO_790002 := n5_; have HO794 := n6_; have HO797 := n7_; have BK755 := n8_; have BK772 := n9_; have BK780 := n10_; have BK789 := n11_; have HB := n12_
            clear n0_ n1_ n2_ n3_ n4_ n5_ n6_ n7_ n8_ n9_ n10_ n11_ n12_
            (try clear hb); (try clear hb2); (try clear hk); (try clear hi)
            refine hK.out _ _ ⟨(blk_cell BK780.out 0).trans rfl, (blk_cell BK780.out 1).trans rfl, (blk_cell BK780.out 2).trans rfl, (blk_cell BK755.out 0).trans rfl, (blk_cell BK755.out 1).trans rfl, (blk_cell BK755.out 2).trans rfl⟩ (fun hHeld => ?_)
            clear hK K
            refine norm_ (a' := ?_) ?_ ?_
            rotate_left
            · show Act.put _ (some 48) _ = _
              simp only [Act.put, List.setIfInBounds_toArray, List.set_cons_zero, List.set_cons_succ, i64_w, i32_w]
              rfl
            refine pure_ (i := 4) (N := some 49) (v := ?_) (a' := ?_) #[true, true, true, true, true] rfl rfl (by kernel_rfl) (fun _ _ _ h => h) (Or.inl ⟨by rfl, ?_⟩) ?_ ?_
            rotate_left
            · intro w'
              go_simp
              with_reducible rfl
            rotate_left
            · simp only [Act.put, List.setIfInBounds_toArray, List.set_cons_zero, List.set_cons_succ, i64_w, i32_w]
              rfl
            refine done_ (by kernel_rfl) ?_
            have hnb63 := NB780_755.out
            have hnc63 := NB755_780.out
            have hnb64 := NB780_772.out
            have hnc64 := NB772_780.out
            have hnb65 := NB780_789.out
            have hnc65 := NB789_780.out
            have hcz66_0 : w62.cell? ⟨gb780, 0, none⟩ = some (.int .i64 t773) := (blk_cell BK780.out 0).trans rfl
            have hcz66_1 : w62.cell? ⟨gb780, 1, none⟩ = some (.slice Ao32 t774.length co32) := (blk_cell BK780.out 1).trans rfl
            have hcz66_2 : w62.cell? ⟨gb780, 2, none⟩ = some (.slice Ao33 t777.length co33) := (blk_cell BK780.out 2).trans rfl
            have hfz66_0 := blk_frozen BK780.out 0
            have hfz66_1 := blk_frozen BK780.out 1
            have hfz66_2 := blk_frozen BK780.out 2
            go_upto_region 14 with (first | ((with_reducible refine gate_callee (f := 36) rfl ?_); refine goesL_ (some 52) rfl rfl Try.func36 (by kernel_rfl) rfl #[.agg #[.int .i64 t773, .slice Ao32 t774.length co32, .slice Ao33 t777.length co33], .int .i64 1] rfl (by (try simp only [List.map_toArray, List.map_cons, List.map_nil]); first | done | rfl | (simp only [List.length_drop, List.length_take]; rfl) | (go_simp; done) | (simp [*]; done)) ?_; (with_reducible refine (laws_markLatch.calls kj11 t773 (fun k_ => some k_ = (.slice Ao32 t774.length co32 : Value).ownBlock) (.slice Ao32 t774.length co32) t774 (fun k_ => some k_ = (.slice Ao33 t777.length co33 : Value).ownBlock) (.slice Ao33 t777.length co33) t777 1 t799 t800 t801 w _ ?side1 ?side2 ?side3 ?side4 ?side5 A56.out).mono ?_); (case side1 => repeat (first | (with_reducible first | exact HB.out | apply below_alloc | apply pw_below_drewN | apply below_drew1 | refine below_set ?_ GE755.out | refine below_set ?_ GE772.out | refine below_set ?_ GE780.out | refine below_set ?_ GE789.out) | exact HB.out)); (case side2 => exact Kd.R_tight rfl HO_781001.out); (case side3 => exact fun k_ e_ => (HO_781001.out.1 k_ e_.symm).1.1.2.2.1); (case side4 => exact Kd.R_tight rfl HO_781002.out); (case side5 => exact fun k_ e_ => (HO_781002.out.1 k_ e_.symm).1.1.2.2.1); rintro e w67 ⟨rfl, hy0, hy1, hb, hkp⟩; refine ⟨_, rfl, ?_⟩; have n0_ := Aside0.mk (Kd.R_mono (ok' := fun k_ => some k_ ≠ (.slice Ao25 t768.length co25 : Value).ownBlock ∧ some k_ ≠ (.slice Ao32 t774.length co32 : Value).ownBlock ∧ some k_ ≠ (.slice Ao33 t777.length co33 : Value).ownBlock ∧ some k_ ≠ (.slice Ao40 t782.length co40 : Value).ownBlock ∧ some k_ ≠ (.slice Ao41 t785.length co41 : Value).ownBlock ∧ some k_ ≠ (.slice Ao60 t792.length co60 : Value).ownBlock ∧ some k_ ≠ (.slice Ao61 t795.length co61 : Value).ownBlock) (Kd.R_keptB (HO_773001.out) hkp (fun k_ hk_ hs_ => Or.elim hs_ (fun e_ => (hk_.1.1.2.1) e_) (fun e_ => (hk_.1.1.2.2.1) e_))) (fun k_ hk_ => ⟨hk_.1.1.1.1, hk_.1.1.1.2.1, hk_.1.1.1.2.2.1, hk_.1.1.1.2.2.2.1, hk_.1.1.1.2.2.2.2, hk_.1.1.2, hk_.1.2⟩)); have n1_ := Aside0.mk (Kd.R_mono (ok' := fun k_ => some k_ ≠ (.slice Ao24 t765.length co24 : Value).ownBlock ∧ some k_ ≠ (.slice Ao32 t774.length co32 : Value).ownBlock ∧ some k_ ≠ (.slice Ao33 t777.length co33 : Value).ownBlock ∧ some k_ ≠ (.slice Ao40 t782.length co40 : Value).ownBlock ∧ some k_ ≠ (.slice Ao41 t785.length co41 : Value).ownBlock ∧ some k_ ≠ (.slice Ao60 t792.length co60 : Value).ownBlock ∧ some k_ ≠ (.slice Ao61 t795.length co61 : Value).ownBlock) (Kd.R_keptB (HO_773002.out) hkp (fun k_ hk_ hs_ => Or.elim hs_ (fun e_ => (hk_.1.1.2.1) e_) (fun e_ => (hk_.1.1.2.2.1) e_))) (fun k_ hk_ => ⟨hk_.1.1.1.1, hk_.1.1.1.2.1, hk_.1.1.1.2.2.1, hk_.1.1.1.2.2.2.1, hk_.1.1.1.2.2.2.2, hk_.1.1.2, hk_.1.2⟩)); have n2_ := Aside0.mk (Kd.R_reok rfl hy0 (fun k_ e_ => HO_781001.out.1 k_ e_)); have n3_ := Aside0.mk (Kd.R_reok rfl hy1 (fun k_ e_ => HO_781002.out.1 k_ e_)); have n4_ := Aside0.mk (Kd.R_mono (ok' := fun k_ => some k_ ≠ (.slice Ao24 t765.length co24 : Value).ownBlock ∧ some k_ ≠ (.slice Ao25 t768.length co25 : Value).ownBlock ∧ some k_ ≠ (.slice Ao32 t774.length co32 : Value).ownBlock ∧ some k_ ≠ (.slice Ao33 t777.length co33 : Value).ownBlock ∧ some k_ ≠ (.slice Ao41 t785.length co41 : Value).ownBlock ∧ some k_ ≠ (.slice Ao60 t792.length co60 : Value).ownBlock ∧ some k_ ≠ (.slice Ao61 t795.length co61 : Value).ownBlock) (Kd.R_keptB (HO_790001.out) hkp (fun k_ hk_ hs_ => Or.elim hs_ (fun e_ => (hk_.1.1.2.2.1) e_) (fun e_ => (hk_.1.1.2.2.2.1) e_))) (fun k_ hk_ => ⟨hk_.1.1.1.1, hk_.1.1.1.2.1, hk_.1.1.1.2.2.1, hk_.1.1.1.2.2.2.1, hk_.1.1.1.2.2.2.2, hk_.1.1.2, hk_.1.2⟩)); have n5_ := Aside0.mk (Kd.R_mono (ok' := fun k_ => some k_ ≠ (.slice Ao24 t765.length co24 : Value).ownBlock ∧ some k_ ≠ (.slice Ao25 t768.length co25 : Value).ownBlock ∧ some k_ ≠ (.slice Ao32 t774.length co32 : Value).ownBlock ∧ some k_ ≠ (.slice Ao33 t777.length co33 : Value).ownBlock ∧ some k_ ≠ (.slice Ao40 t782.length co40 : Value).ownBlock ∧ some k_ ≠ (.slice Ao60 t792.length co60 : Value).ownBlock ∧ some k_ ≠ (.slice Ao61 t795.length co61 : Value).ownBlock) (Kd.R_keptB (HO_790002.out) hkp (fun k_ hk_ hs_ => Or.elim hs_ (fun e_ => (hk_.1.1.2.2.1) e_) (fun e_ => (hk_.1.1.2.2.2.1) e_))) (fun k_ hk_ => ⟨hk_.1.1.1.1, hk_.1.1.1.2.1, hk_.1.1.1.2.2.1, hk_.1.1.1.2.2.2.1, hk_.1.1.1.2.2.2.2, hk_.1.1.2, hk_.1.2⟩)); have n6_ := Aside0.mk (blk_kept (pkK BK755.out) hkp (fun hs_ => Or.elim hs_ (fun e_ => (fun e_ => (Kd.R_ne HO_781001.out BK755.out (by decide)) e_) e_) (fun e_ => (fun e_ => (Kd.R_ne HO_781002.out BK755.out (by decide)) e_) e_))); have n7_ := Aside0.mk (blk_kept (pkK BK772.out) hkp (fun hs_ => Or.elim hs_ (fun e_ => (fun e_ => (Kd.R_ne HO_781001.out BK772.out (by decide)) e_) e_) (fun e_ => (fun e_ => (Kd.R_ne HO_781002.out BK772.out (by decide)) e_) e_))); have n8_ := Aside0.mk (blk_kept (pkK BK780.out) hkp (fun hs_ => Or.elim hs_ (fun e_ => (fun e_ => (Kd.R_ne HO_781001.out BK780.out (by decide)) e_) e_) (fun e_ => (fun e_ => (Kd.R_ne HO_781002.out BK780.out (by decide)) e_) e_))); have n9_ := Aside0.mk (blk_kept (pkK BK789.out) hkp (fun hs_ => Or.elim hs_ (fun e_ => (fun e_ => (Kd.R_ne HO_781001.out BK789.out (by decide)) e_) e_) (fun e_ => (fun e_ => (Kd.R_ne HO_781002.out BK789.out (by decide)) e_) e_))); have n10_ := Aside0.mk (Kd.R_mono (ok' := fun k_ => some k_ ≠ (.slice Ao24 t765.length co24 : Value).ownBlock ∧ some k_ ≠ (.slice Ao25 t768.length co25 : Value).ownBlock ∧ some k_ ≠ (.slice Ao32 t774.length co32 : Value).ownBlock ∧ some k_ ≠ (.slice Ao33 t777.length co33 : Value).ownBlock ∧ some k_ ≠ (.slice Ao40 t782.length co40 : Value).ownBlock ∧ some k_ ≠ (.slice Ao41 t785.length co41 : Value).ownBlock ∧ some k_ ≠ (.slice Ao61 t795.length co61 : Value).ownBlock) (Kd.R_keptB (HO794.out) hkp (fun k_ hk_ hs_ => Or.elim hs_ (fun e_ => (hk_.1.1.1.2) e_) (fun e_ => (hk_.1.1.2) e_))) (fun k_ hk_ => ⟨hk_.1.1.1.1.1.1.2, hk_.1.1.1.1.1.2, hk_.1.1.1.1.2, hk_.1.1.1.2, hk_.1.1.2, hk_.1.2, hk_.1.1.1.1.1.1.1⟩)); have n11_ := Aside0.mk (Kd.R_mono (ok' := fun k_ => some k_ ≠ (.slice Ao24 t765.length co24 : Value).ownBlock ∧ some k_ ≠ (.slice Ao25 t768.length co25 : Value).ownBlock ∧ some k_ ≠ (.slice Ao32 t774.length co32 : Value).ownBlock ∧ some k_ ≠ (.slice Ao33 t777.length co33 : Value).ownBlock ∧ some k_ ≠ (.slice Ao40 t782.length co40 : Value).ownBlock ∧ some k_ ≠ (.slice Ao41 t785.length co41 : Value).ownBlock ∧ some k_ ≠ (.slice Ao60 t792.length co60 : Value).ownBlock) (Kd.R_keptB (HO797.out) hkp (fun k_ hk_ hs_ => Or.elim hs_ (fun e_ => (hk_.1.1.1.2) e_) (fun e_ => (hk_.1.1.2) e_))) (fun k_ hk_ => ⟨hk_.1.1.1.1.1.1.2, hk_.1.1.1.1.1.2, hk_.1.1.1.1.2, hk_.1.1.1.2, hk_.1.1.2, hk_.1.2, hk_.1.1.1.1.1.1.1⟩)); have n12_ := Aside0.mk (hb); clear HO_773001 HO_773002 HO_781001 HO_781002 HO_790001 HO_790002 BK755 BK772 BK780 BK789 HO794 HO797 HB; have HO_773001 := n0_; have HO_773002 := n1_; have HO_781001 := n2_; have HO_781002 := n3_; have HO_790001 := n4_; have HO_790002 := n5_; have BK755 := n6_; have BK772 := n7_; have BK780 := n8_; have BK789 := n9_; have HO794 := n10_; have HO797 := n11_; have HB := n12_; clear n0_ n1_ n2_ n3_ n4_ n5_ n6_ n7_ n8_ n9_ n10_ n11_ n12_; (try clear hb); (try clear hkp); (try clear hy0); (try clear hy1)))
            (try simp only [Act.put, List.setIfInBounds_toArray, List.set_cons_zero, List.set_cons_succ])
            go_cut [65] (fun v65 wc => ∃ (kq : Nat) (x65_56 : Bool), v65 = .bool x65_56 ∧ Aside0 (laws_FnExactPassLatch.j1 kq a1 t771 x65_56 a0_0 l0_1 l0_2 t764 t765 t768 t781 t782 t785 = some r) ∧ Aside0 (kq ≤ kj11) ∧ Aside0 (Kd.R (Kd.int .i64) 3 wc w.heap.size (fun k_ => some k_ ≠ ((.slice Ao25 t768.length co25) : Value).ownBlock ∧ some k_ ≠ ((.slice Ao32 t774.length co32) : Value).ownBlock ∧ some k_ ≠ ((.slice Ao33 t777.length co33) : Value).ownBlock ∧ some k_ ≠ ((.slice Ao40 t782.length co40) : Value).ownBlock ∧ some k_ ≠ ((.slice Ao41 t785.length co41) : Value).ownBlock) (.slice Ao24 t765.length co24) t765) ∧ Aside0 (Kd.R (Kd.int .i64) 3 wc w.heap.size (fun k_ => some k_ ≠ ((.slice Ao24 t765.length co24) : Value).ownBlock ∧ some k_ ≠ ((.slice Ao32 t774.length co32) : Value).ownBlock ∧ some k_ ≠ ((.slice Ao33 t777.length co33) : Value).ownBlock ∧ some k_ ≠ ((.slice Ao40 t782.length co40) : Value).ownBlock ∧ some k_ ≠ ((.slice Ao41 t785.length co41) : Value).ownBlock) (.slice Ao25 t768.length co25) t768) ∧ Aside0 (Kd.R (Kd.int .i64) 3 wc w.heap.size (fun k_ => some k_ ≠ ((.slice Ao24 t765.length co24) : Value).ownBlock ∧ some k_ ≠ ((.slice Ao25 t768.length co25) : Value).ownBlock ∧ some k_ ≠ ((.slice Ao33 t777.length co33) : Value).ownBlock ∧ some k_ ≠ ((.slice Ao40 t782.length co40) : Value).ownBlock ∧ some k_ ≠ ((.slice Ao41 t785.length co41) : Value).ownBlock) (.slice Ao32 t774.length co32) t800) ∧ Aside0 (Kd.R (Kd.int .i64) 3 wc w.heap.size (fun k_ => some k_ ≠ ((.slice Ao24 t765.length co24) : Value).ownBlock ∧ some k_ ≠ ((.slice Ao25 t768.length co25) : Value).ownBlock ∧ some k_ ≠ ((.slice Ao32 t774.length co32) : Value).ownBlock ∧ some k_ ≠ ((.slice Ao40 t782.length co40) : Value).ownBlock ∧ some k_ ≠ ((.slice Ao41 t785.length co41) : Value).ownBlock) (.slice Ao33 t777.length co33) t801) ∧ Aside0 (Kd.R (Kd.int .i64) 3 wc w.heap.size (fun k_ => some k_ ≠ ((.slice Ao24 t765.length co24) : Value).ownBlock ∧ some k_ ≠ ((.slice Ao25 t768.length co25) : Value).ownBlock ∧ some k_ ≠ ((.slice Ao32 t774.length co32) : Value).ownBlock ∧ some k_ ≠ ((.slice Ao33 t777.length co33) : Value).ownBlock ∧ some k_ ≠ ((.slice Ao41 t785.length co41) : Value).ownBlock) (.slice Ao40 t782.length co40) t782) ∧ Aside0 (Kd.R (Kd.int .i64) 3 wc w.heap.size (fun k_ => some k_ ≠ ((.slice Ao24 t765.length co24) : Value).ownBlock ∧ some k_ ≠ ((.slice Ao25 t768.length co25) : Value).ownBlock ∧ some k_ ≠ ((.slice Ao32 t774.length co32) : Value).ownBlock ∧ some k_ ≠ ((.slice Ao33 t777.length co33) : Value).ownBlock ∧ some k_ ≠ ((.slice Ao40 t782.length co40) : Value).ownBlock) (.slice Ao41 t785.length co41) t785) ∧ Aside0 (wc.heap[gb755]? = some (.cells #[.int .i64 a0_0, (.slice A0_1 l0_1.length c0_1), (.slice A0_2 l0_2.length c0_2)] 43 (0, 0))) ∧ Aside0 (wc.heap[gb772]? = some (.cells #[.int .i64 t764, (.slice Ao24 t765.length co24), (.slice Ao25 t768.length co25)] 46 (0, 0))) ∧ Aside0 (wc.heap[gb780]? = some (.cells #[.int .i64 t773, (.slice Ao32 t774.length co32), (.slice Ao33 t777.length co33)] 46 (0, 0))) ∧ Aside0 (wc.heap[gb789]? = some (.cells #[.int .i64 t781, (.slice Ao40 t782.length co40), (.slice Ao41 t785.length co41)] 46 (0, 0))) ∧ Aside0 (Below w.heap.size w wc))
            case first =>
              have H := HC57.out
              clear HC57
              by_cases c68 : t799 < 0
              · rw [if_pos c68] at H
                have c68b0 : decide (t799 < 0) = true := decide_eq_true c68
                clear c68
                (first | rw [c68b0] | (simp only [i64_w, i32_w]; rw [c68b0]) | skip)
                cases kj11 with
                | zero => exact absurd H (by simp [laws_FnExactPassLatch.j1])
                | succ k_ => (simp only [laws_FnExactPassLatch.j1, if_pos] at H; exact absurd (Option.some.inj H) (by rw [HQ_.out]; simp))
              · rw [if_neg c68] at H
                have c68b0 : decide (t799 < 0) = false := decide_eq_false c68
                clear c68
                (first | rw [c68b0] | (simp only [i64_w, i32_w]; rw [c68b0]) | skip)
                replace H := Option.bind_eq_some_iff.mp H
                obtain ⟨t802, A690, H⟩ := H
                replace H : (if t802 = true then (laws_FnExactPassLatch.j1 kj11 a1 t771 (t788 != t771) a0_0 l0_1 l0_2 t764 t765 t768 t781 t782 t785) else (laws_FnExactPassLatch.j1 kj11 a1 t771 true a0_0 l0_1 l0_2 t764 t765 t768 t781 t782 t785)) = some r := H
                have A69 := Aside0.mk A690
                clear A690
                by_cases c70 : t802 = true
                · subst c70
                  have H1 : (laws_FnExactPassLatch.j1 kj11 a1 t771 (t788 != t771) a0_0 l0_1 l0_2 t764 t765 t768 t781 t782 t785) = some r := by rw [if_pos rfl] at H; exact H
                  clear H
                  have H := H1
                  clear H1
                  have H' := Aside0.mk H
                  clear H
                  have hnb71 := NB789_755.out
                  have hnc71 := NB755_789.out
                  have hnb72 := NB789_772.out
                  have hnc72 := NB772_789.out
                  have hnb73 := NB789_780.out
                  have hnc73 := NB780_789.out
                  have hcz74_0 : w67.cell? ⟨gb789, 0, none⟩ = some (.int .i64 t781) := (blk_cell BK789.out 0).trans rfl
                  have hcz74_1 : w67.cell? ⟨gb789, 1, none⟩ = some (.slice Ao40 t782.length co40) := (blk_cell BK789.out 1).trans rfl
                  have hcz74_2 : w67.cell? ⟨gb789, 2, none⟩ = some (.slice Ao41 t785.length co41) := (blk_cell BK789.out 2).trans rfl
                  have hfz74_0 := blk_frozen BK789.out 0
                  have hfz74_1 := blk_frozen BK789.out 1
                  have hfz74_2 := blk_frozen BK789.out 2
                  have hnb75 := NB772_755.out
                  have hnc75 := NB755_772.out
                  have hnb76 := NB772_780.out
                  have hnc76 := NB780_772.out
                  have hcz77_0 : w67.cell? ⟨gb772, 0, none⟩ = some (.int .i64 t764) := (blk_cell BK772.out 0).trans rfl
                  have hcz77_1 : w67.cell? ⟨gb772, 1, none⟩ = some (.slice Ao24 t765.length co24) := (blk_cell BK772.out 1).trans rfl
                  have hcz77_2 : w67.cell? ⟨gb772, 2, none⟩ = some (.slice Ao25 t768.length co25) := (blk_cell BK772.out 2).trans rfl
                  have hfz77_0 := blk_frozen BK772.out 0
                  have hfz77_1 := blk_frozen BK772.out 1
                  have hfz77_2 := blk_frozen BK772.out 2
                  go_wp2_with (first | (go_at_call 27; (with_reducible refine (laws_eqLatch.calls kj11 t781 _ _ t782 _ _ t785 t764 _ _ t765 _ _ t768 true _ ?side1 ?side2 ?side3 ?side4 ?side5 ?side6 ?side7 ?side8 A69.out).mono ?_); (case side1 => exact pkC (Kd.R_reads' HO_790001.out).2.2); (case side2 => exact (Kd.R_reads' HO_790001.out).2.1); (case side3 => exact pkC (Kd.R_reads' HO_790002.out).2.2); (case side4 => exact (Kd.R_reads' HO_790002.out).2.1); (case side5 => exact pkC (Kd.R_reads' HO_773001.out).2.2); (case side6 => exact (Kd.R_reads' HO_773001.out).2.1); (case side7 => exact pkC (Kd.R_reads' HO_773002.out).2.2); (case side8 => exact (Kd.R_reads' HO_773002.out).2.1); rintro e w78 ⟨rfl, hb⟩; have n0_ := Aside0.mk (Kd.R_below (pkR HO_773001.out) hb); have n1_ := Aside0.mk (Kd.R_below (pkR HO_773002.out) hb); have n2_ := Aside0.mk (Kd.R_below (pkR HO_781001.out) hb); have n3_ := Aside0.mk (Kd.R_below (pkR HO_781002.out) hb); have n4_ := Aside0.mk (Kd.R_below (pkR HO_790001.out) hb); have n5_ := Aside0.mk (Kd.R_below (pkR HO_790002.out) hb); have n6_ := Aside0.mk (Kd.R_below (pkR HO794.out) hb); have n7_ := Aside0.mk (Kd.R_below (pkR HO797.out) hb); have n8_ := Aside0.mk (blk_below (g := gb755) (o := .cells #[.int .i64 a0_0, .slice A0_1 l0_1.length c0_1, .slice A0_2 l0_2.length c0_2] 43 (0, 0)) (pkK BK755.out) hb); have n9_ := Aside0.mk (blk_below (g := gb772) (o := .cells #[.int .i64 t764, .slice Ao24 t765.length co24, .slice Ao25 t768.length co25] 46 (0, 0)) (pkK BK772.out) hb); have n10_ := Aside0.mk (blk_below (g := gb780) (o := .cells #[.int .i64 t773, .slice Ao32 t774.length co32, .slice Ao33 t777.length co33] 46 (0, 0)) (pkK BK780.out) hb); have n11_ := Aside0.mk (blk_below (g := gb789) (o := .cells #[.int .i64 t781, .slice Ao40 t782.length co40, .slice Ao41 t785.length co41] 46 (0, 0)) (pkK BK789.out) hb); have n12_ := Aside0.mk (below_step (by repeat (first | (with_reducible first | exact HB.out | apply below_alloc | apply pw_below_drewN | apply below_drew1 | refine below_set ?_ GE755.out | refine below_set ?_ GE772.out | refine below_set ?_ GE780.out | refine below_set ?_ GE789.out) | exact HB.out)) hb); clear HO_773001 HO_773002 HO_781001 HO_781002 HO_790001 HO_790002 HO794 HO797 BK755 BK772 BK780 BK789 HB; have HO_773001 := n0_; have HO_773002 := n1_; have HO_781001 := n2_; have HO_781002 := n3_; have HO_790001 := n4_; have HO_790002 := n5_; have HO794 := n6_; have HO797 := n7_; have BK755 := n8_; have BK772 := n9_; have BK780 := n10_; have BK789 := n11_; have HB := n12_; clear n0_ n1_ n2_ n3_ n4_ n5_ n6_ n7_ n8_ n9_ n10_ n11_ n12_; (try clear hb); (try clear hb2); (try clear hk); (try clear hi)))
                  go_meet
                  case rel => exact ⟨_, ((t788 != t771)), (by first | rfl | (simp; done) | (simp [*]; done)), H', ⟨by have := HJ11.out; first | omega | exact Nat.le_refl _⟩, ⟨by (with_reducible repeat (first | apply Kd.R_alloc | apply Kd.R_drewN | apply Kd.R_drew)); exact Kd.R_mono HO_773001.out (fun _ hk => ⟨hk.1, ⟨hk.2.1, ⟨hk.2.2.1, ⟨hk.2.2.2.1, hk.2.2.2.2.1⟩⟩⟩⟩)⟩, ⟨by (with_reducible repeat (first | apply Kd.R_alloc | apply Kd.R_drewN | apply Kd.R_drew)); exact Kd.R_mono HO_773002.out (fun _ hk => ⟨hk.1, ⟨hk.2.1, ⟨hk.2.2.1, ⟨hk.2.2.2.1, hk.2.2.2.2.1⟩⟩⟩⟩)⟩, ⟨by (with_reducible repeat (first | apply Kd.R_alloc | apply Kd.R_drewN | apply Kd.R_drew)); exact Kd.R_mono HO_781001.out (fun _ hk => ⟨hk.1.1.1, ⟨hk.1.1.2.1, ⟨hk.1.1.2.2.1, ⟨hk.1.1.2.2.2.1, hk.1.1.2.2.2.2⟩⟩⟩⟩)⟩, ⟨by (with_reducible repeat (first | apply Kd.R_alloc | apply Kd.R_drewN | apply Kd.R_drew)); exact Kd.R_mono HO_781002.out (fun _ hk => ⟨hk.1.1.1, ⟨hk.1.1.2.1, ⟨hk.1.1.2.2.1, ⟨hk.1.1.2.2.2.1, hk.1.1.2.2.2.2⟩⟩⟩⟩)⟩, ⟨by (with_reducible repeat (first | apply Kd.R_alloc | apply Kd.R_drewN | apply Kd.R_drew)); exact Kd.R_mono HO_790001.out (fun _ hk => ⟨hk.1, ⟨hk.2.1, ⟨hk.2.2.1, ⟨hk.2.2.2.1, hk.2.2.2.2.1⟩⟩⟩⟩)⟩, ⟨by (with_reducible repeat (first | apply Kd.R_alloc | apply Kd.R_drewN | apply Kd.R_drew)); exact Kd.R_mono HO_790002.out (fun _ hk => ⟨hk.1, ⟨hk.2.1, ⟨hk.2.2.1, ⟨hk.2.2.2.1, hk.2.2.2.2.1⟩⟩⟩⟩)⟩, ⟨pkK BK755.out⟩, ⟨pkK BK772.out⟩, ⟨pkK BK780.out⟩, ⟨pkK BK789.out⟩, ⟨by repeat (first | (with_reducible first | exact HB.out | apply below_alloc | apply pw_below_drewN | apply below_drew1 | refine below_set ?_ GE755.out | refine below_set ?_ GE772.out | refine below_set ?_ GE780.out | refine below_set ?_ GE789.out) | exact HB.out)⟩⟩
                · replace c70 := Bool.eq_false_iff.mpr c70
                  subst c70
                  have H1 : (laws_FnExactPassLatch.j1 kj11 a1 t771 true a0_0 l0_1 l0_2 t764 t765 t768 t781 t782 t785) = some r := by rw [if_neg (show ¬ (false = true) by decide)] at H; exact H
                  clear H
                  have H := H1
                  clear H1
                  cases kj11 with
                  | zero => exact absurd H (by simp [laws_FnExactPassLatch.j1])
                  | succ k_ => (simp only [laws_FnExactPassLatch.j1, if_pos] at H; exact absurd (Option.some.inj H) (by rw [HQ_.out]; simp))
            case rest =>
              clear HC57
              try clear c1
              try clear c2
              try clear p2
              try clear c3
              try clear c4
              try clear c4b0
              try clear c5
              try clear c6
              try clear c7
              try clear c10
              try clear c22
              try clear c23
              try clear c25
              try clear c27
              try clear c29
              try clear c30
              try clear c36
              try clear c37
              try clear c38
              try clear c42
              try clear c43
              try clear c44
              try clear c45
              try clear c46
              try clear c48
              try clear c49
              try clear c52
              try clear c55
              try clear c63
              try clear c64
              try clear c65
              try clear c68
              try clear c68b0
              try clear c70
              try clear c71
              try clear c72
              try clear c73
              try clear c75
              try clear c76
              try clear hcz14_0
              try clear hcz14_1
              try clear hcz14_2
              try clear hcz16_0
              try clear hcz16_1
              try clear hcz16_2
              try clear hcz23_0
              try clear hcz23_1
              try clear hcz23_2
              try clear hcz26_0
              try clear hcz26_1
              try clear hcz26_2
              try clear hcz31_0
              try clear hcz31_1
              try clear hcz31_2
              try clear hcz39_0
              try clear hcz39_1
              try clear hcz39_2
              try clear hcz47_0
              try clear hcz47_1
              try clear hcz47_2
              try clear hcz50_0
              try clear hcz50_1
              try clear hcz50_2
              try clear hcz66_0
              try clear hcz66_1
              try clear hcz66_2
              try clear hcz6_0
              try clear hcz6_1
              try clear hcz6_2
              try clear hcz74_0
              try clear hcz74_1
              try clear hcz74_2
              try clear hcz77_0
              try clear hcz77_1
              try clear hcz77_2
              try clear hfz14_0
              try clear hfz14_1
              try clear hfz14_2
              try clear hfz16_0
              try clear hfz16_1
              try clear hfz16_2
              try clear hfz23_0
              try clear hfz23_1
              try clear hfz23_2
              try clear hfz26_0
              try clear hfz26_1
              try clear hfz26_2
              try clear hfz31_0
              try clear hfz31_1
              try clear hfz31_2
              try clear hfz39_0
              try clear hfz39_1
              try clear hfz39_2
              try clear hfz47_0
              try clear hfz47_1
              try clear hfz47_2
              try clear hfz50_0
              try clear hfz50_1
              try clear hfz50_2
              try clear hfz66_0
              try clear hfz66_1
              try clear hfz66_2
              try clear hfz6_0
              try clear hfz6_1
              try clear hfz6_2
              try clear hfz74_0
              try clear hfz74_1
              try clear hfz74_2
              try clear hfz77_0
              try clear hfz77_1
              try clear hfz77_2
              try clear p2
              obtain ⟨kq, x65_56, rfl, HA, HJ56, HO_773001, HO_773002, HO_781001, HO_781002, HO_790001, HO_790002, BK755, BK772, BK780, BK789, HB⟩ := hcut
              have hl781001_56 := (Kd.R_reads' HO_781001.out).1
              rw [hl781001_56] at HO_781001
              (try simp only [hl781001_56])
              (try simp only [hl781001_56] at BK755)
              (try simp only [hl781001_56] at BK772)
              (try simp only [hl781001_56] at BK780)
              (try simp only [hl781001_56] at BK789)
              (try simp only [hl781001_56] at HO_773001)
              (try simp only [hl781001_56] at HO_773002)
              (try simp only [hl781001_56] at HO_781002)
              (try simp only [hl781001_56] at HO_790001)
              (try simp only [hl781001_56] at HO_790002)
              have hl781002_56 := (Kd.R_reads' HO_781002.out).1
              rw [hl781002_56] at HO_781002
              (try simp only [hl781002_56])
              (try simp only [hl781002_56] at BK755)
              (try simp only [hl781002_56] at BK772)
              (try simp only [hl781002_56] at BK780)
              (try simp only [hl781002_56] at BK789)
              (try simp only [hl781002_56] at HO_773001)
              (try simp only [hl781002_56] at HO_773002)
              (try simp only [hl781002_56] at HO_781001)
              (try simp only [hl781002_56] at HO_790001)
              (try simp only [hl781002_56] at HO_790002)
              cases kq with
              | zero => exact absurd HA.out (by simp [laws_FnExactPassLatch.j1])
              | succ kj56 =>
                have H := HA.out
                clear HA
                simp only [laws_FnExactPassLatch.j1] at H
                by_cases c79 : x65_56 = true
                · subst c79
                  have H1 : (some false) = some r := by rw [if_pos rfl] at H; exact H
                  clear H
                  have H := H1
                  clear H1
                  exact absurd (Option.some.inj H) (by rw [HQ_.out]; simp)
                · replace c79 := Bool.eq_false_iff.mpr c79
                  subst c79
                  have H1 : ((laws_markLatch.f kj56 t781 t782 t785 1).bind fun bt803 => ((laws_heldLatch.f kj56 t781 bt803.2.1 bt803.2.2 1).bind fun t806 => (if t806 < 0 then (some false) else (if t806 = bt803.1 then ((laws_toLatch.f kj56 a0_0 l0_1 l0_2).bind fun bt807 => ((impl_PassLatch.f kj56 bt807.1 bt807.2.1 bt807.2.2 a1).bind fun bt814 => ((laws_eqLatch.f kj56 bt814.1 bt814.2.1 bt814.2.2.1 t764 t765 t768).bind fun t823 => (if t823 = true then (laws_FnExactPassLatch.j2 kj56 bt803.1 (bt814.2.2.2 != t771) t781 bt803.2.1 bt803.2.2) else (laws_FnExactPassLatch.j2 kj56 bt803.1 true t781 bt803.2.1 bt803.2.2))))) else (some false))))) = some r := by rw [if_neg (show ¬ (false = true) by decide)] at H; exact H
                  clear H
                  have H := H1
                  clear H1
                  replace H := Option.bind_eq_some_iff.mp H
                  obtain ⟨⟨t803, t804, t805⟩, A800, H⟩ := H
                  replace H : ((laws_heldLatch.f kj56 t781 t804 t805 1).bind fun t806 => (if t806 < 0 then (some false) else (if t806 = t803 then ((laws_toLatch.f kj56 a0_0 l0_1 l0_2).bind fun bt807 => ((impl_PassLatch.f kj56 bt807.1 bt807.2.1 bt807.2.2 a1).bind fun bt814 => ((laws_eqLatch.f kj56 bt814.1 bt814.2.1 bt814.2.2.1 t764 t765 t768).bind fun t823 => (if t823 = true then (laws_FnExactPassLatch.j2 kj56 t803 (bt814.2.2.2 != t771) t781 t804 t805) else (laws_FnExactPassLatch.j2 kj56 t803 true t781 t804 t805))))) else (some false)))) = some r := H
                  have A80 := Aside0.mk A800
                  clear A800
                  replace H := Option.bind_eq_some_iff.mp H
                  obtain ⟨t806, A810, H⟩ := H
                  replace H : (if t806 < 0 then (some false) else (if t806 = t803 then ((laws_toLatch.f kj56 a0_0 l0_1 l0_2).bind fun bt807 => ((impl_PassLatch.f kj56 bt807.1 bt807.2.1 bt807.2.2 a1).bind fun bt814 => ((laws_eqLatch.f kj56 bt814.1 bt814.2.1 bt814.2.2.1 t764 t765 t768).bind fun t823 => (if t823 = true then (laws_FnExactPassLatch.j2 kj56 t803 (bt814.2.2.2 != t771) t781 t804 t805) else (laws_FnExactPassLatch.j2 kj56 t803 true t781 t804 t805))))) else (some false))) = some r := H
                  have A81 := Aside0.mk A810
                  clear A810
                  by_cases c82 : t806 < 0
                  · rw [if_pos c82] at H
                    have c82b0 : decide (t806 < 0) = true := decide_eq_true c82
                    clear c82
                    exact absurd (Option.some.inj H) (by rw [HQ_.out]; simp)
                  · rw [if_neg c82] at H
                    have c82b0 : decide (t806 < 0) = false := decide_eq_false c82
                    clear c82
                    by_cases c83 : t806 = t803
                    · rw [if_pos c83] at H
                      have c83b0 : (t806 == t803) = true := beq_iff_eq.mpr c83
                      have c83b1 : (t806 != t803) = false := bne_eq_false_iff_eq.mpr c83
                      clear c83
                      replace H := Option.bind_eq_some_iff.mp H
                      obtain ⟨⟨t807, t808, t811⟩, A840, H⟩ := H
                      replace H : ((impl_PassLatch.f kj56 t807 t808 t811 a1).bind fun bt814 => ((laws_eqLatch.f kj56 bt814.1 bt814.2.1 bt814.2.2.1 t764 t765 t768).bind fun t823 => (if t823 = true then (laws_FnExactPassLatch.j2 kj56 t803 (bt814.2.2.2 != t771) t781 t804 t805) else (laws_FnExactPassLatch.j2 kj56 t803 true t781 t804 t805)))) = some r := H
                      have A84 := Aside0.mk A840
                      clear A840
                      replace H := Option.bind_eq_some_iff.mp H
                      obtain ⟨⟨t814, t815, t818, t821⟩, A850, H⟩ := H
                      replace H : ((laws_eqLatch.f kj56 t814 t815 t818 t764 t765 t768).bind fun t823 => (if t823 = true then (laws_FnExactPassLatch.j2 kj56 t803 (t821 != t771) t781 t804 t805) else (laws_FnExactPassLatch.j2 kj56 t803 true t781 t804 t805))) = some r := H
                      have A85 := Aside0.mk A850
                      clear A850
                      have HC86 := Aside0.mk H
                      clear H
                      have hnb87 := NB789_755.out
                      have hnc87 := NB755_789.out
                      have hnb88 := NB789_772.out
                      have hnc88 := NB772_789.out
                      have hnb89 := NB789_780.out
                      have hnc89 := NB780_789.out
                      have hcz90_0 : wc.cell? ⟨gb789, 0, none⟩ = some (.int .i64 t781) := (blk_cell BK789.out 0).trans rfl
                      have hcz90_1 : wc.cell? ⟨gb789, 1, none⟩ = some (.slice Ao40 t782.length co40) := (blk_cell BK789.out 1).trans rfl
                      have hcz90_2 : wc.cell? ⟨gb789, 2, none⟩ = some (.slice Ao41 t785.length co41) := (blk_cell BK789.out 2).trans rfl
                      have hfz90_0 := blk_frozen BK789.out 0
                      have hfz90_1 := blk_frozen BK789.out 1
                      have hfz90_2 := blk_frozen BK789.out 2
                      go_upto_region 25 with (first | ((with_reducible refine gate_callee (f := 36) rfl ?_); refine goesL_ (some 68) rfl rfl Try.func36 (by kernel_rfl) rfl #[.agg #[.int .i64 t781, .slice Ao40 t782.length co40, .slice Ao41 t785.length co41], .int .i64 1] rfl (by (try simp only [List.map_toArray, List.map_cons, List.map_nil]); first | done | rfl | (simp only [List.length_drop, List.length_take]; rfl) | (go_simp; done) | (simp [*]; done)) ?_; (with_reducible refine (laws_markLatch.calls kj56 t781 (fun k_ => some k_ = (.slice Ao40 t782.length co40 : Value).ownBlock) (.slice Ao40 t782.length co40) t782 (fun k_ => some k_ = (.slice Ao41 t785.length co41 : Value).ownBlock) (.slice Ao41 t785.length co41) t785 1 t803 t804 t805 w _ ?side1 ?side2 ?side3 ?side4 ?side5 A80.out).mono ?_); (case side1 => repeat (first | (with_reducible first | exact HB.out | apply below_alloc | apply pw_below_drewN | apply below_drew1 | refine below_set ?_ GE755.out | refine below_set ?_ GE772.out | refine below_set ?_ GE780.out | refine below_set ?_ GE789.out) | exact HB.out)); (case side2 => exact Kd.R_tight rfl HO_790001.out); (case side3 => exact fun k_ e_ => (HO_790001.out.1 k_ e_.symm).2.2.2.2); (case side4 => exact Kd.R_tight rfl HO_790002.out); (case side5 => exact fun k_ e_ => (HO_790002.out.1 k_ e_.symm).2.2.2.2); rintro e w91 ⟨rfl, hy0, hy1, hb, hkp⟩; refine ⟨_, rfl, ?_⟩; have n0_ := Aside0.mk (Kd.R_mono (ok' := fun k_ => some k_ ≠ (.slice Ao25 t768.length co25 : Value).ownBlock ∧ some k_ ≠ (.slice Ao32 t800.length co32 : Value).ownBlock ∧ some k_ ≠ (.slice Ao33 t801.length co33 : Value).ownBlock ∧ some k_ ≠ (.slice Ao40 t782.length co40 : Value).ownBlock ∧ some k_ ≠ (.slice Ao41 t785.length co41 : Value).ownBlock) (Kd.R_keptB (HO_773001.out) hkp (fun k_ hk_ hs_ => Or.elim hs_ (fun e_ => (hk_.2.2.2.1) e_) (fun e_ => (hk_.2.2.2.2) e_))) (fun k_ hk_ => ⟨hk_.1.1, hk_.1.2.1, hk_.1.2.2.1, hk_.1.2.2.2.1, hk_.1.2.2.2.2⟩)); have n1_ := Aside0.mk (Kd.R_mono (ok' := fun k_ => some k_ ≠ (.slice Ao24 t765.length co24 : Value).ownBlock ∧ some k_ ≠ (.slice Ao32 t800.length co32 : Value).ownBlock ∧ some k_ ≠ (.slice Ao33 t801.length co33 : Value).ownBlock ∧ some k_ ≠ (.slice Ao40 t782.length co40 : Value).ownBlock ∧ some k_ ≠ (.slice Ao41 t785.length co41 : Value).ownBlock) (Kd.R_keptB (HO_773002.out) hkp (fun k_ hk_ hs_ => Or.elim hs_ (fun e_ => (hk_.2.2.2.1) e_) (fun e_ => (hk_.2.2.2.2) e_))) (fun k_ hk_ => ⟨hk_.1.1, hk_.1.2.1, hk_.1.2.2.1, hk_.1.2.2.2.1, hk_.1.2.2.2.2⟩)); have n2_ := Aside0.mk (Kd.R_mono (ok' := fun k_ => some k_ ≠ (.slice Ao24 t765.length co24 : Value).ownBlock ∧ some k_ ≠ (.slice Ao25 t768.length co25 : Value).ownBlock ∧ some k_ ≠ (.slice Ao33 t801.length co33 : Value).ownBlock ∧ some k_ ≠ (.slice Ao40 t782.length co40 : Value).ownBlock ∧ some k_ ≠ (.slice Ao41 t785.length co41 : Value).ownBlock) (Kd.R_keptB (HO_781001.out) hkp (fun k_ hk_ hs_ => Or.elim hs_ (fun e_ => (hk_.2.2.2.1) e_) (fun e_ => (hk_.2.2.2.2) e_))) (fun k_ hk_ => ⟨hk_.1.1, hk_.1.2.1, hk_.1.2.2.1, hk_.1.2.2.2.1, hk_.1.2.2.2.2⟩)); have n3_ := Aside0.mk (Kd.R_mono (ok' := fun k_ => some k_ ≠ (.slice Ao24 t765.length co24 : Value).ownBlock ∧ some k_ ≠ (.slice Ao25 t768.length co25 : Value).ownBlock ∧ some k_ ≠ (.slice Ao32 t800.length co32 : Value).ownBlock ∧ some k_ ≠ (.slice Ao40 t782.length co40 : Value).ownBlock ∧ some k_ ≠ (.slice Ao41 t785.length co41 : Value).ownBlock) (Kd.R_keptB (HO_781002.out) hkp (fun k_ hk_ hs_ => Or.elim hs_ (fun e_ => (hk_.2.2.2.1) e_) (fun e_ => (hk_.2.2.2.2) e_))) (fun k_ hk_ => ⟨hk_.1.1, hk_.1.2.1, hk_.1.2.2.1, hk_.1.2.2.2.1, hk_.1.2.2.2.2⟩)); have n4_ := Aside0.mk (Kd.R_reok rfl hy0 (fun k_ e_ => HO_790001.out.1 k_ e_)); have n5_ := Aside0.mk (Kd.R_reok rfl hy1 (fun k_ e_ => HO_790002.out.1 k_ e_)); have n6_ := Aside0.mk (blk_kept (pkK BK755.out) hkp (fun hs_ => Or.elim hs_ (fun e_ => (fun e_ => (Kd.R_ne HO_790001.out BK755.out (by decide)) e_) e_) (fun e_ => (fun e_ => (Kd.R_ne HO_790002.out BK755.out (by decide)) e_) e_))); have n7_ := Aside0.mk (blk_kept (pkK BK772.out) hkp (fun hs_ => Or.elim hs_ (fun e_ => (fun e_ => (Kd.R_ne HO_790001.out BK772.out (by decide)) e_) e_) (fun e_ => (fun e_ => (Kd.R_ne HO_790002.out BK772.out (by decide)) e_) e_))); have n8_ := Aside0.mk (blk_kept (pkK BK780.out) hkp (fun hs_ => Or.elim hs_ (fun e_ => (fun e_ => (Kd.R_ne HO_790001.out BK780.out (by decide)) e_) e_) (fun e_ => (fun e_ => (Kd.R_ne HO_790002.out BK780.out (by decide)) e_) e_))); have n9_ := Aside0.mk (blk_kept (pkK BK789.out) hkp (fun hs_ => Or.elim hs_ (fun e_ => (fun e_ => (Kd.R_ne HO_790001.out BK789.out (by decide)) e_) e_) (fun e_ => (fun e_ => (Kd.R_ne HO_790002.out BK789.out (by decide)) e_) e_))); have n10_ := Aside0.mk (hb); clear HO_773001 HO_773002 HO_781001 HO_781002 HO_790001 HO_790002 BK755 BK772 BK780 BK789 HB; have HO_773001 := n0_; have HO_773002 := n1_; have HO_781001 := n2_; have HO_781002 := n3_; have HO_790001 := n4_; have HO_790002 := n5_; have BK755 := n6_; have BK772 := n7_; have BK780 := n8_; have BK789 := n9_; have HB := n10_; clear n0_ n1_ n2_ n3_ n4_ n5_ n6_ n7_ n8_ n9_ n10_; (try clear hb); (try clear hkp); (try clear hy0); (try clear hy1); have hcz92_0 : w91.cell? ⟨gb789, 0, none⟩ = some (.int .i64 t781) := (blk_cell BK789.out 0).trans rfl; have hcz92_1 : w91.cell? ⟨gb789, 1, none⟩ = some (.slice Ao40 t782.length co40) := (blk_cell BK789.out 1).trans rfl; have hcz92_2 : w91.cell? ⟨gb789, 2, none⟩ = some (.slice Ao41 t785.length co41) := (blk_cell BK789.out 2).trans rfl; have hfz92_0 := blk_frozen BK789.out 0; have hfz92_1 := blk_frozen BK789.out 1; have hfz92_2 := blk_frozen BK789.out 2) | ((with_reducible refine gate_callee (f := 37) rfl ?_); refine goesL_ (some 71) rfl rfl Try.func37 (by kernel_rfl) rfl #[.agg #[.int .i64 t781, .slice Ao40 t804.length co40, .slice Ao41 t805.length co41], .int .i64 1] rfl (by (try simp only [List.map_toArray, List.map_cons, List.map_nil]); first | done | (rw [show t804.length = t782.length from (Kd.R_reads' HO_790001.out).1.symm, show t805.length = t785.length from (Kd.R_reads' HO_790002.out).1.symm] <;> rfl) | rfl | (simp only [List.length_drop, List.length_take]; rfl) | (go_simp; done) | (simp [*]; done)) ?_; (with_reducible refine (laws_heldLatch.calls kj56 t781 _ _ t804 _ _ t805 1 t806 _ ?side1 ?side2 ?side3 ?side4 A81.out).mono ?_); (case side1 => exact pkC (Kd.R_reads' HO_790001.out).2.2); (case side2 => rw [show t804.length = t782.length from (Kd.R_reads' HO_790001.out).1.symm]; exact (Kd.R_reads' HO_790001.out).2.1); (case side3 => exact pkC (Kd.R_reads' HO_790002.out).2.2); (case side4 => rw [show t805.length = t785.length from (Kd.R_reads' HO_790002.out).1.symm]; exact (Kd.R_reads' HO_790002.out).2.1); rintro e w93 ⟨rfl, hb⟩; refine ⟨_, rfl, ?_⟩; have n0_ := Aside0.mk (Kd.R_below (pkR HO_773001.out) hb); have n1_ := Aside0.mk (Kd.R_below (pkR HO_773002.out) hb); have n2_ := Aside0.mk (Kd.R_below (pkR HO_781001.out) hb); have n3_ := Aside0.mk (Kd.R_below (pkR HO_781002.out) hb); have n4_ := Aside0.mk (Kd.R_below (pkR HO_790001.out) hb); have n5_ := Aside0.mk (Kd.R_below (pkR HO_790002.out) hb); have n6_ := Aside0.mk (blk_below (g := gb755) (o := .cells #[.int .i64 a0_0, .slice A0_1 l0_1.length c0_1, .slice A0_2 l0_2.length c0_2] 43 (0, 0)) (pkK BK755.out) hb); have n7_ := Aside0.mk (blk_below (g := gb772) (o := .cells #[.int .i64 t764, .slice Ao24 t765.length co24, .slice Ao25 t768.length co25] 46 (0, 0)) (pkK BK772.out) hb); have n8_ := Aside0.mk (blk_below (g := gb780) (o := .cells #[.int .i64 t773, .slice Ao32 t800.length co32, .slice Ao33 t801.length co33] 46 (0, 0)) (pkK BK780.out) hb); have n9_ := Aside0.mk (blk_below (g := gb789) (o := .cells #[.int .i64 t781, .slice Ao40 t782.length co40, .slice Ao41 t785.length co41] 46 (0, 0)) (pkK BK789.out) hb); have n10_ := Aside0.mk (below_step (by repeat (first | (with_reducible first | exact HB.out | apply below_alloc | apply pw_below_drewN | apply below_drew1 | refine below_set ?_ GE755.out | refine below_set ?_ GE772.out | refine below_set ?_ GE780.out | refine below_set ?_ GE789.out) | exact HB.out)) hb); clear HO_773001 HO_773002 HO_781001 HO_781002 HO_790001 HO_790002 BK755 BK772 BK780 BK789 HB; have HO_773001 := n0_; have HO_773002 := n1_; have HO_781001 := n2_; have HO_781002 := n3_; have HO_790001 := n4_; have HO_790002 := n5_; have BK755 := n6_; have BK772 := n7_; have BK780 := n8_; have BK789 := n9_; have HB := n10_; clear n0_ n1_ n2_ n3_ n4_ n5_ n6_ n7_ n8_ n9_ n10_; (try clear hb); (try clear hb2); (try clear hk); (try clear hi); have hnb94 := NB755_772.out; have hnc94 := NB772_755.out; have hnb95 := NB755_780.out; have hnc95 := NB780_755.out; have hcz96_0 : w93.cell? ⟨gb755, 0, none⟩ = some (.int .i64 a0_0) := (blk_cell BK755.out 0).trans rfl; have hcz96_1 : w93.cell? ⟨gb755, 1, none⟩ = some (.slice A0_1 l0_1.length c0_1) := (blk_cell BK755.out 1).trans rfl; have hcz96_2 : w93.cell? ⟨gb755, 2, none⟩ = some (.slice A0_2 l0_2.length c0_2) := (blk_cell BK755.out 2).trans rfl; have hfz96_0 := blk_frozen BK755.out 0; have hfz96_1 := blk_frozen BK755.out 1; have hfz96_2 := blk_frozen BK755.out 2) | ((with_reducible refine gate_callee (f := 25) rfl ?_); refine goesL_ (some 79) rfl rfl Try.func25 (by kernel_rfl) rfl #[.agg #[.int .i64 a0_0, .slice A0_1 l0_1.length c0_1, .slice A0_2 l0_2.length c0_2]] rfl (by (try simp only [List.map_toArray, List.map_cons, List.map_nil]); first | done | rfl | (simp only [List.length_drop, List.length_take]; rfl) | (go_simp; done) | (simp [*]; done)) ?_; (with_reducible refine (laws_toLatch.calls kj56 a0_0 _ _ l0_1 _ _ l0_2 t807 t808 t811 _ ?side1 ?side2 ?side3 ?side4 A84.out).mono ?_); (case side1 => exact pkC (Kd.C_below HR0_1.out HB.out)); (case side2 => exact HC0_1.out); (case side3 => exact pkC (Kd.C_below HR0_2.out HB.out)); (case side4 => exact HC0_2.out); rintro e w97 ⟨v809, v812, rfl, ho0, ho1, hb⟩; refine ⟨_, rfl, ?_⟩; have n0_ := Aside0.mk (Kd.R_mono (Kd.R_told (Kd.R_told (Kd.R_old (pkR HO_773001.out) hb) (Kd.R_base ho0)) (Kd.R_base ho1)) (fun _ h_ => h_.1)); have n1_ := Aside0.mk (Kd.R_mono (Kd.R_told (Kd.R_told (Kd.R_old (pkR HO_773002.out) hb) (Kd.R_base ho0)) (Kd.R_base ho1)) (fun _ h_ => h_.1)); have n2_ := Aside0.mk (Kd.R_mono (Kd.R_told (Kd.R_told (Kd.R_old (pkR HO_781001.out) hb) (Kd.R_base ho0)) (Kd.R_base ho1)) (fun _ h_ => h_.1)); have n3_ := Aside0.mk (Kd.R_mono (Kd.R_told (Kd.R_told (Kd.R_old (pkR HO_781002.out) hb) (Kd.R_base ho0)) (Kd.R_base ho1)) (fun _ h_ => h_.1)); have n4_ := Aside0.mk (Kd.R_mono (Kd.R_told (Kd.R_told (Kd.R_old (pkR HO_790001.out) hb) (Kd.R_base ho0)) (Kd.R_base ho1)) (fun _ h_ => h_.1)); have n5_ := Aside0.mk (Kd.R_mono (Kd.R_told (Kd.R_told (Kd.R_old (pkR HO_790002.out) hb) (Kd.R_base ho0)) (Kd.R_base ho1)) (fun _ h_ => h_.1)); have n6_ := Aside0.mk (Kd.R_lower (Kd.R_new' (Kd.R_new' (Kd.R_new' (Kd.R_new' (Kd.R_new' (Kd.R_new' ho0 (Kd.R_lt (pkR HO_773001.out))) (Kd.R_lt (pkR HO_773002.out))) (Kd.R_lt (pkR HO_781001.out))) (Kd.R_lt (pkR HO_781002.out))) (Kd.R_lt (pkR HO_790001.out))) (Kd.R_lt (pkR HO_790002.out))) (below_size (by repeat (first | (with_reducible first | exact HB.out | apply below_alloc | apply pw_below_drewN | apply below_drew1 | refine below_set ?_ GE755.out | refine below_set ?_ GE772.out | refine below_set ?_ GE780.out | refine below_set ?_ GE789.out) | exact HB.out)))); have n7_ := Aside0.mk (Kd.R_lower (Kd.R_new' (Kd.R_new' (Kd.R_new' (Kd.R_new' (Kd.R_new' (Kd.R_new' ho1 (Kd.R_lt (pkR HO_773001.out))) (Kd.R_lt (pkR HO_773002.out))) (Kd.R_lt (pkR HO_781001.out))) (Kd.R_lt (pkR HO_781002.out))) (Kd.R_lt (pkR HO_790001.out))) (Kd.R_lt (pkR HO_790002.out))) (below_size (by repeat (first | (with_reducible first | exact HB.out | apply below_alloc | apply pw_below_drewN | apply below_drew1 | refine below_set ?_ GE755.out | refine below_set ?_ GE772.out | refine below_set ?_ GE780.out | refine below_set ?_ GE789.out) | exact HB.out)))); have n8_ := Aside0.mk (blk_below (g := gb755) (o := .cells #[.int .i64 a0_0, .slice A0_1 l0_1.length c0_1, .slice A0_2 l0_2.length c0_2] 43 (0, 0)) (pkK BK755.out) hb); have n9_ := Aside0.mk (blk_below (g := gb772) (o := .cells #[.int .i64 t764, .slice Ao24 t765.length co24, .slice Ao25 t768.length co25] 46 (0, 0)) (pkK BK772.out) hb); have n10_ := Aside0.mk (blk_below (g := gb780) (o := .cells #[.int .i64 t773, .slice Ao32 t800.length co32, .slice Ao33 t801.length co33] 46 (0, 0)) (pkK BK780.out) hb); have n11_ := Aside0.mk (blk_below (g := gb789) (o := .cells #[.int .i64 t781, .slice Ao40 t782.length co40, .slice Ao41 t785.length co41] 46 (0, 0)) (pkK BK789.out) hb); have n12_ := Aside0.mk (below_step (by repeat (first | (with_reducible first | exact HB.out | apply below_alloc | apply pw_below_drewN | apply below_drew1 | refine below_set ?_ GE755.out | refine below_set ?_ GE772.out | refine below_set ?_ GE780.out | refine below_set ?_ GE789.out) | exact HB.out)) hb); clear HO_773001 HO_773002 HO_781001 HO_781002 HO_790001 HO_790002 BK755 BK772 BK780 BK789 HB; have HO_773001 := n0_; have HO_773002 := n1_; have HO_781001 := n2_; have HO_781002 := n3_; have HO_790001 := n4_; have HO_790002 := n5_; have HO810 := n6_; have HO813 := n7_; have BK755 := n8_; have BK772 := n9_; have BK780 := n10_; have BK789 := n11_; have HB := n12_; clear n0_ n1_ n2_ n3_ n4_ n5_ n6_ n7_ n8_ n9_ n10_ n11_ n12_; (try clear hb); (try clear hb2); (try clear hk); (try clear hi); (try clear ho0); (try clear ho1); obtain ⟨Ao98, co98, eo98⟩ := Kd.R_slice HO810.out; subst eo98; obtain ⟨Ao99, co99, eo99⟩ := Kd.R_slice HO813.out; subst eo99) | ((with_reducible refine gate_callee (f := 30) rfl ?_); refine goesL_ (some 81) rfl rfl Try.func30 (by kernel_rfl) rfl #[.agg #[.int .i64 t807, .slice Ao98 t808.length co98, .slice Ao99 t811.length co99], .int .i64 a1] rfl (by (try simp only [List.map_toArray, List.map_cons, List.map_nil]); first | done | rfl | (simp only [List.length_drop, List.length_take]; rfl) | (go_simp; done) | (simp [*]; done)) ?_; (with_reducible refine (impl_PassLatch.calls kj56 t807 _ _ t808 _ _ t811 a1 t814 t815 t818 t821 _ ?side1 ?side2 ?side3 ?side4 A85.out).mono ?_); (case side1 => exact pkC (Kd.R_reads' HO810.out).2.2); (case side2 => exact (Kd.R_reads' HO810.out).2.1); (case side3 => exact pkC (Kd.R_reads' HO813.out).2.2); (case side4 => exact (Kd.R_reads' HO813.out).2.1); rintro e w100 ⟨v816, v819, rfl, ho0, ho1, hb⟩; refine ⟨_, rfl, ?_⟩; have n0_ := Aside0.mk (Kd.R_mono (Kd.R_told (Kd.R_told (Kd.R_old (pkR HO_773001.out) hb) (Kd.R_base ho0)) (Kd.R_base ho1)) (fun _ h_ => h_.1)); have n1_ := Aside0.mk (Kd.R_mono (Kd.R_told (Kd.R_told (Kd.R_old (pkR HO_773002.out) hb) (Kd.R_base ho0)) (Kd.R_base ho1)) (fun _ h_ => h_.1)); have n2_ := Aside0.mk (Kd.R_mono (Kd.R_told (Kd.R_told (Kd.R_old (pkR HO_781001.out) hb) (Kd.R_base ho0)) (Kd.R_base ho1)) (fun _ h_ => h_.1)); have n3_ := Aside0.mk (Kd.R_mono (Kd.R_told (Kd.R_told (Kd.R_old (pkR HO_781002.out) hb) (Kd.R_base ho0)) (Kd.R_base ho1)) (fun _ h_ => h_.1)); have n4_ := Aside0.mk (Kd.R_mono (Kd.R_told (Kd.R_told (Kd.R_old (pkR HO_790001.out) hb) (Kd.R_base ho0)) (Kd.R_base ho1)) (fun _ h_ => h_.1)); have n5_ := Aside0.mk (Kd.R_mono (Kd.R_told (Kd.R_told (Kd.R_old (pkR HO_790002.out) hb) (Kd.R_base ho0)) (Kd.R_base ho1)) (fun _ h_ => h_.1)); have n6_ := Aside0.mk (Kd.R_mono (Kd.R_told (Kd.R_told (Kd.R_old (pkR HO810.out) hb) (Kd.R_base ho0)) (Kd.R_base ho1)) (fun _ h_ => h_.1)); have n7_ := Aside0.mk (Kd.R_mono (Kd.R_told (Kd.R_told (Kd.R_old (pkR HO813.out) hb) (Kd.R_base ho0)) (Kd.R_base ho1)) (fun _ h_ => h_.1)); have n8_ := Aside0.mk (Kd.R_lower (Kd.R_new' (Kd.R_new' (Kd.R_new' (Kd.R_new' (Kd.R_new' (Kd.R_new' (Kd.R_new' (Kd.R_new' ho0 (Kd.R_lt (pkR HO_773001.out))) (Kd.R_lt (pkR HO_773002.out))) (Kd.R_lt (pkR HO_781001.out))) (Kd.R_lt (pkR HO_781002.out))) (Kd.R_lt (pkR HO_790001.out))) (Kd.R_lt (pkR HO_790002.out))) (Kd.R_lt (pkR HO810.out))) (Kd.R_lt (pkR HO813.out))) (below_size (by repeat (first | (with_reducible first | exact HB.out | apply below_alloc | apply pw_below_drewN | apply below_drew1 | refine below_set ?_ GE755.out | refine below_set ?_ GE772.out | refine below_set ?_ GE780.out | refine below_set ?_ GE789.out) | exact HB.out)))); have n9_ := Aside0.mk (Kd.R_lower (Kd.R_new' (Kd.R_new' (Kd.R_new' (Kd.R_new' (Kd.R_new' (Kd.R_new' (Kd.R_new' (Kd.R_new' ho1 (Kd.R_lt (pkR HO_773001.out))) (Kd.R_lt (pkR HO_773002.out))) (Kd.R_lt (pkR HO_781001.out))) (Kd.R_lt (pkR HO_781002.out))) (Kd.R_lt (pkR HO_790001.out))) (Kd.R_lt (pkR HO_790002.out))) (Kd.R_lt (pkR HO810.out))) (Kd.R_lt (pkR HO813.out))) (below_size (by repeat (first | (with_reducible first | exact HB.out | apply below_alloc | apply pw_below_drewN | apply below_drew1 | refine below_set ?_ GE755.out | refine below_set ?_ GE772.out | refine below_set ?_ GE780.out | refine below_set ?_ GE789.out) | exact HB.out)))); have n10_ := Aside0.mk (blk_below (g := gb755) (o := .cells #[.int .i64 a0_0, .slice A0_1 l0_1.length c0_1, .slice A0_2 l0_2.length c0_2] 43 (0, 0)) (pkK BK755.out) hb); have n11_ := Aside0.mk (blk_below (g := gb772) (o := .cells #[.int .i64 t764, .slice Ao24 t765.length co24, .slice Ao25 t768.length co25] 46 (0, 0)) (pkK BK772.out) hb); have n12_ := Aside0.mk (blk_below (g := gb780) (o := .cells #[.int .i64 t773, .slice Ao32 t800.length co32, .slice Ao33 t801.length co33] 46 (0, 0)) (pkK BK780.out) hb); have n13_ := Aside0.mk (blk_below (g := gb789) (o := .cells #[.int .i64 t781, .slice Ao40 t782.length co40, .slice Ao41 t785.length co41] 46 (0, 0)) (pkK BK789.out) hb); have n14_ := Aside0.mk (below_step (by repeat (first | (with_reducible first | exact HB.out | apply below_alloc | apply pw_below_drewN | apply below_drew1 | refine below_set ?_ GE755.out | refine below_set ?_ GE772.out | refine below_set ?_ GE780.out | refine below_set ?_ GE789.out) | exact HB.out)) hb); clear HO_773001 HO_773002 HO_781001 HO_781002 HO_790001 HO_790002 HO810 HO813 BK755 BK772 BK780 BK789 HB; have HO_773001 := n0_; have HO_773002 := n1_; have HO_781001 := n2_; have HO_781002 := n3_; have HO_790001 := n4_; have HO_790002 := n5_; have HO810 := n6_; have HO813 := n7_; have HO817 := n8_; have HO820 := n9_; have BK755 := n10_; have BK772 := n11_; have BK780 := n12_; have BK789 := n13_; have HB := n14_; clear n0_ n1_ n2_ n3_ n4_ n5_ n6_ n7_ n8_ n9_ n10_ n11_ n12_ n13_ n14_; (try clear hb); (try clear hb2); (try clear hk); (try clear hi); (try clear ho0); (try clear ho1)) | ((with_reducible refine gate_dst (N := 14) rfl ?_); refine box_event ?hg (N := 14) ?hd (cs := #[.int .i64 0, .slice none 0 0, .slice none 0 0]) (t := 46) ?hr ?_; (case hd => rfl); (case hg => rfl); (case hr => first | (go_simp; done) | (go_simp; rfl)); intro gb822 hg w101 hbox hb; have n0_ := Aside0.mk (Kd.R_below (pkR HO_773001.out) hb); have n1_ := Aside0.mk (Kd.R_below (pkR HO_773002.out) hb); have n2_ := Aside0.mk (Kd.R_below (pkR HO_781001.out) hb); have n3_ := Aside0.mk (Kd.R_below (pkR HO_781002.out) hb); have n4_ := Aside0.mk (Kd.R_below (pkR HO_790001.out) hb); have n5_ := Aside0.mk (Kd.R_below (pkR HO_790002.out) hb); have n6_ := Aside0.mk (Kd.R_below (pkR HO810.out) hb); have n7_ := Aside0.mk (Kd.R_below (pkR HO813.out) hb); have n8_ := Aside0.mk (Kd.R_below (pkR HO817.out) hb); have n9_ := Aside0.mk (Kd.R_below (pkR HO820.out) hb); have n10_ := Aside0.mk (blk_below (g := gb755) (o := .cells #[.int .i64 a0_0, .slice A0_1 l0_1.length c0_1, .slice A0_2 l0_2.length c0_2] 43 (0, 0)) (pkK BK755.out) hb); have n11_ := Aside0.mk (blk_below (g := gb772) (o := .cells #[.int .i64 t764, .slice Ao24 t765.length co24, .slice Ao25 t768.length co25] 46 (0, 0)) (pkK BK772.out) hb); have n12_ := Aside0.mk (blk_below (g := gb780) (o := .cells #[.int .i64 t773, .slice Ao32 t800.length co32, .slice Ao33 t801.length co33] 46 (0, 0)) (pkK BK780.out) hb); have n13_ := Aside0.mk (blk_below (g := gb789) (o := .cells #[.int .i64 t781, .slice Ao40 t782.length co40, .slice Ao41 t785.length co41] 46 (0, 0)) (pkK BK789.out) hb); have n14_ := Aside0.mk (below_step (by repeat (first | (with_reducible first | exact HB.out | apply below_alloc | apply pw_below_drewN | apply below_drew1 | refine below_set ?_ GE755.out | refine below_set ?_ GE772.out | refine below_set ?_ GE780.out | refine below_set ?_ GE789.out) | exact HB.out)) hb); have n15_ := Aside0.mk (hbox); have n16_ := Aside0.mk ((by rw [hg]; exact (below_size (by repeat (first | (with_reducible first | exact HB.out | apply below_alloc | apply pw_below_drewN | apply below_drew1 | refine below_set ?_ GE755.out | refine below_set ?_ GE772.out | refine below_set ?_ GE780.out | refine below_set ?_ GE789.out) | exact HB.out))) : w.heap.size ≤ gb822)); have n17_ := Aside0.mk ((by rw [hg]; exact (below_size (by repeat (first | (with_reducible first | exact HB.out | apply below_alloc | apply pw_below_drewN | apply below_drew1 | refine below_set ?_ GE755.out | refine below_set ?_ GE772.out | refine below_set ?_ GE780.out | refine below_set ?_ GE789.out) | exact HB.out))) : w.heap.size ≤ gb822)); have n18_ := Aside0.mk ((by rw [hg]; exact Nat.ne_of_lt (blk_lt (g := gb755) (o := .cells #[.int .i64 a0_0, .slice A0_1 l0_1.length c0_1, .slice A0_2 l0_2.length c0_2] 43 (0, 0)) (pkK BK755.out)) : gb755 ≠ gb822)); have n19_ := Aside0.mk ((by rw [hg]; exact Nat.ne_of_gt (blk_lt (g := gb755) (o := .cells #[.int .i64 a0_0, .slice A0_1 l0_1.length c0_1, .slice A0_2 l0_2.length c0_2] 43 (0, 0)) (pkK BK755.out)) : gb822 ≠ gb755)); have n20_ := Aside0.mk ((by rw [hg]; exact Nat.ne_of_lt (blk_lt (g := gb772) (o := .cells #[.int .i64 t764, .slice Ao24 t765.length co24, .slice Ao25 t768.length co25] 46 (0, 0)) (pkK BK772.out)) : gb772 ≠ gb822)); have n21_ := Aside0.mk ((by rw [hg]; exact Nat.ne_of_gt (blk_lt (g := gb772) (o := .cells #[.int .i64 t764, .slice Ao24 t765.length co24, .slice Ao25 t768.length co25] 46 (0, 0)) (pkK BK772.out)) : gb822 ≠ gb772)); have n22_ := Aside0.mk ((by rw [hg]; exact Nat.ne_of_lt (blk_lt (g := gb780) (o := .cells #[.int .i64 t773, .slice Ao32 t800.length co32, .slice Ao33 t801.length co33] 46 (0, 0)) (pkK BK780.out)) : gb780 ≠ gb822)); have n23_ := Aside0.mk ((by rw [hg]; exact Nat.ne_of_gt (blk_lt (g := gb780) (o := .cells #[.int .i64 t773, .slice Ao32 t800.length co32, .slice Ao33 t801.length co33] 46 (0, 0)) (pkK BK780.out)) : gb822 ≠ gb780)); have n24_ := Aside0.mk ((by rw [hg]; exact Nat.ne_of_lt (blk_lt (g := gb789) (o := .cells #[.int .i64 t781, .slice Ao40 t782.length co40, .slice Ao41 t785.length co41] 46 (0, 0)) (pkK BK789.out)) : gb789 ≠ gb822)); have n25_ := Aside0.mk ((by rw [hg]; exact Nat.ne_of_gt (blk_lt (g := gb789) (o := .cells #[.int .i64 t781, .slice Ao40 t782.length co40, .slice Ao41 t785.length co41] 46 (0, 0)) (pkK BK789.out)) : gb822 ≠ gb789)); clear HO_773001 HO_773002 HO_781001 HO_781002 HO_790001 HO_790002 HO810 HO813 HO817 HO820 BK755 BK772 BK780 BK789 HB; have HO_773001 := n0_; have HO_773002 := n1_; have HO_781001 := n2_; have HO_781002 := n3_; have HO_790001 := n4_; have HO_790002 := n5_; have HO810 := n6_; have HO813 := n7_; have HO817 := n8_; have HO820 := n9_; have BK755 := n10_; have BK772 := n11_; have BK780 := n12_; have BK789 := n13_; have HB := n14_; have BK822 := n15_; have GW822 := n16_; have GE822 := n17_; have NB755_822 := n18_; have NB822_755 := n19_; have NB772_822 := n20_; have NB822_772 := n21_; have NB780_822 := n22_; have NB822_780 := n23_; have NB789_822 := n24_; have NB822_789 := n25_; clear n0_ n1_ n2_ n3_ n4_ n5_ n6_ n7_ n8_ n9_ n10_ n11_ n12_ n13_ n14_ n15_ n16_ n17_ n18_ n19_ n20_ n21_ n22_ n23_ n24_ n25_; clear hb hbox hg; have hnb102 := NB822_755.out; have hnc102 := NB755_822.out; have hnb103 := NB822_772.out; have hnc103 := NB772_822.out; have hnb104 := NB822_780.out; have hnc104 := NB780_822.out; have hnb105 := NB822_789.out; have hnc105 := NB789_822.out; have hcz106_0 : w101.cell? ⟨gb822, 0, none⟩ = some (.int .i64 0) := (blk_cell BK822.out 0).trans rfl; have hcz106_1 : w101.cell? ⟨gb822, 1, none⟩ = some (.slice none 0 0) := (blk_cell BK822.out 1).trans rfl; have hcz106_2 : w101.cell? ⟨gb822, 2, none⟩ = some (.slice none 0 0) := (blk_cell BK822.out 2).trans rfl; have hfz106_0 := blk_frozen BK822.out 0; have hfz106_1 := blk_frozen BK822.out 1; have hfz106_2 := blk_frozen BK822.out 2; obtain ⟨Ao107, co107, eo107⟩ := Kd.R_slice HO817.out; subst eo107; obtain ⟨Ao108, co108, eo108⟩ := Kd.R_slice HO820.out; subst eo108))
                      (try simp only [Act.put, List.setIfInBounds_toArray, List.set_cons_zero, List.set_cons_succ])
                      go_cut [92] (fun v92 wc => ∃ (kq : Nat) (x92_85 : Bool), v92 = .bool x92_85 ∧ Aside0 (laws_FnExactPassLatch.j2 kq t803 x92_85 t781 t804 t805 = some r) ∧ Aside0 (kq ≤ kj56) ∧ Aside0 (Kd.R (Kd.int .i64) 3 wc w.heap.size (fun k_ => some k_ ≠ ((.slice Ao25 t768.length co25) : Value).ownBlock ∧ some k_ ≠ ((.slice Ao32 t800.length co32) : Value).ownBlock ∧ some k_ ≠ ((.slice Ao33 t801.length co33) : Value).ownBlock ∧ some k_ ≠ ((.slice Ao40 t782.length co40) : Value).ownBlock ∧ some k_ ≠ ((.slice Ao41 t785.length co41) : Value).ownBlock ∧ some k_ ≠ ((.slice Ao107 t815.length co107) : Value).ownBlock ∧ some k_ ≠ ((.slice Ao108 t818.length co108) : Value).ownBlock) (.slice Ao24 t765.length co24) t765) ∧ Aside0 (Kd.R (Kd.int .i64) 3 wc w.heap.size (fun k_ => some k_ ≠ ((.slice Ao24 t765.length co24) : Value).ownBlock ∧ some k_ ≠ ((.slice Ao32 t800.length co32) : Value).ownBlock ∧ some k_ ≠ ((.slice Ao33 t801.length co33) : Value).ownBlock ∧ some k_ ≠ ((.slice Ao40 t782.length co40) : Value).ownBlock ∧ some k_ ≠ ((.slice Ao41 t785.length co41) : Value).ownBlock ∧ some k_ ≠ ((.slice Ao107 t815.length co107) : Value).ownBlock ∧ some k_ ≠ ((.slice Ao108 t818.length co108) : Value).ownBlock) (.slice Ao25 t768.length co25) t768) ∧ Aside0 (Kd.R (Kd.int .i64) 3 wc w.heap.size (fun k_ => some k_ ≠ ((.slice Ao24 t765.length co24) : Value).ownBlock ∧ some k_ ≠ ((.slice Ao25 t768.length co25) : Value).ownBlock ∧ some k_ ≠ ((.slice Ao33 t801.length co33) : Value).ownBlock ∧ some k_ ≠ ((.slice Ao40 t782.length co40) : Value).ownBlock ∧ some k_ ≠ ((.slice Ao41 t785.length co41) : Value).ownBlock ∧ some k_ ≠ ((.slice Ao107 t815.length co107) : Value).ownBlock ∧ some k_ ≠ ((.slice Ao108 t818.length co108) : Value).ownBlock) (.slice Ao32 t800.length co32) t800) ∧ Aside0 (Kd.R (Kd.int .i64) 3 wc w.heap.size (fun k_ => some k_ ≠ ((.slice Ao24 t765.length co24) : Value).ownBlock ∧ some k_ ≠ ((.slice Ao25 t768.length co25) : Value).ownBlock ∧ some k_ ≠ ((.slice Ao32 t800.length co32) : Value).ownBlock ∧ some k_ ≠ ((.slice Ao40 t782.length co40) : Value).ownBlock ∧ some k_ ≠ ((.slice Ao41 t785.length co41) : Value).ownBlock ∧ some k_ ≠ ((.slice Ao107 t815.length co107) : Value).ownBlock ∧ some k_ ≠ ((.slice Ao108 t818.length co108) : Value).ownBlock) (.slice Ao33 t801.length co33) t801) ∧ Aside0 (Kd.R (Kd.int .i64) 3 wc w.heap.size (fun k_ => some k_ ≠ ((.slice Ao24 t765.length co24) : Value).ownBlock ∧ some k_ ≠ ((.slice Ao25 t768.length co25) : Value).ownBlock ∧ some k_ ≠ ((.slice Ao32 t800.length co32) : Value).ownBlock ∧ some k_ ≠ ((.slice Ao33 t801.length co33) : Value).ownBlock ∧ some k_ ≠ ((.slice Ao41 t785.length co41) : Value).ownBlock ∧ some k_ ≠ ((.slice Ao107 t815.length co107) : Value).ownBlock ∧ some k_ ≠ ((.slice Ao108 t818.length co108) : Value).ownBlock) (.slice Ao40 t782.length co40) t804) ∧ Aside0 (Kd.R (Kd.int .i64) 3 wc w.heap.size (fun k_ => some k_ ≠ ((.slice Ao24 t765.length co24) : Value).ownBlock ∧ some k_ ≠ ((.slice Ao25 t768.length co25) : Value).ownBlock ∧ some k_ ≠ ((.slice Ao32 t800.length co32) : Value).ownBlock ∧ some k_ ≠ ((.slice Ao33 t801.length co33) : Value).ownBlock ∧ some k_ ≠ ((.slice Ao40 t782.length co40) : Value).ownBlock ∧ some k_ ≠ ((.slice Ao107 t815.length co107) : Value).ownBlock ∧ some k_ ≠ ((.slice Ao108 t818.length co108) : Value).ownBlock) (.slice Ao41 t785.length co41) t805) ∧ Aside0 (Kd.R (Kd.int .i64) 3 wc w.heap.size (fun k_ => some k_ ≠ ((.slice Ao24 t765.length co24) : Value).ownBlock ∧ some k_ ≠ ((.slice Ao25 t768.length co25) : Value).ownBlock ∧ some k_ ≠ ((.slice Ao32 t800.length co32) : Value).ownBlock ∧ some k_ ≠ ((.slice Ao33 t801.length co33) : Value).ownBlock ∧ some k_ ≠ ((.slice Ao40 t782.length co40) : Value).ownBlock ∧ some k_ ≠ ((.slice Ao41 t785.length co41) : Value).ownBlock ∧ some k_ ≠ ((.slice Ao108 t818.length co108) : Value).ownBlock) (.slice Ao107 t815.length co107) t815) ∧ Aside0 (Kd.R (Kd.int .i64) 3 wc w.heap.size (fun k_ => some k_ ≠ ((.slice Ao24 t765.length co24) : Value).ownBlock ∧ some k_ ≠ ((.slice Ao25 t768.length co25) : Value).ownBlock ∧ some k_ ≠ ((.slice Ao32 t800.length co32) : Value).ownBlock ∧ some k_ ≠ ((.slice Ao33 t801.length co33) : Value).ownBlock ∧ some k_ ≠ ((.slice Ao40 t782.length co40) : Value).ownBlock ∧ some k_ ≠ ((.slice Ao41 t785.length co41) : Value).ownBlock ∧ some k_ ≠ ((.slice Ao107 t815.length co107) : Value).ownBlock) (.slice Ao108 t818.length co108) t818) ∧ Aside0 (wc.heap[gb755]? = some (.cells #[.int .i64 a0_0, (.slice A0_1 l0_1.length c0_1), (.slice A0_2 l0_2.length c0_2)] 43 (0, 0))) ∧ Aside0 (wc.heap[gb772]? = some (.cells #[.int .i64 t764, (.slice Ao24 t765.length co24), (.slice Ao25 t768.length co25)] 46 (0, 0))) ∧ Aside0 (wc.heap[gb780]? = some (.cells #[.int .i64 t773, (.slice Ao32 t800.length co32), (.slice Ao33 t801.length co33)] 46 (0, 0))) ∧ Aside0 (wc.heap[gb789]? = some (.cells #[.int .i64 t781, (.slice Ao40 t782.length co40), (.slice Ao41 t785.length co41)] 46 (0, 0))) ∧ Aside0 (wc.heap[gb822]? = some (.cells #[.int .i64 t814, (.slice Ao107 t815.length co107), (.slice Ao108 t818.length co108)] 46 (0, 0))) ∧ Aside0 (Below w.heap.size w wc))
                      case first =>
                        have H := HC86.out
                        clear HC86
                        replace H := Option.bind_eq_some_iff.mp H
                        obtain ⟨t823, A1090, H⟩ := H
                        replace H : (if t823 = true then (laws_FnExactPassLatch.j2 kj56 t803 (t821 != t771) t781 t804 t805) else (laws_FnExactPassLatch.j2 kj56 t803 true t781 t804 t805)) = some r := H
                        have A109 := Aside0.mk A1090
                        clear A1090
                        by_cases c110 : t823 = true
                        · subst c110
                          have H1 : (laws_FnExactPassLatch.j2 kj56 t803 (t821 != t771) t781 t804 t805) = some r := by rw [if_pos rfl] at H; exact H
                          clear H
                          have H := H1
                          clear H1
                          have H' := Aside0.mk H
                          clear H
                          have hnb111 := NB822_755.out
                          have hnc111 := NB755_822.out
                          have hnb112 := NB822_772.out
                          have hnc112 := NB772_822.out
                          have hnb113 := NB822_780.out
                          have hnc113 := NB780_822.out
                          have hnb114 := NB822_789.out
                          have hnc114 := NB789_822.out
                          have hcz115_0 : w101.cell? ⟨gb822, 0, none⟩ = some (.int .i64 0) := (blk_cell BK822.out 0).trans rfl
                          have hcz115_1 : w101.cell? ⟨gb822, 1, none⟩ = some (.slice none 0 0) := (blk_cell BK822.out 1).trans rfl
                          have hcz115_2 : w101.cell? ⟨gb822, 2, none⟩ = some (.slice none 0 0) := (blk_cell BK822.out 2).trans rfl
                          have hfz115_0 := blk_frozen BK822.out 0
                          have hfz115_1 := blk_frozen BK822.out 1
                          have hfz115_2 := blk_frozen BK822.out 2
                          have hnb116 := NB772_755.out
                          have hnc116 := NB755_772.out
                          have hnb117 := NB772_780.out
                          have hnc117 := NB780_772.out
                          have hnb118 := NB772_789.out
                          have hnc118 := NB789_772.out
                          have hcz119_0 : w101.cell? ⟨gb772, 0, none⟩ = some (.int .i64 t764) := (blk_cell BK772.out 0).trans rfl
                          have hcz119_1 : w101.cell? ⟨gb772, 1, none⟩ = some (.slice Ao24 t765.length co24) := (blk_cell BK772.out 1).trans rfl
                          have hcz119_2 : w101.cell? ⟨gb772, 2, none⟩ = some (.slice Ao25 t768.length co25) := (blk_cell BK772.out 2).trans rfl
                          have hfz119_0 := blk_frozen BK772.out 0
                          have hfz119_1 := blk_frozen BK772.out 1
                          have hfz119_2 := blk_frozen BK772.out 2
                          go_wp2_with (first | ((with_reducible refine gate_callee (f := 27) rfl ?_); refine goesL_ (some 86) rfl rfl Try.func27 (by kernel_rfl) rfl #[.agg #[.int .i64 t814, .slice Ao107 t815.length co107, .slice Ao108 t818.length co108], .agg #[.int .i64 t764, .slice Ao24 t765.length co24, .slice Ao25 t768.length co25]] rfl (by (try simp only [List.map_toArray, List.map_cons, List.map_nil]); first | done | rfl | (simp only [List.length_drop, List.length_take]; rfl) | (go_simp; done) | (simp [*]; done)) ?_; (with_reducible refine (laws_eqLatch.calls kj56 t814 _ _ t815 _ _ t818 t764 _ _ t765 _ _ t768 true _ ?side1 ?side2 ?side3 ?side4 ?side5 ?side6 ?side7 ?side8 A109.out).mono ?_); (case side1 => refine (Kd.R_reads' (e := 3) (base := w.heap.size) (ok := fun k_ => ((((((((some k_ ≠ (.slice Ao108 t818.length co108 : Value).ownBlock ∧ some k_ ≠ (.slice Ao24 t765.length co24 : Value).ownBlock) ∧ some k_ ≠ (.slice Ao25 t768.length co25 : Value).ownBlock) ∧ some k_ ≠ (.slice Ao32 t800.length co32 : Value).ownBlock) ∧ some k_ ≠ (.slice Ao33 t801.length co33 : Value).ownBlock) ∧ some k_ ≠ (.slice Ao40 t782.length co40 : Value).ownBlock) ∧ some k_ ≠ (.slice Ao41 t785.length co41 : Value).ownBlock) ∧ some k_ ≠ (.slice Ao98 t808.length co98 : Value).ownBlock) ∧ some k_ ≠ (.slice Ao99 t811.length co99 : Value).ownBlock)) (n := t815.length) (c := co107) ?_).2.2; exact (by (with_reducible repeat (first | apply Kd.R_alloc | apply Kd.R_drewN | apply Kd.R_drew)); exact (Kd.R_mono (Kd.R_far (p := ⟨gb822, 2, none⟩) (Kd.R_far (p := ⟨gb822, 1, none⟩) (Kd.R_far (p := ⟨gb822, 0, none⟩) (Kd.R_types HO817.out BK822.out (by decide)) (fun _ hk => hk.2) (.int .i64 t814)) (fun _ hk => hk.2) (.slice Ao107 t815.length co107)) (fun _ hk => hk.2) (.slice Ao108 t818.length co108)) (fun _ h_ => h_.1)))); (case side2 => exact (Kd.R_reads' HO817.out).2.1); (case side3 => refine (Kd.R_reads' (e := 3) (base := w.heap.size) (ok := fun k_ => ((((((((some k_ ≠ (.slice Ao107 t815.length co107 : Value).ownBlock ∧ some k_ ≠ (.slice Ao24 t765.length co24 : Value).ownBlock) ∧ some k_ ≠ (.slice Ao25 t768.length co25 : Value).ownBlock) ∧ some k_ ≠ (.slice Ao32 t800.length co32 : Value).ownBlock) ∧ some k_ ≠ (.slice Ao33 t801.length co33 : Value).ownBlock) ∧ some k_ ≠ (.slice Ao40 t782.length co40 : Value).ownBlock) ∧ some k_ ≠ (.slice Ao41 t785.length co41 : Value).ownBlock) ∧ some k_ ≠ (.slice Ao98 t808.length co98 : Value).ownBlock) ∧ some k_ ≠ (.slice Ao99 t811.length co99 : Value).ownBlock)) (n := t818.length) (c := co108) ?_).2.2; exact (by (with_reducible repeat (first | apply Kd.R_alloc | apply Kd.R_drewN | apply Kd.R_drew)); exact (Kd.R_mono (Kd.R_far (p := ⟨gb822, 2, none⟩) (Kd.R_far (p := ⟨gb822, 1, none⟩) (Kd.R_far (p := ⟨gb822, 0, none⟩) (Kd.R_types HO820.out BK822.out (by decide)) (fun _ hk => hk.2) (.int .i64 t814)) (fun _ hk => hk.2) (.slice Ao107 t815.length co107)) (fun _ hk => hk.2) (.slice Ao108 t818.length co108)) (fun _ h_ => h_.1)))); (case side4 => exact (Kd.R_reads' HO820.out).2.1); (case side5 => refine (Kd.R_reads' (e := 3) (base := w.heap.size) (ok := fun k_ => (((((some k_ ≠ (.slice Ao25 t768.length co25 : Value).ownBlock ∧ (some k_ ≠ (.slice Ao32 t800.length co32 : Value).ownBlock ∧ (some k_ ≠ (.slice Ao33 t801.length co33 : Value).ownBlock ∧ (some k_ ≠ (.slice Ao40 t782.length co40 : Value).ownBlock ∧ some k_ ≠ (.slice Ao41 t785.length co41 : Value).ownBlock)))) ∧ some k_ ≠ (.slice Ao98 t808.length co98 : Value).ownBlock) ∧ some k_ ≠ (.slice Ao99 t811.length co99 : Value).ownBlock) ∧ some k_ ≠ (.slice Ao107 t815.length co107 : Value).ownBlock) ∧ some k_ ≠ (.slice Ao108 t818.length co108 : Value).ownBlock)) (n := t765.length) (c := co24) ?_).2.2; exact (by (with_reducible repeat (first | apply Kd.R_alloc | apply Kd.R_drewN | apply Kd.R_drew)); exact (Kd.R_mono (Kd.R_far (p := ⟨gb822, 2, none⟩) (Kd.R_far (p := ⟨gb822, 1, none⟩) (Kd.R_far (p := ⟨gb822, 0, none⟩) (Kd.R_types HO_773001.out BK822.out (by decide)) (fun _ hk => hk.2) (.int .i64 t814)) (fun _ hk => hk.2) (.slice Ao107 t815.length co107)) (fun _ hk => hk.2) (.slice Ao108 t818.length co108)) (fun _ h_ => h_.1)))); (case side6 => exact (Kd.R_reads' HO_773001.out).2.1); (case side7 => refine (Kd.R_reads' (e := 3) (base := w.heap.size) (ok := fun k_ => (((((some k_ ≠ (.slice Ao24 t765.length co24 : Value).ownBlock ∧ (some k_ ≠ (.slice Ao32 t800.length co32 : Value).ownBlock ∧ (some k_ ≠ (.slice Ao33 t801.length co33 : Value).ownBlock ∧ (some k_ ≠ (.slice Ao40 t782.length co40 : Value).ownBlock ∧ some k_ ≠ (.slice Ao41 t785.length co41 : Value).ownBlock)))) ∧ some k_ ≠ (.slice Ao98 t808.length co98 : Value).ownBlock) ∧ some k_ ≠ (.slice Ao99 t811.length co99 : Value).ownBlock) ∧ some k_ ≠ (.slice Ao107 t815.length co107 : Value).ownBlock) ∧ some k_ ≠ (.slice Ao108 t818.length co108 : Value).ownBlock)) (n := t768.length) (c := co25) ?_).2.2; exact (by (with_reducible repeat (first | apply Kd.R_alloc | apply Kd.R_drewN | apply Kd.R_drew)); exact (Kd.R_mono (Kd.R_far (p := ⟨gb822, 2, none⟩) (Kd.R_far (p := ⟨gb822, 1, none⟩) (Kd.R_far (p := ⟨gb822, 0, none⟩) (Kd.R_types HO_773002.out BK822.out (by decide)) (fun _ hk => hk.2) (.int .i64 t814)) (fun _ hk => hk.2) (.slice Ao107 t815.length co107)) (fun _ hk => hk.2) (.slice Ao108 t818.length co108)) (fun _ h_ => h_.1)))); (case side8 => exact (Kd.R_reads' HO_773002.out).2.1); rintro e w120 ⟨rfl, hb⟩; refine ⟨_, rfl, ?_⟩; have n0_ := Aside0.mk (Kd.R_below (by (with_reducible repeat (first | apply Kd.R_alloc | apply Kd.R_drewN | apply Kd.R_drew)); exact (Kd.R_mono (Kd.R_far (p := ⟨gb822, 2, none⟩) (Kd.R_far (p := ⟨gb822, 1, none⟩) (Kd.R_far (p := ⟨gb822, 0, none⟩) (Kd.R_types HO_773001.out BK822.out (by decide)) (fun _ hk => hk.2) (.int .i64 t814)) (fun _ hk => hk.2) (.slice Ao107 t815.length co107)) (fun _ hk => hk.2) (.slice Ao108 t818.length co108)) (fun _ h_ => h_.1))) hb); have n1_ := Aside0.mk (Kd.R_below (by (with_reducible repeat (first | apply Kd.R_alloc | apply Kd.R_drewN | apply Kd.R_drew)); exact (Kd.R_mono (Kd.R_far (p := ⟨gb822, 2, none⟩) (Kd.R_far (p := ⟨gb822, 1, none⟩) (Kd.R_far (p := ⟨gb822, 0, none⟩) (Kd.R_types HO_773002.out BK822.out (by decide)) (fun _ hk => hk.2) (.int .i64 t814)) (fun _ hk => hk.2) (.slice Ao107 t815.length co107)) (fun _ hk => hk.2) (.slice Ao108 t818.length co108)) (fun _ h_ => h_.1))) hb); have n2_ := Aside0.mk (Kd.R_below (by (with_reducible repeat (first | apply Kd.R_alloc | apply Kd.R_drewN | apply Kd.R_drew)); exact (Kd.R_mono (Kd.R_far (p := ⟨gb822, 2, none⟩) (Kd.R_far (p := ⟨gb822, 1, none⟩) (Kd.R_far (p := ⟨gb822, 0, none⟩) (Kd.R_types HO_781001.out BK822.out (by decide)) (fun _ hk => hk.2) (.int .i64 t814)) (fun _ hk => hk.2) (.slice Ao107 t815.length co107)) (fun _ hk => hk.2) (.slice Ao108 t818.length co108)) (fun _ h_ => h_.1))) hb); have n3_ := Aside0.mk (Kd.R_below (by (with_reducible repeat (first | apply Kd.R_alloc | apply Kd.R_drewN | apply Kd.R_drew)); exact (Kd.R_mono (Kd.R_far (p := ⟨gb822, 2, none⟩) (Kd.R_far (p := ⟨gb822, 1, none⟩) (Kd.R_far (p := ⟨gb822, 0, none⟩) (Kd.R_types HO_781002.out BK822.out (by decide)) (fun _ hk => hk.2) (.int .i64 t814)) (fun _ hk => hk.2) (.slice Ao107 t815.length co107)) (fun _ hk => hk.2) (.slice Ao108 t818.length co108)) (fun _ h_ => h_.1))) hb); have n4_ := Aside0.mk (Kd.R_below (by (with_reducible repeat (first | apply Kd.R_alloc | apply Kd.R_drewN | apply Kd.R_drew)); exact (Kd.R_mono (Kd.R_far (p := ⟨gb822, 2, none⟩) (Kd.R_far (p := ⟨gb822, 1, none⟩) (Kd.R_far (p := ⟨gb822, 0, none⟩) (Kd.R_types HO_790001.out BK822.out (by decide)) (fun _ hk => hk.2) (.int .i64 t814)) (fun _ hk => hk.2) (.slice Ao107 t815.length co107)) (fun _ hk => hk.2) (.slice Ao108 t818.length co108)) (fun _ h_ => h_.1))) hb); have n5_ := Aside0.mk (Kd.R_below (by (with_reducible repeat (first | apply Kd.R_alloc | apply Kd.R_drewN | apply Kd.R_drew)); exact (Kd.R_mono (Kd.R_far (p := ⟨gb822, 2, none⟩) (Kd.R_far (p := ⟨gb822, 1, none⟩) (Kd.R_far (p := ⟨gb822, 0, none⟩) (Kd.R_types HO_790002.out BK822.out (by decide)) (fun _ hk => hk.2) (.int .i64 t814)) (fun _ hk => hk.2) (.slice Ao107 t815.length co107)) (fun _ hk => hk.2) (.slice Ao108 t818.length co108)) (fun _ h_ => h_.1))) hb); have n6_ := Aside0.mk (Kd.R_below (by (with_reducible repeat (first | apply Kd.R_alloc | apply Kd.R_drewN | apply Kd.R_drew)); exact (Kd.R_mono (Kd.R_far (p := ⟨gb822, 2, none⟩) (Kd.R_far (p := ⟨gb822, 1, none⟩) (Kd.R_far (p := ⟨gb822, 0, none⟩) (Kd.R_types HO810.out BK822.out (by decide)) (fun _ hk => hk.2) (.int .i64 t814)) (fun _ hk => hk.2) (.slice Ao107 t815.length co107)) (fun _ hk => hk.2) (.slice Ao108 t818.length co108)) (fun _ h_ => h_.1))) hb); have n7_ := Aside0.mk (Kd.R_below (by (with_reducible repeat (first | apply Kd.R_alloc | apply Kd.R_drewN | apply Kd.R_drew)); exact (Kd.R_mono (Kd.R_far (p := ⟨gb822, 2, none⟩) (Kd.R_far (p := ⟨gb822, 1, none⟩) (Kd.R_far (p := ⟨gb822, 0, none⟩) (Kd.R_types HO813.out BK822.out (by decide)) (fun _ hk => hk.2) (.int .i64 t814)) (fun _ hk => hk.2) (.slice Ao107 t815.length co107)) (fun _ hk => hk.2) (.slice Ao108 t818.length co108)) (fun _ h_ => h_.1))) hb); have n8_ := Aside0.mk (Kd.R_below (by (with_reducible repeat (first | apply Kd.R_alloc | apply Kd.R_drewN | apply Kd.R_drew)); exact (Kd.R_mono (Kd.R_far (p := ⟨gb822, 2, none⟩) (Kd.R_far (p := ⟨gb822, 1, none⟩) (Kd.R_far (p := ⟨gb822, 0, none⟩) (Kd.R_types HO817.out BK822.out (by decide)) (fun _ hk => hk.2) (.int .i64 t814)) (fun _ hk => hk.2) (.slice Ao107 t815.length co107)) (fun _ hk => hk.2) (.slice Ao108 t818.length co108)) (fun _ h_ => h_.1))) hb); have n9_ := Aside0.mk (Kd.R_below (by (with_reducible repeat (first | apply Kd.R_alloc | apply Kd.R_drewN | apply Kd.R_drew)); exact (Kd.R_mono (Kd.R_far (p := ⟨gb822, 2, none⟩) (Kd.R_far (p := ⟨gb822, 1, none⟩) (Kd.R_far (p := ⟨gb822, 0, none⟩) (Kd.R_types HO820.out BK822.out (by decide)) (fun _ hk => hk.2) (.int .i64 t814)) (fun _ hk => hk.2) (.slice Ao107 t815.length co107)) (fun _ hk => hk.2) (.slice Ao108 t818.length co108)) (fun _ h_ => h_.1))) hb); have n10_ := Aside0.mk (blk_below (g := gb755) (o := .cells #[.int .i64 a0_0, .slice A0_1 l0_1.length c0_1, .slice A0_2 l0_2.length c0_2] 43 (0, 0)) (by (with_reducible repeat (first | refine blk_drewN ?_ _ | refine blk_drew ?_ | refine blk_alloc ?_ _)); refine blk_far ?_ NB755_822.out _; (with_reducible repeat (first | refine blk_drewN ?_ _ | refine blk_drew ?_ | refine blk_alloc ?_ _)); refine blk_far ?_ NB755_822.out _; (with_reducible repeat (first | refine blk_drewN ?_ _ | refine blk_drew ?_ | refine blk_alloc ?_ _)); refine blk_far ?_ NB755_822.out _; (with_reducible repeat (first | refine blk_drewN ?_ _ | refine blk_drew ?_ | refine blk_alloc ?_ _)); exact BK755.out) hb); have n11_ := Aside0.mk (blk_below (g := gb772) (o := .cells #[.int .i64 t764, .slice Ao24 t765.length co24, .slice Ao25 t768.length co25] 46 (0, 0)) (by (with_reducible repeat (first | refine blk_drewN ?_ _ | refine blk_drew ?_ | refine blk_alloc ?_ _)); refine blk_far ?_ NB772_822.out _; (with_reducible repeat (first | refine blk_drewN ?_ _ | refine blk_drew ?_ | refine blk_alloc ?_ _)); refine blk_far ?_ NB772_822.out _; (with_reducible repeat (first | refine blk_drewN ?_ _ | refine blk_drew ?_ | refine blk_alloc ?_ _)); refine blk_far ?_ NB772_822.out _; (with_reducible repeat (first | refine blk_drewN ?_ _ | refine blk_drew ?_ | refine blk_alloc ?_ _)); exact BK772.out) hb); have n12_ := Aside0.mk (blk_below (g := gb780) (o := .cells #[.int .i64 t773, .slice Ao32 t800.length co32, .slice Ao33 t801.length co33] 46 (0, 0)) (by (with_reducible repeat (first | refine blk_drewN ?_ _ | refine blk_drew ?_ | refine blk_alloc ?_ _)); refine blk_far ?_ NB780_822.out _; (with_reducible repeat (first | refine blk_drewN ?_ _ | refine blk_drew ?_ | refine blk_alloc ?_ _)); refine blk_far ?_ NB780_822.out _; (with_reducible repeat (first | refine blk_drewN ?_ _ | refine blk_drew ?_ | refine blk_alloc ?_ _)); refine blk_far ?_ NB780_822.out _; (with_reducible repeat (first | refine blk_drewN ?_ _ | refine blk_drew ?_ | refine blk_alloc ?_ _)); exact BK780.out) hb); have n13_ := Aside0.mk (blk_below (g := gb789) (o := .cells #[.int .i64 t781, .slice Ao40 t782.length co40, .slice Ao41 t785.length co41] 46 (0, 0)) (by (with_reducible repeat (first | refine blk_drewN ?_ _ | refine blk_drew ?_ | refine blk_alloc ?_ _)); refine blk_far ?_ NB789_822.out _; (with_reducible repeat (first | refine blk_drewN ?_ _ | refine blk_drew ?_ | refine blk_alloc ?_ _)); refine blk_far ?_ NB789_822.out _; (with_reducible repeat (first | refine blk_drewN ?_ _ | refine blk_drew ?_ | refine blk_alloc ?_ _)); refine blk_far ?_ NB789_822.out _; (with_reducible repeat (first | refine blk_drewN ?_ _ | refine blk_drew ?_ | refine blk_alloc ?_ _)); exact BK789.out) hb); have n14_ := Aside0.mk (blk_below (g := gb822) (o := .cells #[.int .i64 t814, .slice Ao107 t815.length co107, .slice Ao108 t818.length co108] 46 (0, 0)) (by (with_reducible repeat (first | refine blk_drewN ?_ _ | refine blk_drew ?_ | refine blk_alloc ?_ _)); refine blk_put (cs := #[.int .i64 t814, .slice Ao107 t815.length co107, .slice none 0 0]) ?_ 2 _ rfl; (with_reducible repeat (first | refine blk_drewN ?_ _ | refine blk_drew ?_ | refine blk_alloc ?_ _)); refine blk_put (cs := #[.int .i64 t814, .slice none 0 0, .slice none 0 0]) ?_ 1 _ rfl; (with_reducible repeat (first | refine blk_drewN ?_ _ | refine blk_drew ?_ | refine blk_alloc ?_ _)); refine blk_put (cs := #[.int .i64 0, .slice none 0 0, .slice none 0 0]) ?_ 0 _ rfl; (with_reducible repeat (first | refine blk_drewN ?_ _ | refine blk_drew ?_ | refine blk_alloc ?_ _)); exact BK822.out) hb); have n15_ := Aside0.mk (below_step (by repeat (first | (with_reducible first | exact HB.out | apply below_alloc | apply pw_below_drewN | apply below_drew1 | refine below_set ?_ GE755.out | refine below_set ?_ GE772.out | refine below_set ?_ GE780.out | refine below_set ?_ GE789.out | refine below_set ?_ GE822.out) | exact HB.out)) hb); clear HO_773001 HO_773002 HO_781001 HO_781002 HO_790001 HO_790002 HO810 HO813 HO817 HO820 BK755 BK772 BK780 BK789 BK822 HB; have HO_773001 := n0_; have HO_773002 := n1_; have HO_781001 := n2_; have HO_781002 := n3_; have HO_790001 := n4_; have HO_790002 := n5_; have HO810 := n6_; have HO813 := n7_; have HO817 := n8_; have HO820 := n9_; have BK755 := n10_; have BK772 := n11_; have BK780 := n12_; have BK789 := n13_; have BK822 := n14_; have HB := n15_; clear n0_ n1_ n2_ n3_ n4_ n5_ n6_ n7_ n8_ n9_ n10_ n11_ n12_ n13_ n14_ n15_; (try clear hb); (try clear hb2); (try clear hk); (try clear hi)))
                          go_meet
                          case rel => exact ⟨_, ((t821 != t771)), (by first | rfl | (simp; done) | (simp [*]; done)), H', ⟨by have := HJ11.out; have := HJ56.out; first | omega | exact Nat.le_refl _⟩, ⟨by (try simp only [hl781001_56]); (try simp only [hl781002_56]); (with_reducible repeat (first | apply Kd.R_alloc | apply Kd.R_drewN | apply Kd.R_drew)); exact Kd.R_mono HO_773001.out (fun _ hk => ⟨hk.1.1.1.1.1, ⟨hk.1.1.1.1.2.1, ⟨hk.1.1.1.1.2.2.1, ⟨hk.1.1.1.1.2.2.2.1, ⟨hk.1.1.1.1.2.2.2.2, ⟨hk.1.2, hk.2⟩⟩⟩⟩⟩⟩)⟩, ⟨by (try simp only [hl781001_56]); (try simp only [hl781002_56]); (with_reducible repeat (first | apply Kd.R_alloc | apply Kd.R_drewN | apply Kd.R_drew)); exact Kd.R_mono HO_773002.out (fun _ hk => ⟨hk.1.1.1.1.1, ⟨hk.1.1.1.1.2.1, ⟨hk.1.1.1.1.2.2.1, ⟨hk.1.1.1.1.2.2.2.1, ⟨hk.1.1.1.1.2.2.2.2, ⟨hk.1.2, hk.2⟩⟩⟩⟩⟩⟩)⟩, ⟨by (try simp only [hl781001_56]); (try simp only [hl781002_56]); (with_reducible repeat (first | apply Kd.R_alloc | apply Kd.R_drewN | apply Kd.R_drew)); exact Kd.R_mono HO_781001.out (fun _ hk => ⟨hk.1.1.1.1.1, ⟨hk.1.1.1.1.2.1, ⟨hk.1.1.1.1.2.2.1, ⟨hk.1.1.1.1.2.2.2.1, ⟨hk.1.1.1.1.2.2.2.2, ⟨hk.1.2, hk.2⟩⟩⟩⟩⟩⟩)⟩, ⟨by (try simp only [hl781001_56]); (try simp only [hl781002_56]); (with_reducible repeat (first | apply Kd.R_alloc | apply Kd.R_drewN | apply Kd.R_drew)); exact Kd.R_mono HO_781002.out (fun _ hk => ⟨hk.1.1.1.1.1, ⟨hk.1.1.1.1.2.1, ⟨hk.1.1.1.1.2.2.1, ⟨hk.1.1.1.1.2.2.2.1, ⟨hk.1.1.1.1.2.2.2.2, ⟨hk.1.2, hk.2⟩⟩⟩⟩⟩⟩)⟩, ⟨by (try simp only [hl781001_56]); (try simp only [hl781002_56]); (with_reducible repeat (first | apply Kd.R_alloc | apply Kd.R_drewN | apply Kd.R_drew)); exact Kd.R_mono HO_790001.out (fun _ hk => ⟨hk.1.1.1.1.1, ⟨hk.1.1.1.1.2.1, ⟨hk.1.1.1.1.2.2.1, ⟨hk.1.1.1.1.2.2.2.1, ⟨hk.1.1.1.1.2.2.2.2, ⟨hk.1.2, hk.2⟩⟩⟩⟩⟩⟩)⟩, ⟨by (try simp only [hl781001_56]); (try simp only [hl781002_56]); (with_reducible repeat (first | apply Kd.R_alloc | apply Kd.R_drewN | apply Kd.R_drew)); exact Kd.R_mono HO_790002.out (fun _ hk => ⟨hk.1.1.1.1.1, ⟨hk.1.1.1.1.2.1, ⟨hk.1.1.1.1.2.2.1, ⟨hk.1.1.1.1.2.2.2.1, ⟨hk.1.1.1.1.2.2.2.2, ⟨hk.1.2, hk.2⟩⟩⟩⟩⟩⟩)⟩, ⟨by (try simp only [hl781001_56]); (try simp only [hl781002_56]); (with_reducible repeat (first | apply Kd.R_alloc | apply Kd.R_drewN | apply Kd.R_drew)); exact Kd.R_mono HO817.out (fun _ hk => ⟨hk.1.1.1.1.1.1.1.2, ⟨hk.1.1.1.1.1.1.2, ⟨hk.1.1.1.1.1.2, ⟨hk.1.1.1.1.2, ⟨hk.1.1.1.2, ⟨hk.1.1.2, hk.1.1.1.1.1.1.1.1⟩⟩⟩⟩⟩⟩)⟩, ⟨by (try simp only [hl781001_56]); (try simp only [hl781002_56]); (with_reducible repeat (first | apply Kd.R_alloc | apply Kd.R_drewN | apply Kd.R_drew)); exact Kd.R_mono HO820.out (fun _ hk => ⟨hk.1.1.1.1.1.1.1.2, ⟨hk.1.1.1.1.1.1.2, ⟨hk.1.1.1.1.1.2, ⟨hk.1.1.1.1.2, ⟨hk.1.1.1.2, ⟨hk.1.1.2, hk.1.1.1.1.1.1.1.1⟩⟩⟩⟩⟩⟩)⟩, ⟨by (try simp only [hl781001_56]); (try simp only [hl781002_56]); (with_reducible repeat (first | refine blk_drewN ?_ _ | refine blk_drew ?_ | refine blk_alloc ?_ _)); exact BK755.out⟩, ⟨by (try simp only [hl781001_56]); (try simp only [hl781002_56]); (with_reducible repeat (first | refine blk_drewN ?_ _ | refine blk_drew ?_ | refine blk_alloc ?_ _)); exact BK772.out⟩, ⟨by (try simp only [hl781001_56]); (try simp only [hl781002_56]); (with_reducible repeat (first | refine blk_drewN ?_ _ | refine blk_drew ?_ | refine blk_alloc ?_ _)); exact BK780.out⟩, ⟨by (try simp only [hl781001_56]); (try simp only [hl781002_56]); (with_reducible repeat (first | refine blk_drewN ?_ _ | refine blk_drew ?_ | refine blk_alloc ?_ _)); exact BK789.out⟩, ⟨by (try simp only [hl781001_56]); (try simp only [hl781002_56]); (with_reducible repeat (first | refine blk_drewN ?_ _ | refine blk_drew ?_ | refine blk_alloc ?_ _)); exact BK822.out⟩, ⟨by repeat (first | (with_reducible first | exact HB.out | apply below_alloc | apply pw_below_drewN | apply below_drew1 | refine below_set ?_ GE755.out | refine below_set ?_ GE772.out | refine below_set ?_ GE780.out | refine below_set ?_ GE789.out | refine below_set ?_ GE822.out) | exact HB.out)⟩⟩
                        · replace c110 := Bool.eq_false_iff.mpr c110
                          subst c110
                          have H1 : (laws_FnExactPassLatch.j2 kj56 t803 true t781 t804 t805) = some r := by rw [if_neg (show ¬ (false = true) by decide)] at H; exact H
                          clear H
                          have H := H1
                          clear H1
                          cases kj56 with
                          | zero => exact absurd H (by simp [laws_FnExactPassLatch.j2])
                          | succ k_ => (simp only [laws_FnExactPassLatch.j2, if_pos] at H; exact absurd (Option.some.inj H) (by rw [HQ_.out]; simp))
                      case rest =>
                        clear HC86
                        try clear c1
                        try clear c2
                        try clear p2
                        try clear c3
                        try clear c4
                        try clear c4b0
                        try clear c5
                        try clear c6
                        try clear c7
                        try clear c8
                        try clear c9
                        try clear c10
                        try clear c11
                        try clear c22
                        try clear c23
                        try clear c25
                        try clear c27
                        try clear c29
                        try clear c30
                        try clear c36
                        try clear c37
                        try clear c38
                        try clear c42
                        try clear c43
                        try clear c44
                        try clear c45
                        try clear c46
                        try clear c48
                        try clear c49
                        try clear c52
                        try clear c55
                        try clear c63
                        try clear c64
                        try clear c65
                        try clear c68
                        try clear c68b0
                        try clear c70
                        try clear c71
                        try clear c72
                        try clear c73
                        try clear c75
                        try clear c76
                        try clear c79
                        try clear c82
                        try clear c82b0
                        try clear c83
                        try clear c83b0
                        try clear c83b1
                        try clear c87
                        try clear c88
                        try clear c89
                        try clear c94
                        try clear c95
                        try clear c102
                        try clear c103
                        try clear c104
                        try clear c105
                        try clear c110
                        try clear c111
                        try clear c112
                        try clear c113
                        try clear c114
                        try clear c116
                        try clear c117
                        try clear c118
                        try clear hcz106_0
                        try clear hcz106_1
                        try clear hcz106_2
                        try clear hcz115_0
                        try clear hcz115_1
                        try clear hcz115_2
                        try clear hcz119_0
                        try clear hcz119_1
                        try clear hcz119_2
                        try clear hcz14_0
                        try clear hcz14_1
                        try clear hcz14_2
                        try clear hcz16_0
                        try clear hcz16_1
                        try clear hcz16_2
                        try clear hcz23_0
                        try clear hcz23_1
                        try clear hcz23_2
                        try clear hcz26_0
                        try clear hcz26_1
                        try clear hcz26_2
                        try clear hcz31_0
                        try clear hcz31_1
                        try clear hcz31_2
                        try clear hcz39_0
                        try clear hcz39_1
                        try clear hcz39_2
                        try clear hcz47_0
                        try clear hcz47_1
                        try clear hcz47_2
                        try clear hcz50_0
                        try clear hcz50_1
                        try clear hcz50_2
                        try clear hcz66_0
                        try clear hcz66_1
                        try clear hcz66_2
                        try clear hcz6_0
                        try clear hcz6_1
                        try clear hcz6_2
                        try clear hcz74_0
                        try clear hcz74_1
                        try clear hcz74_2
                        try clear hcz77_0
                        try clear hcz77_1
                        try clear hcz77_2
                        try clear hcz90_0
                        try clear hcz90_1
                        try clear hcz90_2
                        try clear hcz92_0
                        try clear hcz92_1
                        try clear hcz92_2
                        try clear hcz96_0
                        try clear hcz96_1
                        try clear hcz96_2
                        try clear hfz106_0
                        try clear hfz106_1
                        try clear hfz106_2
                        try clear hfz115_0
                        try clear hfz115_1
                        try clear hfz115_2
                        try clear hfz119_0
                        try clear hfz119_1
                        try clear hfz119_2
                        try clear hfz14_0
                        try clear hfz14_1
                        try clear hfz14_2
                        try clear hfz16_0
                        try clear hfz16_1
                        try clear hfz16_2
                        try clear hfz23_0
                        try clear hfz23_1
                        try clear hfz23_2
                        try clear hfz26_0
                        try clear hfz26_1
                        try clear hfz26_2
                        try clear hfz31_0
                        try clear hfz31_1
                        try clear hfz31_2
                        try clear hfz39_0
                        try clear hfz39_1
                        try clear hfz39_2
                        try clear hfz47_0
                        try clear hfz47_1
                        try clear hfz47_2
                        try clear hfz50_0
                        try clear hfz50_1
                        try clear hfz50_2
                        try clear hfz66_0
                        try clear hfz66_1
                        try clear hfz66_2
                        try clear hfz6_0
                        try clear hfz6_1
                        try clear hfz6_2
                        try clear hfz74_0
                        try clear hfz74_1
                        try clear hfz74_2
                        try clear hfz77_0
                        try clear hfz77_1
                        try clear hfz77_2
                        try clear hfz90_0
                        try clear hfz90_1
                        try clear hfz90_2
                        try clear hfz92_0
                        try clear hfz92_1
                        try clear hfz92_2
                        try clear hfz96_0
                        try clear hfz96_1
                        try clear hfz96_2
                        try clear p2
                        obtain ⟨kq, x92_85, rfl, HA, HJ85, HO_773001, HO_773002, HO_781001, HO_781002, HO_790001, HO_790002, HO_823001, HO_823002, BK755, BK772, BK780, BK789, BK822, HB⟩ := hcut
                        have hl790001_85 := (Kd.R_reads' HO_790001.out).1
                        rw [hl790001_85] at HO_790001
                        (try simp only [hl790001_85])
                        (try simp only [hl790001_85] at BK755)
                        (try simp only [hl790001_85] at BK772)
                        (try simp only [hl790001_85] at BK780)
                        (try simp only [hl790001_85] at BK789)
                        (try simp only [hl790001_85] at BK822)
                        (try simp only [hl790001_85] at HO_773001)
                        (try simp only [hl790001_85] at HO_773002)
                        (try simp only [hl790001_85] at HO_781001)
                        (try simp only [hl790001_85] at HO_781002)
                        (try simp only [hl790001_85] at HO_790002)
                        (try simp only [hl790001_85] at HO_823001)
                        (try simp only [hl790001_85] at HO_823002)
                        have hl790002_85 := (Kd.R_reads' HO_790002.out).1
                        rw [hl790002_85] at HO_790002
                        (try simp only [hl790002_85])
                        (try simp only [hl790002_85] at BK755)
                        (try simp only [hl790002_85] at BK772)
                        (try simp only [hl790002_85] at BK780)
                        (try simp only [hl790002_85] at BK789)
                        (try simp only [hl790002_85] at BK822)
                        (try simp only [hl790002_85] at HO_773001)
                        (try simp only [hl790002_85] at HO_773002)
                        (try simp only [hl790002_85] at HO_781001)
                        (try simp only [hl790002_85] at HO_781002)
                        (try simp only [hl790002_85] at HO_790001)
                        (try simp only [hl790002_85] at HO_823001)
                        (try simp only [hl790002_85] at HO_823002)
                        cases kq with
                        | zero => exact absurd HA.out (by simp [laws_FnExactPassLatch.j2])
                        | succ kj85 =>
                          have H := HA.out
                          clear HA
                          simp only [laws_FnExactPassLatch.j2] at H
                          by_cases c121 : x92_85 = true
                          · subst c121
                            have H1 : (some false) = some r := by rw [if_pos rfl] at H; exact H
                            clear H
                            have H := H1
                            clear H1
                            exact absurd (Option.some.inj H) (by rw [HQ_.out]; simp)
                          · replace c121 := Bool.eq_false_iff.mpr c121
                            subst c121
                            have H1 : ((laws_heldLatch.f kj85 t781 t804 t805 1).bind fun t824 => (if t824 < 0 then (some false) else (if t824 = t803 then (some true) else (some false)))) = some r := by rw [if_neg (show ¬ (false = true) by decide)] at H; exact H
                            clear H
                            have H := H1
                            clear H1
                            replace H := Option.bind_eq_some_iff.mp H
                            obtain ⟨t824, A1220, H⟩ := H
                            replace H : (if t824 < 0 then (some false) else (if t824 = t803 then (some true) else (some false))) = some r := H
                            have A122 := Aside0.mk A1220
                            clear A1220
                            by_cases c123 : t824 < 0
                            · rw [if_pos c123] at H
                              have c123b0 : decide (t824 < 0) = true := decide_eq_true c123
                              clear c123
                              exact absurd (Option.some.inj H) (by rw [HQ_.out]; simp)
                            · rw [if_neg c123] at H
                              have c123b0 : decide (t824 < 0) = false := decide_eq_false c123
                              clear c123
                              by_cases c124 : t824 = t803
                              · rw [if_pos c124] at H
                                have c124b0 : (t824 == t803) = true := beq_iff_eq.mpr c124
                                have c124b1 : (t824 != t803) = false := bne_eq_false_iff_eq.mpr c124
                                clear c124
                                obtain rfl := Option.some.inj H
                                have hnb125 := NB789_755.out
                                have hnc125 := NB755_789.out
                                have hnb126 := NB789_772.out
                                have hnc126 := NB772_789.out
                                have hnb127 := NB789_780.out
                                have hnc127 := NB780_789.out
                                have hnb128 := NB789_822.out
                                have hnc128 := NB822_789.out
                                have hcz129_0 : wc.cell? ⟨gb789, 0, none⟩ = some (.int .i64 t781) := (blk_cell BK789.out 0).trans rfl
                                have hcz129_1 : wc.cell? ⟨gb789, 1, none⟩ = some (.slice Ao40 t804.length co40) := (blk_cell BK789.out 1).trans rfl
                                have hcz129_2 : wc.cell? ⟨gb789, 2, none⟩ = some (.slice Ao41 t805.length co41) := (blk_cell BK789.out 2).trans rfl
                                have hfz129_0 := blk_frozen BK789.out 0
                                have hfz129_1 := blk_frozen BK789.out 1
                                have hfz129_2 := blk_frozen BK789.out 2
                                go_wp2_with (first | ((with_reducible refine gate_callee (f := 37) rfl ?_); refine goesL_ (some 95) rfl rfl Try.func37 (by kernel_rfl) rfl #[.agg #[.int .i64 t781, .slice Ao40 t804.length co40, .slice Ao41 t805.length co41], .int .i64 1] rfl (by (try simp only [List.map_toArray, List.map_cons, List.map_nil]); first | done | rfl | (simp only [List.length_drop, List.length_take]; rfl) | (go_simp; done) | (simp [*]; done)) ?_; (with_reducible refine (laws_heldLatch.calls kj85 t781 _ _ t804 _ _ t805 1 t824 _ ?side1 ?side2 ?side3 ?side4 A122.out).mono ?_); (case side1 => exact pkC (Kd.R_reads' HO_790001.out).2.2); (case side2 => exact (Kd.R_reads' HO_790001.out).2.1); (case side3 => exact pkC (Kd.R_reads' HO_790002.out).2.2); (case side4 => exact (Kd.R_reads' HO_790002.out).2.1); rintro e w130 ⟨rfl, hb⟩; refine ⟨_, rfl, ?_⟩; have n0_ := Aside0.mk (Kd.R_below (pkR HO_773001.out) hb); have n1_ := Aside0.mk (Kd.R_below (pkR HO_773002.out) hb); have n2_ := Aside0.mk (Kd.R_below (pkR HO_781001.out) hb); have n3_ := Aside0.mk (Kd.R_below (pkR HO_781002.out) hb); have n4_ := Aside0.mk (Kd.R_below (pkR HO_790001.out) hb); have n5_ := Aside0.mk (Kd.R_below (pkR HO_790002.out) hb); have n6_ := Aside0.mk (Kd.R_below (pkR HO_823001.out) hb); have n7_ := Aside0.mk (Kd.R_below (pkR HO_823002.out) hb); have n8_ := Aside0.mk (blk_below (g := gb755) (o := .cells #[.int .i64 a0_0, .slice A0_1 l0_1.length c0_1, .slice A0_2 l0_2.length c0_2] 43 (0, 0)) (pkK BK755.out) hb); have n9_ := Aside0.mk (blk_below (g := gb772) (o := .cells #[.int .i64 t764, .slice Ao24 t765.length co24, .slice Ao25 t768.length co25] 46 (0, 0)) (pkK BK772.out) hb); have n10_ := Aside0.mk (blk_below (g := gb780) (o := .cells #[.int .i64 t773, .slice Ao32 t800.length co32, .slice Ao33 t801.length co33] 46 (0, 0)) (pkK BK780.out) hb); have n11_ := Aside0.mk (blk_below (g := gb789) (o := .cells #[.int .i64 t781, .slice Ao40 t804.length co40, .slice Ao41 t805.length co41] 46 (0, 0)) (pkK BK789.out) hb); have n12_ := Aside0.mk (blk_below (g := gb822) (o := .cells #[.int .i64 t814, .slice Ao107 t815.length co107, .slice Ao108 t818.length co108] 46 (0, 0)) (pkK BK822.out) hb); have n13_ := Aside0.mk (below_step (by repeat (first | (with_reducible first | exact HB.out | apply below_alloc | apply pw_below_drewN | apply below_drew1 | refine below_set ?_ GE755.out | refine below_set ?_ GE772.out | refine below_set ?_ GE780.out | refine below_set ?_ GE789.out | refine below_set ?_ GE822.out) | exact HB.out)) hb); clear HO_773001 HO_773002 HO_781001 HO_781002 HO_790001 HO_790002 HO_823001 HO_823002 BK755 BK772 BK780 BK789 BK822 HB; have HO_773001 := n0_; have HO_773002 := n1_; have HO_781001 := n2_; have HO_781002 := n3_; have HO_790001 := n4_; have HO_790002 := n5_; have HO_823001 := n6_; have HO_823002 := n7_; have BK755 := n8_; have BK772 := n9_; have BK780 := n10_; have BK789 := n11_; have BK822 := n12_; have HB := n13_; clear n0_ n1_ n2_ n3_ n4_ n5_ n6_ n7_ n8_ n9_ n10_ n11_ n12_ n13_; (try clear hb); (try clear hb2); (try clear hk); (try clear hi)))
                                go_ret
                                exact ⟨by first | rfl | (simp [errW_none, errW_some] <;> rfl) | (simp [*, errW_none, errW_some] <;> rfl), by repeat (first | (with_reducible first | exact HB.out | apply below_alloc | apply pw_below_drewN | apply below_drew1 | refine below_set ?_ GE755.out | refine below_set ?_ GE772.out | refine below_set ?_ GE780.out | refine below_set ?_ GE789.out | refine below_set ?_ GE822.out) | exact HB.out)⟩
                              · rw [if_neg c124] at H
                                have c124b0 : (t824 == t803) = false := beq_eq_false_iff_ne.mpr c124
                                have c124b1 : (t824 != t803) = true := bne_iff_ne.mpr c124
                                exact absurd (Option.some.inj H) (by rw [HQ_.out]; simp)
                    · rw [if_neg c83] at H
                      have c83b0 : (t806 == t803) = false := beq_eq_false_iff_ne.mpr c83
                      have c83b1 : (t806 != t803) = true := bne_iff_ne.mpr c83
                      exact absurd (Option.some.inj H) (by rw [HQ_.out]; simp)
          · replace c55 := Bool.eq_false_iff.mpr c55
            subst c55
            have H1 : (some false) = some r := by rw [if_neg (show ¬ (false = true) by decide)] at H; exact H
            clear H
            have H := H1
            clear H1
            exact absurd (Option.some.inj H) (by rw [HQ_.out]; simp)
end Go.Proofs.Ytffcphplnilokaa.Z
