import Derived.Test.YtffcphplnilokaaZx0
import Derived.Test.YtffcphplnilokaaZx17
import Derived.Test.YtffcphplnilokaaZx19
import Derived.Test.YtffcphplnilokaaZx22
import Derived.Test.YtffcphplnilokaaZx24
import Derived.Test.YtffcphplnilokaaZx28
import Derived.Test.YtffcphplnilokaaZx29
import Derived.Test.YtffcphplnilokaaZx30
namespace Go.Proofs.Ytffcphplnilokaa.Z
open Go.RowKit Go.Proofs.YtffcphplnilokaaW.PrintWords Go.Proofs.YtffcphplnilokaaW.PrintLast Go.Proofs.YtffcphplnilokaaW.PrintMore
attribute [local go_sem] max2_int min2_int max_two min_two max_three min_three max_four min_four   -- for this text's walks alone
set_option linter.unusedVariables false
set_option linter.unusedSimpArgs false
mutual
def laws_FnExactStandAt.j0 : Nat → Int → Int → Int → Bool → Int → List Int → List Int → Int → List Int → List Int → Int → List Int → List Int → Int → List Int → List Int → Option (Bool)
  | 0, _, _, _, _, _, _, _, _, _, _, _, _, _, _, _, _ => none
  | k + 1, x1, x7, x10, x44, x497000, x497001, x497002, x514000, x514001, x514002, x522000, x522001, x522002, x531000, x531001, x531002 => if x44 = true then (some false) else ((laws_toLatch.f k x497000 x497001 x497002).bind fun bt532 => ((laws_eqLatch.f k x522000 x522001 x522002 bt532.1 bt532.2.1 bt532.2.2).bind fun t539 => (if t539 = true then ((laws_markLatch.f k x522000 x522001 x522002 1).bind fun bt540 => (if bt540.1 < 0 then (laws_FnExactStandAt.j1 k x1 x7 true x497000 x497001 x497002 x514000 x514001 x514002 x531000 x531001 x531002) else ((laws_eqLatch.f k x531000 x531001 x531002 x514000 x514001 x514002).bind fun t543 => (if t543 = true then (laws_FnExactStandAt.j1 k x1 x7 (x10 != x7) x497000 x497001 x497002 x514000 x514001 x514002 x531000 x531001 x531002) else (laws_FnExactStandAt.j1 k x1 x7 true x497000 x497001 x497002 x514000 x514001 x514002 x531000 x531001 x531002))))) else (some false))))
def laws_FnExactStandAt.j1 : Nat → Int → Int → Bool → Int → List Int → List Int → Int → List Int → List Int → Int → List Int → List Int → Option (Bool)
  | 0, _, _, _, _, _, _, _, _, _, _, _, _ => none
  | k + 1, x1, x7, x65, x497000, x497001, x497002, x514000, x514001, x514002, x531000, x531001, x531002 => if x65 = true then (some false) else ((laws_markLatch.f k x531000 x531001 x531002 1).bind fun bt544 => ((laws_heldLatch.f k x531000 bt544.2.1 bt544.2.2 1).bind fun t547 => (if t547 < 0 then (some false) else (if t547 = bt544.1 then ((laws_toLatch.f k x497000 x497001 x497002).bind fun bt548 => ((impl_StandAt.f k bt548.1 bt548.2.1 bt548.2.2 x1).bind fun bt555 => ((laws_eqLatch.f k bt555.1 bt555.2.1 bt555.2.2.1 x514000 x514001 x514002).bind fun t564 => (if t564 = true then (laws_FnExactStandAt.j2 k bt544.1 (bt555.2.2.2 != x7) x531000 bt544.2.1 bt544.2.2) else (laws_FnExactStandAt.j2 k bt544.1 true x531000 bt544.2.1 bt544.2.2))))) else (some false)))))
def laws_FnExactStandAt.j2 : Nat → Int → Bool → Int → List Int → List Int → Option (Bool)
  | 0, _, _, _, _, _ => none
  | k + 1, x12, x92, x531000, x531001, x531002 => if x92 = true then (some false) else ((laws_heldLatch.f k x531000 x531001 x531002 1).bind fun t565 => (if t565 < 0 then (some false) else (if t565 = x12 then (some true) else (some false))))
end
def laws_FnExactStandAt.f (k : Nat) (a0_0 : Int) (l0_1 : List Int) (l0_2 : List Int) (a1 : Int) : Option (Bool) := (laws_szLatch.f a0_0 l0_1 l0_2 1048576).bind fun t497 => (if t497 < 0 then (some true) else ((laws_toLatch.f k a0_0 l0_1 l0_2).bind fun bt498 => ((spec_StandAt.f k bt498.1 bt498.2.1 bt498.2.2 a1).bind fun bt505 => ((laws_toLatch.f k a0_0 l0_1 l0_2).bind fun bt514 => ((impl_StandAt.f k bt514.1 bt514.2.1 bt514.2.2 a1).bind fun bt522 => ((laws_eqLatch.f k bt522.1 bt522.2.1 bt522.2.2.1 bt505.1 bt505.2.1 bt505.2.2.1).bind fun t531 => (if t531 = true then (laws_FnExactStandAt.j0 k a1 bt505.2.2.2 bt522.2.2.2 (bt522.2.2.2 != bt505.2.2.2) a0_0 l0_1 l0_2 bt505.1 bt505.2.1 bt505.2.2.1 bt514.1 bt514.2.1 bt514.2.2 bt522.1 bt522.2.1 bt522.2.2.1) else (laws_FnExactStandAt.j0 k a1 bt505.2.2.2 bt522.2.2.2 true a0_0 l0_1 l0_2 bt505.1 bt505.2.1 bt505.2.2.1 bt514.1 bt514.2.1 bt514.2.2 bt522.1 bt522.2.1 bt522.2.2.1))))))))
theorem laws_FnExactStandAt.mono_l : ∀ k, (∀ y0 y1 y2 y3 y4 y5 y6 y7 y8 y9 y10 y11 y12 y13 y14 y15, LeO (laws_FnExactStandAt.j0 k y0 y1 y2 y3 y4 y5 y6 y7 y8 y9 y10 y11 y12 y13 y14 y15) (laws_FnExactStandAt.j0 (k + 1) y0 y1 y2 y3 y4 y5 y6 y7 y8 y9 y10 y11 y12 y13 y14 y15)) ∧ (∀ y0 y1 y2 y3 y4 y5 y6 y7 y8 y9 y10 y11, LeO (laws_FnExactStandAt.j1 k y0 y1 y2 y3 y4 y5 y6 y7 y8 y9 y10 y11) (laws_FnExactStandAt.j1 (k + 1) y0 y1 y2 y3 y4 y5 y6 y7 y8 y9 y10 y11)) ∧ (∀ y0 y1 y2 y3 y4, LeO (laws_FnExactStandAt.j2 k y0 y1 y2 y3 y4) (laws_FnExactStandAt.j2 (k + 1) y0 y1 y2 y3 y4))
  | 0 => ⟨fun _ _ _ _ _ _ _ _ _ _ _ _ _ _ _ _ r h => by simp [laws_FnExactStandAt.j0] at h, fun _ _ _ _ _ _ _ _ _ _ _ _ r h => by simp [laws_FnExactStandAt.j1] at h, fun _ _ _ _ _ r h => by simp [laws_FnExactStandAt.j2] at h⟩
  | k + 1 => by
    obtain ⟨ih0, ih1, ih2⟩ := laws_FnExactStandAt.mono_l k
    refine ⟨?_, ?_, ?_⟩
    · intro y0 y1 y2 y3 y4 y5 y6 y7 y8 y9 y10 y11 y12 y13 y14 y15
      unfold laws_FnExactStandAt.j0
      repeat' first
      | (with_reducible exact ih0 _ _ _ _ _ _ _ _ _ _ _ _ _ _ _ _)
      | (with_reducible exact ih1 _ _ _ _ _ _ _ _ _ _ _ _)
      | (with_reducible exact ih2 _ _ _ _ _)
      | (with_reducible exact impl_StandAt.mono _ _ _ _ _)
      | (with_reducible exact laws_eqLatch.mono _ _ _ _ _ _ _)
      | (with_reducible exact laws_heldLatch.mono _ _ _ _ _)
      | (with_reducible exact laws_markLatch.mono _ _ _ _ _)
      | (with_reducible exact laws_toLatch.mono _ _ _ _)
      | (with_reducible exact spec_StandAt.mono _ _ _ _ _)
      | (with_reducible exact LeO.refl _)
      | (with_reducible exact LeO.none _)
      | (with_reducible refine LeO.ite ?_ ?_)
      | (with_reducible refine LeO.bind ?_ (fun _ => ?_))
      | exact ih0 _ _ _ _ _ _ _ _ _ _ _ _ _ _ _ _
      | exact ih1 _ _ _ _ _ _ _ _ _ _ _ _
      | exact ih2 _ _ _ _ _
      | exact impl_StandAt.mono _ _ _ _ _
      | exact laws_eqLatch.mono _ _ _ _ _ _ _
      | exact laws_heldLatch.mono _ _ _ _ _
      | exact laws_markLatch.mono _ _ _ _ _
      | exact laws_toLatch.mono _ _ _ _
      | exact spec_StandAt.mono _ _ _ _ _
      | exact LeO.none _
      | refine LeO.ite ?_ ?_
      | refine LeO.bind ?_ (fun _ => ?_)
    · intro y0 y1 y2 y3 y4 y5 y6 y7 y8 y9 y10 y11
      unfold laws_FnExactStandAt.j1
      repeat' first
      | (with_reducible exact ih0 _ _ _ _ _ _ _ _ _ _ _ _ _ _ _ _)
      | (with_reducible exact ih1 _ _ _ _ _ _ _ _ _ _ _ _)
      | (with_reducible exact ih2 _ _ _ _ _)
      | (with_reducible exact impl_StandAt.mono _ _ _ _ _)
      | (with_reducible exact laws_eqLatch.mono _ _ _ _ _ _ _)
      | (with_reducible exact laws_heldLatch.mono _ _ _ _ _)
      | (with_reducible exact laws_markLatch.mono _ _ _ _ _)
      | (with_reducible exact laws_toLatch.mono _ _ _ _)
      | (with_reducible exact spec_StandAt.mono _ _ _ _ _)
      | (with_reducible exact LeO.refl _)
      | (with_reducible exact LeO.none _)
      | (with_reducible refine LeO.ite ?_ ?_)
      | (with_reducible refine LeO.bind ?_ (fun _ => ?_))
      | exact ih0 _ _ _ _ _ _ _ _ _ _ _ _ _ _ _ _
      | exact ih1 _ _ _ _ _ _ _ _ _ _ _ _
      | exact ih2 _ _ _ _ _
      | exact impl_StandAt.mono _ _ _ _ _
      | exact laws_eqLatch.mono _ _ _ _ _ _ _
      | exact laws_heldLatch.mono _ _ _ _ _
      | exact laws_markLatch.mono _ _ _ _ _
      | exact laws_toLatch.mono _ _ _ _
      | exact spec_StandAt.mono _ _ _ _ _
      | exact LeO.none _
      | refine LeO.ite ?_ ?_
      | refine LeO.bind ?_ (fun _ => ?_)
    · intro y0 y1 y2 y3 y4
      unfold laws_FnExactStandAt.j2
      repeat' first
      | (with_reducible exact ih0 _ _ _ _ _ _ _ _ _ _ _ _ _ _ _ _)
      | (with_reducible exact ih1 _ _ _ _ _ _ _ _ _ _ _ _)
      | (with_reducible exact ih2 _ _ _ _ _)
      | (with_reducible exact impl_StandAt.mono _ _ _ _ _)
      | (with_reducible exact laws_eqLatch.mono _ _ _ _ _ _ _)
      | (with_reducible exact laws_heldLatch.mono _ _ _ _ _)
      | (with_reducible exact laws_markLatch.mono _ _ _ _ _)
      | (with_reducible exact laws_toLatch.mono _ _ _ _)
      | (with_reducible exact spec_StandAt.mono _ _ _ _ _)
      | (with_reducible exact LeO.refl _)
      | (with_reducible exact LeO.none _)
      | (with_reducible refine LeO.ite ?_ ?_)
      | (with_reducible refine LeO.bind ?_ (fun _ => ?_))
      | exact ih0 _ _ _ _ _ _ _ _ _ _ _ _ _ _ _ _
      | exact ih1 _ _ _ _ _ _ _ _ _ _ _ _
      | exact ih2 _ _ _ _ _
      | exact impl_StandAt.mono _ _ _ _ _
      | exact laws_eqLatch.mono _ _ _ _ _ _ _
      | exact laws_heldLatch.mono _ _ _ _ _
      | exact laws_markLatch.mono _ _ _ _ _
      | exact laws_toLatch.mono _ _ _ _
      | exact spec_StandAt.mono _ _ _ _ _
      | exact LeO.none _
      | refine LeO.ite ?_ ?_
      | refine LeO.bind ?_ (fun _ => ?_)
theorem laws_FnExactStandAt.mono : ∀ a0 a1 a2 a3 k, LeO (laws_FnExactStandAt.f k a0 a1 a2 a3) (laws_FnExactStandAt.f (k + 1) a0 a1 a2 a3) := by
  intro a0 a1 a2 a3 k
  obtain ⟨ih0, ih1, ih2⟩ := laws_FnExactStandAt.mono_l k
  unfold laws_FnExactStandAt.f
  repeat' first
      | (with_reducible exact ih0 _ _ _ _ _ _ _ _ _ _ _ _ _ _ _ _)
      | (with_reducible exact ih1 _ _ _ _ _ _ _ _ _ _ _ _)
      | (with_reducible exact ih2 _ _ _ _ _)
      | (with_reducible exact impl_StandAt.mono _ _ _ _ _)
      | (with_reducible exact laws_eqLatch.mono _ _ _ _ _ _ _)
      | (with_reducible exact laws_heldLatch.mono _ _ _ _ _)
      | (with_reducible exact laws_markLatch.mono _ _ _ _ _)
      | (with_reducible exact laws_toLatch.mono _ _ _ _)
      | (with_reducible exact spec_StandAt.mono _ _ _ _ _)
      | (with_reducible exact LeO.refl _)
      | (with_reducible exact LeO.none _)
      | (with_reducible refine LeO.ite ?_ ?_)
      | (with_reducible refine LeO.bind ?_ (fun _ => ?_))
      | exact ih0 _ _ _ _ _ _ _ _ _ _ _ _ _ _ _ _
      | exact ih1 _ _ _ _ _ _ _ _ _ _ _ _
      | exact ih2 _ _ _ _ _
      | exact impl_StandAt.mono _ _ _ _ _
      | exact laws_eqLatch.mono _ _ _ _ _ _ _
      | exact laws_heldLatch.mono _ _ _ _ _
      | exact laws_markLatch.mono _ _ _ _ _
      | exact laws_toLatch.mono _ _ _ _
      | exact spec_StandAt.mono _ _ _ _ _
      | exact LeO.none _
      | refine LeO.ite ?_ ?_
      | refine LeO.bind ?_ (fun _ => ?_)
set_option maxHeartbeats 8000000 in
set_option maxRecDepth 100000 in
theorem laws_FnExactStandAt.calls (k : Nat) (a0_0 : Int) (A0_1 : Option Addr) (c0_1 : Nat) (l0_1 : List Int) (A0_2 : Option Addr) (c0_2 : Nat) (l0_2 : List Int) (a1 : Int) (r : Bool) (w : World) (hr0_1 : Kd.C (Kd.int .i64) w A0_1 l0_1.length l0_1) (hc0_1 : l0_1.length ≤ c0_1) (hr0_2 : Kd.C (Kd.int .i64) w A0_2 l0_2.length l0_2) (hc0_2 : l0_2.length ≤ c0_2) (HQ_ : Aside0 (r = true)) (h : laws_FnExactStandAt.f k a0_0 l0_1 l0_2 a1 = some r) :
    Calls Try.prog 7 #[.agg #[.int .i64 a0_0, .slice A0_1 l0_1.length c0_1, .slice A0_2 l0_2.length c0_2], .int .i64 a1] w fun e w' => e = .returned (.bool r) ∧ Below w.heap.size w w' := by
  have hu43 := Try.underlying43
  have hu46 := Try.underlying46
  have HR0_1 := Aside0.mk hr0_1
  have HC0_1 := Aside0.mk hc0_1
  clear hr0_1 hc0_1
  have HR0_2 := Aside0.mk hr0_2
  have HC0_2 := Aside0.mk hc0_2
  clear hr0_2 hc0_2
  have HB := Aside0.mk (Below.refl w.heap.size w)
  have H : ((laws_szLatch.f a0_0 l0_1 l0_2 1048576).bind fun t497 => (if t497 < 0 then (some true) else ((laws_toLatch.f k a0_0 l0_1 l0_2).bind fun bt498 => ((spec_StandAt.f k bt498.1 bt498.2.1 bt498.2.2 a1).bind fun bt505 => ((laws_toLatch.f k a0_0 l0_1 l0_2).bind fun bt514 => ((impl_StandAt.f k bt514.1 bt514.2.1 bt514.2.2 a1).bind fun bt522 => ((laws_eqLatch.f k bt522.1 bt522.2.1 bt522.2.2.1 bt505.1 bt505.2.1 bt505.2.2.1).bind fun t531 => (if t531 = true then (laws_FnExactStandAt.j0 k a1 bt505.2.2.2 bt522.2.2.2 (bt522.2.2.2 != bt505.2.2.2) a0_0 l0_1 l0_2 bt505.1 bt505.2.1 bt505.2.2.1 bt514.1 bt514.2.1 bt514.2.2 bt522.1 bt522.2.1 bt522.2.2.1) else (laws_FnExactStandAt.j0 k a1 bt505.2.2.2 bt522.2.2.2 true a0_0 l0_1 l0_2 bt505.1 bt505.2.1 bt505.2.2.1 bt514.1 bt514.2.1 bt514.2.2 bt522.1 bt522.2.1 bt522.2.2.1))))))))) = some r := h
  clear h
  replace H := Option.bind_eq_some_iff.mp H
  obtain ⟨t497, A30, H⟩ := H
  replace H : (if t497 < 0 then (some true) else ((laws_toLatch.f k a0_0 l0_1 l0_2).bind fun bt498 => ((spec_StandAt.f k bt498.1 bt498.2.1 bt498.2.2 a1).bind fun bt505 => ((laws_toLatch.f k a0_0 l0_1 l0_2).bind fun bt514 => ((impl_StandAt.f k bt514.1 bt514.2.1 bt514.2.2 a1).bind fun bt522 => ((laws_eqLatch.f k bt522.1 bt522.2.1 bt522.2.2.1 bt505.1 bt505.2.1 bt505.2.2.1).bind fun t531 => (if t531 = true then (laws_FnExactStandAt.j0 k a1 bt505.2.2.2 bt522.2.2.2 (bt522.2.2.2 != bt505.2.2.2) a0_0 l0_1 l0_2 bt505.1 bt505.2.1 bt505.2.2.1 bt514.1 bt514.2.1 bt514.2.2 bt522.1 bt522.2.1 bt522.2.2.1) else (laws_FnExactStandAt.j0 k a1 bt505.2.2.2 bt522.2.2.2 true a0_0 l0_1 l0_2 bt505.1 bt505.2.1 bt505.2.2.1 bt514.1 bt514.2.1 bt514.2.2 bt522.1 bt522.2.1 bt522.2.2.1)))))))) = some r := H
  have A3 := Aside0.mk A30
  clear A30
  by_cases c4 : t497 < 0
  · rw [if_pos c4] at H
    have c4b0 : decide (t497 < 0) = true := decide_eq_true c4
    clear c4
    obtain rfl := Option.some.inj H
    go_enter Try.func7, Try.ntmps7
    go_wp2_with (first | ((with_reducible refine gate_dst (N := 2) rfl ?_); refine box_event ?hg (N := 2) ?hd (cs := #[.int .i64 a0_0, .slice A0_1 l0_1.length c0_1, .slice A0_2 l0_2.length c0_2]) (t := 43) ?hr ?_; (case hd => rfl); (case hg => rfl); (case hr => first | (go_simp; done) | (go_simp; rfl)); intro gb496 hg w5 hbox hb; have n0_ := Aside0.mk (below_step (pkB HB.out) hb); have n1_ := Aside0.mk (hbox); have n2_ := Aside0.mk ((by rw [hg]; exact (below_size (pkB HB.out)) : w.heap.size ≤ gb496)); have n3_ := Aside0.mk ((by rw [hg]; exact (below_size (pkB HB.out)) : w.heap.size ≤ gb496)); clear HB; have HB := n0_; have BK496 := n1_; have GW496 := n2_; have GE496 := n3_; clear n0_ n1_ n2_ n3_; clear hb hbox hg; have hcz6_0 : w5.cell? ⟨gb496, 0, none⟩ = some (.int .i64 a0_0) := (blk_cell BK496.out 0).trans rfl; have hcz6_1 : w5.cell? ⟨gb496, 1, none⟩ = some (.slice A0_1 l0_1.length c0_1) := (blk_cell BK496.out 1).trans rfl; have hcz6_2 : w5.cell? ⟨gb496, 2, none⟩ = some (.slice A0_2 l0_2.length c0_2) := (blk_cell BK496.out 2).trans rfl; have hfz6_0 := blk_frozen BK496.out 0; have hfz6_1 := blk_frozen BK496.out 1; have hfz6_2 := blk_frozen BK496.out 2) | ((with_reducible refine gate_callee (f := 23) rfl ?_); refine goesL_ (some 18) rfl rfl Try.func23 (by kernel_rfl) rfl #[.agg #[.int .i64 a0_0, .slice A0_1 l0_1.length c0_1, .slice A0_2 l0_2.length c0_2], .int .i64 1048576] rfl (by (try simp only [List.map_toArray, List.map_cons, List.map_nil]); first | done | rfl | (simp only [List.length_drop, List.length_take]; rfl) | (go_simp; done) | (simp [*]; done)) ?_; (with_reducible refine (laws_szLatch.calls a0_0 _ _ l0_1 _ _ l0_2 1048576 t497 _ ?side1 ?side2 ?side3 ?side4 A3.out).mono ?_); (case side1 => exact pkC (Kd.C_below HR0_1.out HB.out)); (case side2 => exact HC0_1.out); (case side3 => exact pkC (Kd.C_below HR0_2.out HB.out)); (case side4 => exact HC0_2.out); rintro e w7 ⟨rfl, hb⟩; refine ⟨_, rfl, ?_⟩; have n0_ := Aside0.mk (blk_below (g := gb496) (o := .cells #[.int .i64 a0_0, .slice A0_1 l0_1.length c0_1, .slice A0_2 l0_2.length c0_2] 43 (0, 0)) (pkK BK496.out) hb); have n1_ := Aside0.mk (below_step (by repeat (first | (with_reducible first | exact HB.out | apply below_alloc | apply pw_below_drewN | apply below_drew1 | refine below_set ?_ GE496.out) | exact HB.out)) hb); clear BK496 HB; have BK496 := n0_; have HB := n1_; clear n0_ n1_; (try clear hb); (try clear hb2); (try clear hk); (try clear hi)))
    go_ret
    exact ⟨by first | rfl | (simp [errW_none, errW_some] <;> rfl) | (simp [*, errW_none, errW_some] <;> rfl), by repeat (first | (with_reducible first | exact HB.out | apply below_alloc | apply pw_below_drewN | apply below_drew1 | refine below_set ?_ GE496.out) | exact HB.out)⟩
  · rw [if_neg c4] at H
    have c4b0 : decide (t497 < 0) = false := decide_eq_false c4
    clear c4
    replace H := Option.bind_eq_some_iff.mp H
    obtain ⟨⟨t498, t499, t502⟩, A80, H⟩ := H
    replace H : ((spec_StandAt.f k t498 t499 t502 a1).bind fun bt505 => ((laws_toLatch.f k a0_0 l0_1 l0_2).bind fun bt514 => ((impl_StandAt.f k bt514.1 bt514.2.1 bt514.2.2 a1).bind fun bt522 => ((laws_eqLatch.f k bt522.1 bt522.2.1 bt522.2.2.1 bt505.1 bt505.2.1 bt505.2.2.1).bind fun t531 => (if t531 = true then (laws_FnExactStandAt.j0 k a1 bt505.2.2.2 bt522.2.2.2 (bt522.2.2.2 != bt505.2.2.2) a0_0 l0_1 l0_2 bt505.1 bt505.2.1 bt505.2.2.1 bt514.1 bt514.2.1 bt514.2.2 bt522.1 bt522.2.1 bt522.2.2.1) else (laws_FnExactStandAt.j0 k a1 bt505.2.2.2 bt522.2.2.2 true a0_0 l0_1 l0_2 bt505.1 bt505.2.1 bt505.2.2.1 bt514.1 bt514.2.1 bt514.2.2 bt522.1 bt522.2.1 bt522.2.2.1)))))) = some r := H
    have A8 := Aside0.mk A80
    clear A80
    replace H := Option.bind_eq_some_iff.mp H
    obtain ⟨⟨t505, t506, t509, t512⟩, A90, H⟩ := H
    replace H : ((laws_toLatch.f k a0_0 l0_1 l0_2).bind fun bt514 => ((impl_StandAt.f k bt514.1 bt514.2.1 bt514.2.2 a1).bind fun bt522 => ((laws_eqLatch.f k bt522.1 bt522.2.1 bt522.2.2.1 t505 t506 t509).bind fun t531 => (if t531 = true then (laws_FnExactStandAt.j0 k a1 t512 bt522.2.2.2 (bt522.2.2.2 != t512) a0_0 l0_1 l0_2 t505 t506 t509 bt514.1 bt514.2.1 bt514.2.2 bt522.1 bt522.2.1 bt522.2.2.1) else (laws_FnExactStandAt.j0 k a1 t512 bt522.2.2.2 true a0_0 l0_1 l0_2 t505 t506 t509 bt514.1 bt514.2.1 bt514.2.2 bt522.1 bt522.2.1 bt522.2.2.1))))) = some r := H
    have A9 := Aside0.mk A90
    clear A90
    replace H := Option.bind_eq_some_iff.mp H
    obtain ⟨⟨t514, t515, t518⟩, A100, H⟩ := H
    replace H : ((impl_StandAt.f k t514 t515 t518 a1).bind fun bt522 => ((laws_eqLatch.f k bt522.1 bt522.2.1 bt522.2.2.1 t505 t506 t509).bind fun t531 => (if t531 = true then (laws_FnExactStandAt.j0 k a1 t512 bt522.2.2.2 (bt522.2.2.2 != t512) a0_0 l0_1 l0_2 t505 t506 t509 t514 t515 t518 bt522.1 bt522.2.1 bt522.2.2.1) else (laws_FnExactStandAt.j0 k a1 t512 bt522.2.2.2 true a0_0 l0_1 l0_2 t505 t506 t509 t514 t515 t518 bt522.1 bt522.2.1 bt522.2.2.1)))) = some r := H
    have A10 := Aside0.mk A100
    clear A100
    replace H := Option.bind_eq_some_iff.mp H
    obtain ⟨⟨t522, t523, t526, t529⟩, A110, H⟩ := H
    replace H : ((laws_eqLatch.f k t522 t523 t526 t505 t506 t509).bind fun t531 => (if t531 = true then (laws_FnExactStandAt.j0 k a1 t512 t529 (t529 != t512) a0_0 l0_1 l0_2 t505 t506 t509 t514 t515 t518 t522 t523 t526) else (laws_FnExactStandAt.j0 k a1 t512 t529 true a0_0 l0_1 l0_2 t505 t506 t509 t514 t515 t518 t522 t523 t526))) = some r := H
    have A11 := Aside0.mk A110
    clear A110
    have HC12 := Aside0.mk H
    clear H
    go_enter Try.func7, Try.ntmps7
    go_upto_region 8 with (first | ((with_reducible refine gate_dst (N := 2) rfl ?_); refine box_event ?hg (N := 2) ?hd (cs := #[.int .i64 a0_0, .slice A0_1 l0_1.length c0_1, .slice A0_2 l0_2.length c0_2]) (t := 43) ?hr ?_; (case hd => rfl); (case hg => rfl); (case hr => first | (go_simp; done) | (go_simp; rfl)); intro gb496 hg w13 hbox hb; have n0_ := Aside0.mk (below_step (pkB HB.out) hb); have n1_ := Aside0.mk (hbox); have n2_ := Aside0.mk ((by rw [hg]; exact (below_size (pkB HB.out)) : w.heap.size ≤ gb496)); have n3_ := Aside0.mk ((by rw [hg]; exact (below_size (pkB HB.out)) : w.heap.size ≤ gb496)); clear HB; have HB := n0_; have BK496 := n1_; have GW496 := n2_; have GE496 := n3_; clear n0_ n1_ n2_ n3_; clear hb hbox hg; have hcz14_0 : w13.cell? ⟨gb496, 0, none⟩ = some (.int .i64 a0_0) := (blk_cell BK496.out 0).trans rfl; have hcz14_1 : w13.cell? ⟨gb496, 1, none⟩ = some (.slice A0_1 l0_1.length c0_1) := (blk_cell BK496.out 1).trans rfl; have hcz14_2 : w13.cell? ⟨gb496, 2, none⟩ = some (.slice A0_2 l0_2.length c0_2) := (blk_cell BK496.out 2).trans rfl; have hfz14_0 := blk_frozen BK496.out 0; have hfz14_1 := blk_frozen BK496.out 1; have hfz14_2 := blk_frozen BK496.out 2) | ((with_reducible refine gate_callee (f := 23) rfl ?_); refine goesL_ (some 18) rfl rfl Try.func23 (by kernel_rfl) rfl #[.agg #[.int .i64 a0_0, .slice A0_1 l0_1.length c0_1, .slice A0_2 l0_2.length c0_2], .int .i64 1048576] rfl (by (try simp only [List.map_toArray, List.map_cons, List.map_nil]); first | done | rfl | (simp only [List.length_drop, List.length_take]; rfl) | (go_simp; done) | (simp [*]; done)) ?_; (with_reducible refine (laws_szLatch.calls a0_0 _ _ l0_1 _ _ l0_2 1048576 t497 _ ?side1 ?side2 ?side3 ?side4 A3.out).mono ?_); (case side1 => exact pkC (Kd.C_below HR0_1.out HB.out)); (case side2 => exact HC0_1.out); (case side3 => exact pkC (Kd.C_below HR0_2.out HB.out)); (case side4 => exact HC0_2.out); rintro e w15 ⟨rfl, hb⟩; refine ⟨_, rfl, ?_⟩; have n0_ := Aside0.mk (blk_below (g := gb496) (o := .cells #[.int .i64 a0_0, .slice A0_1 l0_1.length c0_1, .slice A0_2 l0_2.length c0_2] 43 (0, 0)) (pkK BK496.out) hb); have n1_ := Aside0.mk (below_step (by repeat (first | (with_reducible first | exact HB.out | apply below_alloc | apply pw_below_drewN | apply below_drew1 | refine below_set ?_ GE496.out) | exact HB.out)) hb); clear BK496 HB; have BK496 := n0_; have HB := n1_; clear n0_ n1_; (try clear hb); (try clear hb2); (try clear hk); (try clear hi); have hcz16_0 : w15.cell? ⟨gb496, 0, none⟩ = some (.int .i64 a0_0) := (blk_cell BK496.out 0).trans rfl; have hcz16_1 : w15.cell? ⟨gb496, 1, none⟩ = some (.slice A0_1 l0_1.length c0_1) := (blk_cell BK496.out 1).trans rfl; have hcz16_2 : w15.cell? ⟨gb496, 2, none⟩ = some (.slice A0_2 l0_2.length c0_2) := (blk_cell BK496.out 2).trans rfl; have hfz16_0 := blk_frozen BK496.out 0; have hfz16_1 := blk_frozen BK496.out 1; have hfz16_2 := blk_frozen BK496.out 2) | ((with_reducible refine gate_callee (f := 25) rfl ?_); refine goesL_ (some 23) rfl rfl Try.func25 (by kernel_rfl) rfl #[.agg #[.int .i64 a0_0, .slice A0_1 l0_1.length c0_1, .slice A0_2 l0_2.length c0_2]] rfl (by (try simp only [List.map_toArray, List.map_cons, List.map_nil]); first | done | rfl | (simp only [List.length_drop, List.length_take]; rfl) | (go_simp; done) | (simp [*]; done)) ?_; (with_reducible refine (laws_toLatch.calls k a0_0 _ _ l0_1 _ _ l0_2 t498 t499 t502 _ ?side1 ?side2 ?side3 ?side4 A8.out).mono ?_); (case side1 => exact pkC (Kd.C_below HR0_1.out HB.out)); (case side2 => exact HC0_1.out); (case side3 => exact pkC (Kd.C_below HR0_2.out HB.out)); (case side4 => exact HC0_2.out); rintro e w17 ⟨v500, v503, rfl, ho0, ho1, hb⟩; refine ⟨_, rfl, ?_⟩; have n0_ := Aside0.mk (Kd.R_lower ho0 (below_size (by repeat (first | (with_reducible first | exact HB.out | apply below_alloc | apply pw_below_drewN | apply below_drew1 | refine below_set ?_ GE496.out) | exact HB.out)))); have n1_ := Aside0.mk (Kd.R_lower ho1 (below_size (by repeat (first | (with_reducible first | exact HB.out | apply below_alloc | apply pw_below_drewN | apply below_drew1 | refine below_set ?_ GE496.out) | exact HB.out)))); have n2_ := Aside0.mk (blk_below (g := gb496) (o := .cells #[.int .i64 a0_0, .slice A0_1 l0_1.length c0_1, .slice A0_2 l0_2.length c0_2] 43 (0, 0)) (pkK BK496.out) hb); have n3_ := Aside0.mk (below_step (by repeat (first | (with_reducible first | exact HB.out | apply below_alloc | apply pw_below_drewN | apply below_drew1 | refine below_set ?_ GE496.out) | exact HB.out)) hb); clear BK496 HB; have HO501 := n0_; have HO504 := n1_; have BK496 := n2_; have HB := n3_; clear n0_ n1_ n2_ n3_; (try clear hb); (try clear hb2); (try clear hk); (try clear hi); (try clear ho0); (try clear ho1); obtain ⟨Ao18, co18, eo18⟩ := Kd.R_slice HO501.out; subst eo18; obtain ⟨Ao19, co19, eo19⟩ := Kd.R_slice HO504.out; subst eo19) | ((with_reducible refine gate_callee (f := 35) rfl ?_); refine goesL_ (some 25) rfl rfl Try.func35 (by kernel_rfl) rfl #[.agg #[.int .i64 t498, .slice Ao18 t499.length co18, .slice Ao19 t502.length co19], .int .i64 a1] rfl (by (try simp only [List.map_toArray, List.map_cons, List.map_nil]); first | done | rfl | (simp only [List.length_drop, List.length_take]; rfl) | (go_simp; done) | (simp [*]; done)) ?_; (with_reducible refine (spec_StandAt.calls k t498 _ _ t499 _ _ t502 a1 t505 t506 t509 t512 _ ?side1 ?side2 ?side3 ?side4 A9.out).mono ?_); (case side1 => exact pkC (Kd.R_reads' HO501.out).2.2); (case side2 => exact (Kd.R_reads' HO501.out).2.1); (case side3 => exact pkC (Kd.R_reads' HO504.out).2.2); (case side4 => exact (Kd.R_reads' HO504.out).2.1); rintro e w20 ⟨v507, v510, rfl, ho0, ho1, hb⟩; refine ⟨_, rfl, ?_⟩; have n0_ := Aside0.mk (Kd.R_mono (Kd.R_told (Kd.R_told (Kd.R_old (pkR HO501.out) hb) (Kd.R_base ho0)) (Kd.R_base ho1)) (fun _ h_ => h_.1)); have n1_ := Aside0.mk (Kd.R_mono (Kd.R_told (Kd.R_told (Kd.R_old (pkR HO504.out) hb) (Kd.R_base ho0)) (Kd.R_base ho1)) (fun _ h_ => h_.1)); have n2_ := Aside0.mk (Kd.R_lower (Kd.R_new' (Kd.R_new' ho0 (Kd.R_lt (pkR HO501.out))) (Kd.R_lt (pkR HO504.out))) (below_size (by repeat (first | (with_reducible first | exact HB.out | apply below_alloc | apply pw_below_drewN | apply below_drew1 | refine below_set ?_ GE496.out) | exact HB.out)))); have n3_ := Aside0.mk (Kd.R_lower (Kd.R_new' (Kd.R_new' ho1 (Kd.R_lt (pkR HO501.out))) (Kd.R_lt (pkR HO504.out))) (below_size (by repeat (first | (with_reducible first | exact HB.out | apply below_alloc | apply pw_below_drewN | apply below_drew1 | refine below_set ?_ GE496.out) | exact HB.out)))); have n4_ := Aside0.mk (blk_below (g := gb496) (o := .cells #[.int .i64 a0_0, .slice A0_1 l0_1.length c0_1, .slice A0_2 l0_2.length c0_2] 43 (0, 0)) (pkK BK496.out) hb); have n5_ := Aside0.mk (below_step (by repeat (first | (with_reducible first | exact HB.out | apply below_alloc | apply pw_below_drewN | apply below_drew1 | refine below_set ?_ GE496.out) | exact HB.out)) hb); clear HO501 HO504 BK496 HB; have HO501 := n0_; have HO504 := n1_; have HO508 := n2_; have HO511 := n3_; have BK496 := n4_; have HB := n5_; clear n0_ n1_ n2_ n3_ n4_ n5_; (try clear hb); (try clear hb2); (try clear hk); (try clear hi); (try clear ho0); (try clear ho1)) | ((with_reducible refine gate_dst (N := 6) rfl ?_); refine box_event ?hg (N := 6) ?hd (cs := #[.int .i64 0, .slice none 0 0, .slice none 0 0]) (t := 46) ?hr ?_; (case hd => rfl); (case hg => rfl); (case hr => first | (go_simp; done) | (go_simp; rfl)); intro gb513 hg w21 hbox hb; have n0_ := Aside0.mk (Kd.R_below (pkR HO501.out) hb); have n1_ := Aside0.mk (Kd.R_below (pkR HO504.out) hb); have n2_ := Aside0.mk (Kd.R_below (pkR HO508.out) hb); have n3_ := Aside0.mk (Kd.R_below (pkR HO511.out) hb); have n4_ := Aside0.mk (blk_below (g := gb496) (o := .cells #[.int .i64 a0_0, .slice A0_1 l0_1.length c0_1, .slice A0_2 l0_2.length c0_2] 43 (0, 0)) (pkK BK496.out) hb); have n5_ := Aside0.mk (below_step (by repeat (first | (with_reducible first | exact HB.out | apply below_alloc | apply pw_below_drewN | apply below_drew1 | refine below_set ?_ GE496.out) | exact HB.out)) hb); have n6_ := Aside0.mk (hbox); have n7_ := Aside0.mk ((by rw [hg]; exact (below_size (by repeat (first | (with_reducible first | exact HB.out | apply below_alloc | apply pw_below_drewN | apply below_drew1 | refine below_set ?_ GE496.out) | exact HB.out))) : w.heap.size ≤ gb513)); have n8_ := Aside0.mk ((by rw [hg]; exact (below_size (by repeat (first | (with_reducible first | exact HB.out | apply below_alloc | apply pw_below_drewN | apply below_drew1 | refine below_set ?_ GE496.out) | exact HB.out))) : w.heap.size ≤ gb513)); have n9_ := Aside0.mk ((by rw [hg]; exact Nat.ne_of_lt (blk_lt (g := gb496) (o := .cells #[.int .i64 a0_0, .slice A0_1 l0_1.length c0_1, .slice A0_2 l0_2.length c0_2] 43 (0, 0)) (pkK BK496.out)) : gb496 ≠ gb513)); have n10_ := Aside0.mk ((by rw [hg]; exact Nat.ne_of_gt (blk_lt (g := gb496) (o := .cells #[.int .i64 a0_0, .slice A0_1 l0_1.length c0_1, .slice A0_2 l0_2.length c0_2] 43 (0, 0)) (pkK BK496.out)) : gb513 ≠ gb496)); clear HO501 HO504 HO508 HO511 BK496 HB; have HO501 := n0_; have HO504 := n1_; have HO508 := n2_; have HO511 := n3_; have BK496 := n4_; have HB := n5_; have BK513 := n6_; have GW513 := n7_; have GE513 := n8_; have NB496_513 := n9_; have NB513_496 := n10_; clear n0_ n1_ n2_ n3_ n4_ n5_ n6_ n7_ n8_ n9_ n10_; clear hb hbox hg; have hnb22 := NB513_496.out; have hnc22 := NB496_513.out; have hcz23_0 : w21.cell? ⟨gb513, 0, none⟩ = some (.int .i64 0) := (blk_cell BK513.out 0).trans rfl; have hcz23_1 : w21.cell? ⟨gb513, 1, none⟩ = some (.slice none 0 0) := (blk_cell BK513.out 1).trans rfl; have hcz23_2 : w21.cell? ⟨gb513, 2, none⟩ = some (.slice none 0 0) := (blk_cell BK513.out 2).trans rfl; have hfz23_0 := blk_frozen BK513.out 0; have hfz23_1 := blk_frozen BK513.out 1; have hfz23_2 := blk_frozen BK513.out 2; obtain ⟨Ao24, co24, eo24⟩ := Kd.R_slice HO508.out; subst eo24; obtain ⟨Ao25, co25, eo25⟩ := Kd.R_slice HO511.out; subst eo25; have hcz26_0 : w21.cell? ⟨gb496, 0, none⟩ = some (.int .i64 a0_0) := (blk_cell BK496.out 0).trans rfl; have hcz26_1 : w21.cell? ⟨gb496, 1, none⟩ = some (.slice A0_1 l0_1.length c0_1) := (blk_cell BK496.out 1).trans rfl; have hcz26_2 : w21.cell? ⟨gb496, 2, none⟩ = some (.slice A0_2 l0_2.length c0_2) := (blk_cell BK496.out 2).trans rfl; have hfz26_0 := blk_frozen BK496.out 0; have hfz26_1 := blk_frozen BK496.out 1; have hfz26_2 := blk_frozen BK496.out 2) | ((with_reducible refine gate_callee (f := 25) rfl ?_); refine goesL_ (some 29) rfl rfl Try.func25 (by kernel_rfl) rfl #[.agg #[.int .i64 a0_0, .slice A0_1 l0_1.length c0_1, .slice A0_2 l0_2.length c0_2]] rfl (by (try simp only [List.map_toArray, List.map_cons, List.map_nil]); first | done | rfl | (simp only [List.length_drop, List.length_take]; rfl) | (go_simp; done) | (simp [*]; done)) ?_; (with_reducible refine (laws_toLatch.calls k a0_0 _ _ l0_1 _ _ l0_2 t514 t515 t518 _ ?side1 ?side2 ?side3 ?side4 A10.out).mono ?_); (case side1 => exact Kd.C_below HR0_1.out (by repeat (first | (with_reducible first | exact HB.out | apply below_alloc | apply pw_below_drewN | apply below_drew1 | refine below_set ?_ GE496.out | refine below_set ?_ GE513.out) | exact HB.out))); (case side2 => exact HC0_1.out); (case side3 => exact Kd.C_below HR0_2.out (by repeat (first | (with_reducible first | exact HB.out | apply below_alloc | apply pw_below_drewN | apply below_drew1 | refine below_set ?_ GE496.out | refine below_set ?_ GE513.out) | exact HB.out))); (case side4 => exact HC0_2.out); rintro e w27 ⟨v516, v519, rfl, ho0, ho1, hb⟩; refine ⟨_, rfl, ?_⟩; have n0_ := Aside0.mk (Kd.R_mono (Kd.R_told (Kd.R_told (Kd.R_old (by (with_reducible repeat (first | apply Kd.R_alloc | apply Kd.R_drewN | apply Kd.R_drew)); exact (Kd.R_mono (Kd.R_far (p := ⟨gb513, 2, none⟩) (Kd.R_far (p := ⟨gb513, 1, none⟩) (Kd.R_far (p := ⟨gb513, 0, none⟩) (Kd.R_types HO501.out BK513.out (by decide)) (fun _ hk => hk.2) (.int .i64 t505)) (fun _ hk => hk.2) (.slice Ao24 t506.length co24)) (fun _ hk => hk.2) (.slice Ao25 t509.length co25)) (fun _ h_ => h_.1))) hb) (Kd.R_base ho0)) (Kd.R_base ho1)) (fun _ h_ => h_.1)); have n1_ := Aside0.mk (Kd.R_mono (Kd.R_told (Kd.R_told (Kd.R_old (by (with_reducible repeat (first | apply Kd.R_alloc | apply Kd.R_drewN | apply Kd.R_drew)); exact (Kd.R_mono (Kd.R_far (p := ⟨gb513, 2, none⟩) (Kd.R_far (p := ⟨gb513, 1, none⟩) (Kd.R_far (p := ⟨gb513, 0, none⟩) (Kd.R_types HO504.out BK513.out (by decide)) (fun _ hk => hk.2) (.int .i64 t505)) (fun _ hk => hk.2) (.slice Ao24 t506.length co24)) (fun _ hk => hk.2) (.slice Ao25 t509.length co25)) (fun _ h_ => h_.1))) hb) (Kd.R_base ho0)) (Kd.R_base ho1)) (fun _ h_ => h_.1)); have n2_ := Aside0.mk (Kd.R_mono (Kd.R_told (Kd.R_told (Kd.R_old (by (with_reducible repeat (first | apply Kd.R_alloc | apply Kd.R_drewN | apply Kd.R_drew)); exact (Kd.R_mono (Kd.R_far (p := ⟨gb513, 2, none⟩) (Kd.R_far (p := ⟨gb513, 1, none⟩) (Kd.R_far (p := ⟨gb513, 0, none⟩) (Kd.R_types HO508.out BK513.out (by decide)) (fun _ hk => hk.2) (.int .i64 t505)) (fun _ hk => hk.2) (.slice Ao24 t506.length co24)) (fun _ hk => hk.2) (.slice Ao25 t509.length co25)) (fun _ h_ => h_.1))) hb) (Kd.R_base ho0)) (Kd.R_base ho1)) (fun _ h_ => h_.1)); have n3_ := Aside0.mk (Kd.R_mono (Kd.R_told (Kd.R_told (Kd.R_old (by (with_reducible repeat (first | apply Kd.R_alloc | apply Kd.R_drewN | apply Kd.R_drew)); exact (Kd.R_mono (Kd.R_far (p := ⟨gb513, 2, none⟩) (Kd.R_far (p := ⟨gb513, 1, none⟩) (Kd.R_far (p := ⟨gb513, 0, none⟩) (Kd.R_types HO511.out BK513.out (by decide)) (fun _ hk => hk.2) (.int .i64 t505)) (fun _ hk => hk.2) (.slice Ao24 t506.length co24)) (fun _ hk => hk.2) (.slice Ao25 t509.length co25)) (fun _ h_ => h_.1))) hb) (Kd.R_base ho0)) (Kd.R_base ho1)) (fun _ h_ => h_.1)); have n4_ := Aside0.mk (Kd.R_lower (Kd.R_new' (Kd.R_new' (Kd.R_new' (Kd.R_new' ho0 (Kd.R_lt (by (with_reducible repeat (first | apply Kd.R_alloc | apply Kd.R_drewN | apply Kd.R_drew)); exact (Kd.R_mono (Kd.R_far (p := ⟨gb513, 2, none⟩) (Kd.R_far (p := ⟨gb513, 1, none⟩) (Kd.R_far (p := ⟨gb513, 0, none⟩) (Kd.R_types HO501.out BK513.out (by decide)) (fun _ hk => hk.2) (.int .i64 t505)) (fun _ hk => hk.2) (.slice Ao24 t506.length co24)) (fun _ hk => hk.2) (.slice Ao25 t509.length co25)) (fun _ h_ => h_.1))))) (Kd.R_lt (by (with_reducible repeat (first | apply Kd.R_alloc | apply Kd.R_drewN | apply Kd.R_drew)); exact (Kd.R_mono (Kd.R_far (p := ⟨gb513, 2, none⟩) (Kd.R_far (p := ⟨gb513, 1, none⟩) (Kd.R_far (p := ⟨gb513, 0, none⟩) (Kd.R_types HO504.out BK513.out (by decide)) (fun _ hk => hk.2) (.int .i64 t505)) (fun _ hk => hk.2) (.slice Ao24 t506.length co24)) (fun _ hk => hk.2) (.slice Ao25 t509.length co25)) (fun _ h_ => h_.1))))) (Kd.R_lt (by (with_reducible repeat (first | apply Kd.R_alloc | apply Kd.R_drewN | apply Kd.R_drew)); exact (Kd.R_mono (Kd.R_far (p := ⟨gb513, 2, none⟩) (Kd.R_far (p := ⟨gb513, 1, none⟩) (Kd.R_far (p := ⟨gb513, 0, none⟩) (Kd.R_types HO508.out BK513.out (by decide)) (fun _ hk => hk.2) (.int .i64 t505)) (fun _ hk => hk.2) (.slice Ao24 t506.length co24)) (fun _ hk => hk.2) (.slice Ao25 t509.length co25)) (fun _ h_ => h_.1))))) (Kd.R_lt (by (with_reducible repeat (first | apply Kd.R_alloc | apply Kd.R_drewN | apply Kd.R_drew)); exact (Kd.R_mono (Kd.R_far (p := ⟨gb513, 2, none⟩) (Kd.R_far (p := ⟨gb513, 1, none⟩) (Kd.R_far (p := ⟨gb513, 0, none⟩) (Kd.R_types HO511.out BK513.out (by decide)) (fun _ hk => hk.2) (.int .i64 t505)) (fun _ hk => hk.2) (.slice Ao24 t506.length co24)) (fun _ hk => hk.2) (.slice Ao25 t509.length co25)) (fun _ h_ => h_.1))))) (below_size (by repeat (first | (with_reducible first | exact HB.out | apply below_alloc | apply pw_below_drewN | apply below_drew1 | refine below_set ?_ GE496.out | refine below_set ?_ GE513.out) | exact HB.out)))); have n5_ := Aside0.mk (Kd.R_lower (Kd.R_new' (Kd.R_new' (Kd.R_new' (Kd.R_new' ho1 (Kd.R_lt (by (with_reducible repeat (first | apply Kd.R_alloc | apply Kd.R_drewN | apply Kd.R_drew)); exact (Kd.R_mono (Kd.R_far (p := ⟨gb513, 2, none⟩) (Kd.R_far (p := ⟨gb513, 1, none⟩) (Kd.R_far (p := ⟨gb513, 0, none⟩) (Kd.R_types HO501.out BK513.out (by decide)) (fun _ hk => hk.2) (.int .i64 t505)) (fun _ hk => hk.2) (.slice Ao24 t506.length co24)) (fun _ hk => hk.2) (.slice Ao25 t509.length co25)) (fun _ h_ => h_.1))))) (Kd.R_lt (by (with_reducible repeat (first | apply Kd.R_alloc | apply Kd.R_drewN | apply Kd.R_drew)); exact (Kd.R_mono (Kd.R_far (p := ⟨gb513, 2, none⟩) (Kd.R_far (p := ⟨gb513, 1, none⟩) (Kd.R_far (p := ⟨gb513, 0, none⟩) (Kd.R_types HO504.out BK513.out (by decide)) (fun _ hk => hk.2) (.int .i64 t505)) (fun _ hk => hk.2) (.slice Ao24 t506.length co24)) (fun _ hk => hk.2) (.slice Ao25 t509.length co25)) (fun _ h_ => h_.1))))) (Kd.R_lt (by (with_reducible repeat (first | apply Kd.R_alloc | apply Kd.R_drewN | apply Kd.R_drew)); exact (Kd.R_mono (Kd.R_far (p := ⟨gb513, 2, none⟩) (Kd.R_far (p := ⟨gb513, 1, none⟩) (Kd.R_far (p := ⟨gb513, 0, none⟩) (Kd.R_types HO508.out BK513.out (by decide)) (fun _ hk => hk.2) (.int .i64 t505)) (fun _ hk => hk.2) (.slice Ao24 t506.length co24)) (fun _ hk => hk.2) (.slice Ao25 t509.length co25)) (fun _ h_ => h_.1))))) (Kd.R_lt (by (with_reducible repeat (first | apply Kd.R_alloc | apply Kd.R_drewN | apply Kd.R_drew)); exact (Kd.R_mono (Kd.R_far (p := ⟨gb513, 2, none⟩) (Kd.R_far (p := ⟨gb513, 1, none⟩) (Kd.R_far (p := ⟨gb513, 0, none⟩) (Kd.R_types HO511.out BK513.out (by decide)) (fun _ hk => hk.2) (.int .i64 t505)) (fun _ hk => hk.2) (.slice Ao24 t506.length co24)) (fun _ hk => hk.2) (.slice Ao25 t509.length co25)) (fun _ h_ => h_.1))))) (below_size (by repeat (first | (with_reducible first | exact HB.out | apply below_alloc | apply pw_below_drewN | apply below_drew1 | refine below_set ?_ GE496.out | refine below_set ?_ GE513.out) | exact HB.out)))); have n6_ := Aside0.mk (blk_below (g := gb496) (o := .cells #[.int .i64 a0_0, .slice A0_1 l0_1.length c0_1, .slice A0_2 l0_2.length c0_2] 43 (0, 0)) (by (with_reducible repeat (first | refine blk_drewN ?_ _ | refine blk_drew ?_ | refine blk_alloc ?_ _)); refine blk_far ?_ NB496_513.out _; (with_reducible repeat (first | refine blk_drewN ?_ _ | refine blk_drew ?_ | refine blk_alloc ?_ _)); refine blk_far ?_ NB496_513.out _; (with_reducible repeat (first | refine blk_drewN ?_ _ | refine blk_drew ?_ | refine blk_alloc ?_ _)); refine blk_far ?_ NB496_513.out _; (with_reducible repeat (first | refine blk_drewN ?_ _ | refine blk_drew ?_ | refine blk_alloc ?_ _)); exact BK496.out) hb); have n7_ := Aside0.mk (blk_below (g := gb513) (o := .cells #[.int .i64 t505, .slice Ao24 t506.length co24, .slice Ao25 t509.length co25] 46 (0, 0)) (by (with_reducible repeat (first | refine blk_drewN ?_ _ | refine blk_drew ?_ | refine blk_alloc ?_ _)); refine blk_put (cs := #[.int .i64 t505, .slice Ao24 t506.length co24, .slice none 0 0]) ?_ 2 _ rfl; (with_reducible repeat (first | refine blk_drewN ?_ _ | refine blk_drew ?_ | refine blk_alloc ?_ _)); refine blk_put (cs := #[.int .i64 t505, .slice none 0 0, .slice none 0 0]) ?_ 1 _ rfl; (with_reducible repeat (first | refine blk_drewN ?_ _ | refine blk_drew ?_ | refine blk_alloc ?_ _)); refine blk_put (cs := #[.int .i64 0, .slice none 0 0, .slice none 0 0]) ?_ 0 _ rfl; (with_reducible repeat (first | refine blk_drewN ?_ _ | refine blk_drew ?_ | refine blk_alloc ?_ _)); exact BK513.out) hb); have n8_ := Aside0.mk (below_step (by repeat (first | (with_reducible first | exact HB.out | apply below_alloc | apply pw_below_drewN | apply below_drew1 | refine below_set ?_ GE496.out | refine below_set ?_ GE513.out) | exact HB.out)) hb); clear HO501 HO504 HO508 HO511 BK496 BK513 HB; have HO501 := n0_; have HO504 := n1_; have HO508 := n2_; have HO511 := n3_; have HO517 := n4_; have HO520 := n5_; have BK496 := n6_; have BK513 := n7_; have HB := n8_; clear n0_ n1_ n2_ n3_ n4_ n5_ n6_ n7_ n8_; (try clear hb); (try clear hb2); (try clear hk); (try clear hi); (try clear ho0); (try clear ho1)) | ((with_reducible refine gate_dst (N := 8) rfl ?_); refine box_event ?hg (N := 8) ?hd (cs := #[.int .i64 0, .slice none 0 0, .slice none 0 0]) (t := 46) ?hr ?_; (case hd => rfl); (case hg => rfl); (case hr => first | (go_simp; done) | (go_simp; rfl)); intro gb521 hg w28 hbox hb; have n0_ := Aside0.mk (Kd.R_below (pkR HO501.out) hb); have n1_ := Aside0.mk (Kd.R_below (pkR HO504.out) hb); have n2_ := Aside0.mk (Kd.R_below (pkR HO508.out) hb); have n3_ := Aside0.mk (Kd.R_below (pkR HO511.out) hb); have n4_ := Aside0.mk (Kd.R_below (pkR HO517.out) hb); have n5_ := Aside0.mk (Kd.R_below (pkR HO520.out) hb); have n6_ := Aside0.mk (blk_below (g := gb496) (o := .cells #[.int .i64 a0_0, .slice A0_1 l0_1.length c0_1, .slice A0_2 l0_2.length c0_2] 43 (0, 0)) (pkK BK496.out) hb); have n7_ := Aside0.mk (blk_below (g := gb513) (o := .cells #[.int .i64 t505, .slice Ao24 t506.length co24, .slice Ao25 t509.length co25] 46 (0, 0)) (pkK BK513.out) hb); have n8_ := Aside0.mk (below_step (by repeat (first | (with_reducible first | exact HB.out | apply below_alloc | apply pw_below_drewN | apply below_drew1 | refine below_set ?_ GE496.out | refine below_set ?_ GE513.out) | exact HB.out)) hb); have n9_ := Aside0.mk (hbox); have n10_ := Aside0.mk ((by rw [hg]; exact (below_size (by repeat (first | (with_reducible first | exact HB.out | apply below_alloc | apply pw_below_drewN | apply below_drew1 | refine below_set ?_ GE496.out | refine below_set ?_ GE513.out) | exact HB.out))) : w.heap.size ≤ gb521)); have n11_ := Aside0.mk ((by rw [hg]; exact (below_size (by repeat (first | (with_reducible first | exact HB.out | apply below_alloc | apply pw_below_drewN | apply below_drew1 | refine below_set ?_ GE496.out | refine below_set ?_ GE513.out) | exact HB.out))) : w.heap.size ≤ gb521)); have n12_ := Aside0.mk ((by rw [hg]; exact Nat.ne_of_lt (blk_lt (g := gb496) (o := .cells #[.int .i64 a0_0, .slice A0_1 l0_1.length c0_1, .slice A0_2 l0_2.length c0_2] 43 (0, 0)) (pkK BK496.out)) : gb496 ≠ gb521)); have n13_ := Aside0.mk ((by rw [hg]; exact Nat.ne_of_gt (blk_lt (g := gb496) (o := .cells #[.int .i64 a0_0, .slice A0_1 l0_1.length c0_1, .slice A0_2 l0_2.length c0_2] 43 (0, 0)) (pkK BK496.out)) : gb521 ≠ gb496)); have n14_ := Aside0.mk ((by rw [hg]; exact Nat.ne_of_lt (blk_lt (g := gb513) (o := .cells #[.int .i64 t505, .slice Ao24 t506.length co24, .slice Ao25 t509.length co25] 46 (0, 0)) (pkK BK513.out)) : gb513 ≠ gb521)); have n15_ := Aside0.mk ((by rw [hg]; exact Nat.ne_of_gt (blk_lt (g := gb513) (o := .cells #[.int .i64 t505, .slice Ao24 t506.length co24, .slice Ao25 t509.length co25] 46 (0, 0)) (pkK BK513.out)) : gb521 ≠ gb513)); clear HO501 HO504 HO508 HO511 HO517 HO520 BK496 BK513 HB; have HO501 := n0_; have HO504 := n1_; have HO508 := n2_; have HO511 := n3_; have HO517 := n4_; have HO520 := n5_; have BK496 := n6_; have BK513 := n7_; have HB := n8_; have BK521 := n9_; have GW521 := n10_; have GE521 := n11_; have NB496_521 := n12_; have NB521_496 := n13_; have NB513_521 := n14_; have NB521_513 := n15_; clear n0_ n1_ n2_ n3_ n4_ n5_ n6_ n7_ n8_ n9_ n10_ n11_ n12_ n13_ n14_ n15_; clear hb hbox hg; have hnb29 := NB521_496.out; have hnc29 := NB496_521.out; have hnb30 := NB521_513.out; have hnc30 := NB513_521.out; have hcz31_0 : w28.cell? ⟨gb521, 0, none⟩ = some (.int .i64 0) := (blk_cell BK521.out 0).trans rfl; have hcz31_1 : w28.cell? ⟨gb521, 1, none⟩ = some (.slice none 0 0) := (blk_cell BK521.out 1).trans rfl; have hcz31_2 : w28.cell? ⟨gb521, 2, none⟩ = some (.slice none 0 0) := (blk_cell BK521.out 2).trans rfl; have hfz31_0 := blk_frozen BK521.out 0; have hfz31_1 := blk_frozen BK521.out 1; have hfz31_2 := blk_frozen BK521.out 2; obtain ⟨Ao32, co32, eo32⟩ := Kd.R_slice HO517.out; subst eo32; obtain ⟨Ao33, co33, eo33⟩ := Kd.R_slice HO520.out; subst eo33) | ((with_reducible refine gate_callee (f := 28) rfl ?_); refine goesL_ (some 33) rfl rfl Try.func28 (by kernel_rfl) rfl #[.agg #[.int .i64 t514, .slice Ao32 t515.length co32, .slice Ao33 t518.length co33], .int .i64 a1] rfl (by (try simp only [List.map_toArray, List.map_cons, List.map_nil]); first | done | rfl | (simp only [List.length_drop, List.length_take]; rfl) | (go_simp; done) | (simp [*]; done)) ?_; (with_reducible refine (impl_StandAt.calls k t514 _ _ t515 _ _ t518 a1 t522 t523 t526 t529 _ ?side1 ?side2 ?side3 ?side4 A11.out).mono ?_); (case side1 => refine (Kd.R_reads' (e := 3) (base := w.heap.size) (ok := fun k_ => ((((some k_ ≠ (.slice Ao33 t518.length co33 : Value).ownBlock ∧ some k_ ≠ (.slice Ao18 t499.length co18 : Value).ownBlock) ∧ some k_ ≠ (.slice Ao19 t502.length co19 : Value).ownBlock) ∧ some k_ ≠ (.slice Ao24 t506.length co24 : Value).ownBlock) ∧ some k_ ≠ (.slice Ao25 t509.length co25 : Value).ownBlock)) (n := t515.length) (c := co32) ?_).2.2; exact (by (with_reducible repeat (first | apply Kd.R_alloc | apply Kd.R_drewN | apply Kd.R_drew)); exact (Kd.R_mono (Kd.R_far (p := ⟨gb521, 2, none⟩) (Kd.R_far (p := ⟨gb521, 1, none⟩) (Kd.R_far (p := ⟨gb521, 0, none⟩) (Kd.R_types HO517.out BK521.out (by decide)) (fun _ hk => hk.2) (.int .i64 t514)) (fun _ hk => hk.2) (.slice Ao32 t515.length co32)) (fun _ hk => hk.2) (.slice Ao33 t518.length co33)) (fun _ h_ => h_.1)))); (case side2 => exact (Kd.R_reads' HO517.out).2.1); (case side3 => refine (Kd.R_reads' (e := 3) (base := w.heap.size) (ok := fun k_ => ((((some k_ ≠ (.slice Ao32 t515.length co32 : Value).ownBlock ∧ some k_ ≠ (.slice Ao18 t499.length co18 : Value).ownBlock) ∧ some k_ ≠ (.slice Ao19 t502.length co19 : Value).ownBlock) ∧ some k_ ≠ (.slice Ao24 t506.length co24 : Value).ownBlock) ∧ some k_ ≠ (.slice Ao25 t509.length co25 : Value).ownBlock)) (n := t518.length) (c := co33) ?_).2.2; exact (by (with_reducible repeat (first | apply Kd.R_alloc | apply Kd.R_drewN | apply Kd.R_drew)); exact (Kd.R_mono (Kd.R_far (p := ⟨gb521, 2, none⟩) (Kd.R_far (p := ⟨gb521, 1, none⟩) (Kd.R_far (p := ⟨gb521, 0, none⟩) (Kd.R_types HO520.out BK521.out (by decide)) (fun _ hk => hk.2) (.int .i64 t514)) (fun _ hk => hk.2) (.slice Ao32 t515.length co32)) (fun _ hk => hk.2) (.slice Ao33 t518.length co33)) (fun _ h_ => h_.1)))); (case side4 => exact (Kd.R_reads' HO520.out).2.1); rintro e w34 ⟨v524, v527, rfl, ho0, ho1, hb⟩; refine ⟨_, rfl, ?_⟩; have n0_ := Aside0.mk (Kd.R_mono (Kd.R_told (Kd.R_told (Kd.R_old (by (with_reducible repeat (first | apply Kd.R_alloc | apply Kd.R_drewN | apply Kd.R_drew)); exact (Kd.R_mono (Kd.R_far (p := ⟨gb521, 2, none⟩) (Kd.R_far (p := ⟨gb521, 1, none⟩) (Kd.R_far (p := ⟨gb521, 0, none⟩) (Kd.R_types HO501.out BK521.out (by decide)) (fun _ hk => hk.2) (.int .i64 t514)) (fun _ hk => hk.2) (.slice Ao32 t515.length co32)) (fun _ hk => hk.2) (.slice Ao33 t518.length co33)) (fun _ h_ => h_.1))) hb) (Kd.R_base ho0)) (Kd.R_base ho1)) (fun _ h_ => h_.1)); have n1_ := Aside0.mk (Kd.R_mono (Kd.R_told (Kd.R_told (Kd.R_old (by (with_reducible repeat (first | apply Kd.R_alloc | apply Kd.R_drewN | apply Kd.R_drew)); exact (Kd.R_mono (Kd.R_far (p := ⟨gb521, 2, none⟩) (Kd.R_far (p := ⟨gb521, 1, none⟩) (Kd.R_far (p := ⟨gb521, 0, none⟩) (Kd.R_types HO504.out BK521.out (by decide)) (fun _ hk => hk.2) (.int .i64 t514)) (fun _ hk => hk.2) (.slice Ao32 t515.length co32)) (fun _ hk => hk.2) (.slice Ao33 t518.length co33)) (fun _ h_ => h_.1))) hb) (Kd.R_base ho0)) (Kd.R_base ho1)) (fun _ h_ => h_.1)); have n2_ := Aside0.mk (Kd.R_mono (Kd.R_told (Kd.R_told (Kd.R_old (by (with_reducible repeat (first | apply Kd.R_alloc | apply Kd.R_drewN | apply Kd.R_drew)); exact (Kd.R_mono (Kd.R_far (p := ⟨gb521, 2, none⟩) (Kd.R_far (p := ⟨gb521, 1, none⟩) (Kd.R_far (p := ⟨gb521, 0, none⟩) (Kd.R_types HO508.out BK521.out (by decide)) (fun _ hk => hk.2) (.int .i64 t514)) (fun _ hk => hk.2) (.slice Ao32 t515.length co32)) (fun _ hk => hk.2) (.slice Ao33 t518.length co33)) (fun _ h_ => h_.1))) hb) (Kd.R_base ho0)) (Kd.R_base ho1)) (fun _ h_ => h_.1)); have n3_ := Aside0.mk (Kd.R_mono (Kd.R_told (Kd.R_told (Kd.R_old (by (with_reducible repeat (first | apply Kd.R_alloc | apply Kd.R_drewN | apply Kd.R_drew)); exact (Kd.R_mono (Kd.R_far (p := ⟨gb521, 2, none⟩) (Kd.R_far (p := ⟨gb521, 1, none⟩) (Kd.R_far (p := ⟨gb521, 0, none⟩) (Kd.R_types HO511.out BK521.out (by decide)) (fun _ hk => hk.2) (.int .i64 t514)) (fun _ hk => hk.2) (.slice Ao32 t515.length co32)) (fun _ hk => hk.2) (.slice Ao33 t518.length co33)) (fun _ h_ => h_.1))) hb) (Kd.R_base ho0)) (Kd.R_base ho1)) (fun _ h_ => h_.1)); have n4_ := Aside0.mk (Kd.R_mono (Kd.R_told (Kd.R_told (Kd.R_old (by (with_reducible repeat (first | apply Kd.R_alloc | apply Kd.R_drewN | apply Kd.R_drew)); exact (Kd.R_mono (Kd.R_far (p := ⟨gb521, 2, none⟩) (Kd.R_far (p := ⟨gb521, 1, none⟩) (Kd.R_far (p := ⟨gb521, 0, none⟩) (Kd.R_types HO517.out BK521.out (by decide)) (fun _ hk => hk.2) (.int .i64 t514)) (fun _ hk => hk.2) (.slice Ao32 t515.length co32)) (fun _ hk => hk.2) (.slice Ao33 t518.length co33)) (fun _ h_ => h_.1))) hb) (Kd.R_base ho0)) (Kd.R_base ho1)) (fun _ h_ => h_.1)); have n5_ := Aside0.mk (Kd.R_mono (Kd.R_told (Kd.R_told (Kd.R_old (by (with_reducible repeat (first | apply Kd.R_alloc | apply Kd.R_drewN | apply Kd.R_drew)); exact (Kd.R_mono (Kd.R_far (p := ⟨gb521, 2, none⟩) (Kd.R_far (p := ⟨gb521, 1, none⟩) (Kd.R_far (p := ⟨gb521, 0, none⟩) (Kd.R_types HO520.out BK521.out (by decide)) (fun _ hk => hk.2) (.int .i64 t514)) (fun _ hk => hk.2) (.slice Ao32 t515.length co32)) (fun _ hk => hk.2) (.slice Ao33 t518.length co33)) (fun _ h_ => h_.1))) hb) (Kd.R_base ho0)) (Kd.R_base ho1)) (fun _ h_ => h_.1)); have n6_ := Aside0.mk (Kd.R_lower (Kd.R_new' (Kd.R_new' (Kd.R_new' (Kd.R_new' (Kd.R_new' (Kd.R_new' ho0 (Kd.R_lt (by (with_reducible repeat (first | apply Kd.R_alloc | apply Kd.R_drewN | apply Kd.R_drew)); exact (Kd.R_mono (Kd.R_far (p := ⟨gb521, 2, none⟩) (Kd.R_far (p := ⟨gb521, 1, none⟩) (Kd.R_far (p := ⟨gb521, 0, none⟩) (Kd.R_types HO501.out BK521.out (by decide)) (fun _ hk => hk.2) (.int .i64 t514)) (fun _ hk => hk.2) (.slice Ao32 t515.length co32)) (fun _ hk => hk.2) (.slice Ao33 t518.length co33)) (fun _ h_ => h_.1))))) (Kd.R_lt (by (with_reducible repeat (first | apply Kd.R_alloc | apply Kd.R_drewN | apply Kd.R_drew)); exact (Kd.R_mono (Kd.R_far (p := ⟨gb521, 2, none⟩) (Kd.R_far (p := ⟨gb521, 1, none⟩) (Kd.R_far (p := ⟨gb521, 0, none⟩) (Kd.R_types HO504.out BK521.out (by decide)) (fun _ hk => hk.2) (.int .i64 t514)) (fun _ hk => hk.2) (.slice Ao32 t515.length co32)) (fun _ hk => hk.2) (.slice Ao33 t518.length co33)) (fun _ h_ => h_.1))))) (Kd.R_lt (by (with_reducible repeat (first | apply Kd.R_alloc | apply Kd.R_drewN | apply Kd.R_drew)); exact (Kd.R_mono (Kd.R_far (p := ⟨gb521, 2, none⟩) (Kd.R_far (p := ⟨gb521, 1, none⟩) (Kd.R_far (p := ⟨gb521, 0, none⟩) (Kd.R_types HO508.out BK521.out (by decide)) (fun _ hk => hk.2) (.int .i64 t514)) (fun _ hk => hk.2) (.slice Ao32 t515.length co32)) (fun _ hk => hk.2) (.slice Ao33 t518.length co33)) (fun _ h_ => h_.1))))) (Kd.R_lt (by (with_reducible repeat (first | apply Kd.R_alloc | apply Kd.R_drewN | apply Kd.R_drew)); exact (Kd.R_mono (Kd.R_far (p := ⟨gb521, 2, none⟩) (Kd.R_far (p := ⟨gb521, 1, none⟩) (Kd.R_far (p := ⟨gb521, 0, none⟩) (Kd.R_types HO511.out BK521.out (by decide)) (fun _ hk => hk.2) (.int .i64 t514)) (fun _ hk => hk.2) (.slice Ao32 t515.length co32)) (fun _ hk => hk.2) (.slice Ao33 t518.length co33)) (fun _ h_ => h_.1))))) (Kd.R_lt (by (with_reducible repeat (first | apply Kd.R_alloc | apply Kd.R_drewN | apply Kd.R_drew)); exact (Kd.R_mono (Kd.R_far (p := ⟨gb521, 2, none⟩) (Kd.R_far (p := ⟨gb521, 1, none⟩) (Kd.R_far (p := ⟨gb521, 0, none⟩) (Kd.R_types HO517.out BK521.out (by decide)) (fun _ hk => hk.2) (.int .i64 t514)) (fun _ hk => hk.2) (.slice Ao32 t515.length co32)) (fun _ hk => hk.2) (.slice Ao33 t518.length co33)) (fun _ h_ => h_.1))))) (Kd.R_lt (by (with_reducible repeat (first | apply Kd.R_alloc | apply Kd.R_drewN | apply Kd.R_drew)); exact (Kd.R_mono (Kd.R_far (p := ⟨gb521, 2, none⟩) (Kd.R_far (p := ⟨gb521, 1, none⟩) (Kd.R_far (p := ⟨gb521, 0, none⟩) (Kd.R_types HO520.out BK521.out (by decide)) (fun _ hk => hk.2) (.int .i64 t514)) (fun _ hk => hk.2) (.slice Ao32 t515.length co32)) (fun _ hk => hk.2) (.slice Ao33 t518.length co33)) (fun _ h_ => h_.1))))) (below_size (by repeat (first | (with_reducible first | exact HB.out | apply below_alloc | apply pw_below_drewN | apply below_drew1 | refine below_set ?_ GE496.out | refine below_set ?_ GE513.out | refine below_set ?_ GE521.out) | exact HB.out)))); have n7_ := Aside0.mk (Kd.R_lower (Kd.R_new' (Kd.R_new' (Kd.R_new' (Kd.R_new' (Kd.R_new' (Kd.R_new' ho1 (Kd.R_lt (by (with_reducible repeat (first | apply Kd.R_alloc | apply Kd.R_drewN | apply Kd.R_drew)); exact (Kd.R_mono (Kd.R_far (p := ⟨gb521, 2, none⟩) (Kd.R_far (p := ⟨gb521, 1, none⟩) (Kd.R_far (p := ⟨gb521, 0, none⟩) (Kd.R_types HO501.out BK521.out (by decide)) (fun _ hk => hk.2) (.int .i64 t514)) (fun _ hk => hk.2) (.slice Ao32 t515.length co32)) (fun _ hk => hk.2) (.slice Ao33 t518.length co33)) (fun _ h_ => h_.1))))) (Kd.R_lt (by (with_reducible repeat (first | apply Kd.R_alloc | apply Kd.R_drewN | apply Kd.R_drew)); exact (Kd.R_mono (Kd.R_far (p := ⟨gb521, 2, none⟩) (Kd.R_far (p := ⟨gb521, 1, none⟩) (Kd.R_far (p := ⟨gb521, 0, none⟩) (Kd.R_types HO504.out BK521.out (by decide)) (fun _ hk => hk.2) (.int .i64 t514)) (fun _ hk => hk.2) (.slice Ao32 t515.length co32)) (fun _ hk => hk.2) (.slice Ao33 t518.length co33)) (fun _ h_ => h_.1))))) (Kd.R_lt (by (with_reducible repeat (first | apply Kd.R_alloc | apply Kd.R_drewN | apply Kd.R_drew)); exact (Kd.R_mono (Kd.R_far (p := ⟨gb521, 2, none⟩) (Kd.R_far (p := ⟨gb521, 1, none⟩) (Kd.R_far (p := ⟨gb521, 0, none⟩) (Kd.R_types HO508.out BK521.out (by decide)) (fun _ hk => hk.2) (.int .i64 t514)) (fun _ hk => hk.2) (.slice Ao32 t515.length co32)) (fun _ hk => hk.2) (.slice Ao33 t518.length co33)) (fun _ h_ => h_.1))))) (Kd.R_lt (by (with_reducible repeat (first | apply Kd.R_alloc | apply Kd.R_drewN | apply Kd.R_drew)); exact (Kd.R_mono (Kd.R_far (p := ⟨gb521, 2, none⟩) (Kd.R_far (p := ⟨gb521, 1, none⟩) (Kd.R_far (p := ⟨gb521, 0, none⟩) (Kd.R_types HO511.out BK521.out (by decide)) (fun _ hk => hk.2) (.int .i64 t514)) (fun _ hk => hk.2) (.slice Ao32 t515.length co32)) (fun _ hk => hk.2) (.slice Ao33 t518.length co33)) (fun _ h_ => h_.1))))) (Kd.R_lt (by (with_reducible repeat (first | apply Kd.R_alloc | apply Kd.R_drewN | apply Kd.R_drew)); exact (Kd.R_mono (Kd.R_far (p := ⟨gb521, 2, none⟩) (Kd.R_far (p := ⟨gb521, 1, none⟩) (Kd.R_far (p := ⟨gb521, 0, none⟩) (Kd.R_types HO517.out BK521.out (by decide)) (fun _ hk => hk.2) (.int .i64 t514)) (fun _ hk => hk.2) (.slice Ao32 t515.length co32)) (fun _ hk => hk.2) (.slice Ao33 t518.length co33)) (fun _ h_ => h_.1))))) (Kd.R_lt (by (with_reducible repeat (first | apply Kd.R_alloc | apply Kd.R_drewN | apply Kd.R_drew)); exact (Kd.R_mono (Kd.R_far (p := ⟨gb521, 2, none⟩) (Kd.R_far (p := ⟨gb521, 1, none⟩) (Kd.R_far (p := ⟨gb521, 0, none⟩) (Kd.R_types HO520.out BK521.out (by decide)) (fun _ hk => hk.2) (.int .i64 t514)) (fun _ hk => hk.2) (.slice Ao32 t515.length co32)) (fun _ hk => hk.2) (.slice Ao33 t518.length co33)) (fun _ h_ => h_.1))))) (below_size (by repeat (first | (with_reducible first | exact HB.out | apply below_alloc | apply pw_below_drewN | apply below_drew1 | refine below_set ?_ GE496.out | refine below_set ?_ GE513.out | refine below_set ?_ GE521.out) | exact HB.out)))); have n8_ := Aside0.mk (blk_below (g := gb496) (o := .cells #[.int .i64 a0_0, .slice A0_1 l0_1.length c0_1, .slice A0_2 l0_2.length c0_2] 43 (0, 0)) (by (with_reducible repeat (first | refine blk_drewN ?_ _ | refine blk_drew ?_ | refine blk_alloc ?_ _)); refine blk_far ?_ NB496_521.out _; (with_reducible repeat (first | refine blk_drewN ?_ _ | refine blk_drew ?_ | refine blk_alloc ?_ _)); refine blk_far ?_ NB496_521.out _; (with_reducible repeat (first | refine blk_drewN ?_ _ | refine blk_drew ?_ | refine blk_alloc ?_ _)); refine blk_far ?_ NB496_521.out _; (with_reducible repeat (first | refine blk_drewN ?_ _ | refine blk_drew ?_ | refine blk_alloc ?_ _)); exact BK496.out) hb); have n9_ := Aside0.mk (blk_below (g := gb513) (o := .cells #[.int .i64 t505, .slice Ao24 t506.length co24, .slice Ao25 t509.length co25] 46 (0, 0)) (by (with_reducible repeat (first | refine blk_drewN ?_ _ | refine blk_drew ?_ | refine blk_alloc ?_ _)); refine blk_far ?_ NB513_521.out _; (with_reducible repeat (first | refine blk_drewN ?_ _ | refine blk_drew ?_ | refine blk_alloc ?_ _)); refine blk_far ?_ NB513_521.out _; (with_reducible repeat (first | refine blk_drewN ?_ _ | refine blk_drew ?_ | refine blk_alloc ?_ _)); refine blk_far ?_ NB513_521.out _; (with_reducible repeat (first | refine blk_drewN ?_ _ | refine blk_drew ?_ | refine blk_alloc ?_ _)); exact BK513.out) hb); have n10_ := Aside0.mk (blk_below (g := gb521) (o := .cells #[.int .i64 t514, .slice Ao32 t515.length co32, .slice Ao33 t518.length co33] 46 (0, 0)) (by (with_reducible repeat (first | refine blk_drewN ?_ _ | refine blk_drew ?_ | refine blk_alloc ?_ _)); refine blk_put (cs := #[.int .i64 t514, .slice Ao32 t515.length co32, .slice none 0 0]) ?_ 2 _ rfl; (with_reducible repeat (first | refine blk_drewN ?_ _ | refine blk_drew ?_ | refine blk_alloc ?_ _)); refine blk_put (cs := #[.int .i64 t514, .slice none 0 0, .slice none 0 0]) ?_ 1 _ rfl; (with_reducible repeat (first | refine blk_drewN ?_ _ | refine blk_drew ?_ | refine blk_alloc ?_ _)); refine blk_put (cs := #[.int .i64 0, .slice none 0 0, .slice none 0 0]) ?_ 0 _ rfl; (with_reducible repeat (first | refine blk_drewN ?_ _ | refine blk_drew ?_ | refine blk_alloc ?_ _)); exact BK521.out) hb); have n11_ := Aside0.mk (below_step (by repeat (first | (with_reducible first | exact HB.out | apply below_alloc | apply pw_below_drewN | apply below_drew1 | refine below_set ?_ GE496.out | refine below_set ?_ GE513.out | refine below_set ?_ GE521.out) | exact HB.out)) hb); clear HO501 HO504 HO508 HO511 HO517 HO520 BK496 BK513 BK521 HB; have HO501 := n0_; have HO504 := n1_; have HO508 := n2_; have HO511 := n3_; have HO517 := n4_; have HO520 := n5_; have HO525 := n6_; have HO528 := n7_; have BK496 := n8_; have BK513 := n9_; have BK521 := n10_; have HB := n11_; clear n0_ n1_ n2_ n3_ n4_ n5_ n6_ n7_ n8_ n9_ n10_ n11_; (try clear hb); (try clear hb2); (try clear hk); (try clear hi); (try clear ho0); (try clear ho1)) | ((with_reducible refine gate_dst (N := 9) rfl ?_); refine box_event ?hg (N := 9) ?hd (cs := #[.int .i64 0, .slice none 0 0, .slice none 0 0]) (t := 46) ?hr ?_; (case hd => rfl); (case hg => rfl); (case hr => first | (go_simp; done) | (go_simp; rfl)); intro gb530 hg w35 hbox hb; have n0_ := Aside0.mk (Kd.R_below (pkR HO501.out) hb); have n1_ := Aside0.mk (Kd.R_below (pkR HO504.out) hb); have n2_ := Aside0.mk (Kd.R_below (pkR HO508.out) hb); have n3_ := Aside0.mk (Kd.R_below (pkR HO511.out) hb); have n4_ := Aside0.mk (Kd.R_below (pkR HO517.out) hb); have n5_ := Aside0.mk (Kd.R_below (pkR HO520.out) hb); have n6_ := Aside0.mk (Kd.R_below (pkR HO525.out) hb); have n7_ := Aside0.mk (Kd.R_below (pkR HO528.out) hb); have n8_ := Aside0.mk (blk_below (g := gb496) (o := .cells #[.int .i64 a0_0, .slice A0_1 l0_1.length c0_1, .slice A0_2 l0_2.length c0_2] 43 (0, 0)) (pkK BK496.out) hb); have n9_ := Aside0.mk (blk_below (g := gb513) (o := .cells #[.int .i64 t505, .slice Ao24 t506.length co24, .slice Ao25 t509.length co25] 46 (0, 0)) (pkK BK513.out) hb); have n10_ := Aside0.mk (blk_below (g := gb521) (o := .cells #[.int .i64 t514, .slice Ao32 t515.length co32, .slice Ao33 t518.length co33] 46 (0, 0)) (pkK BK521.out) hb); have n11_ := Aside0.mk (below_step (by repeat (first | (with_reducible first | exact HB.out | apply below_alloc | apply pw_below_drewN | apply below_drew1 | refine below_set ?_ GE496.out | refine below_set ?_ GE513.out | refine below_set ?_ GE521.out) | exact HB.out)) hb); have n12_ := Aside0.mk (hbox); have n13_ := Aside0.mk ((by rw [hg]; exact (below_size (by repeat (first | (with_reducible first | exact HB.out | apply below_alloc | apply pw_below_drewN | apply below_drew1 | refine below_set ?_ GE496.out | refine below_set ?_ GE513.out | refine below_set ?_ GE521.out) | exact HB.out))) : w.heap.size ≤ gb530)); have n14_ := Aside0.mk ((by rw [hg]; exact (below_size (by repeat (first | (with_reducible first | exact HB.out | apply below_alloc | apply pw_below_drewN | apply below_drew1 | refine below_set ?_ GE496.out | refine below_set ?_ GE513.out | refine below_set ?_ GE521.out) | exact HB.out))) : w.heap.size ≤ gb530)); have n15_ := Aside0.mk ((by rw [hg]; exact Nat.ne_of_lt (blk_lt (g := gb496) (o := .cells #[.int .i64 a0_0, .slice A0_1 l0_1.length c0_1, .slice A0_2 l0_2.length c0_2] 43 (0, 0)) (pkK BK496.out)) : gb496 ≠ gb530)); have n16_ := Aside0.mk ((by rw [hg]; exact Nat.ne_of_gt (blk_lt (g := gb496) (o := .cells #[.int .i64 a0_0, .slice A0_1 l0_1.length c0_1, .slice A0_2 l0_2.length c0_2] 43 (0, 0)) (pkK BK496.out)) : gb530 ≠ gb496)); have n17_ := Aside0.mk ((by rw [hg]; exact Nat.ne_of_lt (blk_lt (g := gb513) (o := .cells #[.int .i64 t505, .slice Ao24 t506.length co24, .slice Ao25 t509.length co25] 46 (0, 0)) (pkK BK513.out)) : gb513 ≠ gb530)); have n18_ := Aside0.mk ((by rw [hg]; exact Nat.ne_of_gt (blk_lt (g := gb513) (o := .cells #[.int .i64 t505, .slice Ao24 t506.length co24, .slice Ao25 t509.length co25] 46 (0, 0)) (pkK BK513.out)) : gb530 ≠ gb513)); have n19_ := Aside0.mk ((by rw [hg]; exact Nat.ne_of_lt (blk_lt (g := gb521) (o := .cells #[.int .i64 t514, .slice Ao32 t515.length co32, .slice Ao33 t518.length co33] 46 (0, 0)) (pkK BK521.out)) : gb521 ≠ gb530)); have n20_ := Aside0.mk ((by rw [hg]; exact Nat.ne_of_gt (blk_lt (g := gb521) (o := .cells #[.int .i64 t514, .slice Ao32 t515.length co32, .slice Ao33 t518.length co33] 46 (0, 0)) (pkK BK521.out)) : gb530 ≠ gb521)); clear HO501 HO504 HO508 HO511 HO517 HO520 HO525 HO528 BK496 BK513 BK521 HB; have HO501 := n0_; have HO504 := n1_; have HO508 := n2_; have HO511 := n3_; have HO517 := n4_; have HO520 := n5_; have HO525 := n6_; have HO528 := n7_; have BK496 := n8_; have BK513 := n9_; have BK521 := n10_; have HB := n11_; have BK530 := n12_; have GW530 := n13_; have GE530 := n14_; have NB496_530 := n15_; have NB530_496 := n16_; have NB513_530 := n17_; have NB530_513 := n18_; have NB521_530 := n19_; have NB530_521 := n20_; clear n0_ n1_ n2_ n3_ n4_ n5_ n6_ n7_ n8_ n9_ n10_ n11_ n12_ n13_ n14_ n15_ n16_ n17_ n18_ n19_ n20_; clear hb hbox hg; have hnb36 := NB530_496.out; have hnc36 := NB496_530.out; have hnb37 := NB530_513.out; have hnc37 := NB513_530.out; have hnb38 := NB530_521.out; have hnc38 := NB521_530.out; have hcz39_0 : w35.cell? ⟨gb530, 0, none⟩ = some (.int .i64 0) := (blk_cell BK530.out 0).trans rfl; have hcz39_1 : w35.cell? ⟨gb530, 1, none⟩ = some (.slice none 0 0) := (blk_cell BK530.out 1).trans rfl; have hcz39_2 : w35.cell? ⟨gb530, 2, none⟩ = some (.slice none 0 0) := (blk_cell BK530.out 2).trans rfl; have hfz39_0 := blk_frozen BK530.out 0; have hfz39_1 := blk_frozen BK530.out 1; have hfz39_2 := blk_frozen BK530.out 2; obtain ⟨Ao40, co40, eo40⟩ := Kd.R_slice HO525.out; subst eo40; obtain ⟨Ao41, co41, eo41⟩ := Kd.R_slice HO528.out; subst eo41))
    (try simp only [Act.put, List.setIfInBounds_toArray, List.set_cons_zero, List.set_cons_succ])
    go_cut [44] (fun v44 wc => ∃ (kq : Nat) (x44_11 : Bool), v44 = .bool x44_11 ∧ Aside0 (laws_FnExactStandAt.j0 kq a1 t512 t529 x44_11 a0_0 l0_1 l0_2 t505 t506 t509 t514 t515 t518 t522 t523 t526 = some r) ∧ Aside0 (kq ≤ k) ∧ Aside0 (Kd.R (Kd.int .i64) 3 wc w.heap.size (fun k_ => some k_ ≠ ((.slice Ao25 t509.length co25) : Value).ownBlock ∧ some k_ ≠ ((.slice Ao32 t515.length co32) : Value).ownBlock ∧ some k_ ≠ ((.slice Ao33 t518.length co33) : Value).ownBlock ∧ some k_ ≠ ((.slice Ao40 t523.length co40) : Value).ownBlock ∧ some k_ ≠ ((.slice Ao41 t526.length co41) : Value).ownBlock) (.slice Ao24 t506.length co24) t506) ∧ Aside0 (Kd.R (Kd.int .i64) 3 wc w.heap.size (fun k_ => some k_ ≠ ((.slice Ao24 t506.length co24) : Value).ownBlock ∧ some k_ ≠ ((.slice Ao32 t515.length co32) : Value).ownBlock ∧ some k_ ≠ ((.slice Ao33 t518.length co33) : Value).ownBlock ∧ some k_ ≠ ((.slice Ao40 t523.length co40) : Value).ownBlock ∧ some k_ ≠ ((.slice Ao41 t526.length co41) : Value).ownBlock) (.slice Ao25 t509.length co25) t509) ∧ Aside0 (Kd.R (Kd.int .i64) 3 wc w.heap.size (fun k_ => some k_ ≠ ((.slice Ao24 t506.length co24) : Value).ownBlock ∧ some k_ ≠ ((.slice Ao25 t509.length co25) : Value).ownBlock ∧ some k_ ≠ ((.slice Ao33 t518.length co33) : Value).ownBlock ∧ some k_ ≠ ((.slice Ao40 t523.length co40) : Value).ownBlock ∧ some k_ ≠ ((.slice Ao41 t526.length co41) : Value).ownBlock) (.slice Ao32 t515.length co32) t515) ∧ Aside0 (Kd.R (Kd.int .i64) 3 wc w.heap.size (fun k_ => some k_ ≠ ((.slice Ao24 t506.length co24) : Value).ownBlock ∧ some k_ ≠ ((.slice Ao25 t509.length co25) : Value).ownBlock ∧ some k_ ≠ ((.slice Ao32 t515.length co32) : Value).ownBlock ∧ some k_ ≠ ((.slice Ao40 t523.length co40) : Value).ownBlock ∧ some k_ ≠ ((.slice Ao41 t526.length co41) : Value).ownBlock) (.slice Ao33 t518.length co33) t518) ∧ Aside0 (Kd.R (Kd.int .i64) 3 wc w.heap.size (fun k_ => some k_ ≠ ((.slice Ao24 t506.length co24) : Value).ownBlock ∧ some k_ ≠ ((.slice Ao25 t509.length co25) : Value).ownBlock ∧ some k_ ≠ ((.slice Ao32 t515.length co32) : Value).ownBlock ∧ some k_ ≠ ((.slice Ao33 t518.length co33) : Value).ownBlock ∧ some k_ ≠ ((.slice Ao41 t526.length co41) : Value).ownBlock) (.slice Ao40 t523.length co40) t523) ∧ Aside0 (Kd.R (Kd.int .i64) 3 wc w.heap.size (fun k_ => some k_ ≠ ((.slice Ao24 t506.length co24) : Value).ownBlock ∧ some k_ ≠ ((.slice Ao25 t509.length co25) : Value).ownBlock ∧ some k_ ≠ ((.slice Ao32 t515.length co32) : Value).ownBlock ∧ some k_ ≠ ((.slice Ao33 t518.length co33) : Value).ownBlock ∧ some k_ ≠ ((.slice Ao40 t523.length co40) : Value).ownBlock) (.slice Ao41 t526.length co41) t526) ∧ Aside0 (wc.heap[gb496]? = some (.cells #[.int .i64 a0_0, (.slice A0_1 l0_1.length c0_1), (.slice A0_2 l0_2.length c0_2)] 43 (0, 0))) ∧ Aside0 (wc.heap[gb513]? = some (.cells #[.int .i64 t505, (.slice Ao24 t506.length co24), (.slice Ao25 t509.length co25)] 46 (0, 0))) ∧ Aside0 (wc.heap[gb521]? = some (.cells #[.int .i64 t514, (.slice Ao32 t515.length co32), (.slice Ao33 t518.length co33)] 46 (0, 0))) ∧ Aside0 (wc.heap[gb530]? = some (.cells #[.int .i64 t522, (.slice Ao40 t523.length co40), (.slice Ao41 t526.length co41)] 46 (0, 0))) ∧ Aside0 (Below w.heap.size w wc))
    case first =>
      have H := HC12.out
      clear HC12
      replace H := Option.bind_eq_some_iff.mp H
      obtain ⟨t531, A420, H⟩ := H
      replace H : (if t531 = true then (laws_FnExactStandAt.j0 k a1 t512 t529 (t529 != t512) a0_0 l0_1 l0_2 t505 t506 t509 t514 t515 t518 t522 t523 t526) else (laws_FnExactStandAt.j0 k a1 t512 t529 true a0_0 l0_1 l0_2 t505 t506 t509 t514 t515 t518 t522 t523 t526)) = some r := H
      have A42 := Aside0.mk A420
      clear A420
      by_cases c43 : t531 = true
      · subst c43
        have H1 : (laws_FnExactStandAt.j0 k a1 t512 t529 (t529 != t512) a0_0 l0_1 l0_2 t505 t506 t509 t514 t515 t518 t522 t523 t526) = some r := by rw [if_pos rfl] at H; exact H
        clear H
        have H := H1
        clear H1
        have H' := Aside0.mk H
        clear H
        have hnb44 := NB530_496.out
        have hnc44 := NB496_530.out
        have hnb45 := NB530_513.out
        have hnc45 := NB513_530.out
        have hnb46 := NB530_521.out
        have hnc46 := NB521_530.out
        have hcz47_0 : w35.cell? ⟨gb530, 0, none⟩ = some (.int .i64 0) := (blk_cell BK530.out 0).trans rfl
        have hcz47_1 : w35.cell? ⟨gb530, 1, none⟩ = some (.slice none 0 0) := (blk_cell BK530.out 1).trans rfl
        have hcz47_2 : w35.cell? ⟨gb530, 2, none⟩ = some (.slice none 0 0) := (blk_cell BK530.out 2).trans rfl
        have hfz47_0 := blk_frozen BK530.out 0
        have hfz47_1 := blk_frozen BK530.out 1
        have hfz47_2 := blk_frozen BK530.out 2
        have hnb48 := NB513_496.out
        have hnc48 := NB496_513.out
        have hnb49 := NB513_521.out
        have hnc49 := NB521_513.out
        have hcz50_0 : w35.cell? ⟨gb513, 0, none⟩ = some (.int .i64 t505) := (blk_cell BK513.out 0).trans rfl
        have hcz50_1 : w35.cell? ⟨gb513, 1, none⟩ = some (.slice Ao24 t506.length co24) := (blk_cell BK513.out 1).trans rfl
        have hcz50_2 : w35.cell? ⟨gb513, 2, none⟩ = some (.slice Ao25 t509.length co25) := (blk_cell BK513.out 2).trans rfl
        have hfz50_0 := blk_frozen BK513.out 0
        have hfz50_1 := blk_frozen BK513.out 1
        have hfz50_2 := blk_frozen BK513.out 2
        go_wp2_with (first | ((with_reducible refine gate_callee (f := 27) rfl ?_); refine goesL_ (some 38) rfl rfl Try.func27 (by kernel_rfl) rfl #[.agg #[.int .i64 t522, .slice Ao40 t523.length co40, .slice Ao41 t526.length co41], .agg #[.int .i64 t505, .slice Ao24 t506.length co24, .slice Ao25 t509.length co25]] rfl (by (try simp only [List.map_toArray, List.map_cons, List.map_nil]); first | done | rfl | (simp only [List.length_drop, List.length_take]; rfl) | (go_simp; done) | (simp [*]; done)) ?_; (with_reducible refine (laws_eqLatch.calls k t522 _ _ t523 _ _ t526 t505 _ _ t506 _ _ t509 true _ ?side1 ?side2 ?side3 ?side4 ?side5 ?side6 ?side7 ?side8 A42.out).mono ?_); (case side1 => refine (Kd.R_reads' (e := 3) (base := w.heap.size) (ok := fun k_ => ((((((some k_ ≠ (.slice Ao41 t526.length co41 : Value).ownBlock ∧ some k_ ≠ (.slice Ao18 t499.length co18 : Value).ownBlock) ∧ some k_ ≠ (.slice Ao19 t502.length co19 : Value).ownBlock) ∧ some k_ ≠ (.slice Ao24 t506.length co24 : Value).ownBlock) ∧ some k_ ≠ (.slice Ao25 t509.length co25 : Value).ownBlock) ∧ some k_ ≠ (.slice Ao32 t515.length co32 : Value).ownBlock) ∧ some k_ ≠ (.slice Ao33 t518.length co33 : Value).ownBlock)) (n := t523.length) (c := co40) ?_).2.2; exact (by (with_reducible repeat (first | apply Kd.R_alloc | apply Kd.R_drewN | apply Kd.R_drew)); exact (Kd.R_mono (Kd.R_far (p := ⟨gb530, 2, none⟩) (Kd.R_far (p := ⟨gb530, 1, none⟩) (Kd.R_far (p := ⟨gb530, 0, none⟩) (Kd.R_types HO525.out BK530.out (by decide)) (fun _ hk => hk.2) (.int .i64 t522)) (fun _ hk => hk.2) (.slice Ao40 t523.length co40)) (fun _ hk => hk.2) (.slice Ao41 t526.length co41)) (fun _ h_ => h_.1)))); (case side2 => exact (Kd.R_reads' HO525.out).2.1); (case side3 => refine (Kd.R_reads' (e := 3) (base := w.heap.size) (ok := fun k_ => ((((((some k_ ≠ (.slice Ao40 t523.length co40 : Value).ownBlock ∧ some k_ ≠ (.slice Ao18 t499.length co18 : Value).ownBlock) ∧ some k_ ≠ (.slice Ao19 t502.length co19 : Value).ownBlock) ∧ some k_ ≠ (.slice Ao24 t506.length co24 : Value).ownBlock) ∧ some k_ ≠ (.slice Ao25 t509.length co25 : Value).ownBlock) ∧ some k_ ≠ (.slice Ao32 t515.length co32 : Value).ownBlock) ∧ some k_ ≠ (.slice Ao33 t518.length co33 : Value).ownBlock)) (n := t526.length) (c := co41) ?_).2.2; exact (by (with_reducible repeat (first | apply Kd.R_alloc | apply Kd.R_drewN | apply Kd.R_drew)); exact (Kd.R_mono (Kd.R_far (p := ⟨gb530, 2, none⟩) (Kd.R_far (p := ⟨gb530, 1, none⟩) (Kd.R_far (p := ⟨gb530, 0, none⟩) (Kd.R_types HO528.out BK530.out (by decide)) (fun _ hk => hk.2) (.int .i64 t522)) (fun _ hk => hk.2) (.slice Ao40 t523.length co40)) (fun _ hk => hk.2) (.slice Ao41 t526.length co41)) (fun _ h_ => h_.1)))); (case side4 => exact (Kd.R_reads' HO528.out).2.1); (case side5 => refine (Kd.R_reads' (e := 3) (base := w.heap.size) (ok := fun k_ => ((((((some k_ ≠ (.slice Ao25 t509.length co25 : Value).ownBlock ∧ some k_ ≠ (.slice Ao18 t499.length co18 : Value).ownBlock) ∧ some k_ ≠ (.slice Ao19 t502.length co19 : Value).ownBlock) ∧ some k_ ≠ (.slice Ao32 t515.length co32 : Value).ownBlock) ∧ some k_ ≠ (.slice Ao33 t518.length co33 : Value).ownBlock) ∧ some k_ ≠ (.slice Ao40 t523.length co40 : Value).ownBlock) ∧ some k_ ≠ (.slice Ao41 t526.length co41 : Value).ownBlock)) (n := t506.length) (c := co24) ?_).2.2; exact (by (with_reducible repeat (first | apply Kd.R_alloc | apply Kd.R_drewN | apply Kd.R_drew)); exact (Kd.R_mono (Kd.R_far (p := ⟨gb530, 2, none⟩) (Kd.R_far (p := ⟨gb530, 1, none⟩) (Kd.R_far (p := ⟨gb530, 0, none⟩) (Kd.R_types HO508.out BK530.out (by decide)) (fun _ hk => hk.2) (.int .i64 t522)) (fun _ hk => hk.2) (.slice Ao40 t523.length co40)) (fun _ hk => hk.2) (.slice Ao41 t526.length co41)) (fun _ h_ => h_.1)))); (case side6 => exact (Kd.R_reads' HO508.out).2.1); (case side7 => refine (Kd.R_reads' (e := 3) (base := w.heap.size) (ok := fun k_ => ((((((some k_ ≠ (.slice Ao24 t506.length co24 : Value).ownBlock ∧ some k_ ≠ (.slice Ao18 t499.length co18 : Value).ownBlock) ∧ some k_ ≠ (.slice Ao19 t502.length co19 : Value).ownBlock) ∧ some k_ ≠ (.slice Ao32 t515.length co32 : Value).ownBlock) ∧ some k_ ≠ (.slice Ao33 t518.length co33 : Value).ownBlock) ∧ some k_ ≠ (.slice Ao40 t523.length co40 : Value).ownBlock) ∧ some k_ ≠ (.slice Ao41 t526.length co41 : Value).ownBlock)) (n := t509.length) (c := co25) ?_).2.2; exact (by (with_reducible repeat (first | apply Kd.R_alloc | apply Kd.R_drewN | apply Kd.R_drew)); exact (Kd.R_mono (Kd.R_far (p := ⟨gb530, 2, none⟩) (Kd.R_far (p := ⟨gb530, 1, none⟩) (Kd.R_far (p := ⟨gb530, 0, none⟩) (Kd.R_types HO511.out BK530.out (by decide)) (fun _ hk => hk.2) (.int .i64 t522)) (fun _ hk => hk.2) (.slice Ao40 t523.length co40)) (fun _ hk => hk.2) (.slice Ao41 t526.length co41)) (fun _ h_ => h_.1)))); (case side8 => exact (Kd.R_reads' HO511.out).2.1); rintro e w51 ⟨rfl, hb⟩; refine ⟨_, rfl, ?_⟩; have n0_ := Aside0.mk (Kd.R_below (by (with_reducible repeat (first | apply Kd.R_alloc | apply Kd.R_drewN | apply Kd.R_drew)); exact (Kd.R_mono (Kd.R_far (p := ⟨gb530, 2, none⟩) (Kd.R_far (p := ⟨gb530, 1, none⟩) (Kd.R_far (p := ⟨gb530, 0, none⟩) (Kd.R_types HO501.out BK530.out (by decide)) (fun _ hk => hk.2) (.int .i64 t522)) (fun _ hk => hk.2) (.slice Ao40 t523.length co40)) (fun _ hk => hk.2) (.slice Ao41 t526.length co41)) (fun _ h_ => h_.1))) hb); have n1_ := Aside0.mk (Kd.R_below (by (with_reducible repeat (first | apply Kd.R_alloc | apply Kd.R_drewN | apply Kd.R_drew)); exact (Kd.R_mono (Kd.R_far (p := ⟨gb530, 2, none⟩) (Kd.R_far (p := ⟨gb530, 1, none⟩) (Kd.R_far (p := ⟨gb530, 0, none⟩) (Kd.R_types HO504.out BK530.out (by decide)) (fun _ hk => hk.2) (.int .i64 t522)) (fun _ hk => hk.2) (.slice Ao40 t523.length co40)) (fun _ hk => hk.2) (.slice Ao41 t526.length co41)) (fun _ h_ => h_.1))) hb); have n2_ := Aside0.mk (Kd.R_below (by (with_reducible repeat (first | apply Kd.R_alloc | apply Kd.R_drewN | apply Kd.R_drew)); exact (Kd.R_mono (Kd.R_far (p := ⟨gb530, 2, none⟩) (Kd.R_far (p := ⟨gb530, 1, none⟩) (Kd.R_far (p := ⟨gb530, 0, none⟩) (Kd.R_types HO508.out BK530.out (by decide)) (fun _ hk => hk.2) (.int .i64 t522)) (fun _ hk => hk.2) (.slice Ao40 t523.length co40)) (fun _ hk => hk.2) (.slice Ao41 t526.length co41)) (fun _ h_ => h_.1))) hb); have n3_ := Aside0.mk (Kd.R_below (by (with_reducible repeat (first | apply Kd.R_alloc | apply Kd.R_drewN | apply Kd.R_drew)); exact (Kd.R_mono (Kd.R_far (p := ⟨gb530, 2, none⟩) (Kd.R_far (p := ⟨gb530, 1, none⟩) (Kd.R_far (p := ⟨gb530, 0, none⟩) (Kd.R_types HO511.out BK530.out (by decide)) (fun _ hk => hk.2) (.int .i64 t522)) (fun _ hk => hk.2) (.slice Ao40 t523.length co40)) (fun _ hk => hk.2) (.slice Ao41 t526.length co41)) (fun _ h_ => h_.1))) hb); have n4_ := Aside0.mk (Kd.R_below (by (with_reducible repeat (first | apply Kd.R_alloc | apply Kd.R_drewN | apply Kd.R_drew)); exact (Kd.R_mono (Kd.R_far (p := ⟨gb530, 2, none⟩) (Kd.R_far (p := ⟨gb530, 1, none⟩) (Kd.R_far (p := ⟨gb530, 0, none⟩) (Kd.R_types HO517.out BK530.out (by decide)) (fun _ hk => hk.2) (.int .i64 t522)) (fun _ hk => hk.2) (.slice Ao40 t523.length co40)) (fun _ hk => hk.2) (.slice Ao41 t526.length co41)) (fun _ h_ => h_.1))) hb); have n5_ := Aside0.mk (Kd.R_below (by (with_reducible repeat (first | apply Kd.R_alloc | apply Kd.R_drewN | apply Kd.R_drew)); exact (Kd.R_mono (Kd.R_far (p := ⟨gb530, 2, none⟩) (Kd.R_far (p := ⟨gb530, 1, none⟩) (Kd.R_far (p := ⟨gb530, 0, none⟩) (Kd.R_types HO520.out BK530.out (by decide)) (fun _ hk => hk.2) (.int .i64 t522)) (fun _ hk => hk.2) (.slice Ao40 t523.length co40)) (fun _ hk => hk.2) (.slice Ao41 t526.length co41)) (fun _ h_ => h_.1))) hb); have n6_ := Aside0.mk (Kd.R_below (by (with_reducible repeat (first | apply Kd.R_alloc | apply Kd.R_drewN | apply Kd.R_drew)); exact (Kd.R_mono (Kd.R_far (p := ⟨gb530, 2, none⟩) (Kd.R_far (p := ⟨gb530, 1, none⟩) (Kd.R_far (p := ⟨gb530, 0, none⟩) (Kd.R_types HO525.out BK530.out (by decide)) (fun _ hk => hk.2) (.int .i64 t522)) (fun _ hk => hk.2) (.slice Ao40 t523.length co40)) (fun _ hk => hk.2) (.slice Ao41 t526.length co41)) (fun _ h_ => h_.1))) hb); have n7_ := Aside0.mk (Kd.R_below (by (with_reducible repeat (first | apply Kd.R_alloc | apply Kd.R_drewN | apply Kd.R_drew)); exact (Kd.R_mono (Kd.R_far (p := ⟨gb530, 2, none⟩) (Kd.R_far (p := ⟨gb530, 1, none⟩) (Kd.R_far (p := ⟨gb530, 0, none⟩) (Kd.R_types HO528.out BK530.out (by decide)) (fun _ hk => hk.2) (.int .i64 t522)) (fun _ hk => hk.2) (.slice Ao40 t523.length co40)) (fun _ hk => hk.2) (.slice Ao41 t526.length co41)) (fun _ h_ => h_.1))) hb); have n8_ := Aside0.mk (blk_below (g := gb496) (o := .cells #[.int .i64 a0_0, .slice A0_1 l0_1.length c0_1, .slice A0_2 l0_2.length c0_2] 43 (0, 0)) (by (with_reducible repeat (first | refine blk_drewN ?_ _ | refine blk_drew ?_ | refine blk_alloc ?_ _)); refine blk_far ?_ NB496_530.out _; (with_reducible repeat (first | refine blk_drewN ?_ _ | refine blk_drew ?_ | refine blk_alloc ?_ _)); refine blk_far ?_ NB496_530.out _; (with_reducible repeat (first | refine blk_drewN ?_ _ | refine blk_drew ?_ | refine blk_alloc ?_ _)); refine blk_far ?_ NB496_530.out _; (with_reducible repeat (first | refine blk_drewN ?_ _ | refine blk_drew ?_ | refine blk_alloc ?_ _)); exact BK496.out) hb); have n9_ := Aside0.mk (blk_below (g := gb513) (o := .cells #[.int .i64 t505, .slice Ao24 t506.length co24, .slice Ao25 t509.length co25] 46 (0, 0)) (by (with_reducible repeat (first | refine blk_drewN ?_ _ | refine blk_drew ?_ | refine blk_alloc ?_ _)); refine blk_far ?_ NB513_530.out _; (with_reducible repeat (first | refine blk_drewN ?_ _ | refine blk_drew ?_ | refine blk_alloc ?_ _)); refine blk_far ?_ NB513_530.out _; (with_reducible repeat (first | refine blk_drewN ?_ _ | refine blk_drew ?_ | refine blk_alloc ?_ _)); refine blk_far ?_ NB513_530.out _; (with_reducible repeat (first | refine blk_drewN ?_ _ | refine blk_drew ?_ | refine blk_alloc ?_ _)); exact BK513.out) hb); have n10_ := Aside0.mk (blk_below (g := gb521) (o := .cells #[.int .i64 t514, .slice Ao32 t515.length co32, .slice Ao33 t518.length co33] 46 (0, 0)) (by (with_reducible repeat (first | refine blk_drewN ?_ _ | refine blk_drew ?_ | refine blk_alloc ?_ _)); refine blk_far ?_ NB521_530.out _; (with_reducible repeat (first | refine blk_drewN ?_ _ | refine blk_drew ?_ | refine blk_alloc ?_ _)); refine blk_far ?_ NB521_530.out _; (with_reducible repeat (first | refine blk_drewN ?_ _ | refine blk_drew ?_ | refine blk_alloc ?_ _)); refine blk_far ?_ NB521_530.out _; (with_reducible repeat (first | refine blk_drewN ?_ _ | refine blk_drew ?_ | refine blk_alloc ?_ _)); exact BK521.out) hb); have n11_ := Aside0.mk (blk_below (g := gb530) (o := .cells #[.int .i64 t522, .slice Ao40 t523.length co40, .slice Ao41 t526.length co41] 46 (0, 0)) (by (with_reducible repeat (first | refine blk_drewN ?_ _ | refine blk_drew ?_ | refine blk_alloc ?_ _)); refine blk_put (cs := #[.int .i64 t522, .slice Ao40 t523.length co40, .slice none 0 0]) ?_ 2 _ rfl; (with_reducible repeat (first | refine blk_drewN ?_ _ | refine blk_drew ?_ | refine blk_alloc ?_ _)); refine blk_put (cs := #[.int .i64 t522, .slice none 0 0, .slice none 0 0]) ?_ 1 _ rfl; (with_reducible repeat (first | refine blk_drewN ?_ _ | refine blk_drew ?_ | refine blk_alloc ?_ _)); refine blk_put (cs := #[.int .i64 0, .slice none 0 0, .slice none 0 0]) ?_ 0 _ rfl; (with_reducible repeat (first | refine blk_drewN ?_ _ | refine blk_drew ?_ | refine blk_alloc ?_ _)); exact BK530.out) hb); have n12_ := Aside0.mk (below_step (by repeat (first | (with_reducible first | exact HB.out | apply below_alloc | apply pw_below_drewN | apply below_drew1 | refine below_set ?_ GE496.out | refine below_set ?_ GE513.out | refine below_set ?_ GE521.out | refine below_set ?_ GE530.out) | exact HB.out)) hb); clear HO501 HO504 HO508 HO511 HO517 HO520 HO525 HO528 BK496 BK513 BK521 BK530 HB; have HO501 := n0_; have HO504 := n1_; have HO508 := n2_; have HO511 := n3_; have HO517 := n4_; have HO520 := n5_; have HO525 := n6_; have HO528 := n7_; have BK496 := n8_; have BK513 := n9_; have BK521 := n10_; have BK530 := n11_; have HB := n12_; clear n0_ n1_ n2_ n3_ n4_ n5_ n6_ n7_ n8_ n9_ n10_ n11_ n12_; (try clear hb); (try clear hb2); (try clear hk); (try clear hi)))
        go_meet
        case rel => exact ⟨_, ((t529 != t512)), (by first | rfl | (simp; done) | (simp [*]; done)), H', ⟨by first | omega | exact Nat.le_refl _⟩, ⟨by (with_reducible repeat (first | apply Kd.R_alloc | apply Kd.R_drewN | apply Kd.R_drew)); exact Kd.R_mono HO508.out (fun _ hk => ⟨hk.1.1.1.1.1.1, ⟨hk.1.1.1.2, ⟨hk.1.1.2, ⟨hk.1.2, hk.2⟩⟩⟩⟩)⟩, ⟨by (with_reducible repeat (first | apply Kd.R_alloc | apply Kd.R_drewN | apply Kd.R_drew)); exact Kd.R_mono HO511.out (fun _ hk => ⟨hk.1.1.1.1.1.1, ⟨hk.1.1.1.2, ⟨hk.1.1.2, ⟨hk.1.2, hk.2⟩⟩⟩⟩)⟩, ⟨by (with_reducible repeat (first | apply Kd.R_alloc | apply Kd.R_drewN | apply Kd.R_drew)); exact Kd.R_mono HO517.out (fun _ hk => ⟨hk.1.1.1.2, ⟨hk.1.1.2, ⟨hk.1.1.1.1.1.1, ⟨hk.1.2, hk.2⟩⟩⟩⟩)⟩, ⟨by (with_reducible repeat (first | apply Kd.R_alloc | apply Kd.R_drewN | apply Kd.R_drew)); exact Kd.R_mono HO520.out (fun _ hk => ⟨hk.1.1.1.2, ⟨hk.1.1.2, ⟨hk.1.1.1.1.1.1, ⟨hk.1.2, hk.2⟩⟩⟩⟩)⟩, ⟨by (with_reducible repeat (first | apply Kd.R_alloc | apply Kd.R_drewN | apply Kd.R_drew)); exact Kd.R_mono HO525.out (fun _ hk => ⟨hk.1.1.1.2, ⟨hk.1.1.2, ⟨hk.1.2, ⟨hk.2, hk.1.1.1.1.1.1⟩⟩⟩⟩)⟩, ⟨by (with_reducible repeat (first | apply Kd.R_alloc | apply Kd.R_drewN | apply Kd.R_drew)); exact Kd.R_mono HO528.out (fun _ hk => ⟨hk.1.1.1.2, ⟨hk.1.1.2, ⟨hk.1.2, ⟨hk.2, hk.1.1.1.1.1.1⟩⟩⟩⟩)⟩, ⟨pkK BK496.out⟩, ⟨pkK BK513.out⟩, ⟨pkK BK521.out⟩, ⟨pkK BK530.out⟩, ⟨by repeat (first | (with_reducible first | exact HB.out | apply below_alloc | apply pw_below_drewN | apply below_drew1 | refine below_set ?_ GE496.out | refine below_set ?_ GE513.out | refine below_set ?_ GE521.out | refine below_set ?_ GE530.out) | exact HB.out)⟩⟩
      · replace c43 := Bool.eq_false_iff.mpr c43
        subst c43
        have H1 : (laws_FnExactStandAt.j0 k a1 t512 t529 true a0_0 l0_1 l0_2 t505 t506 t509 t514 t515 t518 t522 t523 t526) = some r := by rw [if_neg (show ¬ (false = true) by decide)] at H; exact H
        clear H
        have H := H1
        clear H1
        cases k with
        | zero => exact absurd H (by simp [laws_FnExactStandAt.j0])
        | succ k_ => (simp only [laws_FnExactStandAt.j0, if_pos] at H; exact absurd (Option.some.inj H) (by rw [HQ_.out]; simp))
    case rest =>
      clear HC12
      try clear c2
      try clear p2
      try clear c3
      try clear c4
      try clear c4b0
      try clear c7
      try clear c22
      try clear c23
      try clear c25
      try clear c27
      try clear c28
      try clear c29
      try clear c30
      try clear c35
      try clear c36
      try clear c37
      try clear c38
      try clear c43
      try clear c44
      try clear c45
      try clear c46
      try clear c48
      try clear c49
      try clear hcz14_0
      try clear hcz14_1
      try clear hcz14_2
      try clear hcz16_0
      try clear hcz16_1
      try clear hcz16_2
      try clear hcz23_0
      try clear hcz23_1
      try clear hcz23_2
      try clear hcz26_0
      try clear hcz26_1
      try clear hcz26_2
      try clear hcz31_0
      try clear hcz31_1
      try clear hcz31_2
      try clear hcz39_0
      try clear hcz39_1
      try clear hcz39_2
      try clear hcz47_0
      try clear hcz47_1
      try clear hcz47_2
      try clear hcz50_0
      try clear hcz50_1
      try clear hcz50_2
      try clear hcz6_0
      try clear hcz6_1
      try clear hcz6_2
      try clear hfz14_0
      try clear hfz14_1
      try clear hfz14_2
      try clear hfz16_0
      try clear hfz16_1
      try clear hfz16_2
      try clear hfz23_0
      try clear hfz23_1
      try clear hfz23_2
      try clear hfz26_0
      try clear hfz26_1
      try clear hfz26_2
      try clear hfz31_0
      try clear hfz31_1
      try clear hfz31_2
      try clear hfz39_0
      try clear hfz39_1
      try clear hfz39_2
      try clear hfz47_0
      try clear hfz47_1
      try clear hfz47_2
      try clear hfz50_0
      try clear hfz50_1
      try clear hfz50_2
      try clear hfz6_0
      try clear hfz6_1
      try clear hfz6_2
      obtain ⟨kq, x44_11, rfl, HA, HJ11, HO_514001, HO_514002, HO_522001, HO_522002, HO_531001, HO_531002, BK496, BK513, BK521, BK530, HB⟩ := hcut
      cases kq with
      | zero => exact absurd HA.out (by simp [laws_FnExactStandAt.j0])
      | succ kj11 =>
        have H := HA.out
        clear HA
        simp only [laws_FnExactStandAt.j0] at H
        by_cases c52 : x44_11 = true
        · subst c52
          have H1 : (some false) = some r := by rw [if_pos rfl] at H; exact H
          clear H
          have H := H1
          clear H1
          exact absurd (Option.some.inj H) (by rw [HQ_.out]; simp)
        · replace c52 := Bool.eq_false_iff.mpr c52
          subst c52
          have H1 : ((laws_toLatch.f kj11 a0_0 l0_1 l0_2).bind fun bt532 => ((laws_eqLatch.f kj11 t514 t515 t518 bt532.1 bt532.2.1 bt532.2.2).bind fun t539 => (if t539 = true then ((laws_markLatch.f kj11 t514 t515 t518 1).bind fun bt540 => (if bt540.1 < 0 then (laws_FnExactStandAt.j1 kj11 a1 t512 true a0_0 l0_1 l0_2 t505 t506 t509 t522 t523 t526) else ((laws_eqLatch.f kj11 t522 t523 t526 t505 t506 t509).bind fun t543 => (if t543 = true then (laws_FnExactStandAt.j1 kj11 a1 t512 (t529 != t512) a0_0 l0_1 l0_2 t505 t506 t509 t522 t523 t526) else (laws_FnExactStandAt.j1 kj11 a1 t512 true a0_0 l0_1 l0_2 t505 t506 t509 t522 t523 t526))))) else (some false)))) = some r := by rw [if_neg (show ¬ (false = true) by decide)] at H; exact H
          clear H
          have H := H1
          clear H1
          replace H := Option.bind_eq_some_iff.mp H
          obtain ⟨⟨t532, t533, t536⟩, A530, H⟩ := H
          replace H : ((laws_eqLatch.f kj11 t514 t515 t518 t532 t533 t536).bind fun t539 => (if t539 = true then ((laws_markLatch.f kj11 t514 t515 t518 1).bind fun bt540 => (if bt540.1 < 0 then (laws_FnExactStandAt.j1 kj11 a1 t512 true a0_0 l0_1 l0_2 t505 t506 t509 t522 t523 t526) else ((laws_eqLatch.f kj11 t522 t523 t526 t505 t506 t509).bind fun t543 => (if t543 = true then (laws_FnExactStandAt.j1 kj11 a1 t512 (t529 != t512) a0_0 l0_1 l0_2 t505 t506 t509 t522 t523 t526) else (laws_FnExactStandAt.j1 kj11 a1 t512 true a0_0 l0_1 l0_2 t505 t506 t509 t522 t523 t526))))) else (some false))) = some r := H
          have A53 := Aside0.mk A530
          clear A530
          replace H := Option.bind_eq_some_iff.mp H
          obtain ⟨t539, A540, H⟩ := H
          replace H : (if t539 = true then ((laws_markLatch.f kj11 t514 t515 t518 1).bind fun bt540 => (if bt540.1 < 0 then (laws_FnExactStandAt.j1 kj11 a1 t512 true a0_0 l0_1 l0_2 t505 t506 t509 t522 t523 t526) else ((laws_eqLatch.f kj11 t522 t523 t526 t505 t506 t509).bind fun t543 => (if t543 = true then (laws_FnExactStandAt.j1 kj11 a1 t512 (t529 != t512) a0_0 l0_1 l0_2 t505 t506 t509 t522 t523 t526) else (laws_FnExactStandAt.j1 kj11 a1 t512 true a0_0 l0_1 l0_2 t505 t506 t509 t522 t523 t526))))) else (some false)) = some r := H
          have A54 := Aside0.mk A540
          clear A540
          by_cases c55 : t539 = true
          · subst c55
            have H1 : ((laws_markLatch.f kj11 t514 t515 t518 1).bind fun bt540 => (if bt540.1 < 0 then (laws_FnExactStandAt.j1 kj11 a1 t512 true a0_0 l0_1 l0_2 t505 t506 t509 t522 t523 t526) else ((laws_eqLatch.f kj11 t522 t523 t526 t505 t506 t509).bind fun t543 => (if t543 = true then (laws_FnExactStandAt.j1 kj11 a1 t512 (t529 != t512) a0_0 l0_1 l0_2 t505 t506 t509 t522 t523 t526) else (laws_FnExactStandAt.j1 kj11 a1 t512 true a0_0 l0_1 l0_2 t505 t506 t509 t522 t523 t526))))) = some r := by rw [if_pos rfl] at H; exact H
            clear H
            have H := H1
            clear H1
            replace H := Option.bind_eq_some_iff.mp H
            obtain ⟨⟨t540, t541, t542⟩, A560, H⟩ := H
            replace H : (if t540 < 0 then (laws_FnExactStandAt.j1 kj11 a1 t512 true a0_0 l0_1 l0_2 t505 t506 t509 t522 t523 t526) else ((laws_eqLatch.f kj11 t522 t523 t526 t505 t506 t509).bind fun t543 => (if t543 = true then (laws_FnExactStandAt.j1 kj11 a1 t512 (t529 != t512) a0_0 l0_1 l0_2 t505 t506 t509 t522 t523 t526) else (laws_FnExactStandAt.j1 kj11 a1 t512 true a0_0 l0_1 l0_2 t505 t506 t509 t522 t523 t526)))) = some r := H
            have A56 := Aside0.mk A560
            clear A560
            have HC57 := Aside0.mk H
            clear H
            try go_wp2
            have n0_ := Aside0.mk (Kd.R_drew HO_514001.out)
            have n1_ := Aside0.mk (Kd.R_drew HO_514002.out)
            have n2_ := Aside0.mk (Kd.R_drew HO_522001.out)
            have n3_ := Aside0.mk (Kd.R_drew HO_522002.out)
            have n4_ := Aside0.mk (Kd.R_drew HO_531001.out)
            have n5_ := Aside0.mk (Kd.R_drew HO_531002.out)
            have n6_ := Aside0.mk (blk_drew BK496.out)
            have n7_ := Aside0.mk (blk_drew BK513.out)
            have n8_ := Aside0.mk (blk_drew BK521.out)
            have n9_ := Aside0.mk (blk_drew BK530.out)
            have n10_ := Aside0.mk (below_drew1 HB.out)
            clear HO_514001 HO_514002 HO_522001 HO_522002 HO_531001 HO_531002 BK496 BK513 BK521 BK530 HB
            have HO_514001 := n0_; have HO_514002 := n1_; have HO_522001 := n2_; have HO_522002 := n3_; have HO_531001 := n4_; have HO_531002 := n5_; have BK496 := n6_; have BK513 := n7_; have BK521 := n8_; have BK530 := n9_; have HB := n10_
            clear n0_ n1_ n2_ n3_ n4_ n5_ n6_ n7_ n8_ n9_ n10_
            refine start_ (n := 5) (S := fun w' => w'.cell? ⟨gb521, 0, none⟩ = some (.int .i64 t514) ∧ w'.cell? ⟨gb521, 1, none⟩ = some (.slice Ao32 t515.length co32) ∧ w'.cell? ⟨gb521, 2, none⟩ = some (.slice Ao33 t518.length co33) ∧ w'.cell? ⟨gb496, 0, none⟩ = some (.int .i64 a0_0) ∧ w'.cell? ⟨gb496, 1, none⟩ = some (.slice A0_1 l0_1.length c0_1) ∧ w'.cell? ⟨gb496, 2, none⟩ = some (.slice A0_2 l0_2.length c0_2)) (ds := []) #[false, false, false, false, false] (by kernel_rfl) rfl rfl ⟨(blk_cell BK521.out 0).trans rfl, (blk_cell BK521.out 1).trans rfl, (blk_cell BK521.out 2).trans rfl, (blk_cell BK496.out 0).trans rfl, (blk_cell BK496.out 1).trans rfl, (blk_cell BK496.out 2).trans rfl⟩ (fun hHeld => ?_)
            generalize wc.drew = w58 at HO_514001 HO_514002 HO_522001 HO_522002 HO_531001 HO_531002 BK496 BK513 BK521 BK530 HB hHeld ⊢
            refine take_ (i := 0) (N := some 45) (v := ?_) (a' := ?_) #[true, false, false, false, false] rfl rfl (by kernel_rfl) (fun _ _ _ h => h) (Or.inl ⟨by rfl, ?_⟩) hHeld ?_ ?_
            rotate_left
            · rintro w' ⟨s0, s1, s2, s3, s4, s5⟩
              go_simp
              with_reducible rfl
            rotate_left
            · simp only [Act.put, List.setIfInBounds_toArray, List.set_cons_zero, List.set_cons_succ, i64_w, i32_w]
              rfl
            refine take_ (i := 1) (N := some 46) (v := ?_) (a' := ?_) #[true, true, false, false, false] rfl rfl (by kernel_rfl) (fun _ _ _ h => h) (Or.inl ⟨by rfl, ?_⟩) hHeld ?_ ?_
            rotate_left
            · rintro w' ⟨s0, s1, s2, s3, s4, s5⟩
              go_simp
              with_reducible rfl
            rotate_left
            · simp only [Act.put, List.setIfInBounds_toArray, List.set_cons_zero, List.set_cons_succ, i64_w, i32_w]
              rfl
            refine one_ (i := 2) (N := some 47) #[true, true, true, false, false] rfl rfl (by kernel_rfl) (by decide) (fun K hK => ?_)
            refine goes_ Try.func25 (by kernel_rfl) rfl #[.agg #[.int .i64 a0_0, .slice A0_1 l0_1.length c0_1, .slice A0_2 l0_2.length c0_2]] (by rfl) rfl rfl (by (try simp only [List.map_toArray, List.map_cons, List.map_nil]); first | done | rfl | (simp only [List.length_drop, List.length_take]; rfl) | (go_simp; done) | (simp [*]; done)) ?_
            with_reducible refine (laws_toLatch.calls kj11 a0_0 _ _ l0_1 _ _ l0_2 t532 t533 t536 _ ?side1 ?side2 ?side3 ?side4 A53.out).mono ?_
            (case side1 => exact pkC (Kd.C_below HR0_1.out HB.out))
            (case side2 => exact HC0_1.out)
            (case side3 => exact pkC (Kd.C_below HR0_2.out HB.out))
            (case side4 => exact HC0_2.out)
            rintro e w59 ⟨v534, v537, rfl, ho0, ho1, hb⟩
            refine ⟨_, rfl, ?_⟩
            have n0_ := Aside0.mk (Kd.R_mono (Kd.R_told (Kd.R_told (Kd.R_old (pkR HO_514001.out) hb) (Kd.R_base ho0)) (Kd.R_base ho1)) (fun _ h_ => h_.1))
            have n1_ := Aside0.mk (Kd.R_mono (Kd.R_told (Kd.R_told (Kd.R_old (pkR HO_514002.out) hb) (Kd.R_base ho0)) (Kd.R_base ho1)) (fun _ h_ => h_.1))
            have n2_ := Aside0.mk (Kd.R_mono (Kd.R_told (Kd.R_told (Kd.R_old (pkR HO_522001.out) hb) (Kd.R_base ho0)) (Kd.R_base ho1)) (fun _ h_ => h_.1))
            have n3_ := Aside0.mk (Kd.R_mono (Kd.R_told (Kd.R_told (Kd.R_old (pkR HO_522002.out) hb) (Kd.R_base ho0)) (Kd.R_base ho1)) (fun _ h_ => h_.1))
            have n4_ := Aside0.mk (Kd.R_mono (Kd.R_told (Kd.R_told (Kd.R_old (pkR HO_531001.out) hb) (Kd.R_base ho0)) (Kd.R_base ho1)) (fun _ h_ => h_.1))
            have n5_ := Aside0.mk (Kd.R_mono (Kd.R_told (Kd.R_told (Kd.R_old (pkR HO_531002.out) hb) (Kd.R_base ho0)) (Kd.R_base ho1)) (fun _ h_ => h_.1))
            have n6_ := Aside0.mk (Kd.R_lower (Kd.R_new' (Kd.R_new' (Kd.R_new' (Kd.R_new' (Kd.R_new' (Kd.R_new' ho0 (Kd.R_lt (pkR HO_514001.out))) (Kd.R_lt (pkR HO_514002.out))) (Kd.R_lt (pkR HO_522001.out))) (Kd.R_lt (pkR HO_522002.out))) (Kd.R_lt (pkR HO_531001.out))) (Kd.R_lt (pkR HO_531002.out))) (below_size (by repeat (first | (with_reducible first | exact HB.out | apply below_alloc | apply pw_below_drewN | apply below_drew1 | refine below_set ?_ GE496.out | refine below_set ?_ GE513.out | refine below_set ?_ GE521.out | refine below_set ?_ GE530.out) | exact HB.out))))
            have n7_ := Aside0.mk (Kd.R_lower (Kd.R_new' (Kd.R_new' (Kd.R_new' (Kd.R_new' (Kd.R_new' (Kd.R_new' ho1 (Kd.R_lt (pkR HO_514001.out))) (Kd.R_lt (pkR HO_514002.out))) (Kd.R_lt (pkR HO_522001.out))) (Kd.R_lt (pkR HO_522002.out))) (Kd.R_lt (pkR HO_531001.out))) (Kd.R_lt (pkR HO_531002.out))) (below_size (by repeat (first | (with_reducible first | exact HB.out | apply below_alloc | apply pw_below_drewN | apply below_drew1 | refine below_set ?_ GE496.out | refine below_set ?_ GE513.out | refine below_set ?_ GE521.out | refine below_set ?_ GE530.out) | exact HB.out))))
            have n8_ := Aside0.mk (blk_below (g := gb496) (o := .cells #[.int .i64 a0_0, .slice A0_1 l0_1.length c0_1, .slice A0_2 l0_2.length c0_2] 43 (0, 0)) (pkK BK496.out) hb)
            have n9_ := Aside0.mk (blk_below (g := gb513) (o := .cells #[.int .i64 t505, .slice Ao24 t506.length co24, .slice Ao25 t509.length co25] 46 (0, 0)) (pkK BK513.out) hb)
            have n10_ := Aside0.mk (blk_below (g := gb521) (o := .cells #[.int .i64 t514, .slice Ao32 t515.length co32, .slice Ao33 t518.length co33] 46 (0, 0)) (pkK BK521.out) hb)
            have n11_ := Aside0.mk (blk_below (g := gb530) (o := .cells #[.int .i64 t522, .slice Ao40 t523.length co40, .slice Ao41 t526.length co41] 46 (0, 0)) (pkK BK530.out) hb)
            have n12_ := Aside0.mk (below_step (by repeat (first | (with_reducible first | exact HB.out | apply below_alloc | apply pw_below_drewN | apply below_drew1 | refine below_set ?_ GE496.out | refine below_set ?_ GE513.out | refine below_set ?_ GE521.out | refine below_set ?_ GE530.out) | exact HB.out)) hb)
            clear HO_514001 HO_514002 HO_522001 HO_522002 HO_531001 HO_531002 BK496 BK513 BK521 BK530 HB
            have HO_514001 := n0_; have HO_514002 := n1_; have HO_522001 := n2_; have HO_522002 := n3_; have HO_531001 := n4_; have HO_531002 := n5_; have HO535 := n6_; have HO538 := n7_; have BK496 := n8_; have BK513 := n9_; have BK521 := n10_; have BK530 := n11_; have HB := n12_
            clear n0_ n1_ n2_ n3_ n4_ n5_ n6_ n7_ n8_ n9_ n10_ n11_ n12_
            (try clear hb); (try clear hb2); (try clear hk); (try clear hi); (try clear ho0); (try clear ho1)
            obtain ⟨Ao60, co60, eo60⟩ := Kd.R_slice HO535.out
            (first | subst eo60 | (injection eo60 with f1_ f2_ f3_; have f4_ := f1_.symm; have f5_ := f3_.symm; clear f1_ f2_ f3_; subst f4_; subst f5_))
            obtain ⟨Ao61, co61, eo61⟩ := Kd.R_slice HO538.out
            (first | subst eo61 | (injection eo61 with f1_ f2_ f3_; have f4_ := f1_.symm; have f5_ := f3_.symm; clear f1_ f2_ f3_; subst f4_; subst f5_))
            refine hK.out _ _ ⟨(blk_cell BK521.out 0).trans rfl, (blk_cell BK521.out 1).trans rfl, (blk_cell BK521.out 2).trans rfl, (blk_cell BK496.out 0).trans rfl, (blk_cell BK496.out 1).trans rfl, (blk_cell BK496.out 2).trans rfl⟩ (fun hHeld => ?_)
            clear hK K
            refine norm_ (a' := ?_) ?_ ?_
            rotate_left
            · show Act.put _ (some 47) _ = _
              simp only [Act.put, List.setIfInBounds_toArray, List.set_cons_zero, List.set_cons_succ, i64_w, i32_w]
              rfl
            refine one_ (i := 3) (N := some 48) #[true, true, true, true, false] rfl rfl (by kernel_rfl) (by decide) (fun K hK => ?_)
            refine goes_ Try.func27 (by kernel_rfl) rfl #[.agg #[.int .i64 t514, .slice Ao32 t515.length co32, .slice Ao33 t518.length co33], .agg #[.int .i64 t532, .slice Ao60 t533.length co60, .slice Ao61 t536.length co61]] (by rfl) rfl rfl (by (try simp only [List.map_toArray, List.map_cons, List.map_nil]); first | done | rfl | (simp only [List.length_drop, List.length_take]; rfl) | (go_simp; done) | (simp [*]; done)) ?_
            with_reducible refine (laws_eqLatch.calls kj11 t514 _ _ t515 _ _ t518 t532 _ _ t533 _ _ t536 true _ ?side1 ?side2 ?side3 ?side4 ?side5 ?side6 ?side7 ?side8 A54.out).mono ?_
            (case side1 => exact pkC (Kd.R_reads' HO_522001.out).2.2)
            (case side2 => exact (Kd.R_reads' HO_522001.out).2.1)
            (case side3 => exact pkC (Kd.R_reads' HO_522002.out).2.2)
            (case side4 => exact (Kd.R_reads' HO_522002.out).2.1)
            (case side5 => exact pkC (Kd.R_reads' HO535.out).2.2)
            (case side6 => exact (Kd.R_reads' HO535.out).2.1)
            (case side7 => exact pkC (Kd.R_reads' HO538.out).2.2)
            (case side8 => exact (Kd.R_reads' HO538.out).2.1)
            rintro e w62 ⟨rfl, hb⟩
            refine ⟨_, rfl, ?_⟩
            have n0_ := Aside0.mk (Kd.R_below (pkR HO_514001.out) hb)
            have n1_ := Aside0.mk (Kd.R_below (pkR HO_514002.out) hb)
            have n2_ := Aside0.mk (Kd.R_below (pkR HO_522001.out) hb)
            have n3_ := Aside0.mk (Kd.R_below (pkR HO_522002.out) hb)
            have n4_ := Aside0.mk (Kd.R_below (pkR HO_531001.out) hb)
            have n5_ := Aside0.mk (Kd.R_below (pkR HO_531002.out) hb)
            have n6_ := Aside0.mk (Kd.R_below (pkR HO535.out) hb)
            have n7_ := Aside0.mk (Kd.R_below (pkR HO538.out) hb)
            have n8_ := Aside0.mk (blk_below (g := gb496) (o := .cells #[.int .i64 a0_0, .slice A0_1 l0_1.length c0_1, .slice A0_2 l0_2.length c0_2] 43 (0, 0)) (pkK BK496.out) hb)
            have n9_ := Aside0.mk (blk_below (g := gb513) (o := .cells #[.int .i64 t505, .slice Ao24 t506.length co24, .slice Ao25 t509.length co25] 46 (0, 0)) (pkK BK513.out) hb)
            have n10_ := Aside0.mk (blk_below (g := gb521) (o := .cells #[.int .i64 t514, .slice Ao32 t515.length co32, .slice Ao33 t518.length co33] 46 (0, 0)) (pkK BK521.out) hb)
            have n11_ := Aside0.mk (blk_below (g := gb530) (o := .cells #[.int .i64 t522, .slice Ao40 t523.length co40, .slice Ao41 t526.length co41] 46 (0, 0)) (pkK BK530.out) hb)
            have n12_ := Aside0.mk (below_step (by repeat (first | (with_reducible first | exact HB.out | apply below_alloc | apply pw_below_drewN | apply below_drew1 | refine below_set ?_ GE496.out | refine below_set ?_ GE513.out | refine below_set ?_ GE521.out | refine below_set ?_ GE530.out) | exact HB.out)) hb)
            clear HO_514001 HO_514002 HO_522001 HO_522002 HO_531001 HO_531002 HO535 HO538 BK496 BK513 BK521 BK530 HB
            have HO_514001 := n0_; have HO_514002 := n1_; have HO_522001 := n2_; have HO_522002 := n3_; have HO_531001 := n4_; have HO_531002 := n5_; have HO535 := n6_; have HO538 := n7_; have BK496 := n8_; have BK513 := n9_; have BK521 := n10_; have BK530 := n11_; have HB := n12_
            clear n0_ n1_ n2_ n3_ n4_ n5_ n6_ n7_ n8_ n9_ n10_ n11_ n12_
            (try clear hb); (try clear hb2); (try clear hk); (try clear hi)
            refine hK.out _ _ ⟨(blk_cell BK521.out 0).trans rfl, (blk_cell BK521.out 1).trans rfl, (blk_cell BK521.out 2).trans rfl, (blk_cell BK496.out 0).trans rfl, (blk_cell BK496.out 1).trans rfl, (blk_cell BK496.out 2).trans rfl⟩ (fun hHeld => ?_)
            clear hK K
            refine norm_ (a' := ?_) ?_ ?_
            rotate_left
            · show Act.put _ (some 48) _ = _
              simp only [Act.put, List.setIfInBounds_toArray, List.set_cons_zero, List.set_cons_succ, i64_w, i32_w]
              rfl
            refine pure_ (i := 4) (N := some 49) (v := ?_) (a' := ?_) #[true, true, true, true, true] rfl rfl (by kernel_rfl) (fun _ _ _ h => h) (Or.inl ⟨by rfl, ?_⟩) ?_ ?_
            rotate_left
            · intro w'
              go_simp
              with_reducible rfl
            rotate_left
            · simp only [Act.put, List.setIfInBounds_toArray, List.set_cons_zero, List.set_cons_succ, i64_w, i32_w]
              rfl
            refine done_ (by kernel_rfl) ?_
            have hnb63 := NB521_496.out
            have hnc63 := NB496_521.out
            have hnb64 := NB521_513.out
            have hnc64 := NB513_521.out
            have hnb65 := NB521_530.out
            have hnc65 := NB530_521.out
            have hcz66_0 : w62.cell? ⟨gb521, 0, none⟩ = some (.int .i64 t514) := (blk_cell BK521.out 0).trans rfl
            have hcz66_1 : w62.cell? ⟨gb521, 1, none⟩ = some (.slice Ao32 t515.length co32) := (blk_cell BK521.out 1).trans rfl
            have hcz66_2 : w62.cell? ⟨gb521, 2, none⟩ = some (.slice Ao33 t518.length co33) := (blk_cell BK521.out 2).trans rfl
            have hfz66_0 := blk_frozen BK521.out 0
            have hfz66_1 := blk_frozen BK521.out 1
            have hfz66_2 := blk_frozen BK521.out 2
            go_upto_region 14 with (first | ((with_reducible refine gate_callee (f := 36) rfl ?_); refine goesL_ (some 52) rfl rfl Try.func36 (by kernel_rfl) rfl #[.agg #[.int .i64 t514, .slice Ao32 t515.length co32, .slice Ao33 t518.length co33], .int .i64 1] rfl (by (try simp only [List.map_toArray, List.map_cons, List.map_nil]); first | done | rfl | (simp only [List.length_drop, List.length_take]; rfl) | (go_simp; done) | (simp [*]; done)) ?_; (with_reducible refine (laws_markLatch.calls kj11 t514 (fun k_ => some k_ = (.slice Ao32 t515.length co32 : Value).ownBlock) (.slice Ao32 t515.length co32) t515 (fun k_ => some k_ = (.slice Ao33 t518.length co33 : Value).ownBlock) (.slice Ao33 t518.length co33) t518 1 t540 t541 t542 w _ ?side1 ?side2 ?side3 ?side4 ?side5 A56.out).mono ?_); (case side1 => repeat (first | (with_reducible first | exact HB.out | apply below_alloc | apply pw_below_drewN | apply below_drew1 | refine below_set ?_ GE496.out | refine below_set ?_ GE513.out | refine below_set ?_ GE521.out | refine below_set ?_ GE530.out) | exact HB.out)); (case side2 => exact Kd.R_tight rfl HO_522001.out); (case side3 => exact fun k_ e_ => (HO_522001.out.1 k_ e_.symm).1.1.2.2.1); (case side4 => exact Kd.R_tight rfl HO_522002.out); (case side5 => exact fun k_ e_ => (HO_522002.out.1 k_ e_.symm).1.1.2.2.1); rintro e w67 ⟨rfl, hy0, hy1, hb, hkp⟩; refine ⟨_, rfl, ?_⟩; have n0_ := Aside0.mk (Kd.R_mono (ok' := fun k_ => some k_ ≠ (.slice Ao25 t509.length co25 : Value).ownBlock ∧ some k_ ≠ (.slice Ao32 t515.length co32 : Value).ownBlock ∧ some k_ ≠ (.slice Ao33 t518.length co33 : Value).ownBlock ∧ some k_ ≠ (.slice Ao40 t523.length co40 : Value).ownBlock ∧ some k_ ≠ (.slice Ao41 t526.length co41 : Value).ownBlock ∧ some k_ ≠ (.slice Ao60 t533.length co60 : Value).ownBlock ∧ some k_ ≠ (.slice Ao61 t536.length co61 : Value).ownBlock) (Kd.R_keptB (HO_514001.out) hkp (fun k_ hk_ hs_ => Or.elim hs_ (fun e_ => (hk_.1.1.2.1) e_) (fun e_ => (hk_.1.1.2.2.1) e_))) (fun k_ hk_ => ⟨hk_.1.1.1.1, hk_.1.1.1.2.1, hk_.1.1.1.2.2.1, hk_.1.1.1.2.2.2.1, hk_.1.1.1.2.2.2.2, hk_.1.1.2, hk_.1.2⟩)); have n1_ := Aside0.mk (Kd.R_mono (ok' := fun k_ => some k_ ≠ (.slice Ao24 t506.length co24 : Value).ownBlock ∧ some k_ ≠ (.slice Ao32 t515.length co32 : Value).ownBlock ∧ some k_ ≠ (.slice Ao33 t518.length co33 : Value).ownBlock ∧ some k_ ≠ (.slice Ao40 t523.length co40 : Value).ownBlock ∧ some k_ ≠ (.slice Ao41 t526.length co41 : Value).ownBlock ∧ some k_ ≠ (.slice Ao60 t533.length co60 : Value).ownBlock ∧ some k_ ≠ (.slice Ao61 t536.length co61 : Value).ownBlock) (Kd.R_keptB (HO_514002.out) hkp (fun k_ hk_ hs_ => Or.elim hs_ (fun e_ => (hk_.1.1.2.1) e_) (fun e_ => (hk_.1.1.2.2.1) e_))) (fun k_ hk_ => ⟨hk_.1.1.1.1, hk_.1.1.1.2.1, hk_.1.1.1.2.2.1, hk_.1.1.1.2.2.2.1, hk_.1.1.1.2.2.2.2, hk_.1.1.2, hk_.1.2⟩)); have n2_ := Aside0.mk (Kd.R_reok rfl hy0 (fun k_ e_ => HO_522001.out.1 k_ e_)); have n3_ := Aside0.mk (Kd.R_reok rfl hy1 (fun k_ e_ => HO_522002.out.1 k_ e_)); have n4_ := Aside0.mk (Kd.R_mono (ok' := fun k_ => some k_ ≠ (.slice Ao24 t506.length co24 : Value).ownBlock ∧ some k_ ≠ (.slice Ao25 t509.length co25 : Value).ownBlock ∧ some k_ ≠ (.slice Ao32 t515.length co32 : Value).ownBlock ∧ some k_ ≠ (.slice Ao33 t518.length co33 : Value).ownBlock ∧ some k_ ≠ (.slice Ao41 t526.length co41 : Value).ownBlock ∧ some k_ ≠ (.slice Ao60 t533.length co60 : Value).ownBlock ∧ some k_ ≠ (.slice Ao61 t536.length co61 : Value).ownBlock) (Kd.R_keptB (HO_531001.out) hkp (fun k_ hk_ hs_ => Or.elim hs_ (fun e_ => (hk_.1.1.2.2.1) e_) (fun e_ => (hk_.1.1.2.2.2.1) e_))) (fun k_ hk_ => ⟨hk_.1.1.1.1, hk_.1.1.1.2.1, hk_.1.1.1.2.2.1, hk_.1.1.1.2.2.2.1, hk_.1.1.1.2.2.2.2, hk_.1.1.2, hk_.1.2⟩)); have n5_ := Aside0.mk (Kd.R_mono (ok' := fun k_ => some k_ ≠ (.slice Ao24 t506.length co24 : Value).ownBlock ∧ some k_ ≠ (.slice Ao25 t509.length co25 : Value).ownBlock ∧ some k_ ≠ (.slice Ao32 t515.length co32 : Value).ownBlock ∧ some k_ ≠ (.slice Ao33 t518.length co33 : Value).ownBlock ∧ some k_ ≠ (.slice Ao40 t523.length co40 : Value).ownBlock ∧ some k_ ≠ (.slice Ao60 t533.length co60 : Value).ownBlock ∧ some k_ ≠ (.slice Ao61 t536.length co61 : Value).ownBlock) (Kd.R_keptB (HO_531002.out) hkp (fun k_ hk_ hs_ => Or.elim hs_ (fun e_ => (hk_.1.1.2.2.1) e_) (fun e_ => (hk_.1.1.2.2.2.1) e_))) (fun k_ hk_ => ⟨hk_.1.1.1.1, hk_.1.1.1.2.1, hk_.1.1.1.2.2.1, hk_.1.1.1.2.2.2.1, hk_.1.1.1.2.2.2.2, hk_.1.1.2, hk_.1.2⟩)); have n6_ := Aside0.mk (blk_kept (pkK BK496.out) hkp (fun hs_ => Or.elim hs_ (fun e_ => (fun e_ => (Kd.R_ne HO_522001.out BK496.out (by decide)) e_) e_) (fun e_ => (fun e_ => (Kd.R_ne HO_522002.out BK496.out (by decide)) e_) e_))); have n7_ := Aside0.mk (blk_kept (pkK BK513.out) hkp (fun hs_ => Or.elim hs_ (fun e_ => (fun e_ => (Kd.R_ne HO_522001.out BK513.out (by decide)) e_) e_) (fun e_ => (fun e_ => (Kd.R_ne HO_522002.out BK513.out (by decide)) e_) e_))); have n8_ := Aside0.mk (blk_kept (pkK BK521.out) hkp (fun hs_ => Or.elim hs_ (fun e_ => (fun e_ => (Kd.R_ne HO_522001.out BK521.out (by decide)) e_) e_) (fun e_ => (fun e_ => (Kd.R_ne HO_522002.out BK521.out (by decide)) e_) e_))); have n9_ := Aside0.mk (blk_kept (pkK BK530.out) hkp (fun hs_ => Or.elim hs_ (fun e_ => (fun e_ => (Kd.R_ne HO_522001.out BK530.out (by decide)) e_) e_) (fun e_ => (fun e_ => (Kd.R_ne HO_522002.out BK530.out (by decide)) e_) e_))); have n10_ := Aside0.mk (Kd.R_mono (ok' := fun k_ => some k_ ≠ (.slice Ao24 t506.length co24 : Value).ownBlock ∧ some k_ ≠ (.slice Ao25 t509.length co25 : Value).ownBlock ∧ some k_ ≠ (.slice Ao32 t515.length co32 : Value).ownBlock ∧ some k_ ≠ (.slice Ao33 t518.length co33 : Value).ownBlock ∧ some k_ ≠ (.slice Ao40 t523.length co40 : Value).ownBlock ∧ some k_ ≠ (.slice Ao41 t526.length co41 : Value).ownBlock ∧ some k_ ≠ (.slice Ao61 t536.length co61 : Value).ownBlock) (Kd.R_keptB (HO535.out) hkp (fun k_ hk_ hs_ => Or.elim hs_ (fun e_ => (hk_.1.1.1.2) e_) (fun e_ => (hk_.1.1.2) e_))) (fun k_ hk_ => ⟨hk_.1.1.1.1.1.1.2, hk_.1.1.1.1.1.2, hk_.1.1.1.1.2, hk_.1.1.1.2, hk_.1.1.2, hk_.1.2, hk_.1.1.1.1.1.1.1⟩)); have n11_ := Aside0.mk (Kd.R_mono (ok' := fun k_ => some k_ ≠ (.slice Ao24 t506.length co24 : Value).ownBlock ∧ some k_ ≠ (.slice Ao25 t509.length co25 : Value).ownBlock ∧ some k_ ≠ (.slice Ao32 t515.length co32 : Value).ownBlock ∧ some k_ ≠ (.slice Ao33 t518.length co33 : Value).ownBlock ∧ some k_ ≠ (.slice Ao40 t523.length co40 : Value).ownBlock ∧ some k_ ≠ (.slice Ao41 t526.length co41 : Value).ownBlock ∧ some k_ ≠ (.slice Ao60 t533.length co60 : Value).ownBlock) (Kd.R_keptB (HO538.out) hkp (fun k_ hk_ hs_ => Or.elim hs_ (fun e_ => (hk_.1.1.1.2) e_) (fun e_ => (hk_.1.1.2) e_))) (fun k_ hk_ => ⟨hk_.1.1.1.1.1.1.2, hk_.1.1.1.1.1.2, hk_.1.1.1.1.2, hk_.1.1.1.2, hk_.1.1.2, hk_.1.2, hk_.1.1.1.1.1.1.1⟩)); have n12_ := Aside0.mk (hb); clear HO_514001 HO_514002 HO_522001 HO_522002 HO_531001 HO_531002 BK496 BK513 BK521 BK530 HO535 HO538 HB; have HO_514001 := n0_; have HO_514002 := n1_; have HO_522001 := n2_; have HO_522002 := n3_; have HO_531001 := n4_; have HO_531002 := n5_; have BK496 := n6_; have BK513 := n7_; have BK521 := n8_; have BK530 := n9_; have HO535 := n10_; have HO538 := n11_; have HB := n12_; clear n0_ n1_ n2_ n3_ n4_ n5_ n6_ n7_ n8_ n9_ n10_ n11_ n12_; (try clear hb); (try clear hkp); (try clear hy0); (try clear hy1)))
            (try simp only [Act.put, List.setIfInBounds_toArray, List.set_cons_zero, List.set_cons_succ])
            go_cut [65] (fun v65 wc => ∃ (kq : Nat) (x65_56 : Bool), v65 = .bool x65_56 ∧ Aside0 (laws_FnExactStandAt.j1 kq a1 t512 x65_56 a0_0 l0_1 l0_2 t505 t506 t509 t522 t523 t526 = some r) ∧ Aside0 (kq ≤ kj11) ∧ Aside0 (Kd.R (Kd.int .i64) 3 wc w.heap.size (fun k_ => some k_ ≠ ((.slice Ao25 t509.length co25) : Value).ownBlock ∧ some k_ ≠ ((.slice Ao32 t515.length co32) : Value).ownBlock ∧ some k_ ≠ ((.slice Ao33 t518.length co33) : Value).ownBlock ∧ some k_ ≠ ((.slice Ao40 t523.length co40) : Value).ownBlock ∧ some k_ ≠ ((.slice Ao41 t526.length co41) : Value).ownBlock) (.slice Ao24 t506.length co24) t506) ∧ Aside0 (Kd.R (Kd.int .i64) 3 wc w.heap.size (fun k_ => some k_ ≠ ((.slice Ao24 t506.length co24) : Value).ownBlock ∧ some k_ ≠ ((.slice Ao32 t515.length co32) : Value).ownBlock ∧ some k_ ≠ ((.slice Ao33 t518.length co33) : Value).ownBlock ∧ some k_ ≠ ((.slice Ao40 t523.length co40) : Value).ownBlock ∧ some k_ ≠ ((.slice Ao41 t526.length co41) : Value).ownBlock) (.slice Ao25 t509.length co25) t509) ∧ Aside0 (Kd.R (Kd.int .i64) 3 wc w.heap.size (fun k_ => some k_ ≠ ((.slice Ao24 t506.length co24) : Value).ownBlock ∧ some k_ ≠ ((.slice Ao25 t509.length co25) : Value).ownBlock ∧ some k_ ≠ ((.slice Ao33 t518.length co33) : Value).ownBlock ∧ some k_ ≠ ((.slice Ao40 t523.length co40) : Value).ownBlock ∧ some k_ ≠ ((.slice Ao41 t526.length co41) : Value).ownBlock) (.slice Ao32 t515.length co32) t541) ∧ Aside0 (Kd.R (Kd.int .i64) 3 wc w.heap.size (fun k_ => some k_ ≠ ((.slice Ao24 t506.length co24) : Value).ownBlock ∧ some k_ ≠ ((.slice Ao25 t509.length co25) : Value).ownBlock ∧ some k_ ≠ ((.slice Ao32 t515.length co32) : Value).ownBlock ∧ some k_ ≠ ((.slice Ao40 t523.length co40) : Value).ownBlock ∧ some k_ ≠ ((.slice Ao41 t526.length co41) : Value).ownBlock) (.slice Ao33 t518.length co33) t542) ∧ Aside0 (Kd.R (Kd.int .i64) 3 wc w.heap.size (fun k_ => some k_ ≠ ((.slice Ao24 t506.length co24) : Value).ownBlock ∧ some k_ ≠ ((.slice Ao25 t509.length co25) : Value).ownBlock ∧ some k_ ≠ ((.slice Ao32 t515.length co32) : Value).ownBlock ∧ some k_ ≠ ((.slice Ao33 t518.length co33) : Value).ownBlock ∧ some k_ ≠ ((.slice Ao41 t526.length co41) : Value).ownBlock) (.slice Ao40 t523.length co40) t523) ∧ Aside0 (Kd.R (Kd.int .i64) 3 wc w.heap.size (fun k_ => some k_ ≠ ((.slice Ao24 t506.length co24) : Value).ownBlock ∧ some k_ ≠ ((.slice Ao25 t509.length co25) : Value).ownBlock ∧ some k_ ≠ ((.slice Ao32 t515.length co32) : Value).ownBlock ∧ some k_ ≠ ((.slice Ao33 t518.length co33) : Value).ownBlock ∧ some k_ ≠ ((.slice Ao40 t523.length co40) : Value).ownBlock) (.slice Ao41 t526.length co41) t526) ∧ Aside0 (wc.heap[gb496]? = some (.cells #[.int .i64 a0_0, (.slice A0_1 l0_1.length c0_1), (.slice A0_2 l0_2.length c0_2)] 43 (0, 0))) ∧ Aside0 (wc.heap[gb513]? = some (.cells #[.int .i64 t505, (.slice Ao24 t506.length co24), (.slice Ao25 t509.length co25)] 46 (0, 0))) ∧ Aside0 (wc.heap[gb521]? = some (.cells #[.int .i64 t514, (.slice Ao32 t515.length co32), (.slice Ao33 t518.length co33)] 46 (0, 0))) ∧ Aside0 (wc.heap[gb530]? = some (.cells #[.int .i64 t522, (.slice Ao40 t523.length co40), (.slice Ao41 t526.length co41)] 46 (0, 0))) ∧ Aside0 (Below w.heap.size w wc))
            case first =>
              have H := HC57.out
              clear HC57
              by_cases c68 : t540 < 0
              · rw [if_pos c68] at H
                have c68b0 : decide (t540 < 0) = true := decide_eq_true c68
                clear c68
                (first | rw [c68b0] | (simp only [i64_w, i32_w]; rw [c68b0]) | skip)
                cases kj11 with
                | zero => exact absurd H (by simp [laws_FnExactStandAt.j1])
                | succ k_ => (simp only [laws_FnExactStandAt.j1, if_pos] at H; exact absurd (Option.some.inj H) (by rw [HQ_.out]; simp))
              · rw [if_neg c68] at H
                have c68b0 : decide (t540 < 0) = false := decide_eq_false c68
                clear c68
                (first | rw [c68b0] | (simp only [i64_w, i32_w]; rw [c68b0]) | skip)
                replace H := Option.bind_eq_some_iff.mp H
                obtain ⟨t543, A690, H⟩ := H
                replace H : (if t543 = true then (laws_FnExactStandAt.j1 kj11 a1 t512 (t529 != t512) a0_0 l0_1 l0_2 t505 t506 t509 t522 t523 t526) else (laws_FnExactStandAt.j1 kj11 a1 t512 true a0_0 l0_1 l0_2 t505 t506 t509 t522 t523 t526)) = some r := H
                have A69 := Aside0.mk A690
                clear A690
                by_cases c70 : t543 = true
                · subst c70
                  have H1 : (laws_FnExactStandAt.j1 kj11 a1 t512 (t529 != t512) a0_0 l0_1 l0_2 t505 t506 t509 t522 t523 t526) = some r := by rw [if_pos rfl] at H; exact H
                  clear H
                  have H := H1
                  clear H1
                  have H' := Aside0.mk H
                  clear H
                  have hnb71 := NB530_496.out
                  have hnc71 := NB496_530.out
                  have hnb72 := NB530_513.out
                  have hnc72 := NB513_530.out
                  have hnb73 := NB530_521.out
                  have hnc73 := NB521_530.out
                  have hcz74_0 : w67.cell? ⟨gb530, 0, none⟩ = some (.int .i64 t522) := (blk_cell BK530.out 0).trans rfl
                  have hcz74_1 : w67.cell? ⟨gb530, 1, none⟩ = some (.slice Ao40 t523.length co40) := (blk_cell BK530.out 1).trans rfl
                  have hcz74_2 : w67.cell? ⟨gb530, 2, none⟩ = some (.slice Ao41 t526.length co41) := (blk_cell BK530.out 2).trans rfl
                  have hfz74_0 := blk_frozen BK530.out 0
                  have hfz74_1 := blk_frozen BK530.out 1
                  have hfz74_2 := blk_frozen BK530.out 2
                  have hnb75 := NB513_496.out
                  have hnc75 := NB496_513.out
                  have hnb76 := NB513_521.out
                  have hnc76 := NB521_513.out
                  have hcz77_0 : w67.cell? ⟨gb513, 0, none⟩ = some (.int .i64 t505) := (blk_cell BK513.out 0).trans rfl
                  have hcz77_1 : w67.cell? ⟨gb513, 1, none⟩ = some (.slice Ao24 t506.length co24) := (blk_cell BK513.out 1).trans rfl
                  have hcz77_2 : w67.cell? ⟨gb513, 2, none⟩ = some (.slice Ao25 t509.length co25) := (blk_cell BK513.out 2).trans rfl
                  have hfz77_0 := blk_frozen BK513.out 0
                  have hfz77_1 := blk_frozen BK513.out 1
                  have hfz77_2 := blk_frozen BK513.out 2
                  go_wp2_with (first | (go_at_call 27; (with_reducible refine (laws_eqLatch.calls kj11 t522 _ _ t523 _ _ t526 t505 _ _ t506 _ _ t509 true _ ?side1 ?side2 ?side3 ?side4 ?side5 ?side6 ?side7 ?side8 A69.out).mono ?_); (case side1 => exact pkC (Kd.R_reads' HO_531001.out).2.2); (case side2 => exact (Kd.R_reads' HO_531001.out).2.1); (case side3 => exact pkC (Kd.R_reads' HO_531002.out).2.2); (case side4 => exact (Kd.R_reads' HO_531002.out).2.1); (case side5 => exact pkC (Kd.R_reads' HO_514001.out).2.2); (case side6 => exact (Kd.R_reads' HO_514001.out).2.1); (case side7 => exact pkC (Kd.R_reads' HO_514002.out).2.2); (case side8 => exact (Kd.R_reads' HO_514002.out).2.1); rintro e w78 ⟨rfl, hb⟩; have n0_ := Aside0.mk (Kd.R_below (pkR HO_514001.out) hb); have n1_ := Aside0.mk (Kd.R_below (pkR HO_514002.out) hb); have n2_ := Aside0.mk (Kd.R_below (pkR HO_522001.out) hb); have n3_ := Aside0.mk (Kd.R_below (pkR HO_522002.out) hb); have n4_ := Aside0.mk (Kd.R_below (pkR HO_531001.out) hb); have n5_ := Aside0.mk (Kd.R_below (pkR HO_531002.out) hb); have n6_ := Aside0.mk (Kd.R_below (pkR HO535.out) hb); have n7_ := Aside0.mk (Kd.R_below (pkR HO538.out) hb); have n8_ := Aside0.mk (blk_below (g := gb496) (o := .cells #[.int .i64 a0_0, .slice A0_1 l0_1.length c0_1, .slice A0_2 l0_2.length c0_2] 43 (0, 0)) (pkK BK496.out) hb); have n9_ := Aside0.mk (blk_below (g := gb513) (o := .cells #[.int .i64 t505, .slice Ao24 t506.length co24, .slice Ao25 t509.length co25] 46 (0, 0)) (pkK BK513.out) hb); have n10_ := Aside0.mk (blk_below (g := gb521) (o := .cells #[.int .i64 t514, .slice Ao32 t515.length co32, .slice Ao33 t518.length co33] 46 (0, 0)) (pkK BK521.out) hb); have n11_ := Aside0.mk (blk_below (g := gb530) (o := .cells #[.int .i64 t522, .slice Ao40 t523.length co40, .slice Ao41 t526.length co41] 46 (0, 0)) (pkK BK530.out) hb); have n12_ := Aside0.mk (below_step (by repeat (first | (with_reducible first | exact HB.out | apply below_alloc | apply pw_below_drewN | apply below_drew1 | refine below_set ?_ GE496.out | refine below_set ?_ GE513.out | refine below_set ?_ GE521.out | refine below_set ?_ GE530.out) | exact HB.out)) hb); clear HO_514001 HO_514002 HO_522001 HO_522002 HO_531001 HO_531002 HO535 HO538 BK496 BK513 BK521 BK530 HB; have HO_514001 := n0_; have HO_514002 := n1_; have HO_522001 := n2_; have HO_522002 := n3_; have HO_531001 := n4_; have HO_531002 := n5_; have HO535 := n6_; have HO538 := n7_; have BK496 := n8_; have BK513 := n9_; have BK521 := n10_; have BK530 := n11_; have HB := n12_; clear n0_ n1_ n2_ n3_ n4_ n5_ n6_ n7_ n8_ n9_ n10_ n11_ n12_; (try clear hb); (try clear hb2); (try clear hk); (try clear hi)))
                  go_meet
                  case rel => exact ⟨_, ((t529 != t512)), (by first | rfl | (simp; done) | (simp [*]; done)), H', ⟨by have := HJ11.out; first | omega | exact Nat.le_refl _⟩, ⟨by (with_reducible repeat (first | apply Kd.R_alloc | apply Kd.R_drewN | apply Kd.R_drew)); exact Kd.R_mono HO_514001.out (fun _ hk => ⟨hk.1, ⟨hk.2.1, ⟨hk.2.2.1, ⟨hk.2.2.2.1, hk.2.2.2.2.1⟩⟩⟩⟩)⟩, ⟨by (with_reducible repeat (first | apply Kd.R_alloc | apply Kd.R_drewN | apply Kd.R_drew)); exact Kd.R_mono HO_514002.out (fun _ hk => ⟨hk.1, ⟨hk.2.1, ⟨hk.2.2.1, ⟨hk.2.2.2.1, hk.2.2.2.2.1⟩⟩⟩⟩)⟩, ⟨by (with_reducible repeat (first | apply Kd.R_alloc | apply Kd.R_drewN | apply Kd.R_drew)); exact Kd.R_mono HO_522001.out (fun _ hk => ⟨hk.1.1.1, ⟨hk.1.1.2.1, ⟨hk.1.1.2.2.1, ⟨hk.1.1.2.2.2.1, hk.1.1.2.2.2.2⟩⟩⟩⟩)⟩, ⟨by (with_reducible repeat (first | apply Kd.R_alloc | apply Kd.R_drewN | apply Kd.R_drew)); exact Kd.R_mono HO_522002.out (fun _ hk => ⟨hk.1.1.1, ⟨hk.1.1.2.1, ⟨hk.1.1.2.2.1, ⟨hk.1.1.2.2.2.1, hk.1.1.2.2.2.2⟩⟩⟩⟩)⟩, ⟨by (with_reducible repeat (first | apply Kd.R_alloc | apply Kd.R_drewN | apply Kd.R_drew)); exact Kd.R_mono HO_531001.out (fun _ hk => ⟨hk.1, ⟨hk.2.1, ⟨hk.2.2.1, ⟨hk.2.2.2.1, hk.2.2.2.2.1⟩⟩⟩⟩)⟩, ⟨by (with_reducible repeat (first | apply Kd.R_alloc | apply Kd.R_drewN | apply Kd.R_drew)); exact Kd.R_mono HO_531002.out (fun _ hk => ⟨hk.1, ⟨hk.2.1, ⟨hk.2.2.1, ⟨hk.2.2.2.1, hk.2.2.2.2.1⟩⟩⟩⟩)⟩, ⟨pkK BK496.out⟩, ⟨pkK BK513.out⟩, ⟨pkK BK521.out⟩, ⟨pkK BK530.out⟩, ⟨by repeat (first | (with_reducible first | exact HB.out | apply below_alloc | apply pw_below_drewN | apply below_drew1 | refine below_set ?_ GE496.out | refine below_set ?_ GE513.out | refine below_set ?_ GE521.out | refine below_set ?_ GE530.out) | exact HB.out)⟩⟩
                · replace c70 := Bool.eq_false_iff.mpr c70
                  subst c70
                  have H1 : (laws_FnExactStandAt.j1 kj11 a1 t512 true a0_0 l0_1 l0_2 t505 t506 t509 t522 t523 t526) = some r := by rw [if_neg (show ¬ (false = true) by decide)] at H; exact H
                  clear H
                  have H := H1
                  clear H1
                  cases kj11 with
                  | zero => exact absurd H (by simp [laws_FnExactStandAt.j1])
                  | succ k_ => (simp only [laws_FnExactStandAt.j1, if_pos] at H; exact absurd (Option.some.inj H) (by rw [HQ_.out]; simp))
            case rest =>
              clear HC57
              try clear c2
              try clear p2
              try clear c3
              try clear c4
              try clear c4b0
              try clear c5
              try clear c6
              try clear c7
              try clear c22
              try clear c23
              try clear c25
              try clear c27
              try clear c28
              try clear c29
              try clear c30
              try clear c35
              try clear c36
              try clear c37
              try clear c38
              try clear c43
              try clear c44
              try clear c45
              try clear c46
              try clear c48
              try clear c49
              try clear c52
              try clear c55
              try clear c63
              try clear c64
              try clear c65
              try clear c68
              try clear c68b0
              try clear c70
              try clear c71
              try clear c72
              try clear c73
              try clear c75
              try clear c76
              try clear hcz14_0
              try clear hcz14_1
              try clear hcz14_2
              try clear hcz16_0
              try clear hcz16_1
              try clear hcz16_2
              try clear hcz23_0
              try clear hcz23_1
              try clear hcz23_2
              try clear hcz26_0
              try clear hcz26_1
              try clear hcz26_2
              try clear hcz31_0
              try clear hcz31_1
              try clear hcz31_2
              try clear hcz39_0
              try clear hcz39_1
              try clear hcz39_2
              try clear hcz47_0
              try clear hcz47_1
              try clear hcz47_2
              try clear hcz50_0
              try clear hcz50_1
              try clear hcz50_2
              try clear hcz66_0
              try clear hcz66_1
              try clear hcz66_2
              try clear hcz6_0
              try clear hcz6_1
              try clear hcz6_2
              try clear hcz74_0
              try clear hcz74_1
              try clear hcz74_2
              try clear hcz77_0
              try clear hcz77_1
              try clear hcz77_2
              try clear hfz14_0
              try clear hfz14_1
              try clear hfz14_2
              try clear hfz16_0
              try clear hfz16_1
              try clear hfz16_2
              try clear hfz23_0
              try clear hfz23_1
              try clear hfz23_2
              try clear hfz26_0
              try clear hfz26_1
              try clear hfz26_2
              try clear hfz31_0
              try clear hfz31_1
              try clear hfz31_2
              try clear hfz39_0
              try clear hfz39_1
              try clear hfz39_2
              try clear hfz47_0
              try clear hfz47_1
              try clear hfz47_2
              try clear hfz50_0
              try clear hfz50_1
              try clear hfz50_2
              try clear hfz66_0
              try clear hfz66_1
              try clear hfz66_2
              try clear hfz6_0
              try clear hfz6_1
              try clear hfz6_2
              try clear hfz74_0
              try clear hfz74_1
              try clear hfz74_2
              try clear hfz77_0
              try clear hfz77_1
              try clear hfz77_2
              try clear p2
              obtain ⟨kq, x65_56, rfl, HA, HJ56, HO_514001, HO_514002, HO_522001, HO_522002, HO_531001, HO_531002, BK496, BK513, BK521, BK530, HB⟩ := hcut
              have hl522001_56 := (Kd.R_reads' HO_522001.out).1
              rw [hl522001_56] at HO_522001
              (try simp only [hl522001_56])
              (try simp only [hl522001_56] at BK496)
              (try simp only [hl522001_56] at BK513)
              (try simp only [hl522001_56] at BK521)
              (try simp only [hl522001_56] at BK530)
              (try simp only [hl522001_56] at HO_514001)
              (try simp only [hl522001_56] at HO_514002)
              (try simp only [hl522001_56] at HO_522002)
              (try simp only [hl522001_56] at HO_531001)
              (try simp only [hl522001_56] at HO_531002)
              have hl522002_56 := (Kd.R_reads' HO_522002.out).1
              rw [hl522002_56] at HO_522002
              (try simp only [hl522002_56])
              (try simp only [hl522002_56] at BK496)
              (try simp only [hl522002_56] at BK513)
              (try simp only [hl522002_56] at BK521)
              (try simp only [hl522002_56] at BK530)
              (try simp only [hl522002_56] at HO_514001)
              (try simp only [hl522002_56] at HO_514002)
              (try simp only [hl522002_56] at HO_522001)
              (try simp only [hl522002_56] at HO_531001)
              (try simp only [hl522002_56] at HO_531002)
              cases kq with
              | zero => exact absurd HA.out (by simp [laws_FnExactStandAt.j1])
              | succ kj56 =>
                have H := HA.out
                clear HA
                simp only [laws_FnExactStandAt.j1] at H
                by_cases c79 : x65_56 = true
                · subst c79
                  have H1 : (some false) = some r := by rw [if_pos rfl] at H; exact H
                  clear H
                  have H := H1
                  clear H1
                  exact absurd (Option.some.inj H) (by rw [HQ_.out]; simp)
                · replace c79 := Bool.eq_false_iff.mpr c79
                  subst c79
                  have H1 : ((laws_markLatch.f kj56 t522 t523 t526 1).bind fun bt544 => ((laws_heldLatch.f kj56 t522 bt544.2.1 bt544.2.2 1).bind fun t547 => (if t547 < 0 then (some false) else (if t547 = bt544.1 then ((laws_toLatch.f kj56 a0_0 l0_1 l0_2).bind fun bt548 => ((impl_StandAt.f kj56 bt548.1 bt548.2.1 bt548.2.2 a1).bind fun bt555 => ((laws_eqLatch.f kj56 bt555.1 bt555.2.1 bt555.2.2.1 t505 t506 t509).bind fun t564 => (if t564 = true then (laws_FnExactStandAt.j2 kj56 bt544.1 (bt555.2.2.2 != t512) t522 bt544.2.1 bt544.2.2) else (laws_FnExactStandAt.j2 kj56 bt544.1 true t522 bt544.2.1 bt544.2.2))))) else (some false))))) = some r := by rw [if_neg (show ¬ (false = true) by decide)] at H; exact H
                  clear H
                  have H := H1
                  clear H1
                  replace H := Option.bind_eq_some_iff.mp H
                  obtain ⟨⟨t544, t545, t546⟩, A800, H⟩ := H
                  replace H : ((laws_heldLatch.f kj56 t522 t545 t546 1).bind fun t547 => (if t547 < 0 then (some false) else (if t547 = t544 then ((laws_toLatch.f kj56 a0_0 l0_1 l0_2).bind fun bt548 => ((impl_StandAt.f kj56 bt548.1 bt548.2.1 bt548.2.2 a1).bind fun bt555 => ((laws_eqLatch.f kj56 bt555.1 bt555.2.1 bt555.2.2.1 t505 t506 t509).bind fun t564 => (if t564 = true then (laws_FnExactStandAt.j2 kj56 t544 (bt555.2.2.2 != t512) t522 t545 t546) else (laws_FnExactStandAt.j2 kj56 t544 true t522 t545 t546))))) else (some false)))) = some r := H
                  have A80 := Aside0.mk A800
                  clear A800
                  replace H := Option.bind_eq_some_iff.mp H
                  obtain ⟨t547, A810, H⟩ := H
                  replace H : (if t547 < 0 then (some false) else (if t547 = t544 then ((laws_toLatch.f kj56 a0_0 l0_1 l0_2).bind fun bt548 => ((impl_StandAt.f kj56 bt548.1 bt548.2.1 bt548.2.2 a1).bind fun bt555 => ((laws_eqLatch.f kj56 bt555.1 bt555.2.1 bt555.2.2.1 t505 t506 t509).bind fun t564 => (if t564 = true then (laws_FnExactStandAt.j2 kj56 t544 (bt555.2.2.2 != t512) t522 t545 t546) else (laws_FnExactStandAt.j2 kj56 t544 true t522 t545 t546))))) else (some false))) = some r := H
                  have A81 := Aside0.mk A810
                  clear A810
                  by_cases c82 : t547 < 0
                  · rw [if_pos c82] at H
                    have c82b0 : decide (t547 < 0) = true := decide_eq_true c82
                    clear c82
                    exact absurd (Option.some.inj H) (by rw [HQ_.out]; simp)
                  · rw [if_neg c82] at H
                    have c82b0 : decide (t547 < 0) = false := decide_eq_false c82
                    clear c82
                    by_cases c83 : t547 = t544
                    · rw [if_pos c83] at H
                      have c83b0 : (t547 == t544) = true := beq_iff_eq.mpr c83
                      have c83b1 : (t547 != t544) = false := bne_eq_false_iff_eq.mpr c83
                      clear c83
                      replace H := Option.bind_eq_some_iff.mp H
                      obtain ⟨⟨t548, t549, t552⟩, A840, H⟩ := H
                      replace H : ((impl_StandAt.f kj56 t548 t549 t552 a1).bind fun bt555 => ((laws_eqLatch.f kj56 bt555.1 bt555.2.1 bt555.2.2.1 t505 t506 t509).bind fun t564 => (if t564 = true then (laws_FnExactStandAt.j2 kj56 t544 (bt555.2.2.2 != t512) t522 t545 t546) else (laws_FnExactStandAt.j2 kj56 t544 true t522 t545 t546)))) = some r := H
                      have A84 := Aside0.mk A840
                      clear A840
                      replace H := Option.bind_eq_some_iff.mp H
                      obtain ⟨⟨t555, t556, t559, t562⟩, A850, H⟩ := H
                      replace H : ((laws_eqLatch.f kj56 t555 t556 t559 t505 t506 t509).bind fun t564 => (if t564 = true then (laws_FnExactStandAt.j2 kj56 t544 (t562 != t512) t522 t545 t546) else (laws_FnExactStandAt.j2 kj56 t544 true t522 t545 t546))) = some r := H
                      have A85 := Aside0.mk A850
                      clear A850
                      have HC86 := Aside0.mk H
                      clear H
                      have hnb87 := NB530_496.out
                      have hnc87 := NB496_530.out
                      have hnb88 := NB530_513.out
                      have hnc88 := NB513_530.out
                      have hnb89 := NB530_521.out
                      have hnc89 := NB521_530.out
                      have hcz90_0 : wc.cell? ⟨gb530, 0, none⟩ = some (.int .i64 t522) := (blk_cell BK530.out 0).trans rfl
                      have hcz90_1 : wc.cell? ⟨gb530, 1, none⟩ = some (.slice Ao40 t523.length co40) := (blk_cell BK530.out 1).trans rfl
                      have hcz90_2 : wc.cell? ⟨gb530, 2, none⟩ = some (.slice Ao41 t526.length co41) := (blk_cell BK530.out 2).trans rfl
                      have hfz90_0 := blk_frozen BK530.out 0
                      have hfz90_1 := blk_frozen BK530.out 1
                      have hfz90_2 := blk_frozen BK530.out 2
                      go_upto_region 25 with (first | ((with_reducible refine gate_callee (f := 36) rfl ?_); refine goesL_ (some 68) rfl rfl Try.func36 (by kernel_rfl) rfl #[.agg #[.int .i64 t522, .slice Ao40 t523.length co40, .slice Ao41 t526.length co41], .int .i64 1] rfl (by (try simp only [List.map_toArray, List.map_cons, List.map_nil]); first | done | rfl | (simp only [List.length_drop, List.length_take]; rfl) | (go_simp; done) | (simp [*]; done)) ?_; (with_reducible refine (laws_markLatch.calls kj56 t522 (fun k_ => some k_ = (.slice Ao40 t523.length co40 : Value).ownBlock) (.slice Ao40 t523.length co40) t523 (fun k_ => some k_ = (.slice Ao41 t526.length co41 : Value).ownBlock) (.slice Ao41 t526.length co41) t526 1 t544 t545 t546 w _ ?side1 ?side2 ?side3 ?side4 ?side5 A80.out).mono ?_); (case side1 => repeat (first | (with_reducible first | exact HB.out | apply below_alloc | apply pw_below_drewN | apply below_drew1 | refine below_set ?_ GE496.out | refine below_set ?_ GE513.out | refine below_set ?_ GE521.out | refine below_set ?_ GE530.out) | exact HB.out)); (case side2 => exact Kd.R_tight rfl HO_531001.out); (case side3 => exact fun k_ e_ => (HO_531001.out.1 k_ e_.symm).2.2.2.2); (case side4 => exact Kd.R_tight rfl HO_531002.out); (case side5 => exact fun k_ e_ => (HO_531002.out.1 k_ e_.symm).2.2.2.2); rintro e w91 ⟨rfl, hy0, hy1, hb, hkp⟩; refine ⟨_, rfl, ?_⟩; have n0_ := Aside0.mk (Kd.R_mono (ok' := fun k_ => some k_ ≠ (.slice Ao25 t509.length co25 : Value).ownBlock ∧ some k_ ≠ (.slice Ao32 t541.length co32 : Value).ownBlock ∧ some k_ ≠ (.slice Ao33 t542.length co33 : Value).ownBlock ∧ some k_ ≠ (.slice Ao40 t523.length co40 : Value).ownBlock ∧ some k_ ≠ (.slice Ao41 t526.length co41 : Value).ownBlock) (Kd.R_keptB (HO_514001.out) hkp (fun k_ hk_ hs_ => Or.elim hs_ (fun e_ => (hk_.2.2.2.1) e_) (fun e_ => (hk_.2.2.2.2) e_))) (fun k_ hk_ => ⟨hk_.1.1, hk_.1.2.1, hk_.1.2.2.1, hk_.1.2.2.2.1, hk_.1.2.2.2.2⟩)); have n1_ := Aside0.mk (Kd.R_mono (ok' := fun k_ => some k_ ≠ (.slice Ao24 t506.length co24 : Value).ownBlock ∧ some k_ ≠ (.slice Ao32 t541.length co32 : Value).ownBlock ∧ some k_ ≠ (.slice Ao33 t542.length co33 : Value).ownBlock ∧ some k_ ≠ (.slice Ao40 t523.length co40 : Value).ownBlock ∧ some k_ ≠ (.slice Ao41 t526.length co41 : Value).ownBlock) (Kd.R_keptB (HO_514002.out) hkp (fun k_ hk_ hs_ => Or.elim hs_ (fun e_ => (hk_.2.2.2.1) e_) (fun e_ => (hk_.2.2.2.2) e_))) (fun k_ hk_ => ⟨hk_.1.1, hk_.1.2.1, hk_.1.2.2.1, hk_.1.2.2.2.1, hk_.1.2.2.2.2⟩)); have n2_ := Aside0.mk (Kd.R_mono (ok' := fun k_ => some k_ ≠ (.slice Ao24 t506.length co24 : Value).ownBlock ∧ some k_ ≠ (.slice Ao25 t509.length co25 : Value).ownBlock ∧ some k_ ≠ (.slice Ao33 t542.length co33 : Value).ownBlock ∧ some k_ ≠ (.slice Ao40 t523.length co40 : Value).ownBlock ∧ some k_ ≠ (.slice Ao41 t526.length co41 : Value).ownBlock) (Kd.R_keptB (HO_522001.out) hkp (fun k_ hk_ hs_ => Or.elim hs_ (fun e_ => (hk_.2.2.2.1) e_) (fun e_ => (hk_.2.2.2.2) e_))) (fun k_ hk_ => ⟨hk_.1.1, hk_.1.2.1, hk_.1.2.2.1, hk_.1.2.2.2.1, hk_.1.2.2.2.2⟩)); have n3_ := Aside0.mk (Kd.R_mono (ok' := fun k_ => some k_ ≠ (.slice Ao24 t506.length co24 : Value).ownBlock ∧ some k_ ≠ (.slice Ao25 t509.length co25 : Value).ownBlock ∧ some k_ ≠ (.slice Ao32 t541.length co32 : Value).ownBlock ∧ some k_ ≠ (.slice Ao40 t523.length co40 : Value).ownBlock ∧ some k_ ≠ (.slice Ao41 t526.length co41 : Value).ownBlock) (Kd.R_keptB (HO_522002.out) hkp (fun k_ hk_ hs_ => Or.elim hs_ (fun e_ => (hk_.2.2.2.1) e_) (fun e_ => (hk_.2.2.2.2) e_))) (fun k_ hk_ => ⟨hk_.1.1, hk_.1.2.1, hk_.1.2.2.1, hk_.1.2.2.2.1, hk_.1.2.2.2.2⟩)); have n4_ := Aside0.mk (Kd.R_reok rfl hy0 (fun k_ e_ => HO_531001.out.1 k_ e_)); have n5_ := Aside0.mk (Kd.R_reok rfl hy1 (fun k_ e_ => HO_531002.out.1 k_ e_)); have n6_ := Aside0.mk (blk_kept (pkK BK496.out) hkp (fun hs_ => Or.elim hs_ (fun e_ => (fun e_ => (Kd.R_ne HO_531001.out BK496.out (by decide)) e_) e_) (fun e_ => (fun e_ => (Kd.R_ne HO_531002.out BK496.out (by decide)) e_) e_))); have n7_ := Aside0.mk (blk_kept (pkK BK513.out) hkp (fun hs_ => Or.elim hs_ (fun e_ => (fun e_ => (Kd.R_ne HO_531001.out BK513.out (by decide)) e_) e_) (fun e_ => (fun e_ => (Kd.R_ne HO_531002.out BK513.out (by decide)) e_) e_))); have n8_ := Aside0.mk (blk_kept (pkK BK521.out) hkp (fun hs_ => Or.elim hs_ (fun e_ => (fun e_ => (Kd.R_ne HO_531001.out BK521.out (by decide)) e_) e_) (fun e_ => (fun e_ => (Kd.R_ne HO_531002.out BK521.out (by decide)) e_) e_))); have n9_ := Aside0.mk (blk_kept (pkK BK530.out) hkp (fun hs_ => Or.elim hs_ (fun e_ => (fun e_ => (Kd.R_ne HO_531001.out BK530.out (by decide)) e_) e_) (fun e_ => (fun e_ => (Kd.R_ne HO_531002.out BK530.out (by decide)) e_) e_))); have n10_ := Aside0.mk (hb); clear HO_514001 HO_514002 HO_522001 HO_522002 HO_531001 HO_531002 BK496 BK513 BK521 BK530 HB; have HO_514001 := n0_; have HO_514002 := n1_; have HO_522001 := n2_; have HO_522002 := n3_; have HO_531001 := n4_; have HO_531002 := n5_; have BK496 := n6_; have BK513 := n7_; have BK521 := n8_; have BK530 := n9_; have HB := n10_; clear n0_ n1_ n2_ n3_ n4_ n5_ n6_ n7_ n8_ n9_ n10_; (try clear hb); (try clear hkp); (try clear hy0); (try clear hy1); have hcz92_0 : w91.cell? ⟨gb530, 0, none⟩ = some (.int .i64 t522) := (blk_cell BK530.out 0).trans rfl; have hcz92_1 : w91.cell? ⟨gb530, 1, none⟩ = some (.slice Ao40 t523.length co40) := (blk_cell BK530.out 1).trans rfl; have hcz92_2 : w91.cell? ⟨gb530, 2, none⟩ = some (.slice Ao41 t526.length co41) := (blk_cell BK530.out 2).trans rfl; have hfz92_0 := blk_frozen BK530.out 0; have hfz92_1 := blk_frozen BK530.out 1; have hfz92_2 := blk_frozen BK530.out 2) | ((with_reducible refine gate_callee (f := 37) rfl ?_); refine goesL_ (some 71) rfl rfl Try.func37 (by kernel_rfl) rfl #[.agg #[.int .i64 t522, .slice Ao40 t545.length co40, .slice Ao41 t546.length co41], .int .i64 1] rfl (by (try simp only [List.map_toArray, List.map_cons, List.map_nil]); first | done | (rw [show t545.length = t523.length from (Kd.R_reads' HO_531001.out).1.symm, show t546.length = t526.length from (Kd.R_reads' HO_531002.out).1.symm] <;> rfl) | rfl | (simp only [List.length_drop, List.length_take]; rfl) | (go_simp; done) | (simp [*]; done)) ?_; (with_reducible refine (laws_heldLatch.calls kj56 t522 _ _ t545 _ _ t546 1 t547 _ ?side1 ?side2 ?side3 ?side4 A81.out).mono ?_); (case side1 => exact pkC (Kd.R_reads' HO_531001.out).2.2); (case side2 => rw [show t545.length = t523.length from (Kd.R_reads' HO_531001.out).1.symm]; exact (Kd.R_reads' HO_531001.out).2.1); (case side3 => exact pkC (Kd.R_reads' HO_531002.out).2.2); (case side4 => rw [show t546.length = t526.length from (Kd.R_reads' HO_531002.out).1.symm]; exact (Kd.R_reads' HO_531002.out).2.1); rintro e w93 ⟨rfl, hb⟩; refine ⟨_, rfl, ?_⟩; have n0_ := Aside0.mk (Kd.R_below (pkR HO_514001.out) hb); have n1_ := Aside0.mk (Kd.R_below (pkR HO_514002.out) hb); have n2_ := Aside0.mk (Kd.R_below (pkR HO_522001.out) hb); have n3_ := Aside0.mk (Kd.R_below (pkR HO_522002.out) hb); have n4_ := Aside0.mk (Kd.R_below (pkR HO_531001.out) hb); have n5_ := Aside0.mk (Kd.R_below (pkR HO_531002.out) hb); have n6_ := Aside0.mk (blk_below (g := gb496) (o := .cells #[.int .i64 a0_0, .slice A0_1 l0_1.length c0_1, .slice A0_2 l0_2.length c0_2] 43 (0, 0)) (pkK BK496.out) hb); have n7_ := Aside0.mk (blk_below (g := gb513) (o := .cells #[.int .i64 t505, .slice Ao24 t506.length co24, .slice Ao25 t509.length co25] 46 (0, 0)) (pkK BK513.out) hb); have n8_ := Aside0.mk (blk_below (g := gb521) (o := .cells #[.int .i64 t514, .slice Ao32 t541.length co32, .slice Ao33 t542.length co33] 46 (0, 0)) (pkK BK521.out) hb); have n9_ := Aside0.mk (blk_below (g := gb530) (o := .cells #[.int .i64 t522, .slice Ao40 t523.length co40, .slice Ao41 t526.length co41] 46 (0, 0)) (pkK BK530.out) hb); have n10_ := Aside0.mk (below_step (by repeat (first | (with_reducible first | exact HB.out | apply below_alloc | apply pw_below_drewN | apply below_drew1 | refine below_set ?_ GE496.out | refine below_set ?_ GE513.out | refine below_set ?_ GE521.out | refine below_set ?_ GE530.out) | exact HB.out)) hb); clear HO_514001 HO_514002 HO_522001 HO_522002 HO_531001 HO_531002 BK496 BK513 BK521 BK530 HB; have HO_514001 := n0_; have HO_514002 := n1_; have HO_522001 := n2_; have HO_522002 := n3_; have HO_531001 := n4_; have HO_531002 := n5_; have BK496 := n6_; have BK513 := n7_; have BK521 := n8_; have BK530 := n9_; have HB := n10_; clear n0_ n1_ n2_ n3_ n4_ n5_ n6_ n7_ n8_ n9_ n10_; (try clear hb); (try clear hb2); (try clear hk); (try clear hi); have hnb94 := NB496_513.out; have hnc94 := NB513_496.out; have hnb95 := NB496_521.out; have hnc95 := NB521_496.out; have hcz96_0 : w93.cell? ⟨gb496, 0, none⟩ = some (.int .i64 a0_0) := (blk_cell BK496.out 0).trans rfl; have hcz96_1 : w93.cell? ⟨gb496, 1, none⟩ = some (.slice A0_1 l0_1.length c0_1) := (blk_cell BK496.out 1).trans rfl; have hcz96_2 : w93.cell? ⟨gb496, 2, none⟩ = some (.slice A0_2 l0_2.length c0_2) := (blk_cell BK496.out 2).trans rfl; have hfz96_0 := blk_frozen BK496.out 0; have hfz96_1 := blk_frozen BK496.out 1; have hfz96_2 := blk_frozen BK496.out 2) | ((with_reducible refine gate_callee (f := 25) rfl ?_); refine goesL_ (some 79) rfl rfl Try.func25 (by kernel_rfl) rfl #[.agg #[.int .i64 a0_0, .slice A0_1 l0_1.length c0_1, .slice A0_2 l0_2.length c0_2]] rfl (by (try simp only [List.map_toArray, List.map_cons, List.map_nil]); first | done | rfl | (simp only [List.length_drop, List.length_take]; rfl) | (go_simp; done) | (simp [*]; done)) ?_; (with_reducible refine (laws_toLatch.calls kj56 a0_0 _ _ l0_1 _ _ l0_2 t548 t549 t552 _ ?side1 ?side2 ?side3 ?side4 A84.out).mono ?_); (case side1 => exact pkC (Kd.C_below HR0_1.out HB.out)); (case side2 => exact HC0_1.out); (case side3 => exact pkC (Kd.C_below HR0_2.out HB.out)); (case side4 => exact HC0_2.out); rintro e w97 ⟨v550, v553, rfl, ho0, ho1, hb⟩; refine ⟨_, rfl, ?_⟩; have n0_ := Aside0.mk (Kd.R_mono (Kd.R_told (Kd.R_told (Kd.R_old (pkR HO_514001.out) hb) (Kd.R_base ho0)) (Kd.R_base ho1)) (fun _ h_ => h_.1)); have n1_ := Aside0.mk (Kd.R_mono (Kd.R_told (Kd.R_told (Kd.R_old (pkR HO_514002.out) hb) (Kd.R_base ho0)) (Kd.R_base ho1)) (fun _ h_ => h_.1)); have n2_ := Aside0.mk (Kd.R_mono (Kd.R_told (Kd.R_told (Kd.R_old (pkR HO_522001.out) hb) (Kd.R_base ho0)) (Kd.R_base ho1)) (fun _ h_ => h_.1)); have n3_ := Aside0.mk (Kd.R_mono (Kd.R_told (Kd.R_told (Kd.R_old (pkR HO_522002.out) hb) (Kd.R_base ho0)) (Kd.R_base ho1)) (fun _ h_ => h_.1)); have n4_ := Aside0.mk (Kd.R_mono (Kd.R_told (Kd.R_told (Kd.R_old (pkR HO_531001.out) hb) (Kd.R_base ho0)) (Kd.R_base ho1)) (fun _ h_ => h_.1)); have n5_ := Aside0.mk (Kd.R_mono (Kd.R_told (Kd.R_told (Kd.R_old (pkR HO_531002.out) hb) (Kd.R_base ho0)) (Kd.R_base ho1)) (fun _ h_ => h_.1)); have n6_ := Aside0.mk (Kd.R_lower (Kd.R_new' (Kd.R_new' (Kd.R_new' (Kd.R_new' (Kd.R_new' (Kd.R_new' ho0 (Kd.R_lt (pkR HO_514001.out))) (Kd.R_lt (pkR HO_514002.out))) (Kd.R_lt (pkR HO_522001.out))) (Kd.R_lt (pkR HO_522002.out))) (Kd.R_lt (pkR HO_531001.out))) (Kd.R_lt (pkR HO_531002.out))) (below_size (by repeat (first | (with_reducible first | exact HB.out | apply below_alloc | apply pw_below_drewN | apply below_drew1 | refine below_set ?_ GE496.out | refine below_set ?_ GE513.out | refine below_set ?_ GE521.out | refine below_set ?_ GE530.out) | exact HB.out)))); have n7_ := Aside0.mk (Kd.R_lower (Kd.R_new' (Kd.R_new' (Kd.R_new' (Kd.R_new' (Kd.R_new' (Kd.R_new' ho1 (Kd.R_lt (pkR HO_514001.out))) (Kd.R_lt (pkR HO_514002.out))) (Kd.R_lt (pkR HO_522001.out))) (Kd.R_lt (pkR HO_522002.out))) (Kd.R_lt (pkR HO_531001.out))) (Kd.R_lt (pkR HO_531002.out))) (below_size (by repeat (first | (with_reducible first | exact HB.out | apply below_alloc | apply pw_below_drewN | apply below_drew1 | refine below_set ?_ GE496.out | refine below_set ?_ GE513.out | refine below_set ?_ GE521.out | refine below_set ?_ GE530.out) | exact HB.out)))); have n8_ := Aside0.mk (blk_below (g := gb496) (o := .cells #[.int .i64 a0_0, .slice A0_1 l0_1.length c0_1, .slice A0_2 l0_2.length c0_2] 43 (0, 0)) (pkK BK496.out) hb); have n9_ := Aside0.mk (blk_below (g := gb513) (o := .cells #[.int .i64 t505, .slice Ao24 t506.length co24, .slice Ao25 t509.length co25] 46 (0, 0)) (pkK BK513.out) hb); have n10_ := Aside0.mk (blk_below (g := gb521) (o := .cells #[.int .i64 t514, .slice Ao32 t541.length co32, .slice Ao33 t542.length co33] 46 (0, 0)) (pkK BK521.out) hb); have n11_ := Aside0.mk (blk_below (g := gb530) (o := .cells #[.int .i64 t522, .slice Ao40 t523.length co40, .slice Ao41 t526.length co41] 46 (0, 0)) (pkK BK530.out) hb); have n12_ := Aside0.mk (below_step (by repeat (first | (with_reducible first | exact HB.out | apply below_alloc | apply pw_below_drewN | apply below_drew1 | refine below_set ?_ GE496.out | refine below_set ?_ GE513.out | refine below_set ?_ GE521.out | refine below_set ?_ GE530.out) | exact HB.out)) hb); clear HO_514001 HO_514002 HO_522001 HO_522002 HO_531001 HO_531002 BK496 BK513 BK521 BK530 HB; have HO_514001 := n0_; have HO_514002 := n1_; have HO_522001 := n2_; have HO_522002 := n3_; have HO_531001 := n4_; have HO_531002 := n5_; have HO551 := n6_; have HO554 := n7_; have BK496 := n8_; have BK513 := n9_; have BK521 := n10_; have BK530 := n11_; have HB := n12_; clear n0_ n1_ n2_ n3_ n4_ n5_ n6_ n7_ n8_ n9_ n10_ n11_ n12_; (try clear hb); (try clear hb2); (try clear hk); (try clear hi); (try clear ho0); (try clear ho1); obtain ⟨Ao98, co98, eo98⟩ := Kd.R_slice HO551.out; subst eo98; obtain ⟨Ao99, co99, eo99⟩ := Kd.R_slice HO554.out; subst eo99) | ((with_reducible refine gate_callee (f := 28) rfl ?_); refine goesL_ (some 81) rfl rfl Try.func28 (by kernel_rfl) rfl #[.agg #[.int .i64 t548, .slice Ao98 t549.length co98, .slice Ao99 t552.length co99], .int .i64 a1] rfl (by (try simp only [List.map_toArray, List.map_cons, List.map_nil]); first | done | rfl | (simp only [List.length_drop, List.length_take]; rfl) | (go_simp; done) | (simp [*]; done)) ?_; (with_reducible refine (impl_StandAt.calls kj56 t548 _ _ t549 _ _ t552 a1 t555 t556 t559 t562 _ ?side1 ?side2 ?side3 ?side4 A85.out).mono ?_); (case side1 => exact pkC (Kd.R_reads' HO551.out).2.2); (case side2 => exact (Kd.R_reads' HO551.out).2.1); (case side3 => exact pkC (Kd.R_reads' HO554.out).2.2); (case side4 => exact (Kd.R_reads' HO554.out).2.1); rintro e w100 ⟨v557, v560, rfl, ho0, ho1, hb⟩; refine ⟨_, rfl, ?_⟩; have n0_ := Aside0.mk (Kd.R_mono (Kd.R_told (Kd.R_told (Kd.R_old (pkR HO_514001.out) hb) (Kd.R_base ho0)) (Kd.R_base ho1)) (fun _ h_ => h_.1)); have n1_ := Aside0.mk (Kd.R_mono (Kd.R_told (Kd.R_told (Kd.R_old (pkR HO_514002.out) hb) (Kd.R_base ho0)) (Kd.R_base ho1)) (fun _ h_ => h_.1)); have n2_ := Aside0.mk (Kd.R_mono (Kd.R_told (Kd.R_told (Kd.R_old (pkR HO_522001.out) hb) (Kd.R_base ho0)) (Kd.R_base ho1)) (fun _ h_ => h_.1)); have n3_ := Aside0.mk (Kd.R_mono (Kd.R_told (Kd.R_told (Kd.R_old (pkR HO_522002.out) hb) (Kd.R_base ho0)) (Kd.R_base ho1)) (fun _ h_ => h_.1)); have n4_ := Aside0.mk (Kd.R_mono (Kd.R_told (Kd.R_told (Kd.R_old (pkR HO_531001.out) hb) (Kd.R_base ho0)) (Kd.R_base ho1)) (fun _ h_ => h_.1)); have n5_ := Aside0.mk (Kd.R_mono (Kd.R_told (Kd.R_told (Kd.R_old (pkR HO_531002.out) hb) (Kd.R_base ho0)) (Kd.R_base ho1)) (fun _ h_ => h_.1)); have n6_ := Aside0.mk (Kd.R_mono (Kd.R_told (Kd.R_told (Kd.R_old (pkR HO551.out) hb) (Kd.R_base ho0)) (Kd.R_base ho1)) (fun _ h_ => h_.1)); have n7_ := Aside0.mk (Kd.R_mono (Kd.R_told (Kd.R_told (Kd.R_old (pkR HO554.out) hb) (Kd.R_base ho0)) (Kd.R_base ho1)) (fun _ h_ => h_.1)); have n8_ := Aside0.mk (Kd.R_lower (Kd.R_new' (Kd.R_new' (Kd.R_new' (Kd.R_new' (Kd.R_new' (Kd.R_new' (Kd.R_new' (Kd.R_new' ho0 (Kd.R_lt (pkR HO_514001.out))) (Kd.R_lt (pkR HO_514002.out))) (Kd.R_lt (pkR HO_522001.out))) (Kd.R_lt (pkR HO_522002.out))) (Kd.R_lt (pkR HO_531001.out))) (Kd.R_lt (pkR HO_531002.out))) (Kd.R_lt (pkR HO551.out))) (Kd.R_lt (pkR HO554.out))) (below_size (by repeat (first | (with_reducible first | exact HB.out | apply below_alloc | apply pw_below_drewN | apply below_drew1 | refine below_set ?_ GE496.out | refine below_set ?_ GE513.out | refine below_set ?_ GE521.out | refine below_set ?_ GE530.out) | exact HB.out)))); have n9_ := Aside0.mk (Kd.R_lower (Kd.R_new' (Kd.R_new' (Kd.R_new' (Kd.R_new' (Kd.R_new' (Kd.R_new' (Kd.R_new' (Kd.R_new' ho1 (Kd.R_lt (pkR HO_514001.out))) (Kd.R_lt (pkR HO_514002.out))) (Kd.R_lt (pkR HO_522001.out))) (Kd.R_lt (pkR HO_522002.out))) (Kd.R_lt (pkR HO_531001.out))) (Kd.R_lt (pkR HO_531002.out))) (Kd.R_lt (pkR HO551.out))) (Kd.R_lt (pkR HO554.out))) (below_size (by repeat (first | (with_reducible first | exact HB.out | apply below_alloc | apply pw_below_drewN | apply below_drew1 | refine below_set ?_ GE496.out | refine below_set ?_ GE513.out | refine below_set ?_ GE521.out | refine below_set ?_ GE530.out) | exact HB.out)))); have n10_ := Aside0.mk (blk_below (g := gb496) (o := .cells #[.int .i64 a0_0, .slice A0_1 l0_1.length c0_1, .slice A0_2 l0_2.length c0_2] 43 (0, 0)) (pkK BK496.out) hb); have n11_ := Aside0.mk (blk_below (g := gb513) (o := .cells #[.int .i64 t505, .slice Ao24 t506.length co24, .slice Ao25 t509.length co25] 46 (0, 0)) (pkK BK513.out) hb); have n12_ := Aside0.mk (blk_below (g := gb521) (o := .cells #[.int .i64 t514, .slice Ao32 t541.length co32, .slice Ao33 t542.length co33] 46 (0, 0)) (pkK BK521.out) hb); have n13_ := Aside0.mk (blk_below (g := gb530) (o := .cells #[.int .i64 t522, .slice Ao40 t523.length co40, .slice Ao41 t526.length co41] 46 (0, 0)) (pkK BK530.out) hb); have n14_ := Aside0.mk (below_step (by repeat (first | (with_reducible first | exact HB.out | apply below_alloc | apply pw_below_drewN | apply below_drew1 | refine below_set ?_ GE496.out | refine below_set ?_ GE513.out | refine below_set ?_ GE521.out | refine below_set ?_ GE530.out) | exact HB.out)) hb); clear HO_514001 HO_514002 HO_522001 HO_522002 HO_531001 HO_531002 HO551 HO554 BK496 BK513 BK521 BK530 HB; have HO_514001 := n0_; have HO_514002 := n1_; have HO_522001 := n2_; have HO_522002 := n3_; have HO_531001 := n4_; have HO_531002 := n5_; have HO551 := n6_; have HO554 := n7_; have HO558 := n8_; have HO561 := n9_; have BK496 := n10_; have BK513 := n11_; have BK521 := n12_; have BK530 := n13_; have HB := n14_; clear n0_ n1_ n2_ n3_ n4_ n5_ n6_ n7_ n8_ n9_ n10_ n11_ n12_ n13_ n14_; (try clear hb); (try clear hb2); (try clear hk); (try clear hi); (try clear ho0); (try clear ho1)) | ((with_reducible refine gate_dst (N := 14) rfl ?_); refine box_event ?hg (N := 14) ?hd (cs := #[.int .i64 0, .slice none 0 0, .slice none 0 0]) (t := 46) ?hr ?_; (case hd => rfl); (case hg => rfl); (case hr => first | (go_simp; done) | (go_simp; rfl)); intro gb563 hg w101 hbox hb; have n0_ := Aside0.mk (Kd.R_below (pkR HO_514001.out) hb); have n1_ := Aside0.mk (Kd.R_below (pkR HO_514002.out) hb); have n2_ := Aside0.mk (Kd.R_below (pkR HO_522001.out) hb); have n3_ := Aside0.mk (Kd.R_below (pkR HO_522002.out) hb); have n4_ := Aside0.mk (Kd.R_below (pkR HO_531001.out) hb); have n5_ := Aside0.mk (Kd.R_below (pkR HO_531002.out) hb); have n6_ := Aside0.mk (Kd.R_below (pkR HO551.out) hb); have n7_ := Aside0.mk (Kd.R_below (pkR HO554.out) hb); have n8_ := Aside0.mk (Kd.R_below (pkR HO558.out) hb); have n9_ := Aside0.mk (Kd.R_below (pkR HO561.out) hb); have n10_ := Aside0.mk (blk_below (g := gb496) (o := .cells #[.int .i64 a0_0, .slice A0_1 l0_1.length c0_1, .slice A0_2 l0_2.length c0_2] 43 (0, 0)) (pkK BK496.out) hb); have n11_ := Aside0.mk (blk_below (g := gb513) (o := .cells #[.int .i64 t505, .slice Ao24 t506.length co24, .slice Ao25 t509.length co25] 46 (0, 0)) (pkK BK513.out) hb); have n12_ := Aside0.mk (blk_below (g := gb521) (o := .cells #[.int .i64 t514, .slice Ao32 t541.length co32, .slice Ao33 t542.length co33] 46 (0, 0)) (pkK BK521.out) hb); have n13_ := Aside0.mk (blk_below (g := gb530) (o := .cells #[.int .i64 t522, .slice Ao40 t523.length co40, .slice Ao41 t526.length co41] 46 (0, 0)) (pkK BK530.out) hb); have n14_ := Aside0.mk (below_step (by repeat (first | (with_reducible first | exact HB.out | apply below_alloc | apply pw_below_drewN | apply below_drew1 | refine below_set ?_ GE496.out | refine below_set ?_ GE513.out | refine below_set ?_ GE521.out | refine below_set ?_ GE530.out) | exact HB.out)) hb); have n15_ := Aside0.mk (hbox); have n16_ := Aside0.mk ((by rw [hg]; exact (below_size (by repeat (first | (with_reducible first | exact HB.out | apply below_alloc | apply pw_below_drewN | apply below_drew1 | refine below_set ?_ GE496.out | refine below_set ?_ GE513.out | refine below_set ?_ GE521.out | refine below_set ?_ GE530.out) | exact HB.out))) : w.heap.size ≤ gb563)); have n17_ := Aside0.mk ((by rw [hg]; exact (below_size (by repeat (first | (with_reducible first | exact HB.out | apply below_alloc | apply pw_below_drewN | apply below_drew1 | refine below_set ?_ GE496.out | refine below_set ?_ GE513.out | refine below_set ?_ GE521.out | refine below_set ?_ GE530.out) | exact HB.out))) : w.heap.size ≤ gb563)); have n18_ := Aside0.mk ((by rw [hg]; exact Nat.ne_of_lt (blk_lt (g := gb496) (o := .cells #[.int .i64 a0_0, .slice A0_1 l0_1.length c0_1, .slice A0_2 l0_2.length c0_2] 43 (0, 0)) (pkK BK496.out)) : gb496 ≠ gb563)); have n19_ := Aside0.mk ((by rw [hg]; exact Nat.ne_of_gt (blk_lt (g := gb496) (o := .cells #[.int .i64 a0_0, .slice A0_1 l0_1.length c0_1, .slice A0_2 l0_2.length c0_2] 43 (0, 0)) (pkK BK496.out)) : gb563 ≠ gb496)); have n20_ := Aside0.mk ((by rw [hg]; exact Nat.ne_of_lt (blk_lt (g := gb513) (o := .cells #[.int .i64 t505, .slice Ao24 t506.length co24, .slice Ao25 t509.length co25] 46 (0, 0)) (pkK BK513.out)) : gb513 ≠ gb563)); have n21_ := Aside0.mk ((by rw [hg]; exact Nat.ne_of_gt (blk_lt (g := gb513) (o := .cells #[.int .i64 t505, .slice Ao24 t506.length co24, .slice Ao25 t509.length co25] 46 (0, 0)) (pkK BK513.out)) : gb563 ≠ gb513)); have n22_ := Aside0.mk ((by rw [hg]; exact Nat.ne_of_lt (blk_lt (g := gb521) (o := .cells #[.int .i64 t514, .slice Ao32 t541.length co32, .slice Ao33 t542.length co33] 46 (0, 0)) (pkK BK521.out)) : gb521 ≠ gb563)); have n23_ := Aside0.mk ((by rw [hg]; exact Nat.ne_of_gt (blk_lt (g := gb521) (o := .cells #[.int .i64 t514, .slice Ao32 t541.length co32, .slice Ao33 t542.length co33] 46 (0, 0)) (pkK BK521.out)) : gb563 ≠ gb521)); have n24_ := Aside0.mk ((by rw [hg]; exact Nat.ne_of_lt (blk_lt (g := gb530) (o := .cells #[.int .i64 t522, .slice Ao40 t523.length co40, .slice Ao41 t526.length co41] 46 (0, 0)) (pkK BK530.out)) : gb530 ≠ gb563)); have n25_ := Aside0.mk ((by rw [hg]; exact Nat.ne_of_gt (blk_lt (g := gb530) (o := .cells #[.int .i64 t522, .slice Ao40 t523.length co40, .slice Ao41 t526.length co41] 46 (0, 0)) (pkK BK530.out)) : gb563 ≠ gb530)); clear HO_514001 HO_514002 HO_522001 HO_522002 HO_531001 HO_531002 HO551 HO554 HO558 HO561 BK496 BK513 BK521 BK530 HB; have HO_514001 := n0_; have HO_514002 := n1_; have HO_522001 := n2_; have HO_522002 := n3_; have HO_531001 := n4_; have HO_531002 := n5_; have HO551 := n6_; have HO554 := n7_; have HO558 := n8_; have HO561 := n9_; have BK496 := n10_; have BK513 := n11_; have BK521 := n12_; have BK530 := n13_; have HB := n14_; have BK563 := n15_; have GW563 := n16_; have GE563 := n17_; have NB496_563 := n18_; have NB563_496 := n19_; have NB513_563 := n20_; have NB563_513 := n21_; have NB521_563 := n22_; have NB563_521 := n23_; have NB530_563 := n24_; have NB563_530 := n25_; clear n0_ n1_ n2_ n3_ n4_ n5_ n6_ n7_ n8_ n9_ n10_ n11_ n12_ n13_ n14_ n15_ n16_ n17_ n18_ n19_ n20_ n21_ n22_ n23_ n24_ n25_; clear hb hbox hg; have hnb102 := NB563_496.out; have hnc102 := NB496_563.out; have hnb103 := NB563_513.out; have hnc103 := NB513_563.out; have hnb104 := NB563_521.out; have hnc104 := NB521_563.out; have hnb105 := NB563_530.out; have hnc105 := NB530_563.out; have hcz106_0 : w101.cell? ⟨gb563, 0, none⟩ = some (.int .i64 0) := (blk_cell BK563.out 0).trans rfl; have hcz106_1 : w101.cell? ⟨gb563, 1, none⟩ = some (.slice none 0 0) := (blk_cell BK563.out 1).trans rfl; have hcz106_2 : w101.cell? ⟨gb563, 2, none⟩ = some (.slice none 0 0) := (blk_cell BK563.out 2).trans rfl; have hfz106_0 := blk_frozen BK563.out 0; have hfz106_1 := blk_frozen BK563.out 1; have hfz106_2 := blk_frozen BK563.out 2; obtain ⟨Ao107, co107, eo107⟩ := Kd.R_slice HO558.out; subst eo107; obtain ⟨Ao108, co108, eo108⟩ := Kd.R_slice HO561.out; subst eo108))
                      (try simp only [Act.put, List.setIfInBounds_toArray, List.set_cons_zero, List.set_cons_succ])
                      go_cut [92] (fun v92 wc => ∃ (kq : Nat) (x92_85 : Bool), v92 = .bool x92_85 ∧ Aside0 (laws_FnExactStandAt.j2 kq t544 x92_85 t522 t545 t546 = some r) ∧ Aside0 (kq ≤ kj56) ∧ Aside0 (Kd.R (Kd.int .i64) 3 wc w.heap.size (fun k_ => some k_ ≠ ((.slice Ao25 t509.length co25) : Value).ownBlock ∧ some k_ ≠ ((.slice Ao32 t541.length co32) : Value).ownBlock ∧ some k_ ≠ ((.slice Ao33 t542.length co33) : Value).ownBlock ∧ some k_ ≠ ((.slice Ao40 t523.length co40) : Value).ownBlock ∧ some k_ ≠ ((.slice Ao41 t526.length co41) : Value).ownBlock ∧ some k_ ≠ ((.slice Ao107 t556.length co107) : Value).ownBlock ∧ some k_ ≠ ((.slice Ao108 t559.length co108) : Value).ownBlock) (.slice Ao24 t506.length co24) t506) ∧ Aside0 (Kd.R (Kd.int .i64) 3 wc w.heap.size (fun k_ => some k_ ≠ ((.slice Ao24 t506.length co24) : Value).ownBlock ∧ some k_ ≠ ((.slice Ao32 t541.length co32) : Value).ownBlock ∧ some k_ ≠ ((.slice Ao33 t542.length co33) : Value).ownBlock ∧ some k_ ≠ ((.slice Ao40 t523.length co40) : Value).ownBlock ∧ some k_ ≠ ((.slice Ao41 t526.length co41) : Value).ownBlock ∧ some k_ ≠ ((.slice Ao107 t556.length co107) : Value).ownBlock ∧ some k_ ≠ ((.slice Ao108 t559.length co108) : Value).ownBlock) (.slice Ao25 t509.length co25) t509) ∧ Aside0 (Kd.R (Kd.int .i64) 3 wc w.heap.size (fun k_ => some k_ ≠ ((.slice Ao24 t506.length co24) : Value).ownBlock ∧ some k_ ≠ ((.slice Ao25 t509.length co25) : Value).ownBlock ∧ some k_ ≠ ((.slice Ao33 t542.length co33) : Value).ownBlock ∧ some k_ ≠ ((.slice Ao40 t523.length co40) : Value).ownBlock ∧ some k_ ≠ ((.slice Ao41 t526.length co41) : Value).ownBlock ∧ some k_ ≠ ((.slice Ao107 t556.length co107) : Value).ownBlock ∧ some k_ ≠ ((.slice Ao108 t559.length co108) : Value).ownBlock) (.slice Ao32 t541.length co32) t541) ∧ Aside0 (Kd.R (Kd.int .i64) 3 wc w.heap.size (fun k_ => some k_ ≠ ((.slice Ao24 t506.length co24) : Value).ownBlock ∧ some k_ ≠ ((.slice Ao25 t509.length co25) : Value).ownBlock ∧ some k_ ≠ ((.slice Ao32 t541.length co32) : Value).ownBlock ∧ some k_ ≠ ((.slice Ao40 t523.length co40) : Value).ownBlock ∧ some k_ ≠ ((.slice Ao41 t526.length co41) : Value).ownBlock ∧ some k_ ≠ ((.slice Ao107 t556.length co107) : Value).ownBlock ∧ some k_ ≠ ((.slice Ao108 t559.length co108) : Value).ownBlock) (.slice Ao33 t542.length co33) t542) ∧ Aside0 (Kd.R (Kd.int .i64) 3 wc w.heap.size (fun k_ => some k_ ≠ ((.slice Ao24 t506.length co24) : Value).ownBlock ∧ some k_ ≠ ((.slice Ao25 t509.length co25) : Value).ownBlock ∧ some k_ ≠ ((.slice Ao32 t541.length co32) : Value).ownBlock ∧ some k_ ≠ ((.slice Ao33 t542.length co33) : Value).ownBlock ∧ some k_ ≠ ((.slice Ao41 t526.length co41) : Value).ownBlock ∧ some k_ ≠ ((.slice Ao107 t556.length co107) : Value).ownBlock ∧ some k_ ≠ ((.slice Ao108 t559.length co108) : Value).ownBlock) (.slice Ao40 t523.length co40) t545) ∧ Aside0 (Kd.R (Kd.int .i64) 3 wc w.heap.size (fun k_ => some k_ ≠ ((.slice Ao24 t506.length co24) : Value).ownBlock ∧ some k_ ≠ ((.slice Ao25 t509.length co25) : Value).ownBlock ∧ some k_ ≠ ((.slice Ao32 t541.length co32) : Value).ownBlock ∧ some k_ ≠ ((.slice Ao33 t542.length co33) : Value).ownBlock ∧ some k_ ≠ ((.slice Ao40 t523.length co40) : Value).ownBlock ∧ some k_ ≠ ((.slice Ao107 t556.length co107) : Value).ownBlock ∧ some k_ ≠ ((.slice Ao108 t559.length co108) : Value).ownBlock) (.slice Ao41 t526.length co41) t546) ∧ Aside0 (Kd.R (Kd.int .i64) 3 wc w.heap.size (fun k_ => some k_ ≠ ((.slice Ao24 t506.length co24) : Value).ownBlock ∧ some k_ ≠ ((.slice Ao25 t509.length co25) : Value).ownBlock ∧ some k_ ≠ ((.slice Ao32 t541.length co32) : Value).ownBlock ∧ some k_ ≠ ((.slice Ao33 t542.length co33) : Value).ownBlock ∧ some k_ ≠ ((.slice Ao40 t523.length co40) : Value).ownBlock ∧ some k_ ≠ ((.slice Ao41 t526.length co41) : Value).ownBlock ∧ some k_ ≠ ((.slice Ao108 t559.length co108) : Value).ownBlock) (.slice Ao107 t556.length co107) t556) ∧ Aside0 (Kd.R (Kd.int .i64) 3 wc w.heap.size (fun k_ => some k_ ≠ ((.slice Ao24 t506.length co24) : Value).ownBlock ∧ some k_ ≠ ((.slice Ao25 t509.length co25) : Value).ownBlock ∧ some k_ ≠ ((.slice Ao32 t541.length co32) : Value).ownBlock ∧ some k_ ≠ ((.slice Ao33 t542.length co33) : Value).ownBlock ∧ some k_ ≠ ((.slice Ao40 t523.length co40) : Value).ownBlock ∧ some k_ ≠ ((.slice Ao41 t526.length co41) : Value).ownBlock ∧ some k_ ≠ ((.slice Ao107 t556.length co107) : Value).ownBlock) (.slice Ao108 t559.length co108) t559) ∧ Aside0 (wc.heap[gb496]? = some (.cells #[.int .i64 a0_0, (.slice A0_1 l0_1.length c0_1), (.slice A0_2 l0_2.length c0_2)] 43 (0, 0))) ∧ Aside0 (wc.heap[gb513]? = some (.cells #[.int .i64 t505, (.slice Ao24 t506.length co24), (.slice Ao25 t509.length co25)] 46 (0, 0))) ∧ Aside0 (wc.heap[gb521]? = some (.cells #[.int .i64 t514, (.slice Ao32 t541.length co32), (.slice Ao33 t542.length co33)] 46 (0, 0))) ∧ Aside0 (wc.heap[gb530]? = some (.cells #[.int .i64 t522, (.slice Ao40 t523.length co40), (.slice Ao41 t526.length co41)] 46 (0, 0))) ∧ Aside0 (wc.heap[gb563]? = some (.cells #[.int .i64 t555, (.slice Ao107 t556.length co107), (.slice Ao108 t559.length co108)] 46 (0, 0))) ∧ Aside0 (Below w.heap.size w wc))
                      case first =>
                        have H := HC86.out
                        clear HC86
                        replace H := Option.bind_eq_some_iff.mp H
                        obtain ⟨t564, A1090, H⟩ := H
                        replace H : (if t564 = true then (laws_FnExactStandAt.j2 kj56 t544 (t562 != t512) t522 t545 t546) else (laws_FnExactStandAt.j2 kj56 t544 true t522 t545 t546)) = some r := H
                        have A109 := Aside0.mk A1090
                        clear A1090
                        by_cases c110 : t564 = true
                        · subst c110
                          have H1 : (laws_FnExactStandAt.j2 kj56 t544 (t562 != t512) t522 t545 t546) = some r := by rw [if_pos rfl] at H; exact H
                          clear H
                          have H := H1
                          clear H1
                          have H' := Aside0.mk H
                          clear H
                          have hnb111 := NB563_496.out
                          have hnc111 := NB496_563.out
                          have hnb112 := NB563_513.out
                          have hnc112 := NB513_563.out
                          have hnb113 := NB563_521.out
                          have hnc113 := NB521_563.out
                          have hnb114 := NB563_530.out
                          have hnc114 := NB530_563.out
                          have hcz115_0 : w101.cell? ⟨gb563, 0, none⟩ = some (.int .i64 0) := (blk_cell BK563.out 0).trans rfl
                          have hcz115_1 : w101.cell? ⟨gb563, 1, none⟩ = some (.slice none 0 0) := (blk_cell BK563.out 1).trans rfl
                          have hcz115_2 : w101.cell? ⟨gb563, 2, none⟩ = some (.slice none 0 0) := (blk_cell BK563.out 2).trans rfl
                          have hfz115_0 := blk_frozen BK563.out 0
                          have hfz115_1 := blk_frozen BK563.out 1
                          have hfz115_2 := blk_frozen BK563.out 2
                          have hnb116 := NB513_496.out
                          have hnc116 := NB496_513.out
                          have hnb117 := NB513_521.out
                          have hnc117 := NB521_513.out
                          have hnb118 := NB513_530.out
                          have hnc118 := NB530_513.out
                          have hcz119_0 : w101.cell? ⟨gb513, 0, none⟩ = some (.int .i64 t505) := (blk_cell BK513.out 0).trans rfl
                          have hcz119_1 : w101.cell? ⟨gb513, 1, none⟩ = some (.slice Ao24 t506.length co24) := (blk_cell BK513.out 1).trans rfl
                          have hcz119_2 : w101.cell? ⟨gb513, 2, none⟩ = some (.slice Ao25 t509.length co25) := (blk_cell BK513.out 2).trans rfl
                          have hfz119_0 := blk_frozen BK513.out 0
                          have hfz119_1 := blk_frozen BK513.out 1
                          have hfz119_2 := blk_frozen BK513.out 2
                          go_wp2_with (first | ((with_reducible refine gate_callee (f := 27) rfl ?_); refine goesL_ (some 86) rfl rfl Try.func27 (by kernel_rfl) rfl #[.agg #[.int .i64 t555, .slice Ao107 t556.length co107, .slice Ao108 t559.length co108], .agg #[.int .i64 t505, .slice Ao24 t506.length co24, .slice Ao25 t509.length co25]] rfl (by (try simp only [List.map_toArray, List.map_cons, List.map_nil]); first | done | rfl | (simp only [List.length_drop, List.length_take]; rfl) | (go_simp; done) | (simp [*]; done)) ?_; (with_reducible refine (laws_eqLatch.calls kj56 t555 _ _ t556 _ _ t559 t505 _ _ t506 _ _ t509 true _ ?side1 ?side2 ?side3 ?side4 ?side5 ?side6 ?side7 ?side8 A109.out).mono ?_); (case side1 => refine (Kd.R_reads' (e := 3) (base := w.heap.size) (ok := fun k_ => ((((((((some k_ ≠ (.slice Ao108 t559.length co108 : Value).ownBlock ∧ some k_ ≠ (.slice Ao24 t506.length co24 : Value).ownBlock) ∧ some k_ ≠ (.slice Ao25 t509.length co25 : Value).ownBlock) ∧ some k_ ≠ (.slice Ao32 t541.length co32 : Value).ownBlock) ∧ some k_ ≠ (.slice Ao33 t542.length co33 : Value).ownBlock) ∧ some k_ ≠ (.slice Ao40 t523.length co40 : Value).ownBlock) ∧ some k_ ≠ (.slice Ao41 t526.length co41 : Value).ownBlock) ∧ some k_ ≠ (.slice Ao98 t549.length co98 : Value).ownBlock) ∧ some k_ ≠ (.slice Ao99 t552.length co99 : Value).ownBlock)) (n := t556.length) (c := co107) ?_).2.2; exact (by (with_reducible repeat (first | apply Kd.R_alloc | apply Kd.R_drewN | apply Kd.R_drew)); exact (Kd.R_mono (Kd.R_far (p := ⟨gb563, 2, none⟩) (Kd.R_far (p := ⟨gb563, 1, none⟩) (Kd.R_far (p := ⟨gb563, 0, none⟩) (Kd.R_types HO558.out BK563.out (by decide)) (fun _ hk => hk.2) (.int .i64 t555)) (fun _ hk => hk.2) (.slice Ao107 t556.length co107)) (fun _ hk => hk.2) (.slice Ao108 t559.length co108)) (fun _ h_ => h_.1)))); (case side2 => exact (Kd.R_reads' HO558.out).2.1); (case side3 => refine (Kd.R_reads' (e := 3) (base := w.heap.size) (ok := fun k_ => ((((((((some k_ ≠ (.slice Ao107 t556.length co107 : Value).ownBlock ∧ some k_ ≠ (.slice Ao24 t506.length co24 : Value).ownBlock) ∧ some k_ ≠ (.slice Ao25 t509.length co25 : Value).ownBlock) ∧ some k_ ≠ (.slice Ao32 t541.length co32 : Value).ownBlock) ∧ some k_ ≠ (.slice Ao33 t542.length co33 : Value).ownBlock) ∧ some k_ ≠ (.slice Ao40 t523.length co40 : Value).ownBlock) ∧ some k_ ≠ (.slice Ao41 t526.length co41 : Value).ownBlock) ∧ some k_ ≠ (.slice Ao98 t549.length co98 : Value).ownBlock) ∧ some k_ ≠ (.slice Ao99 t552.length co99 : Value).ownBlock)) (n := t559.length) (c := co108) ?_).2.2; exact (by (with_reducible repeat (first | apply Kd.R_alloc | apply Kd.R_drewN | apply Kd.R_drew)); exact (Kd.R_mono (Kd.R_far (p := ⟨gb563, 2, none⟩) (Kd.R_far (p := ⟨gb563, 1, none⟩) (Kd.R_far (p := ⟨gb563, 0, none⟩) (Kd.R_types HO561.out BK563.out (by decide)) (fun _ hk => hk.2) (.int .i64 t555)) (fun _ hk => hk.2) (.slice Ao107 t556.length co107)) (fun _ hk => hk.2) (.slice Ao108 t559.length co108)) (fun _ h_ => h_.1)))); (case side4 => exact (Kd.R_reads' HO561.out).2.1); (case side5 => refine (Kd.R_reads' (e := 3) (base := w.heap.size) (ok := fun k_ => (((((some k_ ≠ (.slice Ao25 t509.length co25 : Value).ownBlock ∧ (some k_ ≠ (.slice Ao32 t541.length co32 : Value).ownBlock ∧ (some k_ ≠ (.slice Ao33 t542.length co33 : Value).ownBlock ∧ (some k_ ≠ (.slice Ao40 t523.length co40 : Value).ownBlock ∧ some k_ ≠ (.slice Ao41 t526.length co41 : Value).ownBlock)))) ∧ some k_ ≠ (.slice Ao98 t549.length co98 : Value).ownBlock) ∧ some k_ ≠ (.slice Ao99 t552.length co99 : Value).ownBlock) ∧ some k_ ≠ (.slice Ao107 t556.length co107 : Value).ownBlock) ∧ some k_ ≠ (.slice Ao108 t559.length co108 : Value).ownBlock)) (n := t506.length) (c := co24) ?_).2.2; exact (by (with_reducible repeat (first | apply Kd.R_alloc | apply Kd.R_drewN | apply Kd.R_drew)); exact (Kd.R_mono (Kd.R_far (p := ⟨gb563, 2, none⟩) (Kd.R_far (p := ⟨gb563, 1, none⟩) (Kd.R_far (p := ⟨gb563, 0, none⟩) (Kd.R_types HO_514001.out BK563.out (by decide)) (fun _ hk => hk.2) (.int .i64 t555)) (fun _ hk => hk.2) (.slice Ao107 t556.length co107)) (fun _ hk => hk.2) (.slice Ao108 t559.length co108)) (fun _ h_ => h_.1)))); (case side6 => exact (Kd.R_reads' HO_514001.out).2.1); (case side7 => refine (Kd.R_reads' (e := 3) (base := w.heap.size) (ok := fun k_ => (((((some k_ ≠ (.slice Ao24 t506.length co24 : Value).ownBlock ∧ (some k_ ≠ (.slice Ao32 t541.length co32 : Value).ownBlock ∧ (some k_ ≠ (.slice Ao33 t542.length co33 : Value).ownBlock ∧ (some k_ ≠ (.slice Ao40 t523.length co40 : Value).ownBlock ∧ some k_ ≠ (.slice Ao41 t526.length co41 : Value).ownBlock)))) ∧ some k_ ≠ (.slice Ao98 t549.length co98 : Value).ownBlock) ∧ some k_ ≠ (.slice Ao99 t552.length co99 : Value).ownBlock) ∧ some k_ ≠ (.slice Ao107 t556.length co107 : Value).ownBlock) ∧ some k_ ≠ (.slice Ao108 t559.length co108 : Value).ownBlock)) (n := t509.length) (c := co25) ?_).2.2; exact (by (with_reducible repeat (first | apply Kd.R_alloc | apply Kd.R_drewN | apply Kd.R_drew)); exact (Kd.R_mono (Kd.R_far (p := ⟨gb563, 2, none⟩) (Kd.R_far (p := ⟨gb563, 1, none⟩) (Kd.R_far (p := ⟨gb563, 0, none⟩) (Kd.R_types HO_514002.out BK563.out (by decide)) (fun _ hk => hk.2) (.int .i64 t555)) (fun _ hk => hk.2) (.slice Ao107 t556.length co107)) (fun _ hk => hk.2) (.slice Ao108 t559.length co108)) (fun _ h_ => h_.1)))); (case side8 => exact (Kd.R_reads' HO_514002.out).2.1); rintro e w120 ⟨rfl, hb⟩; refine ⟨_, rfl, ?_⟩; have n0_ := Aside0.mk (Kd.R_below (by (with_reducible repeat (first | apply Kd.R_alloc | apply Kd.R_drewN | apply Kd.R_drew)); exact (Kd.R_mono (Kd.R_far (p := ⟨gb563, 2, none⟩) (Kd.R_far (p := ⟨gb563, 1, none⟩) (Kd.R_far (p := ⟨gb563, 0, none⟩) (Kd.R_types HO_514001.out BK563.out (by decide)) (fun _ hk => hk.2) (.int .i64 t555)) (fun _ hk => hk.2) (.slice Ao107 t556.length co107)) (fun _ hk => hk.2) (.slice Ao108 t559.length co108)) (fun _ h_ => h_.1))) hb); have n1_ := Aside0.mk (Kd.R_below (by (with_reducible repeat (first | apply Kd.R_alloc | apply Kd.R_drewN | apply Kd.R_drew)); exact (Kd.R_mono (Kd.R_far (p := ⟨gb563, 2, none⟩) (Kd.R_far (p := ⟨gb563, 1, none⟩) (Kd.R_far (p := ⟨gb563, 0, none⟩) (Kd.R_types HO_514002.out BK563.out (by decide)) (fun _ hk => hk.2) (.int .i64 t555)) (fun _ hk => hk.2) (.slice Ao107 t556.length co107)) (fun _ hk => hk.2) (.slice Ao108 t559.length co108)) (fun _ h_ => h_.1))) hb); have n2_ := Aside0.mk (Kd.R_below (by (with_reducible repeat (first | apply Kd.R_alloc | apply Kd.R_drewN | apply Kd.R_drew)); exact (Kd.R_mono (Kd.R_far (p := ⟨gb563, 2, none⟩) (Kd.R_far (p := ⟨gb563, 1, none⟩) (Kd.R_far (p := ⟨gb563, 0, none⟩) (Kd.R_types HO_522001.out BK563.out (by decide)) (fun _ hk => hk.2) (.int .i64 t555)) (fun _ hk => hk.2) (.slice Ao107 t556.length co107)) (fun _ hk => hk.2) (.slice Ao108 t559.length co108)) (fun _ h_ => h_.1))) hb); have n3_ := Aside0.mk (Kd.R_below (by (with_reducible repeat (first | apply Kd.R_alloc | apply Kd.R_drewN | apply Kd.R_drew)); exact (Kd.R_mono (Kd.R_far (p := ⟨gb563, 2, none⟩) (Kd.R_far (p := ⟨gb563, 1, none⟩) (Kd.R_far (p := ⟨gb563, 0, none⟩) (Kd.R_types HO_522002.out BK563.out (by decide)) (fun _ hk => hk.2) (.int .i64 t555)) (fun _ hk => hk.2) (.slice Ao107 t556.length co107)) (fun _ hk => hk.2) (.slice Ao108 t559.length co108)) (fun _ h_ => h_.1))) hb); have n4_ := Aside0.mk (Kd.R_below (by (with_reducible repeat (first | apply Kd.R_alloc | apply Kd.R_drewN | apply Kd.R_drew)); exact (Kd.R_mono (Kd.R_far (p := ⟨gb563, 2, none⟩) (Kd.R_far (p := ⟨gb563, 1, none⟩) (Kd.R_far (p := ⟨gb563, 0, none⟩) (Kd.R_types HO_531001.out BK563.out (by decide)) (fun _ hk => hk.2) (.int .i64 t555)) (fun _ hk => hk.2) (.slice Ao107 t556.length co107)) (fun _ hk => hk.2) (.slice Ao108 t559.length co108)) (fun _ h_ => h_.1))) hb); have n5_ := Aside0.mk (Kd.R_below (by (with_reducible repeat (first | apply Kd.R_alloc | apply Kd.R_drewN | apply Kd.R_drew)); exact (Kd.R_mono (Kd.R_far (p := ⟨gb563, 2, none⟩) (Kd.R_far (p := ⟨gb563, 1, none⟩) (Kd.R_far (p := ⟨gb563, 0, none⟩) (Kd.R_types HO_531002.out BK563.out (by decide)) (fun _ hk => hk.2) (.int .i64 t555)) (fun _ hk => hk.2) (.slice Ao107 t556.length co107)) (fun _ hk => hk.2) (.slice Ao108 t559.length co108)) (fun _ h_ => h_.1))) hb); have n6_ := Aside0.mk (Kd.R_below (by (with_reducible repeat (first | apply Kd.R_alloc | apply Kd.R_drewN | apply Kd.R_drew)); exact (Kd.R_mono (Kd.R_far (p := ⟨gb563, 2, none⟩) (Kd.R_far (p := ⟨gb563, 1, none⟩) (Kd.R_far (p := ⟨gb563, 0, none⟩) (Kd.R_types HO551.out BK563.out (by decide)) (fun _ hk => hk.2) (.int .i64 t555)) (fun _ hk => hk.2) (.slice Ao107 t556.length co107)) (fun _ hk => hk.2) (.slice Ao108 t559.length co108)) (fun _ h_ => h_.1))) hb); have n7_ := Aside0.mk (Kd.R_below (by (with_reducible repeat (first | apply Kd.R_alloc | apply Kd.R_drewN | apply Kd.R_drew)); exact (Kd.R_mono (Kd.R_far (p := ⟨gb563, 2, none⟩) (Kd.R_far (p := ⟨gb563, 1, none⟩) (Kd.R_far (p := ⟨gb563, 0, none⟩) (Kd.R_types HO554.out BK563.out (by decide)) (fun _ hk => hk.2) (.int .i64 t555)) (fun _ hk => hk.2) (.slice Ao107 t556.length co107)) (fun _ hk => hk.2) (.slice Ao108 t559.length co108)) (fun _ h_ => h_.1))) hb); have n8_ := Aside0.mk (Kd.R_below (by (with_reducible repeat (first | apply Kd.R_alloc | apply Kd.R_drewN | apply Kd.R_drew)); exact (Kd.R_mono (Kd.R_far (p := ⟨gb563, 2, none⟩) (Kd.R_far (p := ⟨gb563, 1, none⟩) (Kd.R_far (p := ⟨gb563, 0, none⟩) (Kd.R_types HO558.out BK563.out (by decide)) (fun _ hk => hk.2) (.int .i64 t555)) (fun _ hk => hk.2) (.slice Ao107 t556.length co107)) (fun _ hk => hk.2) (.slice Ao108 t559.length co108)) (fun _ h_ => h_.1))) hb); have n9_ := Aside0.mk (Kd.R_below (by (with_reducible repeat (first | apply Kd.R_alloc | apply Kd.R_drewN | apply Kd.R_drew)); exact (Kd.R_mono (Kd.R_far (p := ⟨gb563, 2, none⟩) (Kd.R_far (p := ⟨gb563, 1, none⟩) (Kd.R_far (p := ⟨gb563, 0, none⟩) (Kd.R_types HO561.out BK563.out (by decide)) (fun _ hk => hk.2) (.int .i64 t555)) (fun _ hk => hk.2) (.slice Ao107 t556.length co107)) (fun _ hk => hk.2) (.slice Ao108 t559.length co108)) (fun _ h_ => h_.1))) hb); have n10_ := Aside0.mk (blk_below (g := gb496) (o := .cells #[.int .i64 a0_0, .slice A0_1 l0_1.length c0_1, .slice A0_2 l0_2.length c0_2] 43 (0, 0)) (by (with_reducible repeat (first | refine blk_drewN ?_ _ | refine blk_drew ?_ | refine blk_alloc ?_ _)); refine blk_far ?_ NB496_563.out _; (with_reducible repeat (first | refine blk_drewN ?_ _ | refine blk_drew ?_ | refine blk_alloc ?_ _)); refine blk_far ?_ NB496_563.out _; (with_reducible repeat (first | refine blk_drewN ?_ _ | refine blk_drew ?_ | refine blk_alloc ?_ _)); refine blk_far ?_ NB496_563.out _; (with_reducible repeat (first | refine blk_drewN ?_ _ | refine blk_drew ?_ | refine blk_alloc ?_ _)); exact BK496.out) hb); have n11_ := Aside0.mk (blk_below (g := gb513) (o := .cells #[.int .i64 t505, .slice Ao24 t506.length co24, .slice Ao25 t509.length co25] 46 (0, 0)) (by (with_reducible repeat (first | refine blk_drewN ?_ _ | refine blk_drew ?_ | refine blk_alloc ?_ _)); refine blk_far ?_ NB513_563.out _; (with_reducible repeat (first | refine blk_drewN ?_ _ | refine blk_drew ?_ | refine blk_alloc ?_ _)); refine blk_far ?_ NB513_563.out _; (with_reducible repeat (first | refine blk_drewN ?_ _ | refine blk_drew ?_ | refine blk_alloc ?_ _)); refine blk_far ?_ NB513_563.out _; (with_reducible repeat (first | refine blk_drewN ?_ _ | refine blk_drew ?_ | refine blk_alloc ?_ _)); exact BK513.out) hb); have n12_ := Aside0.mk (blk_below (g := gb521) (o := .cells #[.int .i64 t514, .slice Ao32 t541.length co32, .slice Ao33 t542.length co33] 46 (0, 0)) (by (with_reducible repeat (first | refine blk_drewN ?_ _ | refine blk_drew ?_ | refine blk_alloc ?_ _)); refine blk_far ?_ NB521_563.out _; (with_reducible repeat (first | refine blk_drewN ?_ _ | refine blk_drew ?_ | refine blk_alloc ?_ _)); refine blk_far ?_ NB521_563.out _; (with_reducible repeat (first | refine blk_drewN ?_ _ | refine blk_drew ?_ | refine blk_alloc ?_ _)); refine blk_far ?_ NB521_563.out _; (with_reducible repeat (first | refine blk_drewN ?_ _ | refine blk_drew ?_ | refine blk_alloc ?_ _)); exact BK521.out) hb); have n13_ := Aside0.mk (blk_below (g := gb530) (o := .cells #[.int .i64 t522, .slice Ao40 t523.length co40, .slice Ao41 t526.length co41] 46 (0, 0)) (by (with_reducible repeat (first | refine blk_drewN ?_ _ | refine blk_drew ?_ | refine blk_alloc ?_ _)); refine blk_far ?_ NB530_563.out _; (with_reducible repeat (first | refine blk_drewN ?_ _ | refine blk_drew ?_ | refine blk_alloc ?_ _)); refine blk_far ?_ NB530_563.out _; (with_reducible repeat (first | refine blk_drewN ?_ _ | refine blk_drew ?_ | refine blk_alloc ?_ _)); refine blk_far ?_ NB530_563.out _; (with_reducible repeat (first | refine blk_drewN ?_ _ | refine blk_drew ?_ | refine blk_alloc ?_ _)); exact BK530.out) hb); have n14_ := Aside0.mk (blk_below (g := gb563) (o := .cells #[.int .i64 t555, .slice Ao107 t556.length co107, .slice Ao108 t559.length co108] 46 (0, 0)) (by (with_reducible repeat (first | refine blk_drewN ?_ _ | refine blk_drew ?_ | refine blk_alloc ?_ _)); refine blk_put (cs := #[.int .i64 t555, .slice Ao107 t556.length co107, .slice none 0 0]) ?_ 2 _ rfl; (with_reducible repeat (first | refine blk_drewN ?_ _ | refine blk_drew ?_ | refine blk_alloc ?_ _)); refine blk_put (cs := #[.int .i64 t555, .slice none 0 0, .slice none 0 0]) ?_ 1 _ rfl; (with_reducible repeat (first | refine blk_drewN ?_ _ | refine blk_drew ?_ | refine blk_alloc ?_ _)); refine blk_put (cs := #[.int .i64 0, .slice none 0 0, .slice none 0 0]) ?_ 0 _ rfl; (with_reducible repeat (first | refine blk_drewN ?_ _ | refine blk_drew ?_ | refine blk_alloc ?_ _)); exact BK563.out) hb); have n15_ := Aside0.mk (below_step (by repeat (first | (with_reducible first | exact HB.out | apply below_alloc | apply pw_below_drewN | apply below_drew1 | refine below_set ?_ GE496.out | refine below_set ?_ GE513.out | refine below_set ?_ GE521.out | refine below_set ?_ GE530.out | refine below_set ?_ GE563.out) | exact HB.out)) hb); clear HO_514001 HO_514002 HO_522001 HO_522002 HO_531001 HO_531002 HO551 HO554 HO558 HO561 BK496 BK513 BK521 BK530 BK563 HB; have HO_514001 := n0_; have HO_514002 := n1_; have HO_522001 := n2_; have HO_522002 := n3_; have HO_531001 := n4_; have HO_531002 := n5_; have HO551 := n6_; have HO554 := n7_; have HO558 := n8_; have HO561 := n9_; have BK496 := n10_; have BK513 := n11_; have BK521 := n12_; have BK530 := n13_; have BK563 := n14_; have HB := n15_; clear n0_ n1_ n2_ n3_ n4_ n5_ n6_ n7_ n8_ n9_ n10_ n11_ n12_ n13_ n14_ n15_; (try clear hb); (try clear hb2); (try clear hk); (try clear hi)))
                          go_meet
                          case rel => exact ⟨_, ((t562 != t512)), (by first | rfl | (simp; done) | (simp [*]; done)), H', ⟨by have := HJ11.out; have := HJ56.out; first | omega | exact Nat.le_refl _⟩, ⟨by (try simp only [hl522001_56]); (try simp only [hl522002_56]); (with_reducible repeat (first | apply Kd.R_alloc | apply Kd.R_drewN | apply Kd.R_drew)); exact Kd.R_mono HO_514001.out (fun _ hk => ⟨hk.1.1.1.1.1, ⟨hk.1.1.1.1.2.1, ⟨hk.1.1.1.1.2.2.1, ⟨hk.1.1.1.1.2.2.2.1, ⟨hk.1.1.1.1.2.2.2.2, ⟨hk.1.2, hk.2⟩⟩⟩⟩⟩⟩)⟩, ⟨by (try simp only [hl522001_56]); (try simp only [hl522002_56]); (with_reducible repeat (first | apply Kd.R_alloc | apply Kd.R_drewN | apply Kd.R_drew)); exact Kd.R_mono HO_514002.out (fun _ hk => ⟨hk.1.1.1.1.1, ⟨hk.1.1.1.1.2.1, ⟨hk.1.1.1.1.2.2.1, ⟨hk.1.1.1.1.2.2.2.1, ⟨hk.1.1.1.1.2.2.2.2, ⟨hk.1.2, hk.2⟩⟩⟩⟩⟩⟩)⟩, ⟨by (try simp only [hl522001_56]); (try simp only [hl522002_56]); (with_reducible repeat (first | apply Kd.R_alloc | apply Kd.R_drewN | apply Kd.R_drew)); exact Kd.R_mono HO_522001.out (fun _ hk => ⟨hk.1.1.1.1.1, ⟨hk.1.1.1.1.2.1, ⟨hk.1.1.1.1.2.2.1, ⟨hk.1.1.1.1.2.2.2.1, ⟨hk.1.1.1.1.2.2.2.2, ⟨hk.1.2, hk.2⟩⟩⟩⟩⟩⟩)⟩, ⟨by (try simp only [hl522001_56]); (try simp only [hl522002_56]); (with_reducible repeat (first | apply Kd.R_alloc | apply Kd.R_drewN | apply Kd.R_drew)); exact Kd.R_mono HO_522002.out (fun _ hk => ⟨hk.1.1.1.1.1, ⟨hk.1.1.1.1.2.1, ⟨hk.1.1.1.1.2.2.1, ⟨hk.1.1.1.1.2.2.2.1, ⟨hk.1.1.1.1.2.2.2.2, ⟨hk.1.2, hk.2⟩⟩⟩⟩⟩⟩)⟩, ⟨by (try simp only [hl522001_56]); (try simp only [hl522002_56]); (with_reducible repeat (first | apply Kd.R_alloc | apply Kd.R_drewN | apply Kd.R_drew)); exact Kd.R_mono HO_531001.out (fun _ hk => ⟨hk.1.1.1.1.1, ⟨hk.1.1.1.1.2.1, ⟨hk.1.1.1.1.2.2.1, ⟨hk.1.1.1.1.2.2.2.1, ⟨hk.1.1.1.1.2.2.2.2, ⟨hk.1.2, hk.2⟩⟩⟩⟩⟩⟩)⟩, ⟨by (try simp only [hl522001_56]); (try simp only [hl522002_56]); (with_reducible repeat (first | apply Kd.R_alloc | apply Kd.R_drewN | apply Kd.R_drew)); exact Kd.R_mono HO_531002.out (fun _ hk => ⟨hk.1.1.1.1.1, ⟨hk.1.1.1.1.2.1, ⟨hk.1.1.1.1.2.2.1, ⟨hk.1.1.1.1.2.2.2.1, ⟨hk.1.1.1.1.2.2.2.2, ⟨hk.1.2, hk.2⟩⟩⟩⟩⟩⟩)⟩, ⟨by (try simp only [hl522001_56]); (try simp only [hl522002_56]); (with_reducible repeat (first | apply Kd.R_alloc | apply Kd.R_drewN | apply Kd.R_drew)); exact Kd.R_mono HO558.out (fun _ hk => ⟨hk.1.1.1.1.1.1.1.2, ⟨hk.1.1.1.1.1.1.2, ⟨hk.1.1.1.1.1.2, ⟨hk.1.1.1.1.2, ⟨hk.1.1.1.2, ⟨hk.1.1.2, hk.1.1.1.1.1.1.1.1⟩⟩⟩⟩⟩⟩)⟩, ⟨by (try simp only [hl522001_56]); (try simp only [hl522002_56]); (with_reducible repeat (first | apply Kd.R_alloc | apply Kd.R_drewN | apply Kd.R_drew)); exact Kd.R_mono HO561.out (fun _ hk => ⟨hk.1.1.1.1.1.1.1.2, ⟨hk.1.1.1.1.1.1.2, ⟨hk.1.1.1.1.1.2, ⟨hk.1.1.1.1.2, ⟨hk.1.1.1.2, ⟨hk.1.1.2, hk.1.1.1.1.1.1.1.1⟩⟩⟩⟩⟩⟩)⟩, ⟨by (try simp only [hl522001_56]); (try simp only [hl522002_56]); (with_reducible repeat (first | refine blk_drewN ?_ _ | refine blk_drew ?_ | refine blk_alloc ?_ _)); exact BK496.out⟩, ⟨by (try simp only [hl522001_56]); (try simp only [hl522002_56]); (with_reducible repeat (first | refine blk_drewN ?_ _ | refine blk_drew ?_ | refine blk_alloc ?_ _)); exact BK513.out⟩, ⟨by (try simp only [hl522001_56]); (try simp only [hl522002_56]); (with_reducible repeat (first | refine blk_drewN ?_ _ | refine blk_drew ?_ | refine blk_alloc ?_ _)); exact BK521.out⟩, ⟨by (try simp only [hl522001_56]); (try simp only [hl522002_56]); (with_reducible repeat (first | refine blk_drewN ?_ _ | refine blk_drew ?_ | refine blk_alloc ?_ _)); exact BK530.out⟩, ⟨by (try simp only [hl522001_56]); (try simp only [hl522002_56]); (with_reducible repeat (first | refine blk_drewN ?_ _ | refine blk_drew ?_ | refine blk_alloc ?_ _)); exact BK563.out⟩, ⟨by repeat (first | (with_reducible first | exact HB.out | apply below_alloc | apply pw_below_drewN | apply below_drew1 | refine below_set ?_ GE496.out | refine below_set ?_ GE513.out | refine below_set ?_ GE521.out | refine below_set ?_ GE530.out | refine below_set ?_ GE563.out) | exact HB.out)⟩⟩
                        · replace c110 := Bool.eq_false_iff.mpr c110
                          subst c110
                          have H1 : (laws_FnExactStandAt.j2 kj56 t544 true t522 t545 t546) = some r := by rw [if_neg (show ¬ (false = true) by decide)] at H; exact H
                          clear H
                          have H := H1
                          clear H1
                          cases kj56 with
                          | zero => exact absurd H (by simp [laws_FnExactStandAt.j2])
                          | succ k_ => (simp only [laws_FnExactStandAt.j2, if_pos] at H; exact absurd (Option.some.inj H) (by rw [HQ_.out]; simp))
                      case rest =>
                        clear HC86
                        try clear c1
                        try clear c2
                        try clear p2
                        try clear c3
                        try clear c4
                        try clear c4b0
                        try clear c5
                        try clear c6
                        try clear c7
                        try clear c8
                        try clear c9
                        try clear c10
                        try clear c11
                        try clear c22
                        try clear c23
                        try clear c25
                        try clear c27
                        try clear c28
                        try clear c29
                        try clear c30
                        try clear c35
                        try clear c36
                        try clear c37
                        try clear c38
                        try clear c43
                        try clear c44
                        try clear c45
                        try clear c46
                        try clear c48
                        try clear c49
                        try clear c52
                        try clear c55
                        try clear c63
                        try clear c64
                        try clear c65
                        try clear c68
                        try clear c68b0
                        try clear c70
                        try clear c71
                        try clear c72
                        try clear c73
                        try clear c75
                        try clear c76
                        try clear c79
                        try clear c82
                        try clear c82b0
                        try clear c83
                        try clear c83b0
                        try clear c83b1
                        try clear c87
                        try clear c88
                        try clear c89
                        try clear c94
                        try clear c95
                        try clear c102
                        try clear c103
                        try clear c104
                        try clear c105
                        try clear c110
                        try clear c111
                        try clear c112
                        try clear c113
                        try clear c114
                        try clear c116
                        try clear c117
                        try clear c118
                        try clear hcz106_0
                        try clear hcz106_1
                        try clear hcz106_2
                        try clear hcz115_0
                        try clear hcz115_1
                        try clear hcz115_2
                        try clear hcz119_0
                        try clear hcz119_1
                        try clear hcz119_2
                        try clear hcz14_0
                        try clear hcz14_1
                        try clear hcz14_2
                        try clear hcz16_0
                        try clear hcz16_1
                        try clear hcz16_2
                        try clear hcz23_0
                        try clear hcz23_1
                        try clear hcz23_2
                        try clear hcz26_0
                        try clear hcz26_1
                        try clear hcz26_2
                        try clear hcz31_0
                        try clear hcz31_1
                        try clear hcz31_2
                        try clear hcz39_0
                        try clear hcz39_1
                        try clear hcz39_2
                        try clear hcz47_0
                        try clear hcz47_1
                        try clear hcz47_2
                        try clear hcz50_0
                        try clear hcz50_1
                        try clear hcz50_2
                        try clear hcz66_0
                        try clear hcz66_1
                        try clear hcz66_2
                        try clear hcz6_0
                        try clear hcz6_1
                        try clear hcz6_2
                        try clear hcz74_0
                        try clear hcz74_1
                        try clear hcz74_2
                        try clear hcz77_0
                        try clear hcz77_1
                        try clear hcz77_2
                        try clear hcz90_0
                        try clear hcz90_1
                        try clear hcz90_2
                        try clear hcz92_0
                        try clear hcz92_1
                        try clear hcz92_2
                        try clear hcz96_0
                        try clear hcz96_1
                        try clear hcz96_2
                        try clear hfz106_0
                        try clear hfz106_1
                        try clear hfz106_2
                        try clear hfz115_0
                        try clear hfz115_1
                        try clear hfz115_2
                        try clear hfz119_0
                        try clear hfz119_1
                        try clear hfz119_2
                        try clear hfz14_0
                        try clear hfz14_1
                        try clear hfz14_2
                        try clear hfz16_0
                        try clear hfz16_1
                        try clear hfz16_2
                        try clear hfz23_0
                        try clear hfz23_1
                        try clear hfz23_2
                        try clear hfz26_0
                        try clear hfz26_1
                        try clear hfz26_2
                        try clear hfz31_0
                        try clear hfz31_1
                        try clear hfz31_2
                        try clear hfz39_0
                        try clear hfz39_1
                        try clear hfz39_2
                        try clear hfz47_0
                        try clear hfz47_1
                        try clear hfz47_2
                        try clear hfz50_0
                        try clear hfz50_1
                        try clear hfz50_2
                        try clear hfz66_0
                        try clear hfz66_1
                        try clear hfz66_2
                        try clear hfz6_0
                        try clear hfz6_1
                        try clear hfz6_2
                        try clear hfz74_0
                        try clear hfz74_1
                        try clear hfz74_2
                        try clear hfz77_0
                        try clear hfz77_1
                        try clear hfz77_2
                        try clear hfz90_0
                        try clear hfz90_1
                        try clear hfz90_2
                        try clear hfz92_0
                        try clear hfz92_1
                        try clear hfz92_2
                        try clear hfz96_0
                        try clear hfz96_1
                        try clear hfz96_2
                        try clear p2
                        obtain ⟨kq, x92_85, rfl, HA, HJ85, HO_514001, HO_514002, HO_522001, HO_522002, HO_531001, HO_531002, HO_564001, HO_564002, BK496, BK513, BK521, BK530, BK563, HB⟩ := hcut
                        have hl531001_85 := (Kd.R_reads' HO_531001.out).1
                        rw [hl531001_85] at HO_531001
                        (try simp only [hl531001_85])
                        (try simp only [hl531001_85] at BK496)
                        (try simp only [hl531001_85] at BK513)
                        (try simp only [hl531001_85] at BK521)
                        (try simp only [hl531001_85] at BK530)
                        (try simp only [hl531001_85] at BK563)
                        (try simp only [hl531001_85] at HO_514001)
                        (try simp only [hl531001_85] at HO_514002)
                        (try simp only [hl531001_85] at HO_522001)
                        (try simp only [hl531001_85] at HO_522002)
                        (try simp only [hl531001_85] at HO_531002)
                        (try simp only [hl531001_85] at HO_564001)
                        (try simp only [hl531001_85] at HO_564002)
                        have hl531002_85 := (Kd.R_reads' HO_531002.out).1
                        rw [hl531002_85] at HO_531002
                        (try simp only [hl531002_85])
                        (try simp only [hl531002_85] at BK496)
                        (try simp only [hl531002_85] at BK513)
                        (try simp only [hl531002_85] at BK521)
                        (try simp only [hl531002_85] at BK530)
                        (try simp only [hl531002_85] at BK563)
                        (try simp only [hl531002_85] at HO_514001)
                        (try simp only [hl531002_85] at HO_514002)
                        (try simp only [hl531002_85] at HO_522001)
                        (try simp only [hl531002_85] at HO_522002)
                        (try simp only [hl531002_85] at HO_531001)
                        (try simp only [hl531002_85] at HO_564001)
                        (try simp only [hl531002_85] at HO_564002)
                        cases kq with
                        | zero => exact absurd HA.out (by simp [laws_FnExactStandAt.j2])
                        | succ kj85 =>
                          have H := HA.out
                          clear HA
                          simp only [laws_FnExactStandAt.j2] at H
                          by_cases c121 : x92_85 = true
                          · subst c121
                            have H1 : (some false) = some r := by rw [if_pos rfl] at H; exact H
                            clear H
                            have H := H1
                            clear H1
                            exact absurd (Option.some.inj H) (by rw [HQ_.out]; simp)
                          · replace c121 := Bool.eq_false_iff.mpr c121
                            subst c121
                            have H1 : ((laws_heldLatch.f kj85 t522 t545 t546 1).bind fun t565 => (if t565 < 0 then (some false) else (if t565 = t544 then (some true) else (some false)))) = some r := by rw [if_neg (show ¬ (false = true) by decide)] at H; exact H
                            clear H
                            have H := H1
                            clear H1
                            replace H := Option.bind_eq_some_iff.mp H
                            obtain ⟨t565, A1220, H⟩ := H
                            replace H : (if t565 < 0 then (some false) else (if t565 = t544 then (some true) else (some false))) = some r := H
                            have A122 := Aside0.mk A1220
                            clear A1220
                            by_cases c123 : t565 < 0
                            · rw [if_pos c123] at H
                              have c123b0 : decide (t565 < 0) = true := decide_eq_true c123
                              clear c123
                              exact absurd (Option.some.inj H) (by rw [HQ_.out]; simp)
                            · rw [if_neg c123] at H
                              have c123b0 : decide (t565 < 0) = false := decide_eq_false c123
                              clear c123
                              by_cases c124 : t565 = t544
                              · rw [if_pos c124] at H
                                have c124b0 : (t565 == t544) = true := beq_iff_eq.mpr c124
                                have c124b1 : (t565 != t544) = false := bne_eq_false_iff_eq.mpr c124
                                clear c124
                                obtain rfl := Option.some.inj H
                                have hnb125 := NB530_496.out
                                have hnc125 := NB496_530.out
                                have hnb126 := NB530_513.out
                                have hnc126 := NB513_530.out
                                have hnb127 := NB530_521.out
                                have hnc127 := NB521_530.out
                                have hnb128 := NB530_563.out
                                have hnc128 := NB563_530.out
                                have hcz129_0 : wc.cell? ⟨gb530, 0, none⟩ = some (.int .i64 t522) := (blk_cell BK530.out 0).trans rfl
                                have hcz129_1 : wc.cell? ⟨gb530, 1, none⟩ = some (.slice Ao40 t545.length co40) := (blk_cell BK530.out 1).trans rfl
                                have hcz129_2 : wc.cell? ⟨gb530, 2, none⟩ = some (.slice Ao41 t546.length co41) := (blk_cell BK530.out 2).trans rfl
                                have hfz129_0 := blk_frozen BK530.out 0
                                have hfz129_1 := blk_frozen BK530.out 1
                                have hfz129_2 := blk_frozen BK530.out 2
                                go_wp2_with (first | ((with_reducible refine gate_callee (f := 37) rfl ?_); refine goesL_ (some 95) rfl rfl Try.func37 (by kernel_rfl) rfl #[.agg #[.int .i64 t522, .slice Ao40 t545.length co40, .slice Ao41 t546.length co41], .int .i64 1] rfl (by (try simp only [List.map_toArray, List.map_cons, List.map_nil]); first | done | rfl | (simp only [List.length_drop, List.length_take]; rfl) | (go_simp; done) | (simp [*]; done)) ?_; (with_reducible refine (laws_heldLatch.calls kj85 t522 _ _ t545 _ _ t546 1 t565 _ ?side1 ?side2 ?side3 ?side4 A122.out).mono ?_); (case side1 => exact pkC (Kd.R_reads' HO_531001.out).2.2); (case side2 => exact (Kd.R_reads' HO_531001.out).2.1); (case side3 => exact pkC (Kd.R_reads' HO_531002.out).2.2); (case side4 => exact (Kd.R_reads' HO_531002.out).2.1); rintro e w130 ⟨rfl, hb⟩; refine ⟨_, rfl, ?_⟩; have n0_ := Aside0.mk (Kd.R_below (pkR HO_514001.out) hb); have n1_ := Aside0.mk (Kd.R_below (pkR HO_514002.out) hb); have n2_ := Aside0.mk (Kd.R_below (pkR HO_522001.out) hb); have n3_ := Aside0.mk (Kd.R_below (pkR HO_522002.out) hb); have n4_ := Aside0.mk (Kd.R_below (pkR HO_531001.out) hb); have n5_ := Aside0.mk (Kd.R_below (pkR HO_531002.out) hb); have n6_ := Aside0.mk (Kd.R_below (pkR HO_564001.out) hb); have n7_ := Aside0.mk (Kd.R_below (pkR HO_564002.out) hb); have n8_ := Aside0.mk (blk_below (g := gb496) (o := .cells #[.int .i64 a0_0, .slice A0_1 l0_1.length c0_1, .slice A0_2 l0_2.length c0_2] 43 (0, 0)) (pkK BK496.out) hb); have n9_ := Aside0.mk (blk_below (g := gb513) (o := .cells #[.int .i64 t505, .slice Ao24 t506.length co24, .slice Ao25 t509.length co25] 46 (0, 0)) (pkK BK513.out) hb); have n10_ := Aside0.mk (blk_below (g := gb521) (o := .cells #[.int .i64 t514, .slice Ao32 t541.length co32, .slice Ao33 t542.length co33] 46 (0, 0)) (pkK BK521.out) hb); have n11_ := Aside0.mk (blk_below (g := gb530) (o := .cells #[.int .i64 t522, .slice Ao40 t545.length co40, .slice Ao41 t546.length co41] 46 (0, 0)) (pkK BK530.out) hb); have n12_ := Aside0.mk (blk_below (g := gb563) (o := .cells #[.int .i64 t555, .slice Ao107 t556.length co107, .slice Ao108 t559.length co108] 46 (0, 0)) (pkK BK563.out) hb); have n13_ := Aside0.mk (below_step (by repeat (first | (with_reducible first | exact HB.out | apply below_alloc | apply pw_below_drewN | apply below_drew1 | refine below_set ?_ GE496.out | refine below_set ?_ GE513.out | refine below_set ?_ GE521.out | refine below_set ?_ GE530.out | refine below_set ?_ GE563.out) | exact HB.out)) hb); clear HO_514001 HO_514002 HO_522001 HO_522002 HO_531001 HO_531002 HO_564001 HO_564002 BK496 BK513 BK521 BK530 BK563 HB; have HO_514001 := n0_; have HO_514002 := n1_; have HO_522001 := n2_; have HO_522002 := n3_; have HO_531001 := n4_; have HO_531002 := n5_; have HO_564001 := n6_; have HO_564002 := n7_; have BK496 := n8_; have BK513 := n9_; have BK521 := n10_; have BK530 := n11_; have BK563 := n12_; have HB := n13_; clear n0_ n1_ n2_ n3_ n4_ n5_ n6_ n7_ n8_ n9_ n10_ n11_ n12_ n13_; (try clear hb); (try clear hb2); (try clear hk); (try clear hi)))
                                go_ret
                                exact ⟨by first | rfl | (simp [errW_none, errW_some] <;> rfl) | (simp [*, errW_none, errW_some] <;> rfl), by repeat (first | (with_reducible first | exact HB.out | apply below_alloc | apply pw_below_drewN | apply below_drew1 | refine below_set ?_ GE496.out | refine below_set ?_ GE513.out | refine below_set ?_ GE521.out | refine below_set ?_ GE530.out | refine below_set ?_ GE563.out) | exact HB.out)⟩
                              · rw [if_neg c124] at H
                                have c124b0 : (t565 == t544) = false := beq_eq_false_iff_ne.mpr c124
                                have c124b1 : (t565 != t544) = true := bne_iff_ne.mpr c124
                                exact absurd (Option.some.inj H) (by rw [HQ_.out]; simp)
                    · rw [if_neg c83] at H
                      have c83b0 : (t547 == t544) = false := beq_eq_false_iff_ne.mpr c83
                      have c83b1 : (t547 != t544) = true := bne_iff_ne.mpr c83
                      exact absurd (Option.some.inj H) (by rw [HQ_.out]; simp)
          · replace c55 := Bool.eq_false_iff.mpr c55
            subst c55
            have H1 : (some false) = some r := by rw [if_neg (show ¬ (false = true) by decide)] at H; exact H
            clear H
            have H := H1
            clear H1
            exact absurd (Option.some.inj H) (by rw [HQ_.out]; simp)
end Go.Proofs.Ytffcphplnilokaa.Z
