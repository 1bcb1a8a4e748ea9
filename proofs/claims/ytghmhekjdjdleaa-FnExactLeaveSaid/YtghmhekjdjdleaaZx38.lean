/- The Go functions laws_FnExactLeave as Lean functions, each with a proof that its code comes to just these answers; conditions: those of each theorem. -/
import Derived.Test.YtghmhekjdjdleaaZx0
import Derived.Test.YtghmhekjdjdleaaZx1
import Derived.Test.YtghmhekjdjdleaaZx2
import Derived.Test.YtghmhekjdjdleaaZx10
import Derived.Test.YtghmhekjdjdleaaZx11
import Derived.Test.YtghmhekjdjdleaaZx13
import Derived.Test.YtghmhekjdjdleaaZx15
namespace Go.Proofs.Ytghmhekjdjdleaa.Z
open Go.RowKit Go.Proofs.YtghmhekjdjdleaaW.PrintWords Go.Proofs.YtghmhekjdjdleaaW.PrintLast Go.Proofs.YtghmhekjdjdleaaW.PrintMore
attribute [local go_sem] max2_int min2_int max_two min_two max_three min_three max_four min_four   -- for this text's walks alone
set_option linter.unusedVariables false
set_option linter.unusedSimpArgs false
mutual
def laws_FnExactLeave.j0 : Nat → List Int → Int → List Int → Int → List Int → List Int → Int → Bool → Option (Bool)
  | 0, _, _, _, _, _, _, _, _ => none
  | k + 1, x0, x1, x5, x6, x7, x8, x9, x41 => if x41 = true then (some false) else ((laws_toIntS.f k x0).bind fun t447 => ((laws_eqIntS.f k x7 t447).bind fun t450 => (if t450 = true then ((laws_markIntS.f k x7 1).bind fun bt451 => (if bt451.1 < 0 then (laws_FnExactLeave.j1 k x0 x1 x5 x6 x8 true) else ((laws_eqIntS.f k x8 x5).bind fun t453 => (if t453 = true then (laws_FnExactLeave.j1 k x0 x1 x5 x6 x8 (x9 != x6)) else (laws_FnExactLeave.j1 k x0 x1 x5 x6 x8 true))))) else (some false))))
def laws_FnExactLeave.j1 : Nat → List Int → Int → List Int → Int → List Int → Bool → Option (Bool)
  | 0, _, _, _, _, _, _ => none
  | k + 1, x0, x1, x5, x6, x8, x62 => if x62 = true then (some false) else ((laws_markIntS.f k x8 1).bind fun bt454 => ((laws_heldIntS.f k bt454.2 1).bind fun t456 => (if t456 < 0 then (some false) else (if t456 = bt454.1 then ((laws_toIntS.f k x0).bind fun t457 => ((impl_Leave.f k t457 x1).bind fun bt460 => ((laws_eqIntS.f k bt460.1 x5).bind fun t464 => (if t464 = true then (laws_FnExactLeave.j2 k bt454.2 bt454.1 (bt460.2 != x6)) else (laws_FnExactLeave.j2 k bt454.2 bt454.1 true))))) else (some false)))))
def laws_FnExactLeave.j2 : Nat → List Int → Int → Bool → Option (Bool)
  | 0, _, _, _ => none
  | k + 1, x8, x11, x89 => if x89 = true then (some false) else ((laws_heldIntS.f k x8 1).bind fun t465 => (if t465 < 0 then (some false) else (if t465 = x11 then (some true) else (some false))))
end
def laws_FnExactLeave.f (k : Nat) (l0 : List Int) (a1 : Int) : Option (Bool) := if (l0.length : Int) > 1048576 then (some true) else ((laws_toIntS.f k l0).bind fun t432 => ((spec_Leave.f k t432 a1).bind fun bt435 => ((laws_toIntS.f k l0).bind fun t439 => ((impl_Leave.f k t439 a1).bind fun bt442 => ((laws_eqIntS.f k bt442.1 bt435.1).bind fun t446 => (if t446 = true then (laws_FnExactLeave.j0 k l0 a1 bt435.1 bt435.2 t439 bt442.1 bt442.2 (bt442.2 != bt435.2)) else (laws_FnExactLeave.j0 k l0 a1 bt435.1 bt435.2 t439 bt442.1 bt442.2 true)))))))
theorem laws_FnExactLeave.mono_l : ∀ k, (∀ y0 y1 y2 y3 y4 y5 y6 y7, LeO (laws_FnExactLeave.j0 k y0 y1 y2 y3 y4 y5 y6 y7) (laws_FnExactLeave.j0 (k + 1) y0 y1 y2 y3 y4 y5 y6 y7)) ∧ (∀ y0 y1 y2 y3 y4 y5, LeO (laws_FnExactLeave.j1 k y0 y1 y2 y3 y4 y5) (laws_FnExactLeave.j1 (k + 1) y0 y1 y2 y3 y4 y5)) ∧ (∀ y0 y1 y2, LeO (laws_FnExactLeave.j2 k y0 y1 y2) (laws_FnExactLeave.j2 (k + 1) y0 y1 y2))
  | 0 => ⟨fun _ _ _ _ _ _ _ _ r h => by simp [laws_FnExactLeave.j0] at h, fun _ _ _ _ _ _ r h => by simp [laws_FnExactLeave.j1] at h, fun _ _ _ r h => by simp [laws_FnExactLeave.j2] at h⟩
  | k + 1 => by
    obtain ⟨ih0, ih1, ih2⟩ := laws_FnExactLeave.mono_l k
    refine ⟨?_, ?_, ?_⟩
    · intro y0 y1 y2 y3 y4 y5 y6 y7
      unfold laws_FnExactLeave.j0
      repeat' first
      | (with_reducible exact ih0 _ _ _ _ _ _ _ _)
      | (with_reducible exact ih1 _ _ _ _ _ _)
      | (with_reducible exact ih2 _ _ _)
      | (with_reducible exact impl_Leave.mono _ _ _)
      | (with_reducible exact laws_eqIntS.mono _ _ _)
      | (with_reducible exact laws_heldIntS.mono _ _ _)
      | (with_reducible exact laws_markIntS.mono _ _ _)
      | (with_reducible exact laws_toIntS.mono _ _)
      | (with_reducible exact spec_Leave.mono _ _ _)
      | (with_reducible exact LeO.refl _)
      | (with_reducible exact LeO.none _)
      | (with_reducible refine LeO.ite ?_ ?_)
      | (with_reducible refine LeO.bind ?_ (fun _ => ?_))
      | exact ih0 _ _ _ _ _ _ _ _
      | exact ih1 _ _ _ _ _ _
      | exact ih2 _ _ _
      | exact impl_Leave.mono _ _ _
      | exact laws_eqIntS.mono _ _ _
      | exact laws_heldIntS.mono _ _ _
      | exact laws_markIntS.mono _ _ _
      | exact laws_toIntS.mono _ _
      | exact spec_Leave.mono _ _ _
      | exact LeO.none _
      | refine LeO.ite ?_ ?_
      | refine LeO.bind ?_ (fun _ => ?_)
    · intro y0 y1 y2 y3 y4 y5
      unfold laws_FnExactLeave.j1
      repeat' first
      | (with_reducible exact ih0 _ _ _ _ _ _ _ _)
      | (with_reducible exact ih1 _ _ _ _ _ _)
      | (with_reducible exact ih2 _ _ _)
      | (with_reducible exact impl_Leave.mono _ _ _)
      | (with_reducible exact laws_eqIntS.mono _ _ _)
      | (with_reducible exact laws_heldIntS.mono _ _ _)
      | (with_reducible exact laws_markIntS.mono _ _ _)
      | (with_reducible exact laws_toIntS.mono _ _)
      | (with_reducible exact spec_Leave.mono _ _ _)
      | (with_reducible exact LeO.refl _)
      | (with_reducible exact LeO.none _)
      | (with_reducible refine LeO.ite ?_ ?_)
      | (with_reducible refine LeO.bind ?_ (fun _ => ?_))
      | exact ih0 _ _ _ _ _ _ _ _
      | exact ih1 _ _ _ _ _ _
      | exact ih2 _ _ _
      | exact impl_Leave.mono _ _ _
      | exact laws_eqIntS.mono _ _ _
      | exact laws_heldIntS.mono _ _ _
      | exact laws_markIntS.mono _ _ _
      | exact laws_toIntS.mono _ _
      | exact spec_Leave.mono _ _ _
      | exact LeO.none _
      | refine LeO.ite ?_ ?_
      | refine LeO.bind ?_ (fun _ => ?_)
    · intro y0 y1 y2
      unfold laws_FnExactLeave.j2
      repeat' first
      | (with_reducible exact ih0 _ _ _ _ _ _ _ _)
      | (with_reducible exact ih1 _ _ _ _ _ _)
      | (with_reducible exact ih2 _ _ _)
      | (with_reducible exact impl_Leave.mono _ _ _)
      | (with_reducible exact laws_eqIntS.mono _ _ _)
      | (with_reducible exact laws_heldIntS.mono _ _ _)
      | (with_reducible exact laws_markIntS.mono _ _ _)
      | (with_reducible exact laws_toIntS.mono _ _)
      | (with_reducible exact spec_Leave.mono _ _ _)
      | (with_reducible exact LeO.refl _)
      | (with_reducible exact LeO.none _)
      | (with_reducible refine LeO.ite ?_ ?_)
      | (with_reducible refine LeO.bind ?_ (fun _ => ?_))
      | exact ih0 _ _ _ _ _ _ _ _
      | exact ih1 _ _ _ _ _ _
      | exact ih2 _ _ _
      | exact impl_Leave.mono _ _ _
      | exact laws_eqIntS.mono _ _ _
      | exact laws_heldIntS.mono _ _ _
      | exact laws_markIntS.mono _ _ _
      | exact laws_toIntS.mono _ _
      | exact spec_Leave.mono _ _ _
      | exact LeO.none _
      | refine LeO.ite ?_ ?_
      | refine LeO.bind ?_ (fun _ => ?_)
theorem laws_FnExactLeave.mono : ∀ a0 a1 k, LeO (laws_FnExactLeave.f k a0 a1) (laws_FnExactLeave.f (k + 1) a0 a1) := by
  intro a0 a1 k
  obtain ⟨ih0, ih1, ih2⟩ := laws_FnExactLeave.mono_l k
  unfold laws_FnExactLeave.f
  repeat' first
      | (with_reducible exact ih0 _ _ _ _ _ _ _ _)
      | (with_reducible exact ih1 _ _ _ _ _ _)
      | (with_reducible exact ih2 _ _ _)
      | (with_reducible exact impl_Leave.mono _ _ _)
      | (with_reducible exact laws_eqIntS.mono _ _ _)
      | (with_reducible exact laws_heldIntS.mono _ _ _)
      | (with_reducible exact laws_markIntS.mono _ _ _)
      | (with_reducible exact laws_toIntS.mono _ _)
      | (with_reducible exact spec_Leave.mono _ _ _)
      | (with_reducible exact LeO.refl _)
      | (with_reducible exact LeO.none _)
      | (with_reducible refine LeO.ite ?_ ?_)
      | (with_reducible refine LeO.bind ?_ (fun _ => ?_))
      | exact ih0 _ _ _ _ _ _ _ _
      | exact ih1 _ _ _ _ _ _
      | exact ih2 _ _ _
      | exact impl_Leave.mono _ _ _
      | exact laws_eqIntS.mono _ _ _
      | exact laws_heldIntS.mono _ _ _
      | exact laws_markIntS.mono _ _ _
      | exact laws_toIntS.mono _ _
      | exact spec_Leave.mono _ _ _
      | exact LeO.none _
      | refine LeO.ite ?_ ?_
      | refine LeO.bind ?_ (fun _ => ?_)
set_option maxHeartbeats 8000000 in
set_option maxRecDepth 100000 in
theorem laws_FnExactLeave.calls (k : Nat) (A0 : Option Addr) (c0 : Nat) (l0 : List Int) (a1 : Int) (r : Bool) (w : World) (hr0 : Kd.C (Kd.int .i64) w A0 l0.length l0) (hc0 : l0.length ≤ c0) (HQ_ : Aside0 (r = true)) (h : laws_FnExactLeave.f k l0 a1 = some r) :
    Calls Try.prog 9 #[.slice A0 l0.length c0, .int .i64 a1] w fun e w' => e = .returned (.bool r) ∧ Below w.heap.size w w' := by
  have HR0 := Aside0.mk hr0
  have HC0 := Aside0.mk hc0
  clear hr0 hc0
  have HB := Aside0.mk (Below.refl w.heap.size w)
  have H : (if (l0.length : Int) > 1048576 then (some true) else ((laws_toIntS.f k l0).bind fun t432 => ((spec_Leave.f k t432 a1).bind fun bt435 => ((laws_toIntS.f k l0).bind fun t439 => ((impl_Leave.f k t439 a1).bind fun bt442 => ((laws_eqIntS.f k bt442.1 bt435.1).bind fun t446 => (if t446 = true then (laws_FnExactLeave.j0 k l0 a1 bt435.1 bt435.2 t439 bt442.1 bt442.2 (bt442.2 != bt435.2)) else (laws_FnExactLeave.j0 k l0 a1 bt435.1 bt435.2 t439 bt442.1 bt442.2 true)))))))) = some r := h
  clear h
  by_cases c3 : (l0.length : Int) > 1048576
  · rw [if_pos c3] at H
    have c3b0 : decide (1048576 < (l0.length : Int)) = true := decide_eq_true c3
    have c3b1 : decide (1048576 < l0.length) = true := decide_eq_true (by omega)
    clear c3
    obtain rfl := Option.some.inj H
    go_enter Try.func9, Try.ntmps9
    go_wp2
    go_ret
    exact ⟨by first | rfl | (simp [errW_none, errW_some] <;> rfl) | (simp [*, errW_none, errW_some] <;> rfl), pkB HB.out⟩
  · rw [if_neg c3] at H
    have c3b0 : decide (1048576 < (l0.length : Int)) = false := decide_eq_false c3
    have c3b1 : decide (1048576 < l0.length) = false := decide_eq_false (by omega)
    clear c3
    replace H := Option.bind_eq_some_iff.mp H
    obtain ⟨t432, A40, H⟩ := H
    replace H : ((spec_Leave.f k t432 a1).bind fun bt435 => ((laws_toIntS.f k l0).bind fun t439 => ((impl_Leave.f k t439 a1).bind fun bt442 => ((laws_eqIntS.f k bt442.1 bt435.1).bind fun t446 => (if t446 = true then (laws_FnExactLeave.j0 k l0 a1 bt435.1 bt435.2 t439 bt442.1 bt442.2 (bt442.2 != bt435.2)) else (laws_FnExactLeave.j0 k l0 a1 bt435.1 bt435.2 t439 bt442.1 bt442.2 true)))))) = some r := H
    have A4 := Aside0.mk A40
    clear A40
    replace H := Option.bind_eq_some_iff.mp H
    obtain ⟨⟨t435, t436⟩, A50, H⟩ := H
    replace H : ((laws_toIntS.f k l0).bind fun t439 => ((impl_Leave.f k t439 a1).bind fun bt442 => ((laws_eqIntS.f k bt442.1 t435).bind fun t446 => (if t446 = true then (laws_FnExactLeave.j0 k l0 a1 t435 t436 t439 bt442.1 bt442.2 (bt442.2 != t436)) else (laws_FnExactLeave.j0 k l0 a1 t435 t436 t439 bt442.1 bt442.2 true))))) = some r := H
    have A5 := Aside0.mk A50
    clear A50
    replace H := Option.bind_eq_some_iff.mp H
    obtain ⟨t439, A60, H⟩ := H
    replace H : ((impl_Leave.f k t439 a1).bind fun bt442 => ((laws_eqIntS.f k bt442.1 t435).bind fun t446 => (if t446 = true then (laws_FnExactLeave.j0 k l0 a1 t435 t436 t439 bt442.1 bt442.2 (bt442.2 != t436)) else (laws_FnExactLeave.j0 k l0 a1 t435 t436 t439 bt442.1 bt442.2 true)))) = some r := H
    have A6 := Aside0.mk A60
    clear A60
    replace H := Option.bind_eq_some_iff.mp H
    obtain ⟨⟨t442, t443⟩, A70, H⟩ := H
    replace H : ((laws_eqIntS.f k t442 t435).bind fun t446 => (if t446 = true then (laws_FnExactLeave.j0 k l0 a1 t435 t436 t439 t442 t443 (t443 != t436)) else (laws_FnExactLeave.j0 k l0 a1 t435 t436 t439 t442 t443 true))) = some r := H
    have A7 := Aside0.mk A70
    clear A70
    have HC8 := Aside0.mk H
    clear H
    go_enter Try.func9, Try.ntmps9
    go_upto_region 6 with (first | ((with_reducible refine gate_callee (f := 16) rfl ?_); refine goesL_ (some 20) rfl rfl Try.func16 (by kernel_rfl) rfl #[.slice A0 l0.length c0] rfl (by (try simp only [List.map_toArray, List.map_cons, List.map_nil]); first | done | rfl | (simp only [List.length_drop, List.length_take]; rfl) | (go_simp; done) | (simp [*]; done)) ?_; (with_reducible refine (laws_toIntS.calls k _ _ l0 t432 _ ?side1 ?side2 A4.out).mono ?_); (case side1 => exact pkC HR0.out); (case side2 => exact HC0.out); rintro e w9 ⟨v433, rfl, ho0, hb⟩; refine ⟨_, rfl, ?_⟩; have n0_ := Aside0.mk (Kd.R_lower ho0 (below_size (pkB HB.out))); have n1_ := Aside0.mk (below_step (pkB HB.out) hb); clear HB; have HO434 := n0_; have HB := n1_; clear n0_ n1_; (try clear hb); (try clear hb2); (try clear hk); (try clear hi); (try clear ho0); obtain ⟨Ao10, co10, eo10⟩ := Kd.R_slice HO434.out; subst eo10) | ((with_reducible refine gate_callee (f := 34) rfl ?_); refine goesL_ (some 22) rfl rfl Try.func34 (by kernel_rfl) rfl #[.slice Ao10 t432.length co10, .int .i64 a1] rfl (by (try simp only [List.map_toArray, List.map_cons, List.map_nil]); first | done | rfl | (simp only [List.length_drop, List.length_take]; rfl) | (go_simp; done) | (simp [*]; done)) ?_; (with_reducible refine (spec_Leave.calls k _ _ t432 a1 t435 t436 _ ?side1 ?side2 A5.out).mono ?_); (case side1 => exact pkC (Kd.R_reads' HO434.out).2.2); (case side2 => exact (Kd.R_reads' HO434.out).2.1); rintro e w11 ⟨v437, rfl, ho0, hb⟩; refine ⟨_, rfl, ?_⟩; have n0_ := Aside0.mk (Kd.R_elder' (pkR HO434.out) (Kd.R_base ho0) hb); have n1_ := Aside0.mk (Kd.R_lower (Kd.R_new' ho0 (Kd.R_lt (pkR HO434.out))) (below_size (pkB HB.out))); have n2_ := Aside0.mk (below_step (pkB HB.out) hb); clear HO434 HB; have HO434 := n0_; have HO438 := n1_; have HB := n2_; clear n0_ n1_ n2_; (try clear hb); (try clear hb2); (try clear hk); (try clear hi); (try clear ho0)) | ((with_reducible refine gate_callee (f := 16) rfl ?_); refine goesL_ (some 26) rfl rfl Try.func16 (by kernel_rfl) rfl #[.slice A0 l0.length c0] rfl (by (try simp only [List.map_toArray, List.map_cons, List.map_nil]); first | done | rfl | (simp only [List.length_drop, List.length_take]; rfl) | (go_simp; done) | (simp [*]; done)) ?_; (with_reducible refine (laws_toIntS.calls k _ _ l0 t439 _ ?side1 ?side2 A6.out).mono ?_); (case side1 => exact pkC (Kd.C_below HR0.out HB.out)); (case side2 => exact HC0.out); rintro e w12 ⟨v440, rfl, ho0, hb⟩; refine ⟨_, rfl, ?_⟩; have n0_ := Aside0.mk (Kd.R_elder' (pkR HO434.out) (Kd.R_base ho0) hb); have n1_ := Aside0.mk (Kd.R_elder' (pkR HO438.out) (Kd.R_base ho0) hb); have n2_ := Aside0.mk (Kd.R_lower (Kd.R_new' (Kd.R_new' ho0 (Kd.R_lt (pkR HO434.out))) (Kd.R_lt (pkR HO438.out))) (below_size (pkB HB.out))); have n3_ := Aside0.mk (below_step (pkB HB.out) hb); clear HO434 HO438 HB; have HO434 := n0_; have HO438 := n1_; have HO441 := n2_; have HB := n3_; clear n0_ n1_ n2_ n3_; (try clear hb); (try clear hb2); (try clear hk); (try clear hi); (try clear ho0); obtain ⟨Ao13, co13, eo13⟩ := Kd.R_slice HO441.out; subst eo13) | ((with_reducible refine gate_callee (f := 35) rfl ?_); refine goesL_ (some 30) rfl rfl Try.func35 (by kernel_rfl) rfl #[.slice Ao13 t439.length co13, .int .i64 a1] rfl (by (try simp only [List.map_toArray, List.map_cons, List.map_nil]); first | done | rfl | (simp only [List.length_drop, List.length_take]; rfl) | (go_simp; done) | (simp [*]; done)) ?_; (with_reducible refine (impl_Leave.calls k _ _ t439 a1 t442 t443 _ ?side1 ?side2 A7.out).mono ?_); (case side1 => exact pkC (Kd.R_reads' HO441.out).2.2); (case side2 => exact (Kd.R_reads' HO441.out).2.1); rintro e w14 ⟨v444, rfl, ho0, hb⟩; refine ⟨_, rfl, ?_⟩; have n0_ := Aside0.mk (Kd.R_elder' (pkR HO434.out) (Kd.R_base ho0) hb); have n1_ := Aside0.mk (Kd.R_elder' (pkR HO438.out) (Kd.R_base ho0) hb); have n2_ := Aside0.mk (Kd.R_elder' (pkR HO441.out) (Kd.R_base ho0) hb); have n3_ := Aside0.mk (Kd.R_lower (Kd.R_new' (Kd.R_new' (Kd.R_new' ho0 (Kd.R_lt (pkR HO434.out))) (Kd.R_lt (pkR HO438.out))) (Kd.R_lt (pkR HO441.out))) (below_size (pkB HB.out))); have n4_ := Aside0.mk (below_step (pkB HB.out) hb); clear HO434 HO438 HO441 HB; have HO434 := n0_; have HO438 := n1_; have HO441 := n2_; have HO445 := n3_; have HB := n4_; clear n0_ n1_ n2_ n3_ n4_; (try clear hb); (try clear hb2); (try clear hk); (try clear hi); (try clear ho0)))
    (try simp only [Act.put, List.setIfInBounds_toArray, List.set_cons_zero, List.set_cons_succ])
    go_cut [41] (fun v41 wc => ∃ (kq : Nat) (x41_7 : Bool), v41 = .bool x41_7 ∧ Aside0 (laws_FnExactLeave.j0 kq l0 a1 t435 t436 t439 t442 t443 x41_7 = some r) ∧ Aside0 (kq ≤ k) ∧ Aside0 (Kd.R (Kd.int .i64) 3 wc w.heap.size (fun k_ => some k_ ≠ ((.slice Ao13 t439.length co13) : Value).ownBlock ∧ some k_ ≠ (v444 : Value).ownBlock) v437 t435) ∧ Aside0 (Kd.R (Kd.int .i64) 3 wc w.heap.size (fun k_ => some k_ ≠ (v437 : Value).ownBlock ∧ some k_ ≠ (v444 : Value).ownBlock) (.slice Ao13 t439.length co13) t439) ∧ Aside0 (Kd.R (Kd.int .i64) 3 wc w.heap.size (fun k_ => some k_ ≠ (v437 : Value).ownBlock ∧ some k_ ≠ ((.slice Ao13 t439.length co13) : Value).ownBlock) v444 t442) ∧ Aside0 (Below w.heap.size w wc))
    case first =>
      have H := HC8.out
      clear HC8
      replace H := Option.bind_eq_some_iff.mp H
      obtain ⟨t446, A150, H⟩ := H
      replace H : (if t446 = true then (laws_FnExactLeave.j0 k l0 a1 t435 t436 t439 t442 t443 (t443 != t436)) else (laws_FnExactLeave.j0 k l0 a1 t435 t436 t439 t442 t443 true)) = some r := H
      have A15 := Aside0.mk A150
      clear A150
      by_cases c16 : t446 = true
      · subst c16
        have H1 : (laws_FnExactLeave.j0 k l0 a1 t435 t436 t439 t442 t443 (t443 != t436)) = some r := by rw [if_pos rfl] at H; exact H
        clear H
        have H := H1
        clear H1
        have H' := Aside0.mk H
        clear H
        obtain ⟨Ao17, co17, eo17⟩ := Kd.R_slice HO445.out
        subst eo17
        obtain ⟨Ao18, co18, eo18⟩ := Kd.R_slice HO438.out
        subst eo18
        go_wp2_with (first | ((with_reducible refine gate_callee (f := 18) rfl ?_); refine goesL_ (some 35) rfl rfl Try.func18 (by kernel_rfl) rfl #[.slice Ao17 t442.length co17, .slice Ao18 t435.length co18] rfl (by (try simp only [List.map_toArray, List.map_cons, List.map_nil]); first | done | rfl | (simp only [List.length_drop, List.length_take]; rfl) | (go_simp; done) | (simp [*]; done)) ?_; (with_reducible refine (laws_eqIntS.calls k _ _ t442 _ _ t435 true _ ?side1 ?side2 ?side3 ?side4 A15.out).mono ?_); (case side1 => exact pkC (Kd.R_reads' HO445.out).2.2); (case side2 => exact (Kd.R_reads' HO445.out).2.1); (case side3 => exact pkC (Kd.R_reads' HO438.out).2.2); (case side4 => exact (Kd.R_reads' HO438.out).2.1); rintro e w' ⟨rfl, ⟨nd, rfl⟩⟩; refine ⟨_, rfl, ?_⟩))
        go_meet
        case rel => exact ⟨_, ((t443 != t436)), (by first | rfl | (simp; done) | (simp [*]; done)), H', ⟨by first | omega | exact Nat.le_refl _⟩, ⟨by (with_reducible repeat (first | apply Kd.R_alloc | apply Kd.R_drewN | apply Kd.R_drew)); exact Kd.R_mono HO438.out (fun _ hk => ⟨hk.1.2, hk.2⟩)⟩, ⟨by (with_reducible repeat (first | apply Kd.R_alloc | apply Kd.R_drewN | apply Kd.R_drew)); exact Kd.R_mono HO441.out (fun _ hk => ⟨hk.1.2, hk.2⟩)⟩, ⟨by (with_reducible repeat (first | apply Kd.R_alloc | apply Kd.R_drewN | apply Kd.R_drew)); exact Kd.R_mono HO445.out (fun _ hk => ⟨hk.1.2, hk.2⟩)⟩, ⟨pkB HB.out⟩⟩
      · replace c16 := Bool.eq_false_iff.mpr c16
        subst c16
        have H1 : (laws_FnExactLeave.j0 k l0 a1 t435 t436 t439 t442 t443 true) = some r := by rw [if_neg (show ¬ (false = true) by decide)] at H; exact H
        clear H
        have H := H1
        clear H1
        cases k with
        | zero => exact absurd H (by simp [laws_FnExactLeave.j0])
        | succ k_ => (simp only [laws_FnExactLeave.j0, if_pos] at H; exact absurd (Option.some.inj H) (by rw [HQ_.out]; simp))
    case rest =>
      clear HC8
      try clear c1
      try clear p2
      try clear c3
      try clear c3b0
      try clear c3b1
      try clear c9
      try clear c16
      try clear c18
      obtain ⟨kq, x41_7, rfl, HA, HJ7, HO_5, HO_7, HO_8, HB⟩ := hcut
      cases kq with
      | zero => exact absurd HA.out (by simp [laws_FnExactLeave.j0])
      | succ kj7 =>
        have H := HA.out
        clear HA
        simp only [laws_FnExactLeave.j0] at H
        by_cases c19 : x41_7 = true
        · subst c19
          have H1 : (some false) = some r := by rw [if_pos rfl] at H; exact H
          clear H
          have H := H1
          clear H1
          exact absurd (Option.some.inj H) (by rw [HQ_.out]; simp)
        · replace c19 := Bool.eq_false_iff.mpr c19
          subst c19
          have H1 : ((laws_toIntS.f kj7 l0).bind fun t447 => ((laws_eqIntS.f kj7 t439 t447).bind fun t450 => (if t450 = true then ((laws_markIntS.f kj7 t439 1).bind fun bt451 => (if bt451.1 < 0 then (laws_FnExactLeave.j1 kj7 l0 a1 t435 t436 t442 true) else ((laws_eqIntS.f kj7 t442 t435).bind fun t453 => (if t453 = true then (laws_FnExactLeave.j1 kj7 l0 a1 t435 t436 t442 (t443 != t436)) else (laws_FnExactLeave.j1 kj7 l0 a1 t435 t436 t442 true))))) else (some false)))) = some r := by rw [if_neg (show ¬ (false = true) by decide)] at H; exact H
          clear H
          have H := H1
          clear H1
          replace H := Option.bind_eq_some_iff.mp H
          obtain ⟨t447, A200, H⟩ := H
          replace H : ((laws_eqIntS.f kj7 t439 t447).bind fun t450 => (if t450 = true then ((laws_markIntS.f kj7 t439 1).bind fun bt451 => (if bt451.1 < 0 then (laws_FnExactLeave.j1 kj7 l0 a1 t435 t436 t442 true) else ((laws_eqIntS.f kj7 t442 t435).bind fun t453 => (if t453 = true then (laws_FnExactLeave.j1 kj7 l0 a1 t435 t436 t442 (t443 != t436)) else (laws_FnExactLeave.j1 kj7 l0 a1 t435 t436 t442 true))))) else (some false))) = some r := H
          have A20 := Aside0.mk A200
          clear A200
          replace H := Option.bind_eq_some_iff.mp H
          obtain ⟨t450, A210, H⟩ := H
          replace H : (if t450 = true then ((laws_markIntS.f kj7 t439 1).bind fun bt451 => (if bt451.1 < 0 then (laws_FnExactLeave.j1 kj7 l0 a1 t435 t436 t442 true) else ((laws_eqIntS.f kj7 t442 t435).bind fun t453 => (if t453 = true then (laws_FnExactLeave.j1 kj7 l0 a1 t435 t436 t442 (t443 != t436)) else (laws_FnExactLeave.j1 kj7 l0 a1 t435 t436 t442 true))))) else (some false)) = some r := H
          have A21 := Aside0.mk A210
          clear A210
          by_cases c22 : t450 = true
          · subst c22
            have H1 : ((laws_markIntS.f kj7 t439 1).bind fun bt451 => (if bt451.1 < 0 then (laws_FnExactLeave.j1 kj7 l0 a1 t435 t436 t442 true) else ((laws_eqIntS.f kj7 t442 t435).bind fun t453 => (if t453 = true then (laws_FnExactLeave.j1 kj7 l0 a1 t435 t436 t442 (t443 != t436)) else (laws_FnExactLeave.j1 kj7 l0 a1 t435 t436 t442 true))))) = some r := by rw [if_pos rfl] at H; exact H
            clear H
            have H := H1
            clear H1
            replace H := Option.bind_eq_some_iff.mp H
            obtain ⟨⟨t451, t452⟩, A230, H⟩ := H
            replace H : (if t451 < 0 then (laws_FnExactLeave.j1 kj7 l0 a1 t435 t436 t442 true) else ((laws_eqIntS.f kj7 t442 t435).bind fun t453 => (if t453 = true then (laws_FnExactLeave.j1 kj7 l0 a1 t435 t436 t442 (t443 != t436)) else (laws_FnExactLeave.j1 kj7 l0 a1 t435 t436 t442 true)))) = some r := H
            have A23 := Aside0.mk A230
            clear A230
            have HC24 := Aside0.mk H
            clear H
            go_upto_region 12 with (first | ((with_reducible refine gate_callee (f := 16) rfl ?_); refine goesL_ (some 44) rfl rfl Try.func16 (by kernel_rfl) rfl #[.slice A0 l0.length c0] rfl (by (try simp only [List.map_toArray, List.map_cons, List.map_nil]); first | done | rfl | (simp only [List.length_drop, List.length_take]; rfl) | (go_simp; done) | (simp [*]; done)) ?_; (with_reducible refine (laws_toIntS.calls kj7 _ _ l0 t447 _ ?side1 ?side2 A20.out).mono ?_); (case side1 => exact pkC (Kd.C_below HR0.out HB.out)); (case side2 => exact HC0.out); rintro e w25 ⟨v448, rfl, ho0, hb⟩; refine ⟨_, rfl, ?_⟩; have n0_ := Aside0.mk (Kd.R_elder' (pkR HO_5.out) (Kd.R_base ho0) hb); have n1_ := Aside0.mk (Kd.R_elder' (pkR HO_7.out) (Kd.R_base ho0) hb); have n2_ := Aside0.mk (Kd.R_elder' (pkR HO_8.out) (Kd.R_base ho0) hb); have n3_ := Aside0.mk (Kd.R_lower (Kd.R_new' (Kd.R_new' (Kd.R_new' ho0 (Kd.R_lt (pkR HO_5.out))) (Kd.R_lt (pkR HO_7.out))) (Kd.R_lt (pkR HO_8.out))) (below_size (pkB HB.out))); have n4_ := Aside0.mk (below_step (pkB HB.out) hb); clear HO_5 HO_7 HO_8 HB; have HO_5 := n0_; have HO_7 := n1_; have HO_8 := n2_; have HO449 := n3_; have HB := n4_; clear n0_ n1_ n2_ n3_ n4_; (try clear hb); (try clear hb2); (try clear hk); (try clear hi); (try clear ho0); obtain ⟨Ao26, co26, eo26⟩ := Kd.R_slice HO449.out; subst eo26) | ((with_reducible refine gate_callee (f := 18) rfl ?_); refine goesL_ (some 45) rfl rfl Try.func18 (by kernel_rfl) rfl #[.slice Ao13 t439.length co13, .slice Ao26 t447.length co26] rfl (by (try simp only [List.map_toArray, List.map_cons, List.map_nil]); first | done | rfl | (simp only [List.length_drop, List.length_take]; rfl) | (go_simp; done) | (simp [*]; done)) ?_; (with_reducible refine (laws_eqIntS.calls kj7 _ _ t439 _ _ t447 true _ ?side1 ?side2 ?side3 ?side4 A21.out).mono ?_); (case side1 => exact pkC (Kd.R_reads' HO_7.out).2.2); (case side2 => exact (Kd.R_reads' HO_7.out).2.1); (case side3 => exact pkC (Kd.R_reads' HO449.out).2.2); (case side4 => exact (Kd.R_reads' HO449.out).2.1); rintro e w' ⟨rfl, ⟨nd, rfl⟩⟩; refine ⟨_, rfl, ?_⟩) | ((with_reducible refine gate_callee (f := 28) rfl ?_); refine goesL_ (some 49) rfl rfl Try.func28 (by kernel_rfl) rfl #[.slice Ao13 t439.length co13, .int .i64 1] rfl (by (try simp only [List.map_toArray, List.map_cons, List.map_nil]); first | done | rfl | (simp only [List.length_drop, List.length_take]; rfl) | (go_simp; done) | (simp [*]; done)) ?_; (with_reducible refine (laws_markIntS.calls kj7 (fun k_ => some k_ = (.slice Ao13 t439.length co13 : Value).ownBlock) (.slice Ao13 t439.length co13) t439 1 t451 t452 w _ ?side1 ?side2 A23.out).mono ?_); (case side1 => repeat (first | (with_reducible first | exact HB.out | apply below_alloc | apply pw_below_drewN | apply below_drew1) | exact HB.out)); (case side2 => exact Kd.R_tight rfl HO_7.out); rintro e w27 ⟨rfl, hy0, hb, hkp⟩; refine ⟨_, rfl, ?_⟩; have n0_ := Aside0.mk (Kd.R_mono (ok' := fun k_ => some k_ ≠ (.slice Ao13 t439.length co13 : Value).ownBlock ∧ some k_ ≠ (v444 : Value).ownBlock ∧ some k_ ≠ (.slice Ao26 t447.length co26 : Value).ownBlock) (Kd.R_keptB (HO_5.out) hkp (fun k_ hk_ hs_ => (hk_.1.1) hs_)) (fun k_ hk_ => ⟨hk_.1.1.1, hk_.1.1.2, hk_.1.2⟩)); have n1_ := Aside0.mk (Kd.R_reok rfl hy0 (fun k_ e_ => HO_7.out.1 k_ e_)); have n2_ := Aside0.mk (Kd.R_mono (ok' := fun k_ => some k_ ≠ (v437 : Value).ownBlock ∧ some k_ ≠ (.slice Ao13 t439.length co13 : Value).ownBlock ∧ some k_ ≠ (.slice Ao26 t447.length co26 : Value).ownBlock) (Kd.R_keptB (HO_8.out) hkp (fun k_ hk_ hs_ => (hk_.1.2) hs_)) (fun k_ hk_ => ⟨hk_.1.1.1, hk_.1.1.2, hk_.1.2⟩)); have n3_ := Aside0.mk (Kd.R_mono (ok' := fun k_ => some k_ ≠ (v437 : Value).ownBlock ∧ some k_ ≠ (.slice Ao13 t439.length co13 : Value).ownBlock ∧ some k_ ≠ (v444 : Value).ownBlock) (Kd.R_keptB (HO449.out) hkp (fun k_ hk_ hs_ => (hk_.1.2) hs_)) (fun k_ hk_ => ⟨hk_.1.1.1.2, hk_.1.1.2, hk_.1.2⟩)); have n4_ := Aside0.mk (hb); clear HO_5 HO_7 HO_8 HO449 HB; have HO_5 := n0_; have HO_7 := n1_; have HO_8 := n2_; have HO449 := n3_; have HB := n4_; clear n0_ n1_ n2_ n3_ n4_; (try clear hb); (try clear hkp); (try clear hy0)))
            (try simp only [Act.put, List.setIfInBounds_toArray, List.set_cons_zero, List.set_cons_succ])
            go_cut [62] (fun v62 wc => ∃ (kq : Nat) (x62_23 : Bool), v62 = .bool x62_23 ∧ Aside0 (laws_FnExactLeave.j1 kq l0 a1 t435 t436 t442 x62_23 = some r) ∧ Aside0 (kq ≤ kj7) ∧ Aside0 (Kd.R (Kd.int .i64) 3 wc w.heap.size (fun k_ => some k_ ≠ (v444 : Value).ownBlock) v437 t435) ∧ Aside0 (Kd.R (Kd.int .i64) 3 wc w.heap.size (fun k_ => some k_ ≠ (v437 : Value).ownBlock) v444 t442) ∧ Aside0 (Below w.heap.size w wc))
            case first =>
              have H := HC24.out
              clear HC24
              by_cases c28 : t451 < 0
              · rw [if_pos c28] at H
                have c28b0 : decide (t451 < 0) = true := decide_eq_true c28
                clear c28
                (first | rw [c28b0] | (simp only [i64_w, i32_w]; rw [c28b0]) | skip)
                cases kj7 with
                | zero => exact absurd H (by simp [laws_FnExactLeave.j1])
                | succ k_ => (simp only [laws_FnExactLeave.j1, if_pos] at H; exact absurd (Option.some.inj H) (by rw [HQ_.out]; simp))
              · rw [if_neg c28] at H
                have c28b0 : decide (t451 < 0) = false := decide_eq_false c28
                clear c28
                (first | rw [c28b0] | (simp only [i64_w, i32_w]; rw [c28b0]) | skip)
                replace H := Option.bind_eq_some_iff.mp H
                obtain ⟨t453, A290, H⟩ := H
                replace H : (if t453 = true then (laws_FnExactLeave.j1 kj7 l0 a1 t435 t436 t442 (t443 != t436)) else (laws_FnExactLeave.j1 kj7 l0 a1 t435 t436 t442 true)) = some r := H
                have A29 := Aside0.mk A290
                clear A290
                by_cases c30 : t453 = true
                · subst c30
                  have H1 : (laws_FnExactLeave.j1 kj7 l0 a1 t435 t436 t442 (t443 != t436)) = some r := by rw [if_pos rfl] at H; exact H
                  clear H
                  have H := H1
                  clear H1
                  have H' := Aside0.mk H
                  clear H
                  obtain ⟨Ao31, co31, eo31⟩ := Kd.R_slice HO_8.out
                  subst eo31
                  obtain ⟨Ao32, co32, eo32⟩ := Kd.R_slice HO_5.out
                  subst eo32
                  go_wp2_with (first | (go_at_call 18; (with_reducible refine (laws_eqIntS.calls kj7 _ _ t442 _ _ t435 true _ ?side1 ?side2 ?side3 ?side4 A29.out).mono ?_); (case side1 => exact pkC (Kd.R_reads' HO_8.out).2.2); (case side2 => exact (Kd.R_reads' HO_8.out).2.1); (case side3 => exact pkC (Kd.R_reads' HO_5.out).2.2); (case side4 => exact (Kd.R_reads' HO_5.out).2.1); rintro e w' ⟨rfl, ⟨nd, rfl⟩⟩))
                  go_meet
                  case rel => exact ⟨_, ((t443 != t436)), (by first | rfl | (simp; done) | (simp [*]; done)), H', ⟨by have := HJ7.out; first | omega | exact Nat.le_refl _⟩, ⟨by (with_reducible repeat (first | apply Kd.R_alloc | apply Kd.R_drewN | apply Kd.R_drew)); exact Kd.R_mono HO_5.out (fun _ hk => hk.2.1)⟩, ⟨by (with_reducible repeat (first | apply Kd.R_alloc | apply Kd.R_drewN | apply Kd.R_drew)); exact Kd.R_mono HO_8.out (fun _ hk => hk.1)⟩, ⟨pkB HB.out⟩⟩
                · replace c30 := Bool.eq_false_iff.mpr c30
                  subst c30
                  have H1 : (laws_FnExactLeave.j1 kj7 l0 a1 t435 t436 t442 true) = some r := by rw [if_neg (show ¬ (false = true) by decide)] at H; exact H
                  clear H
                  have H := H1
                  clear H1
                  cases kj7 with
                  | zero => exact absurd H (by simp [laws_FnExactLeave.j1])
                  | succ k_ => (simp only [laws_FnExactLeave.j1, if_pos] at H; exact absurd (Option.some.inj H) (by rw [HQ_.out]; simp))
            case rest =>
              clear HC24
              try clear c1
              try clear c2
              try clear p2
              try clear c3
              try clear c3b0
              try clear c3b1
              try clear c9
              try clear c16
              try clear c18
              try clear c19
              try clear c22
              try clear c28
              try clear c28b0
              try clear c30
              try clear p2
              obtain ⟨kq, x62_23, rfl, HA, HJ23, HO_5, HO_8, HB⟩ := hcut
              cases kq with
              | zero => exact absurd HA.out (by simp [laws_FnExactLeave.j1])
              | succ kj23 =>
                have H := HA.out
                clear HA
                simp only [laws_FnExactLeave.j1] at H
                by_cases c33 : x62_23 = true
                · subst c33
                  have H1 : (some false) = some r := by rw [if_pos rfl] at H; exact H
                  clear H
                  have H := H1
                  clear H1
                  exact absurd (Option.some.inj H) (by rw [HQ_.out]; simp)
                · replace c33 := Bool.eq_false_iff.mpr c33
                  subst c33
                  have H1 : ((laws_markIntS.f kj23 t442 1).bind fun bt454 => ((laws_heldIntS.f kj23 bt454.2 1).bind fun t456 => (if t456 < 0 then (some false) else (if t456 = bt454.1 then ((laws_toIntS.f kj23 l0).bind fun t457 => ((impl_Leave.f kj23 t457 a1).bind fun bt460 => ((laws_eqIntS.f kj23 bt460.1 t435).bind fun t464 => (if t464 = true then (laws_FnExactLeave.j2 kj23 bt454.2 bt454.1 (bt460.2 != t436)) else (laws_FnExactLeave.j2 kj23 bt454.2 bt454.1 true))))) else (some false))))) = some r := by rw [if_neg (show ¬ (false = true) by decide)] at H; exact H
                  clear H
                  have H := H1
                  clear H1
                  replace H := Option.bind_eq_some_iff.mp H
                  obtain ⟨⟨t454, t455⟩, A340, H⟩ := H
                  replace H : ((laws_heldIntS.f kj23 t455 1).bind fun t456 => (if t456 < 0 then (some false) else (if t456 = t454 then ((laws_toIntS.f kj23 l0).bind fun t457 => ((impl_Leave.f kj23 t457 a1).bind fun bt460 => ((laws_eqIntS.f kj23 bt460.1 t435).bind fun t464 => (if t464 = true then (laws_FnExactLeave.j2 kj23 t455 t454 (bt460.2 != t436)) else (laws_FnExactLeave.j2 kj23 t455 t454 true))))) else (some false)))) = some r := H
                  have A34 := Aside0.mk A340
                  clear A340
                  replace H := Option.bind_eq_some_iff.mp H
                  obtain ⟨t456, A350, H⟩ := H
                  replace H : (if t456 < 0 then (some false) else (if t456 = t454 then ((laws_toIntS.f kj23 l0).bind fun t457 => ((impl_Leave.f kj23 t457 a1).bind fun bt460 => ((laws_eqIntS.f kj23 bt460.1 t435).bind fun t464 => (if t464 = true then (laws_FnExactLeave.j2 kj23 t455 t454 (bt460.2 != t436)) else (laws_FnExactLeave.j2 kj23 t455 t454 true))))) else (some false))) = some r := H
                  have A35 := Aside0.mk A350
                  clear A350
                  by_cases c36 : t456 < 0
                  · rw [if_pos c36] at H
                    have c36b0 : decide (t456 < 0) = true := decide_eq_true c36
                    clear c36
                    exact absurd (Option.some.inj H) (by rw [HQ_.out]; simp)
                  · rw [if_neg c36] at H
                    have c36b0 : decide (t456 < 0) = false := decide_eq_false c36
                    clear c36
                    by_cases c37 : t456 = t454
                    · rw [if_pos c37] at H
                      have c37b0 : (t456 == t454) = true := beq_iff_eq.mpr c37
                      have c37b1 : (t456 != t454) = false := bne_eq_false_iff_eq.mpr c37
                      clear c37
                      replace H := Option.bind_eq_some_iff.mp H
                      obtain ⟨t457, A380, H⟩ := H
                      replace H : ((impl_Leave.f kj23 t457 a1).bind fun bt460 => ((laws_eqIntS.f kj23 bt460.1 t435).bind fun t464 => (if t464 = true then (laws_FnExactLeave.j2 kj23 t455 t454 (bt460.2 != t436)) else (laws_FnExactLeave.j2 kj23 t455 t454 true)))) = some r := H
                      have A38 := Aside0.mk A380
                      clear A380
                      replace H := Option.bind_eq_some_iff.mp H
                      obtain ⟨⟨t460, t461⟩, A390, H⟩ := H
                      replace H : ((laws_eqIntS.f kj23 t460 t435).bind fun t464 => (if t464 = true then (laws_FnExactLeave.j2 kj23 t455 t454 (t461 != t436)) else (laws_FnExactLeave.j2 kj23 t455 t454 true))) = some r := H
                      have A39 := Aside0.mk A390
                      clear A390
                      have HC40 := Aside0.mk H
                      clear H
                      obtain ⟨Ao41, co41, eo41⟩ := Kd.R_slice HO_8.out
                      subst eo41
                      go_upto_region 23 with (first | ((with_reducible refine gate_callee (f := 28) rfl ?_); refine goesL_ (some 65) rfl rfl Try.func28 (by kernel_rfl) rfl #[.slice Ao41 t442.length co41, .int .i64 1] rfl (by (try simp only [List.map_toArray, List.map_cons, List.map_nil]); first | done | rfl | (simp only [List.length_drop, List.length_take]; rfl) | (go_simp; done) | (simp [*]; done)) ?_; (with_reducible refine (laws_markIntS.calls kj23 (fun k_ => some k_ = (.slice Ao41 t442.length co41 : Value).ownBlock) (.slice Ao41 t442.length co41) t442 1 t454 t455 w _ ?side1 ?side2 A34.out).mono ?_); (case side1 => repeat (first | (with_reducible first | exact HB.out | apply below_alloc | apply pw_below_drewN | apply below_drew1) | exact HB.out)); (case side2 => exact Kd.R_tight rfl HO_8.out); rintro e w42 ⟨rfl, hy0, hb, hkp⟩; refine ⟨_, rfl, ?_⟩; have n0_ := Aside0.mk (Kd.R_mono (ok' := fun k_ => some k_ ≠ (.slice Ao41 t442.length co41 : Value).ownBlock) (Kd.R_keptB (HO_5.out) hkp (fun k_ hk_ hs_ => (hk_) hs_)) (fun k_ hk_ => hk_.1)); have n1_ := Aside0.mk (Kd.R_reok rfl hy0 (fun k_ e_ => HO_8.out.1 k_ e_)); have n2_ := Aside0.mk (hb); clear HO_5 HO_8 HB; have HO_5 := n0_; have HO_8 := n1_; have HB := n2_; clear n0_ n1_ n2_; (try clear hb); (try clear hkp); (try clear hy0)) | ((with_reducible refine gate_callee (f := 29) rfl ?_); refine goesL_ (some 68) rfl rfl Try.func29 (by kernel_rfl) rfl #[.slice Ao41 t455.length co41, .int .i64 1] rfl (by (try simp only [List.map_toArray, List.map_cons, List.map_nil]); first | done | (rw [show t455.length = t442.length from (Kd.R_reads' HO_8.out).1.symm] <;> rfl) | rfl | (simp only [List.length_drop, List.length_take]; rfl) | (go_simp; done) | (simp [*]; done)) ?_; (with_reducible refine (laws_heldIntS.calls kj23 _ _ t455 1 t456 _ ?side1 ?side2 A35.out).mono ?_); (case side1 => exact pkC (Kd.R_reads' HO_8.out).2.2); (case side2 => rw [show t455.length = t442.length from (Kd.R_reads' HO_8.out).1.symm]; exact (Kd.R_reads' HO_8.out).2.1); rintro e w' ⟨rfl, ⟨nd, rfl⟩⟩; refine ⟨_, rfl, ?_⟩) | ((with_reducible refine gate_callee (f := 16) rfl ?_); refine goesL_ (some 76) rfl rfl Try.func16 (by kernel_rfl) rfl #[.slice A0 l0.length c0] rfl (by (try simp only [List.map_toArray, List.map_cons, List.map_nil]); first | done | rfl | (simp only [List.length_drop, List.length_take]; rfl) | (go_simp; done) | (simp [*]; done)) ?_; (with_reducible refine (laws_toIntS.calls kj23 _ _ l0 t457 _ ?side1 ?side2 A38.out).mono ?_); (case side1 => repeat (first | exact (Kd.C_below HR0.out (pkB HB.out)) | (with_reducible refine Kd.C_alloc ?_ _) | (with_reducible refine Kd.C_drewN ?_ _) | (with_reducible refine Kd.C_drew ?_))); (case side2 => exact HC0.out); rintro e w43 ⟨v458, rfl, ho0, hb⟩; refine ⟨_, rfl, ?_⟩; have n0_ := Aside0.mk (Kd.R_elder' (pkR HO_5.out) (Kd.R_base ho0) hb); have n1_ := Aside0.mk (Kd.R_elder' (pkR HO_8.out) (Kd.R_base ho0) hb); have n2_ := Aside0.mk (Kd.R_lower (Kd.R_new' (Kd.R_new' ho0 (Kd.R_lt (pkR HO_5.out))) (Kd.R_lt (pkR HO_8.out))) (below_size (pkB HB.out))); have n3_ := Aside0.mk (below_step (pkB HB.out) hb); clear HO_5 HO_8 HB; have HO_5 := n0_; have HO_8 := n1_; have HO459 := n2_; have HB := n3_; clear n0_ n1_ n2_ n3_; (try clear hb); (try clear hb2); (try clear hk); (try clear hi); (try clear ho0); obtain ⟨Ao44, co44, eo44⟩ := Kd.R_slice HO459.out; subst eo44) | ((with_reducible refine gate_callee (f := 35) rfl ?_); refine goesL_ (some 78) rfl rfl Try.func35 (by kernel_rfl) rfl #[.slice Ao44 t457.length co44, .int .i64 a1] rfl (by (try simp only [List.map_toArray, List.map_cons, List.map_nil]); first | done | rfl | (simp only [List.length_drop, List.length_take]; rfl) | (go_simp; done) | (simp [*]; done)) ?_; (with_reducible refine (impl_Leave.calls kj23 _ _ t457 a1 t460 t461 _ ?side1 ?side2 A39.out).mono ?_); (case side1 => exact pkC (Kd.R_reads' HO459.out).2.2); (case side2 => exact (Kd.R_reads' HO459.out).2.1); rintro e w45 ⟨v462, rfl, ho0, hb⟩; refine ⟨_, rfl, ?_⟩; have n0_ := Aside0.mk (Kd.R_elder' (pkR HO_5.out) (Kd.R_base ho0) hb); have n1_ := Aside0.mk (Kd.R_elder' (pkR HO_8.out) (Kd.R_base ho0) hb); have n2_ := Aside0.mk (Kd.R_elder' (pkR HO459.out) (Kd.R_base ho0) hb); have n3_ := Aside0.mk (Kd.R_lower (Kd.R_new' (Kd.R_new' (Kd.R_new' ho0 (Kd.R_lt (pkR HO_5.out))) (Kd.R_lt (pkR HO_8.out))) (Kd.R_lt (pkR HO459.out))) (below_size (pkB HB.out))); have n4_ := Aside0.mk (below_step (pkB HB.out) hb); clear HO_5 HO_8 HO459 HB; have HO_5 := n0_; have HO_8 := n1_; have HO459 := n2_; have HO463 := n3_; have HB := n4_; clear n0_ n1_ n2_ n3_ n4_; (try clear hb); (try clear hb2); (try clear hk); (try clear hi); (try clear ho0)))
                      (try simp only [Act.put, List.setIfInBounds_toArray, List.set_cons_zero, List.set_cons_succ])
                      go_cut [89] (fun v89 wc => ∃ (kq : Nat) (x89_39 : Bool), v89 = .bool x89_39 ∧ Aside0 (laws_FnExactLeave.j2 kq t455 t454 x89_39 = some r) ∧ Aside0 (kq ≤ kj23) ∧ Aside0 (Kd.R (Kd.int .i64) 3 wc w.heap.size (fun _ => True) (.slice Ao41 t442.length co41) t455) ∧ Aside0 (Below w.heap.size w wc))
                      case first =>
                        have H := HC40.out
                        clear HC40
                        replace H := Option.bind_eq_some_iff.mp H
                        obtain ⟨t464, A460, H⟩ := H
                        replace H : (if t464 = true then (laws_FnExactLeave.j2 kj23 t455 t454 (t461 != t436)) else (laws_FnExactLeave.j2 kj23 t455 t454 true)) = some r := H
                        have A46 := Aside0.mk A460
                        clear A460
                        by_cases c47 : t464 = true
                        · subst c47
                          have H1 : (laws_FnExactLeave.j2 kj23 t455 t454 (t461 != t436)) = some r := by rw [if_pos rfl] at H; exact H
                          clear H
                          have H := H1
                          clear H1
                          have H' := Aside0.mk H
                          clear H
                          obtain ⟨Ao48, co48, eo48⟩ := Kd.R_slice HO463.out
                          subst eo48
                          obtain ⟨Ao49, co49, eo49⟩ := Kd.R_slice HO_5.out
                          subst eo49
                          go_wp2_with (first | ((with_reducible refine gate_callee (f := 18) rfl ?_); refine goesL_ (some 83) rfl rfl Try.func18 (by kernel_rfl) rfl #[.slice Ao48 t460.length co48, .slice Ao49 t435.length co49] rfl (by (try simp only [List.map_toArray, List.map_cons, List.map_nil]); first | done | rfl | (simp only [List.length_drop, List.length_take]; rfl) | (go_simp; done) | (simp [*]; done)) ?_; (with_reducible refine (laws_eqIntS.calls kj23 _ _ t460 _ _ t435 true _ ?side1 ?side2 ?side3 ?side4 A46.out).mono ?_); (case side1 => exact pkC (Kd.R_reads' HO463.out).2.2); (case side2 => exact (Kd.R_reads' HO463.out).2.1); (case side3 => exact pkC (Kd.R_reads' HO_5.out).2.2); (case side4 => exact (Kd.R_reads' HO_5.out).2.1); rintro e w' ⟨rfl, ⟨nd, rfl⟩⟩; refine ⟨_, rfl, ?_⟩))
                          go_meet
                          case rel => exact ⟨_, ((t461 != t436)), (by first | rfl | (simp; done) | (simp [*]; done)), H', ⟨by have := HJ7.out; have := HJ23.out; first | omega | exact Nat.le_refl _⟩, ⟨by (with_reducible repeat (first | apply Kd.R_alloc | apply Kd.R_drewN | apply Kd.R_drew)); exact Kd.R_mono HO_8.out (fun _ hk => trivial)⟩, ⟨pkB HB.out⟩⟩
                        · replace c47 := Bool.eq_false_iff.mpr c47
                          subst c47
                          have H1 : (laws_FnExactLeave.j2 kj23 t455 t454 true) = some r := by rw [if_neg (show ¬ (false = true) by decide)] at H; exact H
                          clear H
                          have H := H1
                          clear H1
                          cases kj23 with
                          | zero => exact absurd H (by simp [laws_FnExactLeave.j2])
                          | succ k_ => (simp only [laws_FnExactLeave.j2, if_pos] at H; exact absurd (Option.some.inj H) (by rw [HQ_.out]; simp))
                      case rest =>
                        clear HC40
                        try clear c1
                        try clear c2
                        try clear p2
                        try clear c3
                        try clear c3b0
                        try clear c3b1
                        try clear c4
                        try clear c9
                        try clear c16
                        try clear c18
                        try clear c19
                        try clear c22
                        try clear c28
                        try clear c28b0
                        try clear c29
                        try clear c30
                        try clear c33
                        try clear c34
                        try clear c35
                        try clear c36
                        try clear c36b0
                        try clear c37
                        try clear c37b0
                        try clear c37b1
                        try clear c47
                        try clear p2
                        obtain ⟨kq, x89_39, rfl, HA, HJ39, HO_8, HB⟩ := hcut
                        have hl8_39 := (Kd.R_reads' HO_8.out).1
                        rw [hl8_39] at HO_8
                        (try simp only [hl8_39])
                        cases kq with
                        | zero => exact absurd HA.out (by simp [laws_FnExactLeave.j2])
                        | succ kj39 =>
                          have H := HA.out
                          clear HA
                          simp only [laws_FnExactLeave.j2] at H
                          by_cases c50 : x89_39 = true
                          · subst c50
                            have H1 : (some false) = some r := by rw [if_pos rfl] at H; exact H
                            clear H
                            have H := H1
                            clear H1
                            exact absurd (Option.some.inj H) (by rw [HQ_.out]; simp)
                          · replace c50 := Bool.eq_false_iff.mpr c50
                            subst c50
                            have H1 : ((laws_heldIntS.f kj39 t455 1).bind fun t465 => (if t465 < 0 then (some false) else (if t465 = t454 then (some true) else (some false)))) = some r := by rw [if_neg (show ¬ (false = true) by decide)] at H; exact H
                            clear H
                            have H := H1
                            clear H1
                            replace H := Option.bind_eq_some_iff.mp H
                            obtain ⟨t465, A510, H⟩ := H
                            replace H : (if t465 < 0 then (some false) else (if t465 = t454 then (some true) else (some false))) = some r := H
                            have A51 := Aside0.mk A510
                            clear A510
                            by_cases c52 : t465 < 0
                            · rw [if_pos c52] at H
                              have c52b0 : decide (t465 < 0) = true := decide_eq_true c52
                              clear c52
                              exact absurd (Option.some.inj H) (by rw [HQ_.out]; simp)
                            · rw [if_neg c52] at H
                              have c52b0 : decide (t465 < 0) = false := decide_eq_false c52
                              clear c52
                              by_cases c53 : t465 = t454
                              · rw [if_pos c53] at H
                                have c53b0 : (t465 == t454) = true := beq_iff_eq.mpr c53
                                have c53b1 : (t465 != t454) = false := bne_eq_false_iff_eq.mpr c53
                                clear c53
                                obtain rfl := Option.some.inj H
                                go_wp2_with (first | ((with_reducible refine gate_callee (f := 29) rfl ?_); refine goesL_ (some 92) rfl rfl Try.func29 (by kernel_rfl) rfl #[.slice Ao41 t455.length co41, .int .i64 1] rfl (by (try simp only [List.map_toArray, List.map_cons, List.map_nil]); first | done | rfl | (simp only [List.length_drop, List.length_take]; rfl) | (go_simp; done) | (simp [*]; done)) ?_; (with_reducible refine (laws_heldIntS.calls kj39 _ _ t455 1 t465 _ ?side1 ?side2 A51.out).mono ?_); (case side1 => exact pkC (Kd.R_reads' HO_8.out).2.2); (case side2 => exact (Kd.R_reads' HO_8.out).2.1); rintro e w' ⟨rfl, ⟨nd, rfl⟩⟩; refine ⟨_, rfl, ?_⟩))
                                go_ret
                                exact ⟨by first | rfl | (simp [errW_none, errW_some] <;> rfl) | (simp [*, errW_none, errW_some] <;> rfl), pkB HB.out⟩
                              · rw [if_neg c53] at H
                                have c53b0 : (t465 == t454) = false := beq_eq_false_iff_ne.mpr c53
                                have c53b1 : (t465 != t454) = true := bne_iff_ne.mpr c53
                                exact absurd (Option.some.inj H) (by rw [HQ_.out]; simp)
                    · rw [if_neg c37] at H
                      have c37b0 : (t456 == t454) = false := beq_eq_false_iff_ne.mpr c37
                      have c37b1 : (t456 != t454) = true := bne_iff_ne.mpr c37
                      exact absurd (Option.some.inj H) (by rw [HQ_.out]; simp)
          · replace c22 := Bool.eq_false_iff.mpr c22
            subst c22
            have H1 : (some false) = some r := by rw [if_neg (show ¬ (false = true) by decide)] at H; exact H
            clear H
            have H := H1
            clear H1
            exact absurd (Option.some.inj H) (by rw [HQ_.out]; simp)
end Go.Proofs.Ytghmhekjdjdleaa.Z
