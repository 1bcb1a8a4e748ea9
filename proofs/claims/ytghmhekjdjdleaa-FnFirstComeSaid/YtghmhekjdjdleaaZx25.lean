/- The Go functions impl_Leave as Lean functions, each with a proof that its code comes to just these answers; conditions: those of each theorem. -/
import Derived.Test.YtghmhekjdjdleaaZx0
import Derived.Test.YtghmhekjdjdleaaZx7
import Derived.Test.YtghmhekjdjdleaaZx8
import Derived.Test.YtghmhekjdjdleaaZx16
import Derived.Test.YtghmhekjdjdleaaZx24
namespace Go.Proofs.Ytghmhekjdjdleaa.Z
open Go.RowKit Go.Proofs.YtghmhekjdjdleaaW.PrintWords Go.Proofs.YtghmhekjdjdleaaW.PrintLast Go.Proofs.YtghmhekjdjdleaaW.PrintMore
attribute [local go_sem] max2_int min2_int max_two min_two max_three min_three max_four min_four   -- for this text's walks alone
set_option linter.unusedVariables false
set_option linter.unusedSimpArgs false
def impl_Leave.f (k : Nat) (l0 : List Int) (a1 : Int) : Option (List Int × Int) := (impl_LineOk.f k l0).bind fun t421 => (if t421 = true then ((slices_Contains_int_int.f k l0 a1).bind fun t422 => (if t422 = true then ((impl_without.f k l0 a1).bind fun t423 => (some (t423, 0))) else ((slices_Clone_int_int.f l0).bind fun t426 => (some (t426, 3))))) else ((slices_Clone_int_int.f l0).bind fun t429 => (some (t429, 1))))
theorem impl_Leave.mono : ∀ a0 a1 k, LeO (impl_Leave.f k a0 a1) (impl_Leave.f (k + 1) a0 a1) := by
  intro a0 a1 k
  unfold impl_Leave.f
  repeat' first
      | (with_reducible exact impl_LineOk.mono _ _)
      | (with_reducible exact impl_without.mono _ _ _)
      | (with_reducible exact slices_Contains_int_int.mono _ _ _)
      | (with_reducible exact LeO.refl _)
      | (with_reducible exact LeO.none _)
      | (with_reducible refine LeO.ite ?_ ?_)
      | (with_reducible refine LeO.bind ?_ (fun _ => ?_))
      | exact impl_LineOk.mono _ _
      | exact impl_without.mono _ _ _
      | exact slices_Contains_int_int.mono _ _ _
      | exact LeO.none _
      | refine LeO.ite ?_ ?_
      | refine LeO.bind ?_ (fun _ => ?_)
set_option maxHeartbeats 8000000 in
set_option maxRecDepth 100000 in
theorem impl_Leave.calls (k : Nat) (A0 : Option Addr) (c0 : Nat) (l0 : List Int) (a1 : Int) (r1 : List Int) (r2 : Int) (w : World) (hr0 : Kd.C (Kd.int .i64) w A0 l0.length l0) (hc0 : l0.length ≤ c0) (h : impl_Leave.f k l0 a1 = some (r1, r2)) :
    Calls Try.prog 35 #[.slice A0 l0.length c0, .int .i64 a1] w fun e w' => ∃ v0_ : Value, e = .returned (.tuple #[v0_, .int .i64 r2]) ∧ Kd.R (Kd.int .i64) 3 w' w.heap.size (fun _ => True) v0_ r1 ∧ Below w.heap.size w w' := by
  have HR0 := Aside0.mk hr0
  have HC0 := Aside0.mk hc0
  clear hr0 hc0
  have HB := Aside0.mk (Below.refl w.heap.size w)
  have H : ((impl_LineOk.f k l0).bind fun t421 => (if t421 = true then ((slices_Contains_int_int.f k l0 a1).bind fun t422 => (if t422 = true then ((impl_without.f k l0 a1).bind fun t423 => (some (t423, 0))) else ((slices_Clone_int_int.f l0).bind fun t426 => (some (t426, 3))))) else ((slices_Clone_int_int.f l0).bind fun t429 => (some (t429, 1))))) = some (r1, r2) := h
  clear h
  replace H := Option.bind_eq_some_iff.mp H
  obtain ⟨t421, A30, H⟩ := H
  replace H : (if t421 = true then ((slices_Contains_int_int.f k l0 a1).bind fun t422 => (if t422 = true then ((impl_without.f k l0 a1).bind fun t423 => (some (t423, 0))) else ((slices_Clone_int_int.f l0).bind fun t426 => (some (t426, 3))))) else ((slices_Clone_int_int.f l0).bind fun t429 => (some (t429, 1)))) = some (r1, r2) := H
  have A3 := Aside0.mk A30
  clear A30
  by_cases c4 : t421 = true
  · subst c4
    have H1 : ((slices_Contains_int_int.f k l0 a1).bind fun t422 => (if t422 = true then ((impl_without.f k l0 a1).bind fun t423 => (some (t423, 0))) else ((slices_Clone_int_int.f l0).bind fun t426 => (some (t426, 3))))) = some (r1, r2) := by rw [if_pos rfl] at H; exact H
    clear H
    have H := H1
    clear H1
    replace H := Option.bind_eq_some_iff.mp H
    obtain ⟨t422, A50, H⟩ := H
    replace H : (if t422 = true then ((impl_without.f k l0 a1).bind fun t423 => (some (t423, 0))) else ((slices_Clone_int_int.f l0).bind fun t426 => (some (t426, 3)))) = some (r1, r2) := H
    have A5 := Aside0.mk A50
    clear A50
    by_cases c6 : t422 = true
    · subst c6
      have H1 : ((impl_without.f k l0 a1).bind fun t423 => (some (t423, 0))) = some (r1, r2) := by rw [if_pos rfl] at H; exact H
      clear H
      have H := H1
      clear H1
      replace H := Option.bind_eq_some_iff.mp H
      obtain ⟨t423, A70, H⟩ := H
      replace H : (some (t423, 0)) = some (r1, r2) := H
      have A7 := Aside0.mk A70
      clear A70
      simp only [Option.some.injEq, Prod.mk.injEq] at H
      obtain ⟨rfl, rfl⟩ := H
      go_enter Try.func35, Try.ntmps35
      go_wp2_with (first | ((with_reducible refine gate_callee (f := 20) rfl ?_); refine goesL_ (some 8) rfl rfl Try.func20 (by kernel_rfl) rfl #[.slice A0 l0.length c0] rfl (by (try simp only [List.map_toArray, List.map_cons, List.map_nil]); first | done | rfl | (simp only [List.length_drop, List.length_take]; rfl) | (go_simp; done) | (simp [*]; done)) ?_; (with_reducible refine (impl_LineOk.calls k _ _ l0 true _ ?side1 ?side2 A3.out).mono ?_); (case side1 => exact pkC HR0.out); (case side2 => exact HC0.out); rintro e w' ⟨rfl, ⟨nd, rfl⟩⟩; refine ⟨_, rfl, ?_⟩) | ((with_reducible refine gate_callee (f := 65) rfl ?_); refine goesL_ (some 15) rfl rfl Try.func65 (by kernel_rfl) rfl #[.slice A0 l0.length c0, .int .i64 a1] rfl (by (try simp only [List.map_toArray, List.map_cons, List.map_nil]); first | done | rfl | (simp only [List.length_drop, List.length_take]; rfl) | (go_simp; done) | (simp [*]; done)) ?_; (with_reducible refine (slices_Contains_int_int.calls k _ _ l0 a1 true _ ?side1 ?side2 A5.out).mono ?_); (case side1 => exact pkC HR0.out); (case side2 => exact HC0.out); rintro e w' ⟨rfl, ⟨nd, rfl⟩⟩; refine ⟨_, rfl, ?_⟩) | ((with_reducible refine gate_callee (f := 67) rfl ?_); refine goesL_ (some 21) rfl rfl Try.func67 (by kernel_rfl) rfl #[.slice A0 l0.length c0, .int .i64 a1] rfl (by (try simp only [List.map_toArray, List.map_cons, List.map_nil]); first | done | rfl | (simp only [List.length_drop, List.length_take]; rfl) | (go_simp; done) | (simp [*]; done)) ?_; (with_reducible refine (impl_without.calls k _ _ l0 a1 t423 _ ?side1 ?side2 A7.out).mono ?_); (case side1 => exact pkC HR0.out); (case side2 => exact HC0.out); rintro e w8 ⟨v424, rfl, ho0, hb⟩; refine ⟨_, rfl, ?_⟩; have n0_ := Aside0.mk (Kd.R_lower ho0 (below_size (pkB HB.out))); have n1_ := Aside0.mk (below_step (pkB HB.out) hb); clear HB; have HO425 := n0_; have HB := n1_; clear n0_ n1_; (try clear hb); (try clear hb2); (try clear hk); (try clear hi); (try clear ho0)))
      go_ret2
      exact ⟨_, by first | rfl | (simp [errW_none, errW_some] <;> rfl) | (simp [*, errW_none, errW_some] <;> rfl), pkR HO425.out, pkB HB.out⟩
    · replace c6 := Bool.eq_false_iff.mpr c6
      subst c6
      have H1 : ((slices_Clone_int_int.f l0).bind fun t426 => (some (t426, 3))) = some (r1, r2) := by rw [if_neg (show ¬ (false = true) by decide)] at H; exact H
      clear H
      have H := H1
      clear H1
      replace H := Option.bind_eq_some_iff.mp H
      obtain ⟨t426, A90, H⟩ := H
      replace H : (some (t426, 3)) = some (r1, r2) := H
      have A9 := Aside0.mk A90
      clear A90
      simp only [Option.some.injEq, Prod.mk.injEq] at H
      obtain ⟨rfl, rfl⟩ := H
      go_enter Try.func35, Try.ntmps35
      go_wp2_with (first | ((with_reducible refine gate_callee (f := 20) rfl ?_); refine goesL_ (some 8) rfl rfl Try.func20 (by kernel_rfl) rfl #[.slice A0 l0.length c0] rfl (by (try simp only [List.map_toArray, List.map_cons, List.map_nil]); first | done | rfl | (simp only [List.length_drop, List.length_take]; rfl) | (go_simp; done) | (simp [*]; done)) ?_; (with_reducible refine (impl_LineOk.calls k _ _ l0 true _ ?side1 ?side2 A3.out).mono ?_); (case side1 => exact pkC HR0.out); (case side2 => exact HC0.out); rintro e w' ⟨rfl, ⟨nd, rfl⟩⟩; refine ⟨_, rfl, ?_⟩) | ((with_reducible refine gate_callee (f := 65) rfl ?_); refine goesL_ (some 15) rfl rfl Try.func65 (by kernel_rfl) rfl #[.slice A0 l0.length c0, .int .i64 a1] rfl (by (try simp only [List.map_toArray, List.map_cons, List.map_nil]); first | done | rfl | (simp only [List.length_drop, List.length_take]; rfl) | (go_simp; done) | (simp [*]; done)) ?_; (with_reducible refine (slices_Contains_int_int.calls k _ _ l0 a1 false _ ?side1 ?side2 A5.out).mono ?_); (case side1 => exact pkC HR0.out); (case side2 => exact HC0.out); rintro e w' ⟨rfl, ⟨nd, rfl⟩⟩; refine ⟨_, rfl, ?_⟩) | ((with_reducible refine gate_callee (f := 62) rfl ?_); refine goesL_ (some 18) rfl rfl Try.func62 (by kernel_rfl) rfl #[.slice A0 l0.length c0] rfl (by (try simp only [List.map_toArray, List.map_cons, List.map_nil]); first | done | rfl | (simp only [List.length_drop, List.length_take]; rfl) | (go_simp; done) | (simp [*]; done)) ?_; (with_reducible refine (slices_Clone_int_int.calls _ _ l0 t426 _ ?side1 ?side2 A9.out).mono ?_); (case side1 => exact pkC HR0.out); (case side2 => exact HC0.out); rintro e w10 ⟨v427, rfl, ho0, hb⟩; refine ⟨_, rfl, ?_⟩; have n0_ := Aside0.mk (Kd.R_lower ho0 (below_size (pkB HB.out))); have n1_ := Aside0.mk (below_step (pkB HB.out) hb); clear HB; have HO428 := n0_; have HB := n1_; clear n0_ n1_; (try clear hb); (try clear hb2); (try clear hk); (try clear hi); (try clear ho0)))
      go_ret2
      exact ⟨_, by first | rfl | (simp [errW_none, errW_some] <;> rfl) | (simp [*, errW_none, errW_some] <;> rfl), pkR HO428.out, pkB HB.out⟩
  · replace c4 := Bool.eq_false_iff.mpr c4
    subst c4
    have H1 : ((slices_Clone_int_int.f l0).bind fun t429 => (some (t429, 1))) = some (r1, r2) := by rw [if_neg (show ¬ (false = true) by decide)] at H; exact H
    clear H
    have H := H1
    clear H1
    replace H := Option.bind_eq_some_iff.mp H
    obtain ⟨t429, A110, H⟩ := H
    replace H : (some (t429, 1)) = some (r1, r2) := H
    have A11 := Aside0.mk A110
    clear A110
    simp only [Option.some.injEq, Prod.mk.injEq] at H
    obtain ⟨rfl, rfl⟩ := H
    go_enter Try.func35, Try.ntmps35
    go_wp2_with (first | ((with_reducible refine gate_callee (f := 20) rfl ?_); refine goesL_ (some 8) rfl rfl Try.func20 (by kernel_rfl) rfl #[.slice A0 l0.length c0] rfl (by (try simp only [List.map_toArray, List.map_cons, List.map_nil]); first | done | rfl | (simp only [List.length_drop, List.length_take]; rfl) | (go_simp; done) | (simp [*]; done)) ?_; (with_reducible refine (impl_LineOk.calls k _ _ l0 false _ ?side1 ?side2 A3.out).mono ?_); (case side1 => exact pkC HR0.out); (case side2 => exact HC0.out); rintro e w' ⟨rfl, ⟨nd, rfl⟩⟩; refine ⟨_, rfl, ?_⟩) | ((with_reducible refine gate_callee (f := 62) rfl ?_); refine goesL_ (some 11) rfl rfl Try.func62 (by kernel_rfl) rfl #[.slice A0 l0.length c0] rfl (by (try simp only [List.map_toArray, List.map_cons, List.map_nil]); first | done | rfl | (simp only [List.length_drop, List.length_take]; rfl) | (go_simp; done) | (simp [*]; done)) ?_; (with_reducible refine (slices_Clone_int_int.calls _ _ l0 t429 _ ?side1 ?side2 A11.out).mono ?_); (case side1 => exact pkC HR0.out); (case side2 => exact HC0.out); rintro e w12 ⟨v430, rfl, ho0, hb⟩; refine ⟨_, rfl, ?_⟩; have n0_ := Aside0.mk (Kd.R_lower ho0 (below_size (pkB HB.out))); have n1_ := Aside0.mk (below_step (pkB HB.out) hb); clear HB; have HO431 := n0_; have HB := n1_; clear n0_ n1_; (try clear hb); (try clear hb2); (try clear hk); (try clear hi); (try clear ho0)))
    go_ret2
    exact ⟨_, by first | rfl | (simp [errW_none, errW_some] <;> rfl) | (simp [*, errW_none, errW_some] <;> rfl), pkR HO431.out, pkB HB.out⟩
end Go.Proofs.Ytghmhekjdjdleaa.Z
