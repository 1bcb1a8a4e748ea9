/- The Go functions laws_FnFirstCome as Lean functions, each with a proof that its code comes to just these answers; conditions: those of each theorem. -/
import Derived.Test.YtghmhekjdjdleaaZx0
import Derived.Test.YtghmhekjdjdleaaZx3
import Derived.Test.YtghmhekjdjdleaaZx6
import Derived.Test.YtghmhekjdjdleaaZx17
import Derived.Test.YtghmhekjdjdleaaZx20
import Derived.Test.YtghmhekjdjdleaaZx21
import Derived.Test.YtghmhekjdjdleaaZx25
import Derived.Test.YtghmhekjdjdleaaZx34
import Derived.Test.YtghmhekjdjdleaaZx40
import Derived.Test.YtghmhekjdjdleaaZx41
namespace Go.Proofs.Ytghmhekjdjdleaa.Z
open Go.RowKit Go.Proofs.YtghmhekjdjdleaaW.PrintWords Go.Proofs.YtghmhekjdjdleaaW.PrintLast Go.Proofs.YtghmhekjdjdleaaW.PrintMore
attribute [local go_sem] max2_int min2_int max_two min_two max_three min_three max_four min_four   -- for this text's walks alone
set_option linter.unusedVariables false
set_option linter.unusedSimpArgs false
def laws_FnFirstCome.j0 : Nat → List Int → Int → List Int → List Int → Bool → Option (Bool)
  | 0, _, _, _, _, _ => none
  | k + 1, x3, x4, x5, x15, x102 => if x102 = true then (some false) else (if 0 ≤ (wrap64 ((x15.length : Int) - 1)) then (if (wrap64 ((x15.length : Int) - 1)) < (x15.length : Int) then (if (rd x15 (wrap64 ((x15.length : Int) - 1))) = x4 then ((impl_PlaceOf.f k x5 x4).bind fun t833 => (if t833 = (x3.length : Int) then ((spec_LineOk.f k x5).bind fun t834 => (some t834)) else (some false))) else (some false)) else (none)) else (none))
def laws_FnFirstCome.f (k : Nat) (l0 : List Int) : Option (Bool) := (laws_big.f l0).bind fun t790 => (if t790 = true then (some true) else ((spec_DrawJoin.f k l0).bind fun bt791 => ((impl_Join.f k bt791.1 bt791.2).bind fun bt795 => ((spec_Join.f k bt791.1 bt791.2).bind fun bt799 => (if bt799.2 = 0 then ((impl_Leave.f k bt795.1 bt791.2).bind fun bt804 => ((laws_at.f l0 0).bind fun t808 => (if (wrap64 ((bt795.1.length : Int) + 1)) = 0 then (none) else ((impl_Wake.f k bt795.1 (Int.tmod t808 (wrap64 ((bt795.1.length : Int) + 1)))).bind fun bt809 => ((impl_Wake.f k bt795.1 (bt795.1.length : Int)).bind fun bt815 => (if bt795.2 = 0 then (if bt804.2 = 0 then ((laws_sameInts.f k bt804.1 bt791.1).bind fun t821 => (if t821 = true then (if (bt809.2.length : Int) = (Int.tmod t808 (wrap64 ((bt795.1.length : Int) + 1))) then ((some (([] : List Int) : List Int)).bind fun y822 => (if y822.length + bt809.2.length < 17592186044416 then ((some (y822 ++ bt809.2 : List Int)).bind fun y825 => (if y825.length + bt809.1.length < 17592186044416 then ((laws_sameInts.f k (y825 ++ bt809.1) bt795.1).bind fun t831 => (if t831 = true then (laws_FnFirstCome.j0 k bt791.1 bt791.2 bt795.1 bt815.2 ((bt815.1.length : Int) != 0)) else (laws_FnFirstCome.j0 k bt791.1 bt791.2 bt795.1 bt815.2 true))) else (none))) else (none))) else (laws_FnFirstCome.j0 k bt791.1 bt791.2 bt795.1 bt815.2 true)) else (laws_FnFirstCome.j0 k bt791.1 bt791.2 bt795.1 bt815.2 true))) else (laws_FnFirstCome.j0 k bt791.1 bt791.2 bt795.1 bt815.2 true)) else (laws_FnFirstCome.j0 k bt791.1 bt791.2 bt795.1 bt815.2 true))))))) else (if bt795.2 = bt799.2 then ((laws_sameInts.f k bt795.1 bt791.1).bind fun t803 => (some t803)) else (some false)))))))
theorem laws_FnFirstCome.mono_l : ∀ k, (∀ y0 y1 y2 y3 y4, LeO (laws_FnFirstCome.j0 k y0 y1 y2 y3 y4) (laws_FnFirstCome.j0 (k + 1) y0 y1 y2 y3 y4))
  | 0 => fun _ _ _ _ _ r h => by simp [laws_FnFirstCome.j0] at h
  | k + 1 => by
    have ih0 := laws_FnFirstCome.mono_l k
    · intro y0 y1 y2 y3 y4
      unfold laws_FnFirstCome.j0
      repeat' first
      | (with_reducible exact ih0 _ _ _ _ _)
      | (with_reducible exact impl_Join.mono _ _ _)
      | (with_reducible exact impl_Leave.mono _ _ _)
      | (with_reducible exact impl_PlaceOf.mono _ _ _)
      | (with_reducible exact impl_Wake.mono _ _ _)
      | (with_reducible exact laws_sameInts.mono _ _ _)
      | (with_reducible exact spec_DrawJoin.mono _ _)
      | (with_reducible exact spec_Join.mono _ _ _)
      | (with_reducible exact spec_LineOk.mono _ _)
      | (with_reducible exact LeO.refl _)
      | (with_reducible exact LeO.none _)
      | (with_reducible refine LeO.ite ?_ ?_)
      | (with_reducible refine LeO.bind ?_ (fun _ => ?_))
      | exact ih0 _ _ _ _ _
      | exact impl_Join.mono _ _ _
      | exact impl_Leave.mono _ _ _
      | exact impl_PlaceOf.mono _ _ _
      | exact impl_Wake.mono _ _ _
      | exact laws_sameInts.mono _ _ _
      | exact spec_DrawJoin.mono _ _
      | exact spec_Join.mono _ _ _
      | exact spec_LineOk.mono _ _
      | exact LeO.none _
      | refine LeO.ite ?_ ?_
      | refine LeO.bind ?_ (fun _ => ?_)
theorem laws_FnFirstCome.mono : ∀ a0 k, LeO (laws_FnFirstCome.f k a0) (laws_FnFirstCome.f (k + 1) a0) := by
  intro a0 k
  have ih0 := laws_FnFirstCome.mono_l k
  unfold laws_FnFirstCome.f
  repeat' first
      | (with_reducible exact ih0 _ _ _ _ _)
      | (with_reducible exact impl_Join.mono _ _ _)
      | (with_reducible exact impl_Leave.mono _ _ _)
      | (with_reducible exact impl_PlaceOf.mono _ _ _)
      | (with_reducible exact impl_Wake.mono _ _ _)
      | (with_reducible exact laws_sameInts.mono _ _ _)
      | (with_reducible exact spec_DrawJoin.mono _ _)
      | (with_reducible exact spec_Join.mono _ _ _)
      | (with_reducible exact spec_LineOk.mono _ _)
      | (with_reducible exact LeO.refl _)
      | (with_reducible exact LeO.none _)
      | (with_reducible refine LeO.ite ?_ ?_)
      | (with_reducible refine LeO.bind ?_ (fun _ => ?_))
      | exact ih0 _ _ _ _ _
      | exact impl_Join.mono _ _ _
      | exact impl_Leave.mono _ _ _
      | exact impl_PlaceOf.mono _ _ _
      | exact impl_Wake.mono _ _ _
      | exact laws_sameInts.mono _ _ _
      | exact spec_DrawJoin.mono _ _
      | exact spec_Join.mono _ _ _
      | exact spec_LineOk.mono _ _
      | exact LeO.none _
      | refine LeO.ite ?_ ?_
      | refine LeO.bind ?_ (fun _ => ?_)
set_option maxHeartbeats 8000000 in
set_option maxRecDepth 100000 in
theorem laws_FnFirstCome.calls (k : Nat) (A0 : Option Addr) (c0 : Nat) (l0 : List Int) (r : Bool) (w : World) (hr0 : Kd.C (Kd.int .u8) w A0 l0.length l0) (hc0 : l0.length ≤ c0) (HQ_ : Aside0 (r = true)) (h : laws_FnFirstCome.f k l0 = some r) :
    Calls Try.prog 12 #[.slice A0 l0.length c0] w fun e w' => e = .returned (.bool r) ∧ Below w.heap.size w w' := by
  have HR0 := Aside0.mk hr0
  have HC0 := Aside0.mk hc0
  clear hr0 hc0
  have HB := Aside0.mk (Below.refl w.heap.size w)
  have H : ((laws_big.f l0).bind fun t790 => (if t790 = true then (some true) else ((spec_DrawJoin.f k l0).bind fun bt791 => ((impl_Join.f k bt791.1 bt791.2).bind fun bt795 => ((spec_Join.f k bt791.1 bt791.2).bind fun bt799 => (if bt799.2 = 0 then ((impl_Leave.f k bt795.1 bt791.2).bind fun bt804 => ((laws_at.f l0 0).bind fun t808 => (if (wrap64 ((bt795.1.length : Int) + 1)) = 0 then (none) else ((impl_Wake.f k bt795.1 (Int.tmod t808 (wrap64 ((bt795.1.length : Int) + 1)))).bind fun bt809 => ((impl_Wake.f k bt795.1 (bt795.1.length : Int)).bind fun bt815 => (if bt795.2 = 0 then (if bt804.2 = 0 then ((laws_sameInts.f k bt804.1 bt791.1).bind fun t821 => (if t821 = true then (if (bt809.2.length : Int) = (Int.tmod t808 (wrap64 ((bt795.1.length : Int) + 1))) then ((some (([] : List Int) : List Int)).bind fun y822 => (if y822.length + bt809.2.length < 17592186044416 then ((some (y822 ++ bt809.2 : List Int)).bind fun y825 => (if y825.length + bt809.1.length < 17592186044416 then ((laws_sameInts.f k (y825 ++ bt809.1) bt795.1).bind fun t831 => (if t831 = true then (laws_FnFirstCome.j0 k bt791.1 bt791.2 bt795.1 bt815.2 ((bt815.1.length : Int) != 0)) else (laws_FnFirstCome.j0 k bt791.1 bt791.2 bt795.1 bt815.2 true))) else (none))) else (none))) else (laws_FnFirstCome.j0 k bt791.1 bt791.2 bt795.1 bt815.2 true)) else (laws_FnFirstCome.j0 k bt791.1 bt791.2 bt795.1 bt815.2 true))) else (laws_FnFirstCome.j0 k bt791.1 bt791.2 bt795.1 bt815.2 true)) else (laws_FnFirstCome.j0 k bt791.1 bt791.2 bt795.1 bt815.2 true))))))) else (if bt795.2 = bt799.2 then ((laws_sameInts.f k bt795.1 bt791.1).bind fun t803 => (some t803)) else (some false)))))))) = some r := h
  clear h
  replace H := Option.bind_eq_some_iff.mp H
  obtain ⟨t790, A20, H⟩ := H
  replace H : (if t790 = true then (some true) else ((spec_DrawJoin.f k l0).bind fun bt791 => ((impl_Join.f k bt791.1 bt791.2).bind fun bt795 => ((spec_Join.f k bt791.1 bt791.2).bind fun bt799 => (if bt799.2 = 0 then ((impl_Leave.f k bt795.1 bt791.2).bind fun bt804 => ((laws_at.f l0 0).bind fun t808 => (if (wrap64 ((bt795.1.length : Int) + 1)) = 0 then (none) else ((impl_Wake.f k bt795.1 (Int.tmod t808 (wrap64 ((bt795.1.length : Int) + 1)))).bind fun bt809 => ((impl_Wake.f k bt795.1 (bt795.1.length : Int)).bind fun bt815 => (if bt795.2 = 0 then (if bt804.2 = 0 then ((laws_sameInts.f k bt804.1 bt791.1).bind fun t821 => (if t821 = true then (if (bt809.2.length : Int) = (Int.tmod t808 (wrap64 ((bt795.1.length : Int) + 1))) then ((some (([] : List Int) : List Int)).bind fun y822 => (if y822.length + bt809.2.length < 17592186044416 then ((some (y822 ++ bt809.2 : List Int)).bind fun y825 => (if y825.length + bt809.1.length < 17592186044416 then ((laws_sameInts.f k (y825 ++ bt809.1) bt795.1).bind fun t831 => (if t831 = true then (laws_FnFirstCome.j0 k bt791.1 bt791.2 bt795.1 bt815.2 ((bt815.1.length : Int) != 0)) else (laws_FnFirstCome.j0 k bt791.1 bt791.2 bt795.1 bt815.2 true))) else (none))) else (none))) else (laws_FnFirstCome.j0 k bt791.1 bt791.2 bt795.1 bt815.2 true)) else (laws_FnFirstCome.j0 k bt791.1 bt791.2 bt795.1 bt815.2 true))) else (laws_FnFirstCome.j0 k bt791.1 bt791.2 bt795.1 bt815.2 true)) else (laws_FnFirstCome.j0 k bt791.1 bt791.2 bt795.1 bt815.2 true))))))) else (if bt795.2 = bt799.2 then ((laws_sameInts.f k bt795.1 bt791.1).bind fun t803 => (some t803)) else (some false))))))) = some r := H
  have A2 := Aside0.mk A20
  clear A20
  by_cases c3 : t790 = true
  · subst c3
    have H1 : (some true) = some r := by rw [if_pos rfl] at H; exact H
    clear H
    have H := H1
    clear H1
    obtain rfl := Option.some.inj H
    go_enter Try.func12, Try.ntmps12
    go_wp2_with (first | ((with_reducible refine gate_callee (f := 42) rfl ?_); refine goesL_ (some 17) rfl rfl Try.func42 (by kernel_rfl) rfl #[.slice A0 l0.length c0] rfl (by (try simp only [List.map_toArray, List.map_cons, List.map_nil]); first | done | rfl | (simp only [List.length_drop, List.length_take]; rfl) | (go_simp; done) | (simp [*]; done)) ?_; (with_reducible refine (laws_big.calls _ _ l0 true _ ?side1 ?side2 A2.out).mono ?_); (case side1 => exact pkC HR0.out); (case side2 => exact HC0.out); rintro e w' ⟨rfl, ⟨nd, rfl⟩⟩; refine ⟨_, rfl, ?_⟩))
    go_ret
    exact ⟨by first | rfl | (simp [errW_none, errW_some] <;> rfl) | (simp [*, errW_none, errW_some] <;> rfl), pkB HB.out⟩
  · replace c3 := Bool.eq_false_iff.mpr c3
    subst c3
    have H1 : ((spec_DrawJoin.f k l0).bind fun bt791 => ((impl_Join.f k bt791.1 bt791.2).bind fun bt795 => ((spec_Join.f k bt791.1 bt791.2).bind fun bt799 => (if bt799.2 = 0 then ((impl_Leave.f k bt795.1 bt791.2).bind fun bt804 => ((laws_at.f l0 0).bind fun t808 => (if (wrap64 ((bt795.1.length : Int) + 1)) = 0 then (none) else ((impl_Wake.f k bt795.1 (Int.tmod t808 (wrap64 ((bt795.1.length : Int) + 1)))).bind fun bt809 => ((impl_Wake.f k bt795.1 (bt795.1.length : Int)).bind fun bt815 => (if bt795.2 = 0 then (if bt804.2 = 0 then ((laws_sameInts.f k bt804.1 bt791.1).bind fun t821 => (if t821 = true then (if (bt809.2.length : Int) = (Int.tmod t808 (wrap64 ((bt795.1.length : Int) + 1))) then ((some (([] : List Int) : List Int)).bind fun y822 => (if y822.length + bt809.2.length < 17592186044416 then ((some (y822 ++ bt809.2 : List Int)).bind fun y825 => (if y825.length + bt809.1.length < 17592186044416 then ((laws_sameInts.f k (y825 ++ bt809.1) bt795.1).bind fun t831 => (if t831 = true then (laws_FnFirstCome.j0 k bt791.1 bt791.2 bt795.1 bt815.2 ((bt815.1.length : Int) != 0)) else (laws_FnFirstCome.j0 k bt791.1 bt791.2 bt795.1 bt815.2 true))) else (none))) else (none))) else (laws_FnFirstCome.j0 k bt791.1 bt791.2 bt795.1 bt815.2 true)) else (laws_FnFirstCome.j0 k bt791.1 bt791.2 bt795.1 bt815.2 true))) else (laws_FnFirstCome.j0 k bt791.1 bt791.2 bt795.1 bt815.2 true)) else (laws_FnFirstCome.j0 k bt791.1 bt791.2 bt795.1 bt815.2 true))))))) else (if bt795.2 = bt799.2 then ((laws_sameInts.f k bt795.1 bt791.1).bind fun t803 => (some t803)) else (some false)))))) = some r := by rw [if_neg (show ¬ (false = true) by decide)] at H; exact H
    clear H
    have H := H1
    clear H1
    replace H := Option.bind_eq_some_iff.mp H
    obtain ⟨⟨t791, t792⟩, A40, H⟩ := H
    replace H : ((impl_Join.f k t791 t792).bind fun bt795 => ((spec_Join.f k t791 t792).bind fun bt799 => (if bt799.2 = 0 then ((impl_Leave.f k bt795.1 t792).bind fun bt804 => ((laws_at.f l0 0).bind fun t808 => (if (wrap64 ((bt795.1.length : Int) + 1)) = 0 then (none) else ((impl_Wake.f k bt795.1 (Int.tmod t808 (wrap64 ((bt795.1.length : Int) + 1)))).bind fun bt809 => ((impl_Wake.f k bt795.1 (bt795.1.length : Int)).bind fun bt815 => (if bt795.2 = 0 then (if bt804.2 = 0 then ((laws_sameInts.f k bt804.1 t791).bind fun t821 => (if t821 = true then (if (bt809.2.length : Int) = (Int.tmod t808 (wrap64 ((bt795.1.length : Int) + 1))) then ((some (([] : List Int) : List Int)).bind fun y822 => (if y822.length + bt809.2.length < 17592186044416 then ((some (y822 ++ bt809.2 : List Int)).bind fun y825 => (if y825.length + bt809.1.length < 17592186044416 then ((laws_sameInts.f k (y825 ++ bt809.1) bt795.1).bind fun t831 => (if t831 = true then (laws_FnFirstCome.j0 k t791 t792 bt795.1 bt815.2 ((bt815.1.length : Int) != 0)) else (laws_FnFirstCome.j0 k t791 t792 bt795.1 bt815.2 true))) else (none))) else (none))) else (laws_FnFirstCome.j0 k t791 t792 bt795.1 bt815.2 true)) else (laws_FnFirstCome.j0 k t791 t792 bt795.1 bt815.2 true))) else (laws_FnFirstCome.j0 k t791 t792 bt795.1 bt815.2 true)) else (laws_FnFirstCome.j0 k t791 t792 bt795.1 bt815.2 true))))))) else (if bt795.2 = bt799.2 then ((laws_sameInts.f k bt795.1 t791).bind fun t803 => (some t803)) else (some false))))) = some r := H
    have A4 := Aside0.mk A40
    clear A40
    replace H := Option.bind_eq_some_iff.mp H
    obtain ⟨⟨t795, t796⟩, A50, H⟩ := H
    replace H : ((spec_Join.f k t791 t792).bind fun bt799 => (if bt799.2 = 0 then ((impl_Leave.f k t795 t792).bind fun bt804 => ((laws_at.f l0 0).bind fun t808 => (if (wrap64 ((t795.length : Int) + 1)) = 0 then (none) else ((impl_Wake.f k t795 (Int.tmod t808 (wrap64 ((t795.length : Int) + 1)))).bind fun bt809 => ((impl_Wake.f k t795 (t795.length : Int)).bind fun bt815 => (if t796 = 0 then (if bt804.2 = 0 then ((laws_sameInts.f k bt804.1 t791).bind fun t821 => (if t821 = true then (if (bt809.2.length : Int) = (Int.tmod t808 (wrap64 ((t795.length : Int) + 1))) then ((some (([] : List Int) : List Int)).bind fun y822 => (if y822.length + bt809.2.length < 17592186044416 then ((some (y822 ++ bt809.2 : List Int)).bind fun y825 => (if y825.length + bt809.1.length < 17592186044416 then ((laws_sameInts.f k (y825 ++ bt809.1) t795).bind fun t831 => (if t831 = true then (laws_FnFirstCome.j0 k t791 t792 t795 bt815.2 ((bt815.1.length : Int) != 0)) else (laws_FnFirstCome.j0 k t791 t792 t795 bt815.2 true))) else (none))) else (none))) else (laws_FnFirstCome.j0 k t791 t792 t795 bt815.2 true)) else (laws_FnFirstCome.j0 k t791 t792 t795 bt815.2 true))) else (laws_FnFirstCome.j0 k t791 t792 t795 bt815.2 true)) else (laws_FnFirstCome.j0 k t791 t792 t795 bt815.2 true))))))) else (if t796 = bt799.2 then ((laws_sameInts.f k t795 t791).bind fun t803 => (some t803)) else (some false)))) = some r := H
    have A5 := Aside0.mk A50
    clear A50
    replace H := Option.bind_eq_some_iff.mp H
    obtain ⟨⟨t799, t800⟩, A60, H⟩ := H
    replace H : (if t800 = 0 then ((impl_Leave.f k t795 t792).bind fun bt804 => ((laws_at.f l0 0).bind fun t808 => (if (wrap64 ((t795.length : Int) + 1)) = 0 then (none) else ((impl_Wake.f k t795 (Int.tmod t808 (wrap64 ((t795.length : Int) + 1)))).bind fun bt809 => ((impl_Wake.f k t795 (t795.length : Int)).bind fun bt815 => (if t796 = 0 then (if bt804.2 = 0 then ((laws_sameInts.f k bt804.1 t791).bind fun t821 => (if t821 = true then (if (bt809.2.length : Int) = (Int.tmod t808 (wrap64 ((t795.length : Int) + 1))) then ((some (([] : List Int) : List Int)).bind fun y822 => (if y822.length + bt809.2.length < 17592186044416 then ((some (y822 ++ bt809.2 : List Int)).bind fun y825 => (if y825.length + bt809.1.length < 17592186044416 then ((laws_sameInts.f k (y825 ++ bt809.1) t795).bind fun t831 => (if t831 = true then (laws_FnFirstCome.j0 k t791 t792 t795 bt815.2 ((bt815.1.length : Int) != 0)) else (laws_FnFirstCome.j0 k t791 t792 t795 bt815.2 true))) else (none))) else (none))) else (laws_FnFirstCome.j0 k t791 t792 t795 bt815.2 true)) else (laws_FnFirstCome.j0 k t791 t792 t795 bt815.2 true))) else (laws_FnFirstCome.j0 k t791 t792 t795 bt815.2 true)) else (laws_FnFirstCome.j0 k t791 t792 t795 bt815.2 true))))))) else (if t796 = t800 then ((laws_sameInts.f k t795 t791).bind fun t803 => (some t803)) else (some false))) = some r := H
    have A6 := Aside0.mk A60
    clear A60
    by_cases c7 : t800 = 0
    · rw [if_pos c7] at H
      have c7b0 : (t800 == 0) = true := beq_iff_eq.mpr c7
      have c7b1 : (t800 != 0) = false := bne_eq_false_iff_eq.mpr c7
      clear c7
      replace H := Option.bind_eq_some_iff.mp H
      obtain ⟨⟨t804, t805⟩, A80, H⟩ := H
      replace H : ((laws_at.f l0 0).bind fun t808 => (if (wrap64 ((t795.length : Int) + 1)) = 0 then (none) else ((impl_Wake.f k t795 (Int.tmod t808 (wrap64 ((t795.length : Int) + 1)))).bind fun bt809 => ((impl_Wake.f k t795 (t795.length : Int)).bind fun bt815 => (if t796 = 0 then (if t805 = 0 then ((laws_sameInts.f k t804 t791).bind fun t821 => (if t821 = true then (if (bt809.2.length : Int) = (Int.tmod t808 (wrap64 ((t795.length : Int) + 1))) then ((some (([] : List Int) : List Int)).bind fun y822 => (if y822.length + bt809.2.length < 17592186044416 then ((some (y822 ++ bt809.2 : List Int)).bind fun y825 => (if y825.length + bt809.1.length < 17592186044416 then ((laws_sameInts.f k (y825 ++ bt809.1) t795).bind fun t831 => (if t831 = true then (laws_FnFirstCome.j0 k t791 t792 t795 bt815.2 ((bt815.1.length : Int) != 0)) else (laws_FnFirstCome.j0 k t791 t792 t795 bt815.2 true))) else (none))) else (none))) else (laws_FnFirstCome.j0 k t791 t792 t795 bt815.2 true)) else (laws_FnFirstCome.j0 k t791 t792 t795 bt815.2 true))) else (laws_FnFirstCome.j0 k t791 t792 t795 bt815.2 true)) else (laws_FnFirstCome.j0 k t791 t792 t795 bt815.2 true)))))) = some r := H
      have A8 := Aside0.mk A80
      clear A80
      replace H := Option.bind_eq_some_iff.mp H
      obtain ⟨t808, A90, H⟩ := H
      replace H : (if (wrap64 ((t795.length : Int) + 1)) = 0 then (none) else ((impl_Wake.f k t795 (Int.tmod t808 (wrap64 ((t795.length : Int) + 1)))).bind fun bt809 => ((impl_Wake.f k t795 (t795.length : Int)).bind fun bt815 => (if t796 = 0 then (if t805 = 0 then ((laws_sameInts.f k t804 t791).bind fun t821 => (if t821 = true then (if (bt809.2.length : Int) = (Int.tmod t808 (wrap64 ((t795.length : Int) + 1))) then ((some (([] : List Int) : List Int)).bind fun y822 => (if y822.length + bt809.2.length < 17592186044416 then ((some (y822 ++ bt809.2 : List Int)).bind fun y825 => (if y825.length + bt809.1.length < 17592186044416 then ((laws_sameInts.f k (y825 ++ bt809.1) t795).bind fun t831 => (if t831 = true then (laws_FnFirstCome.j0 k t791 t792 t795 bt815.2 ((bt815.1.length : Int) != 0)) else (laws_FnFirstCome.j0 k t791 t792 t795 bt815.2 true))) else (none))) else (none))) else (laws_FnFirstCome.j0 k t791 t792 t795 bt815.2 true)) else (laws_FnFirstCome.j0 k t791 t792 t795 bt815.2 true))) else (laws_FnFirstCome.j0 k t791 t792 t795 bt815.2 true)) else (laws_FnFirstCome.j0 k t791 t792 t795 bt815.2 true))))) = some r := H
      have A9 := Aside0.mk A90
      clear A90
      by_cases c10 : (wrap64 ((t795.length : Int) + 1)) = 0
      · rw [if_pos c10] at H
        exact absurd H (by simp)
      · rw [if_neg c10] at H
        have c10b0 : ((wrap64 ((t795.length : Int) + 1)) == 0) = false := beq_eq_false_iff_ne.mpr c10
        have c10b1 : ((wrap64 ((t795.length : Int) + 1)) != 0) = true := bne_iff_ne.mpr c10
        replace H := Option.bind_eq_some_iff.mp H
        obtain ⟨⟨t809, t810⟩, A110, H⟩ := H
        replace H : ((impl_Wake.f k t795 (t795.length : Int)).bind fun bt815 => (if t796 = 0 then (if t805 = 0 then ((laws_sameInts.f k t804 t791).bind fun t821 => (if t821 = true then (if (t810.length : Int) = (Int.tmod t808 (wrap64 ((t795.length : Int) + 1))) then ((some (([] : List Int) : List Int)).bind fun y822 => (if y822.length + t810.length < 17592186044416 then ((some (y822 ++ t810 : List Int)).bind fun y825 => (if y825.length + t809.length < 17592186044416 then ((laws_sameInts.f k (y825 ++ t809) t795).bind fun t831 => (if t831 = true then (laws_FnFirstCome.j0 k t791 t792 t795 bt815.2 ((bt815.1.length : Int) != 0)) else (laws_FnFirstCome.j0 k t791 t792 t795 bt815.2 true))) else (none))) else (none))) else (laws_FnFirstCome.j0 k t791 t792 t795 bt815.2 true)) else (laws_FnFirstCome.j0 k t791 t792 t795 bt815.2 true))) else (laws_FnFirstCome.j0 k t791 t792 t795 bt815.2 true)) else (laws_FnFirstCome.j0 k t791 t792 t795 bt815.2 true))) = some r := H
        have A11 := Aside0.mk A110
        clear A110
        replace H := Option.bind_eq_some_iff.mp H
        obtain ⟨⟨t815, t816⟩, A120, H⟩ := H
        replace H : (if t796 = 0 then (if t805 = 0 then ((laws_sameInts.f k t804 t791).bind fun t821 => (if t821 = true then (if (t810.length : Int) = (Int.tmod t808 (wrap64 ((t795.length : Int) + 1))) then ((some (([] : List Int) : List Int)).bind fun y822 => (if y822.length + t810.length < 17592186044416 then ((some (y822 ++ t810 : List Int)).bind fun y825 => (if y825.length + t809.length < 17592186044416 then ((laws_sameInts.f k (y825 ++ t809) t795).bind fun t831 => (if t831 = true then (laws_FnFirstCome.j0 k t791 t792 t795 t816 ((t815.length : Int) != 0)) else (laws_FnFirstCome.j0 k t791 t792 t795 t816 true))) else (none))) else (none))) else (laws_FnFirstCome.j0 k t791 t792 t795 t816 true)) else (laws_FnFirstCome.j0 k t791 t792 t795 t816 true))) else (laws_FnFirstCome.j0 k t791 t792 t795 t816 true)) else (laws_FnFirstCome.j0 k t791 t792 t795 t816 true)) = some r := H
        have A12 := Aside0.mk A120
        clear A120
        have HC13 := Aside0.mk H
        clear H
        go_enter Try.func12, Try.ntmps12
        go_upto_region 12 with (first | ((with_reducible refine gate_callee (f := 42) rfl ?_); refine goesL_ (some 17) rfl rfl Try.func42 (by kernel_rfl) rfl #[.slice A0 l0.length c0] rfl (by (try simp only [List.map_toArray, List.map_cons, List.map_nil]); first | done | rfl | (simp only [List.length_drop, List.length_take]; rfl) | (go_simp; done) | (simp [*]; done)) ?_; (with_reducible refine (laws_big.calls _ _ l0 false _ ?side1 ?side2 A2.out).mono ?_); (case side1 => exact pkC HR0.out); (case side2 => exact HC0.out); rintro e w' ⟨rfl, ⟨nd, rfl⟩⟩; refine ⟨_, rfl, ?_⟩) | ((with_reducible refine gate_callee (f := 43) rfl ?_); refine goesL_ (some 20) rfl rfl Try.func43 (by kernel_rfl) rfl #[.slice A0 l0.length c0] rfl (by (try simp only [List.map_toArray, List.map_cons, List.map_nil]); first | done | rfl | (simp only [List.length_drop, List.length_take]; rfl) | (go_simp; done) | (simp [*]; done)) ?_; (with_reducible refine (spec_DrawJoin.calls k _ _ l0 t791 t792 _ ?side1 ?side2 A4.out).mono ?_); (case side1 => exact pkC HR0.out); (case side2 => exact HC0.out); rintro e w14 ⟨v793, rfl, ho0, hb⟩; refine ⟨_, rfl, ?_⟩; have n0_ := Aside0.mk (Kd.R_lower ho0 (below_size (pkB HB.out))); have n1_ := Aside0.mk (below_step (pkB HB.out) hb); clear HB; have HO794 := n0_; have HB := n1_; clear n0_ n1_; (try clear hb); (try clear hb2); (try clear hk); (try clear hi); (try clear ho0); obtain ⟨Ao15, co15, eo15⟩ := Kd.R_slice HO794.out; subst eo15) | ((with_reducible refine gate_callee (f := 33) rfl ?_); refine goesL_ (some 26) rfl rfl Try.func33 (by kernel_rfl) rfl #[.slice Ao15 t791.length co15, .int .i64 t792] rfl (by (try simp only [List.map_toArray, List.map_cons, List.map_nil]); first | done | rfl | (simp only [List.length_drop, List.length_take]; rfl) | (go_simp; done) | (simp [*]; done)) ?_; (with_reducible refine (impl_Join.calls k _ _ t791 t792 t795 t796 _ ?side1 ?side2 A5.out).mono ?_); (case side1 => exact pkC (Kd.R_reads' HO794.out).2.2); (case side2 => exact (Kd.R_reads' HO794.out).2.1); rintro e w16 ⟨v797, rfl, ho0, hb⟩; refine ⟨_, rfl, ?_⟩; have n0_ := Aside0.mk (Kd.R_elder' (pkR HO794.out) (Kd.R_base ho0) hb); have n1_ := Aside0.mk (Kd.R_lower (Kd.R_new' ho0 (Kd.R_lt (pkR HO794.out))) (below_size (pkB HB.out))); have n2_ := Aside0.mk (below_step (pkB HB.out) hb); clear HO794 HB; have HO794 := n0_; have HO798 := n1_; have HB := n2_; clear n0_ n1_ n2_; (try clear hb); (try clear hb2); (try clear hk); (try clear hi); (try clear ho0)) | ((with_reducible refine gate_callee (f := 32) rfl ?_); refine goesL_ (some 32) rfl rfl Try.func32 (by kernel_rfl) rfl #[.slice Ao15 t791.length co15, .int .i64 t792] rfl (by (try simp only [List.map_toArray, List.map_cons, List.map_nil]); first | done | rfl | (simp only [List.length_drop, List.length_take]; rfl) | (go_simp; done) | (simp [*]; done)) ?_; (with_reducible refine (spec_Join.calls k _ _ t791 t792 t799 t800 _ ?side1 ?side2 A6.out).mono ?_); (case side1 => exact pkC (Kd.R_reads' HO794.out).2.2); (case side2 => exact (Kd.R_reads' HO794.out).2.1); rintro e w17 ⟨v801, rfl, ho0, hb⟩; refine ⟨_, rfl, ?_⟩; have n0_ := Aside0.mk (Kd.R_elder' (pkR HO794.out) (Kd.R_base ho0) hb); have n1_ := Aside0.mk (Kd.R_elder' (pkR HO798.out) (Kd.R_base ho0) hb); have n2_ := Aside0.mk (Kd.R_lower (Kd.R_new' (Kd.R_new' ho0 (Kd.R_lt (pkR HO794.out))) (Kd.R_lt (pkR HO798.out))) (below_size (pkB HB.out))); have n3_ := Aside0.mk (below_step (pkB HB.out) hb); clear HO794 HO798 HB; have HO794 := n0_; have HO798 := n1_; have HO802 := n2_; have HB := n3_; clear n0_ n1_ n2_ n3_; (try clear hb); (try clear hb2); (try clear hk); (try clear hi); (try clear ho0); obtain ⟨Ao18, co18, eo18⟩ := Kd.R_slice HO798.out; subst eo18) | ((with_reducible refine gate_callee (f := 35) rfl ?_); refine goesL_ (some 48) rfl rfl Try.func35 (by kernel_rfl) rfl #[.slice Ao18 t795.length co18, .int .i64 t792] rfl (by (try simp only [List.map_toArray, List.map_cons, List.map_nil]); first | done | rfl | (simp only [List.length_drop, List.length_take]; rfl) | (go_simp; done) | (simp [*]; done)) ?_; (with_reducible refine (impl_Leave.calls k _ _ t795 t792 t804 t805 _ ?side1 ?side2 A8.out).mono ?_); (case side1 => exact pkC (Kd.R_reads' HO798.out).2.2); (case side2 => exact (Kd.R_reads' HO798.out).2.1); rintro e w19 ⟨v806, rfl, ho0, hb⟩; refine ⟨_, rfl, ?_⟩; have n0_ := Aside0.mk (Kd.R_elder' (pkR HO794.out) (Kd.R_base ho0) hb); have n1_ := Aside0.mk (Kd.R_elder' (pkR HO798.out) (Kd.R_base ho0) hb); have n2_ := Aside0.mk (Kd.R_elder' (pkR HO802.out) (Kd.R_base ho0) hb); have n3_ := Aside0.mk (Kd.R_lower (Kd.R_new' (Kd.R_new' (Kd.R_new' ho0 (Kd.R_lt (pkR HO794.out))) (Kd.R_lt (pkR HO798.out))) (Kd.R_lt (pkR HO802.out))) (below_size (pkB HB.out))); have n4_ := Aside0.mk (below_step (pkB HB.out) hb); clear HO794 HO798 HO802 HB; have HO794 := n0_; have HO798 := n1_; have HO802 := n2_; have HO807 := n3_; have HB := n4_; clear n0_ n1_ n2_ n3_ n4_; (try clear hb); (try clear hb2); (try clear hk); (try clear hi); (try clear ho0)) | ((with_reducible refine gate_callee (f := 45) rfl ?_); refine goesL_ (some 52) rfl rfl Try.func45 (by kernel_rfl) rfl #[.slice A0 l0.length c0, .int .i64 0] rfl (by (try simp only [List.map_toArray, List.map_cons, List.map_nil]); first | done | rfl | (simp only [List.length_drop, List.length_take]; rfl) | (go_simp; done) | (simp [*]; done)) ?_; (with_reducible refine (laws_at.calls _ _ l0 0 t808 _ ?side1 ?side2 A9.out).mono ?_); (case side1 => exact pkC (Kd.C_below HR0.out HB.out)); (case side2 => exact HC0.out); rintro e w' ⟨rfl, ⟨nd, rfl⟩⟩; refine ⟨_, rfl, ?_⟩) | ((with_reducible refine gate_callee (f := 27) rfl ?_); refine goesL_ (some 60) rfl rfl Try.func27 (by kernel_rfl) rfl #[.slice Ao18 t795.length co18, .int .i64 (Int.tmod t808 (wrap64 ((t795.length : Int) + 1)))] rfl (by (try simp only [List.map_toArray, List.map_cons, List.map_nil]); first | done | rfl | (simp only [List.length_drop, List.length_take]; rfl) | (go_simp; done) | (simp [*]; done)) ?_; (with_reducible refine (impl_Wake.calls k _ _ t795 (Int.tmod t808 (wrap64 ((t795.length : Int) + 1))) t809 t810 _ ?side1 ?side2 A11.out).mono ?_); (case side1 => exact pkC (Kd.R_reads' HO798.out).2.2); (case side2 => exact (Kd.R_reads' HO798.out).2.1); rintro e w20 ⟨v811, v813, rfl, ho0, ho1, hb⟩; refine ⟨_, rfl, ?_⟩; have n0_ := Aside0.mk (Kd.R_mono (Kd.R_told (Kd.R_told (Kd.R_old (pkR HO794.out) hb) (Kd.R_base ho0)) (Kd.R_base ho1)) (fun _ h_ => h_.1)); have n1_ := Aside0.mk (Kd.R_mono (Kd.R_told (Kd.R_told (Kd.R_old (pkR HO798.out) hb) (Kd.R_base ho0)) (Kd.R_base ho1)) (fun _ h_ => h_.1)); have n2_ := Aside0.mk (Kd.R_mono (Kd.R_told (Kd.R_told (Kd.R_old (pkR HO802.out) hb) (Kd.R_base ho0)) (Kd.R_base ho1)) (fun _ h_ => h_.1)); have n3_ := Aside0.mk (Kd.R_mono (Kd.R_told (Kd.R_told (Kd.R_old (pkR HO807.out) hb) (Kd.R_base ho0)) (Kd.R_base ho1)) (fun _ h_ => h_.1)); have n4_ := Aside0.mk (Kd.R_lower (Kd.R_new' (Kd.R_new' (Kd.R_new' (Kd.R_new' ho0 (Kd.R_lt (pkR HO794.out))) (Kd.R_lt (pkR HO798.out))) (Kd.R_lt (pkR HO802.out))) (Kd.R_lt (pkR HO807.out))) (below_size (pkB HB.out))); have n5_ := Aside0.mk (Kd.R_lower (Kd.R_new' (Kd.R_new' (Kd.R_new' (Kd.R_new' ho1 (Kd.R_lt (pkR HO794.out))) (Kd.R_lt (pkR HO798.out))) (Kd.R_lt (pkR HO802.out))) (Kd.R_lt (pkR HO807.out))) (below_size (pkB HB.out))); have n6_ := Aside0.mk (below_step (pkB HB.out) hb); clear HO794 HO798 HO802 HO807 HB; have HO794 := n0_; have HO798 := n1_; have HO802 := n2_; have HO807 := n3_; have HO812 := n4_; have HO814 := n5_; have HB := n6_; clear n0_ n1_ n2_ n3_ n4_ n5_ n6_; (try clear hb); (try clear hb2); (try clear hk); (try clear hi); (try clear ho0); (try clear ho1)) | ((with_reducible refine gate_callee (f := 27) rfl ?_); refine goesL_ (some 67) rfl rfl Try.func27 (by kernel_rfl) rfl #[.slice Ao18 t795.length co18, .int .i64 (t795.length : Int)] rfl (by (try simp only [List.map_toArray, List.map_cons, List.map_nil]); first | done | rfl | (simp only [List.length_drop, List.length_take]; rfl) | (go_simp; done) | (simp [*]; done)) ?_; (with_reducible refine (impl_Wake.calls k _ _ t795 (t795.length : Int) t815 t816 _ ?side1 ?side2 A12.out).mono ?_); (case side1 => exact pkC (Kd.R_reads' HO798.out).2.2); (case side2 => exact (Kd.R_reads' HO798.out).2.1); rintro e w21 ⟨v817, v819, rfl, ho0, ho1, hb⟩; refine ⟨_, rfl, ?_⟩; have n0_ := Aside0.mk (Kd.R_mono (Kd.R_told (Kd.R_told (Kd.R_old (pkR HO794.out) hb) (Kd.R_base ho0)) (Kd.R_base ho1)) (fun _ h_ => h_.1)); have n1_ := Aside0.mk (Kd.R_mono (Kd.R_told (Kd.R_told (Kd.R_old (pkR HO798.out) hb) (Kd.R_base ho0)) (Kd.R_base ho1)) (fun _ h_ => h_.1)); have n2_ := Aside0.mk (Kd.R_mono (Kd.R_told (Kd.R_told (Kd.R_old (pkR HO802.out) hb) (Kd.R_base ho0)) (Kd.R_base ho1)) (fun _ h_ => h_.1)); have n3_ := Aside0.mk (Kd.R_mono (Kd.R_told (Kd.R_told (Kd.R_old (pkR HO807.out) hb) (Kd.R_base ho0)) (Kd.R_base ho1)) (fun _ h_ => h_.1)); have n4_ := Aside0.mk (Kd.R_mono (Kd.R_told (Kd.R_told (Kd.R_old (pkR HO812.out) hb) (Kd.R_base ho0)) (Kd.R_base ho1)) (fun _ h_ => h_.1)); have n5_ := Aside0.mk (Kd.R_mono (Kd.R_told (Kd.R_told (Kd.R_old (pkR HO814.out) hb) (Kd.R_base ho0)) (Kd.R_base ho1)) (fun _ h_ => h_.1)); have n6_ := Aside0.mk (Kd.R_lower (Kd.R_new' (Kd.R_new' (Kd.R_new' (Kd.R_new' (Kd.R_new' (Kd.R_new' ho0 (Kd.R_lt (pkR HO794.out))) (Kd.R_lt (pkR HO798.out))) (Kd.R_lt (pkR HO802.out))) (Kd.R_lt (pkR HO807.out))) (Kd.R_lt (pkR HO812.out))) (Kd.R_lt (pkR HO814.out))) (below_size (pkB HB.out))); have n7_ := Aside0.mk (Kd.R_lower (Kd.R_new' (Kd.R_new' (Kd.R_new' (Kd.R_new' (Kd.R_new' (Kd.R_new' ho1 (Kd.R_lt (pkR HO794.out))) (Kd.R_lt (pkR HO798.out))) (Kd.R_lt (pkR HO802.out))) (Kd.R_lt (pkR HO807.out))) (Kd.R_lt (pkR HO812.out))) (Kd.R_lt (pkR HO814.out))) (below_size (pkB HB.out))); have n8_ := Aside0.mk (below_step (pkB HB.out) hb); clear HO794 HO798 HO802 HO807 HO812 HO814 HB; have HO794 := n0_; have HO798 := n1_; have HO802 := n2_; have HO807 := n3_; have HO812 := n4_; have HO814 := n5_; have HO818 := n6_; have HO820 := n7_; have HB := n8_; clear n0_ n1_ n2_ n3_ n4_ n5_ n6_ n7_ n8_; (try clear hb); (try clear hb2); (try clear hk); (try clear hi); (try clear ho0); (try clear ho1)))
        (try simp only [Act.put, List.setIfInBounds_toArray, List.set_cons_zero, List.set_cons_succ])
        go_cut [102] (fun v102 wc => ∃ (kq : Nat) (x102_12 : Bool), v102 = .bool x102_12 ∧ Aside0 (laws_FnFirstCome.j0 kq t791 t792 t795 t816 x102_12 = some r) ∧ Aside0 (kq ≤ k) ∧ Aside0 (Kd.R (Kd.int .i64) 3 wc w.heap.size (fun k_ => some k_ ≠ ((.slice Ao18 t795.length co18) : Value).ownBlock ∧ some k_ ≠ (v819 : Value).ownBlock) (.slice Ao15 t791.length co15) t791) ∧ Aside0 (Kd.R (Kd.int .i64) 3 wc w.heap.size (fun k_ => some k_ ≠ ((.slice Ao15 t791.length co15) : Value).ownBlock ∧ some k_ ≠ (v819 : Value).ownBlock) (.slice Ao18 t795.length co18) t795) ∧ Aside0 (Kd.R (Kd.int .i64) 3 wc w.heap.size (fun k_ => some k_ ≠ ((.slice Ao15 t791.length co15) : Value).ownBlock ∧ some k_ ≠ ((.slice Ao18 t795.length co18) : Value).ownBlock) v819 t816) ∧ Aside0 (Below w.heap.size w wc))
        case first =>
          have H := HC13.out
          clear HC13
          by_cases c22 : t796 = 0
          · rw [if_pos c22] at H
            have c22b0 : (t796 == 0) = true := beq_iff_eq.mpr c22
            have c22b1 : (t796 != 0) = false := bne_eq_false_iff_eq.mpr c22
            clear c22
            (first | rw [c22b0] | (simp only [i64_w, i32_w]; rw [c22b0]) | skip)
            by_cases c23 : t805 = 0
            · rw [if_pos c23] at H
              have c23b0 : (t805 == 0) = true := beq_iff_eq.mpr c23
              have c23b1 : (t805 != 0) = false := bne_eq_false_iff_eq.mpr c23
              clear c23
              replace H := Option.bind_eq_some_iff.mp H
              obtain ⟨t821, A240, H⟩ := H
              replace H : (if t821 = true then (if (t810.length : Int) = (Int.tmod t808 (wrap64 ((t795.length : Int) + 1))) then ((some (([] : List Int) : List Int)).bind fun y822 => (if y822.length + t810.length < 17592186044416 then ((some (y822 ++ t810 : List Int)).bind fun y825 => (if y825.length + t809.length < 17592186044416 then ((laws_sameInts.f k (y825 ++ t809) t795).bind fun t831 => (if t831 = true then (laws_FnFirstCome.j0 k t791 t792 t795 t816 ((t815.length : Int) != 0)) else (laws_FnFirstCome.j0 k t791 t792 t795 t816 true))) else (none))) else (none))) else (laws_FnFirstCome.j0 k t791 t792 t795 t816 true)) else (laws_FnFirstCome.j0 k t791 t792 t795 t816 true)) = some r := H
              have A24 := Aside0.mk A240
              clear A240
              by_cases c25 : t821 = true
              · subst c25
                have H1 : (if (t810.length : Int) = (Int.tmod t808 (wrap64 ((t795.length : Int) + 1))) then ((some (([] : List Int) : List Int)).bind fun y822 => (if y822.length + t810.length < 17592186044416 then ((some (y822 ++ t810 : List Int)).bind fun y825 => (if y825.length + t809.length < 17592186044416 then ((laws_sameInts.f k (y825 ++ t809) t795).bind fun t831 => (if t831 = true then (laws_FnFirstCome.j0 k t791 t792 t795 t816 ((t815.length : Int) != 0)) else (laws_FnFirstCome.j0 k t791 t792 t795 t816 true))) else (none))) else (none))) else (laws_FnFirstCome.j0 k t791 t792 t795 t816 true)) = some r := by rw [if_pos rfl] at H; exact H
                clear H
                have H := H1
                clear H1
                by_cases c26 : (t810.length : Int) = (Int.tmod t808 (wrap64 ((t795.length : Int) + 1)))
                · rw [if_pos c26] at H
                  have c26b0 : ((t810.length : Int) == (Int.tmod t808 (wrap64 ((t795.length : Int) + 1)))) = true := beq_iff_eq.mpr c26
                  have c26b1 : ((t810.length : Int) != (Int.tmod t808 (wrap64 ((t795.length : Int) + 1)))) = false := bne_eq_false_iff_eq.mpr c26
                  clear c26
                  obtain ⟨y822, hy822⟩ : ∃ y_ : List Int, y_ = (([] : List Int)) := ⟨_, rfl⟩
                  replace H : (if y822.length + t810.length < 17592186044416 then ((some (y822 ++ t810 : List Int)).bind fun y825 => (if y825.length + t809.length < 17592186044416 then ((laws_sameInts.f k (y825 ++ t809) t795).bind fun t831 => (if t831 = true then (laws_FnFirstCome.j0 k t791 t792 t795 t816 ((t815.length : Int) != 0)) else (laws_FnFirstCome.j0 k t791 t792 t795 t816 true))) else (none))) else (none)) = some r := by first | (rw [hy822]; with_reducible exact H) | (have H2_ := (Option.bind_some _ _).symm.trans H; rw [hy822]; with_reducible exact H2_) | (have H2_ := (Option.bind_some _ _).symm.trans H; with_reducible exact H2_) | with_reducible exact H | (rw [hy822]; exact H) | exact H
                  have Ny822 := Aside0.mk hy822
                  clear hy822
                  by_cases c27 : y822.length + t810.length < 17592186044416
                  · rw [if_pos c27] at H
                    have LMc27 := Aside0.mk c27
                    clear c27
                    obtain ⟨y825, hy825⟩ : ∃ y_ : List Int, y_ = (y822 ++ t810) := ⟨_, rfl⟩
                    replace H : (if y825.length + t809.length < 17592186044416 then ((laws_sameInts.f k (y825 ++ t809) t795).bind fun t831 => (if t831 = true then (laws_FnFirstCome.j0 k t791 t792 t795 t816 ((t815.length : Int) != 0)) else (laws_FnFirstCome.j0 k t791 t792 t795 t816 true))) else (none)) = some r := by first | (rw [hy825]; with_reducible exact H) | (have H2_ := (Option.bind_some _ _).symm.trans H; rw [hy825]; with_reducible exact H2_) | (have H2_ := (Option.bind_some _ _).symm.trans H; with_reducible exact H2_) | with_reducible exact H | (rw [hy825]; exact H) | exact H
                    have Ny825 := Aside0.mk hy825
                    clear hy825
                    by_cases c28 : y825.length + t809.length < 17592186044416
                    · rw [if_pos c28] at H
                      have LMc28 := Aside0.mk c28
                      clear c28
                      obtain ⟨y828, hy828⟩ : ∃ y_ : List Int, y_ = (y825 ++ t809) := ⟨_, rfl⟩
                      replace H : ((laws_sameInts.f k y828 t795).bind fun t831 => (if t831 = true then (laws_FnFirstCome.j0 k t791 t792 t795 t816 ((t815.length : Int) != 0)) else (laws_FnFirstCome.j0 k t791 t792 t795 t816 true))) = some r := by first | (rw [hy828]; with_reducible exact H) | (have H2_ := (Option.bind_some _ _).symm.trans H; rw [hy828]; with_reducible exact H2_) | (have H2_ := (Option.bind_some _ _).symm.trans H; with_reducible exact H2_) | with_reducible exact H | (rw [hy828]; exact H) | exact H
                      have Ny828 := Aside0.mk hy828
                      clear hy828
                      replace H := Option.bind_eq_some_iff.mp H
                      obtain ⟨t831, A290, H⟩ := H
                      replace H : (if t831 = true then (laws_FnFirstCome.j0 k t791 t792 t795 t816 ((t815.length : Int) != 0)) else (laws_FnFirstCome.j0 k t791 t792 t795 t816 true)) = some r := H
                      have A29 := Aside0.mk A290
                      clear A290
                      by_cases c30 : t831 = true
                      · subst c30
                        have H1 : (laws_FnFirstCome.j0 k t791 t792 t795 t816 ((t815.length : Int) != 0)) = some r := by rw [if_pos rfl] at H; exact H
                        clear H
                        have H := H1
                        clear H1
                        have H' := Aside0.mk H
                        clear H
                        obtain ⟨Ao31, co31, eo31⟩ := Kd.R_slice HO807.out
                        subst eo31
                        go_wp2_with (first | (go_at_call 44; (with_reducible refine (laws_sameInts.calls k _ _ t804 _ _ t791 true _ ?side1 ?side2 ?side3 ?side4 A24.out).mono ?_); (case side1 => exact pkC (Kd.R_reads' HO807.out).2.2); (case side2 => exact (Kd.R_reads' HO807.out).2.1); (case side3 => exact pkC (Kd.R_reads' HO794.out).2.2); (case side4 => exact (Kd.R_reads' HO794.out).2.1); rintro e w' ⟨rfl, ⟨nd, rfl⟩⟩; obtain ⟨Ao32, co32, eo32⟩ := Kd.R_slice HO814.out; subst eo32) | ((with_reducible refine gate_dst (N := 89) rfl ?_); (try (refine gate_guard (by rfl) ?_; dsimp only)); refine Kd.R_lit (Kd.int .i64) _ 3 ?hg (N := 89) ?hd (xs := ([] : List Int)) (inner := []) (ok := fun _ => True) (okp := fun _ => True) ?hr ?hp (fun _ hk => hk) trivial (Below.refl _ _) (Nat.le_refl _) (by simp) ?_; (case hd => rfl); (case hg => rfl); (case hr => first | (go_simp; done) | (go_simp; rfl)); (case hp => exact (Reps.none _ _)); intro v823 w33 ho34 hb hg_ hnew_; clear hg_ hnew_; (first | rw [← Ny822.out] at ho34 | (simp only [Int.reduceToNat] at ho34; rw [← Ny822.out] at ho34)); have n0_ := Aside0.mk (Kd.R_elder' (pkR HO794.out) (Kd.R_base ho34) hb); have n1_ := Aside0.mk (Kd.R_elder' (pkR HO798.out) (Kd.R_base ho34) hb); have n2_ := Aside0.mk (Kd.R_elder' (pkR HO802.out) (Kd.R_base ho34) hb); have n3_ := Aside0.mk (Kd.R_elder' (pkR HO807.out) (Kd.R_base ho34) hb); have n4_ := Aside0.mk (Kd.R_elder' (pkR HO812.out) (Kd.R_base ho34) hb); have n5_ := Aside0.mk (Kd.R_elder' (pkR HO814.out) (Kd.R_base ho34) hb); have n6_ := Aside0.mk (Kd.R_elder' (pkR HO818.out) (Kd.R_base ho34) hb); have n7_ := Aside0.mk (Kd.R_elder' (pkR HO820.out) (Kd.R_base ho34) hb); have n8_ := Aside0.mk (Kd.R_lower (Kd.R_new' (Kd.R_new' (Kd.R_new' (Kd.R_new' (Kd.R_new' (Kd.R_new' (Kd.R_new' (Kd.R_new' ho34 (Kd.R_lt (pkR HO794.out))) (Kd.R_lt (pkR HO798.out))) (Kd.R_lt (pkR HO802.out))) (Kd.R_lt (pkR HO807.out))) (Kd.R_lt (pkR HO812.out))) (Kd.R_lt (pkR HO814.out))) (Kd.R_lt (pkR HO818.out))) (Kd.R_lt (pkR HO820.out))) (below_size (pkB HB.out))); have n9_ := Aside0.mk (below_step (pkB HB.out) hb); clear HO794 HO798 HO802 HO807 HO812 HO814 HO818 HO820 HB; have HO794 := n0_; have HO798 := n1_; have HO802 := n2_; have HO807 := n3_; have HO812 := n4_; have HO814 := n5_; have HO818 := n6_; have HO820 := n7_; have HO824 := n8_; have HB := n9_; clear n0_ n1_ n2_ n3_ n4_ n5_ n6_ n7_ n8_ n9_; clear hb ho34) | ((with_reducible refine gate_builtin (b := .append) (xs := #[.tmp 89, .tmp 90]) rfl ?_); (try (refine gate_guard (by rfl) ?_; dsimp only)); at_builtin; refine Kd.R_append_rows (Kd.int .i64) (w0 := w) w.heap.size rfl (.tmp 89) (.tmp 90) 22 3 (.int .i64 0) 8 rfl Try.underlying22 info3 rfl (by decide) (by omega) v823 y822 t810 _ _ _ (fun k_ => some k_ ≠ (.slice Ao15 t791.length co15 : Value).ownBlock ∧ some k_ ≠ (.slice Ao18 t795.length co18 : Value).ownBlock ∧ some k_ ≠ (v801 : Value).ownBlock ∧ some k_ ≠ (.slice Ao31 t804.length co31 : Value).ownBlock ∧ some k_ ≠ (v811 : Value).ownBlock ∧ some k_ ≠ (.slice Ao32 t810.length co32 : Value).ownBlock ∧ some k_ ≠ (v817 : Value).ownBlock ∧ some k_ ≠ (v819 : Value).ownBlock) (fun _ => False) rfl rfl ?aO ?aR (fun _ _ h => h) (fun _ h => h.elim) ?aF ?aB ?aS ?aL ?_; (case aR => repeat (first | exact (Kd.R_reads' HO814.out).2.2 | (with_reducible refine Kd.C_alloc ?_ _) | (with_reducible refine Kd.C_drewN ?_ _) | (with_reducible refine Kd.C_drew ?_))); (case aB => exact (pkB HB.out)); (case aF => exact (fun k_ hk => ⟨Kd.fresh' (Kd.R_lt (pkR HO794.out)) k_ hk, Kd.fresh' (Kd.R_lt (pkR HO798.out)) k_ hk, Kd.fresh' (Kd.R_lt (pkR HO802.out)) k_ hk, Kd.fresh' (Kd.R_lt (pkR HO807.out)) k_ hk, Kd.fresh' (Kd.R_lt (pkR HO812.out)) k_ hk, Kd.fresh' (Kd.R_lt (pkR HO814.out)) k_ hk, Kd.fresh' (Kd.R_lt (pkR HO818.out)) k_ hk, Kd.fresh' (Kd.R_lt (pkR HO820.out)) k_ hk⟩)); (case aO => exact (by (with_reducible repeat (first | apply Kd.R_alloc | apply Kd.R_drewN | apply Kd.R_drew)); exact Kd.R_mono HO824.out (fun _ hk => ⟨hk.1.1.1.1.1.1.1.2, ⟨hk.1.1.1.1.1.1.2, ⟨hk.1.1.1.1.1.2, ⟨hk.1.1.1.1.2, ⟨hk.1.1.1.2, ⟨hk.1.1.2, ⟨hk.1.2, hk.2⟩⟩⟩⟩⟩⟩⟩))); (case aS => exact (below_size (pkB HB.out))); (case aL => have := LMc27.out; omega); intro v826 w35 ho hb hg hat; rw [← Ny825.out] at ho; have n0_ := Aside0.mk (Kd.R_after (ok := (fun k_ => some k_ ≠ (.slice Ao18 t795.length co18 : Value).ownBlock ∧ some k_ ≠ (v801 : Value).ownBlock ∧ some k_ ≠ (.slice Ao31 t804.length co31 : Value).ownBlock ∧ some k_ ≠ (v811 : Value).ownBlock ∧ some k_ ≠ (.slice Ao32 t810.length co32 : Value).ownBlock ∧ some k_ ≠ (v817 : Value).ownBlock ∧ some k_ ≠ (v819 : Value).ownBlock)) (by (with_reducible repeat (first | apply Kd.R_alloc | apply Kd.R_drewN | apply Kd.R_drew)); exact Kd.R_mono HO794.out (fun _ hk => ⟨⟨hk.1.1.1.1.1.1.1.2, ⟨hk.1.1.1.1.1.1.2, ⟨hk.1.1.1.1.1.2, ⟨hk.1.1.1.1.2, ⟨hk.1.1.1.2, ⟨hk.1.1.2, hk.1.2⟩⟩⟩⟩⟩⟩, hk.2⟩)) hg hat); have n1_ := Aside0.mk (Kd.R_after (ok := (fun k_ => some k_ ≠ (.slice Ao15 t791.length co15 : Value).ownBlock ∧ some k_ ≠ (v801 : Value).ownBlock ∧ some k_ ≠ (.slice Ao31 t804.length co31 : Value).ownBlock ∧ some k_ ≠ (v811 : Value).ownBlock ∧ some k_ ≠ (.slice Ao32 t810.length co32 : Value).ownBlock ∧ some k_ ≠ (v817 : Value).ownBlock ∧ some k_ ≠ (v819 : Value).ownBlock)) (by (with_reducible repeat (first | apply Kd.R_alloc | apply Kd.R_drewN | apply Kd.R_drew)); exact Kd.R_mono HO798.out (fun _ hk => ⟨⟨hk.1.1.1.1.1.1.1.2, ⟨hk.1.1.1.1.1.1.2, ⟨hk.1.1.1.1.1.2, ⟨hk.1.1.1.1.2, ⟨hk.1.1.1.2, ⟨hk.1.1.2, hk.1.2⟩⟩⟩⟩⟩⟩, hk.2⟩)) hg hat); have n2_ := Aside0.mk (Kd.R_after (ok := (fun k_ => some k_ ≠ (.slice Ao15 t791.length co15 : Value).ownBlock ∧ some k_ ≠ (.slice Ao18 t795.length co18 : Value).ownBlock ∧ some k_ ≠ (.slice Ao31 t804.length co31 : Value).ownBlock ∧ some k_ ≠ (v811 : Value).ownBlock ∧ some k_ ≠ (.slice Ao32 t810.length co32 : Value).ownBlock ∧ some k_ ≠ (v817 : Value).ownBlock ∧ some k_ ≠ (v819 : Value).ownBlock)) (by (with_reducible repeat (first | apply Kd.R_alloc | apply Kd.R_drewN | apply Kd.R_drew)); exact Kd.R_mono HO802.out (fun _ hk => ⟨⟨hk.1.1.1.1.1.1.1.2, ⟨hk.1.1.1.1.1.1.2, ⟨hk.1.1.1.1.1.2, ⟨hk.1.1.1.1.2, ⟨hk.1.1.1.2, ⟨hk.1.1.2, hk.1.2⟩⟩⟩⟩⟩⟩, hk.2⟩)) hg hat); have n3_ := Aside0.mk (Kd.R_after (ok := (fun k_ => some k_ ≠ (.slice Ao15 t791.length co15 : Value).ownBlock ∧ some k_ ≠ (.slice Ao18 t795.length co18 : Value).ownBlock ∧ some k_ ≠ (v801 : Value).ownBlock ∧ some k_ ≠ (v811 : Value).ownBlock ∧ some k_ ≠ (.slice Ao32 t810.length co32 : Value).ownBlock ∧ some k_ ≠ (v817 : Value).ownBlock ∧ some k_ ≠ (v819 : Value).ownBlock)) (by (with_reducible repeat (first | apply Kd.R_alloc | apply Kd.R_drewN | apply Kd.R_drew)); exact Kd.R_mono HO807.out (fun _ hk => ⟨⟨hk.1.1.1.1.1.1.1.2, ⟨hk.1.1.1.1.1.1.2, ⟨hk.1.1.1.1.1.2, ⟨hk.1.1.1.1.2, ⟨hk.1.1.1.2, ⟨hk.1.1.2, hk.1.2⟩⟩⟩⟩⟩⟩, hk.2⟩)) hg hat); have n4_ := Aside0.mk (Kd.R_after (ok := (fun k_ => some k_ ≠ (.slice Ao15 t791.length co15 : Value).ownBlock ∧ some k_ ≠ (.slice Ao18 t795.length co18 : Value).ownBlock ∧ some k_ ≠ (v801 : Value).ownBlock ∧ some k_ ≠ (.slice Ao31 t804.length co31 : Value).ownBlock ∧ some k_ ≠ (.slice Ao32 t810.length co32 : Value).ownBlock ∧ some k_ ≠ (v817 : Value).ownBlock ∧ some k_ ≠ (v819 : Value).ownBlock)) (by (with_reducible repeat (first | apply Kd.R_alloc | apply Kd.R_drewN | apply Kd.R_drew)); exact Kd.R_mono HO812.out (fun _ hk => ⟨⟨hk.1.1.1.1.1.1.2, ⟨hk.1.1.1.1.1.2, ⟨hk.1.1.1.1.2, ⟨hk.1.1.1.2, ⟨hk.1.1.1.1.1.1.1, ⟨hk.1.1.2, hk.1.2⟩⟩⟩⟩⟩⟩, hk.2⟩)) hg hat); have n5_ := Aside0.mk (Kd.R_after (ok := (fun k_ => some k_ ≠ (.slice Ao15 t791.length co15 : Value).ownBlock ∧ some k_ ≠ (.slice Ao18 t795.length co18 : Value).ownBlock ∧ some k_ ≠ (v801 : Value).ownBlock ∧ some k_ ≠ (.slice Ao31 t804.length co31 : Value).ownBlock ∧ some k_ ≠ (v811 : Value).ownBlock ∧ some k_ ≠ (v817 : Value).ownBlock ∧ some k_ ≠ (v819 : Value).ownBlock)) (by (with_reducible repeat (first | apply Kd.R_alloc | apply Kd.R_drewN | apply Kd.R_drew)); exact Kd.R_mono HO814.out (fun _ hk => ⟨⟨hk.1.1.1.1.1.1.2, ⟨hk.1.1.1.1.1.2, ⟨hk.1.1.1.1.2, ⟨hk.1.1.1.2, ⟨hk.1.1.1.1.1.1.1, ⟨hk.1.1.2, hk.1.2⟩⟩⟩⟩⟩⟩, hk.2⟩)) hg hat); have n6_ := Aside0.mk (Kd.R_after (ok := (fun k_ => some k_ ≠ (.slice Ao15 t791.length co15 : Value).ownBlock ∧ some k_ ≠ (.slice Ao18 t795.length co18 : Value).ownBlock ∧ some k_ ≠ (v801 : Value).ownBlock ∧ some k_ ≠ (.slice Ao31 t804.length co31 : Value).ownBlock ∧ some k_ ≠ (v811 : Value).ownBlock ∧ some k_ ≠ (.slice Ao32 t810.length co32 : Value).ownBlock ∧ some k_ ≠ (v819 : Value).ownBlock)) (by (with_reducible repeat (first | apply Kd.R_alloc | apply Kd.R_drewN | apply Kd.R_drew)); exact Kd.R_mono HO818.out (fun _ hk => ⟨⟨hk.1.1.1.1.1.1.2, ⟨hk.1.1.1.1.1.2, ⟨hk.1.1.1.1.2, ⟨hk.1.1.1.2, ⟨hk.1.1.2, ⟨hk.1.2, hk.1.1.1.1.1.1.1⟩⟩⟩⟩⟩⟩, hk.2⟩)) hg hat); have n7_ := Aside0.mk (Kd.R_after (ok := (fun k_ => some k_ ≠ (.slice Ao15 t791.length co15 : Value).ownBlock ∧ some k_ ≠ (.slice Ao18 t795.length co18 : Value).ownBlock ∧ some k_ ≠ (v801 : Value).ownBlock ∧ some k_ ≠ (.slice Ao31 t804.length co31 : Value).ownBlock ∧ some k_ ≠ (v811 : Value).ownBlock ∧ some k_ ≠ (.slice Ao32 t810.length co32 : Value).ownBlock ∧ some k_ ≠ (v817 : Value).ownBlock)) (by (with_reducible repeat (first | apply Kd.R_alloc | apply Kd.R_drewN | apply Kd.R_drew)); exact Kd.R_mono HO820.out (fun _ hk => ⟨⟨hk.1.1.1.1.1.1.2, ⟨hk.1.1.1.1.1.2, ⟨hk.1.1.1.1.2, ⟨hk.1.1.1.2, ⟨hk.1.1.2, ⟨hk.1.2, hk.1.1.1.1.1.1.1⟩⟩⟩⟩⟩⟩, hk.2⟩)) hg hat); have n8_ := Aside0.mk (hb); have n9_ := Aside0.mk (ho); clear HO794 HO798 HO802 HO807 HO812 HO814 HO818 HO820 HB HO824; have HO794 := n0_; have HO798 := n1_; have HO802 := n2_; have HO807 := n3_; have HO812 := n4_; have HO814 := n5_; have HO818 := n6_; have HO820 := n7_; have HB := n8_; have HO827 := n9_; clear n0_ n1_ n2_ n3_ n4_ n5_ n6_ n7_ n8_ n9_; clear ho hb hg hat; obtain ⟨Ao37, co37, eo37⟩ := Kd.R_slice HO812.out; subst eo37) | ((with_reducible refine gate_builtin (b := .append) (xs := #[.tmp 91, .tmp 92]) rfl ?_); (try (refine gate_guard (by rfl) ?_; dsimp only)); at_builtin; refine Kd.R_append_rows (Kd.int .i64) (w0 := w) w.heap.size rfl (.tmp 91) (.tmp 92) 22 3 (.int .i64 0) 8 rfl Try.underlying22 info3 rfl (by decide) (by omega) v826 y825 t809 _ _ _ (fun k_ => some k_ ≠ (.slice Ao15 t791.length co15 : Value).ownBlock ∧ some k_ ≠ (.slice Ao18 t795.length co18 : Value).ownBlock ∧ some k_ ≠ (v801 : Value).ownBlock ∧ some k_ ≠ (.slice Ao31 t804.length co31 : Value).ownBlock ∧ some k_ ≠ (.slice Ao37 t809.length co37 : Value).ownBlock ∧ some k_ ≠ (.slice Ao32 t810.length co32 : Value).ownBlock ∧ some k_ ≠ (v817 : Value).ownBlock ∧ some k_ ≠ (v819 : Value).ownBlock) (fun _ => False) rfl rfl ?aO ?aR (fun _ _ h => h) (fun _ h => h.elim) ?aF ?aB ?aS ?aL ?_; (case aR => repeat (first | exact (Kd.R_reads' HO812.out).2.2 | (with_reducible refine Kd.C_alloc ?_ _) | (with_reducible refine Kd.C_drewN ?_ _) | (with_reducible refine Kd.C_drew ?_))); (case aB => exact (pkB HB.out)); (case aF => exact (fun k_ hk => ⟨Kd.fresh' (Kd.R_lt (pkR HO794.out)) k_ hk, Kd.fresh' (Kd.R_lt (pkR HO798.out)) k_ hk, Kd.fresh' (Kd.R_lt (pkR HO802.out)) k_ hk, Kd.fresh' (Kd.R_lt (pkR HO807.out)) k_ hk, Kd.fresh' (Kd.R_lt (pkR HO812.out)) k_ hk, Kd.fresh' (Kd.R_lt (pkR HO814.out)) k_ hk, Kd.fresh' (Kd.R_lt (pkR HO818.out)) k_ hk, Kd.fresh' (Kd.R_lt (pkR HO820.out)) k_ hk⟩)); (case aO => exact (pkR HO827.out)); (case aS => exact (below_size (pkB HB.out))); (case aL => have := LMc28.out; omega); intro v829 w36 ho hb hg hat; rw [← Ny828.out] at ho; have n0_ := Aside0.mk (Kd.R_after (ok := (fun k_ => some k_ ≠ (.slice Ao18 t795.length co18 : Value).ownBlock ∧ some k_ ≠ (v801 : Value).ownBlock ∧ some k_ ≠ (.slice Ao31 t804.length co31 : Value).ownBlock ∧ some k_ ≠ (.slice Ao37 t809.length co37 : Value).ownBlock ∧ some k_ ≠ (.slice Ao32 t810.length co32 : Value).ownBlock ∧ some k_ ≠ (v817 : Value).ownBlock ∧ some k_ ≠ (v819 : Value).ownBlock)) (pkR HO794.out) hg hat); have n1_ := Aside0.mk (Kd.R_after (ok := (fun k_ => some k_ ≠ (.slice Ao15 t791.length co15 : Value).ownBlock ∧ some k_ ≠ (v801 : Value).ownBlock ∧ some k_ ≠ (.slice Ao31 t804.length co31 : Value).ownBlock ∧ some k_ ≠ (.slice Ao37 t809.length co37 : Value).ownBlock ∧ some k_ ≠ (.slice Ao32 t810.length co32 : Value).ownBlock ∧ some k_ ≠ (v817 : Value).ownBlock ∧ some k_ ≠ (v819 : Value).ownBlock)) (pkR HO798.out) hg hat); have n2_ := Aside0.mk (Kd.R_after (ok := (fun k_ => some k_ ≠ (.slice Ao15 t791.length co15 : Value).ownBlock ∧ some k_ ≠ (.slice Ao18 t795.length co18 : Value).ownBlock ∧ some k_ ≠ (.slice Ao31 t804.length co31 : Value).ownBlock ∧ some k_ ≠ (.slice Ao37 t809.length co37 : Value).ownBlock ∧ some k_ ≠ (.slice Ao32 t810.length co32 : Value).ownBlock ∧ some k_ ≠ (v817 : Value).ownBlock ∧ some k_ ≠ (v819 : Value).ownBlock)) (pkR HO802.out) hg hat); have n3_ := Aside0.mk (Kd.R_after (ok := (fun k_ => some k_ ≠ (.slice Ao15 t791.length co15 : Value).ownBlock ∧ some k_ ≠ (.slice Ao18 t795.length co18 : Value).ownBlock ∧ some k_ ≠ (v801 : Value).ownBlock ∧ some k_ ≠ (.slice Ao37 t809.length co37 : Value).ownBlock ∧ some k_ ≠ (.slice Ao32 t810.length co32 : Value).ownBlock ∧ some k_ ≠ (v817 : Value).ownBlock ∧ some k_ ≠ (v819 : Value).ownBlock)) (pkR HO807.out) hg hat); have n4_ := Aside0.mk (Kd.R_after (ok := (fun k_ => some k_ ≠ (.slice Ao15 t791.length co15 : Value).ownBlock ∧ some k_ ≠ (.slice Ao18 t795.length co18 : Value).ownBlock ∧ some k_ ≠ (v801 : Value).ownBlock ∧ some k_ ≠ (.slice Ao31 t804.length co31 : Value).ownBlock ∧ some k_ ≠ (.slice Ao32 t810.length co32 : Value).ownBlock ∧ some k_ ≠ (v817 : Value).ownBlock ∧ some k_ ≠ (v819 : Value).ownBlock)) (pkR HO812.out) hg hat); have n5_ := Aside0.mk (Kd.R_after (ok := (fun k_ => some k_ ≠ (.slice Ao15 t791.length co15 : Value).ownBlock ∧ some k_ ≠ (.slice Ao18 t795.length co18 : Value).ownBlock ∧ some k_ ≠ (v801 : Value).ownBlock ∧ some k_ ≠ (.slice Ao31 t804.length co31 : Value).ownBlock ∧ some k_ ≠ (.slice Ao37 t809.length co37 : Value).ownBlock ∧ some k_ ≠ (v817 : Value).ownBlock ∧ some k_ ≠ (v819 : Value).ownBlock)) (pkR HO814.out) hg hat); have n6_ := Aside0.mk (Kd.R_after (ok := (fun k_ => some k_ ≠ (.slice Ao15 t791.length co15 : Value).ownBlock ∧ some k_ ≠ (.slice Ao18 t795.length co18 : Value).ownBlock ∧ some k_ ≠ (v801 : Value).ownBlock ∧ some k_ ≠ (.slice Ao31 t804.length co31 : Value).ownBlock ∧ some k_ ≠ (.slice Ao37 t809.length co37 : Value).ownBlock ∧ some k_ ≠ (.slice Ao32 t810.length co32 : Value).ownBlock ∧ some k_ ≠ (v819 : Value).ownBlock)) (pkR HO818.out) hg hat); have n7_ := Aside0.mk (Kd.R_after (ok := (fun k_ => some k_ ≠ (.slice Ao15 t791.length co15 : Value).ownBlock ∧ some k_ ≠ (.slice Ao18 t795.length co18 : Value).ownBlock ∧ some k_ ≠ (v801 : Value).ownBlock ∧ some k_ ≠ (.slice Ao31 t804.length co31 : Value).ownBlock ∧ some k_ ≠ (.slice Ao37 t809.length co37 : Value).ownBlock ∧ some k_ ≠ (.slice Ao32 t810.length co32 : Value).ownBlock ∧ some k_ ≠ (v817 : Value).ownBlock)) (pkR HO820.out) hg hat); have n8_ := Aside0.mk (hb); have n9_ := Aside0.mk (ho); clear HO794 HO798 HO802 HO807 HO812 HO814 HO818 HO820 HB HO827; have HO794 := n0_; have HO798 := n1_; have HO802 := n2_; have HO807 := n3_; have HO812 := n4_; have HO814 := n5_; have HO818 := n6_; have HO820 := n7_; have HB := n8_; have HO830 := n9_; clear n0_ n1_ n2_ n3_ n4_ n5_ n6_ n7_ n8_ n9_; clear ho hb hg hat; obtain ⟨Ao38, co38, eo38⟩ := Kd.R_slice HO830.out; subst eo38) | (go_at_call 44; (with_reducible refine (laws_sameInts.calls k _ _ y828 _ _ t795 true _ ?side1 ?side2 ?side3 ?side4 A29.out).mono ?_); (case side1 => exact pkC (Kd.R_reads' HO830.out).2.2); (case side2 => exact (Kd.R_reads' HO830.out).2.1); (case side3 => exact pkC (Kd.R_reads' HO798.out).2.2); (case side4 => exact (Kd.R_reads' HO798.out).2.1); rintro e w' ⟨rfl, ⟨nd, rfl⟩⟩; obtain ⟨Ao39, co39, eo39⟩ := Kd.R_slice HO818.out; subst eo39))
                        go_meet
                        case rel => exact ⟨_, (((t815.length : Int) != 0)), (by first | rfl | (simp; done) | (simp [*]; done)), H', ⟨by first | omega | exact Nat.le_refl _⟩, ⟨by (with_reducible repeat (first | apply Kd.R_alloc | apply Kd.R_drewN | apply Kd.R_drew)); exact Kd.R_mono HO794.out (fun _ hk => ⟨hk.1.1, hk.1.2.2.2.2.2.2⟩)⟩, ⟨by (with_reducible repeat (first | apply Kd.R_alloc | apply Kd.R_drewN | apply Kd.R_drew)); exact Kd.R_mono HO798.out (fun _ hk => ⟨hk.1.1, hk.1.2.2.2.2.2.2⟩)⟩, ⟨by (with_reducible repeat (first | apply Kd.R_alloc | apply Kd.R_drewN | apply Kd.R_drew)); exact Kd.R_mono HO820.out (fun _ hk => ⟨hk.1.1, hk.1.2.1⟩)⟩, ⟨pkB HB.out⟩⟩
                      · replace c30 := Bool.eq_false_iff.mpr c30
                        subst c30
                        have H1 : (laws_FnFirstCome.j0 k t791 t792 t795 t816 true) = some r := by rw [if_neg (show ¬ (false = true) by decide)] at H; exact H
                        clear H
                        have H := H1
                        clear H1
                        cases k with
                        | zero => exact absurd H (by simp [laws_FnFirstCome.j0])
                        | succ k_ => (simp only [laws_FnFirstCome.j0, if_pos] at H; exact absurd (Option.some.inj H) (by rw [HQ_.out]; simp))
                    · rw [if_neg c28] at H
                      exact absurd H (by simp)
                  · rw [if_neg c27] at H
                    exact absurd H (by simp)
                · rw [if_neg c26] at H
                  have c26b0 : ((t810.length : Int) == (Int.tmod t808 (wrap64 ((t795.length : Int) + 1)))) = false := beq_eq_false_iff_ne.mpr c26
                  have c26b1 : ((t810.length : Int) != (Int.tmod t808 (wrap64 ((t795.length : Int) + 1)))) = true := bne_iff_ne.mpr c26
                  cases k with
                  | zero => exact absurd H (by simp [laws_FnFirstCome.j0])
                  | succ k_ => (simp only [laws_FnFirstCome.j0, if_pos] at H; exact absurd (Option.some.inj H) (by rw [HQ_.out]; simp))
              · replace c25 := Bool.eq_false_iff.mpr c25
                subst c25
                have H1 : (laws_FnFirstCome.j0 k t791 t792 t795 t816 true) = some r := by rw [if_neg (show ¬ (false = true) by decide)] at H; exact H
                clear H
                have H := H1
                clear H1
                cases k with
                | zero => exact absurd H (by simp [laws_FnFirstCome.j0])
                | succ k_ => (simp only [laws_FnFirstCome.j0, if_pos] at H; exact absurd (Option.some.inj H) (by rw [HQ_.out]; simp))
            · rw [if_neg c23] at H
              have c23b0 : (t805 == 0) = false := beq_eq_false_iff_ne.mpr c23
              have c23b1 : (t805 != 0) = true := bne_iff_ne.mpr c23
              cases k with
              | zero => exact absurd H (by simp [laws_FnFirstCome.j0])
              | succ k_ => (simp only [laws_FnFirstCome.j0, if_pos] at H; exact absurd (Option.some.inj H) (by rw [HQ_.out]; simp))
          · rw [if_neg c22] at H
            have c22b0 : (t796 == 0) = false := beq_eq_false_iff_ne.mpr c22
            have c22b1 : (t796 != 0) = true := bne_iff_ne.mpr c22
            (first | rw [c22b0] | (simp only [i64_w, i32_w]; rw [c22b0]) | skip)
            cases k with
            | zero => exact absurd H (by simp [laws_FnFirstCome.j0])
            | succ k_ => (simp only [laws_FnFirstCome.j0, if_pos] at H; exact absurd (Option.some.inj H) (by rw [HQ_.out]; simp))
        case rest =>
          clear HC13
          try clear c1
          try clear c2
          try clear p2
          try clear c3
          try clear c4
          try clear p6
          try clear c7
          try clear c7b0
          try clear c7b1
          try clear c10
          try clear c10b0
          try clear c10b1
          try clear c12
          try clear c22
          try clear c22b0
          try clear c22b1
          try clear c23
          try clear c23b0
          try clear c23b1
          try clear c25
          try clear c26
          try clear c26b0
          try clear c26b1
          try clear c27
          try clear c28
          try clear c30
          try clear c32
          try clear c33
          try clear c35
          obtain ⟨kq, x102_12, rfl, HA, HJ12, HO_3, HO_5, HO_15, HB⟩ := hcut
          cases kq with
          | zero => exact absurd HA.out (by simp [laws_FnFirstCome.j0])
          | succ kj12 =>
            have H := HA.out
            clear HA
            simp only [laws_FnFirstCome.j0] at H
            by_cases c40 : x102_12 = true
            · subst c40
              have H1 : (some false) = some r := by rw [if_pos rfl] at H; exact H
              clear H
              have H := H1
              clear H1
              exact absurd (Option.some.inj H) (by rw [HQ_.out]; simp)
            · replace c40 := Bool.eq_false_iff.mpr c40
              subst c40
              have H1 : (if 0 ≤ (wrap64 ((t816.length : Int) - 1)) then (if (wrap64 ((t816.length : Int) - 1)) < (t816.length : Int) then (if (rd t816 (wrap64 ((t816.length : Int) - 1))) = t792 then ((impl_PlaceOf.f kj12 t795 t792).bind fun t833 => (if t833 = (t791.length : Int) then ((spec_LineOk.f kj12 t795).bind fun t834 => (some t834)) else (some false))) else (some false)) else (none)) else (none)) = some r := by rw [if_neg (show ¬ (false = true) by decide)] at H; exact H
              clear H
              have H := H1
              clear H1
              obtain ⟨ji41, hji41⟩ : ∃ j_ : Int, (wrap64 ((t816.length : Int) - 1)) = j_ := ⟨_, rfl⟩
              replace H : (if 0 ≤ (ji41) then (if (ji41) < (t816.length : Int) then (if (rd t816 (ji41)) = t792 then ((impl_PlaceOf.f kj12 t795 t792).bind fun t833 => (if t833 = (t791.length : Int) then ((spec_LineOk.f kj12 t795).bind fun t834 => (some t834)) else (some false))) else (some false)) else (none)) else (none)) = some r := by first | (rw [hji41] at H; exact H) | (simp only [hji41] at H ⊢; exact H)
              have hji41w : (IntKind.i64.wrap ((t816.length : Int) - 1)) = ji41 := (i64_w _).trans hji41
              by_cases c42 : 0 ≤ (ji41)
              · rw [if_pos c42] at H
                have c42b0 : decide (0 ≤ (ji41)) = true := decide_eq_true c42
                clear c42
                by_cases c43 : (ji41) < (t816.length : Int)
                · rw [if_pos c43] at H
                  have c43b0 : decide ((ji41) < (t816.length : Int)) = true := decide_eq_true c43
                  clear c43
                  by_cases c44 : (rd t816 (ji41)) = t792
                  · rw [if_pos c44] at H
                    have c44b0 : ((rd t816 (ji41)) == t792) = true := beq_iff_eq.mpr c44
                    have c44b1 : ((rd t816 (ji41)) != t792) = false := bne_eq_false_iff_eq.mpr c44
                    clear c44
                    replace H := Option.bind_eq_some_iff.mp H
                    obtain ⟨t833, A450, H⟩ := H
                    replace H : (if t833 = (t791.length : Int) then ((spec_LineOk.f kj12 t795).bind fun t834 => (some t834)) else (some false)) = some r := H
                    have A45 := Aside0.mk A450
                    clear A450
                    by_cases c46 : t833 = (t791.length : Int)
                    · rw [if_pos c46] at H
                      have c46b0 : (t833 == (t791.length : Int)) = true := beq_iff_eq.mpr c46
                      have c46b1 : (t833 != (t791.length : Int)) = false := bne_eq_false_iff_eq.mpr c46
                      clear c46
                      replace H := Option.bind_eq_some_iff.mp H
                      obtain ⟨t834, A470, H⟩ := H
                      replace H : (some t834) = some r := H
                      have A47 := Aside0.mk A470
                      clear A470
                      obtain rfl := Option.some.inj H
                      obtain ⟨Ao48, co48, eo48⟩ := Kd.R_slice HO_15.out
                      subst eo48
                      have p832 : 0 ≤ ((ji41) : Int) := of_decide_eq_true (by first | (with_reducible assumption) | assumption)
                      have q832 : (ji41) < (t816.length : Int) := of_decide_eq_true (by first | (with_reducible assumption) | assumption)
                      obtain ⟨ad832, e832, hx832_0⟩ := Kd.at_int (Kd.R_reads' HO_15.out).2.2 (ji41) p832 q832
                      cases e832
                      replace p832 := eq_true p832
                      replace q832 := eq_true q832
                      go_wp2_with (first | (go_at_call 17; (with_reducible refine (impl_PlaceOf.calls kj12 _ _ t795 t792 t833 _ ?side1 ?side2 A45.out).mono ?_); (case side1 => exact pkC (Kd.R_reads' HO_5.out).2.2); (case side2 => exact (Kd.R_reads' HO_5.out).2.1); rintro e w' ⟨rfl, ⟨nd, rfl⟩⟩) | (go_at_call 19; (with_reducible refine (spec_LineOk.calls kj12 _ _ t795 t834 _ ?side1 ?side2 A47.out).mono ?_); (case side1 => exact pkC (Kd.R_reads' HO_5.out).2.2); (case side2 => exact (Kd.R_reads' HO_5.out).2.1); rintro e w' ⟨rfl, ⟨nd, rfl⟩⟩))
                      go_ret
                      exact ⟨by first | rfl | (simp [errW_none, errW_some] <;> rfl) | (simp only [← hji41]; first | rfl | (simp [errW_none, errW_some] <;> rfl)) | (simp [*, errW_none, errW_some] <;> rfl), pkB HB.out⟩
                    · rw [if_neg c46] at H
                      have c46b0 : (t833 == (t791.length : Int)) = false := beq_eq_false_iff_ne.mpr c46
                      have c46b1 : (t833 != (t791.length : Int)) = true := bne_iff_ne.mpr c46
                      exact absurd (Option.some.inj H) (by rw [HQ_.out]; simp)
                  · rw [if_neg c44] at H
                    have c44b0 : ((rd t816 (ji41)) == t792) = false := beq_eq_false_iff_ne.mpr c44
                    have c44b1 : ((rd t816 (ji41)) != t792) = true := bne_iff_ne.mpr c44
                    exact absurd (Option.some.inj H) (by rw [HQ_.out]; simp)
                · rw [if_neg c43] at H
                  exact absurd H (by simp)
              · rw [if_neg c42] at H
                exact absurd H (by simp)
    · rw [if_neg c7] at H
      have c7b0 : (t800 == 0) = false := beq_eq_false_iff_ne.mpr c7
      have c7b1 : (t800 != 0) = true := bne_iff_ne.mpr c7
      by_cases c49 : t796 = t800
      · rw [if_pos c49] at H
        have c49b0 : (t796 == t800) = true := beq_iff_eq.mpr c49
        have c49b1 : (t796 != t800) = false := bne_eq_false_iff_eq.mpr c49
        clear c49
        replace H := Option.bind_eq_some_iff.mp H
        obtain ⟨t803, A500, H⟩ := H
        replace H : (some t803) = some r := H
        have A50 := Aside0.mk A500
        clear A500
        obtain rfl := Option.some.inj H
        go_enter Try.func12, Try.ntmps12
        go_wp2_with (first | ((with_reducible refine gate_callee (f := 42) rfl ?_); refine goesL_ (some 17) rfl rfl Try.func42 (by kernel_rfl) rfl #[.slice A0 l0.length c0] rfl (by (try simp only [List.map_toArray, List.map_cons, List.map_nil]); first | done | rfl | (simp only [List.length_drop, List.length_take]; rfl) | (go_simp; done) | (simp [*]; done)) ?_; (with_reducible refine (laws_big.calls _ _ l0 false _ ?side1 ?side2 A2.out).mono ?_); (case side1 => exact pkC HR0.out); (case side2 => exact HC0.out); rintro e w' ⟨rfl, ⟨nd, rfl⟩⟩; refine ⟨_, rfl, ?_⟩) | ((with_reducible refine gate_callee (f := 43) rfl ?_); refine goesL_ (some 20) rfl rfl Try.func43 (by kernel_rfl) rfl #[.slice A0 l0.length c0] rfl (by (try simp only [List.map_toArray, List.map_cons, List.map_nil]); first | done | rfl | (simp only [List.length_drop, List.length_take]; rfl) | (go_simp; done) | (simp [*]; done)) ?_; (with_reducible refine (spec_DrawJoin.calls k _ _ l0 t791 t792 _ ?side1 ?side2 A4.out).mono ?_); (case side1 => exact pkC HR0.out); (case side2 => exact HC0.out); rintro e w51 ⟨v793, rfl, ho0, hb⟩; refine ⟨_, rfl, ?_⟩; have n0_ := Aside0.mk (Kd.R_lower ho0 (below_size (pkB HB.out))); have n1_ := Aside0.mk (below_step (pkB HB.out) hb); clear HB; have HO794 := n0_; have HB := n1_; clear n0_ n1_; (try clear hb); (try clear hb2); (try clear hk); (try clear hi); (try clear ho0); obtain ⟨Ao52, co52, eo52⟩ := Kd.R_slice HO794.out; subst eo52) | ((with_reducible refine gate_callee (f := 33) rfl ?_); refine goesL_ (some 26) rfl rfl Try.func33 (by kernel_rfl) rfl #[.slice Ao52 t791.length co52, .int .i64 t792] rfl (by (try simp only [List.map_toArray, List.map_cons, List.map_nil]); first | done | rfl | (simp only [List.length_drop, List.length_take]; rfl) | (go_simp; done) | (simp [*]; done)) ?_; (with_reducible refine (impl_Join.calls k _ _ t791 t792 t795 t796 _ ?side1 ?side2 A5.out).mono ?_); (case side1 => exact pkC (Kd.R_reads' HO794.out).2.2); (case side2 => exact (Kd.R_reads' HO794.out).2.1); rintro e w53 ⟨v797, rfl, ho0, hb⟩; refine ⟨_, rfl, ?_⟩; have n0_ := Aside0.mk (Kd.R_elder' (pkR HO794.out) (Kd.R_base ho0) hb); have n1_ := Aside0.mk (Kd.R_lower (Kd.R_new' ho0 (Kd.R_lt (pkR HO794.out))) (below_size (pkB HB.out))); have n2_ := Aside0.mk (below_step (pkB HB.out) hb); clear HO794 HB; have HO794 := n0_; have HO798 := n1_; have HB := n2_; clear n0_ n1_ n2_; (try clear hb); (try clear hb2); (try clear hk); (try clear hi); (try clear ho0)) | ((with_reducible refine gate_callee (f := 32) rfl ?_); refine goesL_ (some 32) rfl rfl Try.func32 (by kernel_rfl) rfl #[.slice Ao52 t791.length co52, .int .i64 t792] rfl (by (try simp only [List.map_toArray, List.map_cons, List.map_nil]); first | done | rfl | (simp only [List.length_drop, List.length_take]; rfl) | (go_simp; done) | (simp [*]; done)) ?_; (with_reducible refine (spec_Join.calls k _ _ t791 t792 t799 t800 _ ?side1 ?side2 A6.out).mono ?_); (case side1 => exact pkC (Kd.R_reads' HO794.out).2.2); (case side2 => exact (Kd.R_reads' HO794.out).2.1); rintro e w54 ⟨v801, rfl, ho0, hb⟩; refine ⟨_, rfl, ?_⟩; have n0_ := Aside0.mk (Kd.R_elder' (pkR HO794.out) (Kd.R_base ho0) hb); have n1_ := Aside0.mk (Kd.R_elder' (pkR HO798.out) (Kd.R_base ho0) hb); have n2_ := Aside0.mk (Kd.R_lower (Kd.R_new' (Kd.R_new' ho0 (Kd.R_lt (pkR HO794.out))) (Kd.R_lt (pkR HO798.out))) (below_size (pkB HB.out))); have n3_ := Aside0.mk (below_step (pkB HB.out) hb); clear HO794 HO798 HB; have HO794 := n0_; have HO798 := n1_; have HO802 := n2_; have HB := n3_; clear n0_ n1_ n2_ n3_; (try clear hb); (try clear hb2); (try clear hk); (try clear hi); (try clear ho0); obtain ⟨Ao55, co55, eo55⟩ := Kd.R_slice HO798.out; subst eo55) | (go_at_call 44; (with_reducible refine (laws_sameInts.calls k _ _ t795 _ _ t791 t803 _ ?side1 ?side2 ?side3 ?side4 A50.out).mono ?_); (case side1 => exact pkC (Kd.R_reads' HO798.out).2.2); (case side2 => exact (Kd.R_reads' HO798.out).2.1); (case side3 => exact pkC (Kd.R_reads' HO794.out).2.2); (case side4 => exact (Kd.R_reads' HO794.out).2.1); rintro e w' ⟨rfl, ⟨nd, rfl⟩⟩))
        go_ret
        exact ⟨by first | rfl | (simp [errW_none, errW_some] <;> rfl) | (simp [*, errW_none, errW_some] <;> rfl), pkB HB.out⟩
      · rw [if_neg c49] at H
        have c49b0 : (t796 == t800) = false := beq_eq_false_iff_ne.mpr c49
        have c49b1 : (t796 != t800) = true := bne_iff_ne.mpr c49
        exact absurd (Option.some.inj H) (by rw [HQ_.out]; simp)
end Go.Proofs.Ytghmhekjdjdleaa.Z
