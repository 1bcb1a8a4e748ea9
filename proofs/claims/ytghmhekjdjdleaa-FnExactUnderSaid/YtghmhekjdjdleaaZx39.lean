/- The Go functions laws_FnExactUnder as Lean functions, each with a proof that its code comes to just these answers; conditions: those of each theorem. -/
import Derived.Test.YtghmhekjdjdleaaZx0
import Derived.Test.YtghmhekjdjdleaaZx2
import Derived.Test.YtghmhekjdjdleaaZx4
import Derived.Test.YtghmhekjdjdleaaZx6
import Derived.Test.YtghmhekjdjdleaaZx8
import Derived.Test.YtghmhekjdjdleaaZx10
import Derived.Test.YtghmhekjdjdleaaZx11
import Derived.Test.YtghmhekjdjdleaaZx15
import Derived.Test.YtghmhekjdjdleaaZx16
namespace Go.Proofs.Ytghmhekjdjdleaa.Z
open Go.RowKit Go.Proofs.YtghmhekjdjdleaaW.PrintWords Go.Proofs.YtghmhekjdjdleaaW.PrintLast Go.Proofs.YtghmhekjdjdleaaW.PrintMore
attribute [local go_sem] max2_int min2_int max_two min_two max_three min_three max_four min_four   -- for this text's walks alone
set_option linter.unusedVariables false
set_option linter.unusedSimpArgs false
def laws_FnExactUnder.j0 : Nat → Int → List Int → List Int → Bool → List Int → List Bool → Option (Bool)
  | 0, _, _, _, _, _, _ => none
  | k + 1, x1, x6, x8, x46, x505000, x505001 => if x46 = true then (some false) else ((laws_markIntS.f k x8 1).bind fun bt537 => ((laws_heldIntS.f k bt537.2 1).bind fun t539 => (if t539 < 0 then (some false) else (if t539 = bt537.1 then ((laws_toTokens.f k x505000 x505001).bind fun bt540 => ((impl_Under.f k bt540.1 bt540.2 x1).bind fun t546 => ((laws_eqIntS.f k t546 x6).bind fun t549 => (if t549 = true then ((laws_heldIntS.f k bt537.2 1).bind fun t550 => (if t550 < 0 then (some false) else (if t550 = bt537.1 then (some true) else (some false)))) else (some false))))) else (some false)))))
def laws_FnExactUnder.f (k : Nat) (l0_0 : List Int) (l0_1 : List Bool) (a1 : Int) : Option (Bool) := (laws_szTokens.f l0_0 l0_1 1048576).bind fun t505 => (if t505 < 0 then (some true) else ((laws_toTokens.f k l0_0 l0_1).bind fun bt506 => ((spec_Under.f k bt506.1 bt506.2 a1).bind fun t512 => ((laws_toTokens.f k l0_0 l0_1).bind fun bt515 => ((impl_Under.f k bt515.1 bt515.2 a1).bind fun t522 => ((laws_eqIntS.f k t522 t512).bind fun t525 => (if t525 = true then ((laws_toTokens.f k l0_0 l0_1).bind fun bt526 => ((laws_eqTokens.f k bt515.1 bt515.2 bt526.1 bt526.2).bind fun t532 => (if t532 = true then ((laws_markTokens.f k bt515.1 bt515.2 1).bind fun bt533 => (if bt533.1 < 0 then (laws_FnExactUnder.j0 k a1 t512 t522 true l0_0 l0_1) else ((laws_eqIntS.f k t522 t512).bind fun t536 => (laws_FnExactUnder.j0 k a1 t512 t522 (!t536) l0_0 l0_1)))) else (some false)))) else (some false))))))))
theorem laws_FnExactUnder.mono_l : ∀ k, (∀ y0 y1 y2 y3 y4 y5, LeO (laws_FnExactUnder.j0 k y0 y1 y2 y3 y4 y5) (laws_FnExactUnder.j0 (k + 1) y0 y1 y2 y3 y4 y5))
  | 0 => fun _ _ _ _ _ _ r h => by simp [laws_FnExactUnder.j0] at h
  | k + 1 => by
    have ih0 := laws_FnExactUnder.mono_l k
    · intro y0 y1 y2 y3 y4 y5
      unfold laws_FnExactUnder.j0
      repeat' first
      | (with_reducible exact ih0 _ _ _ _ _ _)
      | (with_reducible exact impl_Under.mono _ _ _ _)
      | (with_reducible exact laws_eqIntS.mono _ _ _)
      | (with_reducible exact laws_eqTokens.mono _ _ _ _ _)
      | (with_reducible exact laws_heldIntS.mono _ _ _)
      | (with_reducible exact laws_markIntS.mono _ _ _)
      | (with_reducible exact laws_markTokens.mono _ _ _ _)
      | (with_reducible exact laws_toTokens.mono _ _ _)
      | (with_reducible exact spec_Under.mono _ _ _ _)
      | (with_reducible exact LeO.refl _)
      | (with_reducible exact LeO.none _)
      | (with_reducible refine LeO.ite ?_ ?_)
      | (with_reducible refine LeO.bind ?_ (fun _ => ?_))
      | exact ih0 _ _ _ _ _ _
      | exact impl_Under.mono _ _ _ _
      | exact laws_eqIntS.mono _ _ _
      | exact laws_eqTokens.mono _ _ _ _ _
      | exact laws_heldIntS.mono _ _ _
      | exact laws_markIntS.mono _ _ _
      | exact laws_markTokens.mono _ _ _ _
      | exact laws_toTokens.mono _ _ _
      | exact spec_Under.mono _ _ _ _
      | exact LeO.none _
      | refine LeO.ite ?_ ?_
      | refine LeO.bind ?_ (fun _ => ?_)
theorem laws_FnExactUnder.mono : ∀ a0 a1 a2 k, LeO (laws_FnExactUnder.f k a0 a1 a2) (laws_FnExactUnder.f (k + 1) a0 a1 a2) := by
  intro a0 a1 a2 k
  have ih0 := laws_FnExactUnder.mono_l k
  unfold laws_FnExactUnder.f
  repeat' first
      | (with_reducible exact ih0 _ _ _ _ _ _)
      | (with_reducible exact impl_Under.mono _ _ _ _)
      | (with_reducible exact laws_eqIntS.mono _ _ _)
      | (with_reducible exact laws_eqTokens.mono _ _ _ _ _)
      | (with_reducible exact laws_heldIntS.mono _ _ _)
      | (with_reducible exact laws_markIntS.mono _ _ _)
      | (with_reducible exact laws_markTokens.mono _ _ _ _)
      | (with_reducible exact laws_toTokens.mono _ _ _)
      | (with_reducible exact spec_Under.mono _ _ _ _)
      | (with_reducible exact LeO.refl _)
      | (with_reducible exact LeO.none _)
      | (with_reducible refine LeO.ite ?_ ?_)
      | (with_reducible refine LeO.bind ?_ (fun _ => ?_))
      | exact ih0 _ _ _ _ _ _
      | exact impl_Under.mono _ _ _ _
      | exact laws_eqIntS.mono _ _ _
      | exact laws_eqTokens.mono _ _ _ _ _
      | exact laws_heldIntS.mono _ _ _
      | exact laws_markIntS.mono _ _ _
      | exact laws_markTokens.mono _ _ _ _
      | exact laws_toTokens.mono _ _ _
      | exact spec_Under.mono _ _ _ _
      | exact LeO.none _
      | refine LeO.ite ?_ ?_
      | refine LeO.bind ?_ (fun _ => ?_)
set_option maxHeartbeats 8000000 in
set_option maxRecDepth 100000 in
theorem laws_FnExactUnder.calls (k : Nat) (A0_0 : Option Addr) (c0_0 : Nat) (l0_0 : List Int) (A0_1 : Option Addr) (c0_1 : Nat) (l0_1 : List Bool) (a1 : Int) (r : Bool) (w : World) (hr0_0 : Kd.C (Kd.int .i64) w A0_0 l0_0.length l0_0) (hc0_0 : l0_0.length ≤ c0_0) (hr0_1 : Kd.C Kd.bool w A0_1 l0_1.length l0_1) (hc0_1 : l0_1.length ≤ c0_1) (HQ_ : Aside0 (r = true)) (h : laws_FnExactUnder.f k l0_0 l0_1 a1 = some r) :
    Calls Try.prog 10 #[.agg #[.slice A0_0 l0_0.length c0_0, .slice A0_1 l0_1.length c0_1], .int .i64 a1] w fun e w' => e = .returned (.bool r) ∧ Below w.heap.size w w' := by
  have hu30 := Try.underlying30
  have hu33 := Try.underlying33
  have HR0_0 := Aside0.mk hr0_0
  have HC0_0 := Aside0.mk hc0_0
  clear hr0_0 hc0_0
  have HR0_1 := Aside0.mk hr0_1
  have HC0_1 := Aside0.mk hc0_1
  clear hr0_1 hc0_1
  have HB := Aside0.mk (Below.refl w.heap.size w)
  have H : ((laws_szTokens.f l0_0 l0_1 1048576).bind fun t505 => (if t505 < 0 then (some true) else ((laws_toTokens.f k l0_0 l0_1).bind fun bt506 => ((spec_Under.f k bt506.1 bt506.2 a1).bind fun t512 => ((laws_toTokens.f k l0_0 l0_1).bind fun bt515 => ((impl_Under.f k bt515.1 bt515.2 a1).bind fun t522 => ((laws_eqIntS.f k t522 t512).bind fun t525 => (if t525 = true then ((laws_toTokens.f k l0_0 l0_1).bind fun bt526 => ((laws_eqTokens.f k bt515.1 bt515.2 bt526.1 bt526.2).bind fun t532 => (if t532 = true then ((laws_markTokens.f k bt515.1 bt515.2 1).bind fun bt533 => (if bt533.1 < 0 then (laws_FnExactUnder.j0 k a1 t512 t522 true l0_0 l0_1) else ((laws_eqIntS.f k t522 t512).bind fun t536 => (laws_FnExactUnder.j0 k a1 t512 t522 (!t536) l0_0 l0_1)))) else (some false)))) else (some false))))))))) = some r := h
  clear h
  replace H := Option.bind_eq_some_iff.mp H
  obtain ⟨t505, A30, H⟩ := H
  replace H : (if t505 < 0 then (some true) else ((laws_toTokens.f k l0_0 l0_1).bind fun bt506 => ((spec_Under.f k bt506.1 bt506.2 a1).bind fun t512 => ((laws_toTokens.f k l0_0 l0_1).bind fun bt515 => ((impl_Under.f k bt515.1 bt515.2 a1).bind fun t522 => ((laws_eqIntS.f k t522 t512).bind fun t525 => (if t525 = true then ((laws_toTokens.f k l0_0 l0_1).bind fun bt526 => ((laws_eqTokens.f k bt515.1 bt515.2 bt526.1 bt526.2).bind fun t532 => (if t532 = true then ((laws_markTokens.f k bt515.1 bt515.2 1).bind fun bt533 => (if bt533.1 < 0 then (laws_FnExactUnder.j0 k a1 t512 t522 true l0_0 l0_1) else ((laws_eqIntS.f k t522 t512).bind fun t536 => (laws_FnExactUnder.j0 k a1 t512 t522 (!t536) l0_0 l0_1)))) else (some false)))) else (some false)))))))) = some r := H
  have A3 := Aside0.mk A30
  clear A30
  by_cases c4 : t505 < 0
  · rw [if_pos c4] at H
    have c4b0 : decide (t505 < 0) = true := decide_eq_true c4
    clear c4
    obtain rfl := Option.some.inj H
    go_enter Try.func10, Try.ntmps10
    go_wp2_with (first | ((with_reducible refine gate_dst (N := 2) rfl ?_); refine box_event ?hg (N := 2) ?hd (cs := #[.slice A0_0 l0_0.length c0_0, .slice A0_1 l0_1.length c0_1]) (t := 30) ?hr ?_; (case hd => rfl); (case hg => rfl); (case hr => first | (go_simp; done) | (go_simp; rfl)); intro gb504 hg w5 hbox hb; have n0_ := Aside0.mk (below_step (pkB HB.out) hb); have n1_ := Aside0.mk (hbox); have n2_ := Aside0.mk ((by rw [hg]; exact (below_size (pkB HB.out)) : w.heap.size ≤ gb504)); have n3_ := Aside0.mk ((by rw [hg]; exact (below_size (pkB HB.out)) : w.heap.size ≤ gb504)); clear HB; have HB := n0_; have BK504 := n1_; have GW504 := n2_; have GE504 := n3_; clear n0_ n1_ n2_ n3_; clear hb hbox hg; have hcz6_0 : w5.cell? ⟨gb504, 0, none⟩ = some (.slice A0_0 l0_0.length c0_0) := (blk_cell BK504.out 0).trans rfl; have hcz6_1 : w5.cell? ⟨gb504, 1, none⟩ = some (.slice A0_1 l0_1.length c0_1) := (blk_cell BK504.out 1).trans rfl; have hfz6_0 := blk_frozen BK504.out 0; have hfz6_1 := blk_frozen BK504.out 1) | ((with_reducible refine gate_callee (f := 21) rfl ?_); refine goesL_ (some 15) rfl rfl Try.func21 (by kernel_rfl) rfl #[.agg #[.slice A0_0 l0_0.length c0_0, .slice A0_1 l0_1.length c0_1], .int .i64 1048576] rfl (by (try simp only [List.map_toArray, List.map_cons, List.map_nil]); first | done | rfl | (simp only [List.length_drop, List.length_take]; rfl) | (go_simp; done) | (simp [*]; done)) ?_; (with_reducible refine (laws_szTokens.calls _ _ l0_0 _ _ l0_1 1048576 t505 _ ?side1 ?side2 ?side3 ?side4 A3.out).mono ?_); (case side1 => exact pkC (Kd.C_below HR0_0.out HB.out)); (case side2 => exact HC0_0.out); (case side3 => exact pkC (Kd.C_below HR0_1.out HB.out)); (case side4 => exact HC0_1.out); rintro e w7 ⟨rfl, hb⟩; refine ⟨_, rfl, ?_⟩; have n0_ := Aside0.mk (blk_below (g := gb504) (o := .cells #[.slice A0_0 l0_0.length c0_0, .slice A0_1 l0_1.length c0_1] 30 (0, 0)) (pkK BK504.out) hb); have n1_ := Aside0.mk (below_step (by repeat (first | (with_reducible first | exact HB.out | apply below_alloc | apply pw_below_drewN | apply below_drew1 | refine below_set ?_ GE504.out) | exact HB.out)) hb); clear BK504 HB; have BK504 := n0_; have HB := n1_; clear n0_ n1_; (try clear hb); (try clear hb2); (try clear hk); (try clear hi)))
    go_ret
    exact ⟨by first | rfl | (simp [errW_none, errW_some] <;> rfl) | (simp [*, errW_none, errW_some] <;> rfl), by repeat (first | (with_reducible first | exact HB.out | apply below_alloc | apply pw_below_drewN | apply below_drew1 | refine below_set ?_ GE504.out) | exact HB.out)⟩
  · rw [if_neg c4] at H
    have c4b0 : decide (t505 < 0) = false := decide_eq_false c4
    clear c4
    replace H := Option.bind_eq_some_iff.mp H
    obtain ⟨⟨t506, t509⟩, A80, H⟩ := H
    replace H : ((spec_Under.f k t506 t509 a1).bind fun t512 => ((laws_toTokens.f k l0_0 l0_1).bind fun bt515 => ((impl_Under.f k bt515.1 bt515.2 a1).bind fun t522 => ((laws_eqIntS.f k t522 t512).bind fun t525 => (if t525 = true then ((laws_toTokens.f k l0_0 l0_1).bind fun bt526 => ((laws_eqTokens.f k bt515.1 bt515.2 bt526.1 bt526.2).bind fun t532 => (if t532 = true then ((laws_markTokens.f k bt515.1 bt515.2 1).bind fun bt533 => (if bt533.1 < 0 then (laws_FnExactUnder.j0 k a1 t512 t522 true l0_0 l0_1) else ((laws_eqIntS.f k t522 t512).bind fun t536 => (laws_FnExactUnder.j0 k a1 t512 t522 (!t536) l0_0 l0_1)))) else (some false)))) else (some false)))))) = some r := H
    have A8 := Aside0.mk A80
    clear A80
    replace H := Option.bind_eq_some_iff.mp H
    obtain ⟨t512, A90, H⟩ := H
    replace H : ((laws_toTokens.f k l0_0 l0_1).bind fun bt515 => ((impl_Under.f k bt515.1 bt515.2 a1).bind fun t522 => ((laws_eqIntS.f k t522 t512).bind fun t525 => (if t525 = true then ((laws_toTokens.f k l0_0 l0_1).bind fun bt526 => ((laws_eqTokens.f k bt515.1 bt515.2 bt526.1 bt526.2).bind fun t532 => (if t532 = true then ((laws_markTokens.f k bt515.1 bt515.2 1).bind fun bt533 => (if bt533.1 < 0 then (laws_FnExactUnder.j0 k a1 t512 t522 true l0_0 l0_1) else ((laws_eqIntS.f k t522 t512).bind fun t536 => (laws_FnExactUnder.j0 k a1 t512 t522 (!t536) l0_0 l0_1)))) else (some false)))) else (some false))))) = some r := H
    have A9 := Aside0.mk A90
    clear A90
    replace H := Option.bind_eq_some_iff.mp H
    obtain ⟨⟨t515, t518⟩, A100, H⟩ := H
    replace H : ((impl_Under.f k t515 t518 a1).bind fun t522 => ((laws_eqIntS.f k t522 t512).bind fun t525 => (if t525 = true then ((laws_toTokens.f k l0_0 l0_1).bind fun bt526 => ((laws_eqTokens.f k t515 t518 bt526.1 bt526.2).bind fun t532 => (if t532 = true then ((laws_markTokens.f k t515 t518 1).bind fun bt533 => (if bt533.1 < 0 then (laws_FnExactUnder.j0 k a1 t512 t522 true l0_0 l0_1) else ((laws_eqIntS.f k t522 t512).bind fun t536 => (laws_FnExactUnder.j0 k a1 t512 t522 (!t536) l0_0 l0_1)))) else (some false)))) else (some false)))) = some r := H
    have A10 := Aside0.mk A100
    clear A100
    replace H := Option.bind_eq_some_iff.mp H
    obtain ⟨t522, A110, H⟩ := H
    replace H : ((laws_eqIntS.f k t522 t512).bind fun t525 => (if t525 = true then ((laws_toTokens.f k l0_0 l0_1).bind fun bt526 => ((laws_eqTokens.f k t515 t518 bt526.1 bt526.2).bind fun t532 => (if t532 = true then ((laws_markTokens.f k t515 t518 1).bind fun bt533 => (if bt533.1 < 0 then (laws_FnExactUnder.j0 k a1 t512 t522 true l0_0 l0_1) else ((laws_eqIntS.f k t522 t512).bind fun t536 => (laws_FnExactUnder.j0 k a1 t512 t522 (!t536) l0_0 l0_1)))) else (some false)))) else (some false))) = some r := H
    have A11 := Aside0.mk A110
    clear A110
    replace H := Option.bind_eq_some_iff.mp H
    obtain ⟨t525, A120, H⟩ := H
    replace H : (if t525 = true then ((laws_toTokens.f k l0_0 l0_1).bind fun bt526 => ((laws_eqTokens.f k t515 t518 bt526.1 bt526.2).bind fun t532 => (if t532 = true then ((laws_markTokens.f k t515 t518 1).bind fun bt533 => (if bt533.1 < 0 then (laws_FnExactUnder.j0 k a1 t512 t522 true l0_0 l0_1) else ((laws_eqIntS.f k t522 t512).bind fun t536 => (laws_FnExactUnder.j0 k a1 t512 t522 (!t536) l0_0 l0_1)))) else (some false)))) else (some false)) = some r := H
    have A12 := Aside0.mk A120
    clear A120
    by_cases c13 : t525 = true
    · subst c13
      have H1 : ((laws_toTokens.f k l0_0 l0_1).bind fun bt526 => ((laws_eqTokens.f k t515 t518 bt526.1 bt526.2).bind fun t532 => (if t532 = true then ((laws_markTokens.f k t515 t518 1).bind fun bt533 => (if bt533.1 < 0 then (laws_FnExactUnder.j0 k a1 t512 t522 true l0_0 l0_1) else ((laws_eqIntS.f k t522 t512).bind fun t536 => (laws_FnExactUnder.j0 k a1 t512 t522 (!t536) l0_0 l0_1)))) else (some false)))) = some r := by rw [if_pos rfl] at H; exact H
      clear H
      have H := H1
      clear H1
      replace H := Option.bind_eq_some_iff.mp H
      obtain ⟨⟨t526, t529⟩, A140, H⟩ := H
      replace H : ((laws_eqTokens.f k t515 t518 t526 t529).bind fun t532 => (if t532 = true then ((laws_markTokens.f k t515 t518 1).bind fun bt533 => (if bt533.1 < 0 then (laws_FnExactUnder.j0 k a1 t512 t522 true l0_0 l0_1) else ((laws_eqIntS.f k t522 t512).bind fun t536 => (laws_FnExactUnder.j0 k a1 t512 t522 (!t536) l0_0 l0_1)))) else (some false))) = some r := H
      have A14 := Aside0.mk A140
      clear A140
      replace H := Option.bind_eq_some_iff.mp H
      obtain ⟨t532, A150, H⟩ := H
      replace H : (if t532 = true then ((laws_markTokens.f k t515 t518 1).bind fun bt533 => (if bt533.1 < 0 then (laws_FnExactUnder.j0 k a1 t512 t522 true l0_0 l0_1) else ((laws_eqIntS.f k t522 t512).bind fun t536 => (laws_FnExactUnder.j0 k a1 t512 t522 (!t536) l0_0 l0_1)))) else (some false)) = some r := H
      have A15 := Aside0.mk A150
      clear A150
      by_cases c16 : t532 = true
      · subst c16
        have H1 : ((laws_markTokens.f k t515 t518 1).bind fun bt533 => (if bt533.1 < 0 then (laws_FnExactUnder.j0 k a1 t512 t522 true l0_0 l0_1) else ((laws_eqIntS.f k t522 t512).bind fun t536 => (laws_FnExactUnder.j0 k a1 t512 t522 (!t536) l0_0 l0_1)))) = some r := by rw [if_pos rfl] at H; exact H
        clear H
        have H := H1
        clear H1
        replace H := Option.bind_eq_some_iff.mp H
        obtain ⟨⟨t533, t534, t535⟩, A170, H⟩ := H
        replace H : (if t533 < 0 then (laws_FnExactUnder.j0 k a1 t512 t522 true l0_0 l0_1) else ((laws_eqIntS.f k t522 t512).bind fun t536 => (laws_FnExactUnder.j0 k a1 t512 t522 (!t536) l0_0 l0_1))) = some r := H
        have A17 := Aside0.mk A170
        clear A170
        have HC18 := Aside0.mk H
        clear H
        go_enter Try.func10, Try.ntmps10
        try go_wp2_with (first | ((with_reducible refine gate_dst (N := 2) rfl ?_); refine box_event ?hg (N := 2) ?hd (cs := #[.slice A0_0 l0_0.length c0_0, .slice A0_1 l0_1.length c0_1]) (t := 30) ?hr ?_; (case hd => rfl); (case hg => rfl); (case hr => first | (go_simp; done) | (go_simp; rfl)); intro gb504 hg w19 hbox hb; have n0_ := Aside0.mk (below_step (pkB HB.out) hb); have n1_ := Aside0.mk (hbox); have n2_ := Aside0.mk ((by rw [hg]; exact (below_size (pkB HB.out)) : w.heap.size ≤ gb504)); have n3_ := Aside0.mk ((by rw [hg]; exact (below_size (pkB HB.out)) : w.heap.size ≤ gb504)); clear HB; have HB := n0_; have BK504 := n1_; have GW504 := n2_; have GE504 := n3_; clear n0_ n1_ n2_ n3_; clear hb hbox hg; have hcz20_0 : w19.cell? ⟨gb504, 0, none⟩ = some (.slice A0_0 l0_0.length c0_0) := (blk_cell BK504.out 0).trans rfl; have hcz20_1 : w19.cell? ⟨gb504, 1, none⟩ = some (.slice A0_1 l0_1.length c0_1) := (blk_cell BK504.out 1).trans rfl; have hfz20_0 := blk_frozen BK504.out 0; have hfz20_1 := blk_frozen BK504.out 1) | ((with_reducible refine gate_callee (f := 21) rfl ?_); refine goesL_ (some 15) rfl rfl Try.func21 (by kernel_rfl) rfl #[.agg #[.slice A0_0 l0_0.length c0_0, .slice A0_1 l0_1.length c0_1], .int .i64 1048576] rfl (by (try simp only [List.map_toArray, List.map_cons, List.map_nil]); first | done | rfl | (simp only [List.length_drop, List.length_take]; rfl) | (go_simp; done) | (simp [*]; done)) ?_; (with_reducible refine (laws_szTokens.calls _ _ l0_0 _ _ l0_1 1048576 t505 _ ?side1 ?side2 ?side3 ?side4 A3.out).mono ?_); (case side1 => exact pkC (Kd.C_below HR0_0.out HB.out)); (case side2 => exact HC0_0.out); (case side3 => exact pkC (Kd.C_below HR0_1.out HB.out)); (case side4 => exact HC0_1.out); rintro e w21 ⟨rfl, hb⟩; refine ⟨_, rfl, ?_⟩; have n0_ := Aside0.mk (blk_below (g := gb504) (o := .cells #[.slice A0_0 l0_0.length c0_0, .slice A0_1 l0_1.length c0_1] 30 (0, 0)) (pkK BK504.out) hb); have n1_ := Aside0.mk (below_step (by repeat (first | (with_reducible first | exact HB.out | apply below_alloc | apply pw_below_drewN | apply below_drew1 | refine below_set ?_ GE504.out) | exact HB.out)) hb); clear BK504 HB; have BK504 := n0_; have HB := n1_; clear n0_ n1_; (try clear hb); (try clear hb2); (try clear hk); (try clear hi); have hcz22_0 : w21.cell? ⟨gb504, 0, none⟩ = some (.slice A0_0 l0_0.length c0_0) := (blk_cell BK504.out 0).trans rfl; have hcz22_1 : w21.cell? ⟨gb504, 1, none⟩ = some (.slice A0_1 l0_1.length c0_1) := (blk_cell BK504.out 1).trans rfl; have hfz22_0 := blk_frozen BK504.out 0; have hfz22_1 := blk_frozen BK504.out 1) | ((with_reducible refine gate_callee (f := 23) rfl ?_); refine goesL_ (some 19) rfl rfl Try.func23 (by kernel_rfl) rfl #[.agg #[.slice A0_0 l0_0.length c0_0, .slice A0_1 l0_1.length c0_1]] rfl (by (try simp only [List.map_toArray, List.map_cons, List.map_nil]); first | done | rfl | (simp only [List.length_drop, List.length_take]; rfl) | (go_simp; done) | (simp [*]; done)) ?_; (with_reducible refine (laws_toTokens.calls k _ _ l0_0 _ _ l0_1 t506 t509 _ ?side1 ?side2 ?side3 ?side4 A8.out).mono ?_); (case side1 => exact pkC (Kd.C_below HR0_0.out HB.out)); (case side2 => exact HC0_0.out); (case side3 => exact pkC (Kd.C_below HR0_1.out HB.out)); (case side4 => exact HC0_1.out); rintro e w23 ⟨v507, v510, rfl, ho0, ho1, hb⟩; refine ⟨_, rfl, ?_⟩; have n0_ := Aside0.mk (Kd.R_lower ho0 (below_size (by repeat (first | (with_reducible first | exact HB.out | apply below_alloc | apply pw_below_drewN | apply below_drew1 | refine below_set ?_ GE504.out) | exact HB.out)))); have n1_ := Aside0.mk (Kd.R_lower ho1 (below_size (by repeat (first | (with_reducible first | exact HB.out | apply below_alloc | apply pw_below_drewN | apply below_drew1 | refine below_set ?_ GE504.out) | exact HB.out)))); have n2_ := Aside0.mk (blk_below (g := gb504) (o := .cells #[.slice A0_0 l0_0.length c0_0, .slice A0_1 l0_1.length c0_1] 30 (0, 0)) (pkK BK504.out) hb); have n3_ := Aside0.mk (below_step (by repeat (first | (with_reducible first | exact HB.out | apply below_alloc | apply pw_below_drewN | apply below_drew1 | refine below_set ?_ GE504.out) | exact HB.out)) hb); clear BK504 HB; have HO508 := n0_; have HO511 := n1_; have BK504 := n2_; have HB := n3_; clear n0_ n1_ n2_ n3_; (try clear hb); (try clear hb2); (try clear hk); (try clear hi); (try clear ho0); (try clear ho1); obtain ⟨Ao24, co24, eo24⟩ := Kd.R_slice HO508.out; subst eo24; obtain ⟨Ao25, co25, eo25⟩ := Kd.R_slice HO511.out; subst eo25) | ((with_reducible refine gate_callee (f := 36) rfl ?_); refine goesL_ (some 21) rfl rfl Try.func36 (by kernel_rfl) rfl #[.agg #[.slice Ao24 t506.length co24, .slice Ao25 t509.length co25], .int .i64 a1] rfl (by (try simp only [List.map_toArray, List.map_cons, List.map_nil]); first | done | rfl | (simp only [List.length_drop, List.length_take]; rfl) | (go_simp; done) | (simp [*]; done)) ?_; (with_reducible refine (spec_Under.calls k _ _ t506 _ _ t509 a1 t512 _ ?side1 ?side2 ?side3 ?side4 A9.out).mono ?_); (case side1 => exact pkC (Kd.R_reads' HO508.out).2.2); (case side2 => exact (Kd.R_reads' HO508.out).2.1); (case side3 => exact pkC (Kd.R_reads' HO511.out).2.2); (case side4 => exact (Kd.R_reads' HO511.out).2.1); rintro e w26 ⟨v513, rfl, ho0, hb⟩; refine ⟨_, rfl, ?_⟩; have n0_ := Aside0.mk (Kd.R_elder' (pkR HO508.out) (Kd.R_base ho0) hb); have n1_ := Aside0.mk (Kd.R_below (pkR HO511.out) hb); have n2_ := Aside0.mk (Kd.R_lower (Kd.R_new' ho0 (Kd.R_lt (pkR HO508.out))) (below_size (by repeat (first | (with_reducible first | exact HB.out | apply below_alloc | apply pw_below_drewN | apply below_drew1 | refine below_set ?_ GE504.out) | exact HB.out)))); have n3_ := Aside0.mk (blk_below (g := gb504) (o := .cells #[.slice A0_0 l0_0.length c0_0, .slice A0_1 l0_1.length c0_1] 30 (0, 0)) (pkK BK504.out) hb); have n4_ := Aside0.mk (below_step (by repeat (first | (with_reducible first | exact HB.out | apply below_alloc | apply pw_below_drewN | apply below_drew1 | refine below_set ?_ GE504.out) | exact HB.out)) hb); clear HO508 HO511 BK504 HB; have HO508 := n0_; have HO511 := n1_; have HO514 := n2_; have BK504 := n3_; have HB := n4_; clear n0_ n1_ n2_ n3_ n4_; (try clear hb); (try clear hb2); (try clear hk); (try clear hi); (try clear ho0); have hcz27_0 : w26.cell? ⟨gb504, 0, none⟩ = some (.slice A0_0 l0_0.length c0_0) := (blk_cell BK504.out 0).trans rfl; have hcz27_1 : w26.cell? ⟨gb504, 1, none⟩ = some (.slice A0_1 l0_1.length c0_1) := (blk_cell BK504.out 1).trans rfl; have hfz27_0 := blk_frozen BK504.out 0; have hfz27_1 := blk_frozen BK504.out 1) | ((with_reducible refine gate_callee (f := 23) rfl ?_); refine goesL_ (some 23) rfl rfl Try.func23 (by kernel_rfl) rfl #[.agg #[.slice A0_0 l0_0.length c0_0, .slice A0_1 l0_1.length c0_1]] rfl (by (try simp only [List.map_toArray, List.map_cons, List.map_nil]); first | done | rfl | (simp only [List.length_drop, List.length_take]; rfl) | (go_simp; done) | (simp [*]; done)) ?_; (with_reducible refine (laws_toTokens.calls k _ _ l0_0 _ _ l0_1 t515 t518 _ ?side1 ?side2 ?side3 ?side4 A10.out).mono ?_); (case side1 => exact pkC (Kd.C_below HR0_0.out HB.out)); (case side2 => exact HC0_0.out); (case side3 => exact pkC (Kd.C_below HR0_1.out HB.out)); (case side4 => exact HC0_1.out); rintro e w28 ⟨v516, v519, rfl, ho0, ho1, hb⟩; refine ⟨_, rfl, ?_⟩; have n0_ := Aside0.mk (Kd.R_elder' (pkR HO508.out) (Kd.R_base ho0) hb); have n1_ := Aside0.mk (Kd.R_elder' (pkR HO511.out) (Kd.R_base ho1) hb); have n2_ := Aside0.mk (Kd.R_elder' (pkR HO514.out) (Kd.R_base ho0) hb); have n3_ := Aside0.mk (Kd.R_lower (Kd.R_new' (Kd.R_new' ho0 (Kd.R_lt (pkR HO508.out))) (Kd.R_lt (pkR HO514.out))) (below_size (by repeat (first | (with_reducible first | exact HB.out | apply below_alloc | apply pw_below_drewN | apply below_drew1 | refine below_set ?_ GE504.out) | exact HB.out)))); have n4_ := Aside0.mk (Kd.R_lower (Kd.R_new' ho1 (Kd.R_lt (pkR HO511.out))) (below_size (by repeat (first | (with_reducible first | exact HB.out | apply below_alloc | apply pw_below_drewN | apply below_drew1 | refine below_set ?_ GE504.out) | exact HB.out)))); have n5_ := Aside0.mk (blk_below (g := gb504) (o := .cells #[.slice A0_0 l0_0.length c0_0, .slice A0_1 l0_1.length c0_1] 30 (0, 0)) (pkK BK504.out) hb); have n6_ := Aside0.mk (below_step (by repeat (first | (with_reducible first | exact HB.out | apply below_alloc | apply pw_below_drewN | apply below_drew1 | refine below_set ?_ GE504.out) | exact HB.out)) hb); clear HO508 HO511 HO514 BK504 HB; have HO508 := n0_; have HO511 := n1_; have HO514 := n2_; have HO517 := n3_; have HO520 := n4_; have BK504 := n5_; have HB := n6_; clear n0_ n1_ n2_ n3_ n4_ n5_ n6_; (try clear hb); (try clear hb2); (try clear hk); (try clear hi); (try clear ho0); (try clear ho1)) | ((with_reducible refine gate_dst (N := 7) rfl ?_); refine box_event ?hg (N := 7) ?hd (cs := #[.slice none 0 0, .slice none 0 0]) (t := 33) ?hr ?_; (case hd => rfl); (case hg => rfl); (case hr => first | (go_simp; done) | (go_simp; rfl)); intro gb521 hg w29 hbox hb; have n0_ := Aside0.mk (Kd.R_below (pkR HO508.out) hb); have n1_ := Aside0.mk (Kd.R_below (pkR HO511.out) hb); have n2_ := Aside0.mk (Kd.R_below (pkR HO514.out) hb); have n3_ := Aside0.mk (Kd.R_below (pkR HO517.out) hb); have n4_ := Aside0.mk (Kd.R_below (pkR HO520.out) hb); have n5_ := Aside0.mk (blk_below (g := gb504) (o := .cells #[.slice A0_0 l0_0.length c0_0, .slice A0_1 l0_1.length c0_1] 30 (0, 0)) (pkK BK504.out) hb); have n6_ := Aside0.mk (below_step (by repeat (first | (with_reducible first | exact HB.out | apply below_alloc | apply pw_below_drewN | apply below_drew1 | refine below_set ?_ GE504.out) | exact HB.out)) hb); have n7_ := Aside0.mk (hbox); have n8_ := Aside0.mk ((by rw [hg]; exact (below_size (by repeat (first | (with_reducible first | exact HB.out | apply below_alloc | apply pw_below_drewN | apply below_drew1 | refine below_set ?_ GE504.out) | exact HB.out))) : w.heap.size ≤ gb521)); have n9_ := Aside0.mk ((by rw [hg]; exact (below_size (by repeat (first | (with_reducible first | exact HB.out | apply below_alloc | apply pw_below_drewN | apply below_drew1 | refine below_set ?_ GE504.out) | exact HB.out))) : w.heap.size ≤ gb521)); have n10_ := Aside0.mk ((by rw [hg]; exact Nat.ne_of_lt (blk_lt (g := gb504) (o := .cells #[.slice A0_0 l0_0.length c0_0, .slice A0_1 l0_1.length c0_1] 30 (0, 0)) (pkK BK504.out)) : gb504 ≠ gb521)); have n11_ := Aside0.mk ((by rw [hg]; exact Nat.ne_of_gt (blk_lt (g := gb504) (o := .cells #[.slice A0_0 l0_0.length c0_0, .slice A0_1 l0_1.length c0_1] 30 (0, 0)) (pkK BK504.out)) : gb521 ≠ gb504)); clear HO508 HO511 HO514 HO517 HO520 BK504 HB; have HO508 := n0_; have HO511 := n1_; have HO514 := n2_; have HO517 := n3_; have HO520 := n4_; have BK504 := n5_; have HB := n6_; have BK521 := n7_; have GW521 := n8_; have GE521 := n9_; have NB504_521 := n10_; have NB521_504 := n11_; clear n0_ n1_ n2_ n3_ n4_ n5_ n6_ n7_ n8_ n9_ n10_ n11_; clear hb hbox hg; obtain ⟨Ao30, co30, eo30⟩ := Kd.R_slice HO517.out; subst eo30; have hnb31 := NB521_504.out; have hnc31 := NB504_521.out; have hcz32_0 : w29.cell? ⟨gb521, 0, none⟩ = some (.slice none 0 0) := (blk_cell BK521.out 0).trans rfl; have hcz32_1 : w29.cell? ⟨gb521, 1, none⟩ = some (.slice none 0 0) := (blk_cell BK521.out 1).trans rfl; have hfz32_0 := blk_frozen BK521.out 0; have hfz32_1 := blk_frozen BK521.out 1; obtain ⟨Ao33, co33, eo33⟩ := Kd.R_slice HO520.out; subst eo33) | ((with_reducible refine gate_callee (f := 37) rfl ?_); refine goesL_ (some 26) rfl rfl Try.func37 (by kernel_rfl) rfl #[.agg #[.slice Ao30 t515.length co30, .slice Ao33 t518.length co33], .int .i64 a1] rfl (by (try simp only [List.map_toArray, List.map_cons, List.map_nil]); first | done | rfl | (simp only [List.length_drop, List.length_take]; rfl) | (go_simp; done) | (simp [*]; done)) ?_; (with_reducible refine (impl_Under.calls k _ _ t515 _ _ t518 a1 t522 _ ?side1 ?side2 ?side3 ?side4 A11.out).mono ?_); (case side1 => refine (Kd.R_reads' (e := 3) (base := w.heap.size) (ok := fun k_ => ((True ∧ some k_ ≠ (.slice Ao24 t506.length co24 : Value).ownBlock) ∧ some k_ ≠ (v513 : Value).ownBlock)) (n := t515.length) (c := co30) ?_).2.2; exact (by (with_reducible repeat (first | apply Kd.R_alloc | apply Kd.R_drewN | apply Kd.R_drew)); exact (Kd.R_mono (Kd.R_far (p := ⟨gb521, 1, none⟩) (Kd.R_far (p := ⟨gb521, 0, none⟩) (Kd.R_types HO517.out BK521.out (by decide)) (fun _ hk => hk.2) (.slice Ao30 t515.length co30)) (fun _ hk => hk.2) (.slice Ao33 t518.length co33)) (fun _ h_ => h_.1)))); (case side2 => exact (Kd.R_reads' HO517.out).2.1); (case side3 => refine (Kd.R_reads' (e := 4) (base := w.heap.size) (ok := fun k_ => (True ∧ some k_ ≠ (.slice Ao25 t509.length co25 : Value).ownBlock)) (n := t518.length) (c := co33) ?_).2.2; exact (by (with_reducible repeat (first | apply Kd.R_alloc | apply Kd.R_drewN | apply Kd.R_drew)); exact (Kd.R_mono (Kd.R_far (p := ⟨gb521, 1, none⟩) (Kd.R_far (p := ⟨gb521, 0, none⟩) (Kd.R_types HO520.out BK521.out (by decide)) (fun _ hk => hk.2) (.slice Ao30 t515.length co30)) (fun _ hk => hk.2) (.slice Ao33 t518.length co33)) (fun _ h_ => h_.1)))); (case side4 => exact (Kd.R_reads' HO520.out).2.1); rintro e w34 ⟨v523, rfl, ho0, hb⟩; refine ⟨_, rfl, ?_⟩; have n0_ := Aside0.mk (Kd.R_elder' (by (with_reducible repeat (first | apply Kd.R_alloc | apply Kd.R_drewN | apply Kd.R_drew)); exact (Kd.R_mono (Kd.R_far (p := ⟨gb521, 1, none⟩) (Kd.R_far (p := ⟨gb521, 0, none⟩) (Kd.R_types HO508.out BK521.out (by decide)) (fun _ hk => hk.2) (.slice Ao30 t515.length co30)) (fun _ hk => hk.2) (.slice Ao33 t518.length co33)) (fun _ h_ => h_.1))) (Kd.R_base ho0) hb); have n1_ := Aside0.mk (Kd.R_below (by (with_reducible repeat (first | apply Kd.R_alloc | apply Kd.R_drewN | apply Kd.R_drew)); exact (Kd.R_mono (Kd.R_far (p := ⟨gb521, 1, none⟩) (Kd.R_far (p := ⟨gb521, 0, none⟩) (Kd.R_types HO511.out BK521.out (by decide)) (fun _ hk => hk.2) (.slice Ao30 t515.length co30)) (fun _ hk => hk.2) (.slice Ao33 t518.length co33)) (fun _ h_ => h_.1))) hb); have n2_ := Aside0.mk (Kd.R_elder' (by (with_reducible repeat (first | apply Kd.R_alloc | apply Kd.R_drewN | apply Kd.R_drew)); exact (Kd.R_mono (Kd.R_far (p := ⟨gb521, 1, none⟩) (Kd.R_far (p := ⟨gb521, 0, none⟩) (Kd.R_types HO514.out BK521.out (by decide)) (fun _ hk => hk.2) (.slice Ao30 t515.length co30)) (fun _ hk => hk.2) (.slice Ao33 t518.length co33)) (fun _ h_ => h_.1))) (Kd.R_base ho0) hb); have n3_ := Aside0.mk (Kd.R_elder' (by (with_reducible repeat (first | apply Kd.R_alloc | apply Kd.R_drewN | apply Kd.R_drew)); exact (Kd.R_mono (Kd.R_far (p := ⟨gb521, 1, none⟩) (Kd.R_far (p := ⟨gb521, 0, none⟩) (Kd.R_types HO517.out BK521.out (by decide)) (fun _ hk => hk.2) (.slice Ao30 t515.length co30)) (fun _ hk => hk.2) (.slice Ao33 t518.length co33)) (fun _ h_ => h_.1))) (Kd.R_base ho0) hb); have n4_ := Aside0.mk (Kd.R_below (by (with_reducible repeat (first | apply Kd.R_alloc | apply Kd.R_drewN | apply Kd.R_drew)); exact (Kd.R_mono (Kd.R_far (p := ⟨gb521, 1, none⟩) (Kd.R_far (p := ⟨gb521, 0, none⟩) (Kd.R_types HO520.out BK521.out (by decide)) (fun _ hk => hk.2) (.slice Ao30 t515.length co30)) (fun _ hk => hk.2) (.slice Ao33 t518.length co33)) (fun _ h_ => h_.1))) hb); have n5_ := Aside0.mk (Kd.R_lower (Kd.R_new' (Kd.R_new' (Kd.R_new' ho0 (Kd.R_lt (by (with_reducible repeat (first | apply Kd.R_alloc | apply Kd.R_drewN | apply Kd.R_drew)); exact (Kd.R_mono (Kd.R_far (p := ⟨gb521, 1, none⟩) (Kd.R_far (p := ⟨gb521, 0, none⟩) (Kd.R_types HO508.out BK521.out (by decide)) (fun _ hk => hk.2) (.slice Ao30 t515.length co30)) (fun _ hk => hk.2) (.slice Ao33 t518.length co33)) (fun _ h_ => h_.1))))) (Kd.R_lt (by (with_reducible repeat (first | apply Kd.R_alloc | apply Kd.R_drewN | apply Kd.R_drew)); exact (Kd.R_mono (Kd.R_far (p := ⟨gb521, 1, none⟩) (Kd.R_far (p := ⟨gb521, 0, none⟩) (Kd.R_types HO514.out BK521.out (by decide)) (fun _ hk => hk.2) (.slice Ao30 t515.length co30)) (fun _ hk => hk.2) (.slice Ao33 t518.length co33)) (fun _ h_ => h_.1))))) (Kd.R_lt (by (with_reducible repeat (first | apply Kd.R_alloc | apply Kd.R_drewN | apply Kd.R_drew)); exact (Kd.R_mono (Kd.R_far (p := ⟨gb521, 1, none⟩) (Kd.R_far (p := ⟨gb521, 0, none⟩) (Kd.R_types HO517.out BK521.out (by decide)) (fun _ hk => hk.2) (.slice Ao30 t515.length co30)) (fun _ hk => hk.2) (.slice Ao33 t518.length co33)) (fun _ h_ => h_.1))))) (below_size (by repeat (first | (with_reducible first | exact HB.out | apply below_alloc | apply pw_below_drewN | apply below_drew1 | refine below_set ?_ GE504.out | refine below_set ?_ GE521.out) | exact HB.out)))); have n6_ := Aside0.mk (blk_below (g := gb504) (o := .cells #[.slice A0_0 l0_0.length c0_0, .slice A0_1 l0_1.length c0_1] 30 (0, 0)) (by (with_reducible repeat (first | refine blk_drewN ?_ _ | refine blk_drew ?_ | refine blk_alloc ?_ _)); refine blk_far ?_ NB504_521.out _; (with_reducible repeat (first | refine blk_drewN ?_ _ | refine blk_drew ?_ | refine blk_alloc ?_ _)); refine blk_far ?_ NB504_521.out _; (with_reducible repeat (first | refine blk_drewN ?_ _ | refine blk_drew ?_ | refine blk_alloc ?_ _)); exact BK504.out) hb); have n7_ := Aside0.mk (blk_below (g := gb521) (o := .cells #[.slice Ao30 t515.length co30, .slice Ao33 t518.length co33] 33 (0, 0)) (by (with_reducible repeat (first | refine blk_drewN ?_ _ | refine blk_drew ?_ | refine blk_alloc ?_ _)); refine blk_put (cs := #[.slice Ao30 t515.length co30, .slice none 0 0]) ?_ 1 _ rfl; (with_reducible repeat (first | refine blk_drewN ?_ _ | refine blk_drew ?_ | refine blk_alloc ?_ _)); refine blk_put (cs := #[.slice none 0 0, .slice none 0 0]) ?_ 0 _ rfl; (with_reducible repeat (first | refine blk_drewN ?_ _ | refine blk_drew ?_ | refine blk_alloc ?_ _)); exact BK521.out) hb); have n8_ := Aside0.mk (below_step (by repeat (first | (with_reducible first | exact HB.out | apply below_alloc | apply pw_below_drewN | apply below_drew1 | refine below_set ?_ GE504.out | refine below_set ?_ GE521.out) | exact HB.out)) hb); clear HO508 HO511 HO514 HO517 HO520 BK504 BK521 HB; have HO508 := n0_; have HO511 := n1_; have HO514 := n2_; have HO517 := n3_; have HO520 := n4_; have HO524 := n5_; have BK504 := n6_; have BK521 := n7_; have HB := n8_; clear n0_ n1_ n2_ n3_ n4_ n5_ n6_ n7_ n8_; (try clear hb); (try clear hb2); (try clear hk); (try clear hi); (try clear ho0); obtain ⟨Ao35, co35, eo35⟩ := Kd.R_slice HO524.out; subst eo35; obtain ⟨Ao36, co36, eo36⟩ := Kd.R_slice HO514.out; subst eo36) | ((with_reducible refine gate_callee (f := 18) rfl ?_); refine goesL_ (some 29) rfl rfl Try.func18 (by kernel_rfl) rfl #[.slice Ao35 t522.length co35, .slice Ao36 t512.length co36] rfl (by (try simp only [List.map_toArray, List.map_cons, List.map_nil]); first | done | rfl | (simp only [List.length_drop, List.length_take]; rfl) | (go_simp; done) | (simp [*]; done)) ?_; (with_reducible refine (laws_eqIntS.calls k _ _ t522 _ _ t512 true _ ?side1 ?side2 ?side3 ?side4 A12.out).mono ?_); (case side1 => exact pkC (Kd.R_reads' HO524.out).2.2); (case side2 => exact (Kd.R_reads' HO524.out).2.1); (case side3 => exact pkC (Kd.R_reads' HO514.out).2.2); (case side4 => exact (Kd.R_reads' HO514.out).2.1); rintro e w' ⟨rfl, ⟨nd, rfl⟩⟩; refine ⟨_, rfl, ?_⟩))
        (try (rw [drewN_self w34]; generalize hq_ : World.drewN w34 _ = w34; have n0_ : Aside0 (Kd.R (Kd.int .i64) 3 w34 w.heap.size (fun k_ => (((True ∧ some k_ ≠ (.slice Ao36 t512.length co36 : Value).ownBlock) ∧ some k_ ≠ (.slice Ao30 t515.length co30 : Value).ownBlock) ∧ some k_ ≠ (.slice Ao35 t522.length co35 : Value).ownBlock)) (.slice Ao24 t506.length co24) t506) := ⟨by rw [← hq_]; exact (pkR HO508.out)⟩; have n1_ : Aside0 (Kd.R Kd.bool 4 w34 w.heap.size (fun k_ => (True ∧ some k_ ≠ (.slice Ao33 t518.length co33 : Value).ownBlock)) (.slice Ao25 t509.length co25) t509) := ⟨by rw [← hq_]; exact (pkR HO511.out)⟩; have n2_ : Aside0 (Kd.R (Kd.int .i64) 3 w34 w.heap.size (fun k_ => (((True ∧ some k_ ≠ (.slice Ao24 t506.length co24 : Value).ownBlock) ∧ some k_ ≠ (.slice Ao30 t515.length co30 : Value).ownBlock) ∧ some k_ ≠ (.slice Ao35 t522.length co35 : Value).ownBlock)) (.slice Ao36 t512.length co36) t512) := ⟨by rw [← hq_]; exact (pkR HO514.out)⟩; have n3_ : Aside0 (Kd.R (Kd.int .i64) 3 w34 w.heap.size (fun k_ => (((True ∧ some k_ ≠ (.slice Ao24 t506.length co24 : Value).ownBlock) ∧ some k_ ≠ (.slice Ao36 t512.length co36 : Value).ownBlock) ∧ some k_ ≠ (.slice Ao35 t522.length co35 : Value).ownBlock)) (.slice Ao30 t515.length co30) t515) := ⟨by rw [← hq_]; exact (pkR HO517.out)⟩; have n4_ : Aside0 (Kd.R Kd.bool 4 w34 w.heap.size (fun k_ => (True ∧ some k_ ≠ (.slice Ao25 t509.length co25 : Value).ownBlock)) (.slice Ao33 t518.length co33) t518) := ⟨by rw [← hq_]; exact (pkR HO520.out)⟩; have n5_ : Aside0 (Kd.R (Kd.int .i64) 3 w34 w.heap.size (fun k_ => (((True ∧ some k_ ≠ (.slice Ao24 t506.length co24 : Value).ownBlock) ∧ some k_ ≠ (.slice Ao36 t512.length co36 : Value).ownBlock) ∧ some k_ ≠ (.slice Ao30 t515.length co30 : Value).ownBlock)) (.slice Ao35 t522.length co35) t522) := ⟨by rw [← hq_]; exact (pkR HO524.out)⟩; have n6_ : Aside0 (w34.heap[gb504]? = some (.cells #[.slice A0_0 l0_0.length c0_0, .slice A0_1 l0_1.length c0_1] 30 (0, 0))) := ⟨by rw [← hq_]; exact (pkK BK504.out)⟩; have n7_ : Aside0 (w34.heap[gb521]? = some (.cells #[.slice Ao30 t515.length co30, .slice Ao33 t518.length co33] 33 (0, 0))) := ⟨by rw [← hq_]; exact (pkK BK521.out)⟩; have n8_ : Aside0 (Below w.heap.size w w34) := ⟨by rw [← hq_]; exact (by repeat (first | (with_reducible first | exact HB.out | apply below_alloc | apply pw_below_drewN | apply below_drew1 | refine below_set ?_ GE504.out | refine below_set ?_ GE521.out) | exact HB.out))⟩; clear HO508 HO511 HO514 HO517 HO520 HO524 BK504 BK521 HB hq_; have HO508 := n0_; have HO511 := n1_; have HO514 := n2_; have HO517 := n3_; have HO520 := n4_; have HO524 := n5_; have BK504 := n6_; have BK521 := n7_; have HB := n8_; clear n0_ n1_ n2_ n3_ n4_ n5_ n6_ n7_ n8_))
        have n0_ := Aside0.mk (Kd.R_drew HO508.out)
        have n1_ := Aside0.mk (Kd.R_drew HO511.out)
        have n2_ := Aside0.mk (Kd.R_drew HO514.out)
        have n3_ := Aside0.mk (Kd.R_drew HO517.out)
        have n4_ := Aside0.mk (Kd.R_drew HO520.out)
        have n5_ := Aside0.mk (Kd.R_drew HO524.out)
        have n6_ := Aside0.mk (blk_drew BK504.out)
        have n7_ := Aside0.mk (blk_drew BK521.out)
        have n8_ := Aside0.mk (below_drew1 HB.out)
        clear HO508 HO511 HO514 HO517 HO520 HO524 BK504 BK521 HB
        have HO508 := n0_; have HO511 := n1_; have HO514 := n2_; have HO517 := n3_; have HO520 := n4_; have HO524 := n5_; have BK504 := n6_; have BK521 := n7_; have HB := n8_
        clear n0_ n1_ n2_ n3_ n4_ n5_ n6_ n7_ n8_
        refine start_ (n := 5) (S := fun w' => w'.cell? ⟨gb521, 0, none⟩ = some (.slice Ao30 t515.length co30) ∧ w'.cell? ⟨gb521, 1, none⟩ = some (.slice Ao33 t518.length co33) ∧ w'.cell? ⟨gb504, 0, none⟩ = some (.slice A0_0 l0_0.length c0_0) ∧ w'.cell? ⟨gb504, 1, none⟩ = some (.slice A0_1 l0_1.length c0_1)) (ds := []) #[false, false, false, false, false] (by kernel_rfl) rfl rfl ⟨(blk_cell BK521.out 0).trans rfl, (blk_cell BK521.out 1).trans rfl, (blk_cell BK504.out 0).trans rfl, (blk_cell BK504.out 1).trans rfl⟩ (fun hHeld => ?_)
        generalize w34.drew = w37 at HO508 HO511 HO514 HO517 HO520 HO524 BK504 BK521 HB hHeld ⊢
        refine take_ (i := 0) (N := some 31) (v := ?_) (a' := ?_) #[true, false, false, false, false] rfl rfl (by kernel_rfl) (fun _ _ _ h => h) (Or.inl ⟨by rfl, ?_⟩) hHeld ?_ ?_
        rotate_left
        · rintro w' ⟨s0, s1, s2, s3⟩
          go_simp
          with_reducible rfl
        rotate_left
        · simp only [Act.put, List.setIfInBounds_toArray, List.set_cons_zero, List.set_cons_succ, i64_w, i32_w]
          rfl
        refine take_ (i := 1) (N := some 32) (v := ?_) (a' := ?_) #[true, true, false, false, false] rfl rfl (by kernel_rfl) (fun _ _ _ h => h) (Or.inl ⟨by rfl, ?_⟩) hHeld ?_ ?_
        rotate_left
        · rintro w' ⟨s0, s1, s2, s3⟩
          go_simp
          with_reducible rfl
        rotate_left
        · simp only [Act.put, List.setIfInBounds_toArray, List.set_cons_zero, List.set_cons_succ, i64_w, i32_w]
          rfl
        refine one_ (i := 2) (N := some 33) #[true, true, true, false, false] rfl rfl (by kernel_rfl) (by decide) (fun K hK => ?_)
        refine goes_ Try.func23 (by kernel_rfl) rfl #[.agg #[.slice A0_0 l0_0.length c0_0, .slice A0_1 l0_1.length c0_1]] (by rfl) rfl rfl (by (try simp only [List.map_toArray, List.map_cons, List.map_nil]); first | done | rfl | (simp only [List.length_drop, List.length_take]; rfl) | (go_simp; done) | (simp [*]; done)) ?_
        with_reducible refine (laws_toTokens.calls k _ _ l0_0 _ _ l0_1 t526 t529 _ ?side1 ?side2 ?side3 ?side4 A14.out).mono ?_
        (case side1 => exact pkC (Kd.C_below HR0_0.out HB.out))
        (case side2 => exact HC0_0.out)
        (case side3 => exact pkC (Kd.C_below HR0_1.out HB.out))
        (case side4 => exact HC0_1.out)
        rintro e w38 ⟨v527, v530, rfl, ho0, ho1, hb⟩
        refine ⟨_, rfl, ?_⟩
        have n0_ := Aside0.mk (Kd.R_elder' (pkR HO508.out) (Kd.R_base ho0) hb)
        have n1_ := Aside0.mk (Kd.R_elder' (pkR HO511.out) (Kd.R_base ho1) hb)
        have n2_ := Aside0.mk (Kd.R_elder' (pkR HO514.out) (Kd.R_base ho0) hb)
        have n3_ := Aside0.mk (Kd.R_elder' (pkR HO517.out) (Kd.R_base ho0) hb)
        have n4_ := Aside0.mk (Kd.R_elder' (pkR HO520.out) (Kd.R_base ho1) hb)
        have n5_ := Aside0.mk (Kd.R_elder' (pkR HO524.out) (Kd.R_base ho0) hb)
        have n6_ := Aside0.mk (Kd.R_lower (Kd.R_new' (Kd.R_new' (Kd.R_new' (Kd.R_new' ho0 (Kd.R_lt (pkR HO508.out))) (Kd.R_lt (pkR HO514.out))) (Kd.R_lt (pkR HO517.out))) (Kd.R_lt (pkR HO524.out))) (below_size (by repeat (first | (with_reducible first | exact HB.out | apply below_alloc | apply pw_below_drewN | apply below_drew1 | refine below_set ?_ GE504.out | refine below_set ?_ GE521.out) | exact HB.out))))
        have n7_ := Aside0.mk (Kd.R_lower (Kd.R_new' (Kd.R_new' ho1 (Kd.R_lt (pkR HO511.out))) (Kd.R_lt (pkR HO520.out))) (below_size (by repeat (first | (with_reducible first | exact HB.out | apply below_alloc | apply pw_below_drewN | apply below_drew1 | refine below_set ?_ GE504.out | refine below_set ?_ GE521.out) | exact HB.out))))
        have n8_ := Aside0.mk (blk_below (g := gb504) (o := .cells #[.slice A0_0 l0_0.length c0_0, .slice A0_1 l0_1.length c0_1] 30 (0, 0)) (pkK BK504.out) hb)
        have n9_ := Aside0.mk (blk_below (g := gb521) (o := .cells #[.slice Ao30 t515.length co30, .slice Ao33 t518.length co33] 33 (0, 0)) (pkK BK521.out) hb)
        have n10_ := Aside0.mk (below_step (by repeat (first | (with_reducible first | exact HB.out | apply below_alloc | apply pw_below_drewN | apply below_drew1 | refine below_set ?_ GE504.out | refine below_set ?_ GE521.out) | exact HB.out)) hb)
        clear HO508 HO511 HO514 HO517 HO520 HO524 BK504 BK521 HB
        have HO508 := n0_; have HO511 := n1_; have HO514 := n2_; have HO517 := n3_; have HO520 := n4_; have HO524 := n5_; have HO528 := n6_; have HO531 := n7_; have BK504 := n8_; have BK521 := n9_; have HB := n10_
        clear n0_ n1_ n2_ n3_ n4_ n5_ n6_ n7_ n8_ n9_ n10_
        (try clear hb); (try clear hb2); (try clear hk); (try clear hi); (try clear ho0); (try clear ho1)
        obtain ⟨Ao39, co39, eo39⟩ := Kd.R_slice HO528.out
        (first | subst eo39 | (injection eo39 with f1_ f2_ f3_; have f4_ := f1_.symm; have f5_ := f3_.symm; clear f1_ f2_ f3_; subst f4_; subst f5_))
        obtain ⟨Ao40, co40, eo40⟩ := Kd.R_slice HO531.out
        (first | subst eo40 | (injection eo40 with f1_ f2_ f3_; have f4_ := f1_.symm; have f5_ := f3_.symm; clear f1_ f2_ f3_; subst f4_; subst f5_))
        refine hK.out _ _ ⟨(blk_cell BK521.out 0).trans rfl, (blk_cell BK521.out 1).trans rfl, (blk_cell BK504.out 0).trans rfl, (blk_cell BK504.out 1).trans rfl⟩ (fun hHeld => ?_)
        clear hK K
        refine norm_ (a' := ?_) ?_ ?_
        rotate_left
        · show Act.put _ (some 33) _ = _
          simp only [Act.put, List.setIfInBounds_toArray, List.set_cons_zero, List.set_cons_succ, i64_w, i32_w]
          rfl
        refine one_ (i := 3) (N := some 34) #[true, true, true, true, false] rfl rfl (by kernel_rfl) (by decide) (fun K hK => ?_)
        refine goes_ Try.func25 (by kernel_rfl) rfl #[.agg #[.slice Ao30 t515.length co30, .slice Ao33 t518.length co33], .agg #[.slice Ao39 t526.length co39, .slice Ao40 t529.length co40]] (by rfl) rfl rfl (by (try simp only [List.map_toArray, List.map_cons, List.map_nil]); first | done | rfl | (simp only [List.length_drop, List.length_take]; rfl) | (go_simp; done) | (simp [*]; done)) ?_
        with_reducible refine (laws_eqTokens.calls k _ _ t515 _ _ t518 _ _ t526 _ _ t529 true _ ?side1 ?side2 ?side3 ?side4 ?side5 ?side6 ?side7 ?side8 A15.out).mono ?_
        (case side1 => exact pkC (Kd.R_reads' HO517.out).2.2)
        (case side2 => exact (Kd.R_reads' HO517.out).2.1)
        (case side3 => exact pkC (Kd.R_reads' HO520.out).2.2)
        (case side4 => exact (Kd.R_reads' HO520.out).2.1)
        (case side5 => exact pkC (Kd.R_reads' HO528.out).2.2)
        (case side6 => exact (Kd.R_reads' HO528.out).2.1)
        (case side7 => exact pkC (Kd.R_reads' HO531.out).2.2)
        (case side8 => exact (Kd.R_reads' HO531.out).2.1)
        rintro e w41 ⟨rfl, hb⟩
        refine ⟨_, rfl, ?_⟩
        have n0_ := Aside0.mk (Kd.R_below (pkR HO508.out) hb)
        have n1_ := Aside0.mk (Kd.R_below (pkR HO511.out) hb)
        have n2_ := Aside0.mk (Kd.R_below (pkR HO514.out) hb)
        have n3_ := Aside0.mk (Kd.R_below (pkR HO517.out) hb)
        have n4_ := Aside0.mk (Kd.R_below (pkR HO520.out) hb)
        have n5_ := Aside0.mk (Kd.R_below (pkR HO524.out) hb)
        have n6_ := Aside0.mk (Kd.R_below (pkR HO528.out) hb)
        have n7_ := Aside0.mk (Kd.R_below (pkR HO531.out) hb)
        have n8_ := Aside0.mk (blk_below (g := gb504) (o := .cells #[.slice A0_0 l0_0.length c0_0, .slice A0_1 l0_1.length c0_1] 30 (0, 0)) (pkK BK504.out) hb)
        have n9_ := Aside0.mk (blk_below (g := gb521) (o := .cells #[.slice Ao30 t515.length co30, .slice Ao33 t518.length co33] 33 (0, 0)) (pkK BK521.out) hb)
        have n10_ := Aside0.mk (below_step (by repeat (first | (with_reducible first | exact HB.out | apply below_alloc | apply pw_below_drewN | apply below_drew1 | refine below_set ?_ GE504.out | refine below_set ?_ GE521.out) | exact HB.out)) hb)
        clear HO508 HO511 HO514 HO517 HO520 HO524 HO528 HO531 BK504 BK521 HB
        have HO508 := n0_; have HO511 := n1_; have HO514 := n2_; have HO517 := n3_; have HO520 := n4_; have HO524 := n5_; have HO528 := n6_; have HO531 := n7_; have BK504 := n8_; have BK521 := n9_; have HB := n10_
        clear n0_ n1_ n2_ n3_ n4_ n5_ n6_ n7_ n8_ n9_ n10_
        (try clear hb); (try clear hb2); (try clear hk); (try clear hi)
        refine hK.out _ _ ⟨(blk_cell BK521.out 0).trans rfl, (blk_cell BK521.out 1).trans rfl, (blk_cell BK504.out 0).trans rfl, (blk_cell BK504.out 1).trans rfl⟩ (fun hHeld => ?_)
        clear hK K
        refine norm_ (a' := ?_) ?_ ?_
        rotate_left
        · show Act.put _ (some 34) _ = _
          simp only [Act.put, List.setIfInBounds_toArray, List.set_cons_zero, List.set_cons_succ, i64_w, i32_w]
          rfl
        refine pure_ (i := 4) (N := some 35) (v := ?_) (a' := ?_) #[true, true, true, true, true] rfl rfl (by kernel_rfl) (fun _ _ _ h => h) (Or.inl ⟨by rfl, ?_⟩) ?_ ?_
        rotate_left
        · intro w'
          go_simp
          with_reducible rfl
        rotate_left
        · simp only [Act.put, List.setIfInBounds_toArray, List.set_cons_zero, List.set_cons_succ, i64_w, i32_w]
          rfl
        refine done_ (by kernel_rfl) ?_
        have hcz42_0 : w41.cell? ⟨gb521, 0, none⟩ = some (.slice Ao30 t515.length co30) := (blk_cell BK521.out 0).trans rfl
        have hcz42_1 : w41.cell? ⟨gb521, 1, none⟩ = some (.slice Ao33 t518.length co33) := (blk_cell BK521.out 1).trans rfl
        have hfz42_0 := blk_frozen BK521.out 0
        have hfz42_1 := blk_frozen BK521.out 1
        go_upto_region 14 with (first | ((with_reducible refine gate_callee (f := 38) rfl ?_); refine goesL_ (some 38) rfl rfl Try.func38 (by kernel_rfl) rfl #[.agg #[.slice Ao30 t515.length co30, .slice Ao33 t518.length co33], .int .i64 1] rfl (by (try simp only [List.map_toArray, List.map_cons, List.map_nil]); first | done | rfl | (simp only [List.length_drop, List.length_take]; rfl) | (go_simp; done) | (simp [*]; done)) ?_; (with_reducible refine (laws_markTokens.calls k (fun k_ => some k_ = (.slice Ao30 t515.length co30 : Value).ownBlock) (.slice Ao30 t515.length co30) t515 (fun k_ => some k_ = (.slice Ao33 t518.length co33 : Value).ownBlock) (.slice Ao33 t518.length co33) t518 1 t533 t534 t535 w _ ?side1 ?side2 ?side3 A17.out).mono ?_); (case side1 => repeat (first | (with_reducible first | exact HB.out | apply below_alloc | apply pw_below_drewN | apply below_drew1 | refine below_set ?_ GE504.out | refine below_set ?_ GE521.out) | exact HB.out)); (case side2 => exact Kd.R_tight rfl HO517.out); (case side3 => exact Kd.R_tight rfl HO520.out); rintro e w43 ⟨rfl, hy0, hy1, hb, hkp⟩; refine ⟨_, rfl, ?_⟩; have n0_ := Aside0.mk (blk_kept (pkK BK504.out) hkp (fun hs_ => Or.elim hs_ (fun e_ => (fun e_ => (Kd.R_ne HO517.out BK504.out (by decide)) e_) e_) (fun e_ => (fun e_ => (Kd.R_ne HO520.out BK504.out (by decide)) e_) e_))); have n1_ := Aside0.mk (Kd.R_mono (ok' := fun k_ => some k_ ≠ (.slice Ao36 t512.length co36 : Value).ownBlock ∧ some k_ ≠ (.slice Ao30 t515.length co30 : Value).ownBlock ∧ some k_ ≠ (.slice Ao35 t522.length co35 : Value).ownBlock ∧ some k_ ≠ (.slice Ao39 t526.length co39 : Value).ownBlock) (Kd.R_keptB ((Kd.R_apart' HO508.out (Kd.R_typed HO520.out) (by decide))) hkp (fun k_ hk_ hs_ => Or.elim hs_ (fun e_ => (hk_.1.1.1.2) e_) (fun e_ => (hk_.2) e_))) (fun k_ hk_ => ⟨hk_.1.1.1.1.1.2, hk_.1.1.1.1.2, hk_.1.1.1.2, hk_.1.1.2⟩)); have n2_ := Aside0.mk (Kd.R_mono (ok' := fun k_ => some k_ ≠ (.slice Ao33 t518.length co33 : Value).ownBlock ∧ some k_ ≠ (.slice Ao40 t529.length co40 : Value).ownBlock) (Kd.R_keptB ((Kd.R_apart' HO511.out (Kd.R_typed HO517.out) (by decide))) hkp (fun k_ hk_ hs_ => Or.elim hs_ (fun e_ => (hk_.2) e_) (fun e_ => (hk_.1.1.2) e_))) (fun k_ hk_ => ⟨hk_.1.1.1.2, hk_.1.1.2⟩)); have n3_ := Aside0.mk (Kd.R_mono (ok' := fun k_ => some k_ ≠ (.slice Ao24 t506.length co24 : Value).ownBlock ∧ some k_ ≠ (.slice Ao30 t515.length co30 : Value).ownBlock ∧ some k_ ≠ (.slice Ao35 t522.length co35 : Value).ownBlock ∧ some k_ ≠ (.slice Ao39 t526.length co39 : Value).ownBlock) (Kd.R_keptB ((Kd.R_apart' HO514.out (Kd.R_typed HO520.out) (by decide))) hkp (fun k_ hk_ hs_ => Or.elim hs_ (fun e_ => (hk_.1.1.1.2) e_) (fun e_ => (hk_.2) e_))) (fun k_ hk_ => ⟨hk_.1.1.1.1.1.2, hk_.1.1.1.1.2, hk_.1.1.1.2, hk_.1.1.2⟩)); have n4_ := Aside0.mk (Kd.R_reok rfl hy0 (fun k_ e_ => HO517.out.1 k_ e_)); have n5_ := Aside0.mk (Kd.R_reok rfl hy1 (fun k_ e_ => HO520.out.1 k_ e_)); have n6_ := Aside0.mk (blk_kept (pkK BK521.out) hkp (fun hs_ => Or.elim hs_ (fun e_ => (fun e_ => (Kd.R_ne HO517.out BK521.out (by decide)) e_) e_) (fun e_ => (fun e_ => (Kd.R_ne HO520.out BK521.out (by decide)) e_) e_))); have n7_ := Aside0.mk (Kd.R_mono (ok' := fun k_ => some k_ ≠ (.slice Ao24 t506.length co24 : Value).ownBlock ∧ some k_ ≠ (.slice Ao36 t512.length co36 : Value).ownBlock ∧ some k_ ≠ (.slice Ao30 t515.length co30 : Value).ownBlock ∧ some k_ ≠ (.slice Ao39 t526.length co39 : Value).ownBlock) (Kd.R_keptB ((Kd.R_apart' HO524.out (Kd.R_typed HO520.out) (by decide))) hkp (fun k_ hk_ hs_ => Or.elim hs_ (fun e_ => (hk_.1.1.2) e_) (fun e_ => (hk_.2) e_))) (fun k_ hk_ => ⟨hk_.1.1.1.1.1.2, hk_.1.1.1.1.2, hk_.1.1.1.2, hk_.1.1.2⟩)); have n8_ := Aside0.mk (Kd.R_mono (ok' := fun k_ => some k_ ≠ (.slice Ao24 t506.length co24 : Value).ownBlock ∧ some k_ ≠ (.slice Ao36 t512.length co36 : Value).ownBlock ∧ some k_ ≠ (.slice Ao30 t515.length co30 : Value).ownBlock ∧ some k_ ≠ (.slice Ao35 t522.length co35 : Value).ownBlock) (Kd.R_keptB ((Kd.R_apart' HO528.out (Kd.R_typed HO520.out) (by decide))) hkp (fun k_ hk_ hs_ => Or.elim hs_ (fun e_ => (hk_.1.1.2) e_) (fun e_ => (hk_.2) e_))) (fun k_ hk_ => ⟨hk_.1.1.1.1.1.2, hk_.1.1.1.1.2, hk_.1.1.1.2, hk_.1.1.2⟩)); have n9_ := Aside0.mk (Kd.R_mono (ok' := fun k_ => some k_ ≠ (.slice Ao25 t509.length co25 : Value).ownBlock ∧ some k_ ≠ (.slice Ao33 t518.length co33 : Value).ownBlock) (Kd.R_keptB ((Kd.R_apart' HO531.out (Kd.R_typed HO517.out) (by decide))) hkp (fun k_ hk_ hs_ => Or.elim hs_ (fun e_ => (hk_.2) e_) (fun e_ => (hk_.1.2) e_))) (fun k_ hk_ => ⟨hk_.1.1.1.2, hk_.1.1.2⟩)); have n10_ := Aside0.mk (hb); clear BK504 HO508 HO511 HO514 HO517 HO520 BK521 HO524 HO528 HO531 HB; have BK504 := n0_; have HO508 := n1_; have HO511 := n2_; have HO514 := n3_; have HO517 := n4_; have HO520 := n5_; have BK521 := n6_; have HO524 := n7_; have HO528 := n8_; have HO531 := n9_; have HB := n10_; clear n0_ n1_ n2_ n3_ n4_ n5_ n6_ n7_ n8_ n9_ n10_; (try clear hb); (try clear hkp); (try clear hy0); (try clear hy1)))
        (try simp only [Act.put, List.setIfInBounds_toArray, List.set_cons_zero, List.set_cons_succ])
        go_cut [46] (fun v46 wc => ∃ (kq : Nat) (x46_17 : Bool), v46 = .bool x46_17 ∧ Aside0 (laws_FnExactUnder.j0 kq a1 t512 t522 x46_17 l0_0 l0_1 = some r) ∧ Aside0 (kq ≤ k) ∧ Aside0 (Kd.R (Kd.int .i64) 3 wc w.heap.size (fun k_ => some k_ ≠ ((.slice Ao35 t522.length co35) : Value).ownBlock ∧ some k_ ≠ ((.slice Ao30 t515.length co30) : Value).ownBlock) (.slice Ao36 t512.length co36) t512) ∧ Aside0 (Kd.R (Kd.int .i64) 3 wc w.heap.size (fun k_ => some k_ ≠ ((.slice Ao36 t512.length co36) : Value).ownBlock ∧ some k_ ≠ ((.slice Ao30 t515.length co30) : Value).ownBlock) (.slice Ao35 t522.length co35) t522) ∧ Aside0 (Kd.R (Kd.int .i64) 3 wc w.heap.size (fun k_ => some k_ ≠ ((.slice Ao36 t512.length co36) : Value).ownBlock ∧ some k_ ≠ ((.slice Ao35 t522.length co35) : Value).ownBlock) (.slice Ao30 t515.length co30) t534) ∧ Aside0 (Kd.R Kd.bool 4 wc w.heap.size (fun _ => True) (.slice Ao33 t518.length co33) t535) ∧ Aside0 (wc.heap[gb504]? = some (.cells #[(.slice A0_0 l0_0.length c0_0), (.slice A0_1 l0_1.length c0_1)] 30 (0, 0))) ∧ Aside0 (wc.heap[gb521]? = some (.cells #[(.slice Ao30 t515.length co30), (.slice Ao33 t518.length co33)] 33 (0, 0))) ∧ Aside0 (Below w.heap.size w wc))
        case first =>
          have H := HC18.out
          clear HC18
          by_cases c44 : t533 < 0
          · rw [if_pos c44] at H
            have c44b0 : decide (t533 < 0) = true := decide_eq_true c44
            clear c44
            (first | rw [c44b0] | (simp only [i64_w, i32_w]; rw [c44b0]) | skip)
            cases k with
            | zero => exact absurd H (by simp [laws_FnExactUnder.j0])
            | succ k_ => (simp only [laws_FnExactUnder.j0, if_pos] at H; exact absurd (Option.some.inj H) (by rw [HQ_.out]; simp))
          · rw [if_neg c44] at H
            have c44b0 : decide (t533 < 0) = false := decide_eq_false c44
            clear c44
            (first | rw [c44b0] | (simp only [i64_w, i32_w]; rw [c44b0]) | skip)
            replace H := Option.bind_eq_some_iff.mp H
            obtain ⟨t536, A450, H⟩ := H
            replace H : (laws_FnExactUnder.j0 k a1 t512 t522 (!t536) l0_0 l0_1) = some r := H
            have A45 := Aside0.mk A450
            clear A450
            have H' := Aside0.mk H
            clear H
            go_wp2_with (first | (go_at_call 18; (with_reducible refine (laws_eqIntS.calls k _ _ t522 _ _ t512 t536 _ ?side1 ?side2 ?side3 ?side4 A45.out).mono ?_); (case side1 => exact pkC (Kd.R_reads' HO524.out).2.2); (case side2 => exact (Kd.R_reads' HO524.out).2.1); (case side3 => exact pkC (Kd.R_reads' HO514.out).2.2); (case side4 => exact (Kd.R_reads' HO514.out).2.1); rintro e w' ⟨rfl, ⟨nd, rfl⟩⟩))
            go_meet
            case rel => exact ⟨_, (!t536), (by first | rfl | (simp; done) | (simp [*]; done)), H', ⟨by first | omega | exact Nat.le_refl _⟩, ⟨by (with_reducible repeat (first | apply Kd.R_alloc | apply Kd.R_drewN | apply Kd.R_drew)); exact Kd.R_mono HO514.out (fun _ hk => ⟨hk.2.2.1, hk.2.1⟩)⟩, ⟨by (with_reducible repeat (first | apply Kd.R_alloc | apply Kd.R_drewN | apply Kd.R_drew)); exact Kd.R_mono HO524.out (fun _ hk => ⟨hk.2.1, hk.2.2.1⟩)⟩, ⟨by (with_reducible repeat (first | apply Kd.R_alloc | apply Kd.R_drewN | apply Kd.R_drew)); exact Kd.R_mono HO517.out (fun _ hk => ⟨hk.1.1.2, hk.1.2⟩)⟩, ⟨by (with_reducible repeat (first | apply Kd.R_alloc | apply Kd.R_drewN | apply Kd.R_drew)); exact Kd.R_mono HO520.out (fun _ hk => trivial)⟩, ⟨pkK BK504.out⟩, ⟨pkK BK521.out⟩, ⟨by repeat (first | (with_reducible first | exact HB.out | apply below_alloc | apply pw_below_drewN | apply below_drew1 | refine below_set ?_ GE504.out | refine below_set ?_ GE521.out) | exact HB.out)⟩⟩
        case rest =>
          clear HC18
          try clear c1
          try clear c2
          try clear p2
          try clear c3
          try clear c4
          try clear c4b0
          try clear c10
          try clear c13
          try clear c16
          try clear c18
          try clear c21
          try clear c23
          try clear c25
          try clear c31
          try clear c36
          try clear c37
          try clear c38
          try clear c44
          try clear c44b0
          try clear hcz20_0
          try clear hcz20_1
          try clear hcz22_0
          try clear hcz22_1
          try clear hcz27_0
          try clear hcz27_1
          try clear hcz32_0
          try clear hcz32_1
          try clear hcz42_0
          try clear hcz42_1
          try clear hcz6_0
          try clear hcz6_1
          try clear hfz20_0
          try clear hfz20_1
          try clear hfz22_0
          try clear hfz22_1
          try clear hfz27_0
          try clear hfz27_1
          try clear hfz32_0
          try clear hfz32_1
          try clear hfz42_0
          try clear hfz42_1
          try clear hfz6_0
          try clear hfz6_1
          obtain ⟨kq, x46_17, rfl, HA, HJ17, HO_6, HO_8, HO_522000, HO_522001, BK504, BK521, HB⟩ := hcut
          have hl522000_17 := (Kd.R_reads' HO_522000.out).1
          rw [hl522000_17] at HO_522000
          (try simp only [hl522000_17])
          (try simp only [hl522000_17] at BK504)
          (try simp only [hl522000_17] at BK521)
          (try simp only [hl522000_17] at HO_6)
          (try simp only [hl522000_17] at HO_8)
          (try simp only [hl522000_17] at HO_522001)
          have hl522001_17 := (Kd.R_reads' HO_522001.out).1
          rw [hl522001_17] at HO_522001
          (try simp only [hl522001_17])
          (try simp only [hl522001_17] at BK504)
          (try simp only [hl522001_17] at BK521)
          (try simp only [hl522001_17] at HO_6)
          (try simp only [hl522001_17] at HO_8)
          (try simp only [hl522001_17] at HO_522000)
          cases kq with
          | zero => exact absurd HA.out (by simp [laws_FnExactUnder.j0])
          | succ kj17 =>
            have H := HA.out
            clear HA
            simp only [laws_FnExactUnder.j0] at H
            by_cases c46 : x46_17 = true
            · subst c46
              have H1 : (some false) = some r := by rw [if_pos rfl] at H; exact H
              clear H
              have H := H1
              clear H1
              exact absurd (Option.some.inj H) (by rw [HQ_.out]; simp)
            · replace c46 := Bool.eq_false_iff.mpr c46
              subst c46
              have H1 : ((laws_markIntS.f kj17 t522 1).bind fun bt537 => ((laws_heldIntS.f kj17 bt537.2 1).bind fun t539 => (if t539 < 0 then (some false) else (if t539 = bt537.1 then ((laws_toTokens.f kj17 l0_0 l0_1).bind fun bt540 => ((impl_Under.f kj17 bt540.1 bt540.2 a1).bind fun t546 => ((laws_eqIntS.f kj17 t546 t512).bind fun t549 => (if t549 = true then ((laws_heldIntS.f kj17 bt537.2 1).bind fun t550 => (if t550 < 0 then (some false) else (if t550 = bt537.1 then (some true) else (some false)))) else (some false))))) else (some false))))) = some r := by rw [if_neg (show ¬ (false = true) by decide)] at H; exact H
              clear H
              have H := H1
              clear H1
              replace H := Option.bind_eq_some_iff.mp H
              obtain ⟨⟨t537, t538⟩, A470, H⟩ := H
              replace H : ((laws_heldIntS.f kj17 t538 1).bind fun t539 => (if t539 < 0 then (some false) else (if t539 = t537 then ((laws_toTokens.f kj17 l0_0 l0_1).bind fun bt540 => ((impl_Under.f kj17 bt540.1 bt540.2 a1).bind fun t546 => ((laws_eqIntS.f kj17 t546 t512).bind fun t549 => (if t549 = true then ((laws_heldIntS.f kj17 t538 1).bind fun t550 => (if t550 < 0 then (some false) else (if t550 = t537 then (some true) else (some false)))) else (some false))))) else (some false)))) = some r := H
              have A47 := Aside0.mk A470
              clear A470
              replace H := Option.bind_eq_some_iff.mp H
              obtain ⟨t539, A480, H⟩ := H
              replace H : (if t539 < 0 then (some false) else (if t539 = t537 then ((laws_toTokens.f kj17 l0_0 l0_1).bind fun bt540 => ((impl_Under.f kj17 bt540.1 bt540.2 a1).bind fun t546 => ((laws_eqIntS.f kj17 t546 t512).bind fun t549 => (if t549 = true then ((laws_heldIntS.f kj17 t538 1).bind fun t550 => (if t550 < 0 then (some false) else (if t550 = t537 then (some true) else (some false)))) else (some false))))) else (some false))) = some r := H
              have A48 := Aside0.mk A480
              clear A480
              by_cases c49 : t539 < 0
              · rw [if_pos c49] at H
                have c49b0 : decide (t539 < 0) = true := decide_eq_true c49
                clear c49
                exact absurd (Option.some.inj H) (by rw [HQ_.out]; simp)
              · rw [if_neg c49] at H
                have c49b0 : decide (t539 < 0) = false := decide_eq_false c49
                clear c49
                by_cases c50 : t539 = t537
                · rw [if_pos c50] at H
                  have c50b0 : (t539 == t537) = true := beq_iff_eq.mpr c50
                  have c50b1 : (t539 != t537) = false := bne_eq_false_iff_eq.mpr c50
                  clear c50
                  replace H := Option.bind_eq_some_iff.mp H
                  obtain ⟨⟨t540, t543⟩, A510, H⟩ := H
                  replace H : ((impl_Under.f kj17 t540 t543 a1).bind fun t546 => ((laws_eqIntS.f kj17 t546 t512).bind fun t549 => (if t549 = true then ((laws_heldIntS.f kj17 t538 1).bind fun t550 => (if t550 < 0 then (some false) else (if t550 = t537 then (some true) else (some false)))) else (some false)))) = some r := H
                  have A51 := Aside0.mk A510
                  clear A510
                  replace H := Option.bind_eq_some_iff.mp H
                  obtain ⟨t546, A520, H⟩ := H
                  replace H : ((laws_eqIntS.f kj17 t546 t512).bind fun t549 => (if t549 = true then ((laws_heldIntS.f kj17 t538 1).bind fun t550 => (if t550 < 0 then (some false) else (if t550 = t537 then (some true) else (some false)))) else (some false))) = some r := H
                  have A52 := Aside0.mk A520
                  clear A520
                  replace H := Option.bind_eq_some_iff.mp H
                  obtain ⟨t549, A530, H⟩ := H
                  replace H : (if t549 = true then ((laws_heldIntS.f kj17 t538 1).bind fun t550 => (if t550 < 0 then (some false) else (if t550 = t537 then (some true) else (some false)))) else (some false)) = some r := H
                  have A53 := Aside0.mk A530
                  clear A530
                  by_cases c54 : t549 = true
                  · subst c54
                    have H1 : ((laws_heldIntS.f kj17 t538 1).bind fun t550 => (if t550 < 0 then (some false) else (if t550 = t537 then (some true) else (some false)))) = some r := by rw [if_pos rfl] at H; exact H
                    clear H
                    have H := H1
                    clear H1
                    replace H := Option.bind_eq_some_iff.mp H
                    obtain ⟨t550, A550, H⟩ := H
                    replace H : (if t550 < 0 then (some false) else (if t550 = t537 then (some true) else (some false))) = some r := H
                    have A55 := Aside0.mk A550
                    clear A550
                    by_cases c56 : t550 < 0
                    · rw [if_pos c56] at H
                      have c56b0 : decide (t550 < 0) = true := decide_eq_true c56
                      clear c56
                      exact absurd (Option.some.inj H) (by rw [HQ_.out]; simp)
                    · rw [if_neg c56] at H
                      have c56b0 : decide (t550 < 0) = false := decide_eq_false c56
                      clear c56
                      by_cases c57 : t550 = t537
                      · rw [if_pos c57] at H
                        have c57b0 : (t550 == t537) = true := beq_iff_eq.mpr c57
                        have c57b1 : (t550 != t537) = false := bne_eq_false_iff_eq.mpr c57
                        clear c57
                        obtain rfl := Option.some.inj H
                        go_wp2_with (first | ((with_reducible refine gate_callee (f := 28) rfl ?_); refine goesL_ (some 49) rfl rfl Try.func28 (by kernel_rfl) rfl #[.slice Ao35 t522.length co35, .int .i64 1] rfl (by (try simp only [List.map_toArray, List.map_cons, List.map_nil]); first | done | rfl | (simp only [List.length_drop, List.length_take]; rfl) | (go_simp; done) | (simp [*]; done)) ?_; (with_reducible refine (laws_markIntS.calls kj17 (fun k_ => some k_ = (.slice Ao35 t522.length co35 : Value).ownBlock) (.slice Ao35 t522.length co35) t522 1 t537 t538 w _ ?side1 ?side2 A47.out).mono ?_); (case side1 => repeat (first | (with_reducible first | exact HB.out | apply below_alloc | apply pw_below_drewN | apply below_drew1 | refine below_set ?_ GE504.out | refine below_set ?_ GE521.out) | exact HB.out)); (case side2 => exact Kd.R_tight rfl HO_8.out); rintro e w58 ⟨rfl, hy0, hb, hkp⟩; refine ⟨_, rfl, ?_⟩; have n0_ := Aside0.mk (Kd.R_mono (ok' := fun k_ => some k_ ≠ (.slice Ao35 t522.length co35 : Value).ownBlock ∧ some k_ ≠ (.slice Ao30 t534.length co30 : Value).ownBlock) (Kd.R_keptB (HO_6.out) hkp (fun k_ hk_ hs_ => (hk_.1) hs_)) (fun k_ hk_ => ⟨hk_.1.1, hk_.1.2⟩)); have n1_ := Aside0.mk (Kd.R_reok rfl hy0 (fun k_ e_ => HO_8.out.1 k_ e_)); have n2_ := Aside0.mk (Kd.R_mono (ok' := fun k_ => some k_ ≠ (.slice Ao36 t512.length co36 : Value).ownBlock ∧ some k_ ≠ (.slice Ao35 t522.length co35 : Value).ownBlock) (Kd.R_keptB (HO_522000.out) hkp (fun k_ hk_ hs_ => (hk_.2) hs_)) (fun k_ hk_ => ⟨hk_.1.1, hk_.1.2⟩)); have n3_ := Aside0.mk (Kd.R_mono (ok' := fun k_ => True) (Kd.R_keptB ((Kd.R_apart' HO_522001.out (Kd.R_typed HO_8.out) (by decide))) hkp (fun k_ hk_ hs_ => (hk_.2) hs_)) (fun k_ hk_ => trivial)); have n4_ := Aside0.mk (blk_kept (pkK BK504.out) hkp (fun hs_ => (fun e_ => (Kd.R_ne HO_8.out BK504.out (by decide)) e_) hs_)); have n5_ := Aside0.mk (blk_kept (pkK BK521.out) hkp (fun hs_ => (fun e_ => (Kd.R_ne HO_8.out BK521.out (by decide)) e_) hs_)); have n6_ := Aside0.mk (hb); clear HO_6 HO_8 HO_522000 HO_522001 BK504 BK521 HB; have HO_6 := n0_; have HO_8 := n1_; have HO_522000 := n2_; have HO_522001 := n3_; have BK504 := n4_; have BK521 := n5_; have HB := n6_; clear n0_ n1_ n2_ n3_ n4_ n5_ n6_; (try clear hb); (try clear hkp); (try clear hy0)) | ((with_reducible refine gate_callee (f := 29) rfl ?_); refine goesL_ (some 52) rfl rfl Try.func29 (by kernel_rfl) rfl #[.slice Ao35 t538.length co35, .int .i64 1] rfl (by (try simp only [List.map_toArray, List.map_cons, List.map_nil]); first | done | (rw [show t538.length = t522.length from (Kd.R_reads' HO_8.out).1.symm] <;> rfl) | rfl | (simp only [List.length_drop, List.length_take]; rfl) | (go_simp; done) | (simp [*]; done)) ?_; (with_reducible refine (laws_heldIntS.calls kj17 _ _ t538 1 t539 _ ?side1 ?side2 A48.out).mono ?_); (case side1 => exact pkC (Kd.R_reads' HO_8.out).2.2); (case side2 => rw [show t538.length = t522.length from (Kd.R_reads' HO_8.out).1.symm]; exact (Kd.R_reads' HO_8.out).2.1); rintro e w' ⟨rfl, ⟨nd, rfl⟩⟩; refine ⟨_, rfl, ?_⟩; have hnb59 := NB504_521.out; have hnc59 := NB521_504.out; have hcz60_0 : w58.cell? ⟨gb504, 0, none⟩ = some (.slice A0_0 l0_0.length c0_0) := (blk_cell BK504.out 0).trans rfl; have hcz60_1 : w58.cell? ⟨gb504, 1, none⟩ = some (.slice A0_1 l0_1.length c0_1) := (blk_cell BK504.out 1).trans rfl; have hfz60_0 := blk_frozen BK504.out 0; have hfz60_1 := blk_frozen BK504.out 1) | ((with_reducible refine gate_callee (f := 23) rfl ?_); refine goesL_ (some 59) rfl rfl Try.func23 (by kernel_rfl) rfl #[.agg #[.slice A0_0 l0_0.length c0_0, .slice A0_1 l0_1.length c0_1]] rfl (by (try simp only [List.map_toArray, List.map_cons, List.map_nil]); first | done | rfl | (simp only [List.length_drop, List.length_take]; rfl) | (go_simp; done) | (simp [*]; done)) ?_; (with_reducible refine (laws_toTokens.calls kj17 _ _ l0_0 _ _ l0_1 t540 t543 _ ?side1 ?side2 ?side3 ?side4 A51.out).mono ?_); (case side1 => repeat (first | exact (Kd.C_below HR0_0.out (by repeat (first | (with_reducible first | exact HB.out | apply below_alloc | apply pw_below_drewN | apply below_drew1 | refine below_set ?_ GE504.out | refine below_set ?_ GE521.out) | exact HB.out))) | (with_reducible refine Kd.C_alloc ?_ _) | (with_reducible refine Kd.C_drewN ?_ _) | (with_reducible refine Kd.C_drew ?_))); (case side2 => exact HC0_0.out); (case side3 => repeat (first | exact (Kd.C_below HR0_1.out (by repeat (first | (with_reducible first | exact HB.out | apply below_alloc | apply pw_below_drewN | apply below_drew1 | refine below_set ?_ GE504.out | refine below_set ?_ GE521.out) | exact HB.out))) | (with_reducible refine Kd.C_alloc ?_ _) | (with_reducible refine Kd.C_drewN ?_ _) | (with_reducible refine Kd.C_drew ?_))); (case side4 => exact HC0_1.out); rintro e w61 ⟨v541, v544, rfl, ho0, ho1, hb⟩; refine ⟨_, rfl, ?_⟩; have n0_ := Aside0.mk (Kd.R_elder' (pkR HO_6.out) (Kd.R_base ho0) hb); have n1_ := Aside0.mk (Kd.R_elder' (pkR HO_8.out) (Kd.R_base ho0) hb); have n2_ := Aside0.mk (Kd.R_elder' (pkR HO_522000.out) (Kd.R_base ho0) hb); have n3_ := Aside0.mk (Kd.R_elder' (pkR HO_522001.out) (Kd.R_base ho1) hb); have n4_ := Aside0.mk (Kd.R_lower (Kd.R_new' (Kd.R_new' (Kd.R_new' ho0 (Kd.R_lt (pkR HO_6.out))) (Kd.R_lt (pkR HO_8.out))) (Kd.R_lt (pkR HO_522000.out))) (below_size (by repeat (first | (with_reducible first | exact HB.out | apply below_alloc | apply pw_below_drewN | apply below_drew1 | refine below_set ?_ GE504.out | refine below_set ?_ GE521.out) | exact HB.out)))); have n5_ := Aside0.mk (Kd.R_lower (Kd.R_new' ho1 (Kd.R_lt (pkR HO_522001.out))) (below_size (by repeat (first | (with_reducible first | exact HB.out | apply below_alloc | apply pw_below_drewN | apply below_drew1 | refine below_set ?_ GE504.out | refine below_set ?_ GE521.out) | exact HB.out)))); have n6_ := Aside0.mk (blk_below (g := gb504) (o := .cells #[.slice A0_0 l0_0.length c0_0, .slice A0_1 l0_1.length c0_1] 30 (0, 0)) (pkK BK504.out) hb); have n7_ := Aside0.mk (blk_below (g := gb521) (o := .cells #[.slice Ao30 t534.length co30, .slice Ao33 t535.length co33] 33 (0, 0)) (pkK BK521.out) hb); have n8_ := Aside0.mk (below_step (by repeat (first | (with_reducible first | exact HB.out | apply below_alloc | apply pw_below_drewN | apply below_drew1 | refine below_set ?_ GE504.out | refine below_set ?_ GE521.out) | exact HB.out)) hb); clear HO_6 HO_8 HO_522000 HO_522001 BK504 BK521 HB; have HO_6 := n0_; have HO_8 := n1_; have HO_522000 := n2_; have HO_522001 := n3_; have HO542 := n4_; have HO545 := n5_; have BK504 := n6_; have BK521 := n7_; have HB := n8_; clear n0_ n1_ n2_ n3_ n4_ n5_ n6_ n7_ n8_; (try clear hb); (try clear hb2); (try clear hk); (try clear hi); (try clear ho0); (try clear ho1); obtain ⟨Ao62, co62, eo62⟩ := Kd.R_slice HO542.out; subst eo62; obtain ⟨Ao63, co63, eo63⟩ := Kd.R_slice HO545.out; subst eo63) | ((with_reducible refine gate_callee (f := 37) rfl ?_); refine goesL_ (some 61) rfl rfl Try.func37 (by kernel_rfl) rfl #[.agg #[.slice Ao62 t540.length co62, .slice Ao63 t543.length co63], .int .i64 a1] rfl (by (try simp only [List.map_toArray, List.map_cons, List.map_nil]); first | done | rfl | (simp only [List.length_drop, List.length_take]; rfl) | (go_simp; done) | (simp [*]; done)) ?_; (with_reducible refine (impl_Under.calls kj17 _ _ t540 _ _ t543 a1 t546 _ ?side1 ?side2 ?side3 ?side4 A52.out).mono ?_); (case side1 => exact pkC (Kd.R_reads' HO542.out).2.2); (case side2 => exact (Kd.R_reads' HO542.out).2.1); (case side3 => exact pkC (Kd.R_reads' HO545.out).2.2); (case side4 => exact (Kd.R_reads' HO545.out).2.1); rintro e w64 ⟨v547, rfl, ho0, hb⟩; refine ⟨_, rfl, ?_⟩; have n0_ := Aside0.mk (Kd.R_elder' (pkR HO_6.out) (Kd.R_base ho0) hb); have n1_ := Aside0.mk (Kd.R_elder' (pkR HO_8.out) (Kd.R_base ho0) hb); have n2_ := Aside0.mk (Kd.R_elder' (pkR HO_522000.out) (Kd.R_base ho0) hb); have n3_ := Aside0.mk (Kd.R_below (pkR HO_522001.out) hb); have n4_ := Aside0.mk (Kd.R_elder' (pkR HO542.out) (Kd.R_base ho0) hb); have n5_ := Aside0.mk (Kd.R_below (pkR HO545.out) hb); have n6_ := Aside0.mk (Kd.R_lower (Kd.R_new' (Kd.R_new' (Kd.R_new' (Kd.R_new' ho0 (Kd.R_lt (pkR HO_6.out))) (Kd.R_lt (pkR HO_8.out))) (Kd.R_lt (pkR HO_522000.out))) (Kd.R_lt (pkR HO542.out))) (below_size (by repeat (first | (with_reducible first | exact HB.out | apply below_alloc | apply pw_below_drewN | apply below_drew1 | refine below_set ?_ GE504.out | refine below_set ?_ GE521.out) | exact HB.out)))); have n7_ := Aside0.mk (blk_below (g := gb504) (o := .cells #[.slice A0_0 l0_0.length c0_0, .slice A0_1 l0_1.length c0_1] 30 (0, 0)) (pkK BK504.out) hb); have n8_ := Aside0.mk (blk_below (g := gb521) (o := .cells #[.slice Ao30 t534.length co30, .slice Ao33 t535.length co33] 33 (0, 0)) (pkK BK521.out) hb); have n9_ := Aside0.mk (below_step (by repeat (first | (with_reducible first | exact HB.out | apply below_alloc | apply pw_below_drewN | apply below_drew1 | refine below_set ?_ GE504.out | refine below_set ?_ GE521.out) | exact HB.out)) hb); clear HO_6 HO_8 HO_522000 HO_522001 HO542 HO545 BK504 BK521 HB; have HO_6 := n0_; have HO_8 := n1_; have HO_522000 := n2_; have HO_522001 := n3_; have HO542 := n4_; have HO545 := n5_; have HO548 := n6_; have BK504 := n7_; have BK521 := n8_; have HB := n9_; clear n0_ n1_ n2_ n3_ n4_ n5_ n6_ n7_ n8_ n9_; (try clear hb); (try clear hb2); (try clear hk); (try clear hi); (try clear ho0); obtain ⟨Ao65, co65, eo65⟩ := Kd.R_slice HO548.out; subst eo65) | ((with_reducible refine gate_callee (f := 18) rfl ?_); refine goesL_ (some 64) rfl rfl Try.func18 (by kernel_rfl) rfl #[.slice Ao65 t546.length co65, .slice Ao36 t512.length co36] rfl (by (try simp only [List.map_toArray, List.map_cons, List.map_nil]); first | done | rfl | (simp only [List.length_drop, List.length_take]; rfl) | (go_simp; done) | (simp [*]; done)) ?_; (with_reducible refine (laws_eqIntS.calls kj17 _ _ t546 _ _ t512 true _ ?side1 ?side2 ?side3 ?side4 A53.out).mono ?_); (case side1 => exact pkC (Kd.R_reads' HO548.out).2.2); (case side2 => exact (Kd.R_reads' HO548.out).2.1); (case side3 => exact pkC (Kd.R_reads' HO_6.out).2.2); (case side4 => exact (Kd.R_reads' HO_6.out).2.1); rintro e w' ⟨rfl, ⟨nd, rfl⟩⟩; refine ⟨_, rfl, ?_⟩) | ((with_reducible refine gate_callee (f := 29) rfl ?_); refine goesL_ (some 68) rfl rfl Try.func29 (by kernel_rfl) rfl #[.slice Ao35 t538.length co35, .int .i64 1] rfl (by (try simp only [List.map_toArray, List.map_cons, List.map_nil]); first | done | (rw [show t538.length = t522.length from (Kd.R_reads' HO_8.out).1.symm] <;> rfl) | rfl | (simp only [List.length_drop, List.length_take]; rfl) | (go_simp; done) | (simp [*]; done)) ?_; (with_reducible refine (laws_heldIntS.calls kj17 _ _ t538 1 t550 _ ?side1 ?side2 A55.out).mono ?_); (case side1 => exact pkC (Kd.R_reads' HO_8.out).2.2); (case side2 => rw [show t538.length = t522.length from (Kd.R_reads' HO_8.out).1.symm]; exact (Kd.R_reads' HO_8.out).2.1); rintro e w' ⟨rfl, ⟨nd, rfl⟩⟩; refine ⟨_, rfl, ?_⟩))
                        go_ret
                        exact ⟨by first | rfl | (simp [errW_none, errW_some] <;> rfl) | (simp [*, errW_none, errW_some] <;> rfl), by repeat (first | (with_reducible first | exact HB.out | apply below_alloc | apply pw_below_drewN | apply below_drew1 | refine below_set ?_ GE504.out | refine below_set ?_ GE521.out) | exact HB.out)⟩
                      · rw [if_neg c57] at H
                        have c57b0 : (t550 == t537) = false := beq_eq_false_iff_ne.mpr c57
                        have c57b1 : (t550 != t537) = true := bne_iff_ne.mpr c57
                        exact absurd (Option.some.inj H) (by rw [HQ_.out]; simp)
                  · replace c54 := Bool.eq_false_iff.mpr c54
                    subst c54
                    have H1 : (some false) = some r := by rw [if_neg (show ¬ (false = true) by decide)] at H; exact H
                    clear H
                    have H := H1
                    clear H1
                    exact absurd (Option.some.inj H) (by rw [HQ_.out]; simp)
                · rw [if_neg c50] at H
                  have c50b0 : (t539 == t537) = false := beq_eq_false_iff_ne.mpr c50
                  have c50b1 : (t539 != t537) = true := bne_iff_ne.mpr c50
                  exact absurd (Option.some.inj H) (by rw [HQ_.out]; simp)
      · replace c16 := Bool.eq_false_iff.mpr c16
        subst c16
        have H1 : (some false) = some r := by rw [if_neg (show ¬ (false = true) by decide)] at H; exact H
        clear H
        have H := H1
        clear H1
        exact absurd (Option.some.inj H) (by rw [HQ_.out]; simp)
    · replace c13 := Bool.eq_false_iff.mpr c13
      subst c13
      have H1 : (some false) = some r := by rw [if_neg (show ¬ (false = true) by decide)] at H; exact H
      clear H
      have H := H1
      clear H1
      exact absurd (Option.some.inj H) (by rw [HQ_.out]; simp)
end Go.Proofs.Ytghmhekjdjdleaa.Z
