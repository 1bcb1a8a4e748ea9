/- The Go functions laws_FnExactNewToken as Lean functions, each with a proof that its code comes to just these answers; conditions: those of each theorem. -/
import Derived.Test.YtghmhekjdjdleaaZx0
import Derived.Test.YtghmhekjdjdleaaZx4
import Derived.Test.YtghmhekjdjdleaaZx6
import Derived.Test.YtghmhekjdjdleaaZx8
import Derived.Test.YtghmhekjdjdleaaZx16
import Derived.Test.YtghmhekjdjdleaaZx18
import Derived.Test.YtghmhekjdjdleaaZx20
import Derived.Test.YtghmhekjdjdleaaZx21
namespace Go.Proofs.Ytghmhekjdjdleaa.Z
open Go.RowKit Go.Proofs.YtghmhekjdjdleaaW.PrintWords Go.Proofs.YtghmhekjdjdleaaW.PrintLast Go.Proofs.YtghmhekjdjdleaaW.PrintMore
attribute [local go_sem] max2_int min2_int max_two min_two max_three min_three max_four min_four   -- for this text's walks alone
set_option linter.unusedVariables false
set_option linter.unusedSimpArgs false
mutual
def laws_FnExactNewToken.j0 : Nat → Int → Int → Int → Int → Int → Bool → List Int → List Bool → List Int → List Bool → List Int → List Bool → List Int → List Bool → Option (Bool)
  | 0, _, _, _, _, _, _, _, _, _, _, _, _, _, _ => none
  | k + 1, x1, x7, x8, x11, x12, x54, x623000, x623001, x639000, x639001, x646000, x646001, x655000, x655001 => if x54 = true then (some false) else ((laws_toTokens.f k x623000 x623001).bind fun bt656 => ((laws_eqTokens.f k x646000 x646001 bt656.1 bt656.2).bind fun t662 => (if t662 = true then ((laws_markTokens.f k x646000 x646001 1).bind fun bt663 => (if bt663.1 < 0 then (laws_FnExactNewToken.j1 k x1 x7 x8 true x623000 x623001 x639000 x639001 x655000 x655001) else ((laws_eqTokens.f k x655000 x655001 x639000 x639001).bind fun t666 => (if t666 = true then (if x11 = x7 then (laws_FnExactNewToken.j1 k x1 x7 x8 (x12 != x8) x623000 x623001 x639000 x639001 x655000 x655001) else (laws_FnExactNewToken.j1 k x1 x7 x8 true x623000 x623001 x639000 x639001 x655000 x655001)) else (laws_FnExactNewToken.j1 k x1 x7 x8 true x623000 x623001 x639000 x639001 x655000 x655001))))) else (some false))))
def laws_FnExactNewToken.j1 : Nat → Int → Int → Int → Bool → List Int → List Bool → List Int → List Bool → List Int → List Bool → Option (Bool)
  | 0, _, _, _, _, _, _, _, _, _, _ => none
  | k + 1, x1, x7, x8, x80, x623000, x623001, x639000, x639001, x655000, x655001 => if x80 = true then (some false) else ((laws_markTokens.f k x655000 x655001 1).bind fun bt667 => ((laws_heldTokens.f k bt667.2.1 bt667.2.2 1).bind fun t670 => (if t670 < 0 then (some false) else (if t670 = bt667.1 then ((laws_toTokens.f k x623000 x623001).bind fun bt671 => ((impl_NewToken.f k bt671.1 bt671.2 x1).bind fun bt677 => ((laws_eqTokens.f k bt677.1 bt677.2.1 x639000 x639001).bind fun t686 => (if t686 = true then (if bt677.2.2.1 = x7 then (laws_FnExactNewToken.j2 k bt667.1 (bt677.2.2.2 != x8) bt667.2.1 bt667.2.2) else (laws_FnExactNewToken.j2 k bt667.1 true bt667.2.1 bt667.2.2)) else (laws_FnExactNewToken.j2 k bt667.1 true bt667.2.1 bt667.2.2))))) else (some false)))))
def laws_FnExactNewToken.j2 : Nat → Int → Bool → List Int → List Bool → Option (Bool)
  | 0, _, _, _, _ => none
  | k + 1, x14, x113, x655000, x655001 => if x113 = true then (some false) else ((laws_heldTokens.f k x655000 x655001 1).bind fun t687 => (if t687 < 0 then (some false) else (if t687 = x14 then (some true) else (some false))))
end
def laws_FnExactNewToken.f (k : Nat) (l0_0 : List Int) (l0_1 : List Bool) (a1 : Int) : Option (Bool) := (laws_szTokens.f l0_0 l0_1 1048576).bind fun t623 => (if t623 < 0 then (some true) else ((laws_toTokens.f k l0_0 l0_1).bind fun bt624 => ((spec_NewToken.f k bt624.1 bt624.2 a1).bind fun bt630 => ((laws_toTokens.f k l0_0 l0_1).bind fun bt639 => ((impl_NewToken.f k bt639.1 bt639.2 a1).bind fun bt646 => ((laws_eqTokens.f k bt646.1 bt646.2.1 bt630.1 bt630.2.1).bind fun t655 => (if t655 = true then (if bt646.2.2.1 = bt630.2.2.1 then (laws_FnExactNewToken.j0 k a1 bt630.2.2.1 bt630.2.2.2 bt646.2.2.1 bt646.2.2.2 (bt646.2.2.2 != bt630.2.2.2) l0_0 l0_1 bt630.1 bt630.2.1 bt639.1 bt639.2 bt646.1 bt646.2.1) else (laws_FnExactNewToken.j0 k a1 bt630.2.2.1 bt630.2.2.2 bt646.2.2.1 bt646.2.2.2 true l0_0 l0_1 bt630.1 bt630.2.1 bt639.1 bt639.2 bt646.1 bt646.2.1)) else (laws_FnExactNewToken.j0 k a1 bt630.2.2.1 bt630.2.2.2 bt646.2.2.1 bt646.2.2.2 true l0_0 l0_1 bt630.1 bt630.2.1 bt639.1 bt639.2 bt646.1 bt646.2.1))))))))
theorem laws_FnExactNewToken.mono_l : ∀ k, (∀ y0 y1 y2 y3 y4 y5 y6 y7 y8 y9 y10 y11 y12 y13, LeO (laws_FnExactNewToken.j0 k y0 y1 y2 y3 y4 y5 y6 y7 y8 y9 y10 y11 y12 y13) (laws_FnExactNewToken.j0 (k + 1) y0 y1 y2 y3 y4 y5 y6 y7 y8 y9 y10 y11 y12 y13)) ∧ (∀ y0 y1 y2 y3 y4 y5 y6 y7 y8 y9, LeO (laws_FnExactNewToken.j1 k y0 y1 y2 y3 y4 y5 y6 y7 y8 y9) (laws_FnExactNewToken.j1 (k + 1) y0 y1 y2 y3 y4 y5 y6 y7 y8 y9)) ∧ (∀ y0 y1 y2 y3, LeO (laws_FnExactNewToken.j2 k y0 y1 y2 y3) (laws_FnExactNewToken.j2 (k + 1) y0 y1 y2 y3))
  | 0 => ⟨fun _ _ _ _ _ _ _ _ _ _ _ _ _ _ r h => by simp [laws_FnExactNewToken.j0] at h, fun _ _ _ _ _ _ _ _ _ _ r h => by simp [laws_FnExactNewToken.j1] at h, fun _ _ _ _ r h => by simp [laws_FnExactNewToken.j2] at h⟩
  | k + 1 => by
    obtain ⟨ih0, ih1, ih2⟩ := laws_FnExactNewToken.mono_l k
    refine ⟨?_, ?_, ?_⟩
    · intro y0 y1 y2 y3 y4 y5 y6 y7 y8 y9 y10 y11 y12 y13
      unfold laws_FnExactNewToken.j0
      repeat' first
      | (with_reducible exact ih0 _ _ _ _ _ _ _ _ _ _ _ _ _ _)
      | (with_reducible exact ih1 _ _ _ _ _ _ _ _ _ _)
      | (with_reducible exact ih2 _ _ _ _)
      | (with_reducible exact impl_NewToken.mono _ _ _ _)
      | (with_reducible exact laws_eqTokens.mono _ _ _ _ _)
      | (with_reducible exact laws_heldTokens.mono _ _ _ _)
      | (with_reducible exact laws_markTokens.mono _ _ _ _)
      | (with_reducible exact laws_toTokens.mono _ _ _)
      | (with_reducible exact spec_NewToken.mono _ _ _ _)
      | (with_reducible exact LeO.refl _)
      | (with_reducible exact LeO.none _)
      | (with_reducible refine LeO.ite ?_ ?_)
      | (with_reducible refine LeO.bind ?_ (fun _ => ?_))
      | exact ih0 _ _ _ _ _ _ _ _ _ _ _ _ _ _
      | exact ih1 _ _ _ _ _ _ _ _ _ _
      | exact ih2 _ _ _ _
      | exact impl_NewToken.mono _ _ _ _
      | exact laws_eqTokens.mono _ _ _ _ _
      | exact laws_heldTokens.mono _ _ _ _
      | exact laws_markTokens.mono _ _ _ _
      | exact laws_toTokens.mono _ _ _
      | exact spec_NewToken.mono _ _ _ _
      | exact LeO.none _
      | refine LeO.ite ?_ ?_
      | refine LeO.bind ?_ (fun _ => ?_)
    · intro y0 y1 y2 y3 y4 y5 y6 y7 y8 y9
      unfold laws_FnExactNewToken.j1
      repeat' first
      | (with_reducible exact ih0 _ _ _ _ _ _ _ _ _ _ _ _ _ _)
      | (with_reducible exact ih1 _ _ _ _ _ _ _ _ _ _)
      | (with_reducible exact ih2 _ _ _ _)
      | (with_reducible exact impl_NewToken.mono _ _ _ _)
      | (with_reducible exact laws_eqTokens.mono _ _ _ _ _)
      | (with_reducible exact laws_heldTokens.mono _ _ _ _)
      | (with_reducible exact laws_markTokens.mono _ _ _ _)
      | (with_reducible exact laws_toTokens.mono _ _ _)
      | (with_reducible exact spec_NewToken.mono _ _ _ _)
      | (with_reducible exact LeO.refl _)
      | (with_reducible exact LeO.none _)
      | (with_reducible refine LeO.ite ?_ ?_)
      | (with_reducible refine LeO.bind ?_ (fun _ => ?_))
      | exact ih0 _ _ _ _ _ _ _ _ _ _ _ _ _ _
      | exact ih1 _ _ _ _ _ _ _ _ _ _
      | exact ih2 _ _ _ _
      | exact impl_NewToken.mono _ _ _ _
      | exact laws_eqTokens.mono _ _ _ _ _
      | exact laws_heldTokens.mono _ _ _ _
      | exact laws_markTokens.mono _ _ _ _
      | exact laws_toTokens.mono _ _ _
      | exact spec_NewToken.mono _ _ _ _
      | exact LeO.none _
      | refine LeO.ite ?_ ?_
      | refine LeO.bind ?_ (fun _ => ?_)
    · intro y0 y1 y2 y3
      unfold laws_FnExactNewToken.j2
      repeat' first
      | (with_reducible exact ih0 _ _ _ _ _ _ _ _ _ _ _ _ _ _)
      | (with_reducible exact ih1 _ _ _ _ _ _ _ _ _ _)
      | (with_reducible exact ih2 _ _ _ _)
      | (with_reducible exact impl_NewToken.mono _ _ _ _)
      | (with_reducible exact laws_eqTokens.mono _ _ _ _ _)
      | (with_reducible exact laws_heldTokens.mono _ _ _ _)
      | (with_reducible exact laws_markTokens.mono _ _ _ _)
      | (with_reducible exact laws_toTokens.mono _ _ _)
      | (with_reducible exact spec_NewToken.mono _ _ _ _)
      | (with_reducible exact LeO.refl _)
      | (with_reducible exact LeO.none _)
      | (with_reducible refine LeO.ite ?_ ?_)
      | (with_reducible refine LeO.bind ?_ (fun _ => ?_))
      | exact ih0 _ _ _ _ _ _ _ _ _ _ _ _ _ _
      | exact ih1 _ _ _ _ _ _ _ _ _ _
      | exact ih2 _ _ _ _
      | exact impl_NewToken.mono _ _ _ _
      | exact laws_eqTokens.mono _ _ _ _ _
      | exact laws_heldTokens.mono _ _ _ _
      | exact laws_markTokens.mono _ _ _ _
      | exact laws_toTokens.mono _ _ _
      | exact spec_NewToken.mono _ _ _ _
      | exact LeO.none _
      | refine LeO.ite ?_ ?_
      | refine LeO.bind ?_ (fun _ => ?_)
theorem laws_FnExactNewToken.mono : ∀ a0 a1 a2 k, LeO (laws_FnExactNewToken.f k a0 a1 a2) (laws_FnExactNewToken.f (k + 1) a0 a1 a2) := by
  intro a0 a1 a2 k
  obtain ⟨ih0, ih1, ih2⟩ := laws_FnExactNewToken.mono_l k
  unfold laws_FnExactNewToken.f
  repeat' first
      | (with_reducible exact ih0 _ _ _ _ _ _ _ _ _ _ _ _ _ _)
      | (with_reducible exact ih1 _ _ _ _ _ _ _ _ _ _)
      | (with_reducible exact ih2 _ _ _ _)
      | (with_reducible exact impl_NewToken.mono _ _ _ _)
      | (with_reducible exact laws_eqTokens.mono _ _ _ _ _)
      | (with_reducible exact laws_heldTokens.mono _ _ _ _)
      | (with_reducible exact laws_markTokens.mono _ _ _ _)
      | (with_reducible exact laws_toTokens.mono _ _ _)
      | (with_reducible exact spec_NewToken.mono _ _ _ _)
      | (with_reducible exact LeO.refl _)
      | (with_reducible exact LeO.none _)
      | (with_reducible refine LeO.ite ?_ ?_)
      | (with_reducible refine LeO.bind ?_ (fun _ => ?_))
      | exact ih0 _ _ _ _ _ _ _ _ _ _ _ _ _ _
      | exact ih1 _ _ _ _ _ _ _ _ _ _
      | exact ih2 _ _ _ _
      | exact impl_NewToken.mono _ _ _ _
      | exact laws_eqTokens.mono _ _ _ _ _
      | exact laws_heldTokens.mono _ _ _ _
      | exact laws_markTokens.mono _ _ _ _
      | exact laws_toTokens.mono _ _ _
      | exact spec_NewToken.mono _ _ _ _
      | exact LeO.none _
      | refine LeO.ite ?_ ?_
      | refine LeO.bind ?_ (fun _ => ?_)
set_option maxHeartbeats 8000000 in
set_option maxRecDepth 100000 in
theorem laws_FnExactNewToken.calls (k : Nat) (A0_0 : Option Addr) (c0_0 : Nat) (l0_0 : List Int) (A0_1 : Option Addr) (c0_1 : Nat) (l0_1 : List Bool) (a1 : Int) (r : Bool) (w : World) (hr0_0 : Kd.C (Kd.int .i64) w A0_0 l0_0.length l0_0) (hc0_0 : l0_0.length ≤ c0_0) (hr0_1 : Kd.C Kd.bool w A0_1 l0_1.length l0_1) (hc0_1 : l0_1.length ≤ c0_1) (HQ_ : Aside0 (r = true)) (h : laws_FnExactNewToken.f k l0_0 l0_1 a1 = some r) :
    Calls Try.prog 11 #[.agg #[.slice A0_0 l0_0.length c0_0, .slice A0_1 l0_1.length c0_1], .int .i64 a1] w fun e w' => e = .returned (.bool r) ∧ Below w.heap.size w w' := by
  have hu30 := Try.underlying30
  have hu33 := Try.underlying33
  have HR0_0 := Aside0.mk hr0_0
  have HC0_0 := Aside0.mk hc0_0
  clear hr0_0 hc0_0
  have HR0_1 := Aside0.mk hr0_1
  have HC0_1 := Aside0.mk hc0_1
  clear hr0_1 hc0_1
  have HB := Aside0.mk (Below.refl w.heap.size w)
  have H : ((laws_szTokens.f l0_0 l0_1 1048576).bind fun t623 => (if t623 < 0 then (some true) else ((laws_toTokens.f k l0_0 l0_1).bind fun bt624 => ((spec_NewToken.f k bt624.1 bt624.2 a1).bind fun bt630 => ((laws_toTokens.f k l0_0 l0_1).bind fun bt639 => ((impl_NewToken.f k bt639.1 bt639.2 a1).bind fun bt646 => ((laws_eqTokens.f k bt646.1 bt646.2.1 bt630.1 bt630.2.1).bind fun t655 => (if t655 = true then (if bt646.2.2.1 = bt630.2.2.1 then (laws_FnExactNewToken.j0 k a1 bt630.2.2.1 bt630.2.2.2 bt646.2.2.1 bt646.2.2.2 (bt646.2.2.2 != bt630.2.2.2) l0_0 l0_1 bt630.1 bt630.2.1 bt639.1 bt639.2 bt646.1 bt646.2.1) else (laws_FnExactNewToken.j0 k a1 bt630.2.2.1 bt630.2.2.2 bt646.2.2.1 bt646.2.2.2 true l0_0 l0_1 bt630.1 bt630.2.1 bt639.1 bt639.2 bt646.1 bt646.2.1)) else (laws_FnExactNewToken.j0 k a1 bt630.2.2.1 bt630.2.2.2 bt646.2.2.1 bt646.2.2.2 true l0_0 l0_1 bt630.1 bt630.2.1 bt639.1 bt639.2 bt646.1 bt646.2.1))))))))) = some r := h
  clear h
  replace H := Option.bind_eq_some_iff.mp H
  obtain ⟨t623, A30, H⟩ := H
  replace H : (if t623 < 0 then (some true) else ((laws_toTokens.f k l0_0 l0_1).bind fun bt624 => ((spec_NewToken.f k bt624.1 bt624.2 a1).bind fun bt630 => ((laws_toTokens.f k l0_0 l0_1).bind fun bt639 => ((impl_NewToken.f k bt639.1 bt639.2 a1).bind fun bt646 => ((laws_eqTokens.f k bt646.1 bt646.2.1 bt630.1 bt630.2.1).bind fun t655 => (if t655 = true then (if bt646.2.2.1 = bt630.2.2.1 then (laws_FnExactNewToken.j0 k a1 bt630.2.2.1 bt630.2.2.2 bt646.2.2.1 bt646.2.2.2 (bt646.2.2.2 != bt630.2.2.2) l0_0 l0_1 bt630.1 bt630.2.1 bt639.1 bt639.2 bt646.1 bt646.2.1) else (laws_FnExactNewToken.j0 k a1 bt630.2.2.1 bt630.2.2.2 bt646.2.2.1 bt646.2.2.2 true l0_0 l0_1 bt630.1 bt630.2.1 bt639.1 bt639.2 bt646.1 bt646.2.1)) else (laws_FnExactNewToken.j0 k a1 bt630.2.2.1 bt630.2.2.2 bt646.2.2.1 bt646.2.2.2 true l0_0 l0_1 bt630.1 bt630.2.1 bt639.1 bt639.2 bt646.1 bt646.2.1)))))))) = some r := H
  have A3 := Aside0.mk A30
  clear A30
  by_cases c4 : t623 < 0
  · rw [if_pos c4] at H
    have c4b0 : decide (t623 < 0) = true := decide_eq_true c4
    clear c4
    obtain rfl := Option.some.inj H
    go_enter Try.func11, Try.ntmps11
    go_wp2_with (first | ((with_reducible refine gate_dst (N := 2) rfl ?_); refine box_event ?hg (N := 2) ?hd (cs := #[.slice A0_0 l0_0.length c0_0, .slice A0_1 l0_1.length c0_1]) (t := 30) ?hr ?_; (case hd => rfl); (case hg => rfl); (case hr => first | (go_simp; done) | (go_simp; rfl)); intro gb622 hg w5 hbox hb; have n0_ := Aside0.mk (below_step (pkB HB.out) hb); have n1_ := Aside0.mk (hbox); have n2_ := Aside0.mk ((by rw [hg]; exact (below_size (pkB HB.out)) : w.heap.size ≤ gb622)); have n3_ := Aside0.mk ((by rw [hg]; exact (below_size (pkB HB.out)) : w.heap.size ≤ gb622)); clear HB; have HB := n0_; have BK622 := n1_; have GW622 := n2_; have GE622 := n3_; clear n0_ n1_ n2_ n3_; clear hb hbox hg; have hcz6_0 : w5.cell? ⟨gb622, 0, none⟩ = some (.slice A0_0 l0_0.length c0_0) := (blk_cell BK622.out 0).trans rfl; have hcz6_1 : w5.cell? ⟨gb622, 1, none⟩ = some (.slice A0_1 l0_1.length c0_1) := (blk_cell BK622.out 1).trans rfl; have hfz6_0 := blk_frozen BK622.out 0; have hfz6_1 := blk_frozen BK622.out 1) | ((with_reducible refine gate_callee (f := 21) rfl ?_); refine goesL_ (some 21) rfl rfl Try.func21 (by kernel_rfl) rfl #[.agg #[.slice A0_0 l0_0.length c0_0, .slice A0_1 l0_1.length c0_1], .int .i64 1048576] rfl (by (try simp only [List.map_toArray, List.map_cons, List.map_nil]); first | done | rfl | (simp only [List.length_drop, List.length_take]; rfl) | (go_simp; done) | (simp [*]; done)) ?_; (with_reducible refine (laws_szTokens.calls _ _ l0_0 _ _ l0_1 1048576 t623 _ ?side1 ?side2 ?side3 ?side4 A3.out).mono ?_); (case side1 => exact pkC (Kd.C_below HR0_0.out HB.out)); (case side2 => exact HC0_0.out); (case side3 => exact pkC (Kd.C_below HR0_1.out HB.out)); (case side4 => exact HC0_1.out); rintro e w7 ⟨rfl, hb⟩; refine ⟨_, rfl, ?_⟩; have n0_ := Aside0.mk (blk_below (g := gb622) (o := .cells #[.slice A0_0 l0_0.length c0_0, .slice A0_1 l0_1.length c0_1] 30 (0, 0)) (pkK BK622.out) hb); have n1_ := Aside0.mk (below_step (by repeat (first | (with_reducible first | exact HB.out | apply below_alloc | apply pw_below_drewN | apply below_drew1 | refine below_set ?_ GE622.out) | exact HB.out)) hb); clear BK622 HB; have BK622 := n0_; have HB := n1_; clear n0_ n1_; (try clear hb); (try clear hb2); (try clear hk); (try clear hi)))
    go_ret
    exact ⟨by first | rfl | (simp [errW_none, errW_some] <;> rfl) | (simp [*, errW_none, errW_some] <;> rfl), by repeat (first | (with_reducible first | exact HB.out | apply below_alloc | apply pw_below_drewN | apply below_drew1 | refine below_set ?_ GE622.out) | exact HB.out)⟩
  · rw [if_neg c4] at H
    have c4b0 : decide (t623 < 0) = false := decide_eq_false c4
    clear c4
    replace H := Option.bind_eq_some_iff.mp H
    obtain ⟨⟨t624, t627⟩, A80, H⟩ := H
    replace H : ((spec_NewToken.f k t624 t627 a1).bind fun bt630 => ((laws_toTokens.f k l0_0 l0_1).bind fun bt639 => ((impl_NewToken.f k bt639.1 bt639.2 a1).bind fun bt646 => ((laws_eqTokens.f k bt646.1 bt646.2.1 bt630.1 bt630.2.1).bind fun t655 => (if t655 = true then (if bt646.2.2.1 = bt630.2.2.1 then (laws_FnExactNewToken.j0 k a1 bt630.2.2.1 bt630.2.2.2 bt646.2.2.1 bt646.2.2.2 (bt646.2.2.2 != bt630.2.2.2) l0_0 l0_1 bt630.1 bt630.2.1 bt639.1 bt639.2 bt646.1 bt646.2.1) else (laws_FnExactNewToken.j0 k a1 bt630.2.2.1 bt630.2.2.2 bt646.2.2.1 bt646.2.2.2 true l0_0 l0_1 bt630.1 bt630.2.1 bt639.1 bt639.2 bt646.1 bt646.2.1)) else (laws_FnExactNewToken.j0 k a1 bt630.2.2.1 bt630.2.2.2 bt646.2.2.1 bt646.2.2.2 true l0_0 l0_1 bt630.1 bt630.2.1 bt639.1 bt639.2 bt646.1 bt646.2.1)))))) = some r := H
    have A8 := Aside0.mk A80
    clear A80
    replace H := Option.bind_eq_some_iff.mp H
    obtain ⟨⟨t630, t633, t636, t637⟩, A90, H⟩ := H
    replace H : ((laws_toTokens.f k l0_0 l0_1).bind fun bt639 => ((impl_NewToken.f k bt639.1 bt639.2 a1).bind fun bt646 => ((laws_eqTokens.f k bt646.1 bt646.2.1 t630 t633).bind fun t655 => (if t655 = true then (if bt646.2.2.1 = t636 then (laws_FnExactNewToken.j0 k a1 t636 t637 bt646.2.2.1 bt646.2.2.2 (bt646.2.2.2 != t637) l0_0 l0_1 t630 t633 bt639.1 bt639.2 bt646.1 bt646.2.1) else (laws_FnExactNewToken.j0 k a1 t636 t637 bt646.2.2.1 bt646.2.2.2 true l0_0 l0_1 t630 t633 bt639.1 bt639.2 bt646.1 bt646.2.1)) else (laws_FnExactNewToken.j0 k a1 t636 t637 bt646.2.2.1 bt646.2.2.2 true l0_0 l0_1 t630 t633 bt639.1 bt639.2 bt646.1 bt646.2.1))))) = some r := H
    have A9 := Aside0.mk A90
    clear A90
    replace H := Option.bind_eq_some_iff.mp H
    obtain ⟨⟨t639, t642⟩, A100, H⟩ := H
    replace H : ((impl_NewToken.f k t639 t642 a1).bind fun bt646 => ((laws_eqTokens.f k bt646.1 bt646.2.1 t630 t633).bind fun t655 => (if t655 = true then (if bt646.2.2.1 = t636 then (laws_FnExactNewToken.j0 k a1 t636 t637 bt646.2.2.1 bt646.2.2.2 (bt646.2.2.2 != t637) l0_0 l0_1 t630 t633 t639 t642 bt646.1 bt646.2.1) else (laws_FnExactNewToken.j0 k a1 t636 t637 bt646.2.2.1 bt646.2.2.2 true l0_0 l0_1 t630 t633 t639 t642 bt646.1 bt646.2.1)) else (laws_FnExactNewToken.j0 k a1 t636 t637 bt646.2.2.1 bt646.2.2.2 true l0_0 l0_1 t630 t633 t639 t642 bt646.1 bt646.2.1)))) = some r := H
    have A10 := Aside0.mk A100
    clear A100
    replace H := Option.bind_eq_some_iff.mp H
    obtain ⟨⟨t646, t649, t652, t653⟩, A110, H⟩ := H
    replace H : ((laws_eqTokens.f k t646 t649 t630 t633).bind fun t655 => (if t655 = true then (if t652 = t636 then (laws_FnExactNewToken.j0 k a1 t636 t637 t652 t653 (t653 != t637) l0_0 l0_1 t630 t633 t639 t642 t646 t649) else (laws_FnExactNewToken.j0 k a1 t636 t637 t652 t653 true l0_0 l0_1 t630 t633 t639 t642 t646 t649)) else (laws_FnExactNewToken.j0 k a1 t636 t637 t652 t653 true l0_0 l0_1 t630 t633 t639 t642 t646 t649))) = some r := H
    have A11 := Aside0.mk A110
    clear A110
    have HC12 := Aside0.mk H
    clear H
    go_enter Try.func11, Try.ntmps11
    go_upto_region 8 with (first | ((with_reducible refine gate_dst (N := 2) rfl ?_); refine box_event ?hg (N := 2) ?hd (cs := #[.slice A0_0 l0_0.length c0_0, .slice A0_1 l0_1.length c0_1]) (t := 30) ?hr ?_; (case hd => rfl); (case hg => rfl); (case hr => first | (go_simp; done) | (go_simp; rfl)); intro gb622 hg w13 hbox hb; have n0_ := Aside0.mk (below_step (pkB HB.out) hb); have n1_ := Aside0.mk (hbox); have n2_ := Aside0.mk ((by rw [hg]; exact (below_size (pkB HB.out)) : w.heap.size ≤ gb622)); have n3_ := Aside0.mk ((by rw [hg]; exact (below_size (pkB HB.out)) : w.heap.size ≤ gb622)); clear HB; have HB := n0_; have BK622 := n1_; have GW622 := n2_; have GE622 := n3_; clear n0_ n1_ n2_ n3_; clear hb hbox hg; have hcz14_0 : w13.cell? ⟨gb622, 0, none⟩ = some (.slice A0_0 l0_0.length c0_0) := (blk_cell BK622.out 0).trans rfl; have hcz14_1 : w13.cell? ⟨gb622, 1, none⟩ = some (.slice A0_1 l0_1.length c0_1) := (blk_cell BK622.out 1).trans rfl; have hfz14_0 := blk_frozen BK622.out 0; have hfz14_1 := blk_frozen BK622.out 1) | ((with_reducible refine gate_callee (f := 21) rfl ?_); refine goesL_ (some 21) rfl rfl Try.func21 (by kernel_rfl) rfl #[.agg #[.slice A0_0 l0_0.length c0_0, .slice A0_1 l0_1.length c0_1], .int .i64 1048576] rfl (by (try simp only [List.map_toArray, List.map_cons, List.map_nil]); first | done | rfl | (simp only [List.length_drop, List.length_take]; rfl) | (go_simp; done) | (simp [*]; done)) ?_; (with_reducible refine (laws_szTokens.calls _ _ l0_0 _ _ l0_1 1048576 t623 _ ?side1 ?side2 ?side3 ?side4 A3.out).mono ?_); (case side1 => exact pkC (Kd.C_below HR0_0.out HB.out)); (case side2 => exact HC0_0.out); (case side3 => exact pkC (Kd.C_below HR0_1.out HB.out)); (case side4 => exact HC0_1.out); rintro e w15 ⟨rfl, hb⟩; refine ⟨_, rfl, ?_⟩; have n0_ := Aside0.mk (blk_below (g := gb622) (o := .cells #[.slice A0_0 l0_0.length c0_0, .slice A0_1 l0_1.length c0_1] 30 (0, 0)) (pkK BK622.out) hb); have n1_ := Aside0.mk (below_step (by repeat (first | (with_reducible first | exact HB.out | apply below_alloc | apply pw_below_drewN | apply below_drew1 | refine below_set ?_ GE622.out) | exact HB.out)) hb); clear BK622 HB; have BK622 := n0_; have HB := n1_; clear n0_ n1_; (try clear hb); (try clear hb2); (try clear hk); (try clear hi); have hcz16_0 : w15.cell? ⟨gb622, 0, none⟩ = some (.slice A0_0 l0_0.length c0_0) := (blk_cell BK622.out 0).trans rfl; have hcz16_1 : w15.cell? ⟨gb622, 1, none⟩ = some (.slice A0_1 l0_1.length c0_1) := (blk_cell BK622.out 1).trans rfl; have hfz16_0 := blk_frozen BK622.out 0; have hfz16_1 := blk_frozen BK622.out 1) | ((with_reducible refine gate_callee (f := 23) rfl ?_); refine goesL_ (some 26) rfl rfl Try.func23 (by kernel_rfl) rfl #[.agg #[.slice A0_0 l0_0.length c0_0, .slice A0_1 l0_1.length c0_1]] rfl (by (try simp only [List.map_toArray, List.map_cons, List.map_nil]); first | done | rfl | (simp only [List.length_drop, List.length_take]; rfl) | (go_simp; done) | (simp [*]; done)) ?_; (with_reducible refine (laws_toTokens.calls k _ _ l0_0 _ _ l0_1 t624 t627 _ ?side1 ?side2 ?side3 ?side4 A8.out).mono ?_); (case side1 => exact pkC (Kd.C_below HR0_0.out HB.out)); (case side2 => exact HC0_0.out); (case side3 => exact pkC (Kd.C_below HR0_1.out HB.out)); (case side4 => exact HC0_1.out); rintro e w17 ⟨v625, v628, rfl, ho0, ho1, hb⟩; refine ⟨_, rfl, ?_⟩; have n0_ := Aside0.mk (Kd.R_lower ho0 (below_size (by repeat (first | (with_reducible first | exact HB.out | apply below_alloc | apply pw_below_drewN | apply below_drew1 | refine below_set ?_ GE622.out) | exact HB.out)))); have n1_ := Aside0.mk (Kd.R_lower ho1 (below_size (by repeat (first | (with_reducible first | exact HB.out | apply below_alloc | apply pw_below_drewN | apply below_drew1 | refine below_set ?_ GE622.out) | exact HB.out)))); have n2_ := Aside0.mk (blk_below (g := gb622) (o := .cells #[.slice A0_0 l0_0.length c0_0, .slice A0_1 l0_1.length c0_1] 30 (0, 0)) (pkK BK622.out) hb); have n3_ := Aside0.mk (below_step (by repeat (first | (with_reducible first | exact HB.out | apply below_alloc | apply pw_below_drewN | apply below_drew1 | refine below_set ?_ GE622.out) | exact HB.out)) hb); clear BK622 HB; have HO626 := n0_; have HO629 := n1_; have BK622 := n2_; have HB := n3_; clear n0_ n1_ n2_ n3_; (try clear hb); (try clear hb2); (try clear hk); (try clear hi); (try clear ho0); (try clear ho1); obtain ⟨Ao18, co18, eo18⟩ := Kd.R_slice HO626.out; subst eo18; obtain ⟨Ao19, co19, eo19⟩ := Kd.R_slice HO629.out; subst eo19) | ((with_reducible refine gate_callee (f := 39) rfl ?_); refine goesL_ (some 28) rfl rfl Try.func39 (by kernel_rfl) rfl #[.agg #[.slice Ao18 t624.length co18, .slice Ao19 t627.length co19], .int .i64 a1] rfl (by (try simp only [List.map_toArray, List.map_cons, List.map_nil]); first | done | rfl | (simp only [List.length_drop, List.length_take]; rfl) | (go_simp; done) | (simp [*]; done)) ?_; (with_reducible refine (spec_NewToken.calls k _ _ t624 _ _ t627 a1 t630 t633 t636 t637 _ ?side1 ?side2 ?side3 ?side4 A9.out).mono ?_); (case side1 => exact pkC (Kd.R_reads' HO626.out).2.2); (case side2 => exact (Kd.R_reads' HO626.out).2.1); (case side3 => exact pkC (Kd.R_reads' HO629.out).2.2); (case side4 => exact (Kd.R_reads' HO629.out).2.1); rintro e w20 ⟨v631, v634, rfl, ho0, ho1, hb⟩; refine ⟨_, rfl, ?_⟩; have n0_ := Aside0.mk (Kd.R_elder' (pkR HO626.out) (Kd.R_base ho0) hb); have n1_ := Aside0.mk (Kd.R_elder' (pkR HO629.out) (Kd.R_base ho1) hb); have n2_ := Aside0.mk (Kd.R_lower (Kd.R_new' ho0 (Kd.R_lt (pkR HO626.out))) (below_size (by repeat (first | (with_reducible first | exact HB.out | apply below_alloc | apply pw_below_drewN | apply below_drew1 | refine below_set ?_ GE622.out) | exact HB.out)))); have n3_ := Aside0.mk (Kd.R_lower (Kd.R_new' ho1 (Kd.R_lt (pkR HO629.out))) (below_size (by repeat (first | (with_reducible first | exact HB.out | apply below_alloc | apply pw_below_drewN | apply below_drew1 | refine below_set ?_ GE622.out) | exact HB.out)))); have n4_ := Aside0.mk (blk_below (g := gb622) (o := .cells #[.slice A0_0 l0_0.length c0_0, .slice A0_1 l0_1.length c0_1] 30 (0, 0)) (pkK BK622.out) hb); have n5_ := Aside0.mk (below_step (by repeat (first | (with_reducible first | exact HB.out | apply below_alloc | apply pw_below_drewN | apply below_drew1 | refine below_set ?_ GE622.out) | exact HB.out)) hb); clear HO626 HO629 BK622 HB; have HO626 := n0_; have HO629 := n1_; have HO632 := n2_; have HO635 := n3_; have BK622 := n4_; have HB := n5_; clear n0_ n1_ n2_ n3_ n4_ n5_; (try clear hb); (try clear hb2); (try clear hk); (try clear hi); (try clear ho0); (try clear ho1)) | ((with_reducible refine gate_dst (N := 6) rfl ?_); refine box_event ?hg (N := 6) ?hd (cs := #[.slice none 0 0, .slice none 0 0]) (t := 33) ?hr ?_; (case hd => rfl); (case hg => rfl); (case hr => first | (go_simp; done) | (go_simp; rfl)); intro gb638 hg w21 hbox hb; have n0_ := Aside0.mk (Kd.R_below (pkR HO626.out) hb); have n1_ := Aside0.mk (Kd.R_below (pkR HO629.out) hb); have n2_ := Aside0.mk (Kd.R_below (pkR HO632.out) hb); have n3_ := Aside0.mk (Kd.R_below (pkR HO635.out) hb); have n4_ := Aside0.mk (blk_below (g := gb622) (o := .cells #[.slice A0_0 l0_0.length c0_0, .slice A0_1 l0_1.length c0_1] 30 (0, 0)) (pkK BK622.out) hb); have n5_ := Aside0.mk (below_step (by repeat (first | (with_reducible first | exact HB.out | apply below_alloc | apply pw_below_drewN | apply below_drew1 | refine below_set ?_ GE622.out) | exact HB.out)) hb); have n6_ := Aside0.mk (hbox); have n7_ := Aside0.mk ((by rw [hg]; exact (below_size (by repeat (first | (with_reducible first | exact HB.out | apply below_alloc | apply pw_below_drewN | apply below_drew1 | refine below_set ?_ GE622.out) | exact HB.out))) : w.heap.size ≤ gb638)); have n8_ := Aside0.mk ((by rw [hg]; exact (below_size (by repeat (first | (with_reducible first | exact HB.out | apply below_alloc | apply pw_below_drewN | apply below_drew1 | refine below_set ?_ GE622.out) | exact HB.out))) : w.heap.size ≤ gb638)); have n9_ := Aside0.mk ((by rw [hg]; exact Nat.ne_of_lt (blk_lt (g := gb622) (o := .cells #[.slice A0_0 l0_0.length c0_0, .slice A0_1 l0_1.length c0_1] 30 (0, 0)) (pkK BK622.out)) : gb622 ≠ gb638)); have n10_ := Aside0.mk ((by rw [hg]; exact Nat.ne_of_gt (blk_lt (g := gb622) (o := .cells #[.slice A0_0 l0_0.length c0_0, .slice A0_1 l0_1.length c0_1] 30 (0, 0)) (pkK BK622.out)) : gb638 ≠ gb622)); clear HO626 HO629 HO632 HO635 BK622 HB; have HO626 := n0_; have HO629 := n1_; have HO632 := n2_; have HO635 := n3_; have BK622 := n4_; have HB := n5_; have BK638 := n6_; have GW638 := n7_; have GE638 := n8_; have NB622_638 := n9_; have NB638_622 := n10_; clear n0_ n1_ n2_ n3_ n4_ n5_ n6_ n7_ n8_ n9_ n10_; clear hb hbox hg; obtain ⟨Ao22, co22, eo22⟩ := Kd.R_slice HO632.out; subst eo22; have hnb23 := NB638_622.out; have hnc23 := NB622_638.out; have hcz24_0 : w21.cell? ⟨gb638, 0, none⟩ = some (.slice none 0 0) := (blk_cell BK638.out 0).trans rfl; have hcz24_1 : w21.cell? ⟨gb638, 1, none⟩ = some (.slice none 0 0) := (blk_cell BK638.out 1).trans rfl; have hfz24_0 := blk_frozen BK638.out 0; have hfz24_1 := blk_frozen BK638.out 1; obtain ⟨Ao25, co25, eo25⟩ := Kd.R_slice HO635.out; subst eo25; have hcz26_0 : w21.cell? ⟨gb622, 0, none⟩ = some (.slice A0_0 l0_0.length c0_0) := (blk_cell BK622.out 0).trans rfl; have hcz26_1 : w21.cell? ⟨gb622, 1, none⟩ = some (.slice A0_1 l0_1.length c0_1) := (blk_cell BK622.out 1).trans rfl; have hfz26_0 := blk_frozen BK622.out 0; have hfz26_1 := blk_frozen BK622.out 1) | ((with_reducible refine gate_callee (f := 23) rfl ?_); refine goesL_ (some 33) rfl rfl Try.func23 (by kernel_rfl) rfl #[.agg #[.slice A0_0 l0_0.length c0_0, .slice A0_1 l0_1.length c0_1]] rfl (by (try simp only [List.map_toArray, List.map_cons, List.map_nil]); first | done | rfl | (simp only [List.length_drop, List.length_take]; rfl) | (go_simp; done) | (simp [*]; done)) ?_; (with_reducible refine (laws_toTokens.calls k _ _ l0_0 _ _ l0_1 t639 t642 _ ?side1 ?side2 ?side3 ?side4 A10.out).mono ?_); (case side1 => exact Kd.C_below HR0_0.out (by repeat (first | (with_reducible first | exact HB.out | apply below_alloc | apply pw_below_drewN | apply below_drew1 | refine below_set ?_ GE622.out | refine below_set ?_ GE638.out) | exact HB.out))); (case side2 => exact HC0_0.out); (case side3 => exact Kd.C_below HR0_1.out (by repeat (first | (with_reducible first | exact HB.out | apply below_alloc | apply pw_below_drewN | apply below_drew1 | refine below_set ?_ GE622.out | refine below_set ?_ GE638.out) | exact HB.out))); (case side4 => exact HC0_1.out); rintro e w27 ⟨v640, v643, rfl, ho0, ho1, hb⟩; refine ⟨_, rfl, ?_⟩; have n0_ := Aside0.mk (Kd.R_elder' (by (with_reducible repeat (first | apply Kd.R_alloc | apply Kd.R_drewN | apply Kd.R_drew)); exact (Kd.R_mono (Kd.R_far (p := ⟨gb638, 1, none⟩) (Kd.R_far (p := ⟨gb638, 0, none⟩) (Kd.R_types HO626.out BK638.out (by decide)) (fun _ hk => hk.2) (.slice Ao22 t630.length co22)) (fun _ hk => hk.2) (.slice Ao25 t633.length co25)) (fun _ h_ => h_.1))) (Kd.R_base ho0) hb); have n1_ := Aside0.mk (Kd.R_elder' (by (with_reducible repeat (first | apply Kd.R_alloc | apply Kd.R_drewN | apply Kd.R_drew)); exact (Kd.R_mono (Kd.R_far (p := ⟨gb638, 1, none⟩) (Kd.R_far (p := ⟨gb638, 0, none⟩) (Kd.R_types HO629.out BK638.out (by decide)) (fun _ hk => hk.2) (.slice Ao22 t630.length co22)) (fun _ hk => hk.2) (.slice Ao25 t633.length co25)) (fun _ h_ => h_.1))) (Kd.R_base ho1) hb); have n2_ := Aside0.mk (Kd.R_elder' (by (with_reducible repeat (first | apply Kd.R_alloc | apply Kd.R_drewN | apply Kd.R_drew)); exact (Kd.R_mono (Kd.R_far (p := ⟨gb638, 1, none⟩) (Kd.R_far (p := ⟨gb638, 0, none⟩) (Kd.R_types HO632.out BK638.out (by decide)) (fun _ hk => hk.2) (.slice Ao22 t630.length co22)) (fun _ hk => hk.2) (.slice Ao25 t633.length co25)) (fun _ h_ => h_.1))) (Kd.R_base ho0) hb); have n3_ := Aside0.mk (Kd.R_elder' (by (with_reducible repeat (first | apply Kd.R_alloc | apply Kd.R_drewN | apply Kd.R_drew)); exact (Kd.R_mono (Kd.R_far (p := ⟨gb638, 1, none⟩) (Kd.R_far (p := ⟨gb638, 0, none⟩) (Kd.R_types HO635.out BK638.out (by decide)) (fun _ hk => hk.2) (.slice Ao22 t630.length co22)) (fun _ hk => hk.2) (.slice Ao25 t633.length co25)) (fun _ h_ => h_.1))) (Kd.R_base ho1) hb); have n4_ := Aside0.mk (Kd.R_lower (Kd.R_new' (Kd.R_new' ho0 (Kd.R_lt (by (with_reducible repeat (first | apply Kd.R_alloc | apply Kd.R_drewN | apply Kd.R_drew)); exact (Kd.R_mono (Kd.R_far (p := ⟨gb638, 1, none⟩) (Kd.R_far (p := ⟨gb638, 0, none⟩) (Kd.R_types HO626.out BK638.out (by decide)) (fun _ hk => hk.2) (.slice Ao22 t630.length co22)) (fun _ hk => hk.2) (.slice Ao25 t633.length co25)) (fun _ h_ => h_.1))))) (Kd.R_lt (by (with_reducible repeat (first | apply Kd.R_alloc | apply Kd.R_drewN | apply Kd.R_drew)); exact (Kd.R_mono (Kd.R_far (p := ⟨gb638, 1, none⟩) (Kd.R_far (p := ⟨gb638, 0, none⟩) (Kd.R_types HO632.out BK638.out (by decide)) (fun _ hk => hk.2) (.slice Ao22 t630.length co22)) (fun _ hk => hk.2) (.slice Ao25 t633.length co25)) (fun _ h_ => h_.1))))) (below_size (by repeat (first | (with_reducible first | exact HB.out | apply below_alloc | apply pw_below_drewN | apply below_drew1 | refine below_set ?_ GE622.out | refine below_set ?_ GE638.out) | exact HB.out)))); have n5_ := Aside0.mk (Kd.R_lower (Kd.R_new' (Kd.R_new' ho1 (Kd.R_lt (by (with_reducible repeat (first | apply Kd.R_alloc | apply Kd.R_drewN | apply Kd.R_drew)); exact (Kd.R_mono (Kd.R_far (p := ⟨gb638, 1, none⟩) (Kd.R_far (p := ⟨gb638, 0, none⟩) (Kd.R_types HO629.out BK638.out (by decide)) (fun _ hk => hk.2) (.slice Ao22 t630.length co22)) (fun _ hk => hk.2) (.slice Ao25 t633.length co25)) (fun _ h_ => h_.1))))) (Kd.R_lt (by (with_reducible repeat (first | apply Kd.R_alloc | apply Kd.R_drewN | apply Kd.R_drew)); exact (Kd.R_mono (Kd.R_far (p := ⟨gb638, 1, none⟩) (Kd.R_far (p := ⟨gb638, 0, none⟩) (Kd.R_types HO635.out BK638.out (by decide)) (fun _ hk => hk.2) (.slice Ao22 t630.length co22)) (fun _ hk => hk.2) (.slice Ao25 t633.length co25)) (fun _ h_ => h_.1))))) (below_size (by repeat (first | (with_reducible first | exact HB.out | apply below_alloc | apply pw_below_drewN | apply below_drew1 | refine below_set ?_ GE622.out | refine below_set ?_ GE638.out) | exact HB.out)))); have n6_ := Aside0.mk (blk_below (g := gb622) (o := .cells #[.slice A0_0 l0_0.length c0_0, .slice A0_1 l0_1.length c0_1] 30 (0, 0)) (by (with_reducible repeat (first | refine blk_drewN ?_ _ | refine blk_drew ?_ | refine blk_alloc ?_ _)); refine blk_far ?_ NB622_638.out _; (with_reducible repeat (first | refine blk_drewN ?_ _ | refine blk_drew ?_ | refine blk_alloc ?_ _)); refine blk_far ?_ NB622_638.out _; (with_reducible repeat (first | refine blk_drewN ?_ _ | refine blk_drew ?_ | refine blk_alloc ?_ _)); exact BK622.out) hb); have n7_ := Aside0.mk (blk_below (g := gb638) (o := .cells #[.slice Ao22 t630.length co22, .slice Ao25 t633.length co25] 33 (0, 0)) (by (with_reducible repeat (first | refine blk_drewN ?_ _ | refine blk_drew ?_ | refine blk_alloc ?_ _)); refine blk_put (cs := #[.slice Ao22 t630.length co22, .slice none 0 0]) ?_ 1 _ rfl; (with_reducible repeat (first | refine blk_drewN ?_ _ | refine blk_drew ?_ | refine blk_alloc ?_ _)); refine blk_put (cs := #[.slice none 0 0, .slice none 0 0]) ?_ 0 _ rfl; (with_reducible repeat (first | refine blk_drewN ?_ _ | refine blk_drew ?_ | refine blk_alloc ?_ _)); exact BK638.out) hb); have n8_ := Aside0.mk (below_step (by repeat (first | (with_reducible first | exact HB.out | apply below_alloc | apply pw_below_drewN | apply below_drew1 | refine below_set ?_ GE622.out | refine below_set ?_ GE638.out) | exact HB.out)) hb); clear HO626 HO629 HO632 HO635 BK622 BK638 HB; have HO626 := n0_; have HO629 := n1_; have HO632 := n2_; have HO635 := n3_; have HO641 := n4_; have HO644 := n5_; have BK622 := n6_; have BK638 := n7_; have HB := n8_; clear n0_ n1_ n2_ n3_ n4_ n5_ n6_ n7_ n8_; (try clear hb); (try clear hb2); (try clear hk); (try clear hi); (try clear ho0); (try clear ho1)) | ((with_reducible refine gate_dst (N := 9) rfl ?_); refine box_event ?hg (N := 9) ?hd (cs := #[.slice none 0 0, .slice none 0 0]) (t := 33) ?hr ?_; (case hd => rfl); (case hg => rfl); (case hr => first | (go_simp; done) | (go_simp; rfl)); intro gb645 hg w28 hbox hb; have n0_ := Aside0.mk (Kd.R_below (pkR HO626.out) hb); have n1_ := Aside0.mk (Kd.R_below (pkR HO629.out) hb); have n2_ := Aside0.mk (Kd.R_below (pkR HO632.out) hb); have n3_ := Aside0.mk (Kd.R_below (pkR HO635.out) hb); have n4_ := Aside0.mk (Kd.R_below (pkR HO641.out) hb); have n5_ := Aside0.mk (Kd.R_below (pkR HO644.out) hb); have n6_ := Aside0.mk (blk_below (g := gb622) (o := .cells #[.slice A0_0 l0_0.length c0_0, .slice A0_1 l0_1.length c0_1] 30 (0, 0)) (pkK BK622.out) hb); have n7_ := Aside0.mk (blk_below (g := gb638) (o := .cells #[.slice Ao22 t630.length co22, .slice Ao25 t633.length co25] 33 (0, 0)) (pkK BK638.out) hb); have n8_ := Aside0.mk (below_step (by repeat (first | (with_reducible first | exact HB.out | apply below_alloc | apply pw_below_drewN | apply below_drew1 | refine below_set ?_ GE622.out | refine below_set ?_ GE638.out) | exact HB.out)) hb); have n9_ := Aside0.mk (hbox); have n10_ := Aside0.mk ((by rw [hg]; exact (below_size (by repeat (first | (with_reducible first | exact HB.out | apply below_alloc | apply pw_below_drewN | apply below_drew1 | refine below_set ?_ GE622.out | refine below_set ?_ GE638.out) | exact HB.out))) : w.heap.size ≤ gb645)); have n11_ := Aside0.mk ((by rw [hg]; exact (below_size (by repeat (first | (with_reducible first | exact HB.out | apply below_alloc | apply pw_below_drewN | apply below_drew1 | refine below_set ?_ GE622.out | refine below_set ?_ GE638.out) | exact HB.out))) : w.heap.size ≤ gb645)); have n12_ := Aside0.mk ((by rw [hg]; exact Nat.ne_of_lt (blk_lt (g := gb622) (o := .cells #[.slice A0_0 l0_0.length c0_0, .slice A0_1 l0_1.length c0_1] 30 (0, 0)) (pkK BK622.out)) : gb622 ≠ gb645)); have n13_ := Aside0.mk ((by rw [hg]; exact Nat.ne_of_gt (blk_lt (g := gb622) (o := .cells #[.slice A0_0 l0_0.length c0_0, .slice A0_1 l0_1.length c0_1] 30 (0, 0)) (pkK BK622.out)) : gb645 ≠ gb622)); have n14_ := Aside0.mk ((by rw [hg]; exact Nat.ne_of_lt (blk_lt (g := gb638) (o := .cells #[.slice Ao22 t630.length co22, .slice Ao25 t633.length co25] 33 (0, 0)) (pkK BK638.out)) : gb638 ≠ gb645)); have n15_ := Aside0.mk ((by rw [hg]; exact Nat.ne_of_gt (blk_lt (g := gb638) (o := .cells #[.slice Ao22 t630.length co22, .slice Ao25 t633.length co25] 33 (0, 0)) (pkK BK638.out)) : gb645 ≠ gb638)); clear HO626 HO629 HO632 HO635 HO641 HO644 BK622 BK638 HB; have HO626 := n0_; have HO629 := n1_; have HO632 := n2_; have HO635 := n3_; have HO641 := n4_; have HO644 := n5_; have BK622 := n6_; have BK638 := n7_; have HB := n8_; have BK645 := n9_; have GW645 := n10_; have GE645 := n11_; have NB622_645 := n12_; have NB645_622 := n13_; have NB638_645 := n14_; have NB645_638 := n15_; clear n0_ n1_ n2_ n3_ n4_ n5_ n6_ n7_ n8_ n9_ n10_ n11_ n12_ n13_ n14_ n15_; clear hb hbox hg; obtain ⟨Ao29, co29, eo29⟩ := Kd.R_slice HO641.out; subst eo29; have hnb30 := NB645_622.out; have hnc30 := NB622_645.out; have hnb31 := NB645_638.out; have hnc31 := NB638_645.out; have hcz32_0 : w28.cell? ⟨gb645, 0, none⟩ = some (.slice none 0 0) := (blk_cell BK645.out 0).trans rfl; have hcz32_1 : w28.cell? ⟨gb645, 1, none⟩ = some (.slice none 0 0) := (blk_cell BK645.out 1).trans rfl; have hfz32_0 := blk_frozen BK645.out 0; have hfz32_1 := blk_frozen BK645.out 1; obtain ⟨Ao33, co33, eo33⟩ := Kd.R_slice HO644.out; subst eo33) | ((with_reducible refine gate_callee (f := 40) rfl ?_); refine goesL_ (some 37) rfl rfl Try.func40 (by kernel_rfl) rfl #[.agg #[.slice Ao29 t639.length co29, .slice Ao33 t642.length co33], .int .i64 a1] rfl (by (try simp only [List.map_toArray, List.map_cons, List.map_nil]); first | done | rfl | (simp only [List.length_drop, List.length_take]; rfl) | (go_simp; done) | (simp [*]; done)) ?_; (with_reducible refine (impl_NewToken.calls k _ _ t639 _ _ t642 a1 t646 t649 t652 t653 _ ?side1 ?side2 ?side3 ?side4 A11.out).mono ?_); (case side1 => refine (Kd.R_reads' (e := 3) (base := w.heap.size) (ok := fun k_ => ((True ∧ some k_ ≠ (.slice Ao18 t624.length co18 : Value).ownBlock) ∧ some k_ ≠ (.slice Ao22 t630.length co22 : Value).ownBlock)) (n := t639.length) (c := co29) ?_).2.2; exact (by (with_reducible repeat (first | apply Kd.R_alloc | apply Kd.R_drewN | apply Kd.R_drew)); exact (Kd.R_mono (Kd.R_far (p := ⟨gb645, 1, none⟩) (Kd.R_far (p := ⟨gb645, 0, none⟩) (Kd.R_types HO641.out BK645.out (by decide)) (fun _ hk => hk.2) (.slice Ao29 t639.length co29)) (fun _ hk => hk.2) (.slice Ao33 t642.length co33)) (fun _ h_ => h_.1)))); (case side2 => exact (Kd.R_reads' HO641.out).2.1); (case side3 => refine (Kd.R_reads' (e := 4) (base := w.heap.size) (ok := fun k_ => ((True ∧ some k_ ≠ (.slice Ao19 t627.length co19 : Value).ownBlock) ∧ some k_ ≠ (.slice Ao25 t633.length co25 : Value).ownBlock)) (n := t642.length) (c := co33) ?_).2.2; exact (by (with_reducible repeat (first | apply Kd.R_alloc | apply Kd.R_drewN | apply Kd.R_drew)); exact (Kd.R_mono (Kd.R_far (p := ⟨gb645, 1, none⟩) (Kd.R_far (p := ⟨gb645, 0, none⟩) (Kd.R_types HO644.out BK645.out (by decide)) (fun _ hk => hk.2) (.slice Ao29 t639.length co29)) (fun _ hk => hk.2) (.slice Ao33 t642.length co33)) (fun _ h_ => h_.1)))); (case side4 => exact (Kd.R_reads' HO644.out).2.1); rintro e w34 ⟨v647, v650, rfl, ho0, ho1, hb⟩; refine ⟨_, rfl, ?_⟩; have n0_ := Aside0.mk (Kd.R_elder' (by (with_reducible repeat (first | apply Kd.R_alloc | apply Kd.R_drewN | apply Kd.R_drew)); exact (Kd.R_mono (Kd.R_far (p := ⟨gb645, 1, none⟩) (Kd.R_far (p := ⟨gb645, 0, none⟩) (Kd.R_types HO626.out BK645.out (by decide)) (fun _ hk => hk.2) (.slice Ao29 t639.length co29)) (fun _ hk => hk.2) (.slice Ao33 t642.length co33)) (fun _ h_ => h_.1))) (Kd.R_base ho0) hb); have n1_ := Aside0.mk (Kd.R_elder' (by (with_reducible repeat (first | apply Kd.R_alloc | apply Kd.R_drewN | apply Kd.R_drew)); exact (Kd.R_mono (Kd.R_far (p := ⟨gb645, 1, none⟩) (Kd.R_far (p := ⟨gb645, 0, none⟩) (Kd.R_types HO629.out BK645.out (by decide)) (fun _ hk => hk.2) (.slice Ao29 t639.length co29)) (fun _ hk => hk.2) (.slice Ao33 t642.length co33)) (fun _ h_ => h_.1))) (Kd.R_base ho1) hb); have n2_ := Aside0.mk (Kd.R_elder' (by (with_reducible repeat (first | apply Kd.R_alloc | apply Kd.R_drewN | apply Kd.R_drew)); exact (Kd.R_mono (Kd.R_far (p := ⟨gb645, 1, none⟩) (Kd.R_far (p := ⟨gb645, 0, none⟩) (Kd.R_types HO632.out BK645.out (by decide)) (fun _ hk => hk.2) (.slice Ao29 t639.length co29)) (fun _ hk => hk.2) (.slice Ao33 t642.length co33)) (fun _ h_ => h_.1))) (Kd.R_base ho0) hb); have n3_ := Aside0.mk (Kd.R_elder' (by (with_reducible repeat (first | apply Kd.R_alloc | apply Kd.R_drewN | apply Kd.R_drew)); exact (Kd.R_mono (Kd.R_far (p := ⟨gb645, 1, none⟩) (Kd.R_far (p := ⟨gb645, 0, none⟩) (Kd.R_types HO635.out BK645.out (by decide)) (fun _ hk => hk.2) (.slice Ao29 t639.length co29)) (fun _ hk => hk.2) (.slice Ao33 t642.length co33)) (fun _ h_ => h_.1))) (Kd.R_base ho1) hb); have n4_ := Aside0.mk (Kd.R_elder' (by (with_reducible repeat (first | apply Kd.R_alloc | apply Kd.R_drewN | apply Kd.R_drew)); exact (Kd.R_mono (Kd.R_far (p := ⟨gb645, 1, none⟩) (Kd.R_far (p := ⟨gb645, 0, none⟩) (Kd.R_types HO641.out BK645.out (by decide)) (fun _ hk => hk.2) (.slice Ao29 t639.length co29)) (fun _ hk => hk.2) (.slice Ao33 t642.length co33)) (fun _ h_ => h_.1))) (Kd.R_base ho0) hb); have n5_ := Aside0.mk (Kd.R_elder' (by (with_reducible repeat (first | apply Kd.R_alloc | apply Kd.R_drewN | apply Kd.R_drew)); exact (Kd.R_mono (Kd.R_far (p := ⟨gb645, 1, none⟩) (Kd.R_far (p := ⟨gb645, 0, none⟩) (Kd.R_types HO644.out BK645.out (by decide)) (fun _ hk => hk.2) (.slice Ao29 t639.length co29)) (fun _ hk => hk.2) (.slice Ao33 t642.length co33)) (fun _ h_ => h_.1))) (Kd.R_base ho1) hb); have n6_ := Aside0.mk (Kd.R_lower (Kd.R_new' (Kd.R_new' (Kd.R_new' ho0 (Kd.R_lt (by (with_reducible repeat (first | apply Kd.R_alloc | apply Kd.R_drewN | apply Kd.R_drew)); exact (Kd.R_mono (Kd.R_far (p := ⟨gb645, 1, none⟩) (Kd.R_far (p := ⟨gb645, 0, none⟩) (Kd.R_types HO626.out BK645.out (by decide)) (fun _ hk => hk.2) (.slice Ao29 t639.length co29)) (fun _ hk => hk.2) (.slice Ao33 t642.length co33)) (fun _ h_ => h_.1))))) (Kd.R_lt (by (with_reducible repeat (first | apply Kd.R_alloc | apply Kd.R_drewN | apply Kd.R_drew)); exact (Kd.R_mono (Kd.R_far (p := ⟨gb645, 1, none⟩) (Kd.R_far (p := ⟨gb645, 0, none⟩) (Kd.R_types HO632.out BK645.out (by decide)) (fun _ hk => hk.2) (.slice Ao29 t639.length co29)) (fun _ hk => hk.2) (.slice Ao33 t642.length co33)) (fun _ h_ => h_.1))))) (Kd.R_lt (by (with_reducible repeat (first | apply Kd.R_alloc | apply Kd.R_drewN | apply Kd.R_drew)); exact (Kd.R_mono (Kd.R_far (p := ⟨gb645, 1, none⟩) (Kd.R_far (p := ⟨gb645, 0, none⟩) (Kd.R_types HO641.out BK645.out (by decide)) (fun _ hk => hk.2) (.slice Ao29 t639.length co29)) (fun _ hk => hk.2) (.slice Ao33 t642.length co33)) (fun _ h_ => h_.1))))) (below_size (by repeat (first | (with_reducible first | exact HB.out | apply below_alloc | apply pw_below_drewN | apply below_drew1 | refine below_set ?_ GE622.out | refine below_set ?_ GE638.out | refine below_set ?_ GE645.out) | exact HB.out)))); have n7_ := Aside0.mk (Kd.R_lower (Kd.R_new' (Kd.R_new' (Kd.R_new' ho1 (Kd.R_lt (by (with_reducible repeat (first | apply Kd.R_alloc | apply Kd.R_drewN | apply Kd.R_drew)); exact (Kd.R_mono (Kd.R_far (p := ⟨gb645, 1, none⟩) (Kd.R_far (p := ⟨gb645, 0, none⟩) (Kd.R_types HO629.out BK645.out (by decide)) (fun _ hk => hk.2) (.slice Ao29 t639.length co29)) (fun _ hk => hk.2) (.slice Ao33 t642.length co33)) (fun _ h_ => h_.1))))) (Kd.R_lt (by (with_reducible repeat (first | apply Kd.R_alloc | apply Kd.R_drewN | apply Kd.R_drew)); exact (Kd.R_mono (Kd.R_far (p := ⟨gb645, 1, none⟩) (Kd.R_far (p := ⟨gb645, 0, none⟩) (Kd.R_types HO635.out BK645.out (by decide)) (fun _ hk => hk.2) (.slice Ao29 t639.length co29)) (fun _ hk => hk.2) (.slice Ao33 t642.length co33)) (fun _ h_ => h_.1))))) (Kd.R_lt (by (with_reducible repeat (first | apply Kd.R_alloc | apply Kd.R_drewN | apply Kd.R_drew)); exact (Kd.R_mono (Kd.R_far (p := ⟨gb645, 1, none⟩) (Kd.R_far (p := ⟨gb645, 0, none⟩) (Kd.R_types HO644.out BK645.out (by decide)) (fun _ hk => hk.2) (.slice Ao29 t639.length co29)) (fun _ hk => hk.2) (.slice Ao33 t642.length co33)) (fun _ h_ => h_.1))))) (below_size (by repeat (first | (with_reducible first | exact HB.out | apply below_alloc | apply pw_below_drewN | apply below_drew1 | refine below_set ?_ GE622.out | refine below_set ?_ GE638.out | refine below_set ?_ GE645.out) | exact HB.out)))); have n8_ := Aside0.mk (blk_below (g := gb622) (o := .cells #[.slice A0_0 l0_0.length c0_0, .slice A0_1 l0_1.length c0_1] 30 (0, 0)) (by (with_reducible repeat (first | refine blk_drewN ?_ _ | refine blk_drew ?_ | refine blk_alloc ?_ _)); refine blk_far ?_ NB622_645.out _; (with_reducible repeat (first | refine blk_drewN ?_ _ | refine blk_drew ?_ | refine blk_alloc ?_ _)); refine blk_far ?_ NB622_645.out _; (with_reducible repeat (first | refine blk_drewN ?_ _ | refine blk_drew ?_ | refine blk_alloc ?_ _)); exact BK622.out) hb); have n9_ := Aside0.mk (blk_below (g := gb638) (o := .cells #[.slice Ao22 t630.length co22, .slice Ao25 t633.length co25] 33 (0, 0)) (by (with_reducible repeat (first | refine blk_drewN ?_ _ | refine blk_drew ?_ | refine blk_alloc ?_ _)); refine blk_far ?_ NB638_645.out _; (with_reducible repeat (first | refine blk_drewN ?_ _ | refine blk_drew ?_ | refine blk_alloc ?_ _)); refine blk_far ?_ NB638_645.out _; (with_reducible repeat (first | refine blk_drewN ?_ _ | refine blk_drew ?_ | refine blk_alloc ?_ _)); exact BK638.out) hb); have n10_ := Aside0.mk (blk_below (g := gb645) (o := .cells #[.slice Ao29 t639.length co29, .slice Ao33 t642.length co33] 33 (0, 0)) (by (with_reducible repeat (first | refine blk_drewN ?_ _ | refine blk_drew ?_ | refine blk_alloc ?_ _)); refine blk_put (cs := #[.slice Ao29 t639.length co29, .slice none 0 0]) ?_ 1 _ rfl; (with_reducible repeat (first | refine blk_drewN ?_ _ | refine blk_drew ?_ | refine blk_alloc ?_ _)); refine blk_put (cs := #[.slice none 0 0, .slice none 0 0]) ?_ 0 _ rfl; (with_reducible repeat (first | refine blk_drewN ?_ _ | refine blk_drew ?_ | refine blk_alloc ?_ _)); exact BK645.out) hb); have n11_ := Aside0.mk (below_step (by repeat (first | (with_reducible first | exact HB.out | apply below_alloc | apply pw_below_drewN | apply below_drew1 | refine below_set ?_ GE622.out | refine below_set ?_ GE638.out | refine below_set ?_ GE645.out) | exact HB.out)) hb); clear HO626 HO629 HO632 HO635 HO641 HO644 BK622 BK638 BK645 HB; have HO626 := n0_; have HO629 := n1_; have HO632 := n2_; have HO635 := n3_; have HO641 := n4_; have HO644 := n5_; have HO648 := n6_; have HO651 := n7_; have BK622 := n8_; have BK638 := n9_; have BK645 := n10_; have HB := n11_; clear n0_ n1_ n2_ n3_ n4_ n5_ n6_ n7_ n8_ n9_ n10_ n11_; (try clear hb); (try clear hb2); (try clear hk); (try clear hi); (try clear ho0); (try clear ho1)) | ((with_reducible refine gate_dst (N := 10) rfl ?_); refine box_event ?hg (N := 10) ?hd (cs := #[.slice none 0 0, .slice none 0 0]) (t := 33) ?hr ?_; (case hd => rfl); (case hg => rfl); (case hr => first | (go_simp; done) | (go_simp; rfl)); intro gb654 hg w35 hbox hb; have n0_ := Aside0.mk (Kd.R_below (pkR HO626.out) hb); have n1_ := Aside0.mk (Kd.R_below (pkR HO629.out) hb); have n2_ := Aside0.mk (Kd.R_below (pkR HO632.out) hb); have n3_ := Aside0.mk (Kd.R_below (pkR HO635.out) hb); have n4_ := Aside0.mk (Kd.R_below (pkR HO641.out) hb); have n5_ := Aside0.mk (Kd.R_below (pkR HO644.out) hb); have n6_ := Aside0.mk (Kd.R_below (pkR HO648.out) hb); have n7_ := Aside0.mk (Kd.R_below (pkR HO651.out) hb); have n8_ := Aside0.mk (blk_below (g := gb622) (o := .cells #[.slice A0_0 l0_0.length c0_0, .slice A0_1 l0_1.length c0_1] 30 (0, 0)) (pkK BK622.out) hb); have n9_ := Aside0.mk (blk_below (g := gb638) (o := .cells #[.slice Ao22 t630.length co22, .slice Ao25 t633.length co25] 33 (0, 0)) (pkK BK638.out) hb); have n10_ := Aside0.mk (blk_below (g := gb645) (o := .cells #[.slice Ao29 t639.length co29, .slice Ao33 t642.length co33] 33 (0, 0)) (pkK BK645.out) hb); have n11_ := Aside0.mk (below_step (by repeat (first | (with_reducible first | exact HB.out | apply below_alloc | apply pw_below_drewN | apply below_drew1 | refine below_set ?_ GE622.out | refine below_set ?_ GE638.out | refine below_set ?_ GE645.out) | exact HB.out)) hb); have n12_ := Aside0.mk (hbox); have n13_ := Aside0.mk ((by rw [hg]; exact (below_size (by repeat (first | (with_reducible first | exact HB.out | apply below_alloc | apply pw_below_drewN | apply below_drew1 | refine below_set ?_ GE622.out | refine below_set ?_ GE638.out | refine below_set ?_ GE645.out) | exact HB.out))) : w.heap.size ≤ gb654)); have n14_ := Aside0.mk ((by rw [hg]; exact (below_size (by repeat (first | (with_reducible first | exact HB.out | apply below_alloc | apply pw_below_drewN | apply below_drew1 | refine below_set ?_ GE622.out | refine below_set ?_ GE638.out | refine below_set ?_ GE645.out) | exact HB.out))) : w.heap.size ≤ gb654)); have n15_ := Aside0.mk ((by rw [hg]; exact Nat.ne_of_lt (blk_lt (g := gb622) (o := .cells #[.slice A0_0 l0_0.length c0_0, .slice A0_1 l0_1.length c0_1] 30 (0, 0)) (pkK BK622.out)) : gb622 ≠ gb654)); have n16_ := Aside0.mk ((by rw [hg]; exact Nat.ne_of_gt (blk_lt (g := gb622) (o := .cells #[.slice A0_0 l0_0.length c0_0, .slice A0_1 l0_1.length c0_1] 30 (0, 0)) (pkK BK622.out)) : gb654 ≠ gb622)); have n17_ := Aside0.mk ((by rw [hg]; exact Nat.ne_of_lt (blk_lt (g := gb638) (o := .cells #[.slice Ao22 t630.length co22, .slice Ao25 t633.length co25] 33 (0, 0)) (pkK BK638.out)) : gb638 ≠ gb654)); have n18_ := Aside0.mk ((by rw [hg]; exact Nat.ne_of_gt (blk_lt (g := gb638) (o := .cells #[.slice Ao22 t630.length co22, .slice Ao25 t633.length co25] 33 (0, 0)) (pkK BK638.out)) : gb654 ≠ gb638)); have n19_ := Aside0.mk ((by rw [hg]; exact Nat.ne_of_lt (blk_lt (g := gb645) (o := .cells #[.slice Ao29 t639.length co29, .slice Ao33 t642.length co33] 33 (0, 0)) (pkK BK645.out)) : gb645 ≠ gb654)); have n20_ := Aside0.mk ((by rw [hg]; exact Nat.ne_of_gt (blk_lt (g := gb645) (o := .cells #[.slice Ao29 t639.length co29, .slice Ao33 t642.length co33] 33 (0, 0)) (pkK BK645.out)) : gb654 ≠ gb645)); clear HO626 HO629 HO632 HO635 HO641 HO644 HO648 HO651 BK622 BK638 BK645 HB; have HO626 := n0_; have HO629 := n1_; have HO632 := n2_; have HO635 := n3_; have HO641 := n4_; have HO644 := n5_; have HO648 := n6_; have HO651 := n7_; have BK622 := n8_; have BK638 := n9_; have BK645 := n10_; have HB := n11_; have BK654 := n12_; have GW654 := n13_; have GE654 := n14_; have NB622_654 := n15_; have NB654_622 := n16_; have NB638_654 := n17_; have NB654_638 := n18_; have NB645_654 := n19_; have NB654_645 := n20_; clear n0_ n1_ n2_ n3_ n4_ n5_ n6_ n7_ n8_ n9_ n10_ n11_ n12_ n13_ n14_ n15_ n16_ n17_ n18_ n19_ n20_; clear hb hbox hg; obtain ⟨Ao36, co36, eo36⟩ := Kd.R_slice HO648.out; subst eo36; have hnb37 := NB654_622.out; have hnc37 := NB622_654.out; have hnb38 := NB654_638.out; have hnc38 := NB638_654.out; have hnb39 := NB654_645.out; have hnc39 := NB645_654.out; have hcz40_0 : w35.cell? ⟨gb654, 0, none⟩ = some (.slice none 0 0) := (blk_cell BK654.out 0).trans rfl; have hcz40_1 : w35.cell? ⟨gb654, 1, none⟩ = some (.slice none 0 0) := (blk_cell BK654.out 1).trans rfl; have hfz40_0 := blk_frozen BK654.out 0; have hfz40_1 := blk_frozen BK654.out 1; obtain ⟨Ao41, co41, eo41⟩ := Kd.R_slice HO651.out; subst eo41))
    (try simp only [Act.put, List.setIfInBounds_toArray, List.set_cons_zero, List.set_cons_succ])
    go_cut [54] (fun v54 wc => ∃ (kq : Nat) (x54_11 : Bool), v54 = .bool x54_11 ∧ Aside0 (laws_FnExactNewToken.j0 kq a1 t636 t637 t652 t653 x54_11 l0_0 l0_1 t630 t633 t639 t642 t646 t649 = some r) ∧ Aside0 (kq ≤ k) ∧ Aside0 (Kd.R (Kd.int .i64) 3 wc w.heap.size (fun k_ => some k_ ≠ ((.slice Ao29 t639.length co29) : Value).ownBlock ∧ some k_ ≠ ((.slice Ao36 t646.length co36) : Value).ownBlock) (.slice Ao22 t630.length co22) t630) ∧ Aside0 (Kd.R Kd.bool 4 wc w.heap.size (fun k_ => some k_ ≠ ((.slice Ao33 t642.length co33) : Value).ownBlock ∧ some k_ ≠ ((.slice Ao41 t649.length co41) : Value).ownBlock) (.slice Ao25 t633.length co25) t633) ∧ Aside0 (Kd.R (Kd.int .i64) 3 wc w.heap.size (fun k_ => some k_ ≠ ((.slice Ao22 t630.length co22) : Value).ownBlock ∧ some k_ ≠ ((.slice Ao36 t646.length co36) : Value).ownBlock) (.slice Ao29 t639.length co29) t639) ∧ Aside0 (Kd.R Kd.bool 4 wc w.heap.size (fun k_ => some k_ ≠ ((.slice Ao25 t633.length co25) : Value).ownBlock ∧ some k_ ≠ ((.slice Ao41 t649.length co41) : Value).ownBlock) (.slice Ao33 t642.length co33) t642) ∧ Aside0 (Kd.R (Kd.int .i64) 3 wc w.heap.size (fun k_ => some k_ ≠ ((.slice Ao22 t630.length co22) : Value).ownBlock ∧ some k_ ≠ ((.slice Ao29 t639.length co29) : Value).ownBlock) (.slice Ao36 t646.length co36) t646) ∧ Aside0 (Kd.R Kd.bool 4 wc w.heap.size (fun k_ => some k_ ≠ ((.slice Ao25 t633.length co25) : Value).ownBlock ∧ some k_ ≠ ((.slice Ao33 t642.length co33) : Value).ownBlock) (.slice Ao41 t649.length co41) t649) ∧ Aside0 (wc.heap[gb622]? = some (.cells #[(.slice A0_0 l0_0.length c0_0), (.slice A0_1 l0_1.length c0_1)] 30 (0, 0))) ∧ Aside0 (wc.heap[gb638]? = some (.cells #[(.slice Ao22 t630.length co22), (.slice Ao25 t633.length co25)] 33 (0, 0))) ∧ Aside0 (wc.heap[gb645]? = some (.cells #[(.slice Ao29 t639.length co29), (.slice Ao33 t642.length co33)] 33 (0, 0))) ∧ Aside0 (wc.heap[gb654]? = some (.cells #[(.slice Ao36 t646.length co36), (.slice Ao41 t649.length co41)] 33 (0, 0))) ∧ Aside0 (Below w.heap.size w wc))
    case first =>
      have H := HC12.out
      clear HC12
      replace H := Option.bind_eq_some_iff.mp H
      obtain ⟨t655, A420, H⟩ := H
      replace H : (if t655 = true then (if t652 = t636 then (laws_FnExactNewToken.j0 k a1 t636 t637 t652 t653 (t653 != t637) l0_0 l0_1 t630 t633 t639 t642 t646 t649) else (laws_FnExactNewToken.j0 k a1 t636 t637 t652 t653 true l0_0 l0_1 t630 t633 t639 t642 t646 t649)) else (laws_FnExactNewToken.j0 k a1 t636 t637 t652 t653 true l0_0 l0_1 t630 t633 t639 t642 t646 t649)) = some r := H
      have A42 := Aside0.mk A420
      clear A420
      by_cases c43 : t655 = true
      · subst c43
        have H1 : (if t652 = t636 then (laws_FnExactNewToken.j0 k a1 t636 t637 t652 t653 (t653 != t637) l0_0 l0_1 t630 t633 t639 t642 t646 t649) else (laws_FnExactNewToken.j0 k a1 t636 t637 t652 t653 true l0_0 l0_1 t630 t633 t639 t642 t646 t649)) = some r := by rw [if_pos rfl] at H; exact H
        clear H
        have H := H1
        clear H1
        by_cases c44 : t652 = t636
        · rw [if_pos c44] at H
          have c44b0 : (t652 == t636) = true := beq_iff_eq.mpr c44
          have c44b1 : (t652 != t636) = false := bne_eq_false_iff_eq.mpr c44
          clear c44
          (first | rw [c44b0] | (simp only [i64_w, i32_w]; rw [c44b0]) | skip)
          have H' := Aside0.mk H
          clear H
          have hnb45 := NB654_622.out
          have hnc45 := NB622_654.out
          have hnb46 := NB654_638.out
          have hnc46 := NB638_654.out
          have hnb47 := NB654_645.out
          have hnc47 := NB645_654.out
          have hcz48_0 : w35.cell? ⟨gb654, 0, none⟩ = some (.slice none 0 0) := (blk_cell BK654.out 0).trans rfl
          have hcz48_1 : w35.cell? ⟨gb654, 1, none⟩ = some (.slice none 0 0) := (blk_cell BK654.out 1).trans rfl
          have hfz48_0 := blk_frozen BK654.out 0
          have hfz48_1 := blk_frozen BK654.out 1
          have hnb49 := NB638_622.out
          have hnc49 := NB622_638.out
          have hnb50 := NB638_645.out
          have hnc50 := NB645_638.out
          have hcz51_0 : w35.cell? ⟨gb638, 0, none⟩ = some (.slice Ao22 t630.length co22) := (blk_cell BK638.out 0).trans rfl
          have hcz51_1 : w35.cell? ⟨gb638, 1, none⟩ = some (.slice Ao25 t633.length co25) := (blk_cell BK638.out 1).trans rfl
          have hfz51_0 := blk_frozen BK638.out 0
          have hfz51_1 := blk_frozen BK638.out 1
          go_wp2_with (first | ((with_reducible refine gate_callee (f := 25) rfl ?_); refine goesL_ (some 43) rfl rfl Try.func25 (by kernel_rfl) rfl #[.agg #[.slice Ao36 t646.length co36, .slice Ao41 t649.length co41], .agg #[.slice Ao22 t630.length co22, .slice Ao25 t633.length co25]] rfl (by (try simp only [List.map_toArray, List.map_cons, List.map_nil]); first | done | rfl | (simp only [List.length_drop, List.length_take]; rfl) | (go_simp; done) | (simp [*]; done)) ?_; (with_reducible refine (laws_eqTokens.calls k _ _ t646 _ _ t649 _ _ t630 _ _ t633 true _ ?side1 ?side2 ?side3 ?side4 ?side5 ?side6 ?side7 ?side8 A42.out).mono ?_); (case side1 => refine (Kd.R_reads' (e := 3) (base := w.heap.size) (ok := fun k_ => (((True ∧ some k_ ≠ (.slice Ao18 t624.length co18 : Value).ownBlock) ∧ some k_ ≠ (.slice Ao22 t630.length co22 : Value).ownBlock) ∧ some k_ ≠ (.slice Ao29 t639.length co29 : Value).ownBlock)) (n := t646.length) (c := co36) ?_).2.2; exact (by (with_reducible repeat (first | apply Kd.R_alloc | apply Kd.R_drewN | apply Kd.R_drew)); exact (Kd.R_mono (Kd.R_far (p := ⟨gb654, 1, none⟩) (Kd.R_far (p := ⟨gb654, 0, none⟩) (Kd.R_types HO648.out BK654.out (by decide)) (fun _ hk => hk.2) (.slice Ao36 t646.length co36)) (fun _ hk => hk.2) (.slice Ao41 t649.length co41)) (fun _ h_ => h_.1)))); (case side2 => exact (Kd.R_reads' HO648.out).2.1); (case side3 => refine (Kd.R_reads' (e := 4) (base := w.heap.size) (ok := fun k_ => (((True ∧ some k_ ≠ (.slice Ao19 t627.length co19 : Value).ownBlock) ∧ some k_ ≠ (.slice Ao25 t633.length co25 : Value).ownBlock) ∧ some k_ ≠ (.slice Ao33 t642.length co33 : Value).ownBlock)) (n := t649.length) (c := co41) ?_).2.2; exact (by (with_reducible repeat (first | apply Kd.R_alloc | apply Kd.R_drewN | apply Kd.R_drew)); exact (Kd.R_mono (Kd.R_far (p := ⟨gb654, 1, none⟩) (Kd.R_far (p := ⟨gb654, 0, none⟩) (Kd.R_types HO651.out BK654.out (by decide)) (fun _ hk => hk.2) (.slice Ao36 t646.length co36)) (fun _ hk => hk.2) (.slice Ao41 t649.length co41)) (fun _ h_ => h_.1)))); (case side4 => exact (Kd.R_reads' HO651.out).2.1); (case side5 => refine (Kd.R_reads' (e := 3) (base := w.heap.size) (ok := fun k_ => (((True ∧ some k_ ≠ (.slice Ao18 t624.length co18 : Value).ownBlock) ∧ some k_ ≠ (.slice Ao29 t639.length co29 : Value).ownBlock) ∧ some k_ ≠ (.slice Ao36 t646.length co36 : Value).ownBlock)) (n := t630.length) (c := co22) ?_).2.2; exact (by (with_reducible repeat (first | apply Kd.R_alloc | apply Kd.R_drewN | apply Kd.R_drew)); exact (Kd.R_mono (Kd.R_far (p := ⟨gb654, 1, none⟩) (Kd.R_far (p := ⟨gb654, 0, none⟩) (Kd.R_types HO632.out BK654.out (by decide)) (fun _ hk => hk.2) (.slice Ao36 t646.length co36)) (fun _ hk => hk.2) (.slice Ao41 t649.length co41)) (fun _ h_ => h_.1)))); (case side6 => exact (Kd.R_reads' HO632.out).2.1); (case side7 => refine (Kd.R_reads' (e := 4) (base := w.heap.size) (ok := fun k_ => (((True ∧ some k_ ≠ (.slice Ao19 t627.length co19 : Value).ownBlock) ∧ some k_ ≠ (.slice Ao33 t642.length co33 : Value).ownBlock) ∧ some k_ ≠ (.slice Ao41 t649.length co41 : Value).ownBlock)) (n := t633.length) (c := co25) ?_).2.2; exact (by (with_reducible repeat (first | apply Kd.R_alloc | apply Kd.R_drewN | apply Kd.R_drew)); exact (Kd.R_mono (Kd.R_far (p := ⟨gb654, 1, none⟩) (Kd.R_far (p := ⟨gb654, 0, none⟩) (Kd.R_types HO635.out BK654.out (by decide)) (fun _ hk => hk.2) (.slice Ao36 t646.length co36)) (fun _ hk => hk.2) (.slice Ao41 t649.length co41)) (fun _ h_ => h_.1)))); (case side8 => exact (Kd.R_reads' HO635.out).2.1); rintro e w52 ⟨rfl, hb⟩; refine ⟨_, rfl, ?_⟩; have n0_ := Aside0.mk (Kd.R_below (by (with_reducible repeat (first | apply Kd.R_alloc | apply Kd.R_drewN | apply Kd.R_drew)); exact (Kd.R_mono (Kd.R_far (p := ⟨gb654, 1, none⟩) (Kd.R_far (p := ⟨gb654, 0, none⟩) (Kd.R_types HO626.out BK654.out (by decide)) (fun _ hk => hk.2) (.slice Ao36 t646.length co36)) (fun _ hk => hk.2) (.slice Ao41 t649.length co41)) (fun _ h_ => h_.1))) hb); have n1_ := Aside0.mk (Kd.R_below (by (with_reducible repeat (first | apply Kd.R_alloc | apply Kd.R_drewN | apply Kd.R_drew)); exact (Kd.R_mono (Kd.R_far (p := ⟨gb654, 1, none⟩) (Kd.R_far (p := ⟨gb654, 0, none⟩) (Kd.R_types HO629.out BK654.out (by decide)) (fun _ hk => hk.2) (.slice Ao36 t646.length co36)) (fun _ hk => hk.2) (.slice Ao41 t649.length co41)) (fun _ h_ => h_.1))) hb); have n2_ := Aside0.mk (Kd.R_below (by (with_reducible repeat (first | apply Kd.R_alloc | apply Kd.R_drewN | apply Kd.R_drew)); exact (Kd.R_mono (Kd.R_far (p := ⟨gb654, 1, none⟩) (Kd.R_far (p := ⟨gb654, 0, none⟩) (Kd.R_types HO632.out BK654.out (by decide)) (fun _ hk => hk.2) (.slice Ao36 t646.length co36)) (fun _ hk => hk.2) (.slice Ao41 t649.length co41)) (fun _ h_ => h_.1))) hb); have n3_ := Aside0.mk (Kd.R_below (by (with_reducible repeat (first | apply Kd.R_alloc | apply Kd.R_drewN | apply Kd.R_drew)); exact (Kd.R_mono (Kd.R_far (p := ⟨gb654, 1, none⟩) (Kd.R_far (p := ⟨gb654, 0, none⟩) (Kd.R_types HO635.out BK654.out (by decide)) (fun _ hk => hk.2) (.slice Ao36 t646.length co36)) (fun _ hk => hk.2) (.slice Ao41 t649.length co41)) (fun _ h_ => h_.1))) hb); have n4_ := Aside0.mk (Kd.R_below (by (with_reducible repeat (first | apply Kd.R_alloc | apply Kd.R_drewN | apply Kd.R_drew)); exact (Kd.R_mono (Kd.R_far (p := ⟨gb654, 1, none⟩) (Kd.R_far (p := ⟨gb654, 0, none⟩) (Kd.R_types HO641.out BK654.out (by decide)) (fun _ hk => hk.2) (.slice Ao36 t646.length co36)) (fun _ hk => hk.2) (.slice Ao41 t649.length co41)) (fun _ h_ => h_.1))) hb); have n5_ := Aside0.mk (Kd.R_below (by (with_reducible repeat (first | apply Kd.R_alloc | apply Kd.R_drewN | apply Kd.R_drew)); exact (Kd.R_mono (Kd.R_far (p := ⟨gb654, 1, none⟩) (Kd.R_far (p := ⟨gb654, 0, none⟩) (Kd.R_types HO644.out BK654.out (by decide)) (fun _ hk => hk.2) (.slice Ao36 t646.length co36)) (fun _ hk => hk.2) (.slice Ao41 t649.length co41)) (fun _ h_ => h_.1))) hb); have n6_ := Aside0.mk (Kd.R_below (by (with_reducible repeat (first | apply Kd.R_alloc | apply Kd.R_drewN | apply Kd.R_drew)); exact (Kd.R_mono (Kd.R_far (p := ⟨gb654, 1, none⟩) (Kd.R_far (p := ⟨gb654, 0, none⟩) (Kd.R_types HO648.out BK654.out (by decide)) (fun _ hk => hk.2) (.slice Ao36 t646.length co36)) (fun _ hk => hk.2) (.slice Ao41 t649.length co41)) (fun _ h_ => h_.1))) hb); have n7_ := Aside0.mk (Kd.R_below (by (with_reducible repeat (first | apply Kd.R_alloc | apply Kd.R_drewN | apply Kd.R_drew)); exact (Kd.R_mono (Kd.R_far (p := ⟨gb654, 1, none⟩) (Kd.R_far (p := ⟨gb654, 0, none⟩) (Kd.R_types HO651.out BK654.out (by decide)) (fun _ hk => hk.2) (.slice Ao36 t646.length co36)) (fun _ hk => hk.2) (.slice Ao41 t649.length co41)) (fun _ h_ => h_.1))) hb); have n8_ := Aside0.mk (blk_below (g := gb622) (o := .cells #[.slice A0_0 l0_0.length c0_0, .slice A0_1 l0_1.length c0_1] 30 (0, 0)) (by (with_reducible repeat (first | refine blk_drewN ?_ _ | refine blk_drew ?_ | refine blk_alloc ?_ _)); refine blk_far ?_ NB622_654.out _; (with_reducible repeat (first | refine blk_drewN ?_ _ | refine blk_drew ?_ | refine blk_alloc ?_ _)); refine blk_far ?_ NB622_654.out _; (with_reducible repeat (first | refine blk_drewN ?_ _ | refine blk_drew ?_ | refine blk_alloc ?_ _)); exact BK622.out) hb); have n9_ := Aside0.mk (blk_below (g := gb638) (o := .cells #[.slice Ao22 t630.length co22, .slice Ao25 t633.length co25] 33 (0, 0)) (by (with_reducible repeat (first | refine blk_drewN ?_ _ | refine blk_drew ?_ | refine blk_alloc ?_ _)); refine blk_far ?_ NB638_654.out _; (with_reducible repeat (first | refine blk_drewN ?_ _ | refine blk_drew ?_ | refine blk_alloc ?_ _)); refine blk_far ?_ NB638_654.out _; (with_reducible repeat (first | refine blk_drewN ?_ _ | refine blk_drew ?_ | refine blk_alloc ?_ _)); exact BK638.out) hb); have n10_ := Aside0.mk (blk_below (g := gb645) (o := .cells #[.slice Ao29 t639.length co29, .slice Ao33 t642.length co33] 33 (0, 0)) (by (with_reducible repeat (first | refine blk_drewN ?_ _ | refine blk_drew ?_ | refine blk_alloc ?_ _)); refine blk_far ?_ NB645_654.out _; (with_reducible repeat (first | refine blk_drewN ?_ _ | refine blk_drew ?_ | refine blk_alloc ?_ _)); refine blk_far ?_ NB645_654.out _; (with_reducible repeat (first | refine blk_drewN ?_ _ | refine blk_drew ?_ | refine blk_alloc ?_ _)); exact BK645.out) hb); have n11_ := Aside0.mk (blk_below (g := gb654) (o := .cells #[.slice Ao36 t646.length co36, .slice Ao41 t649.length co41] 33 (0, 0)) (by (with_reducible repeat (first | refine blk_drewN ?_ _ | refine blk_drew ?_ | refine blk_alloc ?_ _)); refine blk_put (cs := #[.slice Ao36 t646.length co36, .slice none 0 0]) ?_ 1 _ rfl; (with_reducible repeat (first | refine blk_drewN ?_ _ | refine blk_drew ?_ | refine blk_alloc ?_ _)); refine blk_put (cs := #[.slice none 0 0, .slice none 0 0]) ?_ 0 _ rfl; (with_reducible repeat (first | refine blk_drewN ?_ _ | refine blk_drew ?_ | refine blk_alloc ?_ _)); exact BK654.out) hb); have n12_ := Aside0.mk (below_step (by repeat (first | (with_reducible first | exact HB.out | apply below_alloc | apply pw_below_drewN | apply below_drew1 | refine below_set ?_ GE622.out | refine below_set ?_ GE638.out | refine below_set ?_ GE645.out | refine below_set ?_ GE654.out) | exact HB.out)) hb); clear HO626 HO629 HO632 HO635 HO641 HO644 HO648 HO651 BK622 BK638 BK645 BK654 HB; have HO626 := n0_; have HO629 := n1_; have HO632 := n2_; have HO635 := n3_; have HO641 := n4_; have HO644 := n5_; have HO648 := n6_; have HO651 := n7_; have BK622 := n8_; have BK638 := n9_; have BK645 := n10_; have BK654 := n11_; have HB := n12_; clear n0_ n1_ n2_ n3_ n4_ n5_ n6_ n7_ n8_ n9_ n10_ n11_ n12_; (try clear hb); (try clear hb2); (try clear hk); (try clear hi)))
          go_meet
          case rel => exact ⟨_, ((t653 != t637)), (by first | rfl | (simp; done) | (simp [*]; done)), H', ⟨by first | omega | exact Nat.le_refl _⟩, ⟨by (with_reducible repeat (first | apply Kd.R_alloc | apply Kd.R_drewN | apply Kd.R_drew)); exact Kd.R_mono HO632.out (fun _ hk => ⟨hk.1.2, hk.2⟩)⟩, ⟨by (with_reducible repeat (first | apply Kd.R_alloc | apply Kd.R_drewN | apply Kd.R_drew)); exact Kd.R_mono HO635.out (fun _ hk => ⟨hk.1.2, hk.2⟩)⟩, ⟨by (with_reducible repeat (first | apply Kd.R_alloc | apply Kd.R_drewN | apply Kd.R_drew)); exact Kd.R_mono HO641.out (fun _ hk => ⟨hk.1.2, hk.2⟩)⟩, ⟨by (with_reducible repeat (first | apply Kd.R_alloc | apply Kd.R_drewN | apply Kd.R_drew)); exact Kd.R_mono HO644.out (fun _ hk => ⟨hk.1.2, hk.2⟩)⟩, ⟨by (with_reducible repeat (first | apply Kd.R_alloc | apply Kd.R_drewN | apply Kd.R_drew)); exact Kd.R_mono HO648.out (fun _ hk => ⟨hk.1.2, hk.2⟩)⟩, ⟨by (with_reducible repeat (first | apply Kd.R_alloc | apply Kd.R_drewN | apply Kd.R_drew)); exact Kd.R_mono HO651.out (fun _ hk => ⟨hk.1.2, hk.2⟩)⟩, ⟨pkK BK622.out⟩, ⟨pkK BK638.out⟩, ⟨pkK BK645.out⟩, ⟨pkK BK654.out⟩, ⟨by repeat (first | (with_reducible first | exact HB.out | apply below_alloc | apply pw_below_drewN | apply below_drew1 | refine below_set ?_ GE622.out | refine below_set ?_ GE638.out | refine below_set ?_ GE645.out | refine below_set ?_ GE654.out) | exact HB.out)⟩⟩
        · rw [if_neg c44] at H
          have c44b0 : (t652 == t636) = false := beq_eq_false_iff_ne.mpr c44
          have c44b1 : (t652 != t636) = true := bne_iff_ne.mpr c44
          (first | rw [c44b0] | (simp only [i64_w, i32_w]; rw [c44b0]) | skip)
          cases k with
          | zero => exact absurd H (by simp [laws_FnExactNewToken.j0])
          | succ k_ => (simp only [laws_FnExactNewToken.j0, if_pos] at H; exact absurd (Option.some.inj H) (by rw [HQ_.out]; simp))
      · replace c43 := Bool.eq_false_iff.mpr c43
        subst c43
        have H1 : (laws_FnExactNewToken.j0 k a1 t636 t637 t652 t653 true l0_0 l0_1 t630 t633 t639 t642 t646 t649) = some r := by rw [if_neg (show ¬ (false = true) by decide)] at H; exact H
        clear H
        have H := H1
        clear H1
        cases k with
        | zero => exact absurd H (by simp [laws_FnExactNewToken.j0])
        | succ k_ => (simp only [laws_FnExactNewToken.j0, if_pos] at H; exact absurd (Option.some.inj H) (by rw [HQ_.out]; simp))
    case rest =>
      clear HC12
      try clear c1
      try clear c2
      try clear p2
      try clear c3
      try clear c4
      try clear c4b0
      try clear c5
      try clear c11
      try clear c21
      try clear c23
      try clear c25
      try clear c30
      try clear c31
      try clear c37
      try clear c38
      try clear c39
      try clear c40
      try clear c43
      try clear c44
      try clear c44b0
      try clear c44b1
      try clear c45
      try clear c46
      try clear c47
      try clear c49
      try clear c50
      try clear hcz14_0
      try clear hcz14_1
      try clear hcz16_0
      try clear hcz16_1
      try clear hcz24_0
      try clear hcz24_1
      try clear hcz26_0
      try clear hcz26_1
      try clear hcz32_0
      try clear hcz32_1
      try clear hcz40_0
      try clear hcz40_1
      try clear hcz48_0
      try clear hcz48_1
      try clear hcz51_0
      try clear hcz51_1
      try clear hcz6_0
      try clear hcz6_1
      try clear hfz14_0
      try clear hfz14_1
      try clear hfz16_0
      try clear hfz16_1
      try clear hfz24_0
      try clear hfz24_1
      try clear hfz26_0
      try clear hfz26_1
      try clear hfz32_0
      try clear hfz32_1
      try clear hfz40_0
      try clear hfz40_1
      try clear hfz48_0
      try clear hfz48_1
      try clear hfz51_0
      try clear hfz51_1
      try clear hfz6_0
      try clear hfz6_1
      obtain ⟨kq, x54_11, rfl, HA, HJ11, HO_639000, HO_639001, HO_646000, HO_646001, HO_655000, HO_655001, BK622, BK638, BK645, BK654, HB⟩ := hcut
      cases kq with
      | zero => exact absurd HA.out (by simp [laws_FnExactNewToken.j0])
      | succ kj11 =>
        have H := HA.out
        clear HA
        simp only [laws_FnExactNewToken.j0] at H
        by_cases c53 : x54_11 = true
        · subst c53
          have H1 : (some false) = some r := by rw [if_pos rfl] at H; exact H
          clear H
          have H := H1
          clear H1
          exact absurd (Option.some.inj H) (by rw [HQ_.out]; simp)
        · replace c53 := Bool.eq_false_iff.mpr c53
          subst c53
          have H1 : ((laws_toTokens.f kj11 l0_0 l0_1).bind fun bt656 => ((laws_eqTokens.f kj11 t639 t642 bt656.1 bt656.2).bind fun t662 => (if t662 = true then ((laws_markTokens.f kj11 t639 t642 1).bind fun bt663 => (if bt663.1 < 0 then (laws_FnExactNewToken.j1 kj11 a1 t636 t637 true l0_0 l0_1 t630 t633 t646 t649) else ((laws_eqTokens.f kj11 t646 t649 t630 t633).bind fun t666 => (if t666 = true then (if t652 = t636 then (laws_FnExactNewToken.j1 kj11 a1 t636 t637 (t653 != t637) l0_0 l0_1 t630 t633 t646 t649) else (laws_FnExactNewToken.j1 kj11 a1 t636 t637 true l0_0 l0_1 t630 t633 t646 t649)) else (laws_FnExactNewToken.j1 kj11 a1 t636 t637 true l0_0 l0_1 t630 t633 t646 t649))))) else (some false)))) = some r := by rw [if_neg (show ¬ (false = true) by decide)] at H; exact H
          clear H
          have H := H1
          clear H1
          replace H := Option.bind_eq_some_iff.mp H
          obtain ⟨⟨t656, t659⟩, A540, H⟩ := H
          replace H : ((laws_eqTokens.f kj11 t639 t642 t656 t659).bind fun t662 => (if t662 = true then ((laws_markTokens.f kj11 t639 t642 1).bind fun bt663 => (if bt663.1 < 0 then (laws_FnExactNewToken.j1 kj11 a1 t636 t637 true l0_0 l0_1 t630 t633 t646 t649) else ((laws_eqTokens.f kj11 t646 t649 t630 t633).bind fun t666 => (if t666 = true then (if t652 = t636 then (laws_FnExactNewToken.j1 kj11 a1 t636 t637 (t653 != t637) l0_0 l0_1 t630 t633 t646 t649) else (laws_FnExactNewToken.j1 kj11 a1 t636 t637 true l0_0 l0_1 t630 t633 t646 t649)) else (laws_FnExactNewToken.j1 kj11 a1 t636 t637 true l0_0 l0_1 t630 t633 t646 t649))))) else (some false))) = some r := H
          have A54 := Aside0.mk A540
          clear A540
          replace H := Option.bind_eq_some_iff.mp H
          obtain ⟨t662, A550, H⟩ := H
          replace H : (if t662 = true then ((laws_markTokens.f kj11 t639 t642 1).bind fun bt663 => (if bt663.1 < 0 then (laws_FnExactNewToken.j1 kj11 a1 t636 t637 true l0_0 l0_1 t630 t633 t646 t649) else ((laws_eqTokens.f kj11 t646 t649 t630 t633).bind fun t666 => (if t666 = true then (if t652 = t636 then (laws_FnExactNewToken.j1 kj11 a1 t636 t637 (t653 != t637) l0_0 l0_1 t630 t633 t646 t649) else (laws_FnExactNewToken.j1 kj11 a1 t636 t637 true l0_0 l0_1 t630 t633 t646 t649)) else (laws_FnExactNewToken.j1 kj11 a1 t636 t637 true l0_0 l0_1 t630 t633 t646 t649))))) else (some false)) = some r := H
          have A55 := Aside0.mk A550
          clear A550
          by_cases c56 : t662 = true
          · subst c56
            have H1 : ((laws_markTokens.f kj11 t639 t642 1).bind fun bt663 => (if bt663.1 < 0 then (laws_FnExactNewToken.j1 kj11 a1 t636 t637 true l0_0 l0_1 t630 t633 t646 t649) else ((laws_eqTokens.f kj11 t646 t649 t630 t633).bind fun t666 => (if t666 = true then (if t652 = t636 then (laws_FnExactNewToken.j1 kj11 a1 t636 t637 (t653 != t637) l0_0 l0_1 t630 t633 t646 t649) else (laws_FnExactNewToken.j1 kj11 a1 t636 t637 true l0_0 l0_1 t630 t633 t646 t649)) else (laws_FnExactNewToken.j1 kj11 a1 t636 t637 true l0_0 l0_1 t630 t633 t646 t649))))) = some r := by rw [if_pos rfl] at H; exact H
            clear H
            have H := H1
            clear H1
            replace H := Option.bind_eq_some_iff.mp H
            obtain ⟨⟨t663, t664, t665⟩, A570, H⟩ := H
            replace H : (if t663 < 0 then (laws_FnExactNewToken.j1 kj11 a1 t636 t637 true l0_0 l0_1 t630 t633 t646 t649) else ((laws_eqTokens.f kj11 t646 t649 t630 t633).bind fun t666 => (if t666 = true then (if t652 = t636 then (laws_FnExactNewToken.j1 kj11 a1 t636 t637 (t653 != t637) l0_0 l0_1 t630 t633 t646 t649) else (laws_FnExactNewToken.j1 kj11 a1 t636 t637 true l0_0 l0_1 t630 t633 t646 t649)) else (laws_FnExactNewToken.j1 kj11 a1 t636 t637 true l0_0 l0_1 t630 t633 t646 t649)))) = some r := H
            have A57 := Aside0.mk A570
            clear A570
            have HC58 := Aside0.mk H
            clear H
            try go_wp2
            have n0_ := Aside0.mk (Kd.R_drew HO_639000.out)
            have n1_ := Aside0.mk (Kd.R_drew HO_639001.out)
            have n2_ := Aside0.mk (Kd.R_drew HO_646000.out)
            have n3_ := Aside0.mk (Kd.R_drew HO_646001.out)
            have n4_ := Aside0.mk (Kd.R_drew HO_655000.out)
            have n5_ := Aside0.mk (Kd.R_drew HO_655001.out)
            have n6_ := Aside0.mk (blk_drew BK622.out)
            have n7_ := Aside0.mk (blk_drew BK638.out)
            have n8_ := Aside0.mk (blk_drew BK645.out)
            have n9_ := Aside0.mk (blk_drew BK654.out)
            have n10_ := Aside0.mk (below_drew1 HB.out)
            clear HO_639000 HO_639001 HO_646000 HO_646001 HO_655000 HO_655001 BK622 BK638 BK645 BK654 HB
            have HO_639000 := n0_; have HO_639001 := n1_; have HO_646000 := n2_; have HO_646001 := n3_; have HO_655000 := n4_; have HO_655001 := n5_; have BK622 := n6_; have BK638 := n7_; have BK645 := n8_; have BK654 := n9_; have HB := n10_
            clear n0_ n1_ n2_ n3_ n4_ n5_ n6_ n7_ n8_ n9_ n10_
            refine start_ (n := 5) (S := fun w' => w'.cell? ⟨gb645, 0, none⟩ = some (.slice Ao29 t639.length co29) ∧ w'.cell? ⟨gb645, 1, none⟩ = some (.slice Ao33 t642.length co33) ∧ w'.cell? ⟨gb622, 0, none⟩ = some (.slice A0_0 l0_0.length c0_0) ∧ w'.cell? ⟨gb622, 1, none⟩ = some (.slice A0_1 l0_1.length c0_1)) (ds := []) #[false, false, false, false, false] (by kernel_rfl) rfl rfl ⟨(blk_cell BK645.out 0).trans rfl, (blk_cell BK645.out 1).trans rfl, (blk_cell BK622.out 0).trans rfl, (blk_cell BK622.out 1).trans rfl⟩ (fun hHeld => ?_)
            generalize wc.drew = w59 at HO_639000 HO_639001 HO_646000 HO_646001 HO_655000 HO_655001 BK622 BK638 BK645 BK654 HB hHeld ⊢
            refine take_ (i := 0) (N := some 55) (v := ?_) (a' := ?_) #[true, false, false, false, false] rfl rfl (by kernel_rfl) (fun _ _ _ h => h) (Or.inl ⟨by rfl, ?_⟩) hHeld ?_ ?_
            rotate_left
            · rintro w' ⟨s0, s1, s2, s3⟩
              go_simp
              with_reducible rfl
            rotate_left
            · simp only [Act.put, List.setIfInBounds_toArray, List.set_cons_zero, List.set_cons_succ, i64_w, i32_w]
              rfl
            refine take_ (i := 1) (N := some 56) (v := ?_) (a' := ?_) #[true, true, false, false, false] rfl rfl (by kernel_rfl) (fun _ _ _ h => h) (Or.inl ⟨by rfl, ?_⟩) hHeld ?_ ?_
            rotate_left
            · rintro w' ⟨s0, s1, s2, s3⟩
              go_simp
              with_reducible rfl
            rotate_left
            · simp only [Act.put, List.setIfInBounds_toArray, List.set_cons_zero, List.set_cons_succ, i64_w, i32_w]
              rfl
            refine one_ (i := 2) (N := some 57) #[true, true, true, false, false] rfl rfl (by kernel_rfl) (by decide) (fun K hK => ?_)
            refine goes_ Try.func23 (by kernel_rfl) rfl #[.agg #[.slice A0_0 l0_0.length c0_0, .slice A0_1 l0_1.length c0_1]] (by rfl) rfl rfl (by (try simp only [List.map_toArray, List.map_cons, List.map_nil]); first | done | rfl | (simp only [List.length_drop, List.length_take]; rfl) | (go_simp; done) | (simp [*]; done)) ?_
            with_reducible refine (laws_toTokens.calls kj11 _ _ l0_0 _ _ l0_1 t656 t659 _ ?side1 ?side2 ?side3 ?side4 A54.out).mono ?_
            (case side1 => exact pkC (Kd.C_below HR0_0.out HB.out))
            (case side2 => exact HC0_0.out)
            (case side3 => exact pkC (Kd.C_below HR0_1.out HB.out))
            (case side4 => exact HC0_1.out)
            rintro e w60 ⟨v657, v660, rfl, ho0, ho1, hb⟩
            refine ⟨_, rfl, ?_⟩
            have n0_ := Aside0.mk (Kd.R_elder' (pkR HO_639000.out) (Kd.R_base ho0) hb)
            have n1_ := Aside0.mk (Kd.R_elder' (pkR HO_639001.out) (Kd.R_base ho1) hb)
            have n2_ := Aside0.mk (Kd.R_elder' (pkR HO_646000.out) (Kd.R_base ho0) hb)
            have n3_ := Aside0.mk (Kd.R_elder' (pkR HO_646001.out) (Kd.R_base ho1) hb)
            have n4_ := Aside0.mk (Kd.R_elder' (pkR HO_655000.out) (Kd.R_base ho0) hb)
            have n5_ := Aside0.mk (Kd.R_elder' (pkR HO_655001.out) (Kd.R_base ho1) hb)
            have n6_ := Aside0.mk (Kd.R_lower (Kd.R_new' (Kd.R_new' (Kd.R_new' ho0 (Kd.R_lt (pkR HO_639000.out))) (Kd.R_lt (pkR HO_646000.out))) (Kd.R_lt (pkR HO_655000.out))) (below_size (by repeat (first | (with_reducible first | exact HB.out | apply below_alloc | apply pw_below_drewN | apply below_drew1 | refine below_set ?_ GE622.out | refine below_set ?_ GE638.out | refine below_set ?_ GE645.out | refine below_set ?_ GE654.out) | exact HB.out))))
            have n7_ := Aside0.mk (Kd.R_lower (Kd.R_new' (Kd.R_new' (Kd.R_new' ho1 (Kd.R_lt (pkR HO_639001.out))) (Kd.R_lt (pkR HO_646001.out))) (Kd.R_lt (pkR HO_655001.out))) (below_size (by repeat (first | (with_reducible first | exact HB.out | apply below_alloc | apply pw_below_drewN | apply below_drew1 | refine below_set ?_ GE622.out | refine below_set ?_ GE638.out | refine below_set ?_ GE645.out | refine below_set ?_ GE654.out) | exact HB.out))))
            have n8_ := Aside0.mk (blk_below (g := gb622) (o := .cells #[.slice A0_0 l0_0.length c0_0, .slice A0_1 l0_1.length c0_1] 30 (0, 0)) (pkK BK622.out) hb)
            have n9_ := Aside0.mk (blk_below (g := gb638) (o := .cells #[.slice Ao22 t630.length co22, .slice Ao25 t633.length co25] 33 (0, 0)) (pkK BK638.out) hb)
            have n10_ := Aside0.mk (blk_below (g := gb645) (o := .cells #[.slice Ao29 t639.length co29, .slice Ao33 t642.length co33] 33 (0, 0)) (pkK BK645.out) hb)
            have n11_ := Aside0.mk (blk_below (g := gb654) (o := .cells #[.slice Ao36 t646.length co36, .slice Ao41 t649.length co41] 33 (0, 0)) (pkK BK654.out) hb)
            have n12_ := Aside0.mk (below_step (by repeat (first | (with_reducible first | exact HB.out | apply below_alloc | apply pw_below_drewN | apply below_drew1 | refine below_set ?_ GE622.out | refine below_set ?_ GE638.out | refine below_set ?_ GE645.out | refine below_set ?_ GE654.out) | exact HB.out)) hb)
            clear HO_639000 HO_639001 HO_646000 HO_646001 HO_655000 HO_655001 BK622 BK638 BK645 BK654 HB
            have HO_639000 := n0_; have HO_639001 := n1_; have HO_646000 := n2_; have HO_646001 := n3_; have HO_655000 := n4_; have HO_655001 := n5_; have HO658 := n6_; have HO661 := n7_; have BK622 := n8_; have BK638 := n9_; have BK645 := n10_; have BK654 := n11_; have HB := n12_
            clear n0_ n1_ n2_ n3_ n4_ n5_ n6_ n7_ n8_ n9_ n10_ n11_ n12_
            (try clear hb); (try clear hb2); (try clear hk); (try clear hi); (try clear ho0); (try clear ho1)
            obtain ⟨Ao61, co61, eo61⟩ := Kd.R_slice HO658.out
            (first | subst eo61 | (injection eo61 with f1_ f2_ f3_; have f4_ := f1_.symm; have f5_ := f3_.symm; clear f1_ f2_ f3_; subst f4_; subst f5_))
            obtain ⟨Ao62, co62, eo62⟩ := Kd.R_slice HO661.out
            (first | subst eo62 | (injection eo62 with f1_ f2_ f3_; have f4_ := f1_.symm; have f5_ := f3_.symm; clear f1_ f2_ f3_; subst f4_; subst f5_))
            refine hK.out _ _ ⟨(blk_cell BK645.out 0).trans rfl, (blk_cell BK645.out 1).trans rfl, (blk_cell BK622.out 0).trans rfl, (blk_cell BK622.out 1).trans rfl⟩ (fun hHeld => ?_)
            clear hK K
            refine norm_ (a' := ?_) ?_ ?_
            rotate_left
            · show Act.put _ (some 57) _ = _
              simp only [Act.put, List.setIfInBounds_toArray, List.set_cons_zero, List.set_cons_succ, i64_w, i32_w]
              rfl
            refine one_ (i := 3) (N := some 58) #[true, true, true, true, false] rfl rfl (by kernel_rfl) (by decide) (fun K hK => ?_)
            refine goes_ Try.func25 (by kernel_rfl) rfl #[.agg #[.slice Ao29 t639.length co29, .slice Ao33 t642.length co33], .agg #[.slice Ao61 t656.length co61, .slice Ao62 t659.length co62]] (by rfl) rfl rfl (by (try simp only [List.map_toArray, List.map_cons, List.map_nil]); first | done | rfl | (simp only [List.length_drop, List.length_take]; rfl) | (go_simp; done) | (simp [*]; done)) ?_
            with_reducible refine (laws_eqTokens.calls kj11 _ _ t639 _ _ t642 _ _ t656 _ _ t659 true _ ?side1 ?side2 ?side3 ?side4 ?side5 ?side6 ?side7 ?side8 A55.out).mono ?_
            (case side1 => exact pkC (Kd.R_reads' HO_646000.out).2.2)
            (case side2 => exact (Kd.R_reads' HO_646000.out).2.1)
            (case side3 => exact pkC (Kd.R_reads' HO_646001.out).2.2)
            (case side4 => exact (Kd.R_reads' HO_646001.out).2.1)
            (case side5 => exact pkC (Kd.R_reads' HO658.out).2.2)
            (case side6 => exact (Kd.R_reads' HO658.out).2.1)
            (case side7 => exact pkC (Kd.R_reads' HO661.out).2.2)
            (case side8 => exact (Kd.R_reads' HO661.out).2.1)
            rintro e w63 ⟨rfl, hb⟩
            refine ⟨_, rfl, ?_⟩
            have n0_ := Aside0.mk (Kd.R_below (pkR HO_639000.out) hb)
            have n1_ := Aside0.mk (Kd.R_below (pkR HO_639001.out) hb)
            have n2_ := Aside0.mk (Kd.R_below (pkR HO_646000.out) hb)
            have n3_ := Aside0.mk (Kd.R_below (pkR HO_646001.out) hb)
            have n4_ := Aside0.mk (Kd.R_below (pkR HO_655000.out) hb)
            have n5_ := Aside0.mk (Kd.R_below (pkR HO_655001.out) hb)
            have n6_ := Aside0.mk (Kd.R_below (pkR HO658.out) hb)
            have n7_ := Aside0.mk (Kd.R_below (pkR HO661.out) hb)
            have n8_ := Aside0.mk (blk_below (g := gb622) (o := .cells #[.slice A0_0 l0_0.length c0_0, .slice A0_1 l0_1.length c0_1] 30 (0, 0)) (pkK BK622.out) hb)
            have n9_ := Aside0.mk (blk_below (g := gb638) (o := .cells #[.slice Ao22 t630.length co22, .slice Ao25 t633.length co25] 33 (0, 0)) (pkK BK638.out) hb)
            have n10_ := Aside0.mk (blk_below (g := gb645) (o := .cells #[.slice Ao29 t639.length co29, .slice Ao33 t642.length co33] 33 (0, 0)) (pkK BK645.out) hb)
            have n11_ := Aside0.mk (blk_below (g := gb654) (o := .cells #[.slice Ao36 t646.length co36, .slice Ao41 t649.length co41] 33 (0, 0)) (pkK BK654.out) hb)
            have n12_ := Aside0.mk (below_step (by repeat (first | (with_reducible first | exact HB.out | apply below_alloc | apply pw_below_drewN | apply below_drew1 | refine below_set ?_ GE622.out | refine below_set ?_ GE638.out | refine below_set ?_ GE645.out | refine below_set ?_ GE654.out) | exact HB.out)) hb)
            clear HO_639000 HO_639001 HO_646000 HO_646001 HO_655000 HO_655001 HO658 HO661 BK622 BK638 BK645 BK654 HB
            have HO_639000 := n0_; have HO_639001 := n1_; have HO_646000 := n2_; have HO_646001 := n3_; have HO_655000 := n4_; have HO_655001 := n5_; have HO658 := n6_; have HO661 := n7_; have BK622 := n8_; have BK638 := n9_; have BK645 := n10_; have BK654 := n11_; have HB := n12_
            clear n0_ n1_ n2_ n3_ n4_ n5_ n6_ n7_ n8_ n9_ n10_ n11_ n12_
            (try clear hb); (try clear hb2); (try clear hk); (try clear hi)
            refine hK.out _ _ ⟨(blk_cell BK645.out 0).trans rfl, (blk_cell BK645.out 1).trans rfl, (blk_cell BK622.out 0).trans rfl, (blk_cell BK622.out 1).trans rfl⟩ (fun hHeld => ?_)
            clear hK K
            refine norm_ (a' := ?_) ?_ ?_
            rotate_left
            · show Act.put _ (some 58) _ = _
              simp only [Act.put, List.setIfInBounds_toArray, List.set_cons_zero, List.set_cons_succ, i64_w, i32_w]
              rfl
            refine pure_ (i := 4) (N := some 59) (v := ?_) (a' := ?_) #[true, true, true, true, true] rfl rfl (by kernel_rfl) (fun _ _ _ h => h) (Or.inl ⟨by rfl, ?_⟩) ?_ ?_
            rotate_left
            · intro w'
              go_simp
              with_reducible rfl
            rotate_left
            · simp only [Act.put, List.setIfInBounds_toArray, List.set_cons_zero, List.set_cons_succ, i64_w, i32_w]
              rfl
            refine done_ (by kernel_rfl) ?_
            have hnb64 := NB645_622.out
            have hnc64 := NB622_645.out
            have hnb65 := NB645_638.out
            have hnc65 := NB638_645.out
            have hnb66 := NB645_654.out
            have hnc66 := NB654_645.out
            have hcz67_0 : w63.cell? ⟨gb645, 0, none⟩ = some (.slice Ao29 t639.length co29) := (blk_cell BK645.out 0).trans rfl
            have hcz67_1 : w63.cell? ⟨gb645, 1, none⟩ = some (.slice Ao33 t642.length co33) := (blk_cell BK645.out 1).trans rfl
            have hfz67_0 := blk_frozen BK645.out 0
            have hfz67_1 := blk_frozen BK645.out 1
            go_upto_region 14 with (first | ((with_reducible refine gate_callee (f := 38) rfl ?_); refine goesL_ (some 62) rfl rfl Try.func38 (by kernel_rfl) rfl #[.agg #[.slice Ao29 t639.length co29, .slice Ao33 t642.length co33], .int .i64 1] rfl (by (try simp only [List.map_toArray, List.map_cons, List.map_nil]); first | done | rfl | (simp only [List.length_drop, List.length_take]; rfl) | (go_simp; done) | (simp [*]; done)) ?_; (with_reducible refine (laws_markTokens.calls kj11 (fun k_ => some k_ = (.slice Ao29 t639.length co29 : Value).ownBlock) (.slice Ao29 t639.length co29) t639 (fun k_ => some k_ = (.slice Ao33 t642.length co33 : Value).ownBlock) (.slice Ao33 t642.length co33) t642 1 t663 t664 t665 w _ ?side1 ?side2 ?side3 A57.out).mono ?_); (case side1 => repeat (first | (with_reducible first | exact HB.out | apply below_alloc | apply pw_below_drewN | apply below_drew1 | refine below_set ?_ GE622.out | refine below_set ?_ GE638.out | refine below_set ?_ GE645.out | refine below_set ?_ GE654.out) | exact HB.out)); (case side2 => exact Kd.R_tight rfl HO_646000.out); (case side3 => exact Kd.R_tight rfl HO_646001.out); rintro e w68 ⟨rfl, hy0, hy1, hb, hkp⟩; refine ⟨_, rfl, ?_⟩; have n0_ := Aside0.mk (Kd.R_mono (ok' := fun k_ => some k_ ≠ (.slice Ao29 t639.length co29 : Value).ownBlock ∧ some k_ ≠ (.slice Ao36 t646.length co36 : Value).ownBlock ∧ some k_ ≠ (.slice Ao61 t656.length co61 : Value).ownBlock) (Kd.R_keptB ((Kd.R_apart' HO_639000.out (Kd.R_typed HO_646001.out) (by decide))) hkp (fun k_ hk_ hs_ => Or.elim hs_ (fun e_ => (hk_.1.1.1) e_) (fun e_ => (hk_.2) e_))) (fun k_ hk_ => ⟨hk_.1.1.1.1, hk_.1.1.1.2, hk_.1.1.2⟩)); have n1_ := Aside0.mk (Kd.R_mono (ok' := fun k_ => some k_ ≠ (.slice Ao33 t642.length co33 : Value).ownBlock ∧ some k_ ≠ (.slice Ao41 t649.length co41 : Value).ownBlock ∧ some k_ ≠ (.slice Ao62 t659.length co62 : Value).ownBlock) (Kd.R_keptB ((Kd.R_apart' HO_639001.out (Kd.R_typed HO_646000.out) (by decide))) hkp (fun k_ hk_ hs_ => Or.elim hs_ (fun e_ => (hk_.2) e_) (fun e_ => (hk_.1.1.1) e_))) (fun k_ hk_ => ⟨hk_.1.1.1.1, hk_.1.1.1.2, hk_.1.1.2⟩)); have n2_ := Aside0.mk (Kd.R_reok rfl hy0 (fun k_ e_ => HO_646000.out.1 k_ e_)); have n3_ := Aside0.mk (Kd.R_reok rfl hy1 (fun k_ e_ => HO_646001.out.1 k_ e_)); have n4_ := Aside0.mk (Kd.R_mono (ok' := fun k_ => some k_ ≠ (.slice Ao22 t630.length co22 : Value).ownBlock ∧ some k_ ≠ (.slice Ao29 t639.length co29 : Value).ownBlock ∧ some k_ ≠ (.slice Ao61 t656.length co61 : Value).ownBlock) (Kd.R_keptB ((Kd.R_apart' HO_655000.out (Kd.R_typed HO_646001.out) (by decide))) hkp (fun k_ hk_ hs_ => Or.elim hs_ (fun e_ => (hk_.1.1.2) e_) (fun e_ => (hk_.2) e_))) (fun k_ hk_ => ⟨hk_.1.1.1.1, hk_.1.1.1.2, hk_.1.1.2⟩)); have n5_ := Aside0.mk (Kd.R_mono (ok' := fun k_ => some k_ ≠ (.slice Ao25 t633.length co25 : Value).ownBlock ∧ some k_ ≠ (.slice Ao33 t642.length co33 : Value).ownBlock ∧ some k_ ≠ (.slice Ao62 t659.length co62 : Value).ownBlock) (Kd.R_keptB ((Kd.R_apart' HO_655001.out (Kd.R_typed HO_646000.out) (by decide))) hkp (fun k_ hk_ hs_ => Or.elim hs_ (fun e_ => (hk_.2) e_) (fun e_ => (hk_.1.1.2) e_))) (fun k_ hk_ => ⟨hk_.1.1.1.1, hk_.1.1.1.2, hk_.1.1.2⟩)); have n6_ := Aside0.mk (blk_kept (pkK BK622.out) hkp (fun hs_ => Or.elim hs_ (fun e_ => (fun e_ => (Kd.R_ne HO_646000.out BK622.out (by decide)) e_) e_) (fun e_ => (fun e_ => (Kd.R_ne HO_646001.out BK622.out (by decide)) e_) e_))); have n7_ := Aside0.mk (blk_kept (pkK BK638.out) hkp (fun hs_ => Or.elim hs_ (fun e_ => (fun e_ => (Kd.R_ne HO_646000.out BK638.out (by decide)) e_) e_) (fun e_ => (fun e_ => (Kd.R_ne HO_646001.out BK638.out (by decide)) e_) e_))); have n8_ := Aside0.mk (blk_kept (pkK BK645.out) hkp (fun hs_ => Or.elim hs_ (fun e_ => (fun e_ => (Kd.R_ne HO_646000.out BK645.out (by decide)) e_) e_) (fun e_ => (fun e_ => (Kd.R_ne HO_646001.out BK645.out (by decide)) e_) e_))); have n9_ := Aside0.mk (blk_kept (pkK BK654.out) hkp (fun hs_ => Or.elim hs_ (fun e_ => (fun e_ => (Kd.R_ne HO_646000.out BK654.out (by decide)) e_) e_) (fun e_ => (fun e_ => (Kd.R_ne HO_646001.out BK654.out (by decide)) e_) e_))); have n10_ := Aside0.mk (Kd.R_mono (ok' := fun k_ => some k_ ≠ (.slice Ao22 t630.length co22 : Value).ownBlock ∧ some k_ ≠ (.slice Ao29 t639.length co29 : Value).ownBlock ∧ some k_ ≠ (.slice Ao36 t646.length co36 : Value).ownBlock) (Kd.R_keptB ((Kd.R_apart' HO658.out (Kd.R_typed HO_646001.out) (by decide))) hkp (fun k_ hk_ hs_ => Or.elim hs_ (fun e_ => (hk_.1.1.2) e_) (fun e_ => (hk_.2) e_))) (fun k_ hk_ => ⟨hk_.1.1.1.1.2, hk_.1.1.1.2, hk_.1.1.2⟩)); have n11_ := Aside0.mk (Kd.R_mono (ok' := fun k_ => some k_ ≠ (.slice Ao25 t633.length co25 : Value).ownBlock ∧ some k_ ≠ (.slice Ao33 t642.length co33 : Value).ownBlock ∧ some k_ ≠ (.slice Ao41 t649.length co41 : Value).ownBlock) (Kd.R_keptB ((Kd.R_apart' HO661.out (Kd.R_typed HO_646000.out) (by decide))) hkp (fun k_ hk_ hs_ => Or.elim hs_ (fun e_ => (hk_.2) e_) (fun e_ => (hk_.1.1.2) e_))) (fun k_ hk_ => ⟨hk_.1.1.1.1.2, hk_.1.1.1.2, hk_.1.1.2⟩)); have n12_ := Aside0.mk (hb); clear HO_639000 HO_639001 HO_646000 HO_646001 HO_655000 HO_655001 BK622 BK638 BK645 BK654 HO658 HO661 HB; have HO_639000 := n0_; have HO_639001 := n1_; have HO_646000 := n2_; have HO_646001 := n3_; have HO_655000 := n4_; have HO_655001 := n5_; have BK622 := n6_; have BK638 := n7_; have BK645 := n8_; have BK654 := n9_; have HO658 := n10_; have HO661 := n11_; have HB := n12_; clear n0_ n1_ n2_ n3_ n4_ n5_ n6_ n7_ n8_ n9_ n10_ n11_ n12_; (try clear hb); (try clear hkp); (try clear hy0); (try clear hy1)))
            (try simp only [Act.put, List.setIfInBounds_toArray, List.set_cons_zero, List.set_cons_succ])
            go_cut [80] (fun v80 wc => ∃ (kq : Nat) (x80_57 : Bool), v80 = .bool x80_57 ∧ Aside0 (laws_FnExactNewToken.j1 kq a1 t636 t637 x80_57 l0_0 l0_1 t630 t633 t646 t649 = some r) ∧ Aside0 (kq ≤ kj11) ∧ Aside0 (Kd.R (Kd.int .i64) 3 wc w.heap.size (fun k_ => some k_ ≠ ((.slice Ao29 t639.length co29) : Value).ownBlock ∧ some k_ ≠ ((.slice Ao36 t646.length co36) : Value).ownBlock) (.slice Ao22 t630.length co22) t630) ∧ Aside0 (Kd.R Kd.bool 4 wc w.heap.size (fun k_ => some k_ ≠ ((.slice Ao33 t642.length co33) : Value).ownBlock ∧ some k_ ≠ ((.slice Ao41 t649.length co41) : Value).ownBlock) (.slice Ao25 t633.length co25) t633) ∧ Aside0 (Kd.R (Kd.int .i64) 3 wc w.heap.size (fun k_ => some k_ ≠ ((.slice Ao22 t630.length co22) : Value).ownBlock ∧ some k_ ≠ ((.slice Ao36 t646.length co36) : Value).ownBlock) (.slice Ao29 t639.length co29) t664) ∧ Aside0 (Kd.R Kd.bool 4 wc w.heap.size (fun k_ => some k_ ≠ ((.slice Ao25 t633.length co25) : Value).ownBlock ∧ some k_ ≠ ((.slice Ao41 t649.length co41) : Value).ownBlock) (.slice Ao33 t642.length co33) t665) ∧ Aside0 (Kd.R (Kd.int .i64) 3 wc w.heap.size (fun k_ => some k_ ≠ ((.slice Ao22 t630.length co22) : Value).ownBlock ∧ some k_ ≠ ((.slice Ao29 t639.length co29) : Value).ownBlock) (.slice Ao36 t646.length co36) t646) ∧ Aside0 (Kd.R Kd.bool 4 wc w.heap.size (fun k_ => some k_ ≠ ((.slice Ao25 t633.length co25) : Value).ownBlock ∧ some k_ ≠ ((.slice Ao33 t642.length co33) : Value).ownBlock) (.slice Ao41 t649.length co41) t649) ∧ Aside0 (wc.heap[gb622]? = some (.cells #[(.slice A0_0 l0_0.length c0_0), (.slice A0_1 l0_1.length c0_1)] 30 (0, 0))) ∧ Aside0 (wc.heap[gb638]? = some (.cells #[(.slice Ao22 t630.length co22), (.slice Ao25 t633.length co25)] 33 (0, 0))) ∧ Aside0 (wc.heap[gb645]? = some (.cells #[(.slice Ao29 t639.length co29), (.slice Ao33 t642.length co33)] 33 (0, 0))) ∧ Aside0 (wc.heap[gb654]? = some (.cells #[(.slice Ao36 t646.length co36), (.slice Ao41 t649.length co41)] 33 (0, 0))) ∧ Aside0 (Below w.heap.size w wc))
            case first =>
              have H := HC58.out
              clear HC58
              by_cases c69 : t663 < 0
              · rw [if_pos c69] at H
                have c69b0 : decide (t663 < 0) = true := decide_eq_true c69
                clear c69
                (first | rw [c69b0] | (simp only [i64_w, i32_w]; rw [c69b0]) | skip)
                cases kj11 with
                | zero => exact absurd H (by simp [laws_FnExactNewToken.j1])
                | succ k_ => (simp only [laws_FnExactNewToken.j1, if_pos] at H; exact absurd (Option.some.inj H) (by rw [HQ_.out]; simp))
              · rw [if_neg c69] at H
                have c69b0 : decide (t663 < 0) = false := decide_eq_false c69
                clear c69
                (first | rw [c69b0] | (simp only [i64_w, i32_w]; rw [c69b0]) | skip)
                replace H := Option.bind_eq_some_iff.mp H
                obtain ⟨t666, A700, H⟩ := H
                replace H : (if t666 = true then (if t652 = t636 then (laws_FnExactNewToken.j1 kj11 a1 t636 t637 (t653 != t637) l0_0 l0_1 t630 t633 t646 t649) else (laws_FnExactNewToken.j1 kj11 a1 t636 t637 true l0_0 l0_1 t630 t633 t646 t649)) else (laws_FnExactNewToken.j1 kj11 a1 t636 t637 true l0_0 l0_1 t630 t633 t646 t649)) = some r := H
                have A70 := Aside0.mk A700
                clear A700
                by_cases c71 : t666 = true
                · subst c71
                  have H1 : (if t652 = t636 then (laws_FnExactNewToken.j1 kj11 a1 t636 t637 (t653 != t637) l0_0 l0_1 t630 t633 t646 t649) else (laws_FnExactNewToken.j1 kj11 a1 t636 t637 true l0_0 l0_1 t630 t633 t646 t649)) = some r := by rw [if_pos rfl] at H; exact H
                  clear H
                  have H := H1
                  clear H1
                  by_cases c72 : t652 = t636
                  · rw [if_pos c72] at H
                    have c72b0 : (t652 == t636) = true := beq_iff_eq.mpr c72
                    have c72b1 : (t652 != t636) = false := bne_eq_false_iff_eq.mpr c72
                    clear c72
                    have H' := Aside0.mk H
                    clear H
                    have hnb73 := NB654_622.out
                    have hnc73 := NB622_654.out
                    have hnb74 := NB654_638.out
                    have hnc74 := NB638_654.out
                    have hnb75 := NB654_645.out
                    have hnc75 := NB645_654.out
                    have hcz76_0 : w68.cell? ⟨gb654, 0, none⟩ = some (.slice Ao36 t646.length co36) := (blk_cell BK654.out 0).trans rfl
                    have hcz76_1 : w68.cell? ⟨gb654, 1, none⟩ = some (.slice Ao41 t649.length co41) := (blk_cell BK654.out 1).trans rfl
                    have hfz76_0 := blk_frozen BK654.out 0
                    have hfz76_1 := blk_frozen BK654.out 1
                    have hnb77 := NB638_622.out
                    have hnc77 := NB622_638.out
                    have hnb78 := NB638_645.out
                    have hnc78 := NB645_638.out
                    have hcz79_0 : w68.cell? ⟨gb638, 0, none⟩ = some (.slice Ao22 t630.length co22) := (blk_cell BK638.out 0).trans rfl
                    have hcz79_1 : w68.cell? ⟨gb638, 1, none⟩ = some (.slice Ao25 t633.length co25) := (blk_cell BK638.out 1).trans rfl
                    have hfz79_0 := blk_frozen BK638.out 0
                    have hfz79_1 := blk_frozen BK638.out 1
                    go_wp2_with (first | (go_at_call 25; (with_reducible refine (laws_eqTokens.calls kj11 _ _ t646 _ _ t649 _ _ t630 _ _ t633 true _ ?side1 ?side2 ?side3 ?side4 ?side5 ?side6 ?side7 ?side8 A70.out).mono ?_); (case side1 => exact pkC (Kd.R_reads' HO_655000.out).2.2); (case side2 => exact (Kd.R_reads' HO_655000.out).2.1); (case side3 => exact pkC (Kd.R_reads' HO_655001.out).2.2); (case side4 => exact (Kd.R_reads' HO_655001.out).2.1); (case side5 => exact pkC (Kd.R_reads' HO_639000.out).2.2); (case side6 => exact (Kd.R_reads' HO_639000.out).2.1); (case side7 => exact pkC (Kd.R_reads' HO_639001.out).2.2); (case side8 => exact (Kd.R_reads' HO_639001.out).2.1); rintro e w80 ⟨rfl, hb⟩; have n0_ := Aside0.mk (Kd.R_below (pkR HO_639000.out) hb); have n1_ := Aside0.mk (Kd.R_below (pkR HO_639001.out) hb); have n2_ := Aside0.mk (Kd.R_below (pkR HO_646000.out) hb); have n3_ := Aside0.mk (Kd.R_below (pkR HO_646001.out) hb); have n4_ := Aside0.mk (Kd.R_below (pkR HO_655000.out) hb); have n5_ := Aside0.mk (Kd.R_below (pkR HO_655001.out) hb); have n6_ := Aside0.mk (Kd.R_below (pkR HO658.out) hb); have n7_ := Aside0.mk (Kd.R_below (pkR HO661.out) hb); have n8_ := Aside0.mk (blk_below (g := gb622) (o := .cells #[.slice A0_0 l0_0.length c0_0, .slice A0_1 l0_1.length c0_1] 30 (0, 0)) (pkK BK622.out) hb); have n9_ := Aside0.mk (blk_below (g := gb638) (o := .cells #[.slice Ao22 t630.length co22, .slice Ao25 t633.length co25] 33 (0, 0)) (pkK BK638.out) hb); have n10_ := Aside0.mk (blk_below (g := gb645) (o := .cells #[.slice Ao29 t639.length co29, .slice Ao33 t642.length co33] 33 (0, 0)) (pkK BK645.out) hb); have n11_ := Aside0.mk (blk_below (g := gb654) (o := .cells #[.slice Ao36 t646.length co36, .slice Ao41 t649.length co41] 33 (0, 0)) (pkK BK654.out) hb); have n12_ := Aside0.mk (below_step (by repeat (first | (with_reducible first | exact HB.out | apply below_alloc | apply pw_below_drewN | apply below_drew1 | refine below_set ?_ GE622.out | refine below_set ?_ GE638.out | refine below_set ?_ GE645.out | refine below_set ?_ GE654.out) | exact HB.out)) hb); clear HO_639000 HO_639001 HO_646000 HO_646001 HO_655000 HO_655001 HO658 HO661 BK622 BK638 BK645 BK654 HB; have HO_639000 := n0_; have HO_639001 := n1_; have HO_646000 := n2_; have HO_646001 := n3_; have HO_655000 := n4_; have HO_655001 := n5_; have HO658 := n6_; have HO661 := n7_; have BK622 := n8_; have BK638 := n9_; have BK645 := n10_; have BK654 := n11_; have HB := n12_; clear n0_ n1_ n2_ n3_ n4_ n5_ n6_ n7_ n8_ n9_ n10_ n11_ n12_; (try clear hb); (try clear hb2); (try clear hk); (try clear hi)))
                    go_meet
                    case rel => exact ⟨_, ((t653 != t637)), (by first | rfl | (simp; done) | (simp [*]; done)), H', ⟨by have := HJ11.out; first | omega | exact Nat.le_refl _⟩, ⟨by (with_reducible repeat (first | apply Kd.R_alloc | apply Kd.R_drewN | apply Kd.R_drew)); exact Kd.R_mono HO_639000.out (fun _ hk => ⟨hk.1, hk.2.1⟩)⟩, ⟨by (with_reducible repeat (first | apply Kd.R_alloc | apply Kd.R_drewN | apply Kd.R_drew)); exact Kd.R_mono HO_639001.out (fun _ hk => ⟨hk.1, hk.2.1⟩)⟩, ⟨by (with_reducible repeat (first | apply Kd.R_alloc | apply Kd.R_drewN | apply Kd.R_drew)); exact Kd.R_mono HO_646000.out (fun _ hk => ⟨hk.1.1, hk.1.2⟩)⟩, ⟨by (with_reducible repeat (first | apply Kd.R_alloc | apply Kd.R_drewN | apply Kd.R_drew)); exact Kd.R_mono HO_646001.out (fun _ hk => ⟨hk.1.1, hk.1.2⟩)⟩, ⟨by (with_reducible repeat (first | apply Kd.R_alloc | apply Kd.R_drewN | apply Kd.R_drew)); exact Kd.R_mono HO_655000.out (fun _ hk => ⟨hk.1, hk.2.1⟩)⟩, ⟨by (with_reducible repeat (first | apply Kd.R_alloc | apply Kd.R_drewN | apply Kd.R_drew)); exact Kd.R_mono HO_655001.out (fun _ hk => ⟨hk.1, hk.2.1⟩)⟩, ⟨pkK BK622.out⟩, ⟨pkK BK638.out⟩, ⟨pkK BK645.out⟩, ⟨pkK BK654.out⟩, ⟨by repeat (first | (with_reducible first | exact HB.out | apply below_alloc | apply pw_below_drewN | apply below_drew1 | refine below_set ?_ GE622.out | refine below_set ?_ GE638.out | refine below_set ?_ GE645.out | refine below_set ?_ GE654.out) | exact HB.out)⟩⟩
                  · rw [if_neg c72] at H
                    have c72b0 : (t652 == t636) = false := beq_eq_false_iff_ne.mpr c72
                    have c72b1 : (t652 != t636) = true := bne_iff_ne.mpr c72
                    cases kj11 with
                    | zero => exact absurd H (by simp [laws_FnExactNewToken.j1])
                    | succ k_ => (simp only [laws_FnExactNewToken.j1, if_pos] at H; exact absurd (Option.some.inj H) (by rw [HQ_.out]; simp))
                · replace c71 := Bool.eq_false_iff.mpr c71
                  subst c71
                  have H1 : (laws_FnExactNewToken.j1 kj11 a1 t636 t637 true l0_0 l0_1 t630 t633 t646 t649) = some r := by rw [if_neg (show ¬ (false = true) by decide)] at H; exact H
                  clear H
                  have H := H1
                  clear H1
                  cases kj11 with
                  | zero => exact absurd H (by simp [laws_FnExactNewToken.j1])
                  | succ k_ => (simp only [laws_FnExactNewToken.j1, if_pos] at H; exact absurd (Option.some.inj H) (by rw [HQ_.out]; simp))
            case rest =>
              clear HC58
              try clear c1
              try clear c2
              try clear p2
              try clear c3
              try clear c4
              try clear c4b0
              try clear c5
              try clear c6
              try clear c7
              try clear c11
              try clear c21
              try clear c23
              try clear c25
              try clear c30
              try clear c31
              try clear c37
              try clear c38
              try clear c39
              try clear c40
              try clear c43
              try clear c44
              try clear c44b0
              try clear c44b1
              try clear c45
              try clear c46
              try clear c47
              try clear c49
              try clear c50
              try clear c53
              try clear c56
              try clear c64
              try clear c65
              try clear c66
              try clear c69
              try clear c69b0
              try clear c71
              try clear c72
              try clear c72b0
              try clear c72b1
              try clear c73
              try clear c74
              try clear c75
              try clear c77
              try clear c78
              try clear hcz14_0
              try clear hcz14_1
              try clear hcz16_0
              try clear hcz16_1
              try clear hcz24_0
              try clear hcz24_1
              try clear hcz26_0
              try clear hcz26_1
              try clear hcz32_0
              try clear hcz32_1
              try clear hcz40_0
              try clear hcz40_1
              try clear hcz48_0
              try clear hcz48_1
              try clear hcz51_0
              try clear hcz51_1
              try clear hcz67_0
              try clear hcz67_1
              try clear hcz6_0
              try clear hcz6_1
              try clear hcz76_0
              try clear hcz76_1
              try clear hcz79_0
              try clear hcz79_1
              try clear hfz14_0
              try clear hfz14_1
              try clear hfz16_0
              try clear hfz16_1
              try clear hfz24_0
              try clear hfz24_1
              try clear hfz26_0
              try clear hfz26_1
              try clear hfz32_0
              try clear hfz32_1
              try clear hfz40_0
              try clear hfz40_1
              try clear hfz48_0
              try clear hfz48_1
              try clear hfz51_0
              try clear hfz51_1
              try clear hfz67_0
              try clear hfz67_1
              try clear hfz6_0
              try clear hfz6_1
              try clear hfz76_0
              try clear hfz76_1
              try clear hfz79_0
              try clear hfz79_1
              try clear p2
              obtain ⟨kq, x80_57, rfl, HA, HJ57, HO_639000, HO_639001, HO_646000, HO_646001, HO_655000, HO_655001, BK622, BK638, BK645, BK654, HB⟩ := hcut
              have hl646000_57 := (Kd.R_reads' HO_646000.out).1
              rw [hl646000_57] at HO_646000
              (try simp only [hl646000_57])
              (try simp only [hl646000_57] at BK622)
              (try simp only [hl646000_57] at BK638)
              (try simp only [hl646000_57] at BK645)
              (try simp only [hl646000_57] at BK654)
              (try simp only [hl646000_57] at HO_639000)
              (try simp only [hl646000_57] at HO_639001)
              (try simp only [hl646000_57] at HO_646001)
              (try simp only [hl646000_57] at HO_655000)
              (try simp only [hl646000_57] at HO_655001)
              have hl646001_57 := (Kd.R_reads' HO_646001.out).1
              rw [hl646001_57] at HO_646001
              (try simp only [hl646001_57])
              (try simp only [hl646001_57] at BK622)
              (try simp only [hl646001_57] at BK638)
              (try simp only [hl646001_57] at BK645)
              (try simp only [hl646001_57] at BK654)
              (try simp only [hl646001_57] at HO_639000)
              (try simp only [hl646001_57] at HO_639001)
              (try simp only [hl646001_57] at HO_646000)
              (try simp only [hl646001_57] at HO_655000)
              (try simp only [hl646001_57] at HO_655001)
              cases kq with
              | zero => exact absurd HA.out (by simp [laws_FnExactNewToken.j1])
              | succ kj57 =>
                have H := HA.out
                clear HA
                simp only [laws_FnExactNewToken.j1] at H
                by_cases c81 : x80_57 = true
                · subst c81
                  have H1 : (some false) = some r := by rw [if_pos rfl] at H; exact H
                  clear H
                  have H := H1
                  clear H1
                  exact absurd (Option.some.inj H) (by rw [HQ_.out]; simp)
                · replace c81 := Bool.eq_false_iff.mpr c81
                  subst c81
                  have H1 : ((laws_markTokens.f kj57 t646 t649 1).bind fun bt667 => ((laws_heldTokens.f kj57 bt667.2.1 bt667.2.2 1).bind fun t670 => (if t670 < 0 then (some false) else (if t670 = bt667.1 then ((laws_toTokens.f kj57 l0_0 l0_1).bind fun bt671 => ((impl_NewToken.f kj57 bt671.1 bt671.2 a1).bind fun bt677 => ((laws_eqTokens.f kj57 bt677.1 bt677.2.1 t630 t633).bind fun t686 => (if t686 = true then (if bt677.2.2.1 = t636 then (laws_FnExactNewToken.j2 kj57 bt667.1 (bt677.2.2.2 != t637) bt667.2.1 bt667.2.2) else (laws_FnExactNewToken.j2 kj57 bt667.1 true bt667.2.1 bt667.2.2)) else (laws_FnExactNewToken.j2 kj57 bt667.1 true bt667.2.1 bt667.2.2))))) else (some false))))) = some r := by rw [if_neg (show ¬ (false = true) by decide)] at H; exact H
                  clear H
                  have H := H1
                  clear H1
                  replace H := Option.bind_eq_some_iff.mp H
                  obtain ⟨⟨t667, t668, t669⟩, A820, H⟩ := H
                  replace H : ((laws_heldTokens.f kj57 t668 t669 1).bind fun t670 => (if t670 < 0 then (some false) else (if t670 = t667 then ((laws_toTokens.f kj57 l0_0 l0_1).bind fun bt671 => ((impl_NewToken.f kj57 bt671.1 bt671.2 a1).bind fun bt677 => ((laws_eqTokens.f kj57 bt677.1 bt677.2.1 t630 t633).bind fun t686 => (if t686 = true then (if bt677.2.2.1 = t636 then (laws_FnExactNewToken.j2 kj57 t667 (bt677.2.2.2 != t637) t668 t669) else (laws_FnExactNewToken.j2 kj57 t667 true t668 t669)) else (laws_FnExactNewToken.j2 kj57 t667 true t668 t669))))) else (some false)))) = some r := H
                  have A82 := Aside0.mk A820
                  clear A820
                  replace H := Option.bind_eq_some_iff.mp H
                  obtain ⟨t670, A830, H⟩ := H
                  replace H : (if t670 < 0 then (some false) else (if t670 = t667 then ((laws_toTokens.f kj57 l0_0 l0_1).bind fun bt671 => ((impl_NewToken.f kj57 bt671.1 bt671.2 a1).bind fun bt677 => ((laws_eqTokens.f kj57 bt677.1 bt677.2.1 t630 t633).bind fun t686 => (if t686 = true then (if bt677.2.2.1 = t636 then (laws_FnExactNewToken.j2 kj57 t667 (bt677.2.2.2 != t637) t668 t669) else (laws_FnExactNewToken.j2 kj57 t667 true t668 t669)) else (laws_FnExactNewToken.j2 kj57 t667 true t668 t669))))) else (some false))) = some r := H
                  have A83 := Aside0.mk A830
                  clear A830
                  by_cases c84 : t670 < 0
                  · rw [if_pos c84] at H
                    have c84b0 : decide (t670 < 0) = true := decide_eq_true c84
                    clear c84
                    exact absurd (Option.some.inj H) (by rw [HQ_.out]; simp)
                  · rw [if_neg c84] at H
                    have c84b0 : decide (t670 < 0) = false := decide_eq_false c84
                    clear c84
                    by_cases c85 : t670 = t667
                    · rw [if_pos c85] at H
                      have c85b0 : (t670 == t667) = true := beq_iff_eq.mpr c85
                      have c85b1 : (t670 != t667) = false := bne_eq_false_iff_eq.mpr c85
                      clear c85
                      replace H := Option.bind_eq_some_iff.mp H
                      obtain ⟨⟨t671, t674⟩, A860, H⟩ := H
                      replace H : ((impl_NewToken.f kj57 t671 t674 a1).bind fun bt677 => ((laws_eqTokens.f kj57 bt677.1 bt677.2.1 t630 t633).bind fun t686 => (if t686 = true then (if bt677.2.2.1 = t636 then (laws_FnExactNewToken.j2 kj57 t667 (bt677.2.2.2 != t637) t668 t669) else (laws_FnExactNewToken.j2 kj57 t667 true t668 t669)) else (laws_FnExactNewToken.j2 kj57 t667 true t668 t669)))) = some r := H
                      have A86 := Aside0.mk A860
                      clear A860
                      replace H := Option.bind_eq_some_iff.mp H
                      obtain ⟨⟨t677, t680, t683, t684⟩, A870, H⟩ := H
                      replace H : ((laws_eqTokens.f kj57 t677 t680 t630 t633).bind fun t686 => (if t686 = true then (if t683 = t636 then (laws_FnExactNewToken.j2 kj57 t667 (t684 != t637) t668 t669) else (laws_FnExactNewToken.j2 kj57 t667 true t668 t669)) else (laws_FnExactNewToken.j2 kj57 t667 true t668 t669))) = some r := H
                      have A87 := Aside0.mk A870
                      clear A870
                      have HC88 := Aside0.mk H
                      clear H
                      have hnb89 := NB654_622.out
                      have hnc89 := NB622_654.out
                      have hnb90 := NB654_638.out
                      have hnc90 := NB638_654.out
                      have hnb91 := NB654_645.out
                      have hnc91 := NB645_654.out
                      have hcz92_0 : wc.cell? ⟨gb654, 0, none⟩ = some (.slice Ao36 t646.length co36) := (blk_cell BK654.out 0).trans rfl
                      have hcz92_1 : wc.cell? ⟨gb654, 1, none⟩ = some (.slice Ao41 t649.length co41) := (blk_cell BK654.out 1).trans rfl
                      have hfz92_0 := blk_frozen BK654.out 0
                      have hfz92_1 := blk_frozen BK654.out 1
                      go_upto_region 25 with (first | ((with_reducible refine gate_callee (f := 38) rfl ?_); refine goesL_ (some 83) rfl rfl Try.func38 (by kernel_rfl) rfl #[.agg #[.slice Ao36 t646.length co36, .slice Ao41 t649.length co41], .int .i64 1] rfl (by (try simp only [List.map_toArray, List.map_cons, List.map_nil]); first | done | rfl | (simp only [List.length_drop, List.length_take]; rfl) | (go_simp; done) | (simp [*]; done)) ?_; (with_reducible refine (laws_markTokens.calls kj57 (fun k_ => some k_ = (.slice Ao36 t646.length co36 : Value).ownBlock) (.slice Ao36 t646.length co36) t646 (fun k_ => some k_ = (.slice Ao41 t649.length co41 : Value).ownBlock) (.slice Ao41 t649.length co41) t649 1 t667 t668 t669 w _ ?side1 ?side2 ?side3 A82.out).mono ?_); (case side1 => repeat (first | (with_reducible first | exact HB.out | apply below_alloc | apply pw_below_drewN | apply below_drew1 | refine below_set ?_ GE622.out | refine below_set ?_ GE638.out | refine below_set ?_ GE645.out | refine below_set ?_ GE654.out) | exact HB.out)); (case side2 => exact Kd.R_tight rfl HO_655000.out); (case side3 => exact Kd.R_tight rfl HO_655001.out); rintro e w93 ⟨rfl, hy0, hy1, hb, hkp⟩; refine ⟨_, rfl, ?_⟩; have n0_ := Aside0.mk (Kd.R_mono (ok' := fun k_ => some k_ ≠ (.slice Ao29 t664.length co29 : Value).ownBlock ∧ some k_ ≠ (.slice Ao36 t646.length co36 : Value).ownBlock) (Kd.R_keptB ((Kd.R_apart' HO_639000.out (Kd.R_typed HO_655001.out) (by decide))) hkp (fun k_ hk_ hs_ => Or.elim hs_ (fun e_ => (hk_.1.2) e_) (fun e_ => (hk_.2) e_))) (fun k_ hk_ => ⟨hk_.1.1.1, hk_.1.1.2⟩)); have n1_ := Aside0.mk (Kd.R_mono (ok' := fun k_ => some k_ ≠ (.slice Ao33 t665.length co33 : Value).ownBlock ∧ some k_ ≠ (.slice Ao41 t649.length co41 : Value).ownBlock) (Kd.R_keptB ((Kd.R_apart' HO_639001.out (Kd.R_typed HO_655000.out) (by decide))) hkp (fun k_ hk_ hs_ => Or.elim hs_ (fun e_ => (hk_.2) e_) (fun e_ => (hk_.1.2) e_))) (fun k_ hk_ => ⟨hk_.1.1.1, hk_.1.1.2⟩)); have n2_ := Aside0.mk (Kd.R_mono (ok' := fun k_ => some k_ ≠ (.slice Ao22 t630.length co22 : Value).ownBlock ∧ some k_ ≠ (.slice Ao36 t646.length co36 : Value).ownBlock) (Kd.R_keptB ((Kd.R_apart' HO_646000.out (Kd.R_typed HO_655001.out) (by decide))) hkp (fun k_ hk_ hs_ => Or.elim hs_ (fun e_ => (hk_.1.2) e_) (fun e_ => (hk_.2) e_))) (fun k_ hk_ => ⟨hk_.1.1.1, hk_.1.1.2⟩)); have n3_ := Aside0.mk (Kd.R_mono (ok' := fun k_ => some k_ ≠ (.slice Ao25 t633.length co25 : Value).ownBlock ∧ some k_ ≠ (.slice Ao41 t649.length co41 : Value).ownBlock) (Kd.R_keptB ((Kd.R_apart' HO_646001.out (Kd.R_typed HO_655000.out) (by decide))) hkp (fun k_ hk_ hs_ => Or.elim hs_ (fun e_ => (hk_.2) e_) (fun e_ => (hk_.1.2) e_))) (fun k_ hk_ => ⟨hk_.1.1.1, hk_.1.1.2⟩)); have n4_ := Aside0.mk (Kd.R_reok rfl hy0 (fun k_ e_ => HO_655000.out.1 k_ e_)); have n5_ := Aside0.mk (Kd.R_reok rfl hy1 (fun k_ e_ => HO_655001.out.1 k_ e_)); have n6_ := Aside0.mk (blk_kept (pkK BK622.out) hkp (fun hs_ => Or.elim hs_ (fun e_ => (fun e_ => (Kd.R_ne HO_655000.out BK622.out (by decide)) e_) e_) (fun e_ => (fun e_ => (Kd.R_ne HO_655001.out BK622.out (by decide)) e_) e_))); have n7_ := Aside0.mk (blk_kept (pkK BK638.out) hkp (fun hs_ => Or.elim hs_ (fun e_ => (fun e_ => (Kd.R_ne HO_655000.out BK638.out (by decide)) e_) e_) (fun e_ => (fun e_ => (Kd.R_ne HO_655001.out BK638.out (by decide)) e_) e_))); have n8_ := Aside0.mk (blk_kept (pkK BK645.out) hkp (fun hs_ => Or.elim hs_ (fun e_ => (fun e_ => (Kd.R_ne HO_655000.out BK645.out (by decide)) e_) e_) (fun e_ => (fun e_ => (Kd.R_ne HO_655001.out BK645.out (by decide)) e_) e_))); have n9_ := Aside0.mk (blk_kept (pkK BK654.out) hkp (fun hs_ => Or.elim hs_ (fun e_ => (fun e_ => (Kd.R_ne HO_655000.out BK654.out (by decide)) e_) e_) (fun e_ => (fun e_ => (Kd.R_ne HO_655001.out BK654.out (by decide)) e_) e_))); have n10_ := Aside0.mk (hb); clear HO_639000 HO_639001 HO_646000 HO_646001 HO_655000 HO_655001 BK622 BK638 BK645 BK654 HB; have HO_639000 := n0_; have HO_639001 := n1_; have HO_646000 := n2_; have HO_646001 := n3_; have HO_655000 := n4_; have HO_655001 := n5_; have BK622 := n6_; have BK638 := n7_; have BK645 := n8_; have BK654 := n9_; have HB := n10_; clear n0_ n1_ n2_ n3_ n4_ n5_ n6_ n7_ n8_ n9_ n10_; (try clear hb); (try clear hkp); (try clear hy0); (try clear hy1); have hcz94_0 : w93.cell? ⟨gb654, 0, none⟩ = some (.slice Ao36 t646.length co36) := (blk_cell BK654.out 0).trans rfl; have hcz94_1 : w93.cell? ⟨gb654, 1, none⟩ = some (.slice Ao41 t649.length co41) := (blk_cell BK654.out 1).trans rfl; have hfz94_0 := blk_frozen BK654.out 0; have hfz94_1 := blk_frozen BK654.out 1) | ((with_reducible refine gate_callee (f := 41) rfl ?_); refine goesL_ (some 86) rfl rfl Try.func41 (by kernel_rfl) rfl #[.agg #[.slice Ao36 t668.length co36, .slice Ao41 t669.length co41], .int .i64 1] rfl (by (try simp only [List.map_toArray, List.map_cons, List.map_nil]); first | done | (rw [show t668.length = t646.length from (Kd.R_reads' HO_655000.out).1.symm, show t669.length = t649.length from (Kd.R_reads' HO_655001.out).1.symm] <;> rfl) | rfl | (simp only [List.length_drop, List.length_take]; rfl) | (go_simp; done) | (simp [*]; done)) ?_; (with_reducible refine (laws_heldTokens.calls kj57 _ _ t668 _ _ t669 1 t670 _ ?side1 ?side2 ?side3 ?side4 A83.out).mono ?_); (case side1 => exact pkC (Kd.R_reads' HO_655000.out).2.2); (case side2 => rw [show t668.length = t646.length from (Kd.R_reads' HO_655000.out).1.symm]; exact (Kd.R_reads' HO_655000.out).2.1); (case side3 => exact pkC (Kd.R_reads' HO_655001.out).2.2); (case side4 => rw [show t669.length = t649.length from (Kd.R_reads' HO_655001.out).1.symm]; exact (Kd.R_reads' HO_655001.out).2.1); rintro e w95 ⟨rfl, hb⟩; refine ⟨_, rfl, ?_⟩; have n0_ := Aside0.mk (Kd.R_below (pkR HO_639000.out) hb); have n1_ := Aside0.mk (Kd.R_below (pkR HO_639001.out) hb); have n2_ := Aside0.mk (Kd.R_below (pkR HO_646000.out) hb); have n3_ := Aside0.mk (Kd.R_below (pkR HO_646001.out) hb); have n4_ := Aside0.mk (Kd.R_below (pkR HO_655000.out) hb); have n5_ := Aside0.mk (Kd.R_below (pkR HO_655001.out) hb); have n6_ := Aside0.mk (blk_below (g := gb622) (o := .cells #[.slice A0_0 l0_0.length c0_0, .slice A0_1 l0_1.length c0_1] 30 (0, 0)) (pkK BK622.out) hb); have n7_ := Aside0.mk (blk_below (g := gb638) (o := .cells #[.slice Ao22 t630.length co22, .slice Ao25 t633.length co25] 33 (0, 0)) (pkK BK638.out) hb); have n8_ := Aside0.mk (blk_below (g := gb645) (o := .cells #[.slice Ao29 t664.length co29, .slice Ao33 t665.length co33] 33 (0, 0)) (pkK BK645.out) hb); have n9_ := Aside0.mk (blk_below (g := gb654) (o := .cells #[.slice Ao36 t646.length co36, .slice Ao41 t649.length co41] 33 (0, 0)) (pkK BK654.out) hb); have n10_ := Aside0.mk (below_step (by repeat (first | (with_reducible first | exact HB.out | apply below_alloc | apply pw_below_drewN | apply below_drew1 | refine below_set ?_ GE622.out | refine below_set ?_ GE638.out | refine below_set ?_ GE645.out | refine below_set ?_ GE654.out) | exact HB.out)) hb); clear HO_639000 HO_639001 HO_646000 HO_646001 HO_655000 HO_655001 BK622 BK638 BK645 BK654 HB; have HO_639000 := n0_; have HO_639001 := n1_; have HO_646000 := n2_; have HO_646001 := n3_; have HO_655000 := n4_; have HO_655001 := n5_; have BK622 := n6_; have BK638 := n7_; have BK645 := n8_; have BK654 := n9_; have HB := n10_; clear n0_ n1_ n2_ n3_ n4_ n5_ n6_ n7_ n8_ n9_ n10_; (try clear hb); (try clear hb2); (try clear hk); (try clear hi); have hnb96 := NB622_638.out; have hnc96 := NB638_622.out; have hnb97 := NB622_645.out; have hnc97 := NB645_622.out; have hcz98_0 : w95.cell? ⟨gb622, 0, none⟩ = some (.slice A0_0 l0_0.length c0_0) := (blk_cell BK622.out 0).trans rfl; have hcz98_1 : w95.cell? ⟨gb622, 1, none⟩ = some (.slice A0_1 l0_1.length c0_1) := (blk_cell BK622.out 1).trans rfl; have hfz98_0 := blk_frozen BK622.out 0; have hfz98_1 := blk_frozen BK622.out 1) | ((with_reducible refine gate_callee (f := 23) rfl ?_); refine goesL_ (some 94) rfl rfl Try.func23 (by kernel_rfl) rfl #[.agg #[.slice A0_0 l0_0.length c0_0, .slice A0_1 l0_1.length c0_1]] rfl (by (try simp only [List.map_toArray, List.map_cons, List.map_nil]); first | done | rfl | (simp only [List.length_drop, List.length_take]; rfl) | (go_simp; done) | (simp [*]; done)) ?_; (with_reducible refine (laws_toTokens.calls kj57 _ _ l0_0 _ _ l0_1 t671 t674 _ ?side1 ?side2 ?side3 ?side4 A86.out).mono ?_); (case side1 => exact pkC (Kd.C_below HR0_0.out HB.out)); (case side2 => exact HC0_0.out); (case side3 => exact pkC (Kd.C_below HR0_1.out HB.out)); (case side4 => exact HC0_1.out); rintro e w99 ⟨v672, v675, rfl, ho0, ho1, hb⟩; refine ⟨_, rfl, ?_⟩; have n0_ := Aside0.mk (Kd.R_elder' (pkR HO_639000.out) (Kd.R_base ho0) hb); have n1_ := Aside0.mk (Kd.R_elder' (pkR HO_639001.out) (Kd.R_base ho1) hb); have n2_ := Aside0.mk (Kd.R_elder' (pkR HO_646000.out) (Kd.R_base ho0) hb); have n3_ := Aside0.mk (Kd.R_elder' (pkR HO_646001.out) (Kd.R_base ho1) hb); have n4_ := Aside0.mk (Kd.R_elder' (pkR HO_655000.out) (Kd.R_base ho0) hb); have n5_ := Aside0.mk (Kd.R_elder' (pkR HO_655001.out) (Kd.R_base ho1) hb); have n6_ := Aside0.mk (Kd.R_lower (Kd.R_new' (Kd.R_new' (Kd.R_new' ho0 (Kd.R_lt (pkR HO_639000.out))) (Kd.R_lt (pkR HO_646000.out))) (Kd.R_lt (pkR HO_655000.out))) (below_size (by repeat (first | (with_reducible first | exact HB.out | apply below_alloc | apply pw_below_drewN | apply below_drew1 | refine below_set ?_ GE622.out | refine below_set ?_ GE638.out | refine below_set ?_ GE645.out | refine below_set ?_ GE654.out) | exact HB.out)))); have n7_ := Aside0.mk (Kd.R_lower (Kd.R_new' (Kd.R_new' (Kd.R_new' ho1 (Kd.R_lt (pkR HO_639001.out))) (Kd.R_lt (pkR HO_646001.out))) (Kd.R_lt (pkR HO_655001.out))) (below_size (by repeat (first | (with_reducible first | exact HB.out | apply below_alloc | apply pw_below_drewN | apply below_drew1 | refine below_set ?_ GE622.out | refine below_set ?_ GE638.out | refine below_set ?_ GE645.out | refine below_set ?_ GE654.out) | exact HB.out)))); have n8_ := Aside0.mk (blk_below (g := gb622) (o := .cells #[.slice A0_0 l0_0.length c0_0, .slice A0_1 l0_1.length c0_1] 30 (0, 0)) (pkK BK622.out) hb); have n9_ := Aside0.mk (blk_below (g := gb638) (o := .cells #[.slice Ao22 t630.length co22, .slice Ao25 t633.length co25] 33 (0, 0)) (pkK BK638.out) hb); have n10_ := Aside0.mk (blk_below (g := gb645) (o := .cells #[.slice Ao29 t664.length co29, .slice Ao33 t665.length co33] 33 (0, 0)) (pkK BK645.out) hb); have n11_ := Aside0.mk (blk_below (g := gb654) (o := .cells #[.slice Ao36 t646.length co36, .slice Ao41 t649.length co41] 33 (0, 0)) (pkK BK654.out) hb); have n12_ := Aside0.mk (below_step (by repeat (first | (with_reducible first | exact HB.out | apply below_alloc | apply pw_below_drewN | apply below_drew1 | refine below_set ?_ GE622.out | refine below_set ?_ GE638.out | refine below_set ?_ GE645.out | refine below_set ?_ GE654.out) | exact HB.out)) hb); clear HO_639000 HO_639001 HO_646000 HO_646001 HO_655000 HO_655001 BK622 BK638 BK645 BK654 HB; have HO_639000 := n0_; have HO_639001 := n1_; have HO_646000 := n2_; have HO_646001 := n3_; have HO_655000 := n4_; have HO_655001 := n5_; have HO673 := n6_; have HO676 := n7_; have BK622 := n8_; have BK638 := n9_; have BK645 := n10_; have BK654 := n11_; have HB := n12_; clear n0_ n1_ n2_ n3_ n4_ n5_ n6_ n7_ n8_ n9_ n10_ n11_ n12_; (try clear hb); (try clear hb2); (try clear hk); (try clear hi); (try clear ho0); (try clear ho1); obtain ⟨Ao100, co100, eo100⟩ := Kd.R_slice HO673.out; subst eo100; obtain ⟨Ao101, co101, eo101⟩ := Kd.R_slice HO676.out; subst eo101) | ((with_reducible refine gate_callee (f := 40) rfl ?_); refine goesL_ (some 96) rfl rfl Try.func40 (by kernel_rfl) rfl #[.agg #[.slice Ao100 t671.length co100, .slice Ao101 t674.length co101], .int .i64 a1] rfl (by (try simp only [List.map_toArray, List.map_cons, List.map_nil]); first | done | rfl | (simp only [List.length_drop, List.length_take]; rfl) | (go_simp; done) | (simp [*]; done)) ?_; (with_reducible refine (impl_NewToken.calls kj57 _ _ t671 _ _ t674 a1 t677 t680 t683 t684 _ ?side1 ?side2 ?side3 ?side4 A87.out).mono ?_); (case side1 => exact pkC (Kd.R_reads' HO673.out).2.2); (case side2 => exact (Kd.R_reads' HO673.out).2.1); (case side3 => exact pkC (Kd.R_reads' HO676.out).2.2); (case side4 => exact (Kd.R_reads' HO676.out).2.1); rintro e w102 ⟨v678, v681, rfl, ho0, ho1, hb⟩; refine ⟨_, rfl, ?_⟩; have n0_ := Aside0.mk (Kd.R_elder' (pkR HO_639000.out) (Kd.R_base ho0) hb); have n1_ := Aside0.mk (Kd.R_elder' (pkR HO_639001.out) (Kd.R_base ho1) hb); have n2_ := Aside0.mk (Kd.R_elder' (pkR HO_646000.out) (Kd.R_base ho0) hb); have n3_ := Aside0.mk (Kd.R_elder' (pkR HO_646001.out) (Kd.R_base ho1) hb); have n4_ := Aside0.mk (Kd.R_elder' (pkR HO_655000.out) (Kd.R_base ho0) hb); have n5_ := Aside0.mk (Kd.R_elder' (pkR HO_655001.out) (Kd.R_base ho1) hb); have n6_ := Aside0.mk (Kd.R_elder' (pkR HO673.out) (Kd.R_base ho0) hb); have n7_ := Aside0.mk (Kd.R_elder' (pkR HO676.out) (Kd.R_base ho1) hb); have n8_ := Aside0.mk (Kd.R_lower (Kd.R_new' (Kd.R_new' (Kd.R_new' (Kd.R_new' ho0 (Kd.R_lt (pkR HO_639000.out))) (Kd.R_lt (pkR HO_646000.out))) (Kd.R_lt (pkR HO_655000.out))) (Kd.R_lt (pkR HO673.out))) (below_size (by repeat (first | (with_reducible first | exact HB.out | apply below_alloc | apply pw_below_drewN | apply below_drew1 | refine below_set ?_ GE622.out | refine below_set ?_ GE638.out | refine below_set ?_ GE645.out | refine below_set ?_ GE654.out) | exact HB.out)))); have n9_ := Aside0.mk (Kd.R_lower (Kd.R_new' (Kd.R_new' (Kd.R_new' (Kd.R_new' ho1 (Kd.R_lt (pkR HO_639001.out))) (Kd.R_lt (pkR HO_646001.out))) (Kd.R_lt (pkR HO_655001.out))) (Kd.R_lt (pkR HO676.out))) (below_size (by repeat (first | (with_reducible first | exact HB.out | apply below_alloc | apply pw_below_drewN | apply below_drew1 | refine below_set ?_ GE622.out | refine below_set ?_ GE638.out | refine below_set ?_ GE645.out | refine below_set ?_ GE654.out) | exact HB.out)))); have n10_ := Aside0.mk (blk_below (g := gb622) (o := .cells #[.slice A0_0 l0_0.length c0_0, .slice A0_1 l0_1.length c0_1] 30 (0, 0)) (pkK BK622.out) hb); have n11_ := Aside0.mk (blk_below (g := gb638) (o := .cells #[.slice Ao22 t630.length co22, .slice Ao25 t633.length co25] 33 (0, 0)) (pkK BK638.out) hb); have n12_ := Aside0.mk (blk_below (g := gb645) (o := .cells #[.slice Ao29 t664.length co29, .slice Ao33 t665.length co33] 33 (0, 0)) (pkK BK645.out) hb); have n13_ := Aside0.mk (blk_below (g := gb654) (o := .cells #[.slice Ao36 t646.length co36, .slice Ao41 t649.length co41] 33 (0, 0)) (pkK BK654.out) hb); have n14_ := Aside0.mk (below_step (by repeat (first | (with_reducible first | exact HB.out | apply below_alloc | apply pw_below_drewN | apply below_drew1 | refine below_set ?_ GE622.out | refine below_set ?_ GE638.out | refine below_set ?_ GE645.out | refine below_set ?_ GE654.out) | exact HB.out)) hb); clear HO_639000 HO_639001 HO_646000 HO_646001 HO_655000 HO_655001 HO673 HO676 BK622 BK638 BK645 BK654 HB; have HO_639000 := n0_; have HO_639001 := n1_; have HO_646000 := n2_; have HO_646001 := n3_; have HO_655000 := n4_; have HO_655001 := n5_; have HO673 := n6_; have HO676 := n7_; have HO679 := n8_; have HO682 := n9_; have BK622 := n10_; have BK638 := n11_; have BK645 := n12_; have BK654 := n13_; have HB := n14_; clear n0_ n1_ n2_ n3_ n4_ n5_ n6_ n7_ n8_ n9_ n10_ n11_ n12_ n13_ n14_; (try clear hb); (try clear hb2); (try clear hk); (try clear hi); (try clear ho0); (try clear ho1)) | ((with_reducible refine gate_dst (N := 16) rfl ?_); refine box_event ?hg (N := 16) ?hd (cs := #[.slice none 0 0, .slice none 0 0]) (t := 33) ?hr ?_; (case hd => rfl); (case hg => rfl); (case hr => first | (go_simp; done) | (go_simp; rfl)); intro gb685 hg w103 hbox hb; have n0_ := Aside0.mk (Kd.R_below (pkR HO_639000.out) hb); have n1_ := Aside0.mk (Kd.R_below (pkR HO_639001.out) hb); have n2_ := Aside0.mk (Kd.R_below (pkR HO_646000.out) hb); have n3_ := Aside0.mk (Kd.R_below (pkR HO_646001.out) hb); have n4_ := Aside0.mk (Kd.R_below (pkR HO_655000.out) hb); have n5_ := Aside0.mk (Kd.R_below (pkR HO_655001.out) hb); have n6_ := Aside0.mk (Kd.R_below (pkR HO673.out) hb); have n7_ := Aside0.mk (Kd.R_below (pkR HO676.out) hb); have n8_ := Aside0.mk (Kd.R_below (pkR HO679.out) hb); have n9_ := Aside0.mk (Kd.R_below (pkR HO682.out) hb); have n10_ := Aside0.mk (blk_below (g := gb622) (o := .cells #[.slice A0_0 l0_0.length c0_0, .slice A0_1 l0_1.length c0_1] 30 (0, 0)) (pkK BK622.out) hb); have n11_ := Aside0.mk (blk_below (g := gb638) (o := .cells #[.slice Ao22 t630.length co22, .slice Ao25 t633.length co25] 33 (0, 0)) (pkK BK638.out) hb); have n12_ := Aside0.mk (blk_below (g := gb645) (o := .cells #[.slice Ao29 t664.length co29, .slice Ao33 t665.length co33] 33 (0, 0)) (pkK BK645.out) hb); have n13_ := Aside0.mk (blk_below (g := gb654) (o := .cells #[.slice Ao36 t646.length co36, .slice Ao41 t649.length co41] 33 (0, 0)) (pkK BK654.out) hb); have n14_ := Aside0.mk (below_step (by repeat (first | (with_reducible first | exact HB.out | apply below_alloc | apply pw_below_drewN | apply below_drew1 | refine below_set ?_ GE622.out | refine below_set ?_ GE638.out | refine below_set ?_ GE645.out | refine below_set ?_ GE654.out) | exact HB.out)) hb); have n15_ := Aside0.mk (hbox); have n16_ := Aside0.mk ((by rw [hg]; exact (below_size (by repeat (first | (with_reducible first | exact HB.out | apply below_alloc | apply pw_below_drewN | apply below_drew1 | refine below_set ?_ GE622.out | refine below_set ?_ GE638.out | refine below_set ?_ GE645.out | refine below_set ?_ GE654.out) | exact HB.out))) : w.heap.size ≤ gb685)); have n17_ := Aside0.mk ((by rw [hg]; exact (below_size (by repeat (first | (with_reducible first | exact HB.out | apply below_alloc | apply pw_below_drewN | apply below_drew1 | refine below_set ?_ GE622.out | refine below_set ?_ GE638.out | refine below_set ?_ GE645.out | refine below_set ?_ GE654.out) | exact HB.out))) : w.heap.size ≤ gb685)); have n18_ := Aside0.mk ((by rw [hg]; exact Nat.ne_of_lt (blk_lt (g := gb622) (o := .cells #[.slice A0_0 l0_0.length c0_0, .slice A0_1 l0_1.length c0_1] 30 (0, 0)) (pkK BK622.out)) : gb622 ≠ gb685)); have n19_ := Aside0.mk ((by rw [hg]; exact Nat.ne_of_gt (blk_lt (g := gb622) (o := .cells #[.slice A0_0 l0_0.length c0_0, .slice A0_1 l0_1.length c0_1] 30 (0, 0)) (pkK BK622.out)) : gb685 ≠ gb622)); have n20_ := Aside0.mk ((by rw [hg]; exact Nat.ne_of_lt (blk_lt (g := gb638) (o := .cells #[.slice Ao22 t630.length co22, .slice Ao25 t633.length co25] 33 (0, 0)) (pkK BK638.out)) : gb638 ≠ gb685)); have n21_ := Aside0.mk ((by rw [hg]; exact Nat.ne_of_gt (blk_lt (g := gb638) (o := .cells #[.slice Ao22 t630.length co22, .slice Ao25 t633.length co25] 33 (0, 0)) (pkK BK638.out)) : gb685 ≠ gb638)); have n22_ := Aside0.mk ((by rw [hg]; exact Nat.ne_of_lt (blk_lt (g := gb645) (o := .cells #[.slice Ao29 t664.length co29, .slice Ao33 t665.length co33] 33 (0, 0)) (pkK BK645.out)) : gb645 ≠ gb685)); have n23_ := Aside0.mk ((by rw [hg]; exact Nat.ne_of_gt (blk_lt (g := gb645) (o := .cells #[.slice Ao29 t664.length co29, .slice Ao33 t665.length co33] 33 (0, 0)) (pkK BK645.out)) : gb685 ≠ gb645)); have n24_ := Aside0.mk ((by rw [hg]; exact Nat.ne_of_lt (blk_lt (g := gb654) (o := .cells #[.slice Ao36 t646.length co36, .slice Ao41 t649.length co41] 33 (0, 0)) (pkK BK654.out)) : gb654 ≠ gb685)); have n25_ := Aside0.mk ((by rw [hg]; exact Nat.ne_of_gt (blk_lt (g := gb654) (o := .cells #[.slice Ao36 t646.length co36, .slice Ao41 t649.length co41] 33 (0, 0)) (pkK BK654.out)) : gb685 ≠ gb654)); clear HO_639000 HO_639001 HO_646000 HO_646001 HO_655000 HO_655001 HO673 HO676 HO679 HO682 BK622 BK638 BK645 BK654 HB; have HO_639000 := n0_; have HO_639001 := n1_; have HO_646000 := n2_; have HO_646001 := n3_; have HO_655000 := n4_; have HO_655001 := n5_; have HO673 := n6_; have HO676 := n7_; have HO679 := n8_; have HO682 := n9_; have BK622 := n10_; have BK638 := n11_; have BK645 := n12_; have BK654 := n13_; have HB := n14_; have BK685 := n15_; have GW685 := n16_; have GE685 := n17_; have NB622_685 := n18_; have NB685_622 := n19_; have NB638_685 := n20_; have NB685_638 := n21_; have NB645_685 := n22_; have NB685_645 := n23_; have NB654_685 := n24_; have NB685_654 := n25_; clear n0_ n1_ n2_ n3_ n4_ n5_ n6_ n7_ n8_ n9_ n10_ n11_ n12_ n13_ n14_ n15_ n16_ n17_ n18_ n19_ n20_ n21_ n22_ n23_ n24_ n25_; clear hb hbox hg; obtain ⟨Ao104, co104, eo104⟩ := Kd.R_slice HO679.out; subst eo104; have hnb105 := NB685_622.out; have hnc105 := NB622_685.out; have hnb106 := NB685_638.out; have hnc106 := NB638_685.out; have hnb107 := NB685_645.out; have hnc107 := NB645_685.out; have hnb108 := NB685_654.out; have hnc108 := NB654_685.out; have hcz109_0 : w103.cell? ⟨gb685, 0, none⟩ = some (.slice none 0 0) := (blk_cell BK685.out 0).trans rfl; have hcz109_1 : w103.cell? ⟨gb685, 1, none⟩ = some (.slice none 0 0) := (blk_cell BK685.out 1).trans rfl; have hfz109_0 := blk_frozen BK685.out 0; have hfz109_1 := blk_frozen BK685.out 1; obtain ⟨Ao110, co110, eo110⟩ := Kd.R_slice HO682.out; subst eo110))
                      (try simp only [Act.put, List.setIfInBounds_toArray, List.set_cons_zero, List.set_cons_succ])
                      go_cut [113] (fun v113 wc => ∃ (kq : Nat) (x113_87 : Bool), v113 = .bool x113_87 ∧ Aside0 (laws_FnExactNewToken.j2 kq t667 x113_87 t668 t669 = some r) ∧ Aside0 (kq ≤ kj57) ∧ Aside0 (Kd.R (Kd.int .i64) 3 wc w.heap.size (fun k_ => some k_ ≠ ((.slice Ao29 t664.length co29) : Value).ownBlock ∧ some k_ ≠ ((.slice Ao36 t646.length co36) : Value).ownBlock ∧ some k_ ≠ ((.slice Ao104 t677.length co104) : Value).ownBlock) (.slice Ao22 t630.length co22) t630) ∧ Aside0 (Kd.R Kd.bool 4 wc w.heap.size (fun k_ => some k_ ≠ ((.slice Ao33 t665.length co33) : Value).ownBlock ∧ some k_ ≠ ((.slice Ao41 t649.length co41) : Value).ownBlock ∧ some k_ ≠ ((.slice Ao110 t680.length co110) : Value).ownBlock) (.slice Ao25 t633.length co25) t633) ∧ Aside0 (Kd.R (Kd.int .i64) 3 wc w.heap.size (fun k_ => some k_ ≠ ((.slice Ao22 t630.length co22) : Value).ownBlock ∧ some k_ ≠ ((.slice Ao36 t646.length co36) : Value).ownBlock ∧ some k_ ≠ ((.slice Ao104 t677.length co104) : Value).ownBlock) (.slice Ao29 t664.length co29) t664) ∧ Aside0 (Kd.R Kd.bool 4 wc w.heap.size (fun k_ => some k_ ≠ ((.slice Ao25 t633.length co25) : Value).ownBlock ∧ some k_ ≠ ((.slice Ao41 t649.length co41) : Value).ownBlock ∧ some k_ ≠ ((.slice Ao110 t680.length co110) : Value).ownBlock) (.slice Ao33 t665.length co33) t665) ∧ Aside0 (Kd.R (Kd.int .i64) 3 wc w.heap.size (fun k_ => some k_ ≠ ((.slice Ao22 t630.length co22) : Value).ownBlock ∧ some k_ ≠ ((.slice Ao29 t664.length co29) : Value).ownBlock ∧ some k_ ≠ ((.slice Ao104 t677.length co104) : Value).ownBlock) (.slice Ao36 t646.length co36) t668) ∧ Aside0 (Kd.R Kd.bool 4 wc w.heap.size (fun k_ => some k_ ≠ ((.slice Ao25 t633.length co25) : Value).ownBlock ∧ some k_ ≠ ((.slice Ao33 t665.length co33) : Value).ownBlock ∧ some k_ ≠ ((.slice Ao110 t680.length co110) : Value).ownBlock) (.slice Ao41 t649.length co41) t669) ∧ Aside0 (Kd.R (Kd.int .i64) 3 wc w.heap.size (fun k_ => some k_ ≠ ((.slice Ao22 t630.length co22) : Value).ownBlock ∧ some k_ ≠ ((.slice Ao29 t664.length co29) : Value).ownBlock ∧ some k_ ≠ ((.slice Ao36 t646.length co36) : Value).ownBlock) (.slice Ao104 t677.length co104) t677) ∧ Aside0 (Kd.R Kd.bool 4 wc w.heap.size (fun k_ => some k_ ≠ ((.slice Ao25 t633.length co25) : Value).ownBlock ∧ some k_ ≠ ((.slice Ao33 t665.length co33) : Value).ownBlock ∧ some k_ ≠ ((.slice Ao41 t649.length co41) : Value).ownBlock) (.slice Ao110 t680.length co110) t680) ∧ Aside0 (wc.heap[gb622]? = some (.cells #[(.slice A0_0 l0_0.length c0_0), (.slice A0_1 l0_1.length c0_1)] 30 (0, 0))) ∧ Aside0 (wc.heap[gb638]? = some (.cells #[(.slice Ao22 t630.length co22), (.slice Ao25 t633.length co25)] 33 (0, 0))) ∧ Aside0 (wc.heap[gb645]? = some (.cells #[(.slice Ao29 t664.length co29), (.slice Ao33 t665.length co33)] 33 (0, 0))) ∧ Aside0 (wc.heap[gb654]? = some (.cells #[(.slice Ao36 t646.length co36), (.slice Ao41 t649.length co41)] 33 (0, 0))) ∧ Aside0 (wc.heap[gb685]? = some (.cells #[(.slice Ao104 t677.length co104), (.slice Ao110 t680.length co110)] 33 (0, 0))) ∧ Aside0 (Below w.heap.size w wc))
                      case first =>
                        have H := HC88.out
                        clear HC88
                        replace H := Option.bind_eq_some_iff.mp H
                        obtain ⟨t686, A1110, H⟩ := H
                        replace H : (if t686 = true then (if t683 = t636 then (laws_FnExactNewToken.j2 kj57 t667 (t684 != t637) t668 t669) else (laws_FnExactNewToken.j2 kj57 t667 true t668 t669)) else (laws_FnExactNewToken.j2 kj57 t667 true t668 t669)) = some r := H
                        have A111 := Aside0.mk A1110
                        clear A1110
                        by_cases c112 : t686 = true
                        · subst c112
                          have H1 : (if t683 = t636 then (laws_FnExactNewToken.j2 kj57 t667 (t684 != t637) t668 t669) else (laws_FnExactNewToken.j2 kj57 t667 true t668 t669)) = some r := by rw [if_pos rfl] at H; exact H
                          clear H
                          have H := H1
                          clear H1
                          by_cases c113 : t683 = t636
                          · rw [if_pos c113] at H
                            have c113b0 : (t683 == t636) = true := beq_iff_eq.mpr c113
                            have c113b1 : (t683 != t636) = false := bne_eq_false_iff_eq.mpr c113
                            clear c113
                            (first | rw [c113b0] | (simp only [i64_w, i32_w]; rw [c113b0]) | skip)
                            have H' := Aside0.mk H
                            clear H
                            have hnb114 := NB685_622.out
                            have hnc114 := NB622_685.out
                            have hnb115 := NB685_638.out
                            have hnc115 := NB638_685.out
                            have hnb116 := NB685_645.out
                            have hnc116 := NB645_685.out
                            have hnb117 := NB685_654.out
                            have hnc117 := NB654_685.out
                            have hcz118_0 : w103.cell? ⟨gb685, 0, none⟩ = some (.slice none 0 0) := (blk_cell BK685.out 0).trans rfl
                            have hcz118_1 : w103.cell? ⟨gb685, 1, none⟩ = some (.slice none 0 0) := (blk_cell BK685.out 1).trans rfl
                            have hfz118_0 := blk_frozen BK685.out 0
                            have hfz118_1 := blk_frozen BK685.out 1
                            have hnb119 := NB638_622.out
                            have hnc119 := NB622_638.out
                            have hnb120 := NB638_645.out
                            have hnc120 := NB645_638.out
                            have hnb121 := NB638_654.out
                            have hnc121 := NB654_638.out
                            have hcz122_0 : w103.cell? ⟨gb638, 0, none⟩ = some (.slice Ao22 t630.length co22) := (blk_cell BK638.out 0).trans rfl
                            have hcz122_1 : w103.cell? ⟨gb638, 1, none⟩ = some (.slice Ao25 t633.length co25) := (blk_cell BK638.out 1).trans rfl
                            have hfz122_0 := blk_frozen BK638.out 0
                            have hfz122_1 := blk_frozen BK638.out 1
                            go_wp2_with (first | ((with_reducible refine gate_callee (f := 25) rfl ?_); refine goesL_ (some 102) rfl rfl Try.func25 (by kernel_rfl) rfl #[.agg #[.slice Ao104 t677.length co104, .slice Ao110 t680.length co110], .agg #[.slice Ao22 t630.length co22, .slice Ao25 t633.length co25]] rfl (by (try simp only [List.map_toArray, List.map_cons, List.map_nil]); first | done | rfl | (simp only [List.length_drop, List.length_take]; rfl) | (go_simp; done) | (simp [*]; done)) ?_; (with_reducible refine (laws_eqTokens.calls kj57 _ _ t677 _ _ t680 _ _ t630 _ _ t633 true _ ?side1 ?side2 ?side3 ?side4 ?side5 ?side6 ?side7 ?side8 A111.out).mono ?_); (case side1 => refine (Kd.R_reads' (e := 3) (base := w.heap.size) (ok := fun k_ => ((((True ∧ some k_ ≠ (.slice Ao22 t630.length co22 : Value).ownBlock) ∧ some k_ ≠ (.slice Ao29 t664.length co29 : Value).ownBlock) ∧ some k_ ≠ (.slice Ao36 t646.length co36 : Value).ownBlock) ∧ some k_ ≠ (.slice Ao100 t671.length co100 : Value).ownBlock)) (n := t677.length) (c := co104) ?_).2.2; exact (by (with_reducible repeat (first | apply Kd.R_alloc | apply Kd.R_drewN | apply Kd.R_drew)); exact (Kd.R_mono (Kd.R_far (p := ⟨gb685, 1, none⟩) (Kd.R_far (p := ⟨gb685, 0, none⟩) (Kd.R_types HO679.out BK685.out (by decide)) (fun _ hk => hk.2) (.slice Ao104 t677.length co104)) (fun _ hk => hk.2) (.slice Ao110 t680.length co110)) (fun _ h_ => h_.1)))); (case side2 => exact (Kd.R_reads' HO679.out).2.1); (case side3 => refine (Kd.R_reads' (e := 4) (base := w.heap.size) (ok := fun k_ => ((((True ∧ some k_ ≠ (.slice Ao25 t633.length co25 : Value).ownBlock) ∧ some k_ ≠ (.slice Ao33 t665.length co33 : Value).ownBlock) ∧ some k_ ≠ (.slice Ao41 t649.length co41 : Value).ownBlock) ∧ some k_ ≠ (.slice Ao101 t674.length co101 : Value).ownBlock)) (n := t680.length) (c := co110) ?_).2.2; exact (by (with_reducible repeat (first | apply Kd.R_alloc | apply Kd.R_drewN | apply Kd.R_drew)); exact (Kd.R_mono (Kd.R_far (p := ⟨gb685, 1, none⟩) (Kd.R_far (p := ⟨gb685, 0, none⟩) (Kd.R_types HO682.out BK685.out (by decide)) (fun _ hk => hk.2) (.slice Ao104 t677.length co104)) (fun _ hk => hk.2) (.slice Ao110 t680.length co110)) (fun _ h_ => h_.1)))); (case side4 => exact (Kd.R_reads' HO682.out).2.1); (case side5 => refine (Kd.R_reads' (e := 3) (base := w.heap.size) (ok := fun k_ => (((some k_ ≠ (.slice Ao29 t664.length co29 : Value).ownBlock ∧ some k_ ≠ (.slice Ao36 t646.length co36 : Value).ownBlock) ∧ some k_ ≠ (.slice Ao100 t671.length co100 : Value).ownBlock) ∧ some k_ ≠ (.slice Ao104 t677.length co104 : Value).ownBlock)) (n := t630.length) (c := co22) ?_).2.2; exact (by (with_reducible repeat (first | apply Kd.R_alloc | apply Kd.R_drewN | apply Kd.R_drew)); exact (Kd.R_mono (Kd.R_far (p := ⟨gb685, 1, none⟩) (Kd.R_far (p := ⟨gb685, 0, none⟩) (Kd.R_types HO_639000.out BK685.out (by decide)) (fun _ hk => hk.2) (.slice Ao104 t677.length co104)) (fun _ hk => hk.2) (.slice Ao110 t680.length co110)) (fun _ h_ => h_.1)))); (case side6 => exact (Kd.R_reads' HO_639000.out).2.1); (case side7 => refine (Kd.R_reads' (e := 4) (base := w.heap.size) (ok := fun k_ => (((some k_ ≠ (.slice Ao33 t665.length co33 : Value).ownBlock ∧ some k_ ≠ (.slice Ao41 t649.length co41 : Value).ownBlock) ∧ some k_ ≠ (.slice Ao101 t674.length co101 : Value).ownBlock) ∧ some k_ ≠ (.slice Ao110 t680.length co110 : Value).ownBlock)) (n := t633.length) (c := co25) ?_).2.2; exact (by (with_reducible repeat (first | apply Kd.R_alloc | apply Kd.R_drewN | apply Kd.R_drew)); exact (Kd.R_mono (Kd.R_far (p := ⟨gb685, 1, none⟩) (Kd.R_far (p := ⟨gb685, 0, none⟩) (Kd.R_types HO_639001.out BK685.out (by decide)) (fun _ hk => hk.2) (.slice Ao104 t677.length co104)) (fun _ hk => hk.2) (.slice Ao110 t680.length co110)) (fun _ h_ => h_.1)))); (case side8 => exact (Kd.R_reads' HO_639001.out).2.1); rintro e w123 ⟨rfl, hb⟩; refine ⟨_, rfl, ?_⟩; have n0_ := Aside0.mk (Kd.R_below (by (with_reducible repeat (first | apply Kd.R_alloc | apply Kd.R_drewN | apply Kd.R_drew)); exact (Kd.R_mono (Kd.R_far (p := ⟨gb685, 1, none⟩) (Kd.R_far (p := ⟨gb685, 0, none⟩) (Kd.R_types HO_639000.out BK685.out (by decide)) (fun _ hk => hk.2) (.slice Ao104 t677.length co104)) (fun _ hk => hk.2) (.slice Ao110 t680.length co110)) (fun _ h_ => h_.1))) hb); have n1_ := Aside0.mk (Kd.R_below (by (with_reducible repeat (first | apply Kd.R_alloc | apply Kd.R_drewN | apply Kd.R_drew)); exact (Kd.R_mono (Kd.R_far (p := ⟨gb685, 1, none⟩) (Kd.R_far (p := ⟨gb685, 0, none⟩) (Kd.R_types HO_639001.out BK685.out (by decide)) (fun _ hk => hk.2) (.slice Ao104 t677.length co104)) (fun _ hk => hk.2) (.slice Ao110 t680.length co110)) (fun _ h_ => h_.1))) hb); have n2_ := Aside0.mk (Kd.R_below (by (with_reducible repeat (first | apply Kd.R_alloc | apply Kd.R_drewN | apply Kd.R_drew)); exact (Kd.R_mono (Kd.R_far (p := ⟨gb685, 1, none⟩) (Kd.R_far (p := ⟨gb685, 0, none⟩) (Kd.R_types HO_646000.out BK685.out (by decide)) (fun _ hk => hk.2) (.slice Ao104 t677.length co104)) (fun _ hk => hk.2) (.slice Ao110 t680.length co110)) (fun _ h_ => h_.1))) hb); have n3_ := Aside0.mk (Kd.R_below (by (with_reducible repeat (first | apply Kd.R_alloc | apply Kd.R_drewN | apply Kd.R_drew)); exact (Kd.R_mono (Kd.R_far (p := ⟨gb685, 1, none⟩) (Kd.R_far (p := ⟨gb685, 0, none⟩) (Kd.R_types HO_646001.out BK685.out (by decide)) (fun _ hk => hk.2) (.slice Ao104 t677.length co104)) (fun _ hk => hk.2) (.slice Ao110 t680.length co110)) (fun _ h_ => h_.1))) hb); have n4_ := Aside0.mk (Kd.R_below (by (with_reducible repeat (first | apply Kd.R_alloc | apply Kd.R_drewN | apply Kd.R_drew)); exact (Kd.R_mono (Kd.R_far (p := ⟨gb685, 1, none⟩) (Kd.R_far (p := ⟨gb685, 0, none⟩) (Kd.R_types HO_655000.out BK685.out (by decide)) (fun _ hk => hk.2) (.slice Ao104 t677.length co104)) (fun _ hk => hk.2) (.slice Ao110 t680.length co110)) (fun _ h_ => h_.1))) hb); have n5_ := Aside0.mk (Kd.R_below (by (with_reducible repeat (first | apply Kd.R_alloc | apply Kd.R_drewN | apply Kd.R_drew)); exact (Kd.R_mono (Kd.R_far (p := ⟨gb685, 1, none⟩) (Kd.R_far (p := ⟨gb685, 0, none⟩) (Kd.R_types HO_655001.out BK685.out (by decide)) (fun _ hk => hk.2) (.slice Ao104 t677.length co104)) (fun _ hk => hk.2) (.slice Ao110 t680.length co110)) (fun _ h_ => h_.1))) hb); have n6_ := Aside0.mk (Kd.R_below (by (with_reducible repeat (first | apply Kd.R_alloc | apply Kd.R_drewN | apply Kd.R_drew)); exact (Kd.R_mono (Kd.R_far (p := ⟨gb685, 1, none⟩) (Kd.R_far (p := ⟨gb685, 0, none⟩) (Kd.R_types HO673.out BK685.out (by decide)) (fun _ hk => hk.2) (.slice Ao104 t677.length co104)) (fun _ hk => hk.2) (.slice Ao110 t680.length co110)) (fun _ h_ => h_.1))) hb); have n7_ := Aside0.mk (Kd.R_below (by (with_reducible repeat (first | apply Kd.R_alloc | apply Kd.R_drewN | apply Kd.R_drew)); exact (Kd.R_mono (Kd.R_far (p := ⟨gb685, 1, none⟩) (Kd.R_far (p := ⟨gb685, 0, none⟩) (Kd.R_types HO676.out BK685.out (by decide)) (fun _ hk => hk.2) (.slice Ao104 t677.length co104)) (fun _ hk => hk.2) (.slice Ao110 t680.length co110)) (fun _ h_ => h_.1))) hb); have n8_ := Aside0.mk (Kd.R_below (by (with_reducible repeat (first | apply Kd.R_alloc | apply Kd.R_drewN | apply Kd.R_drew)); exact (Kd.R_mono (Kd.R_far (p := ⟨gb685, 1, none⟩) (Kd.R_far (p := ⟨gb685, 0, none⟩) (Kd.R_types HO679.out BK685.out (by decide)) (fun _ hk => hk.2) (.slice Ao104 t677.length co104)) (fun _ hk => hk.2) (.slice Ao110 t680.length co110)) (fun _ h_ => h_.1))) hb); have n9_ := Aside0.mk (Kd.R_below (by (with_reducible repeat (first | apply Kd.R_alloc | apply Kd.R_drewN | apply Kd.R_drew)); exact (Kd.R_mono (Kd.R_far (p := ⟨gb685, 1, none⟩) (Kd.R_far (p := ⟨gb685, 0, none⟩) (Kd.R_types HO682.out BK685.out (by decide)) (fun _ hk => hk.2) (.slice Ao104 t677.length co104)) (fun _ hk => hk.2) (.slice Ao110 t680.length co110)) (fun _ h_ => h_.1))) hb); have n10_ := Aside0.mk (blk_below (g := gb622) (o := .cells #[.slice A0_0 l0_0.length c0_0, .slice A0_1 l0_1.length c0_1] 30 (0, 0)) (by (with_reducible repeat (first | refine blk_drewN ?_ _ | refine blk_drew ?_ | refine blk_alloc ?_ _)); refine blk_far ?_ NB622_685.out _; (with_reducible repeat (first | refine blk_drewN ?_ _ | refine blk_drew ?_ | refine blk_alloc ?_ _)); refine blk_far ?_ NB622_685.out _; (with_reducible repeat (first | refine blk_drewN ?_ _ | refine blk_drew ?_ | refine blk_alloc ?_ _)); exact BK622.out) hb); have n11_ := Aside0.mk (blk_below (g := gb638) (o := .cells #[.slice Ao22 t630.length co22, .slice Ao25 t633.length co25] 33 (0, 0)) (by (with_reducible repeat (first | refine blk_drewN ?_ _ | refine blk_drew ?_ | refine blk_alloc ?_ _)); refine blk_far ?_ NB638_685.out _; (with_reducible repeat (first | refine blk_drewN ?_ _ | refine blk_drew ?_ | refine blk_alloc ?_ _)); refine blk_far ?_ NB638_685.out _; (with_reducible repeat (first | refine blk_drewN ?_ _ | refine blk_drew ?_ | refine blk_alloc ?_ _)); exact BK638.out) hb); have n12_ := Aside0.mk (blk_below (g := gb645) (o := .cells #[.slice Ao29 t664.length co29, .slice Ao33 t665.length co33] 33 (0, 0)) (by (with_reducible repeat (first | refine blk_drewN ?_ _ | refine blk_drew ?_ | refine blk_alloc ?_ _)); refine blk_far ?_ NB645_685.out _; (with_reducible repeat (first | refine blk_drewN ?_ _ | refine blk_drew ?_ | refine blk_alloc ?_ _)); refine blk_far ?_ NB645_685.out _; (with_reducible repeat (first | refine blk_drewN ?_ _ | refine blk_drew ?_ | refine blk_alloc ?_ _)); exact BK645.out) hb); have n13_ := Aside0.mk (blk_below (g := gb654) (o := .cells #[.slice Ao36 t646.length co36, .slice Ao41 t649.length co41] 33 (0, 0)) (by (with_reducible repeat (first | refine blk_drewN ?_ _ | refine blk_drew ?_ | refine blk_alloc ?_ _)); refine blk_far ?_ NB654_685.out _; (with_reducible repeat (first | refine blk_drewN ?_ _ | refine blk_drew ?_ | refine blk_alloc ?_ _)); refine blk_far ?_ NB654_685.out _; (with_reducible repeat (first | refine blk_drewN ?_ _ | refine blk_drew ?_ | refine blk_alloc ?_ _)); exact BK654.out) hb); have n14_ := Aside0.mk (blk_below (g := gb685) (o := .cells #[.slice Ao104 t677.length co104, .slice Ao110 t680.length co110] 33 (0, 0)) (by (with_reducible repeat (first | refine blk_drewN ?_ _ | refine blk_drew ?_ | refine blk_alloc ?_ _)); refine blk_put (cs := #[.slice Ao104 t677.length co104, .slice none 0 0]) ?_ 1 _ rfl; (with_reducible repeat (first | refine blk_drewN ?_ _ | refine blk_drew ?_ | refine blk_alloc ?_ _)); refine blk_put (cs := #[.slice none 0 0, .slice none 0 0]) ?_ 0 _ rfl; (with_reducible repeat (first | refine blk_drewN ?_ _ | refine blk_drew ?_ | refine blk_alloc ?_ _)); exact BK685.out) hb); have n15_ := Aside0.mk (below_step (by repeat (first | (with_reducible first | exact HB.out | apply below_alloc | apply pw_below_drewN | apply below_drew1 | refine below_set ?_ GE622.out | refine below_set ?_ GE638.out | refine below_set ?_ GE645.out | refine below_set ?_ GE654.out | refine below_set ?_ GE685.out) | exact HB.out)) hb); clear HO_639000 HO_639001 HO_646000 HO_646001 HO_655000 HO_655001 HO673 HO676 HO679 HO682 BK622 BK638 BK645 BK654 BK685 HB; have HO_639000 := n0_; have HO_639001 := n1_; have HO_646000 := n2_; have HO_646001 := n3_; have HO_655000 := n4_; have HO_655001 := n5_; have HO673 := n6_; have HO676 := n7_; have HO679 := n8_; have HO682 := n9_; have BK622 := n10_; have BK638 := n11_; have BK645 := n12_; have BK654 := n13_; have BK685 := n14_; have HB := n15_; clear n0_ n1_ n2_ n3_ n4_ n5_ n6_ n7_ n8_ n9_ n10_ n11_ n12_ n13_ n14_ n15_; (try clear hb); (try clear hb2); (try clear hk); (try clear hi)))
                            go_meet
                            case rel => exact ⟨_, ((t684 != t637)), (by first | rfl | (simp; done) | (simp [*]; done)), H', ⟨by have := HJ11.out; have := HJ57.out; first | omega | exact Nat.le_refl _⟩, ⟨by (try simp only [hl646000_57]); (try simp only [hl646001_57]); (with_reducible repeat (first | apply Kd.R_alloc | apply Kd.R_drewN | apply Kd.R_drew)); exact Kd.R_mono HO_639000.out (fun _ hk => ⟨hk.1.1.1, ⟨hk.1.1.2, hk.2⟩⟩)⟩, ⟨by (try simp only [hl646000_57]); (try simp only [hl646001_57]); (with_reducible repeat (first | apply Kd.R_alloc | apply Kd.R_drewN | apply Kd.R_drew)); exact Kd.R_mono HO_639001.out (fun _ hk => ⟨hk.1.1.1, ⟨hk.1.1.2, hk.2⟩⟩)⟩, ⟨by (try simp only [hl646000_57]); (try simp only [hl646001_57]); (with_reducible repeat (first | apply Kd.R_alloc | apply Kd.R_drewN | apply Kd.R_drew)); exact Kd.R_mono HO_646000.out (fun _ hk => ⟨hk.1.1.1, ⟨hk.1.1.2, hk.2⟩⟩)⟩, ⟨by (try simp only [hl646000_57]); (try simp only [hl646001_57]); (with_reducible repeat (first | apply Kd.R_alloc | apply Kd.R_drewN | apply Kd.R_drew)); exact Kd.R_mono HO_646001.out (fun _ hk => ⟨hk.1.1.1, ⟨hk.1.1.2, hk.2⟩⟩)⟩, ⟨by (try simp only [hl646000_57]); (try simp only [hl646001_57]); (with_reducible repeat (first | apply Kd.R_alloc | apply Kd.R_drewN | apply Kd.R_drew)); exact Kd.R_mono HO_655000.out (fun _ hk => ⟨hk.1.1.1, ⟨hk.1.1.2, hk.2⟩⟩)⟩, ⟨by (try simp only [hl646000_57]); (try simp only [hl646001_57]); (with_reducible repeat (first | apply Kd.R_alloc | apply Kd.R_drewN | apply Kd.R_drew)); exact Kd.R_mono HO_655001.out (fun _ hk => ⟨hk.1.1.1, ⟨hk.1.1.2, hk.2⟩⟩)⟩, ⟨by (try simp only [hl646000_57]); (try simp only [hl646001_57]); (with_reducible repeat (first | apply Kd.R_alloc | apply Kd.R_drewN | apply Kd.R_drew)); exact Kd.R_mono HO679.out (fun _ hk => ⟨hk.1.1.1.2, ⟨hk.1.1.2, hk.1.2⟩⟩)⟩, ⟨by (try simp only [hl646000_57]); (try simp only [hl646001_57]); (with_reducible repeat (first | apply Kd.R_alloc | apply Kd.R_drewN | apply Kd.R_drew)); exact Kd.R_mono HO682.out (fun _ hk => ⟨hk.1.1.1.2, ⟨hk.1.1.2, hk.1.2⟩⟩)⟩, ⟨by (try simp only [hl646000_57]); (try simp only [hl646001_57]); (with_reducible repeat (first | refine blk_drewN ?_ _ | refine blk_drew ?_ | refine blk_alloc ?_ _)); exact BK622.out⟩, ⟨by (try simp only [hl646000_57]); (try simp only [hl646001_57]); (with_reducible repeat (first | refine blk_drewN ?_ _ | refine blk_drew ?_ | refine blk_alloc ?_ _)); exact BK638.out⟩, ⟨by (try simp only [hl646000_57]); (try simp only [hl646001_57]); (with_reducible repeat (first | refine blk_drewN ?_ _ | refine blk_drew ?_ | refine blk_alloc ?_ _)); exact BK645.out⟩, ⟨by (try simp only [hl646000_57]); (try simp only [hl646001_57]); (with_reducible repeat (first | refine blk_drewN ?_ _ | refine blk_drew ?_ | refine blk_alloc ?_ _)); exact BK654.out⟩, ⟨by (try simp only [hl646000_57]); (try simp only [hl646001_57]); (with_reducible repeat (first | refine blk_drewN ?_ _ | refine blk_drew ?_ | refine blk_alloc ?_ _)); exact BK685.out⟩, ⟨by repeat (first | (with_reducible first | exact HB.out | apply below_alloc | apply pw_below_drewN | apply below_drew1 | refine below_set ?_ GE622.out | refine below_set ?_ GE638.out | refine below_set ?_ GE645.out | refine below_set ?_ GE654.out | refine below_set ?_ GE685.out) | exact HB.out)⟩⟩
                          · rw [if_neg c113] at H
                            have c113b0 : (t683 == t636) = false := beq_eq_false_iff_ne.mpr c113
                            have c113b1 : (t683 != t636) = true := bne_iff_ne.mpr c113
                            (first | rw [c113b0] | (simp only [i64_w, i32_w]; rw [c113b0]) | skip)
                            cases kj57 with
                            | zero => exact absurd H (by simp [laws_FnExactNewToken.j2])
                            | succ k_ => (simp only [laws_FnExactNewToken.j2, if_pos] at H; exact absurd (Option.some.inj H) (by rw [HQ_.out]; simp))
                        · replace c112 := Bool.eq_false_iff.mpr c112
                          subst c112
                          have H1 : (laws_FnExactNewToken.j2 kj57 t667 true t668 t669) = some r := by rw [if_neg (show ¬ (false = true) by decide)] at H; exact H
                          clear H
                          have H := H1
                          clear H1
                          cases kj57 with
                          | zero => exact absurd H (by simp [laws_FnExactNewToken.j2])
                          | succ k_ => (simp only [laws_FnExactNewToken.j2, if_pos] at H; exact absurd (Option.some.inj H) (by rw [HQ_.out]; simp))
                      case rest =>
                        clear HC88
                        try clear c1
                        try clear c2
                        try clear p2
                        try clear c3
                        try clear c4
                        try clear c4b0
                        try clear c5
                        try clear c6
                        try clear c7
                        try clear c8
                        try clear c9
                        try clear c10
                        try clear c11
                        try clear c12
                        try clear c21
                        try clear c23
                        try clear c25
                        try clear c30
                        try clear c31
                        try clear c37
                        try clear c38
                        try clear c39
                        try clear c40
                        try clear c41
                        try clear c43
                        try clear c44
                        try clear c44b0
                        try clear c44b1
                        try clear c45
                        try clear c46
                        try clear c47
                        try clear c49
                        try clear c50
                        try clear c53
                        try clear c56
                        try clear c64
                        try clear c65
                        try clear c66
                        try clear c69
                        try clear c69b0
                        try clear c71
                        try clear c72
                        try clear c72b0
                        try clear c72b1
                        try clear c73
                        try clear c74
                        try clear c75
                        try clear c77
                        try clear c78
                        try clear c81
                        try clear c84
                        try clear c84b0
                        try clear c85
                        try clear c85b0
                        try clear c85b1
                        try clear c89
                        try clear c90
                        try clear c91
                        try clear c96
                        try clear c97
                        try clear c105
                        try clear c106
                        try clear c107
                        try clear c108
                        try clear c112
                        try clear c113
                        try clear c113b0
                        try clear c113b1
                        try clear c114
                        try clear c115
                        try clear c116
                        try clear c117
                        try clear c119
                        try clear c120
                        try clear c121
                        try clear hcz109_0
                        try clear hcz109_1
                        try clear hcz118_0
                        try clear hcz118_1
                        try clear hcz122_0
                        try clear hcz122_1
                        try clear hcz14_0
                        try clear hcz14_1
                        try clear hcz16_0
                        try clear hcz16_1
                        try clear hcz24_0
                        try clear hcz24_1
                        try clear hcz26_0
                        try clear hcz26_1
                        try clear hcz32_0
                        try clear hcz32_1
                        try clear hcz40_0
                        try clear hcz40_1
                        try clear hcz48_0
                        try clear hcz48_1
                        try clear hcz51_0
                        try clear hcz51_1
                        try clear hcz67_0
                        try clear hcz67_1
                        try clear hcz6_0
                        try clear hcz6_1
                        try clear hcz76_0
                        try clear hcz76_1
                        try clear hcz79_0
                        try clear hcz79_1
                        try clear hcz92_0
                        try clear hcz92_1
                        try clear hcz94_0
                        try clear hcz94_1
                        try clear hcz98_0
                        try clear hcz98_1
                        try clear hfz109_0
                        try clear hfz109_1
                        try clear hfz118_0
                        try clear hfz118_1
                        try clear hfz122_0
                        try clear hfz122_1
                        try clear hfz14_0
                        try clear hfz14_1
                        try clear hfz16_0
                        try clear hfz16_1
                        try clear hfz24_0
                        try clear hfz24_1
                        try clear hfz26_0
                        try clear hfz26_1
                        try clear hfz32_0
                        try clear hfz32_1
                        try clear hfz40_0
                        try clear hfz40_1
                        try clear hfz48_0
                        try clear hfz48_1
                        try clear hfz51_0
                        try clear hfz51_1
                        try clear hfz67_0
                        try clear hfz67_1
                        try clear hfz6_0
                        try clear hfz6_1
                        try clear hfz76_0
                        try clear hfz76_1
                        try clear hfz79_0
                        try clear hfz79_1
                        try clear hfz92_0
                        try clear hfz92_1
                        try clear hfz94_0
                        try clear hfz94_1
                        try clear hfz98_0
                        try clear hfz98_1
                        try clear p2
                        obtain ⟨kq, x113_87, rfl, HA, HJ87, HO_639000, HO_639001, HO_646000, HO_646001, HO_655000, HO_655001, HO_686000, HO_686001, BK622, BK638, BK645, BK654, BK685, HB⟩ := hcut
                        have hl655000_87 := (Kd.R_reads' HO_655000.out).1
                        rw [hl655000_87] at HO_655000
                        (try simp only [hl655000_87])
                        (try simp only [hl655000_87] at BK622)
                        (try simp only [hl655000_87] at BK638)
                        (try simp only [hl655000_87] at BK645)
                        (try simp only [hl655000_87] at BK654)
                        (try simp only [hl655000_87] at BK685)
                        (try simp only [hl655000_87] at HO_639000)
                        (try simp only [hl655000_87] at HO_639001)
                        (try simp only [hl655000_87] at HO_646000)
                        (try simp only [hl655000_87] at HO_646001)
                        (try simp only [hl655000_87] at HO_655001)
                        (try simp only [hl655000_87] at HO_686000)
                        (try simp only [hl655000_87] at HO_686001)
                        have hl655001_87 := (Kd.R_reads' HO_655001.out).1
                        rw [hl655001_87] at HO_655001
                        (try simp only [hl655001_87])
                        (try simp only [hl655001_87] at BK622)
                        (try simp only [hl655001_87] at BK638)
                        (try simp only [hl655001_87] at BK645)
                        (try simp only [hl655001_87] at BK654)
                        (try simp only [hl655001_87] at BK685)
                        (try simp only [hl655001_87] at HO_639000)
                        (try simp only [hl655001_87] at HO_639001)
                        (try simp only [hl655001_87] at HO_646000)
                        (try simp only [hl655001_87] at HO_646001)
                        (try simp only [hl655001_87] at HO_655000)
                        (try simp only [hl655001_87] at HO_686000)
                        (try simp only [hl655001_87] at HO_686001)
                        cases kq with
                        | zero => exact absurd HA.out (by simp [laws_FnExactNewToken.j2])
                        | succ kj87 =>
                          have H := HA.out
                          clear HA
                          simp only [laws_FnExactNewToken.j2] at H
                          by_cases c124 : x113_87 = true
                          · subst c124
                            have H1 : (some false) = some r := by rw [if_pos rfl] at H; exact H
                            clear H
                            have H := H1
                            clear H1
                            exact absurd (Option.some.inj H) (by rw [HQ_.out]; simp)
                          · replace c124 := Bool.eq_false_iff.mpr c124
                            subst c124
                            have H1 : ((laws_heldTokens.f kj87 t668 t669 1).bind fun t687 => (if t687 < 0 then (some false) else (if t687 = t667 then (some true) else (some false)))) = some r := by rw [if_neg (show ¬ (false = true) by decide)] at H; exact H
                            clear H
                            have H := H1
                            clear H1
                            replace H := Option.bind_eq_some_iff.mp H
                            obtain ⟨t687, A1250, H⟩ := H
                            replace H : (if t687 < 0 then (some false) else (if t687 = t667 then (some true) else (some false))) = some r := H
                            have A125 := Aside0.mk A1250
                            clear A1250
                            by_cases c126 : t687 < 0
                            · rw [if_pos c126] at H
                              have c126b0 : decide (t687 < 0) = true := decide_eq_true c126
                              clear c126
                              exact absurd (Option.some.inj H) (by rw [HQ_.out]; simp)
                            · rw [if_neg c126] at H
                              have c126b0 : decide (t687 < 0) = false := decide_eq_false c126
                              clear c126
                              by_cases c127 : t687 = t667
                              · rw [if_pos c127] at H
                                have c127b0 : (t687 == t667) = true := beq_iff_eq.mpr c127
                                have c127b1 : (t687 != t667) = false := bne_eq_false_iff_eq.mpr c127
                                clear c127
                                obtain rfl := Option.some.inj H
                                have hnb128 := NB654_622.out
                                have hnc128 := NB622_654.out
                                have hnb129 := NB654_638.out
                                have hnc129 := NB638_654.out
                                have hnb130 := NB654_645.out
                                have hnc130 := NB645_654.out
                                have hnb131 := NB654_685.out
                                have hnc131 := NB685_654.out
                                have hcz132_0 : wc.cell? ⟨gb654, 0, none⟩ = some (.slice Ao36 t668.length co36) := (blk_cell BK654.out 0).trans rfl
                                have hcz132_1 : wc.cell? ⟨gb654, 1, none⟩ = some (.slice Ao41 t669.length co41) := (blk_cell BK654.out 1).trans rfl
                                have hfz132_0 := blk_frozen BK654.out 0
                                have hfz132_1 := blk_frozen BK654.out 1
                                go_wp2_with (first | ((with_reducible refine gate_callee (f := 41) rfl ?_); refine goesL_ (some 116) rfl rfl Try.func41 (by kernel_rfl) rfl #[.agg #[.slice Ao36 t668.length co36, .slice Ao41 t669.length co41], .int .i64 1] rfl (by (try simp only [List.map_toArray, List.map_cons, List.map_nil]); first | done | rfl | (simp only [List.length_drop, List.length_take]; rfl) | (go_simp; done) | (simp [*]; done)) ?_; (with_reducible refine (laws_heldTokens.calls kj87 _ _ t668 _ _ t669 1 t687 _ ?side1 ?side2 ?side3 ?side4 A125.out).mono ?_); (case side1 => exact pkC (Kd.R_reads' HO_655000.out).2.2); (case side2 => exact (Kd.R_reads' HO_655000.out).2.1); (case side3 => exact pkC (Kd.R_reads' HO_655001.out).2.2); (case side4 => exact (Kd.R_reads' HO_655001.out).2.1); rintro e w133 ⟨rfl, hb⟩; refine ⟨_, rfl, ?_⟩; have n0_ := Aside0.mk (Kd.R_below (pkR HO_639000.out) hb); have n1_ := Aside0.mk (Kd.R_below (pkR HO_639001.out) hb); have n2_ := Aside0.mk (Kd.R_below (pkR HO_646000.out) hb); have n3_ := Aside0.mk (Kd.R_below (pkR HO_646001.out) hb); have n4_ := Aside0.mk (Kd.R_below (pkR HO_655000.out) hb); have n5_ := Aside0.mk (Kd.R_below (pkR HO_655001.out) hb); have n6_ := Aside0.mk (Kd.R_below (pkR HO_686000.out) hb); have n7_ := Aside0.mk (Kd.R_below (pkR HO_686001.out) hb); have n8_ := Aside0.mk (blk_below (g := gb622) (o := .cells #[.slice A0_0 l0_0.length c0_0, .slice A0_1 l0_1.length c0_1] 30 (0, 0)) (pkK BK622.out) hb); have n9_ := Aside0.mk (blk_below (g := gb638) (o := .cells #[.slice Ao22 t630.length co22, .slice Ao25 t633.length co25] 33 (0, 0)) (pkK BK638.out) hb); have n10_ := Aside0.mk (blk_below (g := gb645) (o := .cells #[.slice Ao29 t664.length co29, .slice Ao33 t665.length co33] 33 (0, 0)) (pkK BK645.out) hb); have n11_ := Aside0.mk (blk_below (g := gb654) (o := .cells #[.slice Ao36 t668.length co36, .slice Ao41 t669.length co41] 33 (0, 0)) (pkK BK654.out) hb); have n12_ := Aside0.mk (blk_below (g := gb685) (o := .cells #[.slice Ao104 t677.length co104, .slice Ao110 t680.length co110] 33 (0, 0)) (pkK BK685.out) hb); have n13_ := Aside0.mk (below_step (by repeat (first | (with_reducible first | exact HB.out | apply below_alloc | apply pw_below_drewN | apply below_drew1 | refine below_set ?_ GE622.out | refine below_set ?_ GE638.out | refine below_set ?_ GE645.out | refine below_set ?_ GE654.out | refine below_set ?_ GE685.out) | exact HB.out)) hb); clear HO_639000 HO_639001 HO_646000 HO_646001 HO_655000 HO_655001 HO_686000 HO_686001 BK622 BK638 BK645 BK654 BK685 HB; have HO_639000 := n0_; have HO_639001 := n1_; have HO_646000 := n2_; have HO_646001 := n3_; have HO_655000 := n4_; have HO_655001 := n5_; have HO_686000 := n6_; have HO_686001 := n7_; have BK622 := n8_; have BK638 := n9_; have BK645 := n10_; have BK654 := n11_; have BK685 := n12_; have HB := n13_; clear n0_ n1_ n2_ n3_ n4_ n5_ n6_ n7_ n8_ n9_ n10_ n11_ n12_ n13_; (try clear hb); (try clear hb2); (try clear hk); (try clear hi)))
                                go_ret
                                exact ⟨by first | rfl | (simp [errW_none, errW_some] <;> rfl) | (simp [*, errW_none, errW_some] <;> rfl), by repeat (first | (with_reducible first | exact HB.out | apply below_alloc | apply pw_below_drewN | apply below_drew1 | refine below_set ?_ GE622.out | refine below_set ?_ GE638.out | refine below_set ?_ GE645.out | refine below_set ?_ GE654.out | refine below_set ?_ GE685.out) | exact HB.out)⟩
                              · rw [if_neg c127] at H
                                have c127b0 : (t687 == t667) = false := beq_eq_false_iff_ne.mpr c127
                                have c127b1 : (t687 != t667) = true := bne_iff_ne.mpr c127
                                exact absurd (Option.some.inj H) (by rw [HQ_.out]; simp)
                    · rw [if_neg c85] at H
                      have c85b0 : (t670 == t667) = false := beq_eq_false_iff_ne.mpr c85
                      have c85b1 : (t670 != t667) = true := bne_iff_ne.mpr c85
                      exact absurd (Option.some.inj H) (by rw [HQ_.out]; simp)
          · replace c56 := Bool.eq_false_iff.mpr c56
            subst c56
            have H1 : (some false) = some r := by rw [if_neg (show ¬ (false = true) by decide)] at H; exact H
            clear H
            have H := H1
            clear H1
            exact absurd (Option.some.inj H) (by rw [HQ_.out]; simp)
end Go.Proofs.Ytghmhekjdjdleaa.Z
