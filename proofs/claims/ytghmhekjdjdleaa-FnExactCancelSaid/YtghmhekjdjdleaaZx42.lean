/- The Go functions laws_FnExactCancel as Lean functions, each with a proof that its code comes to just these answers; conditions: those of each theorem. -/
import Derived.Test.YtghmhekjdjdleaaZx0
import Derived.Test.YtghmhekjdjdleaaZx2
import Derived.Test.YtghmhekjdjdleaaZx4
import Derived.Test.YtghmhekjdjdleaaZx6
import Derived.Test.YtghmhekjdjdleaaZx8
import Derived.Test.YtghmhekjdjdleaaZx10
import Derived.Test.YtghmhekjdjdleaaZx11
import Derived.Test.YtghmhekjdjdleaaZx16
import Derived.Test.YtghmhekjdjdleaaZx21
import Derived.Test.YtghmhekjdjdleaaZx25
import Derived.Test.YtghmhekjdjdleaaZx26
namespace Go.Proofs.Ytghmhekjdjdleaa.Z
open Go.RowKit Go.Proofs.YtghmhekjdjdleaaW.PrintWords Go.Proofs.YtghmhekjdjdleaaW.PrintLast Go.Proofs.YtghmhekjdjdleaaW.PrintMore
attribute [local go_sem] max2_int min2_int max_two min_two max_three min_three max_four min_four   -- for this text's walks alone
set_option linter.unusedVariables false
set_option linter.unusedSimpArgs false
mutual
def laws_FnExactCancel.j0 : Nat → Int → List Int → Int → List Int → Int → Bool → List Int → List Bool → List Int → List Bool → List Int → List Bool → List Int → List Bool → Option (Bool)
  | 0, _, _, _, _, _, _, _, _, _, _, _, _, _, _ => none
  | k + 1, x1, x7, x8, x11, x12, x55, x885000, x885001, x903000, x903001, x910000, x910001, x921000, x921001 => if x55 = true then (some false) else ((laws_toTokens.f k x885000 x885001).bind fun bt923 => ((laws_eqTokens.f k x910000 x910001 bt923.1 bt923.2).bind fun t929 => (if t929 = true then ((laws_markTokens.f k x910000 x910001 1).bind fun bt930 => (if bt930.1 < 0 then (laws_FnExactCancel.j1 k x1 x7 x8 x11 true x885000 x885001 x903000 x903001 x921000 x921001) else ((laws_eqTokens.f k x921000 x921001 x903000 x903001).bind fun t933 => (if t933 = true then ((laws_eqIntS.f k x11 x7).bind fun t934 => (if t934 = true then (laws_FnExactCancel.j1 k x1 x7 x8 x11 (x12 != x8) x885000 x885001 x903000 x903001 x921000 x921001) else (laws_FnExactCancel.j1 k x1 x7 x8 x11 true x885000 x885001 x903000 x903001 x921000 x921001))) else (laws_FnExactCancel.j1 k x1 x7 x8 x11 true x885000 x885001 x903000 x903001 x921000 x921001))))) else (some false))))
def laws_FnExactCancel.j1 : Nat → Int → List Int → Int → List Int → Bool → List Int → List Bool → List Int → List Bool → List Int → List Bool → Option (Bool)
  | 0, _, _, _, _, _, _, _, _, _, _, _ => none
  | k + 1, x1, x7, x8, x11, x82, x885000, x885001, x903000, x903001, x921000, x921001 => if x82 = true then (some false) else ((laws_markTokens.f k x921000 x921001 1).bind fun bt935 => ((laws_markIntS.f k x11 bt935.1).bind fun bt938 => ((laws_heldTokens.f k bt935.2.1 bt935.2.2 1).bind fun t940 => (if t940 < 0 then (some false) else ((laws_heldIntS.f k bt938.2 t940).bind fun t941 => (if t941 < 0 then (some false) else (if t941 = bt938.1 then ((laws_toTokens.f k x885000 x885001).bind fun bt942 => ((impl_Cancel.f k bt942.1 bt942.2 x1).bind fun bt948 => ((laws_eqTokens.f k bt948.1 bt948.2.1 x903000 x903001).bind fun t959 => (if t959 = true then ((laws_eqIntS.f k bt948.2.2.1 x7).bind fun t960 => (if t960 = true then (laws_FnExactCancel.j2 k bt938.2 bt938.1 (bt948.2.2.2 != x8) bt935.2.1 bt935.2.2) else (laws_FnExactCancel.j2 k bt938.2 bt938.1 true bt935.2.1 bt935.2.2))) else (laws_FnExactCancel.j2 k bt938.2 bt938.1 true bt935.2.1 bt935.2.2))))) else (some false))))))))
def laws_FnExactCancel.j2 : Nat → List Int → Int → Bool → List Int → List Bool → Option (Bool)
  | 0, _, _, _, _, _ => none
  | k + 1, x11, x14, x124, x921000, x921001 => if x124 = true then (some false) else ((laws_heldTokens.f k x921000 x921001 1).bind fun t961 => (if t961 < 0 then (some false) else ((laws_heldIntS.f k x11 t961).bind fun t962 => (if t962 < 0 then (some false) else (if t962 = x14 then (some true) else (some false))))))
end
def laws_FnExactCancel.f (k : Nat) (l0_0 : List Int) (l0_1 : List Bool) (a1 : Int) : Option (Bool) := (laws_szTokens.f l0_0 l0_1 1048576).bind fun t885 => (if t885 < 0 then (some true) else ((laws_toTokens.f k l0_0 l0_1).bind fun bt886 => ((spec_Cancel.f k bt886.1 bt886.2 a1).bind fun bt892 => ((laws_toTokens.f k l0_0 l0_1).bind fun bt903 => ((impl_Cancel.f k bt903.1 bt903.2 a1).bind fun bt910 => ((laws_eqTokens.f k bt910.1 bt910.2.1 bt892.1 bt892.2.1).bind fun t921 => (if t921 = true then ((laws_eqIntS.f k bt910.2.2.1 bt892.2.2.1).bind fun t922 => (if t922 = true then (laws_FnExactCancel.j0 k a1 bt892.2.2.1 bt892.2.2.2 bt910.2.2.1 bt910.2.2.2 (bt910.2.2.2 != bt892.2.2.2) l0_0 l0_1 bt892.1 bt892.2.1 bt903.1 bt903.2 bt910.1 bt910.2.1) else (laws_FnExactCancel.j0 k a1 bt892.2.2.1 bt892.2.2.2 bt910.2.2.1 bt910.2.2.2 true l0_0 l0_1 bt892.1 bt892.2.1 bt903.1 bt903.2 bt910.1 bt910.2.1))) else (laws_FnExactCancel.j0 k a1 bt892.2.2.1 bt892.2.2.2 bt910.2.2.1 bt910.2.2.2 true l0_0 l0_1 bt892.1 bt892.2.1 bt903.1 bt903.2 bt910.1 bt910.2.1))))))))
theorem laws_FnExactCancel.mono_l : ∀ k, (∀ y0 y1 y2 y3 y4 y5 y6 y7 y8 y9 y10 y11 y12 y13, LeO (laws_FnExactCancel.j0 k y0 y1 y2 y3 y4 y5 y6 y7 y8 y9 y10 y11 y12 y13) (laws_FnExactCancel.j0 (k + 1) y0 y1 y2 y3 y4 y5 y6 y7 y8 y9 y10 y11 y12 y13)) ∧ (∀ y0 y1 y2 y3 y4 y5 y6 y7 y8 y9 y10, LeO (laws_FnExactCancel.j1 k y0 y1 y2 y3 y4 y5 y6 y7 y8 y9 y10) (laws_FnExactCancel.j1 (k + 1) y0 y1 y2 y3 y4 y5 y6 y7 y8 y9 y10)) ∧ (∀ y0 y1 y2 y3 y4, LeO (laws_FnExactCancel.j2 k y0 y1 y2 y3 y4) (laws_FnExactCancel.j2 (k + 1) y0 y1 y2 y3 y4))
  | 0 => ⟨fun _ _ _ _ _ _ _ _ _ _ _ _ _ _ r h => by simp [laws_FnExactCancel.j0] at h, fun _ _ _ _ _ _ _ _ _ _ _ r h => by simp [laws_FnExactCancel.j1] at h, fun _ _ _ _ _ r h => by simp [laws_FnExactCancel.j2] at h⟩
  | k + 1 => by
    obtain ⟨ih0, ih1, ih2⟩ := laws_FnExactCancel.mono_l k
    refine ⟨?_, ?_, ?_⟩
    · intro y0 y1 y2 y3 y4 y5 y6 y7 y8 y9 y10 y11 y12 y13
      unfold laws_FnExactCancel.j0
      repeat' first
      | (with_reducible exact ih0 _ _ _ _ _ _ _ _ _ _ _ _ _ _)
      | (with_reducible exact ih1 _ _ _ _ _ _ _ _ _ _ _)
      | (with_reducible exact ih2 _ _ _ _ _)
      | (with_reducible exact impl_Cancel.mono _ _ _ _)
      | (with_reducible exact laws_eqIntS.mono _ _ _)
      | (with_reducible exact laws_eqTokens.mono _ _ _ _ _)
      | (with_reducible exact laws_heldIntS.mono _ _ _)
      | (with_reducible exact laws_heldTokens.mono _ _ _ _)
      | (with_reducible exact laws_markIntS.mono _ _ _)
      | (with_reducible exact laws_markTokens.mono _ _ _ _)
      | (with_reducible exact laws_toTokens.mono _ _ _)
      | (with_reducible exact spec_Cancel.mono _ _ _ _)
      | (with_reducible exact LeO.refl _)
      | (with_reducible exact LeO.none _)
      | (with_reducible refine LeO.ite ?_ ?_)
      | (with_reducible refine LeO.bind ?_ (fun _ => ?_))
      | exact ih0 _ _ _ _ _ _ _ _ _ _ _ _ _ _
      | exact ih1 _ _ _ _ _ _ _ _ _ _ _
      | exact ih2 _ _ _ _ _
      | exact impl_Cancel.mono _ _ _ _
      | exact laws_eqIntS.mono _ _ _
      | exact laws_eqTokens.mono _ _ _ _ _
      | exact laws_heldIntS.mono _ _ _
      | exact laws_heldTokens.mono _ _ _ _
      | exact laws_markIntS.mono _ _ _
      | exact laws_markTokens.mono _ _ _ _
      | exact laws_toTokens.mono _ _ _
      | exact spec_Cancel.mono _ _ _ _
      | exact LeO.none _
      | refine LeO.ite ?_ ?_
      | refine LeO.bind ?_ (fun _ => ?_)
    · intro y0 y1 y2 y3 y4 y5 y6 y7 y8 y9 y10
      unfold laws_FnExactCancel.j1
      repeat' first
      | (with_reducible exact ih0 _ _ _ _ _ _ _ _ _ _ _ _ _ _)
      | (with_reducible exact ih1 _ _ _ _ _ _ _ _ _ _ _)
      | (with_reducible exact ih2 _ _ _ _ _)
      | (with_reducible exact impl_Cancel.mono _ _ _ _)
      | (with_reducible exact laws_eqIntS.mono _ _ _)
      | (with_reducible exact laws_eqTokens.mono _ _ _ _ _)
      | (with_reducible exact laws_heldIntS.mono _ _ _)
      | (with_reducible exact laws_heldTokens.mono _ _ _ _)
      | (with_reducible exact laws_markIntS.mono _ _ _)
      | (with_reducible exact laws_markTokens.mono _ _ _ _)
      | (with_reducible exact laws_toTokens.mono _ _ _)
      | (with_reducible exact spec_Cancel.mono _ _ _ _)
      | (with_reducible exact LeO.refl _)
      | (with_reducible exact LeO.none _)
      | (with_reducible refine LeO.ite ?_ ?_)
      | (with_reducible refine LeO.bind ?_ (fun _ => ?_))
      | exact ih0 _ _ _ _ _ _ _ _ _ _ _ _ _ _
      | exact ih1 _ _ _ _ _ _ _ _ _ _ _
      | exact ih2 _ _ _ _ _
      | exact impl_Cancel.mono _ _ _ _
      | exact laws_eqIntS.mono _ _ _
      | exact laws_eqTokens.mono _ _ _ _ _
      | exact laws_heldIntS.mono _ _ _
      | exact laws_heldTokens.mono _ _ _ _
      | exact laws_markIntS.mono _ _ _
      | exact laws_markTokens.mono _ _ _ _
      | exact laws_toTokens.mono _ _ _
      | exact spec_Cancel.mono _ _ _ _
      | exact LeO.none _
      | refine LeO.ite ?_ ?_
      | refine LeO.bind ?_ (fun _ => ?_)
    · intro y0 y1 y2 y3 y4
      unfold laws_FnExactCancel.j2
      repeat' first
      | (with_reducible exact ih0 _ _ _ _ _ _ _ _ _ _ _ _ _ _)
      | (with_reducible exact ih1 _ _ _ _ _ _ _ _ _ _ _)
      | (with_reducible exact ih2 _ _ _ _ _)
      | (with_reducible exact impl_Cancel.mono _ _ _ _)
      | (with_reducible exact laws_eqIntS.mono _ _ _)
      | (with_reducible exact laws_eqTokens.mono _ _ _ _ _)
      | (with_reducible exact laws_heldIntS.mono _ _ _)
      | (with_reducible exact laws_heldTokens.mono _ _ _ _)
      | (with_reducible exact laws_markIntS.mono _ _ _)
      | (with_reducible exact laws_markTokens.mono _ _ _ _)
      | (with_reducible exact laws_toTokens.mono _ _ _)
      | (with_reducible exact spec_Cancel.mono _ _ _ _)
      | (with_reducible exact LeO.refl _)
      | (with_reducible exact LeO.none _)
      | (with_reducible refine LeO.ite ?_ ?_)
      | (with_reducible refine LeO.bind ?_ (fun _ => ?_))
      | exact ih0 _ _ _ _ _ _ _ _ _ _ _ _ _ _
      | exact ih1 _ _ _ _ _ _ _ _ _ _ _
      | exact ih2 _ _ _ _ _
      | exact impl_Cancel.mono _ _ _ _
      | exact laws_eqIntS.mono _ _ _
      | exact laws_eqTokens.mono _ _ _ _ _
      | exact laws_heldIntS.mono _ _ _
      | exact laws_heldTokens.mono _ _ _ _
      | exact laws_markIntS.mono _ _ _
      | exact laws_markTokens.mono _ _ _ _
      | exact laws_toTokens.mono _ _ _
      | exact spec_Cancel.mono _ _ _ _
      | exact LeO.none _
      | refine LeO.ite ?_ ?_
      | refine LeO.bind ?_ (fun _ => ?_)
theorem laws_FnExactCancel.mono : ∀ a0 a1 a2 k, LeO (laws_FnExactCancel.f k a0 a1 a2) (laws_FnExactCancel.f (k + 1) a0 a1 a2) := by
  intro a0 a1 a2 k
  obtain ⟨ih0, ih1, ih2⟩ := laws_FnExactCancel.mono_l k
  unfold laws_FnExactCancel.f
  repeat' first
      | (with_reducible exact ih0 _ _ _ _ _ _ _ _ _ _ _ _ _ _)
      | (with_reducible exact ih1 _ _ _ _ _ _ _ _ _ _ _)
      | (with_reducible exact ih2 _ _ _ _ _)
      | (with_reducible exact impl_Cancel.mono _ _ _ _)
      | (with_reducible exact laws_eqIntS.mono _ _ _)
      | (with_reducible exact laws_eqTokens.mono _ _ _ _ _)
      | (with_reducible exact laws_heldIntS.mono _ _ _)
      | (with_reducible exact laws_heldTokens.mono _ _ _ _)
      | (with_reducible exact laws_markIntS.mono _ _ _)
      | (with_reducible exact laws_markTokens.mono _ _ _ _)
      | (with_reducible exact laws_toTokens.mono _ _ _)
      | (with_reducible exact spec_Cancel.mono _ _ _ _)
      | (with_reducible exact LeO.refl _)
      | (with_reducible exact LeO.none _)
      | (with_reducible refine LeO.ite ?_ ?_)
      | (with_reducible refine LeO.bind ?_ (fun _ => ?_))
      | exact ih0 _ _ _ _ _ _ _ _ _ _ _ _ _ _
      | exact ih1 _ _ _ _ _ _ _ _ _ _ _
      | exact ih2 _ _ _ _ _
      | exact impl_Cancel.mono _ _ _ _
      | exact laws_eqIntS.mono _ _ _
      | exact laws_eqTokens.mono _ _ _ _ _
      | exact laws_heldIntS.mono _ _ _
      | exact laws_heldTokens.mono _ _ _ _
      | exact laws_markIntS.mono _ _ _
      | exact laws_markTokens.mono _ _ _ _
      | exact laws_toTokens.mono _ _ _
      | exact spec_Cancel.mono _ _ _ _
      | exact LeO.none _
      | refine LeO.ite ?_ ?_
      | refine LeO.bind ?_ (fun _ => ?_)
set_option maxHeartbeats 8000000 in
set_option maxRecDepth 100000 in
theorem laws_FnExactCancel.calls (k : Nat) (A0_0 : Option Addr) (c0_0 : Nat) (l0_0 : List Int) (A0_1 : Option Addr) (c0_1 : Nat) (l0_1 : List Bool) (a1 : Int) (r : Bool) (w : World) (hr0_0 : Kd.C (Kd.int .i64) w A0_0 l0_0.length l0_0) (hc0_0 : l0_0.length ≤ c0_0) (hr0_1 : Kd.C Kd.bool w A0_1 l0_1.length l0_1) (hc0_1 : l0_1.length ≤ c0_1) (HQ_ : Aside0 (r = true)) (h : laws_FnExactCancel.f k l0_0 l0_1 a1 = some r) :
    Calls Try.prog 13 #[.agg #[.slice A0_0 l0_0.length c0_0, .slice A0_1 l0_1.length c0_1], .int .i64 a1] w fun e w' => e = .returned (.bool r) ∧ Below w.heap.size w w' := by
  have hu30 := Try.underlying30
  have hu33 := Try.underlying33
  have HR0_0 := Aside0.mk hr0_0
  have HC0_0 := Aside0.mk hc0_0
  clear hr0_0 hc0_0
  have HR0_1 := Aside0.mk hr0_1
  have HC0_1 := Aside0.mk hc0_1
  clear hr0_1 hc0_1
  have HB := Aside0.mk (Below.refl w.heap.size w)
  have H : ((laws_szTokens.f l0_0 l0_1 1048576).bind fun t885 => (if t885 < 0 then (some true) else ((laws_toTokens.f k l0_0 l0_1).bind fun bt886 => ((spec_Cancel.f k bt886.1 bt886.2 a1).bind fun bt892 => ((laws_toTokens.f k l0_0 l0_1).bind fun bt903 => ((impl_Cancel.f k bt903.1 bt903.2 a1).bind fun bt910 => ((laws_eqTokens.f k bt910.1 bt910.2.1 bt892.1 bt892.2.1).bind fun t921 => (if t921 = true then ((laws_eqIntS.f k bt910.2.2.1 bt892.2.2.1).bind fun t922 => (if t922 = true then (laws_FnExactCancel.j0 k a1 bt892.2.2.1 bt892.2.2.2 bt910.2.2.1 bt910.2.2.2 (bt910.2.2.2 != bt892.2.2.2) l0_0 l0_1 bt892.1 bt892.2.1 bt903.1 bt903.2 bt910.1 bt910.2.1) else (laws_FnExactCancel.j0 k a1 bt892.2.2.1 bt892.2.2.2 bt910.2.2.1 bt910.2.2.2 true l0_0 l0_1 bt892.1 bt892.2.1 bt903.1 bt903.2 bt910.1 bt910.2.1))) else (laws_FnExactCancel.j0 k a1 bt892.2.2.1 bt892.2.2.2 bt910.2.2.1 bt910.2.2.2 true l0_0 l0_1 bt892.1 bt892.2.1 bt903.1 bt903.2 bt910.1 bt910.2.1))))))))) = some r := h
  clear h
  replace H := Option.bind_eq_some_iff.mp H
  obtain ⟨t885, A30, H⟩ := H
  replace H : (if t885 < 0 then (some true) else ((laws_toTokens.f k l0_0 l0_1).bind fun bt886 => ((spec_Cancel.f k bt886.1 bt886.2 a1).bind fun bt892 => ((laws_toTokens.f k l0_0 l0_1).bind fun bt903 => ((impl_Cancel.f k bt903.1 bt903.2 a1).bind fun bt910 => ((laws_eqTokens.f k bt910.1 bt910.2.1 bt892.1 bt892.2.1).bind fun t921 => (if t921 = true then ((laws_eqIntS.f k bt910.2.2.1 bt892.2.2.1).bind fun t922 => (if t922 = true then (laws_FnExactCancel.j0 k a1 bt892.2.2.1 bt892.2.2.2 bt910.2.2.1 bt910.2.2.2 (bt910.2.2.2 != bt892.2.2.2) l0_0 l0_1 bt892.1 bt892.2.1 bt903.1 bt903.2 bt910.1 bt910.2.1) else (laws_FnExactCancel.j0 k a1 bt892.2.2.1 bt892.2.2.2 bt910.2.2.1 bt910.2.2.2 true l0_0 l0_1 bt892.1 bt892.2.1 bt903.1 bt903.2 bt910.1 bt910.2.1))) else (laws_FnExactCancel.j0 k a1 bt892.2.2.1 bt892.2.2.2 bt910.2.2.1 bt910.2.2.2 true l0_0 l0_1 bt892.1 bt892.2.1 bt903.1 bt903.2 bt910.1 bt910.2.1)))))))) = some r := H
  have A3 := Aside0.mk A30
  clear A30
  by_cases c4 : t885 < 0
  · rw [if_pos c4] at H
    have c4b0 : decide (t885 < 0) = true := decide_eq_true c4
    clear c4
    obtain rfl := Option.some.inj H
    go_enter Try.func13, Try.ntmps13
    go_wp2_with (first | ((with_reducible refine gate_dst (N := 2) rfl ?_); refine box_event ?hg (N := 2) ?hd (cs := #[.slice A0_0 l0_0.length c0_0, .slice A0_1 l0_1.length c0_1]) (t := 30) ?hr ?_; (case hd => rfl); (case hg => rfl); (case hr => first | (go_simp; done) | (go_simp; rfl)); intro gb884 hg w5 hbox hb; have n0_ := Aside0.mk (below_step (pkB HB.out) hb); have n1_ := Aside0.mk (hbox); have n2_ := Aside0.mk ((by rw [hg]; exact (below_size (pkB HB.out)) : w.heap.size ≤ gb884)); have n3_ := Aside0.mk ((by rw [hg]; exact (below_size (pkB HB.out)) : w.heap.size ≤ gb884)); clear HB; have HB := n0_; have BK884 := n1_; have GW884 := n2_; have GE884 := n3_; clear n0_ n1_ n2_ n3_; clear hb hbox hg; have hcz6_0 : w5.cell? ⟨gb884, 0, none⟩ = some (.slice A0_0 l0_0.length c0_0) := (blk_cell BK884.out 0).trans rfl; have hcz6_1 : w5.cell? ⟨gb884, 1, none⟩ = some (.slice A0_1 l0_1.length c0_1) := (blk_cell BK884.out 1).trans rfl; have hfz6_0 := blk_frozen BK884.out 0; have hfz6_1 := blk_frozen BK884.out 1) | ((with_reducible refine gate_callee (f := 21) rfl ?_); refine goesL_ (some 21) rfl rfl Try.func21 (by kernel_rfl) rfl #[.agg #[.slice A0_0 l0_0.length c0_0, .slice A0_1 l0_1.length c0_1], .int .i64 1048576] rfl (by (try simp only [List.map_toArray, List.map_cons, List.map_nil]); first | done | rfl | (simp only [List.length_drop, List.length_take]; rfl) | (go_simp; done) | (simp [*]; done)) ?_; (with_reducible refine (laws_szTokens.calls _ _ l0_0 _ _ l0_1 1048576 t885 _ ?side1 ?side2 ?side3 ?side4 A3.out).mono ?_); (case side1 => exact pkC (Kd.C_below HR0_0.out HB.out)); (case side2 => exact HC0_0.out); (case side3 => exact pkC (Kd.C_below HR0_1.out HB.out)); (case side4 => exact HC0_1.out); rintro e w7 ⟨rfl, hb⟩; refine ⟨_, rfl, ?_⟩; have n0_ := Aside0.mk (blk_below (g := gb884) (o := .cells #[.slice A0_0 l0_0.length c0_0, .slice A0_1 l0_1.length c0_1] 30 (0, 0)) (pkK BK884.out) hb); have n1_ := Aside0.mk (below_step (by repeat (first | (with_reducible first | exact HB.out | apply below_alloc | apply pw_below_drewN | apply below_drew1 | refine below_set ?_ GE884.out) | exact HB.out)) hb); clear BK884 HB; have BK884 := n0_; have HB := n1_; clear n0_ n1_; (try clear hb); (try clear hb2); (try clear hk); (try clear hi)))
    go_ret
    exact ⟨by first | rfl | (simp [errW_none, errW_some] <;> rfl) | (simp [*, errW_none, errW_some] <;> rfl), by repeat (first | (with_reducible first | exact HB.out | apply below_alloc | apply pw_below_drewN | apply below_drew1 | refine below_set ?_ GE884.out) | exact HB.out)⟩
  · rw [if_neg c4] at H
    have c4b0 : decide (t885 < 0) = false := decide_eq_false c4
    clear c4
    replace H := Option.bind_eq_some_iff.mp H
    obtain ⟨⟨t886, t889⟩, A80, H⟩ := H
    replace H : ((spec_Cancel.f k t886 t889 a1).bind fun bt892 => ((laws_toTokens.f k l0_0 l0_1).bind fun bt903 => ((impl_Cancel.f k bt903.1 bt903.2 a1).bind fun bt910 => ((laws_eqTokens.f k bt910.1 bt910.2.1 bt892.1 bt892.2.1).bind fun t921 => (if t921 = true then ((laws_eqIntS.f k bt910.2.2.1 bt892.2.2.1).bind fun t922 => (if t922 = true then (laws_FnExactCancel.j0 k a1 bt892.2.2.1 bt892.2.2.2 bt910.2.2.1 bt910.2.2.2 (bt910.2.2.2 != bt892.2.2.2) l0_0 l0_1 bt892.1 bt892.2.1 bt903.1 bt903.2 bt910.1 bt910.2.1) else (laws_FnExactCancel.j0 k a1 bt892.2.2.1 bt892.2.2.2 bt910.2.2.1 bt910.2.2.2 true l0_0 l0_1 bt892.1 bt892.2.1 bt903.1 bt903.2 bt910.1 bt910.2.1))) else (laws_FnExactCancel.j0 k a1 bt892.2.2.1 bt892.2.2.2 bt910.2.2.1 bt910.2.2.2 true l0_0 l0_1 bt892.1 bt892.2.1 bt903.1 bt903.2 bt910.1 bt910.2.1)))))) = some r := H
    have A8 := Aside0.mk A80
    clear A80
    replace H := Option.bind_eq_some_iff.mp H
    obtain ⟨⟨t892, t895, t898, t901⟩, A90, H⟩ := H
    replace H : ((laws_toTokens.f k l0_0 l0_1).bind fun bt903 => ((impl_Cancel.f k bt903.1 bt903.2 a1).bind fun bt910 => ((laws_eqTokens.f k bt910.1 bt910.2.1 t892 t895).bind fun t921 => (if t921 = true then ((laws_eqIntS.f k bt910.2.2.1 t898).bind fun t922 => (if t922 = true then (laws_FnExactCancel.j0 k a1 t898 t901 bt910.2.2.1 bt910.2.2.2 (bt910.2.2.2 != t901) l0_0 l0_1 t892 t895 bt903.1 bt903.2 bt910.1 bt910.2.1) else (laws_FnExactCancel.j0 k a1 t898 t901 bt910.2.2.1 bt910.2.2.2 true l0_0 l0_1 t892 t895 bt903.1 bt903.2 bt910.1 bt910.2.1))) else (laws_FnExactCancel.j0 k a1 t898 t901 bt910.2.2.1 bt910.2.2.2 true l0_0 l0_1 t892 t895 bt903.1 bt903.2 bt910.1 bt910.2.1))))) = some r := H
    have A9 := Aside0.mk A90
    clear A90
    replace H := Option.bind_eq_some_iff.mp H
    obtain ⟨⟨t903, t906⟩, A100, H⟩ := H
    replace H : ((impl_Cancel.f k t903 t906 a1).bind fun bt910 => ((laws_eqTokens.f k bt910.1 bt910.2.1 t892 t895).bind fun t921 => (if t921 = true then ((laws_eqIntS.f k bt910.2.2.1 t898).bind fun t922 => (if t922 = true then (laws_FnExactCancel.j0 k a1 t898 t901 bt910.2.2.1 bt910.2.2.2 (bt910.2.2.2 != t901) l0_0 l0_1 t892 t895 t903 t906 bt910.1 bt910.2.1) else (laws_FnExactCancel.j0 k a1 t898 t901 bt910.2.2.1 bt910.2.2.2 true l0_0 l0_1 t892 t895 t903 t906 bt910.1 bt910.2.1))) else (laws_FnExactCancel.j0 k a1 t898 t901 bt910.2.2.1 bt910.2.2.2 true l0_0 l0_1 t892 t895 t903 t906 bt910.1 bt910.2.1)))) = some r := H
    have A10 := Aside0.mk A100
    clear A100
    replace H := Option.bind_eq_some_iff.mp H
    obtain ⟨⟨t910, t913, t916, t919⟩, A110, H⟩ := H
    replace H : ((laws_eqTokens.f k t910 t913 t892 t895).bind fun t921 => (if t921 = true then ((laws_eqIntS.f k t916 t898).bind fun t922 => (if t922 = true then (laws_FnExactCancel.j0 k a1 t898 t901 t916 t919 (t919 != t901) l0_0 l0_1 t892 t895 t903 t906 t910 t913) else (laws_FnExactCancel.j0 k a1 t898 t901 t916 t919 true l0_0 l0_1 t892 t895 t903 t906 t910 t913))) else (laws_FnExactCancel.j0 k a1 t898 t901 t916 t919 true l0_0 l0_1 t892 t895 t903 t906 t910 t913))) = some r := H
    have A11 := Aside0.mk A110
    clear A110
    have HC12 := Aside0.mk H
    clear H
    go_enter Try.func13, Try.ntmps13
    go_upto_region 8 with (first | ((with_reducible refine gate_dst (N := 2) rfl ?_); refine box_event ?hg (N := 2) ?hd (cs := #[.slice A0_0 l0_0.length c0_0, .slice A0_1 l0_1.length c0_1]) (t := 30) ?hr ?_; (case hd => rfl); (case hg => rfl); (case hr => first | (go_simp; done) | (go_simp; rfl)); intro gb884 hg w13 hbox hb; have n0_ := Aside0.mk (below_step (pkB HB.out) hb); have n1_ := Aside0.mk (hbox); have n2_ := Aside0.mk ((by rw [hg]; exact (below_size (pkB HB.out)) : w.heap.size ≤ gb884)); have n3_ := Aside0.mk ((by rw [hg]; exact (below_size (pkB HB.out)) : w.heap.size ≤ gb884)); clear HB; have HB := n0_; have BK884 := n1_; have GW884 := n2_; have GE884 := n3_; clear n0_ n1_ n2_ n3_; clear hb hbox hg; have hcz14_0 : w13.cell? ⟨gb884, 0, none⟩ = some (.slice A0_0 l0_0.length c0_0) := (blk_cell BK884.out 0).trans rfl; have hcz14_1 : w13.cell? ⟨gb884, 1, none⟩ = some (.slice A0_1 l0_1.length c0_1) := (blk_cell BK884.out 1).trans rfl; have hfz14_0 := blk_frozen BK884.out 0; have hfz14_1 := blk_frozen BK884.out 1) | ((with_reducible refine gate_callee (f := 21) rfl ?_); refine goesL_ (some 21) rfl rfl Try.func21 (by kernel_rfl) rfl #[.agg #[.slice A0_0 l0_0.length c0_0, .slice A0_1 l0_1.length c0_1], .int .i64 1048576] rfl (by (try simp only [List.map_toArray, List.map_cons, List.map_nil]); first | done | rfl | (simp only [List.length_drop, List.length_take]; rfl) | (go_simp; done) | (simp [*]; done)) ?_; (with_reducible refine (laws_szTokens.calls _ _ l0_0 _ _ l0_1 1048576 t885 _ ?side1 ?side2 ?side3 ?side4 A3.out).mono ?_); (case side1 => exact pkC (Kd.C_below HR0_0.out HB.out)); (case side2 => exact HC0_0.out); (case side3 => exact pkC (Kd.C_below HR0_1.out HB.out)); (case side4 => exact HC0_1.out); rintro e w15 ⟨rfl, hb⟩; refine ⟨_, rfl, ?_⟩; have n0_ := Aside0.mk (blk_below (g := gb884) (o := .cells #[.slice A0_0 l0_0.length c0_0, .slice A0_1 l0_1.length c0_1] 30 (0, 0)) (pkK BK884.out) hb); have n1_ := Aside0.mk (below_step (by repeat (first | (with_reducible first | exact HB.out | apply below_alloc | apply pw_below_drewN | apply below_drew1 | refine below_set ?_ GE884.out) | exact HB.out)) hb); clear BK884 HB; have BK884 := n0_; have HB := n1_; clear n0_ n1_; (try clear hb); (try clear hb2); (try clear hk); (try clear hi); have hcz16_0 : w15.cell? ⟨gb884, 0, none⟩ = some (.slice A0_0 l0_0.length c0_0) := (blk_cell BK884.out 0).trans rfl; have hcz16_1 : w15.cell? ⟨gb884, 1, none⟩ = some (.slice A0_1 l0_1.length c0_1) := (blk_cell BK884.out 1).trans rfl; have hfz16_0 := blk_frozen BK884.out 0; have hfz16_1 := blk_frozen BK884.out 1) | ((with_reducible refine gate_callee (f := 23) rfl ?_); refine goesL_ (some 26) rfl rfl Try.func23 (by kernel_rfl) rfl #[.agg #[.slice A0_0 l0_0.length c0_0, .slice A0_1 l0_1.length c0_1]] rfl (by (try simp only [List.map_toArray, List.map_cons, List.map_nil]); first | done | rfl | (simp only [List.length_drop, List.length_take]; rfl) | (go_simp; done) | (simp [*]; done)) ?_; (with_reducible refine (laws_toTokens.calls k _ _ l0_0 _ _ l0_1 t886 t889 _ ?side1 ?side2 ?side3 ?side4 A8.out).mono ?_); (case side1 => exact pkC (Kd.C_below HR0_0.out HB.out)); (case side2 => exact HC0_0.out); (case side3 => exact pkC (Kd.C_below HR0_1.out HB.out)); (case side4 => exact HC0_1.out); rintro e w17 ⟨v887, v890, rfl, ho0, ho1, hb⟩; refine ⟨_, rfl, ?_⟩; have n0_ := Aside0.mk (Kd.R_lower ho0 (below_size (by repeat (first | (with_reducible first | exact HB.out | apply below_alloc | apply pw_below_drewN | apply below_drew1 | refine below_set ?_ GE884.out) | exact HB.out)))); have n1_ := Aside0.mk (Kd.R_lower ho1 (below_size (by repeat (first | (with_reducible first | exact HB.out | apply below_alloc | apply pw_below_drewN | apply below_drew1 | refine below_set ?_ GE884.out) | exact HB.out)))); have n2_ := Aside0.mk (blk_below (g := gb884) (o := .cells #[.slice A0_0 l0_0.length c0_0, .slice A0_1 l0_1.length c0_1] 30 (0, 0)) (pkK BK884.out) hb); have n3_ := Aside0.mk (below_step (by repeat (first | (with_reducible first | exact HB.out | apply below_alloc | apply pw_below_drewN | apply below_drew1 | refine below_set ?_ GE884.out) | exact HB.out)) hb); clear BK884 HB; have HO888 := n0_; have HO891 := n1_; have BK884 := n2_; have HB := n3_; clear n0_ n1_ n2_ n3_; (try clear hb); (try clear hb2); (try clear hk); (try clear hi); (try clear ho0); (try clear ho1); obtain ⟨Ao18, co18, eo18⟩ := Kd.R_slice HO888.out; subst eo18; obtain ⟨Ao19, co19, eo19⟩ := Kd.R_slice HO891.out; subst eo19) | ((with_reducible refine gate_callee (f := 46) rfl ?_); refine goesL_ (some 28) rfl rfl Try.func46 (by kernel_rfl) rfl #[.agg #[.slice Ao18 t886.length co18, .slice Ao19 t889.length co19], .int .i64 a1] rfl (by (try simp only [List.map_toArray, List.map_cons, List.map_nil]); first | done | rfl | (simp only [List.length_drop, List.length_take]; rfl) | (go_simp; done) | (simp [*]; done)) ?_; (with_reducible refine (spec_Cancel.calls k _ _ t886 _ _ t889 a1 t892 t895 t898 t901 _ ?side1 ?side2 ?side3 ?side4 A9.out).mono ?_); (case side1 => exact pkC (Kd.R_reads' HO888.out).2.2); (case side2 => exact (Kd.R_reads' HO888.out).2.1); (case side3 => exact pkC (Kd.R_reads' HO891.out).2.2); (case side4 => exact (Kd.R_reads' HO891.out).2.1); rintro e w20 ⟨v893, v896, v899, rfl, ho0, ho1, ho2, hb⟩; refine ⟨_, rfl, ?_⟩; have n0_ := Aside0.mk (Kd.R_mono (Kd.R_told (Kd.R_told (Kd.R_old (pkR HO888.out) hb) (Kd.R_base ho0)) (Kd.R_base ho2)) (fun _ h_ => h_.1)); have n1_ := Aside0.mk (Kd.R_elder' (pkR HO891.out) (Kd.R_base ho1) hb); have n2_ := Aside0.mk (Kd.R_lower (Kd.R_new' ho0 (Kd.R_lt (pkR HO888.out))) (below_size (by repeat (first | (with_reducible first | exact HB.out | apply below_alloc | apply pw_below_drewN | apply below_drew1 | refine below_set ?_ GE884.out) | exact HB.out)))); have n3_ := Aside0.mk (Kd.R_lower (Kd.R_new' ho1 (Kd.R_lt (pkR HO891.out))) (below_size (by repeat (first | (with_reducible first | exact HB.out | apply below_alloc | apply pw_below_drewN | apply below_drew1 | refine below_set ?_ GE884.out) | exact HB.out)))); have n4_ := Aside0.mk (Kd.R_lower (Kd.R_new' ho2 (Kd.R_lt (pkR HO888.out))) (below_size (by repeat (first | (with_reducible first | exact HB.out | apply below_alloc | apply pw_below_drewN | apply below_drew1 | refine below_set ?_ GE884.out) | exact HB.out)))); have n5_ := Aside0.mk (blk_below (g := gb884) (o := .cells #[.slice A0_0 l0_0.length c0_0, .slice A0_1 l0_1.length c0_1] 30 (0, 0)) (pkK BK884.out) hb); have n6_ := Aside0.mk (below_step (by repeat (first | (with_reducible first | exact HB.out | apply below_alloc | apply pw_below_drewN | apply below_drew1 | refine below_set ?_ GE884.out) | exact HB.out)) hb); clear HO888 HO891 BK884 HB; have HO888 := n0_; have HO891 := n1_; have HO894 := n2_; have HO897 := n3_; have HO900 := n4_; have BK884 := n5_; have HB := n6_; clear n0_ n1_ n2_ n3_ n4_ n5_ n6_; (try clear hb); (try clear hb2); (try clear hk); (try clear hi); (try clear ho0); (try clear ho1); (try clear ho2)) | ((with_reducible refine gate_dst (N := 6) rfl ?_); refine box_event ?hg (N := 6) ?hd (cs := #[.slice none 0 0, .slice none 0 0]) (t := 33) ?hr ?_; (case hd => rfl); (case hg => rfl); (case hr => first | (go_simp; done) | (go_simp; rfl)); intro gb902 hg w21 hbox hb; have n0_ := Aside0.mk (Kd.R_below (pkR HO888.out) hb); have n1_ := Aside0.mk (Kd.R_below (pkR HO891.out) hb); have n2_ := Aside0.mk (Kd.R_below (pkR HO894.out) hb); have n3_ := Aside0.mk (Kd.R_below (pkR HO897.out) hb); have n4_ := Aside0.mk (Kd.R_below (pkR HO900.out) hb); have n5_ := Aside0.mk (blk_below (g := gb884) (o := .cells #[.slice A0_0 l0_0.length c0_0, .slice A0_1 l0_1.length c0_1] 30 (0, 0)) (pkK BK884.out) hb); have n6_ := Aside0.mk (below_step (by repeat (first | (with_reducible first | exact HB.out | apply below_alloc | apply pw_below_drewN | apply below_drew1 | refine below_set ?_ GE884.out) | exact HB.out)) hb); have n7_ := Aside0.mk (hbox); have n8_ := Aside0.mk ((by rw [hg]; exact (below_size (by repeat (first | (with_reducible first | exact HB.out | apply below_alloc | apply pw_below_drewN | apply below_drew1 | refine below_set ?_ GE884.out) | exact HB.out))) : w.heap.size ≤ gb902)); have n9_ := Aside0.mk ((by rw [hg]; exact (below_size (by repeat (first | (with_reducible first | exact HB.out | apply below_alloc | apply pw_below_drewN | apply below_drew1 | refine below_set ?_ GE884.out) | exact HB.out))) : w.heap.size ≤ gb902)); have n10_ := Aside0.mk ((by rw [hg]; exact Nat.ne_of_lt (blk_lt (g := gb884) (o := .cells #[.slice A0_0 l0_0.length c0_0, .slice A0_1 l0_1.length c0_1] 30 (0, 0)) (pkK BK884.out)) : gb884 ≠ gb902)); have n11_ := Aside0.mk ((by rw [hg]; exact Nat.ne_of_gt (blk_lt (g := gb884) (o := .cells #[.slice A0_0 l0_0.length c0_0, .slice A0_1 l0_1.length c0_1] 30 (0, 0)) (pkK BK884.out)) : gb902 ≠ gb884)); clear HO888 HO891 HO894 HO897 HO900 BK884 HB; have HO888 := n0_; have HO891 := n1_; have HO894 := n2_; have HO897 := n3_; have HO900 := n4_; have BK884 := n5_; have HB := n6_; have BK902 := n7_; have GW902 := n8_; have GE902 := n9_; have NB884_902 := n10_; have NB902_884 := n11_; clear n0_ n1_ n2_ n3_ n4_ n5_ n6_ n7_ n8_ n9_ n10_ n11_; clear hb hbox hg; obtain ⟨Ao22, co22, eo22⟩ := Kd.R_slice HO894.out; subst eo22; have hnb23 := NB902_884.out; have hnc23 := NB884_902.out; have hcz24_0 : w21.cell? ⟨gb902, 0, none⟩ = some (.slice none 0 0) := (blk_cell BK902.out 0).trans rfl; have hcz24_1 : w21.cell? ⟨gb902, 1, none⟩ = some (.slice none 0 0) := (blk_cell BK902.out 1).trans rfl; have hfz24_0 := blk_frozen BK902.out 0; have hfz24_1 := blk_frozen BK902.out 1; obtain ⟨Ao25, co25, eo25⟩ := Kd.R_slice HO897.out; subst eo25; have hcz26_0 : w21.cell? ⟨gb884, 0, none⟩ = some (.slice A0_0 l0_0.length c0_0) := (blk_cell BK884.out 0).trans rfl; have hcz26_1 : w21.cell? ⟨gb884, 1, none⟩ = some (.slice A0_1 l0_1.length c0_1) := (blk_cell BK884.out 1).trans rfl; have hfz26_0 := blk_frozen BK884.out 0; have hfz26_1 := blk_frozen BK884.out 1) | ((with_reducible refine gate_callee (f := 23) rfl ?_); refine goesL_ (some 33) rfl rfl Try.func23 (by kernel_rfl) rfl #[.agg #[.slice A0_0 l0_0.length c0_0, .slice A0_1 l0_1.length c0_1]] rfl (by (try simp only [List.map_toArray, List.map_cons, List.map_nil]); first | done | rfl | (simp only [List.length_drop, List.length_take]; rfl) | (go_simp; done) | (simp [*]; done)) ?_; (with_reducible refine (laws_toTokens.calls k _ _ l0_0 _ _ l0_1 t903 t906 _ ?side1 ?side2 ?side3 ?side4 A10.out).mono ?_); (case side1 => exact Kd.C_below HR0_0.out (by repeat (first | (with_reducible first | exact HB.out | apply below_alloc | apply pw_below_drewN | apply below_drew1 | refine below_set ?_ GE884.out | refine below_set ?_ GE902.out) | exact HB.out))); (case side2 => exact HC0_0.out); (case side3 => exact Kd.C_below HR0_1.out (by repeat (first | (with_reducible first | exact HB.out | apply below_alloc | apply pw_below_drewN | apply below_drew1 | refine below_set ?_ GE884.out | refine below_set ?_ GE902.out) | exact HB.out))); (case side4 => exact HC0_1.out); rintro e w27 ⟨v904, v907, rfl, ho0, ho1, hb⟩; refine ⟨_, rfl, ?_⟩; have n0_ := Aside0.mk (Kd.R_elder' (by (with_reducible repeat (first | apply Kd.R_alloc | apply Kd.R_drewN | apply Kd.R_drew)); exact (Kd.R_mono (Kd.R_far (p := ⟨gb902, 1, none⟩) (Kd.R_far (p := ⟨gb902, 0, none⟩) (Kd.R_types HO888.out BK902.out (by decide)) (fun _ hk => hk.2) (.slice Ao22 t892.length co22)) (fun _ hk => hk.2) (.slice Ao25 t895.length co25)) (fun _ h_ => h_.1))) (Kd.R_base ho0) hb); have n1_ := Aside0.mk (Kd.R_elder' (by (with_reducible repeat (first | apply Kd.R_alloc | apply Kd.R_drewN | apply Kd.R_drew)); exact (Kd.R_mono (Kd.R_far (p := ⟨gb902, 1, none⟩) (Kd.R_far (p := ⟨gb902, 0, none⟩) (Kd.R_types HO891.out BK902.out (by decide)) (fun _ hk => hk.2) (.slice Ao22 t892.length co22)) (fun _ hk => hk.2) (.slice Ao25 t895.length co25)) (fun _ h_ => h_.1))) (Kd.R_base ho1) hb); have n2_ := Aside0.mk (Kd.R_elder' (by (with_reducible repeat (first | apply Kd.R_alloc | apply Kd.R_drewN | apply Kd.R_drew)); exact (Kd.R_mono (Kd.R_far (p := ⟨gb902, 1, none⟩) (Kd.R_far (p := ⟨gb902, 0, none⟩) (Kd.R_types HO894.out BK902.out (by decide)) (fun _ hk => hk.2) (.slice Ao22 t892.length co22)) (fun _ hk => hk.2) (.slice Ao25 t895.length co25)) (fun _ h_ => h_.1))) (Kd.R_base ho0) hb); have n3_ := Aside0.mk (Kd.R_elder' (by (with_reducible repeat (first | apply Kd.R_alloc | apply Kd.R_drewN | apply Kd.R_drew)); exact (Kd.R_mono (Kd.R_far (p := ⟨gb902, 1, none⟩) (Kd.R_far (p := ⟨gb902, 0, none⟩) (Kd.R_types HO897.out BK902.out (by decide)) (fun _ hk => hk.2) (.slice Ao22 t892.length co22)) (fun _ hk => hk.2) (.slice Ao25 t895.length co25)) (fun _ h_ => h_.1))) (Kd.R_base ho1) hb); have n4_ := Aside0.mk (Kd.R_elder' (by (with_reducible repeat (first | apply Kd.R_alloc | apply Kd.R_drewN | apply Kd.R_drew)); exact (Kd.R_mono (Kd.R_far (p := ⟨gb902, 1, none⟩) (Kd.R_far (p := ⟨gb902, 0, none⟩) (Kd.R_types HO900.out BK902.out (by decide)) (fun _ hk => hk.2) (.slice Ao22 t892.length co22)) (fun _ hk => hk.2) (.slice Ao25 t895.length co25)) (fun _ h_ => h_.1))) (Kd.R_base ho0) hb); have n5_ := Aside0.mk (Kd.R_lower (Kd.R_new' (Kd.R_new' (Kd.R_new' ho0 (Kd.R_lt (by (with_reducible repeat (first | apply Kd.R_alloc | apply Kd.R_drewN | apply Kd.R_drew)); exact (Kd.R_mono (Kd.R_far (p := ⟨gb902, 1, none⟩) (Kd.R_far (p := ⟨gb902, 0, none⟩) (Kd.R_types HO888.out BK902.out (by decide)) (fun _ hk => hk.2) (.slice Ao22 t892.length co22)) (fun _ hk => hk.2) (.slice Ao25 t895.length co25)) (fun _ h_ => h_.1))))) (Kd.R_lt (by (with_reducible repeat (first | apply Kd.R_alloc | apply Kd.R_drewN | apply Kd.R_drew)); exact (Kd.R_mono (Kd.R_far (p := ⟨gb902, 1, none⟩) (Kd.R_far (p := ⟨gb902, 0, none⟩) (Kd.R_types HO894.out BK902.out (by decide)) (fun _ hk => hk.2) (.slice Ao22 t892.length co22)) (fun _ hk => hk.2) (.slice Ao25 t895.length co25)) (fun _ h_ => h_.1))))) (Kd.R_lt (by (with_reducible repeat (first | apply Kd.R_alloc | apply Kd.R_drewN | apply Kd.R_drew)); exact (Kd.R_mono (Kd.R_far (p := ⟨gb902, 1, none⟩) (Kd.R_far (p := ⟨gb902, 0, none⟩) (Kd.R_types HO900.out BK902.out (by decide)) (fun _ hk => hk.2) (.slice Ao22 t892.length co22)) (fun _ hk => hk.2) (.slice Ao25 t895.length co25)) (fun _ h_ => h_.1))))) (below_size (by repeat (first | (with_reducible first | exact HB.out | apply below_alloc | apply pw_below_drewN | apply below_drew1 | refine below_set ?_ GE884.out | refine below_set ?_ GE902.out) | exact HB.out)))); have n6_ := Aside0.mk (Kd.R_lower (Kd.R_new' (Kd.R_new' ho1 (Kd.R_lt (by (with_reducible repeat (first | apply Kd.R_alloc | apply Kd.R_drewN | apply Kd.R_drew)); exact (Kd.R_mono (Kd.R_far (p := ⟨gb902, 1, none⟩) (Kd.R_far (p := ⟨gb902, 0, none⟩) (Kd.R_types HO891.out BK902.out (by decide)) (fun _ hk => hk.2) (.slice Ao22 t892.length co22)) (fun _ hk => hk.2) (.slice Ao25 t895.length co25)) (fun _ h_ => h_.1))))) (Kd.R_lt (by (with_reducible repeat (first | apply Kd.R_alloc | apply Kd.R_drewN | apply Kd.R_drew)); exact (Kd.R_mono (Kd.R_far (p := ⟨gb902, 1, none⟩) (Kd.R_far (p := ⟨gb902, 0, none⟩) (Kd.R_types HO897.out BK902.out (by decide)) (fun _ hk => hk.2) (.slice Ao22 t892.length co22)) (fun _ hk => hk.2) (.slice Ao25 t895.length co25)) (fun _ h_ => h_.1))))) (below_size (by repeat (first | (with_reducible first | exact HB.out | apply below_alloc | apply pw_below_drewN | apply below_drew1 | refine below_set ?_ GE884.out | refine below_set ?_ GE902.out) | exact HB.out)))); have n7_ := Aside0.mk (blk_below (g := gb884) (o := .cells #[.slice A0_0 l0_0.length c0_0, .slice A0_1 l0_1.length c0_1] 30 (0, 0)) (by (with_reducible repeat (first | refine blk_drewN ?_ _ | refine blk_drew ?_ | refine blk_alloc ?_ _)); refine blk_far ?_ NB884_902.out _; (with_reducible repeat (first | refine blk_drewN ?_ _ | refine blk_drew ?_ | refine blk_alloc ?_ _)); refine blk_far ?_ NB884_902.out _; (with_reducible repeat (first | refine blk_drewN ?_ _ | refine blk_drew ?_ | refine blk_alloc ?_ _)); exact BK884.out) hb); have n8_ := Aside0.mk (blk_below (g := gb902) (o := .cells #[.slice Ao22 t892.length co22, .slice Ao25 t895.length co25] 33 (0, 0)) (by (with_reducible repeat (first | refine blk_drewN ?_ _ | refine blk_drew ?_ | refine blk_alloc ?_ _)); refine blk_put (cs := #[.slice Ao22 t892.length co22, .slice none 0 0]) ?_ 1 _ rfl; (with_reducible repeat (first | refine blk_drewN ?_ _ | refine blk_drew ?_ | refine blk_alloc ?_ _)); refine blk_put (cs := #[.slice none 0 0, .slice none 0 0]) ?_ 0 _ rfl; (with_reducible repeat (first | refine blk_drewN ?_ _ | refine blk_drew ?_ | refine blk_alloc ?_ _)); exact BK902.out) hb); have n9_ := Aside0.mk (below_step (by repeat (first | (with_reducible first | exact HB.out | apply below_alloc | apply pw_below_drewN | apply below_drew1 | refine below_set ?_ GE884.out | refine below_set ?_ GE902.out) | exact HB.out)) hb); clear HO888 HO891 HO894 HO897 HO900 BK884 BK902 HB; have HO888 := n0_; have HO891 := n1_; have HO894 := n2_; have HO897 := n3_; have HO900 := n4_; have HO905 := n5_; have HO908 := n6_; have BK884 := n7_; have BK902 := n8_; have HB := n9_; clear n0_ n1_ n2_ n3_ n4_ n5_ n6_ n7_ n8_ n9_; (try clear hb); (try clear hb2); (try clear hk); (try clear hi); (try clear ho0); (try clear ho1)) | ((with_reducible refine gate_dst (N := 9) rfl ?_); refine box_event ?hg (N := 9) ?hd (cs := #[.slice none 0 0, .slice none 0 0]) (t := 33) ?hr ?_; (case hd => rfl); (case hg => rfl); (case hr => first | (go_simp; done) | (go_simp; rfl)); intro gb909 hg w28 hbox hb; have n0_ := Aside0.mk (Kd.R_below (pkR HO888.out) hb); have n1_ := Aside0.mk (Kd.R_below (pkR HO891.out) hb); have n2_ := Aside0.mk (Kd.R_below (pkR HO894.out) hb); have n3_ := Aside0.mk (Kd.R_below (pkR HO897.out) hb); have n4_ := Aside0.mk (Kd.R_below (pkR HO900.out) hb); have n5_ := Aside0.mk (Kd.R_below (pkR HO905.out) hb); have n6_ := Aside0.mk (Kd.R_below (pkR HO908.out) hb); have n7_ := Aside0.mk (blk_below (g := gb884) (o := .cells #[.slice A0_0 l0_0.length c0_0, .slice A0_1 l0_1.length c0_1] 30 (0, 0)) (pkK BK884.out) hb); have n8_ := Aside0.mk (blk_below (g := gb902) (o := .cells #[.slice Ao22 t892.length co22, .slice Ao25 t895.length co25] 33 (0, 0)) (pkK BK902.out) hb); have n9_ := Aside0.mk (below_step (by repeat (first | (with_reducible first | exact HB.out | apply below_alloc | apply pw_below_drewN | apply below_drew1 | refine below_set ?_ GE884.out | refine below_set ?_ GE902.out) | exact HB.out)) hb); have n10_ := Aside0.mk (hbox); have n11_ := Aside0.mk ((by rw [hg]; exact (below_size (by repeat (first | (with_reducible first | exact HB.out | apply below_alloc | apply pw_below_drewN | apply below_drew1 | refine below_set ?_ GE884.out | refine below_set ?_ GE902.out) | exact HB.out))) : w.heap.size ≤ gb909)); have n12_ := Aside0.mk ((by rw [hg]; exact (below_size (by repeat (first | (with_reducible first | exact HB.out | apply below_alloc | apply pw_below_drewN | apply below_drew1 | refine below_set ?_ GE884.out | refine below_set ?_ GE902.out) | exact HB.out))) : w.heap.size ≤ gb909)); have n13_ := Aside0.mk ((by rw [hg]; exact Nat.ne_of_lt (blk_lt (g := gb884) (o := .cells #[.slice A0_0 l0_0.length c0_0, .slice A0_1 l0_1.length c0_1] 30 (0, 0)) (pkK BK884.out)) : gb884 ≠ gb909)); have n14_ := Aside0.mk ((by rw [hg]; exact Nat.ne_of_gt (blk_lt (g := gb884) (o := .cells #[.slice A0_0 l0_0.length c0_0, .slice A0_1 l0_1.length c0_1] 30 (0, 0)) (pkK BK884.out)) : gb909 ≠ gb884)); have n15_ := Aside0.mk ((by rw [hg]; exact Nat.ne_of_lt (blk_lt (g := gb902) (o := .cells #[.slice Ao22 t892.length co22, .slice Ao25 t895.length co25] 33 (0, 0)) (pkK BK902.out)) : gb902 ≠ gb909)); have n16_ := Aside0.mk ((by rw [hg]; exact Nat.ne_of_gt (blk_lt (g := gb902) (o := .cells #[.slice Ao22 t892.length co22, .slice Ao25 t895.length co25] 33 (0, 0)) (pkK BK902.out)) : gb909 ≠ gb902)); clear HO888 HO891 HO894 HO897 HO900 HO905 HO908 BK884 BK902 HB; have HO888 := n0_; have HO891 := n1_; have HO894 := n2_; have HO897 := n3_; have HO900 := n4_; have HO905 := n5_; have HO908 := n6_; have BK884 := n7_; have BK902 := n8_; have HB := n9_; have BK909 := n10_; have GW909 := n11_; have GE909 := n12_; have NB884_909 := n13_; have NB909_884 := n14_; have NB902_909 := n15_; have NB909_902 := n16_; clear n0_ n1_ n2_ n3_ n4_ n5_ n6_ n7_ n8_ n9_ n10_ n11_ n12_ n13_ n14_ n15_ n16_; clear hb hbox hg; obtain ⟨Ao29, co29, eo29⟩ := Kd.R_slice HO905.out; subst eo29; have hnb30 := NB909_884.out; have hnc30 := NB884_909.out; have hnb31 := NB909_902.out; have hnc31 := NB902_909.out; have hcz32_0 : w28.cell? ⟨gb909, 0, none⟩ = some (.slice none 0 0) := (blk_cell BK909.out 0).trans rfl; have hcz32_1 : w28.cell? ⟨gb909, 1, none⟩ = some (.slice none 0 0) := (blk_cell BK909.out 1).trans rfl; have hfz32_0 := blk_frozen BK909.out 0; have hfz32_1 := blk_frozen BK909.out 1; obtain ⟨Ao33, co33, eo33⟩ := Kd.R_slice HO908.out; subst eo33) | ((with_reducible refine gate_callee (f := 47) rfl ?_); refine goesL_ (some 37) rfl rfl Try.func47 (by kernel_rfl) rfl #[.agg #[.slice Ao29 t903.length co29, .slice Ao33 t906.length co33], .int .i64 a1] rfl (by (try simp only [List.map_toArray, List.map_cons, List.map_nil]); first | done | rfl | (simp only [List.length_drop, List.length_take]; rfl) | (go_simp; done) | (simp [*]; done)) ?_; (with_reducible refine (impl_Cancel.calls k _ _ t903 _ _ t906 a1 t910 t913 t916 t919 _ ?side1 ?side2 ?side3 ?side4 A11.out).mono ?_); (case side1 => refine (Kd.R_reads' (e := 3) (base := w.heap.size) (ok := fun k_ => (((True ∧ some k_ ≠ (.slice Ao18 t886.length co18 : Value).ownBlock) ∧ some k_ ≠ (.slice Ao22 t892.length co22 : Value).ownBlock) ∧ some k_ ≠ (v899 : Value).ownBlock)) (n := t903.length) (c := co29) ?_).2.2; exact (by (with_reducible repeat (first | apply Kd.R_alloc | apply Kd.R_drewN | apply Kd.R_drew)); exact (Kd.R_mono (Kd.R_far (p := ⟨gb909, 1, none⟩) (Kd.R_far (p := ⟨gb909, 0, none⟩) (Kd.R_types HO905.out BK909.out (by decide)) (fun _ hk => hk.2) (.slice Ao29 t903.length co29)) (fun _ hk => hk.2) (.slice Ao33 t906.length co33)) (fun _ h_ => h_.1)))); (case side2 => exact (Kd.R_reads' HO905.out).2.1); (case side3 => refine (Kd.R_reads' (e := 4) (base := w.heap.size) (ok := fun k_ => ((True ∧ some k_ ≠ (.slice Ao19 t889.length co19 : Value).ownBlock) ∧ some k_ ≠ (.slice Ao25 t895.length co25 : Value).ownBlock)) (n := t906.length) (c := co33) ?_).2.2; exact (by (with_reducible repeat (first | apply Kd.R_alloc | apply Kd.R_drewN | apply Kd.R_drew)); exact (Kd.R_mono (Kd.R_far (p := ⟨gb909, 1, none⟩) (Kd.R_far (p := ⟨gb909, 0, none⟩) (Kd.R_types HO908.out BK909.out (by decide)) (fun _ hk => hk.2) (.slice Ao29 t903.length co29)) (fun _ hk => hk.2) (.slice Ao33 t906.length co33)) (fun _ h_ => h_.1)))); (case side4 => exact (Kd.R_reads' HO908.out).2.1); rintro e w34 ⟨v911, v914, v917, rfl, ho0, ho1, ho2, hb⟩; refine ⟨_, rfl, ?_⟩; have n0_ := Aside0.mk (Kd.R_mono (Kd.R_told (Kd.R_told (Kd.R_old (by (with_reducible repeat (first | apply Kd.R_alloc | apply Kd.R_drewN | apply Kd.R_drew)); exact (Kd.R_mono (Kd.R_far (p := ⟨gb909, 1, none⟩) (Kd.R_far (p := ⟨gb909, 0, none⟩) (Kd.R_types HO888.out BK909.out (by decide)) (fun _ hk => hk.2) (.slice Ao29 t903.length co29)) (fun _ hk => hk.2) (.slice Ao33 t906.length co33)) (fun _ h_ => h_.1))) hb) (Kd.R_base ho0)) (Kd.R_base ho2)) (fun _ h_ => h_.1)); have n1_ := Aside0.mk (Kd.R_elder' (by (with_reducible repeat (first | apply Kd.R_alloc | apply Kd.R_drewN | apply Kd.R_drew)); exact (Kd.R_mono (Kd.R_far (p := ⟨gb909, 1, none⟩) (Kd.R_far (p := ⟨gb909, 0, none⟩) (Kd.R_types HO891.out BK909.out (by decide)) (fun _ hk => hk.2) (.slice Ao29 t903.length co29)) (fun _ hk => hk.2) (.slice Ao33 t906.length co33)) (fun _ h_ => h_.1))) (Kd.R_base ho1) hb); have n2_ := Aside0.mk (Kd.R_mono (Kd.R_told (Kd.R_told (Kd.R_old (by (with_reducible repeat (first | apply Kd.R_alloc | apply Kd.R_drewN | apply Kd.R_drew)); exact (Kd.R_mono (Kd.R_far (p := ⟨gb909, 1, none⟩) (Kd.R_far (p := ⟨gb909, 0, none⟩) (Kd.R_types HO894.out BK909.out (by decide)) (fun _ hk => hk.2) (.slice Ao29 t903.length co29)) (fun _ hk => hk.2) (.slice Ao33 t906.length co33)) (fun _ h_ => h_.1))) hb) (Kd.R_base ho0)) (Kd.R_base ho2)) (fun _ h_ => h_.1)); have n3_ := Aside0.mk (Kd.R_elder' (by (with_reducible repeat (first | apply Kd.R_alloc | apply Kd.R_drewN | apply Kd.R_drew)); exact (Kd.R_mono (Kd.R_far (p := ⟨gb909, 1, none⟩) (Kd.R_far (p := ⟨gb909, 0, none⟩) (Kd.R_types HO897.out BK909.out (by decide)) (fun _ hk => hk.2) (.slice Ao29 t903.length co29)) (fun _ hk => hk.2) (.slice Ao33 t906.length co33)) (fun _ h_ => h_.1))) (Kd.R_base ho1) hb); have n4_ := Aside0.mk (Kd.R_mono (Kd.R_told (Kd.R_told (Kd.R_old (by (with_reducible repeat (first | apply Kd.R_alloc | apply Kd.R_drewN | apply Kd.R_drew)); exact (Kd.R_mono (Kd.R_far (p := ⟨gb909, 1, none⟩) (Kd.R_far (p := ⟨gb909, 0, none⟩) (Kd.R_types HO900.out BK909.out (by decide)) (fun _ hk => hk.2) (.slice Ao29 t903.length co29)) (fun _ hk => hk.2) (.slice Ao33 t906.length co33)) (fun _ h_ => h_.1))) hb) (Kd.R_base ho0)) (Kd.R_base ho2)) (fun _ h_ => h_.1)); have n5_ := Aside0.mk (Kd.R_mono (Kd.R_told (Kd.R_told (Kd.R_old (by (with_reducible repeat (first | apply Kd.R_alloc | apply Kd.R_drewN | apply Kd.R_drew)); exact (Kd.R_mono (Kd.R_far (p := ⟨gb909, 1, none⟩) (Kd.R_far (p := ⟨gb909, 0, none⟩) (Kd.R_types HO905.out BK909.out (by decide)) (fun _ hk => hk.2) (.slice Ao29 t903.length co29)) (fun _ hk => hk.2) (.slice Ao33 t906.length co33)) (fun _ h_ => h_.1))) hb) (Kd.R_base ho0)) (Kd.R_base ho2)) (fun _ h_ => h_.1)); have n6_ := Aside0.mk (Kd.R_elder' (by (with_reducible repeat (first | apply Kd.R_alloc | apply Kd.R_drewN | apply Kd.R_drew)); exact (Kd.R_mono (Kd.R_far (p := ⟨gb909, 1, none⟩) (Kd.R_far (p := ⟨gb909, 0, none⟩) (Kd.R_types HO908.out BK909.out (by decide)) (fun _ hk => hk.2) (.slice Ao29 t903.length co29)) (fun _ hk => hk.2) (.slice Ao33 t906.length co33)) (fun _ h_ => h_.1))) (Kd.R_base ho1) hb); have n7_ := Aside0.mk (Kd.R_lower (Kd.R_new' (Kd.R_new' (Kd.R_new' (Kd.R_new' ho0 (Kd.R_lt (by (with_reducible repeat (first | apply Kd.R_alloc | apply Kd.R_drewN | apply Kd.R_drew)); exact (Kd.R_mono (Kd.R_far (p := ⟨gb909, 1, none⟩) (Kd.R_far (p := ⟨gb909, 0, none⟩) (Kd.R_types HO888.out BK909.out (by decide)) (fun _ hk => hk.2) (.slice Ao29 t903.length co29)) (fun _ hk => hk.2) (.slice Ao33 t906.length co33)) (fun _ h_ => h_.1))))) (Kd.R_lt (by (with_reducible repeat (first | apply Kd.R_alloc | apply Kd.R_drewN | apply Kd.R_drew)); exact (Kd.R_mono (Kd.R_far (p := ⟨gb909, 1, none⟩) (Kd.R_far (p := ⟨gb909, 0, none⟩) (Kd.R_types HO894.out BK909.out (by decide)) (fun _ hk => hk.2) (.slice Ao29 t903.length co29)) (fun _ hk => hk.2) (.slice Ao33 t906.length co33)) (fun _ h_ => h_.1))))) (Kd.R_lt (by (with_reducible repeat (first | apply Kd.R_alloc | apply Kd.R_drewN | apply Kd.R_drew)); exact (Kd.R_mono (Kd.R_far (p := ⟨gb909, 1, none⟩) (Kd.R_far (p := ⟨gb909, 0, none⟩) (Kd.R_types HO900.out BK909.out (by decide)) (fun _ hk => hk.2) (.slice Ao29 t903.length co29)) (fun _ hk => hk.2) (.slice Ao33 t906.length co33)) (fun _ h_ => h_.1))))) (Kd.R_lt (by (with_reducible repeat (first | apply Kd.R_alloc | apply Kd.R_drewN | apply Kd.R_drew)); exact (Kd.R_mono (Kd.R_far (p := ⟨gb909, 1, none⟩) (Kd.R_far (p := ⟨gb909, 0, none⟩) (Kd.R_types HO905.out BK909.out (by decide)) (fun _ hk => hk.2) (.slice Ao29 t903.length co29)) (fun _ hk => hk.2) (.slice Ao33 t906.length co33)) (fun _ h_ => h_.1))))) (below_size (by repeat (first | (with_reducible first | exact HB.out | apply below_alloc | apply pw_below_drewN | apply below_drew1 | refine below_set ?_ GE884.out | refine below_set ?_ GE902.out | refine below_set ?_ GE909.out) | exact HB.out)))); have n8_ := Aside0.mk (Kd.R_lower (Kd.R_new' (Kd.R_new' (Kd.R_new' ho1 (Kd.R_lt (by (with_reducible repeat (first | apply Kd.R_alloc | apply Kd.R_drewN | apply Kd.R_drew)); exact (Kd.R_mono (Kd.R_far (p := ⟨gb909, 1, none⟩) (Kd.R_far (p := ⟨gb909, 0, none⟩) (Kd.R_types HO891.out BK909.out (by decide)) (fun _ hk => hk.2) (.slice Ao29 t903.length co29)) (fun _ hk => hk.2) (.slice Ao33 t906.length co33)) (fun _ h_ => h_.1))))) (Kd.R_lt (by (with_reducible repeat (first | apply Kd.R_alloc | apply Kd.R_drewN | apply Kd.R_drew)); exact (Kd.R_mono (Kd.R_far (p := ⟨gb909, 1, none⟩) (Kd.R_far (p := ⟨gb909, 0, none⟩) (Kd.R_types HO897.out BK909.out (by decide)) (fun _ hk => hk.2) (.slice Ao29 t903.length co29)) (fun _ hk => hk.2) (.slice Ao33 t906.length co33)) (fun _ h_ => h_.1))))) (Kd.R_lt (by (with_reducible repeat (first | apply Kd.R_alloc | apply Kd.R_drewN | apply Kd.R_drew)); exact (Kd.R_mono (Kd.R_far (p := ⟨gb909, 1, none⟩) (Kd.R_far (p := ⟨gb909, 0, none⟩) (Kd.R_types HO908.out BK909.out (by decide)) (fun _ hk => hk.2) (.slice Ao29 t903.length co29)) (fun _ hk => hk.2) (.slice Ao33 t906.length co33)) (fun _ h_ => h_.1))))) (below_size (by repeat (first | (with_reducible first | exact HB.out | apply below_alloc | apply pw_below_drewN | apply below_drew1 | refine below_set ?_ GE884.out | refine below_set ?_ GE902.out | refine below_set ?_ GE909.out) | exact HB.out)))); have n9_ := Aside0.mk (Kd.R_lower (Kd.R_new' (Kd.R_new' (Kd.R_new' (Kd.R_new' ho2 (Kd.R_lt (by (with_reducible repeat (first | apply Kd.R_alloc | apply Kd.R_drewN | apply Kd.R_drew)); exact (Kd.R_mono (Kd.R_far (p := ⟨gb909, 1, none⟩) (Kd.R_far (p := ⟨gb909, 0, none⟩) (Kd.R_types HO888.out BK909.out (by decide)) (fun _ hk => hk.2) (.slice Ao29 t903.length co29)) (fun _ hk => hk.2) (.slice Ao33 t906.length co33)) (fun _ h_ => h_.1))))) (Kd.R_lt (by (with_reducible repeat (first | apply Kd.R_alloc | apply Kd.R_drewN | apply Kd.R_drew)); exact (Kd.R_mono (Kd.R_far (p := ⟨gb909, 1, none⟩) (Kd.R_far (p := ⟨gb909, 0, none⟩) (Kd.R_types HO894.out BK909.out (by decide)) (fun _ hk => hk.2) (.slice Ao29 t903.length co29)) (fun _ hk => hk.2) (.slice Ao33 t906.length co33)) (fun _ h_ => h_.1))))) (Kd.R_lt (by (with_reducible repeat (first | apply Kd.R_alloc | apply Kd.R_drewN | apply Kd.R_drew)); exact (Kd.R_mono (Kd.R_far (p := ⟨gb909, 1, none⟩) (Kd.R_far (p := ⟨gb909, 0, none⟩) (Kd.R_types HO900.out BK909.out (by decide)) (fun _ hk => hk.2) (.slice Ao29 t903.length co29)) (fun _ hk => hk.2) (.slice Ao33 t906.length co33)) (fun _ h_ => h_.1))))) (Kd.R_lt (by (with_reducible repeat (first | apply Kd.R_alloc | apply Kd.R_drewN | apply Kd.R_drew)); exact (Kd.R_mono (Kd.R_far (p := ⟨gb909, 1, none⟩) (Kd.R_far (p := ⟨gb909, 0, none⟩) (Kd.R_types HO905.out BK909.out (by decide)) (fun _ hk => hk.2) (.slice Ao29 t903.length co29)) (fun _ hk => hk.2) (.slice Ao33 t906.length co33)) (fun _ h_ => h_.1))))) (below_size (by repeat (first | (with_reducible first | exact HB.out | apply below_alloc | apply pw_below_drewN | apply below_drew1 | refine below_set ?_ GE884.out | refine below_set ?_ GE902.out | refine below_set ?_ GE909.out) | exact HB.out)))); have n10_ := Aside0.mk (blk_below (g := gb884) (o := .cells #[.slice A0_0 l0_0.length c0_0, .slice A0_1 l0_1.length c0_1] 30 (0, 0)) (by (with_reducible repeat (first | refine blk_drewN ?_ _ | refine blk_drew ?_ | refine blk_alloc ?_ _)); refine blk_far ?_ NB884_909.out _; (with_reducible repeat (first | refine blk_drewN ?_ _ | refine blk_drew ?_ | refine blk_alloc ?_ _)); refine blk_far ?_ NB884_909.out _; (with_reducible repeat (first | refine blk_drewN ?_ _ | refine blk_drew ?_ | refine blk_alloc ?_ _)); exact BK884.out) hb); have n11_ := Aside0.mk (blk_below (g := gb902) (o := .cells #[.slice Ao22 t892.length co22, .slice Ao25 t895.length co25] 33 (0, 0)) (by (with_reducible repeat (first | refine blk_drewN ?_ _ | refine blk_drew ?_ | refine blk_alloc ?_ _)); refine blk_far ?_ NB902_909.out _; (with_reducible repeat (first | refine blk_drewN ?_ _ | refine blk_drew ?_ | refine blk_alloc ?_ _)); refine blk_far ?_ NB902_909.out _; (with_reducible repeat (first | refine blk_drewN ?_ _ | refine blk_drew ?_ | refine blk_alloc ?_ _)); exact BK902.out) hb); have n12_ := Aside0.mk (blk_below (g := gb909) (o := .cells #[.slice Ao29 t903.length co29, .slice Ao33 t906.length co33] 33 (0, 0)) (by (with_reducible repeat (first | refine blk_drewN ?_ _ | refine blk_drew ?_ | refine blk_alloc ?_ _)); refine blk_put (cs := #[.slice Ao29 t903.length co29, .slice none 0 0]) ?_ 1 _ rfl; (with_reducible repeat (first | refine blk_drewN ?_ _ | refine blk_drew ?_ | refine blk_alloc ?_ _)); refine blk_put (cs := #[.slice none 0 0, .slice none 0 0]) ?_ 0 _ rfl; (with_reducible repeat (first | refine blk_drewN ?_ _ | refine blk_drew ?_ | refine blk_alloc ?_ _)); exact BK909.out) hb); have n13_ := Aside0.mk (below_step (by repeat (first | (with_reducible first | exact HB.out | apply below_alloc | apply pw_below_drewN | apply below_drew1 | refine below_set ?_ GE884.out | refine below_set ?_ GE902.out | refine below_set ?_ GE909.out) | exact HB.out)) hb); clear HO888 HO891 HO894 HO897 HO900 HO905 HO908 BK884 BK902 BK909 HB; have HO888 := n0_; have HO891 := n1_; have HO894 := n2_; have HO897 := n3_; have HO900 := n4_; have HO905 := n5_; have HO908 := n6_; have HO912 := n7_; have HO915 := n8_; have HO918 := n9_; have BK884 := n10_; have BK902 := n11_; have BK909 := n12_; have HB := n13_; clear n0_ n1_ n2_ n3_ n4_ n5_ n6_ n7_ n8_ n9_ n10_ n11_ n12_ n13_; (try clear hb); (try clear hb2); (try clear hk); (try clear hi); (try clear ho0); (try clear ho1); (try clear ho2)) | ((with_reducible refine gate_dst (N := 10) rfl ?_); refine box_event ?hg (N := 10) ?hd (cs := #[.slice none 0 0, .slice none 0 0]) (t := 33) ?hr ?_; (case hd => rfl); (case hg => rfl); (case hr => first | (go_simp; done) | (go_simp; rfl)); intro gb920 hg w35 hbox hb; have n0_ := Aside0.mk (Kd.R_below (pkR HO888.out) hb); have n1_ := Aside0.mk (Kd.R_below (pkR HO891.out) hb); have n2_ := Aside0.mk (Kd.R_below (pkR HO894.out) hb); have n3_ := Aside0.mk (Kd.R_below (pkR HO897.out) hb); have n4_ := Aside0.mk (Kd.R_below (pkR HO900.out) hb); have n5_ := Aside0.mk (Kd.R_below (pkR HO905.out) hb); have n6_ := Aside0.mk (Kd.R_below (pkR HO908.out) hb); have n7_ := Aside0.mk (Kd.R_below (pkR HO912.out) hb); have n8_ := Aside0.mk (Kd.R_below (pkR HO915.out) hb); have n9_ := Aside0.mk (Kd.R_below (pkR HO918.out) hb); have n10_ := Aside0.mk (blk_below (g := gb884) (o := .cells #[.slice A0_0 l0_0.length c0_0, .slice A0_1 l0_1.length c0_1] 30 (0, 0)) (pkK BK884.out) hb); have n11_ := Aside0.mk (blk_below (g := gb902) (o := .cells #[.slice Ao22 t892.length co22, .slice Ao25 t895.length co25] 33 (0, 0)) (pkK BK902.out) hb); have n12_ := Aside0.mk (blk_below (g := gb909) (o := .cells #[.slice Ao29 t903.length co29, .slice Ao33 t906.length co33] 33 (0, 0)) (pkK BK909.out) hb); have n13_ := Aside0.mk (below_step (by repeat (first | (with_reducible first | exact HB.out | apply below_alloc | apply pw_below_drewN | apply below_drew1 | refine below_set ?_ GE884.out | refine below_set ?_ GE902.out | refine below_set ?_ GE909.out) | exact HB.out)) hb); have n14_ := Aside0.mk (hbox); have n15_ := Aside0.mk ((by rw [hg]; exact (below_size (by repeat (first | (with_reducible first | exact HB.out | apply below_alloc | apply pw_below_drewN | apply below_drew1 | refine below_set ?_ GE884.out | refine below_set ?_ GE902.out | refine below_set ?_ GE909.out) | exact HB.out))) : w.heap.size ≤ gb920)); have n16_ := Aside0.mk ((by rw [hg]; exact (below_size (by repeat (first | (with_reducible first | exact HB.out | apply below_alloc | apply pw_below_drewN | apply below_drew1 | refine below_set ?_ GE884.out | refine below_set ?_ GE902.out | refine below_set ?_ GE909.out) | exact HB.out))) : w.heap.size ≤ gb920)); have n17_ := Aside0.mk ((by rw [hg]; exact Nat.ne_of_lt (blk_lt (g := gb884) (o := .cells #[.slice A0_0 l0_0.length c0_0, .slice A0_1 l0_1.length c0_1] 30 (0, 0)) (pkK BK884.out)) : gb884 ≠ gb920)); have n18_ := Aside0.mk ((by rw [hg]; exact Nat.ne_of_gt (blk_lt (g := gb884) (o := .cells #[.slice A0_0 l0_0.length c0_0, .slice A0_1 l0_1.length c0_1] 30 (0, 0)) (pkK BK884.out)) : gb920 ≠ gb884)); have n19_ := Aside0.mk ((by rw [hg]; exact Nat.ne_of_lt (blk_lt (g := gb902) (o := .cells #[.slice Ao22 t892.length co22, .slice Ao25 t895.length co25] 33 (0, 0)) (pkK BK902.out)) : gb902 ≠ gb920)); have n20_ := Aside0.mk ((by rw [hg]; exact Nat.ne_of_gt (blk_lt (g := gb902) (o := .cells #[.slice Ao22 t892.length co22, .slice Ao25 t895.length co25] 33 (0, 0)) (pkK BK902.out)) : gb920 ≠ gb902)); have n21_ := Aside0.mk ((by rw [hg]; exact Nat.ne_of_lt (blk_lt (g := gb909) (o := .cells #[.slice Ao29 t903.length co29, .slice Ao33 t906.length co33] 33 (0, 0)) (pkK BK909.out)) : gb909 ≠ gb920)); have n22_ := Aside0.mk ((by rw [hg]; exact Nat.ne_of_gt (blk_lt (g := gb909) (o := .cells #[.slice Ao29 t903.length co29, .slice Ao33 t906.length co33] 33 (0, 0)) (pkK BK909.out)) : gb920 ≠ gb909)); clear HO888 HO891 HO894 HO897 HO900 HO905 HO908 HO912 HO915 HO918 BK884 BK902 BK909 HB; have HO888 := n0_; have HO891 := n1_; have HO894 := n2_; have HO897 := n3_; have HO900 := n4_; have HO905 := n5_; have HO908 := n6_; have HO912 := n7_; have HO915 := n8_; have HO918 := n9_; have BK884 := n10_; have BK902 := n11_; have BK909 := n12_; have HB := n13_; have BK920 := n14_; have GW920 := n15_; have GE920 := n16_; have NB884_920 := n17_; have NB920_884 := n18_; have NB902_920 := n19_; have NB920_902 := n20_; have NB909_920 := n21_; have NB920_909 := n22_; clear n0_ n1_ n2_ n3_ n4_ n5_ n6_ n7_ n8_ n9_ n10_ n11_ n12_ n13_ n14_ n15_ n16_ n17_ n18_ n19_ n20_ n21_ n22_; clear hb hbox hg; obtain ⟨Ao36, co36, eo36⟩ := Kd.R_slice HO912.out; subst eo36; have hnb37 := NB920_884.out; have hnc37 := NB884_920.out; have hnb38 := NB920_902.out; have hnc38 := NB902_920.out; have hnb39 := NB920_909.out; have hnc39 := NB909_920.out; have hcz40_0 : w35.cell? ⟨gb920, 0, none⟩ = some (.slice none 0 0) := (blk_cell BK920.out 0).trans rfl; have hcz40_1 : w35.cell? ⟨gb920, 1, none⟩ = some (.slice none 0 0) := (blk_cell BK920.out 1).trans rfl; have hfz40_0 := blk_frozen BK920.out 0; have hfz40_1 := blk_frozen BK920.out 1; obtain ⟨Ao41, co41, eo41⟩ := Kd.R_slice HO915.out; subst eo41))
    (try simp only [Act.put, List.setIfInBounds_toArray, List.set_cons_zero, List.set_cons_succ])
    go_cut [55] (fun v55 wc => ∃ (kq : Nat) (x55_11 : Bool), v55 = .bool x55_11 ∧ Aside0 (laws_FnExactCancel.j0 kq a1 t898 t901 t916 t919 x55_11 l0_0 l0_1 t892 t895 t903 t906 t910 t913 = some r) ∧ Aside0 (kq ≤ k) ∧ Aside0 (Kd.R (Kd.int .i64) 3 wc w.heap.size (fun k_ => some k_ ≠ (v917 : Value).ownBlock ∧ some k_ ≠ ((.slice Ao22 t892.length co22) : Value).ownBlock ∧ some k_ ≠ ((.slice Ao29 t903.length co29) : Value).ownBlock ∧ some k_ ≠ ((.slice Ao36 t910.length co36) : Value).ownBlock) v899 t898) ∧ Aside0 (Kd.R (Kd.int .i64) 3 wc w.heap.size (fun k_ => some k_ ≠ (v899 : Value).ownBlock ∧ some k_ ≠ ((.slice Ao22 t892.length co22) : Value).ownBlock ∧ some k_ ≠ ((.slice Ao29 t903.length co29) : Value).ownBlock ∧ some k_ ≠ ((.slice Ao36 t910.length co36) : Value).ownBlock) v917 t916) ∧ Aside0 (Kd.R (Kd.int .i64) 3 wc w.heap.size (fun k_ => some k_ ≠ (v899 : Value).ownBlock ∧ some k_ ≠ (v917 : Value).ownBlock ∧ some k_ ≠ ((.slice Ao29 t903.length co29) : Value).ownBlock ∧ some k_ ≠ ((.slice Ao36 t910.length co36) : Value).ownBlock) (.slice Ao22 t892.length co22) t892) ∧ Aside0 (Kd.R Kd.bool 4 wc w.heap.size (fun k_ => some k_ ≠ ((.slice Ao33 t906.length co33) : Value).ownBlock ∧ some k_ ≠ ((.slice Ao41 t913.length co41) : Value).ownBlock) (.slice Ao25 t895.length co25) t895) ∧ Aside0 (Kd.R (Kd.int .i64) 3 wc w.heap.size (fun k_ => some k_ ≠ (v899 : Value).ownBlock ∧ some k_ ≠ (v917 : Value).ownBlock ∧ some k_ ≠ ((.slice Ao22 t892.length co22) : Value).ownBlock ∧ some k_ ≠ ((.slice Ao36 t910.length co36) : Value).ownBlock) (.slice Ao29 t903.length co29) t903) ∧ Aside0 (Kd.R Kd.bool 4 wc w.heap.size (fun k_ => some k_ ≠ ((.slice Ao25 t895.length co25) : Value).ownBlock ∧ some k_ ≠ ((.slice Ao41 t913.length co41) : Value).ownBlock) (.slice Ao33 t906.length co33) t906) ∧ Aside0 (Kd.R (Kd.int .i64) 3 wc w.heap.size (fun k_ => some k_ ≠ (v899 : Value).ownBlock ∧ some k_ ≠ (v917 : Value).ownBlock ∧ some k_ ≠ ((.slice Ao22 t892.length co22) : Value).ownBlock ∧ some k_ ≠ ((.slice Ao29 t903.length co29) : Value).ownBlock) (.slice Ao36 t910.length co36) t910) ∧ Aside0 (Kd.R Kd.bool 4 wc w.heap.size (fun k_ => some k_ ≠ ((.slice Ao25 t895.length co25) : Value).ownBlock ∧ some k_ ≠ ((.slice Ao33 t906.length co33) : Value).ownBlock) (.slice Ao41 t913.length co41) t913) ∧ Aside0 (wc.heap[gb884]? = some (.cells #[(.slice A0_0 l0_0.length c0_0), (.slice A0_1 l0_1.length c0_1)] 30 (0, 0))) ∧ Aside0 (wc.heap[gb902]? = some (.cells #[(.slice Ao22 t892.length co22), (.slice Ao25 t895.length co25)] 33 (0, 0))) ∧ Aside0 (wc.heap[gb909]? = some (.cells #[(.slice Ao29 t903.length co29), (.slice Ao33 t906.length co33)] 33 (0, 0))) ∧ Aside0 (wc.heap[gb920]? = some (.cells #[(.slice Ao36 t910.length co36), (.slice Ao41 t913.length co41)] 33 (0, 0))) ∧ Aside0 (Below w.heap.size w wc))
    case first =>
      have H := HC12.out
      clear HC12
      replace H := Option.bind_eq_some_iff.mp H
      obtain ⟨t921, A420, H⟩ := H
      replace H : (if t921 = true then ((laws_eqIntS.f k t916 t898).bind fun t922 => (if t922 = true then (laws_FnExactCancel.j0 k a1 t898 t901 t916 t919 (t919 != t901) l0_0 l0_1 t892 t895 t903 t906 t910 t913) else (laws_FnExactCancel.j0 k a1 t898 t901 t916 t919 true l0_0 l0_1 t892 t895 t903 t906 t910 t913))) else (laws_FnExactCancel.j0 k a1 t898 t901 t916 t919 true l0_0 l0_1 t892 t895 t903 t906 t910 t913)) = some r := H
      have A42 := Aside0.mk A420
      clear A420
      by_cases c43 : t921 = true
      · subst c43
        have H1 : ((laws_eqIntS.f k t916 t898).bind fun t922 => (if t922 = true then (laws_FnExactCancel.j0 k a1 t898 t901 t916 t919 (t919 != t901) l0_0 l0_1 t892 t895 t903 t906 t910 t913) else (laws_FnExactCancel.j0 k a1 t898 t901 t916 t919 true l0_0 l0_1 t892 t895 t903 t906 t910 t913))) = some r := by rw [if_pos rfl] at H; exact H
        clear H
        have H := H1
        clear H1
        replace H := Option.bind_eq_some_iff.mp H
        obtain ⟨t922, A440, H⟩ := H
        replace H : (if t922 = true then (laws_FnExactCancel.j0 k a1 t898 t901 t916 t919 (t919 != t901) l0_0 l0_1 t892 t895 t903 t906 t910 t913) else (laws_FnExactCancel.j0 k a1 t898 t901 t916 t919 true l0_0 l0_1 t892 t895 t903 t906 t910 t913)) = some r := H
        have A44 := Aside0.mk A440
        clear A440
        by_cases c45 : t922 = true
        · subst c45
          have H1 : (laws_FnExactCancel.j0 k a1 t898 t901 t916 t919 (t919 != t901) l0_0 l0_1 t892 t895 t903 t906 t910 t913) = some r := by rw [if_pos rfl] at H; exact H
          clear H
          have H := H1
          clear H1
          have H' := Aside0.mk H
          clear H
          have hnb46 := NB920_884.out
          have hnc46 := NB884_920.out
          have hnb47 := NB920_902.out
          have hnc47 := NB902_920.out
          have hnb48 := NB920_909.out
          have hnc48 := NB909_920.out
          have hcz49_0 : w35.cell? ⟨gb920, 0, none⟩ = some (.slice none 0 0) := (blk_cell BK920.out 0).trans rfl
          have hcz49_1 : w35.cell? ⟨gb920, 1, none⟩ = some (.slice none 0 0) := (blk_cell BK920.out 1).trans rfl
          have hfz49_0 := blk_frozen BK920.out 0
          have hfz49_1 := blk_frozen BK920.out 1
          have hnb50 := NB902_884.out
          have hnc50 := NB884_902.out
          have hnb51 := NB902_909.out
          have hnc51 := NB909_902.out
          have hcz52_0 : w35.cell? ⟨gb902, 0, none⟩ = some (.slice Ao22 t892.length co22) := (blk_cell BK902.out 0).trans rfl
          have hcz52_1 : w35.cell? ⟨gb902, 1, none⟩ = some (.slice Ao25 t895.length co25) := (blk_cell BK902.out 1).trans rfl
          have hfz52_0 := blk_frozen BK902.out 0
          have hfz52_1 := blk_frozen BK902.out 1
          go_wp2_with (first | ((with_reducible refine gate_callee (f := 25) rfl ?_); refine goesL_ (some 43) rfl rfl Try.func25 (by kernel_rfl) rfl #[.agg #[.slice Ao36 t910.length co36, .slice Ao41 t913.length co41], .agg #[.slice Ao22 t892.length co22, .slice Ao25 t895.length co25]] rfl (by (try simp only [List.map_toArray, List.map_cons, List.map_nil]); first | done | rfl | (simp only [List.length_drop, List.length_take]; rfl) | (go_simp; done) | (simp [*]; done)) ?_; (with_reducible refine (laws_eqTokens.calls k _ _ t910 _ _ t913 _ _ t892 _ _ t895 true _ ?side1 ?side2 ?side3 ?side4 ?side5 ?side6 ?side7 ?side8 A42.out).mono ?_); (case side1 => refine (Kd.R_reads' (e := 3) (base := w.heap.size) (ok := fun k_ => ((((some k_ ≠ (v917 : Value).ownBlock ∧ some k_ ≠ (.slice Ao18 t886.length co18 : Value).ownBlock) ∧ some k_ ≠ (.slice Ao22 t892.length co22 : Value).ownBlock) ∧ some k_ ≠ (v899 : Value).ownBlock) ∧ some k_ ≠ (.slice Ao29 t903.length co29 : Value).ownBlock)) (n := t910.length) (c := co36) ?_).2.2; exact (by (with_reducible repeat (first | apply Kd.R_alloc | apply Kd.R_drewN | apply Kd.R_drew)); exact (Kd.R_mono (Kd.R_far (p := ⟨gb920, 1, none⟩) (Kd.R_far (p := ⟨gb920, 0, none⟩) (Kd.R_types HO912.out BK920.out (by decide)) (fun _ hk => hk.2) (.slice Ao36 t910.length co36)) (fun _ hk => hk.2) (.slice Ao41 t913.length co41)) (fun _ h_ => h_.1)))); (case side2 => exact (Kd.R_reads' HO912.out).2.1); (case side3 => refine (Kd.R_reads' (e := 4) (base := w.heap.size) (ok := fun k_ => (((True ∧ some k_ ≠ (.slice Ao19 t889.length co19 : Value).ownBlock) ∧ some k_ ≠ (.slice Ao25 t895.length co25 : Value).ownBlock) ∧ some k_ ≠ (.slice Ao33 t906.length co33 : Value).ownBlock)) (n := t913.length) (c := co41) ?_).2.2; exact (by (with_reducible repeat (first | apply Kd.R_alloc | apply Kd.R_drewN | apply Kd.R_drew)); exact (Kd.R_mono (Kd.R_far (p := ⟨gb920, 1, none⟩) (Kd.R_far (p := ⟨gb920, 0, none⟩) (Kd.R_types HO915.out BK920.out (by decide)) (fun _ hk => hk.2) (.slice Ao36 t910.length co36)) (fun _ hk => hk.2) (.slice Ao41 t913.length co41)) (fun _ h_ => h_.1)))); (case side4 => exact (Kd.R_reads' HO915.out).2.1); (case side5 => refine (Kd.R_reads' (e := 3) (base := w.heap.size) (ok := fun k_ => ((((some k_ ≠ (v899 : Value).ownBlock ∧ some k_ ≠ (.slice Ao18 t886.length co18 : Value).ownBlock) ∧ some k_ ≠ (.slice Ao29 t903.length co29 : Value).ownBlock) ∧ some k_ ≠ (.slice Ao36 t910.length co36 : Value).ownBlock) ∧ some k_ ≠ (v917 : Value).ownBlock)) (n := t892.length) (c := co22) ?_).2.2; exact (by (with_reducible repeat (first | apply Kd.R_alloc | apply Kd.R_drewN | apply Kd.R_drew)); exact (Kd.R_mono (Kd.R_far (p := ⟨gb920, 1, none⟩) (Kd.R_far (p := ⟨gb920, 0, none⟩) (Kd.R_types HO894.out BK920.out (by decide)) (fun _ hk => hk.2) (.slice Ao36 t910.length co36)) (fun _ hk => hk.2) (.slice Ao41 t913.length co41)) (fun _ h_ => h_.1)))); (case side6 => exact (Kd.R_reads' HO894.out).2.1); (case side7 => refine (Kd.R_reads' (e := 4) (base := w.heap.size) (ok := fun k_ => (((True ∧ some k_ ≠ (.slice Ao19 t889.length co19 : Value).ownBlock) ∧ some k_ ≠ (.slice Ao33 t906.length co33 : Value).ownBlock) ∧ some k_ ≠ (.slice Ao41 t913.length co41 : Value).ownBlock)) (n := t895.length) (c := co25) ?_).2.2; exact (by (with_reducible repeat (first | apply Kd.R_alloc | apply Kd.R_drewN | apply Kd.R_drew)); exact (Kd.R_mono (Kd.R_far (p := ⟨gb920, 1, none⟩) (Kd.R_far (p := ⟨gb920, 0, none⟩) (Kd.R_types HO897.out BK920.out (by decide)) (fun _ hk => hk.2) (.slice Ao36 t910.length co36)) (fun _ hk => hk.2) (.slice Ao41 t913.length co41)) (fun _ h_ => h_.1)))); (case side8 => exact (Kd.R_reads' HO897.out).2.1); rintro e w53 ⟨rfl, hb⟩; refine ⟨_, rfl, ?_⟩; have n0_ := Aside0.mk (Kd.R_below (by (with_reducible repeat (first | apply Kd.R_alloc | apply Kd.R_drewN | apply Kd.R_drew)); exact (Kd.R_mono (Kd.R_far (p := ⟨gb920, 1, none⟩) (Kd.R_far (p := ⟨gb920, 0, none⟩) (Kd.R_types HO888.out BK920.out (by decide)) (fun _ hk => hk.2) (.slice Ao36 t910.length co36)) (fun _ hk => hk.2) (.slice Ao41 t913.length co41)) (fun _ h_ => h_.1))) hb); have n1_ := Aside0.mk (Kd.R_below (by (with_reducible repeat (first | apply Kd.R_alloc | apply Kd.R_drewN | apply Kd.R_drew)); exact (Kd.R_mono (Kd.R_far (p := ⟨gb920, 1, none⟩) (Kd.R_far (p := ⟨gb920, 0, none⟩) (Kd.R_types HO891.out BK920.out (by decide)) (fun _ hk => hk.2) (.slice Ao36 t910.length co36)) (fun _ hk => hk.2) (.slice Ao41 t913.length co41)) (fun _ h_ => h_.1))) hb); have n2_ := Aside0.mk (Kd.R_below (by (with_reducible repeat (first | apply Kd.R_alloc | apply Kd.R_drewN | apply Kd.R_drew)); exact (Kd.R_mono (Kd.R_far (p := ⟨gb920, 1, none⟩) (Kd.R_far (p := ⟨gb920, 0, none⟩) (Kd.R_types HO894.out BK920.out (by decide)) (fun _ hk => hk.2) (.slice Ao36 t910.length co36)) (fun _ hk => hk.2) (.slice Ao41 t913.length co41)) (fun _ h_ => h_.1))) hb); have n3_ := Aside0.mk (Kd.R_below (by (with_reducible repeat (first | apply Kd.R_alloc | apply Kd.R_drewN | apply Kd.R_drew)); exact (Kd.R_mono (Kd.R_far (p := ⟨gb920, 1, none⟩) (Kd.R_far (p := ⟨gb920, 0, none⟩) (Kd.R_types HO897.out BK920.out (by decide)) (fun _ hk => hk.2) (.slice Ao36 t910.length co36)) (fun _ hk => hk.2) (.slice Ao41 t913.length co41)) (fun _ h_ => h_.1))) hb); have n4_ := Aside0.mk (Kd.R_below (by (with_reducible repeat (first | apply Kd.R_alloc | apply Kd.R_drewN | apply Kd.R_drew)); exact (Kd.R_mono (Kd.R_far (p := ⟨gb920, 1, none⟩) (Kd.R_far (p := ⟨gb920, 0, none⟩) (Kd.R_types HO900.out BK920.out (by decide)) (fun _ hk => hk.2) (.slice Ao36 t910.length co36)) (fun _ hk => hk.2) (.slice Ao41 t913.length co41)) (fun _ h_ => h_.1))) hb); have n5_ := Aside0.mk (Kd.R_below (by (with_reducible repeat (first | apply Kd.R_alloc | apply Kd.R_drewN | apply Kd.R_drew)); exact (Kd.R_mono (Kd.R_far (p := ⟨gb920, 1, none⟩) (Kd.R_far (p := ⟨gb920, 0, none⟩) (Kd.R_types HO905.out BK920.out (by decide)) (fun _ hk => hk.2) (.slice Ao36 t910.length co36)) (fun _ hk => hk.2) (.slice Ao41 t913.length co41)) (fun _ h_ => h_.1))) hb); have n6_ := Aside0.mk (Kd.R_below (by (with_reducible repeat (first | apply Kd.R_alloc | apply Kd.R_drewN | apply Kd.R_drew)); exact (Kd.R_mono (Kd.R_far (p := ⟨gb920, 1, none⟩) (Kd.R_far (p := ⟨gb920, 0, none⟩) (Kd.R_types HO908.out BK920.out (by decide)) (fun _ hk => hk.2) (.slice Ao36 t910.length co36)) (fun _ hk => hk.2) (.slice Ao41 t913.length co41)) (fun _ h_ => h_.1))) hb); have n7_ := Aside0.mk (Kd.R_below (by (with_reducible repeat (first | apply Kd.R_alloc | apply Kd.R_drewN | apply Kd.R_drew)); exact (Kd.R_mono (Kd.R_far (p := ⟨gb920, 1, none⟩) (Kd.R_far (p := ⟨gb920, 0, none⟩) (Kd.R_types HO912.out BK920.out (by decide)) (fun _ hk => hk.2) (.slice Ao36 t910.length co36)) (fun _ hk => hk.2) (.slice Ao41 t913.length co41)) (fun _ h_ => h_.1))) hb); have n8_ := Aside0.mk (Kd.R_below (by (with_reducible repeat (first | apply Kd.R_alloc | apply Kd.R_drewN | apply Kd.R_drew)); exact (Kd.R_mono (Kd.R_far (p := ⟨gb920, 1, none⟩) (Kd.R_far (p := ⟨gb920, 0, none⟩) (Kd.R_types HO915.out BK920.out (by decide)) (fun _ hk => hk.2) (.slice Ao36 t910.length co36)) (fun _ hk => hk.2) (.slice Ao41 t913.length co41)) (fun _ h_ => h_.1))) hb); have n9_ := Aside0.mk (Kd.R_below (by (with_reducible repeat (first | apply Kd.R_alloc | apply Kd.R_drewN | apply Kd.R_drew)); exact (Kd.R_mono (Kd.R_far (p := ⟨gb920, 1, none⟩) (Kd.R_far (p := ⟨gb920, 0, none⟩) (Kd.R_types HO918.out BK920.out (by decide)) (fun _ hk => hk.2) (.slice Ao36 t910.length co36)) (fun _ hk => hk.2) (.slice Ao41 t913.length co41)) (fun _ h_ => h_.1))) hb); have n10_ := Aside0.mk (blk_below (g := gb884) (o := .cells #[.slice A0_0 l0_0.length c0_0, .slice A0_1 l0_1.length c0_1] 30 (0, 0)) (by (with_reducible repeat (first | refine blk_drewN ?_ _ | refine blk_drew ?_ | refine blk_alloc ?_ _)); refine blk_far ?_ NB884_920.out _; (with_reducible repeat (first | refine blk_drewN ?_ _ | refine blk_drew ?_ | refine blk_alloc ?_ _)); refine blk_far ?_ NB884_920.out _; (with_reducible repeat (first | refine blk_drewN ?_ _ | refine blk_drew ?_ | refine blk_alloc ?_ _)); exact BK884.out) hb); have n11_ := Aside0.mk (blk_below (g := gb902) (o := .cells #[.slice Ao22 t892.length co22, .slice Ao25 t895.length co25] 33 (0, 0)) (by (with_reducible repeat (first | refine blk_drewN ?_ _ | refine blk_drew ?_ | refine blk_alloc ?_ _)); refine blk_far ?_ NB902_920.out _; (with_reducible repeat (first | refine blk_drewN ?_ _ | refine blk_drew ?_ | refine blk_alloc ?_ _)); refine blk_far ?_ NB902_920.out _; (with_reducible repeat (first | refine blk_drewN ?_ _ | refine blk_drew ?_ | refine blk_alloc ?_ _)); exact BK902.out) hb); have n12_ := Aside0.mk (blk_below (g := gb909) (o := .cells #[.slice Ao29 t903.length co29, .slice Ao33 t906.length co33] 33 (0, 0)) (by (with_reducible repeat (first | refine blk_drewN ?_ _ | refine blk_drew ?_ | refine blk_alloc ?_ _)); refine blk_far ?_ NB909_920.out _; (with_reducible repeat (first | refine blk_drewN ?_ _ | refine blk_drew ?_ | refine blk_alloc ?_ _)); refine blk_far ?_ NB909_920.out _; (with_reducible repeat (first | refine blk_drewN ?_ _ | refine blk_drew ?_ | refine blk_alloc ?_ _)); exact BK909.out) hb); have n13_ := Aside0.mk (blk_below (g := gb920) (o := .cells #[.slice Ao36 t910.length co36, .slice Ao41 t913.length co41] 33 (0, 0)) (by (with_reducible repeat (first | refine blk_drewN ?_ _ | refine blk_drew ?_ | refine blk_alloc ?_ _)); refine blk_put (cs := #[.slice Ao36 t910.length co36, .slice none 0 0]) ?_ 1 _ rfl; (with_reducible repeat (first | refine blk_drewN ?_ _ | refine blk_drew ?_ | refine blk_alloc ?_ _)); refine blk_put (cs := #[.slice none 0 0, .slice none 0 0]) ?_ 0 _ rfl; (with_reducible repeat (first | refine blk_drewN ?_ _ | refine blk_drew ?_ | refine blk_alloc ?_ _)); exact BK920.out) hb); have n14_ := Aside0.mk (below_step (by repeat (first | (with_reducible first | exact HB.out | apply below_alloc | apply pw_below_drewN | apply below_drew1 | refine below_set ?_ GE884.out | refine below_set ?_ GE902.out | refine below_set ?_ GE909.out | refine below_set ?_ GE920.out) | exact HB.out)) hb); clear HO888 HO891 HO894 HO897 HO900 HO905 HO908 HO912 HO915 HO918 BK884 BK902 BK909 BK920 HB; have HO888 := n0_; have HO891 := n1_; have HO894 := n2_; have HO897 := n3_; have HO900 := n4_; have HO905 := n5_; have HO908 := n6_; have HO912 := n7_; have HO915 := n8_; have HO918 := n9_; have BK884 := n10_; have BK902 := n11_; have BK909 := n12_; have BK920 := n13_; have HB := n14_; clear n0_ n1_ n2_ n3_ n4_ n5_ n6_ n7_ n8_ n9_ n10_ n11_ n12_ n13_ n14_; (try clear hb); (try clear hb2); (try clear hk); (try clear hi); obtain ⟨Ao54, co54, eo54⟩ := Kd.R_slice HO918.out; subst eo54; obtain ⟨Ao55, co55, eo55⟩ := Kd.R_slice HO900.out; subst eo55) | (go_at_call 18; (with_reducible refine (laws_eqIntS.calls k _ _ t916 _ _ t898 true _ ?side1 ?side2 ?side3 ?side4 A44.out).mono ?_); (case side1 => exact pkC (Kd.R_reads' HO918.out).2.2); (case side2 => exact (Kd.R_reads' HO918.out).2.1); (case side3 => exact pkC (Kd.R_reads' HO900.out).2.2); (case side4 => exact (Kd.R_reads' HO900.out).2.1); rintro e w' ⟨rfl, ⟨nd, rfl⟩⟩))
          go_meet
          case rel => exact ⟨_, ((t919 != t901)), (by first | rfl | (simp; done) | (simp [*]; done)), H', ⟨by first | omega | exact Nat.le_refl _⟩, ⟨by (with_reducible repeat (first | apply Kd.R_alloc | apply Kd.R_drewN | apply Kd.R_drew)); exact Kd.R_mono HO900.out (fun _ hk => ⟨hk.2, ⟨hk.1.1.1.1, ⟨hk.1.1.2, hk.1.2⟩⟩⟩)⟩, ⟨by (with_reducible repeat (first | apply Kd.R_alloc | apply Kd.R_drewN | apply Kd.R_drew)); exact Kd.R_mono HO918.out (fun _ hk => ⟨hk.1.2, ⟨hk.1.1.2, ⟨hk.2, hk.1.1.1.1⟩⟩⟩)⟩, ⟨by (with_reducible repeat (first | apply Kd.R_alloc | apply Kd.R_drewN | apply Kd.R_drew)); exact Kd.R_mono HO894.out (fun _ hk => ⟨hk.1.1.1.1, ⟨hk.2, ⟨hk.1.1.2, hk.1.2⟩⟩⟩)⟩, ⟨by (with_reducible repeat (first | apply Kd.R_alloc | apply Kd.R_drewN | apply Kd.R_drew)); exact Kd.R_mono HO897.out (fun _ hk => ⟨hk.1.2, hk.2⟩)⟩, ⟨by (with_reducible repeat (first | apply Kd.R_alloc | apply Kd.R_drewN | apply Kd.R_drew)); exact Kd.R_mono HO905.out (fun _ hk => ⟨hk.1.1.2, ⟨hk.2, ⟨hk.1.1.1.2, hk.1.2⟩⟩⟩)⟩, ⟨by (with_reducible repeat (first | apply Kd.R_alloc | apply Kd.R_drewN | apply Kd.R_drew)); exact Kd.R_mono HO908.out (fun _ hk => ⟨hk.1.2, hk.2⟩)⟩, ⟨by (with_reducible repeat (first | apply Kd.R_alloc | apply Kd.R_drewN | apply Kd.R_drew)); exact Kd.R_mono HO912.out (fun _ hk => ⟨hk.1.2, ⟨hk.1.1.1.1, ⟨hk.1.1.2, hk.2⟩⟩⟩)⟩, ⟨by (with_reducible repeat (first | apply Kd.R_alloc | apply Kd.R_drewN | apply Kd.R_drew)); exact Kd.R_mono HO915.out (fun _ hk => ⟨hk.1.2, hk.2⟩)⟩, ⟨pkK BK884.out⟩, ⟨pkK BK902.out⟩, ⟨pkK BK909.out⟩, ⟨pkK BK920.out⟩, ⟨by repeat (first | (with_reducible first | exact HB.out | apply below_alloc | apply pw_below_drewN | apply below_drew1 | refine below_set ?_ GE884.out | refine below_set ?_ GE902.out | refine below_set ?_ GE909.out | refine below_set ?_ GE920.out) | exact HB.out)⟩⟩
        · replace c45 := Bool.eq_false_iff.mpr c45
          subst c45
          have H1 : (laws_FnExactCancel.j0 k a1 t898 t901 t916 t919 true l0_0 l0_1 t892 t895 t903 t906 t910 t913) = some r := by rw [if_neg (show ¬ (false = true) by decide)] at H; exact H
          clear H
          have H := H1
          clear H1
          cases k with
          | zero => exact absurd H (by simp [laws_FnExactCancel.j0])
          | succ k_ => (simp only [laws_FnExactCancel.j0, if_pos] at H; exact absurd (Option.some.inj H) (by rw [HQ_.out]; simp))
      · replace c43 := Bool.eq_false_iff.mpr c43
        subst c43
        have H1 : (laws_FnExactCancel.j0 k a1 t898 t901 t916 t919 true l0_0 l0_1 t892 t895 t903 t906 t910 t913) = some r := by rw [if_neg (show ¬ (false = true) by decide)] at H; exact H
        clear H
        have H := H1
        clear H1
        cases k with
        | zero => exact absurd H (by simp [laws_FnExactCancel.j0])
        | succ k_ => (simp only [laws_FnExactCancel.j0, if_pos] at H; exact absurd (Option.some.inj H) (by rw [HQ_.out]; simp))
    case rest =>
      clear HC12
      try clear c1
      try clear c2
      try clear p2
      try clear c3
      try clear c4
      try clear c4b0
      try clear c5
      try clear c13
      try clear c21
      try clear c23
      try clear c25
      try clear c30
      try clear c31
      try clear c37
      try clear c38
      try clear c39
      try clear c43
      try clear c45
      try clear c46
      try clear c47
      try clear c48
      try clear c50
      try clear c51
      try clear hcz14_0
      try clear hcz14_1
      try clear hcz16_0
      try clear hcz16_1
      try clear hcz24_0
      try clear hcz24_1
      try clear hcz26_0
      try clear hcz26_1
      try clear hcz32_0
      try clear hcz32_1
      try clear hcz40_0
      try clear hcz40_1
      try clear hcz49_0
      try clear hcz49_1
      try clear hcz52_0
      try clear hcz52_1
      try clear hcz6_0
      try clear hcz6_1
      try clear hfz14_0
      try clear hfz14_1
      try clear hfz16_0
      try clear hfz16_1
      try clear hfz24_0
      try clear hfz24_1
      try clear hfz26_0
      try clear hfz26_1
      try clear hfz32_0
      try clear hfz32_1
      try clear hfz40_0
      try clear hfz40_1
      try clear hfz49_0
      try clear hfz49_1
      try clear hfz52_0
      try clear hfz52_1
      try clear hfz6_0
      try clear hfz6_1
      obtain ⟨kq, x55_11, rfl, HA, HJ11, HO_7, HO_11, HO_903000, HO_903001, HO_910000, HO_910001, HO_921000, HO_921001, BK884, BK902, BK909, BK920, HB⟩ := hcut
      cases kq with
      | zero => exact absurd HA.out (by simp [laws_FnExactCancel.j0])
      | succ kj11 =>
        have H := HA.out
        clear HA
        simp only [laws_FnExactCancel.j0] at H
        by_cases c56 : x55_11 = true
        · subst c56
          have H1 : (some false) = some r := by rw [if_pos rfl] at H; exact H
          clear H
          have H := H1
          clear H1
          exact absurd (Option.some.inj H) (by rw [HQ_.out]; simp)
        · replace c56 := Bool.eq_false_iff.mpr c56
          subst c56
          have H1 : ((laws_toTokens.f kj11 l0_0 l0_1).bind fun bt923 => ((laws_eqTokens.f kj11 t903 t906 bt923.1 bt923.2).bind fun t929 => (if t929 = true then ((laws_markTokens.f kj11 t903 t906 1).bind fun bt930 => (if bt930.1 < 0 then (laws_FnExactCancel.j1 kj11 a1 t898 t901 t916 true l0_0 l0_1 t892 t895 t910 t913) else ((laws_eqTokens.f kj11 t910 t913 t892 t895).bind fun t933 => (if t933 = true then ((laws_eqIntS.f kj11 t916 t898).bind fun t934 => (if t934 = true then (laws_FnExactCancel.j1 kj11 a1 t898 t901 t916 (t919 != t901) l0_0 l0_1 t892 t895 t910 t913) else (laws_FnExactCancel.j1 kj11 a1 t898 t901 t916 true l0_0 l0_1 t892 t895 t910 t913))) else (laws_FnExactCancel.j1 kj11 a1 t898 t901 t916 true l0_0 l0_1 t892 t895 t910 t913))))) else (some false)))) = some r := by rw [if_neg (show ¬ (false = true) by decide)] at H; exact H
          clear H
          have H := H1
          clear H1
          replace H := Option.bind_eq_some_iff.mp H
          obtain ⟨⟨t923, t926⟩, A570, H⟩ := H
          replace H : ((laws_eqTokens.f kj11 t903 t906 t923 t926).bind fun t929 => (if t929 = true then ((laws_markTokens.f kj11 t903 t906 1).bind fun bt930 => (if bt930.1 < 0 then (laws_FnExactCancel.j1 kj11 a1 t898 t901 t916 true l0_0 l0_1 t892 t895 t910 t913) else ((laws_eqTokens.f kj11 t910 t913 t892 t895).bind fun t933 => (if t933 = true then ((laws_eqIntS.f kj11 t916 t898).bind fun t934 => (if t934 = true then (laws_FnExactCancel.j1 kj11 a1 t898 t901 t916 (t919 != t901) l0_0 l0_1 t892 t895 t910 t913) else (laws_FnExactCancel.j1 kj11 a1 t898 t901 t916 true l0_0 l0_1 t892 t895 t910 t913))) else (laws_FnExactCancel.j1 kj11 a1 t898 t901 t916 true l0_0 l0_1 t892 t895 t910 t913))))) else (some false))) = some r := H
          have A57 := Aside0.mk A570
          clear A570
          replace H := Option.bind_eq_some_iff.mp H
          obtain ⟨t929, A580, H⟩ := H
          replace H : (if t929 = true then ((laws_markTokens.f kj11 t903 t906 1).bind fun bt930 => (if bt930.1 < 0 then (laws_FnExactCancel.j1 kj11 a1 t898 t901 t916 true l0_0 l0_1 t892 t895 t910 t913) else ((laws_eqTokens.f kj11 t910 t913 t892 t895).bind fun t933 => (if t933 = true then ((laws_eqIntS.f kj11 t916 t898).bind fun t934 => (if t934 = true then (laws_FnExactCancel.j1 kj11 a1 t898 t901 t916 (t919 != t901) l0_0 l0_1 t892 t895 t910 t913) else (laws_FnExactCancel.j1 kj11 a1 t898 t901 t916 true l0_0 l0_1 t892 t895 t910 t913))) else (laws_FnExactCancel.j1 kj11 a1 t898 t901 t916 true l0_0 l0_1 t892 t895 t910 t913))))) else (some false)) = some r := H
          have A58 := Aside0.mk A580
          clear A580
          by_cases c59 : t929 = true
          · subst c59
            have H1 : ((laws_markTokens.f kj11 t903 t906 1).bind fun bt930 => (if bt930.1 < 0 then (laws_FnExactCancel.j1 kj11 a1 t898 t901 t916 true l0_0 l0_1 t892 t895 t910 t913) else ((laws_eqTokens.f kj11 t910 t913 t892 t895).bind fun t933 => (if t933 = true then ((laws_eqIntS.f kj11 t916 t898).bind fun t934 => (if t934 = true then (laws_FnExactCancel.j1 kj11 a1 t898 t901 t916 (t919 != t901) l0_0 l0_1 t892 t895 t910 t913) else (laws_FnExactCancel.j1 kj11 a1 t898 t901 t916 true l0_0 l0_1 t892 t895 t910 t913))) else (laws_FnExactCancel.j1 kj11 a1 t898 t901 t916 true l0_0 l0_1 t892 t895 t910 t913))))) = some r := by rw [if_pos rfl] at H; exact H
            clear H
            have H := H1
            clear H1
            replace H := Option.bind_eq_some_iff.mp H
            obtain ⟨⟨t930, t931, t932⟩, A600, H⟩ := H
            replace H : (if t930 < 0 then (laws_FnExactCancel.j1 kj11 a1 t898 t901 t916 true l0_0 l0_1 t892 t895 t910 t913) else ((laws_eqTokens.f kj11 t910 t913 t892 t895).bind fun t933 => (if t933 = true then ((laws_eqIntS.f kj11 t916 t898).bind fun t934 => (if t934 = true then (laws_FnExactCancel.j1 kj11 a1 t898 t901 t916 (t919 != t901) l0_0 l0_1 t892 t895 t910 t913) else (laws_FnExactCancel.j1 kj11 a1 t898 t901 t916 true l0_0 l0_1 t892 t895 t910 t913))) else (laws_FnExactCancel.j1 kj11 a1 t898 t901 t916 true l0_0 l0_1 t892 t895 t910 t913)))) = some r := H
            have A60 := Aside0.mk A600
            clear A600
            have HC61 := Aside0.mk H
            clear H
            try go_wp2
            have n0_ := Aside0.mk (Kd.R_drew HO_7.out)
            have n1_ := Aside0.mk (Kd.R_drew HO_11.out)
            have n2_ := Aside0.mk (Kd.R_drew HO_903000.out)
            have n3_ := Aside0.mk (Kd.R_drew HO_903001.out)
            have n4_ := Aside0.mk (Kd.R_drew HO_910000.out)
            have n5_ := Aside0.mk (Kd.R_drew HO_910001.out)
            have n6_ := Aside0.mk (Kd.R_drew HO_921000.out)
            have n7_ := Aside0.mk (Kd.R_drew HO_921001.out)
            have n8_ := Aside0.mk (blk_drew BK884.out)
            have n9_ := Aside0.mk (blk_drew BK902.out)
            have n10_ := Aside0.mk (blk_drew BK909.out)
            have n11_ := Aside0.mk (blk_drew BK920.out)
            have n12_ := Aside0.mk (below_drew1 HB.out)
            clear HO_7 HO_11 HO_903000 HO_903001 HO_910000 HO_910001 HO_921000 HO_921001 BK884 BK902 BK909 BK920 HB
            have HO_7 := n0_; have HO_11 := n1_; have HO_903000 := n2_; have HO_903001 := n3_; have HO_910000 := n4_; have HO_910001 := n5_; have HO_921000 := n6_; have HO_921001 := n7_; have BK884 := n8_; have BK902 := n9_; have BK909 := n10_; have BK920 := n11_; have HB := n12_
            clear n0_ n1_ n2_ n3_ n4_ n5_ n6_ n7_ n8_ n9_ n10_ n11_ n12_
            refine start_ (n := 5) (S := fun w' => w'.cell? ⟨gb909, 0, none⟩ = some (.slice Ao29 t903.length co29) ∧ w'.cell? ⟨gb909, 1, none⟩ = some (.slice Ao33 t906.length co33) ∧ w'.cell? ⟨gb884, 0, none⟩ = some (.slice A0_0 l0_0.length c0_0) ∧ w'.cell? ⟨gb884, 1, none⟩ = some (.slice A0_1 l0_1.length c0_1)) (ds := []) #[false, false, false, false, false] (by kernel_rfl) rfl rfl ⟨(blk_cell BK909.out 0).trans rfl, (blk_cell BK909.out 1).trans rfl, (blk_cell BK884.out 0).trans rfl, (blk_cell BK884.out 1).trans rfl⟩ (fun hHeld => ?_)
            generalize wc.drew = w62 at HO_7 HO_11 HO_903000 HO_903001 HO_910000 HO_910001 HO_921000 HO_921001 BK884 BK902 BK909 BK920 HB hHeld ⊢
            refine take_ (i := 0) (N := some 56) (v := ?_) (a' := ?_) #[true, false, false, false, false] rfl rfl (by kernel_rfl) (fun _ _ _ h => h) (Or.inl ⟨by rfl, ?_⟩) hHeld ?_ ?_
            rotate_left
            · rintro w' ⟨s0, s1, s2, s3⟩
              go_simp
              with_reducible rfl
            rotate_left
            · simp only [Act.put, List.setIfInBounds_toArray, List.set_cons_zero, List.set_cons_succ, i64_w, i32_w]
              rfl
            refine take_ (i := 1) (N := some 57) (v := ?_) (a' := ?_) #[true, true, false, false, false] rfl rfl (by kernel_rfl) (fun _ _ _ h => h) (Or.inl ⟨by rfl, ?_⟩) hHeld ?_ ?_
            rotate_left
            · rintro w' ⟨s0, s1, s2, s3⟩
              go_simp
              with_reducible rfl
            rotate_left
            · simp only [Act.put, List.setIfInBounds_toArray, List.set_cons_zero, List.set_cons_succ, i64_w, i32_w]
              rfl
            refine one_ (i := 2) (N := some 58) #[true, true, true, false, false] rfl rfl (by kernel_rfl) (by decide) (fun K hK => ?_)
            refine goes_ Try.func23 (by kernel_rfl) rfl #[.agg #[.slice A0_0 l0_0.length c0_0, .slice A0_1 l0_1.length c0_1]] (by rfl) rfl rfl (by (try simp only [List.map_toArray, List.map_cons, List.map_nil]); first | done | rfl | (simp only [List.length_drop, List.length_take]; rfl) | (go_simp; done) | (simp [*]; done)) ?_
            with_reducible refine (laws_toTokens.calls kj11 _ _ l0_0 _ _ l0_1 t923 t926 _ ?side1 ?side2 ?side3 ?side4 A57.out).mono ?_
            (case side1 => exact pkC (Kd.C_below HR0_0.out HB.out))
            (case side2 => exact HC0_0.out)
            (case side3 => exact pkC (Kd.C_below HR0_1.out HB.out))
            (case side4 => exact HC0_1.out)
            rintro e w63 ⟨v924, v927, rfl, ho0, ho1, hb⟩
            refine ⟨_, rfl, ?_⟩
            have n0_ := Aside0.mk (Kd.R_elder' (pkR HO_7.out) (Kd.R_base ho0) hb)
            have n1_ := Aside0.mk (Kd.R_elder' (pkR HO_11.out) (Kd.R_base ho0) hb)
            have n2_ := Aside0.mk (Kd.R_elder' (pkR HO_903000.out) (Kd.R_base ho0) hb)
            have n3_ := Aside0.mk (Kd.R_elder' (pkR HO_903001.out) (Kd.R_base ho1) hb)
            have n4_ := Aside0.mk (Kd.R_elder' (pkR HO_910000.out) (Kd.R_base ho0) hb)
            have n5_ := Aside0.mk (Kd.R_elder' (pkR HO_910001.out) (Kd.R_base ho1) hb)
            have n6_ := Aside0.mk (Kd.R_elder' (pkR HO_921000.out) (Kd.R_base ho0) hb)
            have n7_ := Aside0.mk (Kd.R_elder' (pkR HO_921001.out) (Kd.R_base ho1) hb)
            have n8_ := Aside0.mk (Kd.R_lower (Kd.R_new' (Kd.R_new' (Kd.R_new' (Kd.R_new' (Kd.R_new' ho0 (Kd.R_lt (pkR HO_7.out))) (Kd.R_lt (pkR HO_11.out))) (Kd.R_lt (pkR HO_903000.out))) (Kd.R_lt (pkR HO_910000.out))) (Kd.R_lt (pkR HO_921000.out))) (below_size (by repeat (first | (with_reducible first | exact HB.out | apply below_alloc | apply pw_below_drewN | apply below_drew1 | refine below_set ?_ GE884.out | refine below_set ?_ GE902.out | refine below_set ?_ GE909.out | refine below_set ?_ GE920.out) | exact HB.out))))
            have n9_ := Aside0.mk (Kd.R_lower (Kd.R_new' (Kd.R_new' (Kd.R_new' ho1 (Kd.R_lt (pkR HO_903001.out))) (Kd.R_lt (pkR HO_910001.out))) (Kd.R_lt (pkR HO_921001.out))) (below_size (by repeat (first | (with_reducible first | exact HB.out | apply below_alloc | apply pw_below_drewN | apply below_drew1 | refine below_set ?_ GE884.out | refine below_set ?_ GE902.out | refine below_set ?_ GE909.out | refine below_set ?_ GE920.out) | exact HB.out))))
            have n10_ := Aside0.mk (blk_below (g := gb884) (o := .cells #[.slice A0_0 l0_0.length c0_0, .slice A0_1 l0_1.length c0_1] 30 (0, 0)) (pkK BK884.out) hb)
            have n11_ := Aside0.mk (blk_below (g := gb902) (o := .cells #[.slice Ao22 t892.length co22, .slice Ao25 t895.length co25] 33 (0, 0)) (pkK BK902.out) hb)
            have n12_ := Aside0.mk (blk_below (g := gb909) (o := .cells #[.slice Ao29 t903.length co29, .slice Ao33 t906.length co33] 33 (0, 0)) (pkK BK909.out) hb)
            have n13_ := Aside0.mk (blk_below (g := gb920) (o := .cells #[.slice Ao36 t910.length co36, .slice Ao41 t913.length co41] 33 (0, 0)) (pkK BK920.out) hb)
            have n14_ := Aside0.mk (below_step (by repeat (first | (with_reducible first | exact HB.out | apply below_alloc | apply pw_below_drewN | apply below_drew1 | refine below_set ?_ GE884.out | refine below_set ?_ GE902.out | refine below_set ?_ GE909.out | refine below_set ?_ GE920.out) | exact HB.out)) hb)
            clear HO_7 HO_11 HO_903000 HO_903001 HO_910000 HO_910001 HO_921000 HO_921001 BK884 BK902 BK909 BK920 HB
            have HO_7 := n0_; have HO_11 := n1_; have HO_903000 := n2_; have HO_903001 := n3_; have HO_910000 := n4_; have HO_910001 := n5_; have HO_921000 := n6_; have HO_921001 := n7_; have HO925 := n8_; have HO928 := n9_; have BK884 := n10_; have BK902 := n11_; have BK909 := n12_; have BK920 := n13_; have HB := n14_
            clear n0_ n1_ n2_ n3_ n4_ n5_ n6_ n7_ n8_ n9_ n10_ n11_ n12_ n13_ n14_
            (try clear hb); (try clear hb2); (try clear hk); (try clear hi); (try clear ho0); (try clear ho1)
            obtain ⟨Ao64, co64, eo64⟩ := Kd.R_slice HO925.out
            (first | subst eo64 | (injection eo64 with f1_ f2_ f3_; have f4_ := f1_.symm; have f5_ := f3_.symm; clear f1_ f2_ f3_; subst f4_; subst f5_))
            obtain ⟨Ao65, co65, eo65⟩ := Kd.R_slice HO928.out
            (first | subst eo65 | (injection eo65 with f1_ f2_ f3_; have f4_ := f1_.symm; have f5_ := f3_.symm; clear f1_ f2_ f3_; subst f4_; subst f5_))
            refine hK.out _ _ ⟨(blk_cell BK909.out 0).trans rfl, (blk_cell BK909.out 1).trans rfl, (blk_cell BK884.out 0).trans rfl, (blk_cell BK884.out 1).trans rfl⟩ (fun hHeld => ?_)
            clear hK K
            refine norm_ (a' := ?_) ?_ ?_
            rotate_left
            · show Act.put _ (some 58) _ = _
              simp only [Act.put, List.setIfInBounds_toArray, List.set_cons_zero, List.set_cons_succ, i64_w, i32_w]
              rfl
            refine one_ (i := 3) (N := some 59) #[true, true, true, true, false] rfl rfl (by kernel_rfl) (by decide) (fun K hK => ?_)
            refine goes_ Try.func25 (by kernel_rfl) rfl #[.agg #[.slice Ao29 t903.length co29, .slice Ao33 t906.length co33], .agg #[.slice Ao64 t923.length co64, .slice Ao65 t926.length co65]] (by rfl) rfl rfl (by (try simp only [List.map_toArray, List.map_cons, List.map_nil]); first | done | rfl | (simp only [List.length_drop, List.length_take]; rfl) | (go_simp; done) | (simp [*]; done)) ?_
            with_reducible refine (laws_eqTokens.calls kj11 _ _ t903 _ _ t906 _ _ t923 _ _ t926 true _ ?side1 ?side2 ?side3 ?side4 ?side5 ?side6 ?side7 ?side8 A58.out).mono ?_
            (case side1 => exact pkC (Kd.R_reads' HO_910000.out).2.2)
            (case side2 => exact (Kd.R_reads' HO_910000.out).2.1)
            (case side3 => exact pkC (Kd.R_reads' HO_910001.out).2.2)
            (case side4 => exact (Kd.R_reads' HO_910001.out).2.1)
            (case side5 => exact pkC (Kd.R_reads' HO925.out).2.2)
            (case side6 => exact (Kd.R_reads' HO925.out).2.1)
            (case side7 => exact pkC (Kd.R_reads' HO928.out).2.2)
            (case side8 => exact (Kd.R_reads' HO928.out).2.1)
            rintro e w66 ⟨rfl, hb⟩
            refine ⟨_, rfl, ?_⟩
            have n0_ := Aside0.mk (Kd.R_below (pkR HO_7.out) hb)
            have n1_ := Aside0.mk (Kd.R_below (pkR HO_11.out) hb)
            have n2_ := Aside0.mk (Kd.R_below (pkR HO_903000.out) hb)
            have n3_ := Aside0.mk (Kd.R_below (pkR HO_903001.out) hb)
            have n4_ := Aside0.mk (Kd.R_below (pkR HO_910000.out) hb)
            have n5_ := Aside0.mk (Kd.R_below (pkR HO_910001.out) hb)
            have n6_ := Aside0.mk (Kd.R_below (pkR HO_921000.out) hb)
            have n7_ := Aside0.mk (Kd.R_below (pkR HO_921001.out) hb)
            have n8_ := Aside0.mk (Kd.R_below (pkR HO925.out) hb)
            have n9_ := Aside0.mk (Kd.R_below (pkR HO928.out) hb)
            have n10_ := Aside0.mk (blk_below (g := gb884) (o := .cells #[.slice A0_0 l0_0.length c0_0, .slice A0_1 l0_1.length c0_1] 30 (0, 0)) (pkK BK884.out) hb)
            have n11_ := Aside0.mk (blk_below (g := gb902) (o := .cells #[.slice Ao22 t892.length co22, .slice Ao25 t895.length co25] 33 (0, 0)) (pkK BK902.out) hb)
            have n12_ := Aside0.mk (blk_below (g := gb909) (o := .cells #[.slice Ao29 t903.length co29, .slice Ao33 t906.length co33] 33 (0, 0)) (pkK BK909.out) hb)
            have n13_ := Aside0.mk (blk_below (g := gb920) (o := .cells #[.slice Ao36 t910.length co36, .slice Ao41 t913.length co41] 33 (0, 0)) (pkK BK920.out) hb)
            have n14_ := Aside0.mk (below_step (by repeat (first | (with_reducible first | exact HB.out | apply below_alloc | apply pw_below_drewN | apply below_drew1 | refine below_set ?_ GE884.out | refine below_set ?_ GE902.out | refine below_set ?_ GE909.out | refine below_set ?_ GE920.out) | exact HB.out)) hb)
            clear HO_7 HO_11 HO_903000 HO_903001 HO_910000 HO_910001 HO_921000 HO_921001 HO925 HO928 BK884 BK902 BK909 BK920 HB
            have HO_7 := n0_; have HO_11 := n1_; have HO_903000 := n2_; have HO_903001 := n3_; have HO_910000 := n4_; have HO_910001 := n5_; have HO_921000 := n6_; have HO_921001 := n7_; have HO925 := n8_; have HO928 := n9_; have BK884 := n10_; have BK902 := n11_; have BK909 := n12_; have BK920 := n13_; have HB := n14_
            clear n0_ n1_ n2_ n3_ n4_ n5_ n6_ n7_ n8_ n9_ n10_ n11_ n12_ n13_ n14_
            (try clear hb); (try clear hb2); (try clear hk); (try clear hi)
            refine hK.out _ _ ⟨(blk_cell BK909.out 0).trans rfl, (blk_cell BK909.out 1).trans rfl, (blk_cell BK884.out 0).trans rfl, (blk_cell BK884.out 1).trans rfl⟩ (fun hHeld => ?_)
            clear hK K
            refine norm_ (a' := ?_) ?_ ?_
            rotate_left
            · show Act.put _ (some 59) _ = _
              simp only [Act.put, List.setIfInBounds_toArray, List.set_cons_zero, List.set_cons_succ, i64_w, i32_w]
              rfl
            refine pure_ (i := 4) (N := some 60) (v := ?_) (a' := ?_) #[true, true, true, true, true] rfl rfl (by kernel_rfl) (fun _ _ _ h => h) (Or.inl ⟨by rfl, ?_⟩) ?_ ?_
            rotate_left
            · intro w'
              go_simp
              with_reducible rfl
            rotate_left
            · simp only [Act.put, List.setIfInBounds_toArray, List.set_cons_zero, List.set_cons_succ, i64_w, i32_w]
              rfl
            refine done_ (by kernel_rfl) ?_
            have hnb67 := NB909_884.out
            have hnc67 := NB884_909.out
            have hnb68 := NB909_902.out
            have hnc68 := NB902_909.out
            have hnb69 := NB909_920.out
            have hnc69 := NB920_909.out
            have hcz70_0 : w66.cell? ⟨gb909, 0, none⟩ = some (.slice Ao29 t903.length co29) := (blk_cell BK909.out 0).trans rfl
            have hcz70_1 : w66.cell? ⟨gb909, 1, none⟩ = some (.slice Ao33 t906.length co33) := (blk_cell BK909.out 1).trans rfl
            have hfz70_0 := blk_frozen BK909.out 0
            have hfz70_1 := blk_frozen BK909.out 1
            go_upto_region 14 with (first | ((with_reducible refine gate_callee (f := 38) rfl ?_); refine goesL_ (some 63) rfl rfl Try.func38 (by kernel_rfl) rfl #[.agg #[.slice Ao29 t903.length co29, .slice Ao33 t906.length co33], .int .i64 1] rfl (by (try simp only [List.map_toArray, List.map_cons, List.map_nil]); first | done | rfl | (simp only [List.length_drop, List.length_take]; rfl) | (go_simp; done) | (simp [*]; done)) ?_; (with_reducible refine (laws_markTokens.calls kj11 (fun k_ => some k_ = (.slice Ao29 t903.length co29 : Value).ownBlock) (.slice Ao29 t903.length co29) t903 (fun k_ => some k_ = (.slice Ao33 t906.length co33 : Value).ownBlock) (.slice Ao33 t906.length co33) t906 1 t930 t931 t932 w _ ?side1 ?side2 ?side3 A60.out).mono ?_); (case side1 => repeat (first | (with_reducible first | exact HB.out | apply below_alloc | apply pw_below_drewN | apply below_drew1 | refine below_set ?_ GE884.out | refine below_set ?_ GE902.out | refine below_set ?_ GE909.out | refine below_set ?_ GE920.out) | exact HB.out)); (case side2 => exact Kd.R_tight rfl HO_910000.out); (case side3 => exact Kd.R_tight rfl HO_910001.out); rintro e w71 ⟨rfl, hy0, hy1, hb, hkp⟩; refine ⟨_, rfl, ?_⟩; have n0_ := Aside0.mk (Kd.R_mono (ok' := fun k_ => some k_ ≠ (v917 : Value).ownBlock ∧ some k_ ≠ (.slice Ao22 t892.length co22 : Value).ownBlock ∧ some k_ ≠ (.slice Ao29 t903.length co29 : Value).ownBlock ∧ some k_ ≠ (.slice Ao36 t910.length co36 : Value).ownBlock ∧ some k_ ≠ (.slice Ao64 t923.length co64 : Value).ownBlock) (Kd.R_keptB ((Kd.R_apart' HO_7.out (Kd.R_typed HO_910001.out) (by decide))) hkp (fun k_ hk_ hs_ => Or.elim hs_ (fun e_ => (hk_.1.1.2.2.1) e_) (fun e_ => (hk_.2) e_))) (fun k_ hk_ => ⟨hk_.1.1.1.1, hk_.1.1.1.2.1, hk_.1.1.1.2.2.1, hk_.1.1.1.2.2.2, hk_.1.1.2⟩)); have n1_ := Aside0.mk (Kd.R_mono (ok' := fun k_ => some k_ ≠ (v899 : Value).ownBlock ∧ some k_ ≠ (.slice Ao22 t892.length co22 : Value).ownBlock ∧ some k_ ≠ (.slice Ao29 t903.length co29 : Value).ownBlock ∧ some k_ ≠ (.slice Ao36 t910.length co36 : Value).ownBlock ∧ some k_ ≠ (.slice Ao64 t923.length co64 : Value).ownBlock) (Kd.R_keptB ((Kd.R_apart' HO_11.out (Kd.R_typed HO_910001.out) (by decide))) hkp (fun k_ hk_ hs_ => Or.elim hs_ (fun e_ => (hk_.1.1.2.2.1) e_) (fun e_ => (hk_.2) e_))) (fun k_ hk_ => ⟨hk_.1.1.1.1, hk_.1.1.1.2.1, hk_.1.1.1.2.2.1, hk_.1.1.1.2.2.2, hk_.1.1.2⟩)); have n2_ := Aside0.mk (Kd.R_mono (ok' := fun k_ => some k_ ≠ (v899 : Value).ownBlock ∧ some k_ ≠ (v917 : Value).ownBlock ∧ some k_ ≠ (.slice Ao29 t903.length co29 : Value).ownBlock ∧ some k_ ≠ (.slice Ao36 t910.length co36 : Value).ownBlock ∧ some k_ ≠ (.slice Ao64 t923.length co64 : Value).ownBlock) (Kd.R_keptB ((Kd.R_apart' HO_903000.out (Kd.R_typed HO_910001.out) (by decide))) hkp (fun k_ hk_ hs_ => Or.elim hs_ (fun e_ => (hk_.1.1.2.2.1) e_) (fun e_ => (hk_.2) e_))) (fun k_ hk_ => ⟨hk_.1.1.1.1, hk_.1.1.1.2.1, hk_.1.1.1.2.2.1, hk_.1.1.1.2.2.2, hk_.1.1.2⟩)); have n3_ := Aside0.mk (Kd.R_mono (ok' := fun k_ => some k_ ≠ (.slice Ao33 t906.length co33 : Value).ownBlock ∧ some k_ ≠ (.slice Ao41 t913.length co41 : Value).ownBlock ∧ some k_ ≠ (.slice Ao65 t926.length co65 : Value).ownBlock) (Kd.R_keptB ((Kd.R_apart' HO_903001.out (Kd.R_typed HO_910000.out) (by decide))) hkp (fun k_ hk_ hs_ => Or.elim hs_ (fun e_ => (hk_.2) e_) (fun e_ => (hk_.1.1.1) e_))) (fun k_ hk_ => ⟨hk_.1.1.1.1, hk_.1.1.1.2, hk_.1.1.2⟩)); have n4_ := Aside0.mk (Kd.R_reok rfl hy0 (fun k_ e_ => HO_910000.out.1 k_ e_)); have n5_ := Aside0.mk (Kd.R_reok rfl hy1 (fun k_ e_ => HO_910001.out.1 k_ e_)); have n6_ := Aside0.mk (Kd.R_mono (ok' := fun k_ => some k_ ≠ (v899 : Value).ownBlock ∧ some k_ ≠ (v917 : Value).ownBlock ∧ some k_ ≠ (.slice Ao22 t892.length co22 : Value).ownBlock ∧ some k_ ≠ (.slice Ao29 t903.length co29 : Value).ownBlock ∧ some k_ ≠ (.slice Ao64 t923.length co64 : Value).ownBlock) (Kd.R_keptB ((Kd.R_apart' HO_921000.out (Kd.R_typed HO_910001.out) (by decide))) hkp (fun k_ hk_ hs_ => Or.elim hs_ (fun e_ => (hk_.1.1.2.2.2) e_) (fun e_ => (hk_.2) e_))) (fun k_ hk_ => ⟨hk_.1.1.1.1, hk_.1.1.1.2.1, hk_.1.1.1.2.2.1, hk_.1.1.1.2.2.2, hk_.1.1.2⟩)); have n7_ := Aside0.mk (Kd.R_mono (ok' := fun k_ => some k_ ≠ (.slice Ao25 t895.length co25 : Value).ownBlock ∧ some k_ ≠ (.slice Ao33 t906.length co33 : Value).ownBlock ∧ some k_ ≠ (.slice Ao65 t926.length co65 : Value).ownBlock) (Kd.R_keptB ((Kd.R_apart' HO_921001.out (Kd.R_typed HO_910000.out) (by decide))) hkp (fun k_ hk_ hs_ => Or.elim hs_ (fun e_ => (hk_.2) e_) (fun e_ => (hk_.1.1.2) e_))) (fun k_ hk_ => ⟨hk_.1.1.1.1, hk_.1.1.1.2, hk_.1.1.2⟩)); have n8_ := Aside0.mk (blk_kept (pkK BK884.out) hkp (fun hs_ => Or.elim hs_ (fun e_ => (fun e_ => (Kd.R_ne HO_910000.out BK884.out (by decide)) e_) e_) (fun e_ => (fun e_ => (Kd.R_ne HO_910001.out BK884.out (by decide)) e_) e_))); have n9_ := Aside0.mk (blk_kept (pkK BK902.out) hkp (fun hs_ => Or.elim hs_ (fun e_ => (fun e_ => (Kd.R_ne HO_910000.out BK902.out (by decide)) e_) e_) (fun e_ => (fun e_ => (Kd.R_ne HO_910001.out BK902.out (by decide)) e_) e_))); have n10_ := Aside0.mk (blk_kept (pkK BK909.out) hkp (fun hs_ => Or.elim hs_ (fun e_ => (fun e_ => (Kd.R_ne HO_910000.out BK909.out (by decide)) e_) e_) (fun e_ => (fun e_ => (Kd.R_ne HO_910001.out BK909.out (by decide)) e_) e_))); have n11_ := Aside0.mk (blk_kept (pkK BK920.out) hkp (fun hs_ => Or.elim hs_ (fun e_ => (fun e_ => (Kd.R_ne HO_910000.out BK920.out (by decide)) e_) e_) (fun e_ => (fun e_ => (Kd.R_ne HO_910001.out BK920.out (by decide)) e_) e_))); have n12_ := Aside0.mk (Kd.R_mono (ok' := fun k_ => some k_ ≠ (v899 : Value).ownBlock ∧ some k_ ≠ (v917 : Value).ownBlock ∧ some k_ ≠ (.slice Ao22 t892.length co22 : Value).ownBlock ∧ some k_ ≠ (.slice Ao29 t903.length co29 : Value).ownBlock ∧ some k_ ≠ (.slice Ao36 t910.length co36 : Value).ownBlock) (Kd.R_keptB ((Kd.R_apart' HO925.out (Kd.R_typed HO_910001.out) (by decide))) hkp (fun k_ hk_ hs_ => Or.elim hs_ (fun e_ => (hk_.1.1.2) e_) (fun e_ => (hk_.2) e_))) (fun k_ hk_ => ⟨hk_.1.1.1.1.1.1.2, hk_.1.1.1.1.1.2, hk_.1.1.1.1.2, hk_.1.1.1.2, hk_.1.1.2⟩)); have n13_ := Aside0.mk (Kd.R_mono (ok' := fun k_ => some k_ ≠ (.slice Ao25 t895.length co25 : Value).ownBlock ∧ some k_ ≠ (.slice Ao33 t906.length co33 : Value).ownBlock ∧ some k_ ≠ (.slice Ao41 t913.length co41 : Value).ownBlock) (Kd.R_keptB ((Kd.R_apart' HO928.out (Kd.R_typed HO_910000.out) (by decide))) hkp (fun k_ hk_ hs_ => Or.elim hs_ (fun e_ => (hk_.2) e_) (fun e_ => (hk_.1.1.2) e_))) (fun k_ hk_ => ⟨hk_.1.1.1.1.2, hk_.1.1.1.2, hk_.1.1.2⟩)); have n14_ := Aside0.mk (hb); clear HO_7 HO_11 HO_903000 HO_903001 HO_910000 HO_910001 HO_921000 HO_921001 BK884 BK902 BK909 BK920 HO925 HO928 HB; have HO_7 := n0_; have HO_11 := n1_; have HO_903000 := n2_; have HO_903001 := n3_; have HO_910000 := n4_; have HO_910001 := n5_; have HO_921000 := n6_; have HO_921001 := n7_; have BK884 := n8_; have BK902 := n9_; have BK909 := n10_; have BK920 := n11_; have HO925 := n12_; have HO928 := n13_; have HB := n14_; clear n0_ n1_ n2_ n3_ n4_ n5_ n6_ n7_ n8_ n9_ n10_ n11_ n12_ n13_ n14_; (try clear hb); (try clear hkp); (try clear hy0); (try clear hy1)))
            (try simp only [Act.put, List.setIfInBounds_toArray, List.set_cons_zero, List.set_cons_succ])
            go_cut [82] (fun v82 wc => ∃ (kq : Nat) (x82_60 : Bool), v82 = .bool x82_60 ∧ Aside0 (laws_FnExactCancel.j1 kq a1 t898 t901 t916 x82_60 l0_0 l0_1 t892 t895 t910 t913 = some r) ∧ Aside0 (kq ≤ kj11) ∧ Aside0 (Kd.R (Kd.int .i64) 3 wc w.heap.size (fun k_ => some k_ ≠ (v917 : Value).ownBlock ∧ some k_ ≠ ((.slice Ao22 t892.length co22) : Value).ownBlock ∧ some k_ ≠ ((.slice Ao29 t903.length co29) : Value).ownBlock ∧ some k_ ≠ ((.slice Ao36 t910.length co36) : Value).ownBlock) v899 t898) ∧ Aside0 (Kd.R (Kd.int .i64) 3 wc w.heap.size (fun k_ => some k_ ≠ (v899 : Value).ownBlock ∧ some k_ ≠ ((.slice Ao22 t892.length co22) : Value).ownBlock ∧ some k_ ≠ ((.slice Ao29 t903.length co29) : Value).ownBlock ∧ some k_ ≠ ((.slice Ao36 t910.length co36) : Value).ownBlock) v917 t916) ∧ Aside0 (Kd.R (Kd.int .i64) 3 wc w.heap.size (fun k_ => some k_ ≠ (v899 : Value).ownBlock ∧ some k_ ≠ (v917 : Value).ownBlock ∧ some k_ ≠ ((.slice Ao29 t903.length co29) : Value).ownBlock ∧ some k_ ≠ ((.slice Ao36 t910.length co36) : Value).ownBlock) (.slice Ao22 t892.length co22) t892) ∧ Aside0 (Kd.R Kd.bool 4 wc w.heap.size (fun k_ => some k_ ≠ ((.slice Ao33 t906.length co33) : Value).ownBlock ∧ some k_ ≠ ((.slice Ao41 t913.length co41) : Value).ownBlock) (.slice Ao25 t895.length co25) t895) ∧ Aside0 (Kd.R (Kd.int .i64) 3 wc w.heap.size (fun k_ => some k_ ≠ (v899 : Value).ownBlock ∧ some k_ ≠ (v917 : Value).ownBlock ∧ some k_ ≠ ((.slice Ao22 t892.length co22) : Value).ownBlock ∧ some k_ ≠ ((.slice Ao36 t910.length co36) : Value).ownBlock) (.slice Ao29 t903.length co29) t931) ∧ Aside0 (Kd.R Kd.bool 4 wc w.heap.size (fun k_ => some k_ ≠ ((.slice Ao25 t895.length co25) : Value).ownBlock ∧ some k_ ≠ ((.slice Ao41 t913.length co41) : Value).ownBlock) (.slice Ao33 t906.length co33) t932) ∧ Aside0 (Kd.R (Kd.int .i64) 3 wc w.heap.size (fun k_ => some k_ ≠ (v899 : Value).ownBlock ∧ some k_ ≠ (v917 : Value).ownBlock ∧ some k_ ≠ ((.slice Ao22 t892.length co22) : Value).ownBlock ∧ some k_ ≠ ((.slice Ao29 t903.length co29) : Value).ownBlock) (.slice Ao36 t910.length co36) t910) ∧ Aside0 (Kd.R Kd.bool 4 wc w.heap.size (fun k_ => some k_ ≠ ((.slice Ao25 t895.length co25) : Value).ownBlock ∧ some k_ ≠ ((.slice Ao33 t906.length co33) : Value).ownBlock) (.slice Ao41 t913.length co41) t913) ∧ Aside0 (wc.heap[gb884]? = some (.cells #[(.slice A0_0 l0_0.length c0_0), (.slice A0_1 l0_1.length c0_1)] 30 (0, 0))) ∧ Aside0 (wc.heap[gb902]? = some (.cells #[(.slice Ao22 t892.length co22), (.slice Ao25 t895.length co25)] 33 (0, 0))) ∧ Aside0 (wc.heap[gb909]? = some (.cells #[(.slice Ao29 t903.length co29), (.slice Ao33 t906.length co33)] 33 (0, 0))) ∧ Aside0 (wc.heap[gb920]? = some (.cells #[(.slice Ao36 t910.length co36), (.slice Ao41 t913.length co41)] 33 (0, 0))) ∧ Aside0 (Below w.heap.size w wc))
            case first =>
              have H := HC61.out
              clear HC61
              by_cases c72 : t930 < 0
              · rw [if_pos c72] at H
                have c72b0 : decide (t930 < 0) = true := decide_eq_true c72
                clear c72
                (first | rw [c72b0] | (simp only [i64_w, i32_w]; rw [c72b0]) | skip)
                cases kj11 with
                | zero => exact absurd H (by simp [laws_FnExactCancel.j1])
                | succ k_ => (simp only [laws_FnExactCancel.j1, if_pos] at H; exact absurd (Option.some.inj H) (by rw [HQ_.out]; simp))
              · rw [if_neg c72] at H
                have c72b0 : decide (t930 < 0) = false := decide_eq_false c72
                clear c72
                (first | rw [c72b0] | (simp only [i64_w, i32_w]; rw [c72b0]) | skip)
                replace H := Option.bind_eq_some_iff.mp H
                obtain ⟨t933, A730, H⟩ := H
                replace H : (if t933 = true then ((laws_eqIntS.f kj11 t916 t898).bind fun t934 => (if t934 = true then (laws_FnExactCancel.j1 kj11 a1 t898 t901 t916 (t919 != t901) l0_0 l0_1 t892 t895 t910 t913) else (laws_FnExactCancel.j1 kj11 a1 t898 t901 t916 true l0_0 l0_1 t892 t895 t910 t913))) else (laws_FnExactCancel.j1 kj11 a1 t898 t901 t916 true l0_0 l0_1 t892 t895 t910 t913)) = some r := H
                have A73 := Aside0.mk A730
                clear A730
                by_cases c74 : t933 = true
                · subst c74
                  have H1 : ((laws_eqIntS.f kj11 t916 t898).bind fun t934 => (if t934 = true then (laws_FnExactCancel.j1 kj11 a1 t898 t901 t916 (t919 != t901) l0_0 l0_1 t892 t895 t910 t913) else (laws_FnExactCancel.j1 kj11 a1 t898 t901 t916 true l0_0 l0_1 t892 t895 t910 t913))) = some r := by rw [if_pos rfl] at H; exact H
                  clear H
                  have H := H1
                  clear H1
                  replace H := Option.bind_eq_some_iff.mp H
                  obtain ⟨t934, A750, H⟩ := H
                  replace H : (if t934 = true then (laws_FnExactCancel.j1 kj11 a1 t898 t901 t916 (t919 != t901) l0_0 l0_1 t892 t895 t910 t913) else (laws_FnExactCancel.j1 kj11 a1 t898 t901 t916 true l0_0 l0_1 t892 t895 t910 t913)) = some r := H
                  have A75 := Aside0.mk A750
                  clear A750
                  by_cases c76 : t934 = true
                  · subst c76
                    have H1 : (laws_FnExactCancel.j1 kj11 a1 t898 t901 t916 (t919 != t901) l0_0 l0_1 t892 t895 t910 t913) = some r := by rw [if_pos rfl] at H; exact H
                    clear H
                    have H := H1
                    clear H1
                    have H' := Aside0.mk H
                    clear H
                    have hnb77 := NB920_884.out
                    have hnc77 := NB884_920.out
                    have hnb78 := NB920_902.out
                    have hnc78 := NB902_920.out
                    have hnb79 := NB920_909.out
                    have hnc79 := NB909_920.out
                    have hcz80_0 : w71.cell? ⟨gb920, 0, none⟩ = some (.slice Ao36 t910.length co36) := (blk_cell BK920.out 0).trans rfl
                    have hcz80_1 : w71.cell? ⟨gb920, 1, none⟩ = some (.slice Ao41 t913.length co41) := (blk_cell BK920.out 1).trans rfl
                    have hfz80_0 := blk_frozen BK920.out 0
                    have hfz80_1 := blk_frozen BK920.out 1
                    have hnb81 := NB902_884.out
                    have hnc81 := NB884_902.out
                    have hnb82 := NB902_909.out
                    have hnc82 := NB909_902.out
                    have hcz83_0 : w71.cell? ⟨gb902, 0, none⟩ = some (.slice Ao22 t892.length co22) := (blk_cell BK902.out 0).trans rfl
                    have hcz83_1 : w71.cell? ⟨gb902, 1, none⟩ = some (.slice Ao25 t895.length co25) := (blk_cell BK902.out 1).trans rfl
                    have hfz83_0 := blk_frozen BK902.out 0
                    have hfz83_1 := blk_frozen BK902.out 1
                    go_wp2_with (first | (go_at_call 25; (with_reducible refine (laws_eqTokens.calls kj11 _ _ t910 _ _ t913 _ _ t892 _ _ t895 true _ ?side1 ?side2 ?side3 ?side4 ?side5 ?side6 ?side7 ?side8 A73.out).mono ?_); (case side1 => exact pkC (Kd.R_reads' HO_921000.out).2.2); (case side2 => exact (Kd.R_reads' HO_921000.out).2.1); (case side3 => exact pkC (Kd.R_reads' HO_921001.out).2.2); (case side4 => exact (Kd.R_reads' HO_921001.out).2.1); (case side5 => exact pkC (Kd.R_reads' HO_903000.out).2.2); (case side6 => exact (Kd.R_reads' HO_903000.out).2.1); (case side7 => exact pkC (Kd.R_reads' HO_903001.out).2.2); (case side8 => exact (Kd.R_reads' HO_903001.out).2.1); rintro e w84 ⟨rfl, hb⟩; have n0_ := Aside0.mk (Kd.R_below (pkR HO_7.out) hb); have n1_ := Aside0.mk (Kd.R_below (pkR HO_11.out) hb); have n2_ := Aside0.mk (Kd.R_below (pkR HO_903000.out) hb); have n3_ := Aside0.mk (Kd.R_below (pkR HO_903001.out) hb); have n4_ := Aside0.mk (Kd.R_below (pkR HO_910000.out) hb); have n5_ := Aside0.mk (Kd.R_below (pkR HO_910001.out) hb); have n6_ := Aside0.mk (Kd.R_below (pkR HO_921000.out) hb); have n7_ := Aside0.mk (Kd.R_below (pkR HO_921001.out) hb); have n8_ := Aside0.mk (Kd.R_below (pkR HO925.out) hb); have n9_ := Aside0.mk (Kd.R_below (pkR HO928.out) hb); have n10_ := Aside0.mk (blk_below (g := gb884) (o := .cells #[.slice A0_0 l0_0.length c0_0, .slice A0_1 l0_1.length c0_1] 30 (0, 0)) (pkK BK884.out) hb); have n11_ := Aside0.mk (blk_below (g := gb902) (o := .cells #[.slice Ao22 t892.length co22, .slice Ao25 t895.length co25] 33 (0, 0)) (pkK BK902.out) hb); have n12_ := Aside0.mk (blk_below (g := gb909) (o := .cells #[.slice Ao29 t903.length co29, .slice Ao33 t906.length co33] 33 (0, 0)) (pkK BK909.out) hb); have n13_ := Aside0.mk (blk_below (g := gb920) (o := .cells #[.slice Ao36 t910.length co36, .slice Ao41 t913.length co41] 33 (0, 0)) (pkK BK920.out) hb); have n14_ := Aside0.mk (below_step (by repeat (first | (with_reducible first | exact HB.out | apply below_alloc | apply pw_below_drewN | apply below_drew1 | refine below_set ?_ GE884.out | refine below_set ?_ GE902.out | refine below_set ?_ GE909.out | refine below_set ?_ GE920.out) | exact HB.out)) hb); clear HO_7 HO_11 HO_903000 HO_903001 HO_910000 HO_910001 HO_921000 HO_921001 HO925 HO928 BK884 BK902 BK909 BK920 HB; have HO_7 := n0_; have HO_11 := n1_; have HO_903000 := n2_; have HO_903001 := n3_; have HO_910000 := n4_; have HO_910001 := n5_; have HO_921000 := n6_; have HO_921001 := n7_; have HO925 := n8_; have HO928 := n9_; have BK884 := n10_; have BK902 := n11_; have BK909 := n12_; have BK920 := n13_; have HB := n14_; clear n0_ n1_ n2_ n3_ n4_ n5_ n6_ n7_ n8_ n9_ n10_ n11_ n12_ n13_ n14_; (try clear hb); (try clear hb2); (try clear hk); (try clear hi); obtain ⟨Ao85, co85, eo85⟩ := Kd.R_slice HO_11.out; subst eo85; obtain ⟨Ao86, co86, eo86⟩ := Kd.R_slice HO_7.out; subst eo86) | (go_at_call 18; (with_reducible refine (laws_eqIntS.calls kj11 _ _ t916 _ _ t898 true _ ?side1 ?side2 ?side3 ?side4 A75.out).mono ?_); (case side1 => exact pkC (Kd.R_reads' HO_11.out).2.2); (case side2 => exact (Kd.R_reads' HO_11.out).2.1); (case side3 => exact pkC (Kd.R_reads' HO_7.out).2.2); (case side4 => exact (Kd.R_reads' HO_7.out).2.1); rintro e w' ⟨rfl, ⟨nd, rfl⟩⟩))
                    go_meet
                    case rel => exact ⟨_, ((t919 != t901)), (by first | rfl | (simp; done) | (simp [*]; done)), H', ⟨by have := HJ11.out; first | omega | exact Nat.le_refl _⟩, ⟨by (with_reducible repeat (first | apply Kd.R_alloc | apply Kd.R_drewN | apply Kd.R_drew)); exact Kd.R_mono HO_7.out (fun _ hk => ⟨hk.1, ⟨hk.2.1, ⟨hk.2.2.1, hk.2.2.2.1⟩⟩⟩)⟩, ⟨by (with_reducible repeat (first | apply Kd.R_alloc | apply Kd.R_drewN | apply Kd.R_drew)); exact Kd.R_mono HO_11.out (fun _ hk => ⟨hk.1, ⟨hk.2.1, ⟨hk.2.2.1, hk.2.2.2.1⟩⟩⟩)⟩, ⟨by (with_reducible repeat (first | apply Kd.R_alloc | apply Kd.R_drewN | apply Kd.R_drew)); exact Kd.R_mono HO_903000.out (fun _ hk => ⟨hk.1, ⟨hk.2.1, ⟨hk.2.2.1, hk.2.2.2.1⟩⟩⟩)⟩, ⟨by (with_reducible repeat (first | apply Kd.R_alloc | apply Kd.R_drewN | apply Kd.R_drew)); exact Kd.R_mono HO_903001.out (fun _ hk => ⟨hk.1, hk.2.1⟩)⟩, ⟨by (with_reducible repeat (first | apply Kd.R_alloc | apply Kd.R_drewN | apply Kd.R_drew)); exact Kd.R_mono HO_910000.out (fun _ hk => ⟨hk.1.1, ⟨hk.1.2.1, ⟨hk.1.2.2.1, hk.1.2.2.2⟩⟩⟩)⟩, ⟨by (with_reducible repeat (first | apply Kd.R_alloc | apply Kd.R_drewN | apply Kd.R_drew)); exact Kd.R_mono HO_910001.out (fun _ hk => ⟨hk.1.1, hk.1.2⟩)⟩, ⟨by (with_reducible repeat (first | apply Kd.R_alloc | apply Kd.R_drewN | apply Kd.R_drew)); exact Kd.R_mono HO_921000.out (fun _ hk => ⟨hk.1, ⟨hk.2.1, ⟨hk.2.2.1, hk.2.2.2.1⟩⟩⟩)⟩, ⟨by (with_reducible repeat (first | apply Kd.R_alloc | apply Kd.R_drewN | apply Kd.R_drew)); exact Kd.R_mono HO_921001.out (fun _ hk => ⟨hk.1, hk.2.1⟩)⟩, ⟨pkK BK884.out⟩, ⟨pkK BK902.out⟩, ⟨pkK BK909.out⟩, ⟨pkK BK920.out⟩, ⟨by repeat (first | (with_reducible first | exact HB.out | apply below_alloc | apply pw_below_drewN | apply below_drew1 | refine below_set ?_ GE884.out | refine below_set ?_ GE902.out | refine below_set ?_ GE909.out | refine below_set ?_ GE920.out) | exact HB.out)⟩⟩
                  · replace c76 := Bool.eq_false_iff.mpr c76
                    subst c76
                    have H1 : (laws_FnExactCancel.j1 kj11 a1 t898 t901 t916 true l0_0 l0_1 t892 t895 t910 t913) = some r := by rw [if_neg (show ¬ (false = true) by decide)] at H; exact H
                    clear H
                    have H := H1
                    clear H1
                    cases kj11 with
                    | zero => exact absurd H (by simp [laws_FnExactCancel.j1])
                    | succ k_ => (simp only [laws_FnExactCancel.j1, if_pos] at H; exact absurd (Option.some.inj H) (by rw [HQ_.out]; simp))
                · replace c74 := Bool.eq_false_iff.mpr c74
                  subst c74
                  have H1 : (laws_FnExactCancel.j1 kj11 a1 t898 t901 t916 true l0_0 l0_1 t892 t895 t910 t913) = some r := by rw [if_neg (show ¬ (false = true) by decide)] at H; exact H
                  clear H
                  have H := H1
                  clear H1
                  cases kj11 with
                  | zero => exact absurd H (by simp [laws_FnExactCancel.j1])
                  | succ k_ => (simp only [laws_FnExactCancel.j1, if_pos] at H; exact absurd (Option.some.inj H) (by rw [HQ_.out]; simp))
            case rest =>
              clear HC61
              try clear c1
              try clear c2
              try clear p2
              try clear c3
              try clear c4
              try clear c4b0
              try clear c5
              try clear c6
              try clear c7
              try clear c8
              try clear c13
              try clear c21
              try clear c23
              try clear c25
              try clear c30
              try clear c31
              try clear c37
              try clear c38
              try clear c39
              try clear c43
              try clear c45
              try clear c46
              try clear c47
              try clear c48
              try clear c50
              try clear c51
              try clear c56
              try clear c59
              try clear c67
              try clear c68
              try clear c69
              try clear c72
              try clear c72b0
              try clear c74
              try clear c76
              try clear c77
              try clear c78
              try clear c79
              try clear c81
              try clear c82
              try clear hcz14_0
              try clear hcz14_1
              try clear hcz16_0
              try clear hcz16_1
              try clear hcz24_0
              try clear hcz24_1
              try clear hcz26_0
              try clear hcz26_1
              try clear hcz32_0
              try clear hcz32_1
              try clear hcz40_0
              try clear hcz40_1
              try clear hcz49_0
              try clear hcz49_1
              try clear hcz52_0
              try clear hcz52_1
              try clear hcz6_0
              try clear hcz6_1
              try clear hcz70_0
              try clear hcz70_1
              try clear hcz80_0
              try clear hcz80_1
              try clear hcz83_0
              try clear hcz83_1
              try clear hfz14_0
              try clear hfz14_1
              try clear hfz16_0
              try clear hfz16_1
              try clear hfz24_0
              try clear hfz24_1
              try clear hfz26_0
              try clear hfz26_1
              try clear hfz32_0
              try clear hfz32_1
              try clear hfz40_0
              try clear hfz40_1
              try clear hfz49_0
              try clear hfz49_1
              try clear hfz52_0
              try clear hfz52_1
              try clear hfz6_0
              try clear hfz6_1
              try clear hfz70_0
              try clear hfz70_1
              try clear hfz80_0
              try clear hfz80_1
              try clear hfz83_0
              try clear hfz83_1
              try clear p2
              obtain ⟨kq, x82_60, rfl, HA, HJ60, HO_7, HO_11, HO_903000, HO_903001, HO_910000, HO_910001, HO_921000, HO_921001, BK884, BK902, BK909, BK920, HB⟩ := hcut
              have hl910000_60 := (Kd.R_reads' HO_910000.out).1
              rw [hl910000_60] at HO_910000
              (try simp only [hl910000_60])
              (try simp only [hl910000_60] at BK884)
              (try simp only [hl910000_60] at BK902)
              (try simp only [hl910000_60] at BK909)
              (try simp only [hl910000_60] at BK920)
              (try simp only [hl910000_60] at HO_7)
              (try simp only [hl910000_60] at HO_11)
              (try simp only [hl910000_60] at HO_903000)
              (try simp only [hl910000_60] at HO_903001)
              (try simp only [hl910000_60] at HO_910001)
              (try simp only [hl910000_60] at HO_921000)
              (try simp only [hl910000_60] at HO_921001)
              have hl910001_60 := (Kd.R_reads' HO_910001.out).1
              rw [hl910001_60] at HO_910001
              (try simp only [hl910001_60])
              (try simp only [hl910001_60] at BK884)
              (try simp only [hl910001_60] at BK902)
              (try simp only [hl910001_60] at BK909)
              (try simp only [hl910001_60] at BK920)
              (try simp only [hl910001_60] at HO_7)
              (try simp only [hl910001_60] at HO_11)
              (try simp only [hl910001_60] at HO_903000)
              (try simp only [hl910001_60] at HO_903001)
              (try simp only [hl910001_60] at HO_910000)
              (try simp only [hl910001_60] at HO_921000)
              (try simp only [hl910001_60] at HO_921001)
              cases kq with
              | zero => exact absurd HA.out (by simp [laws_FnExactCancel.j1])
              | succ kj60 =>
                have H := HA.out
                clear HA
                simp only [laws_FnExactCancel.j1] at H
                by_cases c87 : x82_60 = true
                · subst c87
                  have H1 : (some false) = some r := by rw [if_pos rfl] at H; exact H
                  clear H
                  have H := H1
                  clear H1
                  exact absurd (Option.some.inj H) (by rw [HQ_.out]; simp)
                · replace c87 := Bool.eq_false_iff.mpr c87
                  subst c87
                  have H1 : ((laws_markTokens.f kj60 t910 t913 1).bind fun bt935 => ((laws_markIntS.f kj60 t916 bt935.1).bind fun bt938 => ((laws_heldTokens.f kj60 bt935.2.1 bt935.2.2 1).bind fun t940 => (if t940 < 0 then (some false) else ((laws_heldIntS.f kj60 bt938.2 t940).bind fun t941 => (if t941 < 0 then (some false) else (if t941 = bt938.1 then ((laws_toTokens.f kj60 l0_0 l0_1).bind fun bt942 => ((impl_Cancel.f kj60 bt942.1 bt942.2 a1).bind fun bt948 => ((laws_eqTokens.f kj60 bt948.1 bt948.2.1 t892 t895).bind fun t959 => (if t959 = true then ((laws_eqIntS.f kj60 bt948.2.2.1 t898).bind fun t960 => (if t960 = true then (laws_FnExactCancel.j2 kj60 bt938.2 bt938.1 (bt948.2.2.2 != t901) bt935.2.1 bt935.2.2) else (laws_FnExactCancel.j2 kj60 bt938.2 bt938.1 true bt935.2.1 bt935.2.2))) else (laws_FnExactCancel.j2 kj60 bt938.2 bt938.1 true bt935.2.1 bt935.2.2))))) else (some false)))))))) = some r := by rw [if_neg (show ¬ (false = true) by decide)] at H; exact H
                  clear H
                  have H := H1
                  clear H1
                  replace H := Option.bind_eq_some_iff.mp H
                  obtain ⟨⟨t935, t936, t937⟩, A880, H⟩ := H
                  replace H : ((laws_markIntS.f kj60 t916 t935).bind fun bt938 => ((laws_heldTokens.f kj60 t936 t937 1).bind fun t940 => (if t940 < 0 then (some false) else ((laws_heldIntS.f kj60 bt938.2 t940).bind fun t941 => (if t941 < 0 then (some false) else (if t941 = bt938.1 then ((laws_toTokens.f kj60 l0_0 l0_1).bind fun bt942 => ((impl_Cancel.f kj60 bt942.1 bt942.2 a1).bind fun bt948 => ((laws_eqTokens.f kj60 bt948.1 bt948.2.1 t892 t895).bind fun t959 => (if t959 = true then ((laws_eqIntS.f kj60 bt948.2.2.1 t898).bind fun t960 => (if t960 = true then (laws_FnExactCancel.j2 kj60 bt938.2 bt938.1 (bt948.2.2.2 != t901) t936 t937) else (laws_FnExactCancel.j2 kj60 bt938.2 bt938.1 true t936 t937))) else (laws_FnExactCancel.j2 kj60 bt938.2 bt938.1 true t936 t937))))) else (some false))))))) = some r := H
                  have A88 := Aside0.mk A880
                  clear A880
                  replace H := Option.bind_eq_some_iff.mp H
                  obtain ⟨⟨t938, t939⟩, A890, H⟩ := H
                  replace H : ((laws_heldTokens.f kj60 t936 t937 1).bind fun t940 => (if t940 < 0 then (some false) else ((laws_heldIntS.f kj60 t939 t940).bind fun t941 => (if t941 < 0 then (some false) else (if t941 = t938 then ((laws_toTokens.f kj60 l0_0 l0_1).bind fun bt942 => ((impl_Cancel.f kj60 bt942.1 bt942.2 a1).bind fun bt948 => ((laws_eqTokens.f kj60 bt948.1 bt948.2.1 t892 t895).bind fun t959 => (if t959 = true then ((laws_eqIntS.f kj60 bt948.2.2.1 t898).bind fun t960 => (if t960 = true then (laws_FnExactCancel.j2 kj60 t939 t938 (bt948.2.2.2 != t901) t936 t937) else (laws_FnExactCancel.j2 kj60 t939 t938 true t936 t937))) else (laws_FnExactCancel.j2 kj60 t939 t938 true t936 t937))))) else (some false)))))) = some r := H
                  have A89 := Aside0.mk A890
                  clear A890
                  replace H := Option.bind_eq_some_iff.mp H
                  obtain ⟨t940, A900, H⟩ := H
                  replace H : (if t940 < 0 then (some false) else ((laws_heldIntS.f kj60 t939 t940).bind fun t941 => (if t941 < 0 then (some false) else (if t941 = t938 then ((laws_toTokens.f kj60 l0_0 l0_1).bind fun bt942 => ((impl_Cancel.f kj60 bt942.1 bt942.2 a1).bind fun bt948 => ((laws_eqTokens.f kj60 bt948.1 bt948.2.1 t892 t895).bind fun t959 => (if t959 = true then ((laws_eqIntS.f kj60 bt948.2.2.1 t898).bind fun t960 => (if t960 = true then (laws_FnExactCancel.j2 kj60 t939 t938 (bt948.2.2.2 != t901) t936 t937) else (laws_FnExactCancel.j2 kj60 t939 t938 true t936 t937))) else (laws_FnExactCancel.j2 kj60 t939 t938 true t936 t937))))) else (some false))))) = some r := H
                  have A90 := Aside0.mk A900
                  clear A900
                  by_cases c91 : t940 < 0
                  · rw [if_pos c91] at H
                    have c91b0 : decide (t940 < 0) = true := decide_eq_true c91
                    clear c91
                    exact absurd (Option.some.inj H) (by rw [HQ_.out]; simp)
                  · rw [if_neg c91] at H
                    have c91b0 : decide (t940 < 0) = false := decide_eq_false c91
                    clear c91
                    replace H := Option.bind_eq_some_iff.mp H
                    obtain ⟨t941, A920, H⟩ := H
                    replace H : (if t941 < 0 then (some false) else (if t941 = t938 then ((laws_toTokens.f kj60 l0_0 l0_1).bind fun bt942 => ((impl_Cancel.f kj60 bt942.1 bt942.2 a1).bind fun bt948 => ((laws_eqTokens.f kj60 bt948.1 bt948.2.1 t892 t895).bind fun t959 => (if t959 = true then ((laws_eqIntS.f kj60 bt948.2.2.1 t898).bind fun t960 => (if t960 = true then (laws_FnExactCancel.j2 kj60 t939 t938 (bt948.2.2.2 != t901) t936 t937) else (laws_FnExactCancel.j2 kj60 t939 t938 true t936 t937))) else (laws_FnExactCancel.j2 kj60 t939 t938 true t936 t937))))) else (some false))) = some r := H
                    have A92 := Aside0.mk A920
                    clear A920
                    by_cases c93 : t941 < 0
                    · rw [if_pos c93] at H
                      have c93b0 : decide (t941 < 0) = true := decide_eq_true c93
                      clear c93
                      exact absurd (Option.some.inj H) (by rw [HQ_.out]; simp)
                    · rw [if_neg c93] at H
                      have c93b0 : decide (t941 < 0) = false := decide_eq_false c93
                      clear c93
                      by_cases c94 : t941 = t938
                      · rw [if_pos c94] at H
                        have c94b0 : (t941 == t938) = true := beq_iff_eq.mpr c94
                        have c94b1 : (t941 != t938) = false := bne_eq_false_iff_eq.mpr c94
                        clear c94
                        replace H := Option.bind_eq_some_iff.mp H
                        obtain ⟨⟨t942, t945⟩, A950, H⟩ := H
                        replace H : ((impl_Cancel.f kj60 t942 t945 a1).bind fun bt948 => ((laws_eqTokens.f kj60 bt948.1 bt948.2.1 t892 t895).bind fun t959 => (if t959 = true then ((laws_eqIntS.f kj60 bt948.2.2.1 t898).bind fun t960 => (if t960 = true then (laws_FnExactCancel.j2 kj60 t939 t938 (bt948.2.2.2 != t901) t936 t937) else (laws_FnExactCancel.j2 kj60 t939 t938 true t936 t937))) else (laws_FnExactCancel.j2 kj60 t939 t938 true t936 t937)))) = some r := H
                        have A95 := Aside0.mk A950
                        clear A950
                        replace H := Option.bind_eq_some_iff.mp H
                        obtain ⟨⟨t948, t951, t954, t957⟩, A960, H⟩ := H
                        replace H : ((laws_eqTokens.f kj60 t948 t951 t892 t895).bind fun t959 => (if t959 = true then ((laws_eqIntS.f kj60 t954 t898).bind fun t960 => (if t960 = true then (laws_FnExactCancel.j2 kj60 t939 t938 (t957 != t901) t936 t937) else (laws_FnExactCancel.j2 kj60 t939 t938 true t936 t937))) else (laws_FnExactCancel.j2 kj60 t939 t938 true t936 t937))) = some r := H
                        have A96 := Aside0.mk A960
                        clear A960
                        have HC97 := Aside0.mk H
                        clear H
                        have hnb98 := NB920_884.out
                        have hnc98 := NB884_920.out
                        have hnb99 := NB920_902.out
                        have hnc99 := NB902_920.out
                        have hnb100 := NB920_909.out
                        have hnc100 := NB909_920.out
                        have hcz101_0 : wc.cell? ⟨gb920, 0, none⟩ = some (.slice Ao36 t910.length co36) := (blk_cell BK920.out 0).trans rfl
                        have hcz101_1 : wc.cell? ⟨gb920, 1, none⟩ = some (.slice Ao41 t913.length co41) := (blk_cell BK920.out 1).trans rfl
                        have hfz101_0 := blk_frozen BK920.out 0
                        have hfz101_1 := blk_frozen BK920.out 1
                        go_upto_region 29 with (first | ((with_reducible refine gate_callee (f := 38) rfl ?_); refine goesL_ (some 85) rfl rfl Try.func38 (by kernel_rfl) rfl #[.agg #[.slice Ao36 t910.length co36, .slice Ao41 t913.length co41], .int .i64 1] rfl (by (try simp only [List.map_toArray, List.map_cons, List.map_nil]); first | done | rfl | (simp only [List.length_drop, List.length_take]; rfl) | (go_simp; done) | (simp [*]; done)) ?_; (with_reducible refine (laws_markTokens.calls kj60 (fun k_ => some k_ = (.slice Ao36 t910.length co36 : Value).ownBlock) (.slice Ao36 t910.length co36) t910 (fun k_ => some k_ = (.slice Ao41 t913.length co41 : Value).ownBlock) (.slice Ao41 t913.length co41) t913 1 t935 t936 t937 w _ ?side1 ?side2 ?side3 A88.out).mono ?_); (case side1 => repeat (first | (with_reducible first | exact HB.out | apply below_alloc | apply pw_below_drewN | apply below_drew1 | refine below_set ?_ GE884.out | refine below_set ?_ GE902.out | refine below_set ?_ GE909.out | refine below_set ?_ GE920.out) | exact HB.out)); (case side2 => exact Kd.R_tight rfl HO_921000.out); (case side3 => exact Kd.R_tight rfl HO_921001.out); rintro e w102 ⟨rfl, hy0, hy1, hb, hkp⟩; refine ⟨_, rfl, ?_⟩; have n0_ := Aside0.mk (Kd.R_mono (ok' := fun k_ => some k_ ≠ (v917 : Value).ownBlock ∧ some k_ ≠ (.slice Ao22 t892.length co22 : Value).ownBlock ∧ some k_ ≠ (.slice Ao29 t931.length co29 : Value).ownBlock ∧ some k_ ≠ (.slice Ao36 t910.length co36 : Value).ownBlock) (Kd.R_keptB ((Kd.R_apart' HO_7.out (Kd.R_typed HO_921001.out) (by decide))) hkp (fun k_ hk_ hs_ => Or.elim hs_ (fun e_ => (hk_.1.2.2.2) e_) (fun e_ => (hk_.2) e_))) (fun k_ hk_ => ⟨hk_.1.1.1, hk_.1.1.2.1, hk_.1.1.2.2.1, hk_.1.1.2.2.2⟩)); have n1_ := Aside0.mk (Kd.R_mono (ok' := fun k_ => some k_ ≠ (v899 : Value).ownBlock ∧ some k_ ≠ (.slice Ao22 t892.length co22 : Value).ownBlock ∧ some k_ ≠ (.slice Ao29 t931.length co29 : Value).ownBlock ∧ some k_ ≠ (.slice Ao36 t910.length co36 : Value).ownBlock) (Kd.R_keptB ((Kd.R_apart' HO_11.out (Kd.R_typed HO_921001.out) (by decide))) hkp (fun k_ hk_ hs_ => Or.elim hs_ (fun e_ => (hk_.1.2.2.2) e_) (fun e_ => (hk_.2) e_))) (fun k_ hk_ => ⟨hk_.1.1.1, hk_.1.1.2.1, hk_.1.1.2.2.1, hk_.1.1.2.2.2⟩)); have n2_ := Aside0.mk (Kd.R_mono (ok' := fun k_ => some k_ ≠ (v899 : Value).ownBlock ∧ some k_ ≠ (v917 : Value).ownBlock ∧ some k_ ≠ (.slice Ao29 t931.length co29 : Value).ownBlock ∧ some k_ ≠ (.slice Ao36 t910.length co36 : Value).ownBlock) (Kd.R_keptB ((Kd.R_apart' HO_903000.out (Kd.R_typed HO_921001.out) (by decide))) hkp (fun k_ hk_ hs_ => Or.elim hs_ (fun e_ => (hk_.1.2.2.2) e_) (fun e_ => (hk_.2) e_))) (fun k_ hk_ => ⟨hk_.1.1.1, hk_.1.1.2.1, hk_.1.1.2.2.1, hk_.1.1.2.2.2⟩)); have n3_ := Aside0.mk (Kd.R_mono (ok' := fun k_ => some k_ ≠ (.slice Ao33 t932.length co33 : Value).ownBlock ∧ some k_ ≠ (.slice Ao41 t913.length co41 : Value).ownBlock) (Kd.R_keptB ((Kd.R_apart' HO_903001.out (Kd.R_typed HO_921000.out) (by decide))) hkp (fun k_ hk_ hs_ => Or.elim hs_ (fun e_ => (hk_.2) e_) (fun e_ => (hk_.1.2) e_))) (fun k_ hk_ => ⟨hk_.1.1.1, hk_.1.1.2⟩)); have n4_ := Aside0.mk (Kd.R_mono (ok' := fun k_ => some k_ ≠ (v899 : Value).ownBlock ∧ some k_ ≠ (v917 : Value).ownBlock ∧ some k_ ≠ (.slice Ao22 t892.length co22 : Value).ownBlock ∧ some k_ ≠ (.slice Ao36 t910.length co36 : Value).ownBlock) (Kd.R_keptB ((Kd.R_apart' HO_910000.out (Kd.R_typed HO_921001.out) (by decide))) hkp (fun k_ hk_ hs_ => Or.elim hs_ (fun e_ => (hk_.1.2.2.2) e_) (fun e_ => (hk_.2) e_))) (fun k_ hk_ => ⟨hk_.1.1.1, hk_.1.1.2.1, hk_.1.1.2.2.1, hk_.1.1.2.2.2⟩)); have n5_ := Aside0.mk (Kd.R_mono (ok' := fun k_ => some k_ ≠ (.slice Ao25 t895.length co25 : Value).ownBlock ∧ some k_ ≠ (.slice Ao41 t913.length co41 : Value).ownBlock) (Kd.R_keptB ((Kd.R_apart' HO_910001.out (Kd.R_typed HO_921000.out) (by decide))) hkp (fun k_ hk_ hs_ => Or.elim hs_ (fun e_ => (hk_.2) e_) (fun e_ => (hk_.1.2) e_))) (fun k_ hk_ => ⟨hk_.1.1.1, hk_.1.1.2⟩)); have n6_ := Aside0.mk (Kd.R_reok rfl hy0 (fun k_ e_ => HO_921000.out.1 k_ e_)); have n7_ := Aside0.mk (Kd.R_reok rfl hy1 (fun k_ e_ => HO_921001.out.1 k_ e_)); have n8_ := Aside0.mk (blk_kept (pkK BK884.out) hkp (fun hs_ => Or.elim hs_ (fun e_ => (fun e_ => (Kd.R_ne HO_921000.out BK884.out (by decide)) e_) e_) (fun e_ => (fun e_ => (Kd.R_ne HO_921001.out BK884.out (by decide)) e_) e_))); have n9_ := Aside0.mk (blk_kept (pkK BK902.out) hkp (fun hs_ => Or.elim hs_ (fun e_ => (fun e_ => (Kd.R_ne HO_921000.out BK902.out (by decide)) e_) e_) (fun e_ => (fun e_ => (Kd.R_ne HO_921001.out BK902.out (by decide)) e_) e_))); have n10_ := Aside0.mk (blk_kept (pkK BK909.out) hkp (fun hs_ => Or.elim hs_ (fun e_ => (fun e_ => (Kd.R_ne HO_921000.out BK909.out (by decide)) e_) e_) (fun e_ => (fun e_ => (Kd.R_ne HO_921001.out BK909.out (by decide)) e_) e_))); have n11_ := Aside0.mk (blk_kept (pkK BK920.out) hkp (fun hs_ => Or.elim hs_ (fun e_ => (fun e_ => (Kd.R_ne HO_921000.out BK920.out (by decide)) e_) e_) (fun e_ => (fun e_ => (Kd.R_ne HO_921001.out BK920.out (by decide)) e_) e_))); have n12_ := Aside0.mk (hb); clear HO_7 HO_11 HO_903000 HO_903001 HO_910000 HO_910001 HO_921000 HO_921001 BK884 BK902 BK909 BK920 HB; have HO_7 := n0_; have HO_11 := n1_; have HO_903000 := n2_; have HO_903001 := n3_; have HO_910000 := n4_; have HO_910001 := n5_; have HO_921000 := n6_; have HO_921001 := n7_; have BK884 := n8_; have BK902 := n9_; have BK909 := n10_; have BK920 := n11_; have HB := n12_; clear n0_ n1_ n2_ n3_ n4_ n5_ n6_ n7_ n8_ n9_ n10_ n11_ n12_; (try clear hb); (try clear hkp); (try clear hy0); (try clear hy1); obtain ⟨Ao103, co103, eo103⟩ := Kd.R_slice HO_11.out; subst eo103) | ((with_reducible refine gate_callee (f := 28) rfl ?_); refine goesL_ (some 88) rfl rfl Try.func28 (by kernel_rfl) rfl #[.slice Ao103 t916.length co103, .int .i64 t935] rfl (by (try simp only [List.map_toArray, List.map_cons, List.map_nil]); first | done | rfl | (simp only [List.length_drop, List.length_take]; rfl) | (go_simp; done) | (simp [*]; done)) ?_; (with_reducible refine (laws_markIntS.calls kj60 (fun k_ => some k_ = (.slice Ao103 t916.length co103 : Value).ownBlock) (.slice Ao103 t916.length co103) t916 t935 t938 t939 w _ ?side1 ?side2 A89.out).mono ?_); (case side1 => repeat (first | (with_reducible first | exact HB.out | apply below_alloc | apply pw_below_drewN | apply below_drew1 | refine below_set ?_ GE884.out | refine below_set ?_ GE902.out | refine below_set ?_ GE909.out | refine below_set ?_ GE920.out) | exact HB.out)); (case side2 => exact Kd.R_tight rfl HO_11.out); rintro e w104 ⟨rfl, hy0, hb, hkp⟩; refine ⟨_, rfl, ?_⟩; have n0_ := Aside0.mk (Kd.R_mono (ok' := fun k_ => some k_ ≠ (.slice Ao103 t916.length co103 : Value).ownBlock ∧ some k_ ≠ (.slice Ao22 t892.length co22 : Value).ownBlock ∧ some k_ ≠ (.slice Ao29 t931.length co29 : Value).ownBlock ∧ some k_ ≠ (.slice Ao36 t910.length co36 : Value).ownBlock) (Kd.R_keptB (HO_7.out) hkp (fun k_ hk_ hs_ => (hk_.1) hs_)) (fun k_ hk_ => ⟨hk_.1.1, hk_.1.2.1, hk_.1.2.2.1, hk_.1.2.2.2⟩)); have n1_ := Aside0.mk (Kd.R_reok rfl hy0 (fun k_ e_ => HO_11.out.1 k_ e_)); have n2_ := Aside0.mk (Kd.R_mono (ok' := fun k_ => some k_ ≠ (v899 : Value).ownBlock ∧ some k_ ≠ (.slice Ao103 t916.length co103 : Value).ownBlock ∧ some k_ ≠ (.slice Ao29 t931.length co29 : Value).ownBlock ∧ some k_ ≠ (.slice Ao36 t910.length co36 : Value).ownBlock) (Kd.R_keptB (HO_903000.out) hkp (fun k_ hk_ hs_ => (hk_.2.1) hs_)) (fun k_ hk_ => ⟨hk_.1.1, hk_.1.2.1, hk_.1.2.2.1, hk_.1.2.2.2⟩)); have n3_ := Aside0.mk (Kd.R_mono (ok' := fun k_ => some k_ ≠ (.slice Ao33 t932.length co33 : Value).ownBlock ∧ some k_ ≠ (.slice Ao41 t913.length co41 : Value).ownBlock) (Kd.R_keptB ((Kd.R_apart' HO_903001.out (Kd.R_typed HO_11.out) (by decide))) hkp (fun k_ hk_ hs_ => (hk_.2) hs_)) (fun k_ hk_ => ⟨hk_.1.1.1, hk_.1.1.2⟩)); have n4_ := Aside0.mk (Kd.R_mono (ok' := fun k_ => some k_ ≠ (v899 : Value).ownBlock ∧ some k_ ≠ (.slice Ao103 t916.length co103 : Value).ownBlock ∧ some k_ ≠ (.slice Ao22 t892.length co22 : Value).ownBlock ∧ some k_ ≠ (.slice Ao36 t910.length co36 : Value).ownBlock) (Kd.R_keptB (HO_910000.out) hkp (fun k_ hk_ hs_ => (hk_.2.1) hs_)) (fun k_ hk_ => ⟨hk_.1.1, hk_.1.2.1, hk_.1.2.2.1, hk_.1.2.2.2⟩)); have n5_ := Aside0.mk (Kd.R_mono (ok' := fun k_ => some k_ ≠ (.slice Ao25 t895.length co25 : Value).ownBlock ∧ some k_ ≠ (.slice Ao41 t913.length co41 : Value).ownBlock) (Kd.R_keptB ((Kd.R_apart' HO_910001.out (Kd.R_typed HO_11.out) (by decide))) hkp (fun k_ hk_ hs_ => (hk_.2) hs_)) (fun k_ hk_ => ⟨hk_.1.1.1, hk_.1.1.2⟩)); have n6_ := Aside0.mk (Kd.R_mono (ok' := fun k_ => some k_ ≠ (v899 : Value).ownBlock ∧ some k_ ≠ (.slice Ao103 t916.length co103 : Value).ownBlock ∧ some k_ ≠ (.slice Ao22 t892.length co22 : Value).ownBlock ∧ some k_ ≠ (.slice Ao29 t931.length co29 : Value).ownBlock) (Kd.R_keptB (HO_921000.out) hkp (fun k_ hk_ hs_ => (hk_.2.1) hs_)) (fun k_ hk_ => ⟨hk_.1.1, hk_.1.2.1, hk_.1.2.2.1, hk_.1.2.2.2⟩)); have n7_ := Aside0.mk (Kd.R_mono (ok' := fun k_ => some k_ ≠ (.slice Ao25 t895.length co25 : Value).ownBlock ∧ some k_ ≠ (.slice Ao33 t932.length co33 : Value).ownBlock) (Kd.R_keptB ((Kd.R_apart' HO_921001.out (Kd.R_typed HO_11.out) (by decide))) hkp (fun k_ hk_ hs_ => (hk_.2) hs_)) (fun k_ hk_ => ⟨hk_.1.1.1, hk_.1.1.2⟩)); have n8_ := Aside0.mk (blk_kept (pkK BK884.out) hkp (fun hs_ => (fun e_ => (Kd.R_ne HO_11.out BK884.out (by decide)) e_) hs_)); have n9_ := Aside0.mk (blk_kept (pkK BK902.out) hkp (fun hs_ => (fun e_ => (Kd.R_ne HO_11.out BK902.out (by decide)) e_) hs_)); have n10_ := Aside0.mk (blk_kept (pkK BK909.out) hkp (fun hs_ => (fun e_ => (Kd.R_ne HO_11.out BK909.out (by decide)) e_) hs_)); have n11_ := Aside0.mk (blk_kept (pkK BK920.out) hkp (fun hs_ => (fun e_ => (Kd.R_ne HO_11.out BK920.out (by decide)) e_) hs_)); have n12_ := Aside0.mk (hb); clear HO_7 HO_11 HO_903000 HO_903001 HO_910000 HO_910001 HO_921000 HO_921001 BK884 BK902 BK909 BK920 HB; have HO_7 := n0_; have HO_11 := n1_; have HO_903000 := n2_; have HO_903001 := n3_; have HO_910000 := n4_; have HO_910001 := n5_; have HO_921000 := n6_; have HO_921001 := n7_; have BK884 := n8_; have BK902 := n9_; have BK909 := n10_; have BK920 := n11_; have HB := n12_; clear n0_ n1_ n2_ n3_ n4_ n5_ n6_ n7_ n8_ n9_ n10_ n11_ n12_; (try clear hb); (try clear hkp); (try clear hy0); have hcz105_0 : w104.cell? ⟨gb920, 0, none⟩ = some (.slice Ao36 t910.length co36) := (blk_cell BK920.out 0).trans rfl; have hcz105_1 : w104.cell? ⟨gb920, 1, none⟩ = some (.slice Ao41 t913.length co41) := (blk_cell BK920.out 1).trans rfl; have hfz105_0 := blk_frozen BK920.out 0; have hfz105_1 := blk_frozen BK920.out 1) | ((with_reducible refine gate_callee (f := 41) rfl ?_); refine goesL_ (some 91) rfl rfl Try.func41 (by kernel_rfl) rfl #[.agg #[.slice Ao36 t936.length co36, .slice Ao41 t937.length co41], .int .i64 1] rfl (by (try simp only [List.map_toArray, List.map_cons, List.map_nil]); first | done | (rw [show t936.length = t910.length from (Kd.R_reads' HO_921000.out).1.symm, show t937.length = t913.length from (Kd.R_reads' HO_921001.out).1.symm] <;> rfl) | rfl | (simp only [List.length_drop, List.length_take]; rfl) | (go_simp; done) | (simp [*]; done)) ?_; (with_reducible refine (laws_heldTokens.calls kj60 _ _ t936 _ _ t937 1 t940 _ ?side1 ?side2 ?side3 ?side4 A90.out).mono ?_); (case side1 => exact pkC (Kd.R_reads' HO_921000.out).2.2); (case side2 => rw [show t936.length = t910.length from (Kd.R_reads' HO_921000.out).1.symm]; exact (Kd.R_reads' HO_921000.out).2.1); (case side3 => exact pkC (Kd.R_reads' HO_921001.out).2.2); (case side4 => rw [show t937.length = t913.length from (Kd.R_reads' HO_921001.out).1.symm]; exact (Kd.R_reads' HO_921001.out).2.1); rintro e w106 ⟨rfl, hb⟩; refine ⟨_, rfl, ?_⟩; have n0_ := Aside0.mk (Kd.R_below (pkR HO_7.out) hb); have n1_ := Aside0.mk (Kd.R_below (pkR HO_11.out) hb); have n2_ := Aside0.mk (Kd.R_below (pkR HO_903000.out) hb); have n3_ := Aside0.mk (Kd.R_below (pkR HO_903001.out) hb); have n4_ := Aside0.mk (Kd.R_below (pkR HO_910000.out) hb); have n5_ := Aside0.mk (Kd.R_below (pkR HO_910001.out) hb); have n6_ := Aside0.mk (Kd.R_below (pkR HO_921000.out) hb); have n7_ := Aside0.mk (Kd.R_below (pkR HO_921001.out) hb); have n8_ := Aside0.mk (blk_below (g := gb884) (o := .cells #[.slice A0_0 l0_0.length c0_0, .slice A0_1 l0_1.length c0_1] 30 (0, 0)) (pkK BK884.out) hb); have n9_ := Aside0.mk (blk_below (g := gb902) (o := .cells #[.slice Ao22 t892.length co22, .slice Ao25 t895.length co25] 33 (0, 0)) (pkK BK902.out) hb); have n10_ := Aside0.mk (blk_below (g := gb909) (o := .cells #[.slice Ao29 t931.length co29, .slice Ao33 t932.length co33] 33 (0, 0)) (pkK BK909.out) hb); have n11_ := Aside0.mk (blk_below (g := gb920) (o := .cells #[.slice Ao36 t910.length co36, .slice Ao41 t913.length co41] 33 (0, 0)) (pkK BK920.out) hb); have n12_ := Aside0.mk (below_step (by repeat (first | (with_reducible first | exact HB.out | apply below_alloc | apply pw_below_drewN | apply below_drew1 | refine below_set ?_ GE884.out | refine below_set ?_ GE902.out | refine below_set ?_ GE909.out | refine below_set ?_ GE920.out) | exact HB.out)) hb); clear HO_7 HO_11 HO_903000 HO_903001 HO_910000 HO_910001 HO_921000 HO_921001 BK884 BK902 BK909 BK920 HB; have HO_7 := n0_; have HO_11 := n1_; have HO_903000 := n2_; have HO_903001 := n3_; have HO_910000 := n4_; have HO_910001 := n5_; have HO_921000 := n6_; have HO_921001 := n7_; have BK884 := n8_; have BK902 := n9_; have BK909 := n10_; have BK920 := n11_; have HB := n12_; clear n0_ n1_ n2_ n3_ n4_ n5_ n6_ n7_ n8_ n9_ n10_ n11_ n12_; (try clear hb); (try clear hb2); (try clear hk); (try clear hi)) | ((with_reducible refine gate_callee (f := 29) rfl ?_); refine goesL_ (some 96) rfl rfl Try.func29 (by kernel_rfl) rfl #[.slice Ao103 t939.length co103, .int .i64 t940] rfl (by (try simp only [List.map_toArray, List.map_cons, List.map_nil]); first | done | (rw [show t939.length = t916.length from (Kd.R_reads' HO_11.out).1.symm] <;> rfl) | rfl | (simp only [List.length_drop, List.length_take]; rfl) | (go_simp; done) | (simp [*]; done)) ?_; (with_reducible refine (laws_heldIntS.calls kj60 _ _ t939 t940 t941 _ ?side1 ?side2 A92.out).mono ?_); (case side1 => exact pkC (Kd.R_reads' HO_11.out).2.2); (case side2 => rw [show t939.length = t916.length from (Kd.R_reads' HO_11.out).1.symm]; exact (Kd.R_reads' HO_11.out).2.1); rintro e w' ⟨rfl, ⟨nd, rfl⟩⟩; refine ⟨_, rfl, ?_⟩; (try (rw [drewN_self w106]; generalize hq_ : World.drewN w106 _ = w106; have n0_ : Aside0 (Kd.R (Kd.int .i64) 3 w106 w.heap.size (fun k_ => (some k_ ≠ (v899 : Value).ownBlock ∧ (some k_ ≠ (.slice Ao22 t892.length co22 : Value).ownBlock ∧ (some k_ ≠ (.slice Ao29 t931.length co29 : Value).ownBlock ∧ some k_ ≠ (.slice Ao36 t910.length co36 : Value).ownBlock)))) (.slice Ao103 t916.length co103) t939) := ⟨by rw [← hq_]; exact (pkR HO_11.out)⟩; have n1_ : Aside0 (Kd.R (Kd.int .i64) 3 w106 w.heap.size (fun k_ => (some k_ ≠ (.slice Ao103 t916.length co103 : Value).ownBlock ∧ (some k_ ≠ (.slice Ao22 t892.length co22 : Value).ownBlock ∧ (some k_ ≠ (.slice Ao29 t931.length co29 : Value).ownBlock ∧ some k_ ≠ (.slice Ao36 t910.length co36 : Value).ownBlock)))) v899 t898) := ⟨by rw [← hq_]; exact (pkR HO_7.out)⟩; have n2_ : Aside0 (Kd.R (Kd.int .i64) 3 w106 w.heap.size (fun k_ => (some k_ ≠ (v899 : Value).ownBlock ∧ (some k_ ≠ (.slice Ao103 t916.length co103 : Value).ownBlock ∧ (some k_ ≠ (.slice Ao29 t931.length co29 : Value).ownBlock ∧ some k_ ≠ (.slice Ao36 t910.length co36 : Value).ownBlock)))) (.slice Ao22 t892.length co22) t892) := ⟨by rw [← hq_]; exact (pkR HO_903000.out)⟩; have n3_ : Aside0 (Kd.R Kd.bool 4 w106 w.heap.size (fun k_ => (some k_ ≠ (.slice Ao33 t932.length co33 : Value).ownBlock ∧ some k_ ≠ (.slice Ao41 t913.length co41 : Value).ownBlock)) (.slice Ao25 t895.length co25) t895) := ⟨by rw [← hq_]; exact (pkR HO_903001.out)⟩; have n4_ : Aside0 (Kd.R (Kd.int .i64) 3 w106 w.heap.size (fun k_ => (some k_ ≠ (v899 : Value).ownBlock ∧ (some k_ ≠ (.slice Ao103 t916.length co103 : Value).ownBlock ∧ (some k_ ≠ (.slice Ao22 t892.length co22 : Value).ownBlock ∧ some k_ ≠ (.slice Ao36 t910.length co36 : Value).ownBlock)))) (.slice Ao29 t931.length co29) t931) := ⟨by rw [← hq_]; exact (pkR HO_910000.out)⟩; have n5_ : Aside0 (Kd.R Kd.bool 4 w106 w.heap.size (fun k_ => (some k_ ≠ (.slice Ao25 t895.length co25 : Value).ownBlock ∧ some k_ ≠ (.slice Ao41 t913.length co41 : Value).ownBlock)) (.slice Ao33 t932.length co33) t932) := ⟨by rw [← hq_]; exact (pkR HO_910001.out)⟩; have n6_ : Aside0 (Kd.R (Kd.int .i64) 3 w106 w.heap.size (fun k_ => (some k_ ≠ (v899 : Value).ownBlock ∧ (some k_ ≠ (.slice Ao103 t916.length co103 : Value).ownBlock ∧ (some k_ ≠ (.slice Ao22 t892.length co22 : Value).ownBlock ∧ some k_ ≠ (.slice Ao29 t931.length co29 : Value).ownBlock)))) (.slice Ao36 t910.length co36) t936) := ⟨by rw [← hq_]; exact (pkR HO_921000.out)⟩; have n7_ : Aside0 (Kd.R Kd.bool 4 w106 w.heap.size (fun k_ => (some k_ ≠ (.slice Ao25 t895.length co25 : Value).ownBlock ∧ some k_ ≠ (.slice Ao33 t932.length co33 : Value).ownBlock)) (.slice Ao41 t913.length co41) t937) := ⟨by rw [← hq_]; exact (pkR HO_921001.out)⟩; have n8_ : Aside0 (w106.heap[gb884]? = some (.cells #[.slice A0_0 l0_0.length c0_0, .slice A0_1 l0_1.length c0_1] 30 (0, 0))) := ⟨by rw [← hq_]; exact (pkK BK884.out)⟩; have n9_ : Aside0 (w106.heap[gb902]? = some (.cells #[.slice Ao22 t892.length co22, .slice Ao25 t895.length co25] 33 (0, 0))) := ⟨by rw [← hq_]; exact (pkK BK902.out)⟩; have n10_ : Aside0 (w106.heap[gb909]? = some (.cells #[.slice Ao29 t931.length co29, .slice Ao33 t932.length co33] 33 (0, 0))) := ⟨by rw [← hq_]; exact (pkK BK909.out)⟩; have n11_ : Aside0 (w106.heap[gb920]? = some (.cells #[.slice Ao36 t910.length co36, .slice Ao41 t913.length co41] 33 (0, 0))) := ⟨by rw [← hq_]; exact (pkK BK920.out)⟩; have n12_ : Aside0 (Below w.heap.size w w106) := ⟨by rw [← hq_]; exact (by repeat (first | (with_reducible first | exact HB.out | apply below_alloc | apply pw_below_drewN | apply below_drew1 | refine below_set ?_ GE884.out | refine below_set ?_ GE902.out | refine below_set ?_ GE909.out | refine below_set ?_ GE920.out) | exact HB.out))⟩; clear HO_11 HO_7 HO_903000 HO_903001 HO_910000 HO_910001 HO_921000 HO_921001 BK884 BK902 BK909 BK920 HB hq_; have HO_11 := n0_; have HO_7 := n1_; have HO_903000 := n2_; have HO_903001 := n3_; have HO_910000 := n4_; have HO_910001 := n5_; have HO_921000 := n6_; have HO_921001 := n7_; have BK884 := n8_; have BK902 := n9_; have BK909 := n10_; have BK920 := n11_; have HB := n12_; clear n0_ n1_ n2_ n3_ n4_ n5_ n6_ n7_ n8_ n9_ n10_ n11_ n12_)); have hnb107 := NB884_902.out; have hnc107 := NB902_884.out; have hnb108 := NB884_909.out; have hnc108 := NB909_884.out; have hcz109_0 : w106.cell? ⟨gb884, 0, none⟩ = some (.slice A0_0 l0_0.length c0_0) := (blk_cell BK884.out 0).trans rfl; have hcz109_1 : w106.cell? ⟨gb884, 1, none⟩ = some (.slice A0_1 l0_1.length c0_1) := (blk_cell BK884.out 1).trans rfl; have hfz109_0 := blk_frozen BK884.out 0; have hfz109_1 := blk_frozen BK884.out 1) | ((with_reducible refine gate_callee (f := 23) rfl ?_); refine goesL_ (some 104) rfl rfl Try.func23 (by kernel_rfl) rfl #[.agg #[.slice A0_0 l0_0.length c0_0, .slice A0_1 l0_1.length c0_1]] rfl (by (try simp only [List.map_toArray, List.map_cons, List.map_nil]); first | done | rfl | (simp only [List.length_drop, List.length_take]; rfl) | (go_simp; done) | (simp [*]; done)) ?_; (with_reducible refine (laws_toTokens.calls kj60 _ _ l0_0 _ _ l0_1 t942 t945 _ ?side1 ?side2 ?side3 ?side4 A95.out).mono ?_); (case side1 => exact pkC (Kd.C_below HR0_0.out HB.out)); (case side2 => exact HC0_0.out); (case side3 => exact pkC (Kd.C_below HR0_1.out HB.out)); (case side4 => exact HC0_1.out); rintro e w110 ⟨v943, v946, rfl, ho0, ho1, hb⟩; refine ⟨_, rfl, ?_⟩; have n0_ := Aside0.mk (Kd.R_elder' (pkR HO_7.out) (Kd.R_base ho0) hb); have n1_ := Aside0.mk (Kd.R_elder' (pkR HO_11.out) (Kd.R_base ho0) hb); have n2_ := Aside0.mk (Kd.R_elder' (pkR HO_903000.out) (Kd.R_base ho0) hb); have n3_ := Aside0.mk (Kd.R_elder' (pkR HO_903001.out) (Kd.R_base ho1) hb); have n4_ := Aside0.mk (Kd.R_elder' (pkR HO_910000.out) (Kd.R_base ho0) hb); have n5_ := Aside0.mk (Kd.R_elder' (pkR HO_910001.out) (Kd.R_base ho1) hb); have n6_ := Aside0.mk (Kd.R_elder' (pkR HO_921000.out) (Kd.R_base ho0) hb); have n7_ := Aside0.mk (Kd.R_elder' (pkR HO_921001.out) (Kd.R_base ho1) hb); have n8_ := Aside0.mk (Kd.R_lower (Kd.R_new' (Kd.R_new' (Kd.R_new' (Kd.R_new' (Kd.R_new' ho0 (Kd.R_lt (pkR HO_7.out))) (Kd.R_lt (pkR HO_11.out))) (Kd.R_lt (pkR HO_903000.out))) (Kd.R_lt (pkR HO_910000.out))) (Kd.R_lt (pkR HO_921000.out))) (below_size (by repeat (first | (with_reducible first | exact HB.out | apply below_alloc | apply pw_below_drewN | apply below_drew1 | refine below_set ?_ GE884.out | refine below_set ?_ GE902.out | refine below_set ?_ GE909.out | refine below_set ?_ GE920.out) | exact HB.out)))); have n9_ := Aside0.mk (Kd.R_lower (Kd.R_new' (Kd.R_new' (Kd.R_new' ho1 (Kd.R_lt (pkR HO_903001.out))) (Kd.R_lt (pkR HO_910001.out))) (Kd.R_lt (pkR HO_921001.out))) (below_size (by repeat (first | (with_reducible first | exact HB.out | apply below_alloc | apply pw_below_drewN | apply below_drew1 | refine below_set ?_ GE884.out | refine below_set ?_ GE902.out | refine below_set ?_ GE909.out | refine below_set ?_ GE920.out) | exact HB.out)))); have n10_ := Aside0.mk (blk_below (g := gb884) (o := .cells #[.slice A0_0 l0_0.length c0_0, .slice A0_1 l0_1.length c0_1] 30 (0, 0)) (pkK BK884.out) hb); have n11_ := Aside0.mk (blk_below (g := gb902) (o := .cells #[.slice Ao22 t892.length co22, .slice Ao25 t895.length co25] 33 (0, 0)) (pkK BK902.out) hb); have n12_ := Aside0.mk (blk_below (g := gb909) (o := .cells #[.slice Ao29 t931.length co29, .slice Ao33 t932.length co33] 33 (0, 0)) (pkK BK909.out) hb); have n13_ := Aside0.mk (blk_below (g := gb920) (o := .cells #[.slice Ao36 t910.length co36, .slice Ao41 t913.length co41] 33 (0, 0)) (pkK BK920.out) hb); have n14_ := Aside0.mk (below_step (by repeat (first | (with_reducible first | exact HB.out | apply below_alloc | apply pw_below_drewN | apply below_drew1 | refine below_set ?_ GE884.out | refine below_set ?_ GE902.out | refine below_set ?_ GE909.out | refine below_set ?_ GE920.out) | exact HB.out)) hb); clear HO_7 HO_11 HO_903000 HO_903001 HO_910000 HO_910001 HO_921000 HO_921001 BK884 BK902 BK909 BK920 HB; have HO_7 := n0_; have HO_11 := n1_; have HO_903000 := n2_; have HO_903001 := n3_; have HO_910000 := n4_; have HO_910001 := n5_; have HO_921000 := n6_; have HO_921001 := n7_; have HO944 := n8_; have HO947 := n9_; have BK884 := n10_; have BK902 := n11_; have BK909 := n12_; have BK920 := n13_; have HB := n14_; clear n0_ n1_ n2_ n3_ n4_ n5_ n6_ n7_ n8_ n9_ n10_ n11_ n12_ n13_ n14_; (try clear hb); (try clear hb2); (try clear hk); (try clear hi); (try clear ho0); (try clear ho1); obtain ⟨Ao111, co111, eo111⟩ := Kd.R_slice HO944.out; subst eo111; obtain ⟨Ao112, co112, eo112⟩ := Kd.R_slice HO947.out; subst eo112) | ((with_reducible refine gate_callee (f := 47) rfl ?_); refine goesL_ (some 106) rfl rfl Try.func47 (by kernel_rfl) rfl #[.agg #[.slice Ao111 t942.length co111, .slice Ao112 t945.length co112], .int .i64 a1] rfl (by (try simp only [List.map_toArray, List.map_cons, List.map_nil]); first | done | rfl | (simp only [List.length_drop, List.length_take]; rfl) | (go_simp; done) | (simp [*]; done)) ?_; (with_reducible refine (impl_Cancel.calls kj60 _ _ t942 _ _ t945 a1 t948 t951 t954 t957 _ ?side1 ?side2 ?side3 ?side4 A96.out).mono ?_); (case side1 => exact pkC (Kd.R_reads' HO944.out).2.2); (case side2 => exact (Kd.R_reads' HO944.out).2.1); (case side3 => exact pkC (Kd.R_reads' HO947.out).2.2); (case side4 => exact (Kd.R_reads' HO947.out).2.1); rintro e w113 ⟨v949, v952, v955, rfl, ho0, ho1, ho2, hb⟩; refine ⟨_, rfl, ?_⟩; have n0_ := Aside0.mk (Kd.R_mono (Kd.R_told (Kd.R_told (Kd.R_old (pkR HO_7.out) hb) (Kd.R_base ho0)) (Kd.R_base ho2)) (fun _ h_ => h_.1)); have n1_ := Aside0.mk (Kd.R_mono (Kd.R_told (Kd.R_told (Kd.R_old (pkR HO_11.out) hb) (Kd.R_base ho0)) (Kd.R_base ho2)) (fun _ h_ => h_.1)); have n2_ := Aside0.mk (Kd.R_mono (Kd.R_told (Kd.R_told (Kd.R_old (pkR HO_903000.out) hb) (Kd.R_base ho0)) (Kd.R_base ho2)) (fun _ h_ => h_.1)); have n3_ := Aside0.mk (Kd.R_elder' (pkR HO_903001.out) (Kd.R_base ho1) hb); have n4_ := Aside0.mk (Kd.R_mono (Kd.R_told (Kd.R_told (Kd.R_old (pkR HO_910000.out) hb) (Kd.R_base ho0)) (Kd.R_base ho2)) (fun _ h_ => h_.1)); have n5_ := Aside0.mk (Kd.R_elder' (pkR HO_910001.out) (Kd.R_base ho1) hb); have n6_ := Aside0.mk (Kd.R_mono (Kd.R_told (Kd.R_told (Kd.R_old (pkR HO_921000.out) hb) (Kd.R_base ho0)) (Kd.R_base ho2)) (fun _ h_ => h_.1)); have n7_ := Aside0.mk (Kd.R_elder' (pkR HO_921001.out) (Kd.R_base ho1) hb); have n8_ := Aside0.mk (Kd.R_mono (Kd.R_told (Kd.R_told (Kd.R_old (pkR HO944.out) hb) (Kd.R_base ho0)) (Kd.R_base ho2)) (fun _ h_ => h_.1)); have n9_ := Aside0.mk (Kd.R_elder' (pkR HO947.out) (Kd.R_base ho1) hb); have n10_ := Aside0.mk (Kd.R_lower (Kd.R_new' (Kd.R_new' (Kd.R_new' (Kd.R_new' (Kd.R_new' (Kd.R_new' ho0 (Kd.R_lt (pkR HO_7.out))) (Kd.R_lt (pkR HO_11.out))) (Kd.R_lt (pkR HO_903000.out))) (Kd.R_lt (pkR HO_910000.out))) (Kd.R_lt (pkR HO_921000.out))) (Kd.R_lt (pkR HO944.out))) (below_size (by repeat (first | (with_reducible first | exact HB.out | apply below_alloc | apply pw_below_drewN | apply below_drew1 | refine below_set ?_ GE884.out | refine below_set ?_ GE902.out | refine below_set ?_ GE909.out | refine below_set ?_ GE920.out) | exact HB.out)))); have n11_ := Aside0.mk (Kd.R_lower (Kd.R_new' (Kd.R_new' (Kd.R_new' (Kd.R_new' ho1 (Kd.R_lt (pkR HO_903001.out))) (Kd.R_lt (pkR HO_910001.out))) (Kd.R_lt (pkR HO_921001.out))) (Kd.R_lt (pkR HO947.out))) (below_size (by repeat (first | (with_reducible first | exact HB.out | apply below_alloc | apply pw_below_drewN | apply below_drew1 | refine below_set ?_ GE884.out | refine below_set ?_ GE902.out | refine below_set ?_ GE909.out | refine below_set ?_ GE920.out) | exact HB.out)))); have n12_ := Aside0.mk (Kd.R_lower (Kd.R_new' (Kd.R_new' (Kd.R_new' (Kd.R_new' (Kd.R_new' (Kd.R_new' ho2 (Kd.R_lt (pkR HO_7.out))) (Kd.R_lt (pkR HO_11.out))) (Kd.R_lt (pkR HO_903000.out))) (Kd.R_lt (pkR HO_910000.out))) (Kd.R_lt (pkR HO_921000.out))) (Kd.R_lt (pkR HO944.out))) (below_size (by repeat (first | (with_reducible first | exact HB.out | apply below_alloc | apply pw_below_drewN | apply below_drew1 | refine below_set ?_ GE884.out | refine below_set ?_ GE902.out | refine below_set ?_ GE909.out | refine below_set ?_ GE920.out) | exact HB.out)))); have n13_ := Aside0.mk (blk_below (g := gb884) (o := .cells #[.slice A0_0 l0_0.length c0_0, .slice A0_1 l0_1.length c0_1] 30 (0, 0)) (pkK BK884.out) hb); have n14_ := Aside0.mk (blk_below (g := gb902) (o := .cells #[.slice Ao22 t892.length co22, .slice Ao25 t895.length co25] 33 (0, 0)) (pkK BK902.out) hb); have n15_ := Aside0.mk (blk_below (g := gb909) (o := .cells #[.slice Ao29 t931.length co29, .slice Ao33 t932.length co33] 33 (0, 0)) (pkK BK909.out) hb); have n16_ := Aside0.mk (blk_below (g := gb920) (o := .cells #[.slice Ao36 t910.length co36, .slice Ao41 t913.length co41] 33 (0, 0)) (pkK BK920.out) hb); have n17_ := Aside0.mk (below_step (by repeat (first | (with_reducible first | exact HB.out | apply below_alloc | apply pw_below_drewN | apply below_drew1 | refine below_set ?_ GE884.out | refine below_set ?_ GE902.out | refine below_set ?_ GE909.out | refine below_set ?_ GE920.out) | exact HB.out)) hb); clear HO_7 HO_11 HO_903000 HO_903001 HO_910000 HO_910001 HO_921000 HO_921001 HO944 HO947 BK884 BK902 BK909 BK920 HB; have HO_7 := n0_; have HO_11 := n1_; have HO_903000 := n2_; have HO_903001 := n3_; have HO_910000 := n4_; have HO_910001 := n5_; have HO_921000 := n6_; have HO_921001 := n7_; have HO944 := n8_; have HO947 := n9_; have HO950 := n10_; have HO953 := n11_; have HO956 := n12_; have BK884 := n13_; have BK902 := n14_; have BK909 := n15_; have BK920 := n16_; have HB := n17_; clear n0_ n1_ n2_ n3_ n4_ n5_ n6_ n7_ n8_ n9_ n10_ n11_ n12_ n13_ n14_ n15_ n16_ n17_; (try clear hb); (try clear hb2); (try clear hk); (try clear hi); (try clear ho0); (try clear ho1); (try clear ho2)) | ((with_reducible refine gate_dst (N := 16) rfl ?_); refine box_event ?hg (N := 16) ?hd (cs := #[.slice none 0 0, .slice none 0 0]) (t := 33) ?hr ?_; (case hd => rfl); (case hg => rfl); (case hr => first | (go_simp; done) | (go_simp; rfl)); intro gb958 hg w114 hbox hb; have n0_ := Aside0.mk (Kd.R_below (pkR HO_7.out) hb); have n1_ := Aside0.mk (Kd.R_below (pkR HO_11.out) hb); have n2_ := Aside0.mk (Kd.R_below (pkR HO_903000.out) hb); have n3_ := Aside0.mk (Kd.R_below (pkR HO_903001.out) hb); have n4_ := Aside0.mk (Kd.R_below (pkR HO_910000.out) hb); have n5_ := Aside0.mk (Kd.R_below (pkR HO_910001.out) hb); have n6_ := Aside0.mk (Kd.R_below (pkR HO_921000.out) hb); have n7_ := Aside0.mk (Kd.R_below (pkR HO_921001.out) hb); have n8_ := Aside0.mk (Kd.R_below (pkR HO944.out) hb); have n9_ := Aside0.mk (Kd.R_below (pkR HO947.out) hb); have n10_ := Aside0.mk (Kd.R_below (pkR HO950.out) hb); have n11_ := Aside0.mk (Kd.R_below (pkR HO953.out) hb); have n12_ := Aside0.mk (Kd.R_below (pkR HO956.out) hb); have n13_ := Aside0.mk (blk_below (g := gb884) (o := .cells #[.slice A0_0 l0_0.length c0_0, .slice A0_1 l0_1.length c0_1] 30 (0, 0)) (pkK BK884.out) hb); have n14_ := Aside0.mk (blk_below (g := gb902) (o := .cells #[.slice Ao22 t892.length co22, .slice Ao25 t895.length co25] 33 (0, 0)) (pkK BK902.out) hb); have n15_ := Aside0.mk (blk_below (g := gb909) (o := .cells #[.slice Ao29 t931.length co29, .slice Ao33 t932.length co33] 33 (0, 0)) (pkK BK909.out) hb); have n16_ := Aside0.mk (blk_below (g := gb920) (o := .cells #[.slice Ao36 t910.length co36, .slice Ao41 t913.length co41] 33 (0, 0)) (pkK BK920.out) hb); have n17_ := Aside0.mk (below_step (by repeat (first | (with_reducible first | exact HB.out | apply below_alloc | apply pw_below_drewN | apply below_drew1 | refine below_set ?_ GE884.out | refine below_set ?_ GE902.out | refine below_set ?_ GE909.out | refine below_set ?_ GE920.out) | exact HB.out)) hb); have n18_ := Aside0.mk (hbox); have n19_ := Aside0.mk ((by rw [hg]; exact (below_size (by repeat (first | (with_reducible first | exact HB.out | apply below_alloc | apply pw_below_drewN | apply below_drew1 | refine below_set ?_ GE884.out | refine below_set ?_ GE902.out | refine below_set ?_ GE909.out | refine below_set ?_ GE920.out) | exact HB.out))) : w.heap.size ≤ gb958)); have n20_ := Aside0.mk ((by rw [hg]; exact (below_size (by repeat (first | (with_reducible first | exact HB.out | apply below_alloc | apply pw_below_drewN | apply below_drew1 | refine below_set ?_ GE884.out | refine below_set ?_ GE902.out | refine below_set ?_ GE909.out | refine below_set ?_ GE920.out) | exact HB.out))) : w.heap.size ≤ gb958)); have n21_ := Aside0.mk ((by rw [hg]; exact Nat.ne_of_lt (blk_lt (g := gb884) (o := .cells #[.slice A0_0 l0_0.length c0_0, .slice A0_1 l0_1.length c0_1] 30 (0, 0)) (pkK BK884.out)) : gb884 ≠ gb958)); have n22_ := Aside0.mk ((by rw [hg]; exact Nat.ne_of_gt (blk_lt (g := gb884) (o := .cells #[.slice A0_0 l0_0.length c0_0, .slice A0_1 l0_1.length c0_1] 30 (0, 0)) (pkK BK884.out)) : gb958 ≠ gb884)); have n23_ := Aside0.mk ((by rw [hg]; exact Nat.ne_of_lt (blk_lt (g := gb902) (o := .cells #[.slice Ao22 t892.length co22, .slice Ao25 t895.length co25] 33 (0, 0)) (pkK BK902.out)) : gb902 ≠ gb958)); have n24_ := Aside0.mk ((by rw [hg]; exact Nat.ne_of_gt (blk_lt (g := gb902) (o := .cells #[.slice Ao22 t892.length co22, .slice Ao25 t895.length co25] 33 (0, 0)) (pkK BK902.out)) : gb958 ≠ gb902)); have n25_ := Aside0.mk ((by rw [hg]; exact Nat.ne_of_lt (blk_lt (g := gb909) (o := .cells #[.slice Ao29 t931.length co29, .slice Ao33 t932.length co33] 33 (0, 0)) (pkK BK909.out)) : gb909 ≠ gb958)); have n26_ := Aside0.mk ((by rw [hg]; exact Nat.ne_of_gt (blk_lt (g := gb909) (o := .cells #[.slice Ao29 t931.length co29, .slice Ao33 t932.length co33] 33 (0, 0)) (pkK BK909.out)) : gb958 ≠ gb909)); have n27_ := Aside0.mk ((by rw [hg]; exact Nat.ne_of_lt (blk_lt (g := gb920) (o := .cells #[.slice Ao36 t910.length co36, .slice Ao41 t913.length co41] 33 (0, 0)) (pkK BK920.out)) : gb920 ≠ gb958)); have n28_ := Aside0.mk ((by rw [hg]; exact Nat.ne_of_gt (blk_lt (g := gb920) (o := .cells #[.slice Ao36 t910.length co36, .slice Ao41 t913.length co41] 33 (0, 0)) (pkK BK920.out)) : gb958 ≠ gb920)); clear HO_7 HO_11 HO_903000 HO_903001 HO_910000 HO_910001 HO_921000 HO_921001 HO944 HO947 HO950 HO953 HO956 BK884 BK902 BK909 BK920 HB; have HO_7 := n0_; have HO_11 := n1_; have HO_903000 := n2_; have HO_903001 := n3_; have HO_910000 := n4_; have HO_910001 := n5_; have HO_921000 := n6_; have HO_921001 := n7_; have HO944 := n8_; have HO947 := n9_; have HO950 := n10_; have HO953 := n11_; have HO956 := n12_; have BK884 := n13_; have BK902 := n14_; have BK909 := n15_; have BK920 := n16_; have HB := n17_; have BK958 := n18_; have GW958 := n19_; have GE958 := n20_; have NB884_958 := n21_; have NB958_884 := n22_; have NB902_958 := n23_; have NB958_902 := n24_; have NB909_958 := n25_; have NB958_909 := n26_; have NB920_958 := n27_; have NB958_920 := n28_; clear n0_ n1_ n2_ n3_ n4_ n5_ n6_ n7_ n8_ n9_ n10_ n11_ n12_ n13_ n14_ n15_ n16_ n17_ n18_ n19_ n20_ n21_ n22_ n23_ n24_ n25_ n26_ n27_ n28_; clear hb hbox hg; obtain ⟨Ao115, co115, eo115⟩ := Kd.R_slice HO950.out; subst eo115; have hnb116 := NB958_884.out; have hnc116 := NB884_958.out; have hnb117 := NB958_902.out; have hnc117 := NB902_958.out; have hnb118 := NB958_909.out; have hnc118 := NB909_958.out; have hnb119 := NB958_920.out; have hnc119 := NB920_958.out; have hcz120_0 : w114.cell? ⟨gb958, 0, none⟩ = some (.slice none 0 0) := (blk_cell BK958.out 0).trans rfl; have hcz120_1 : w114.cell? ⟨gb958, 1, none⟩ = some (.slice none 0 0) := (blk_cell BK958.out 1).trans rfl; have hfz120_0 := blk_frozen BK958.out 0; have hfz120_1 := blk_frozen BK958.out 1; obtain ⟨Ao121, co121, eo121⟩ := Kd.R_slice HO953.out; subst eo121))
                        (try simp only [Act.put, List.setIfInBounds_toArray, List.set_cons_zero, List.set_cons_succ])
                        go_cut [124] (fun v124 wc => ∃ (kq : Nat) (x124_96 : Bool), v124 = .bool x124_96 ∧ Aside0 (laws_FnExactCancel.j2 kq t939 t938 x124_96 t936 t937 = some r) ∧ Aside0 (kq ≤ kj60) ∧ Aside0 (Kd.R (Kd.int .i64) 3 wc w.heap.size (fun k_ => some k_ ≠ ((.slice Ao22 t892.length co22) : Value).ownBlock ∧ some k_ ≠ ((.slice Ao29 t931.length co29) : Value).ownBlock ∧ some k_ ≠ ((.slice Ao36 t910.length co36) : Value).ownBlock ∧ some k_ ≠ ((.slice Ao115 t948.length co115) : Value).ownBlock) (.slice Ao103 t916.length co103) t939) ∧ Aside0 (Kd.R (Kd.int .i64) 3 wc w.heap.size (fun k_ => some k_ ≠ ((.slice Ao103 t916.length co103) : Value).ownBlock ∧ some k_ ≠ ((.slice Ao29 t931.length co29) : Value).ownBlock ∧ some k_ ≠ ((.slice Ao36 t910.length co36) : Value).ownBlock ∧ some k_ ≠ ((.slice Ao115 t948.length co115) : Value).ownBlock) (.slice Ao22 t892.length co22) t892) ∧ Aside0 (Kd.R Kd.bool 4 wc w.heap.size (fun k_ => some k_ ≠ ((.slice Ao33 t932.length co33) : Value).ownBlock ∧ some k_ ≠ ((.slice Ao41 t913.length co41) : Value).ownBlock ∧ some k_ ≠ ((.slice Ao121 t951.length co121) : Value).ownBlock) (.slice Ao25 t895.length co25) t895) ∧ Aside0 (Kd.R (Kd.int .i64) 3 wc w.heap.size (fun k_ => some k_ ≠ ((.slice Ao103 t916.length co103) : Value).ownBlock ∧ some k_ ≠ ((.slice Ao22 t892.length co22) : Value).ownBlock ∧ some k_ ≠ ((.slice Ao36 t910.length co36) : Value).ownBlock ∧ some k_ ≠ ((.slice Ao115 t948.length co115) : Value).ownBlock) (.slice Ao29 t931.length co29) t931) ∧ Aside0 (Kd.R Kd.bool 4 wc w.heap.size (fun k_ => some k_ ≠ ((.slice Ao25 t895.length co25) : Value).ownBlock ∧ some k_ ≠ ((.slice Ao41 t913.length co41) : Value).ownBlock ∧ some k_ ≠ ((.slice Ao121 t951.length co121) : Value).ownBlock) (.slice Ao33 t932.length co33) t932) ∧ Aside0 (Kd.R (Kd.int .i64) 3 wc w.heap.size (fun k_ => some k_ ≠ ((.slice Ao103 t916.length co103) : Value).ownBlock ∧ some k_ ≠ ((.slice Ao22 t892.length co22) : Value).ownBlock ∧ some k_ ≠ ((.slice Ao29 t931.length co29) : Value).ownBlock ∧ some k_ ≠ ((.slice Ao115 t948.length co115) : Value).ownBlock) (.slice Ao36 t910.length co36) t936) ∧ Aside0 (Kd.R Kd.bool 4 wc w.heap.size (fun k_ => some k_ ≠ ((.slice Ao25 t895.length co25) : Value).ownBlock ∧ some k_ ≠ ((.slice Ao33 t932.length co33) : Value).ownBlock ∧ some k_ ≠ ((.slice Ao121 t951.length co121) : Value).ownBlock) (.slice Ao41 t913.length co41) t937) ∧ Aside0 (Kd.R (Kd.int .i64) 3 wc w.heap.size (fun k_ => some k_ ≠ ((.slice Ao103 t916.length co103) : Value).ownBlock ∧ some k_ ≠ ((.slice Ao22 t892.length co22) : Value).ownBlock ∧ some k_ ≠ ((.slice Ao29 t931.length co29) : Value).ownBlock ∧ some k_ ≠ ((.slice Ao36 t910.length co36) : Value).ownBlock) (.slice Ao115 t948.length co115) t948) ∧ Aside0 (Kd.R Kd.bool 4 wc w.heap.size (fun k_ => some k_ ≠ ((.slice Ao25 t895.length co25) : Value).ownBlock ∧ some k_ ≠ ((.slice Ao33 t932.length co33) : Value).ownBlock ∧ some k_ ≠ ((.slice Ao41 t913.length co41) : Value).ownBlock) (.slice Ao121 t951.length co121) t951) ∧ Aside0 (wc.heap[gb884]? = some (.cells #[(.slice A0_0 l0_0.length c0_0), (.slice A0_1 l0_1.length c0_1)] 30 (0, 0))) ∧ Aside0 (wc.heap[gb902]? = some (.cells #[(.slice Ao22 t892.length co22), (.slice Ao25 t895.length co25)] 33 (0, 0))) ∧ Aside0 (wc.heap[gb909]? = some (.cells #[(.slice Ao29 t931.length co29), (.slice Ao33 t932.length co33)] 33 (0, 0))) ∧ Aside0 (wc.heap[gb920]? = some (.cells #[(.slice Ao36 t910.length co36), (.slice Ao41 t913.length co41)] 33 (0, 0))) ∧ Aside0 (wc.heap[gb958]? = some (.cells #[(.slice Ao115 t948.length co115), (.slice Ao121 t951.length co121)] 33 (0, 0))) ∧ Aside0 (Below w.heap.size w wc))
                        case first =>
                          have H := HC97.out
                          clear HC97
                          replace H := Option.bind_eq_some_iff.mp H
                          obtain ⟨t959, A1220, H⟩ := H
                          replace H : (if t959 = true then ((laws_eqIntS.f kj60 t954 t898).bind fun t960 => (if t960 = true then (laws_FnExactCancel.j2 kj60 t939 t938 (t957 != t901) t936 t937) else (laws_FnExactCancel.j2 kj60 t939 t938 true t936 t937))) else (laws_FnExactCancel.j2 kj60 t939 t938 true t936 t937)) = some r := H
                          have A122 := Aside0.mk A1220
                          clear A1220
                          by_cases c123 : t959 = true
                          · subst c123
                            have H1 : ((laws_eqIntS.f kj60 t954 t898).bind fun t960 => (if t960 = true then (laws_FnExactCancel.j2 kj60 t939 t938 (t957 != t901) t936 t937) else (laws_FnExactCancel.j2 kj60 t939 t938 true t936 t937))) = some r := by rw [if_pos rfl] at H; exact H
                            clear H
                            have H := H1
                            clear H1
                            replace H := Option.bind_eq_some_iff.mp H
                            obtain ⟨t960, A1240, H⟩ := H
                            replace H : (if t960 = true then (laws_FnExactCancel.j2 kj60 t939 t938 (t957 != t901) t936 t937) else (laws_FnExactCancel.j2 kj60 t939 t938 true t936 t937)) = some r := H
                            have A124 := Aside0.mk A1240
                            clear A1240
                            by_cases c125 : t960 = true
                            · subst c125
                              have H1 : (laws_FnExactCancel.j2 kj60 t939 t938 (t957 != t901) t936 t937) = some r := by rw [if_pos rfl] at H; exact H
                              clear H
                              have H := H1
                              clear H1
                              have H' := Aside0.mk H
                              clear H
                              have hnb126 := NB958_884.out
                              have hnc126 := NB884_958.out
                              have hnb127 := NB958_902.out
                              have hnc127 := NB902_958.out
                              have hnb128 := NB958_909.out
                              have hnc128 := NB909_958.out
                              have hnb129 := NB958_920.out
                              have hnc129 := NB920_958.out
                              have hcz130_0 : w114.cell? ⟨gb958, 0, none⟩ = some (.slice none 0 0) := (blk_cell BK958.out 0).trans rfl
                              have hcz130_1 : w114.cell? ⟨gb958, 1, none⟩ = some (.slice none 0 0) := (blk_cell BK958.out 1).trans rfl
                              have hfz130_0 := blk_frozen BK958.out 0
                              have hfz130_1 := blk_frozen BK958.out 1
                              have hnb131 := NB902_884.out
                              have hnc131 := NB884_902.out
                              have hnb132 := NB902_909.out
                              have hnc132 := NB909_902.out
                              have hnb133 := NB902_920.out
                              have hnc133 := NB920_902.out
                              have hcz134_0 : w114.cell? ⟨gb902, 0, none⟩ = some (.slice Ao22 t892.length co22) := (blk_cell BK902.out 0).trans rfl
                              have hcz134_1 : w114.cell? ⟨gb902, 1, none⟩ = some (.slice Ao25 t895.length co25) := (blk_cell BK902.out 1).trans rfl
                              have hfz134_0 := blk_frozen BK902.out 0
                              have hfz134_1 := blk_frozen BK902.out 1
                              go_wp2_with (first | ((with_reducible refine gate_callee (f := 25) rfl ?_); refine goesL_ (some 112) rfl rfl Try.func25 (by kernel_rfl) rfl #[.agg #[.slice Ao115 t948.length co115, .slice Ao121 t951.length co121], .agg #[.slice Ao22 t892.length co22, .slice Ao25 t895.length co25]] rfl (by (try simp only [List.map_toArray, List.map_cons, List.map_nil]); first | done | rfl | (simp only [List.length_drop, List.length_take]; rfl) | (go_simp; done) | (simp [*]; done)) ?_; (with_reducible refine (laws_eqTokens.calls kj60 _ _ t948 _ _ t951 _ _ t892 _ _ t895 true _ ?side1 ?side2 ?side3 ?side4 ?side5 ?side6 ?side7 ?side8 A122.out).mono ?_); (case side1 => refine (Kd.R_reads' (e := 3) (base := w.heap.size) (ok := fun k_ => ((((((some k_ ≠ (v955 : Value).ownBlock ∧ some k_ ≠ (v899 : Value).ownBlock) ∧ some k_ ≠ (.slice Ao103 t916.length co103 : Value).ownBlock) ∧ some k_ ≠ (.slice Ao22 t892.length co22 : Value).ownBlock) ∧ some k_ ≠ (.slice Ao29 t931.length co29 : Value).ownBlock) ∧ some k_ ≠ (.slice Ao36 t910.length co36 : Value).ownBlock) ∧ some k_ ≠ (.slice Ao111 t942.length co111 : Value).ownBlock)) (n := t948.length) (c := co115) ?_).2.2; exact (by (with_reducible repeat (first | apply Kd.R_alloc | apply Kd.R_drewN | apply Kd.R_drew)); exact (Kd.R_mono (Kd.R_far (p := ⟨gb958, 1, none⟩) (Kd.R_far (p := ⟨gb958, 0, none⟩) (Kd.R_types HO950.out BK958.out (by decide)) (fun _ hk => hk.2) (.slice Ao115 t948.length co115)) (fun _ hk => hk.2) (.slice Ao121 t951.length co121)) (fun _ h_ => h_.1)))); (case side2 => exact (Kd.R_reads' HO950.out).2.1); (case side3 => refine (Kd.R_reads' (e := 4) (base := w.heap.size) (ok := fun k_ => ((((True ∧ some k_ ≠ (.slice Ao25 t895.length co25 : Value).ownBlock) ∧ some k_ ≠ (.slice Ao33 t932.length co33 : Value).ownBlock) ∧ some k_ ≠ (.slice Ao41 t913.length co41 : Value).ownBlock) ∧ some k_ ≠ (.slice Ao112 t945.length co112 : Value).ownBlock)) (n := t951.length) (c := co121) ?_).2.2; exact (by (with_reducible repeat (first | apply Kd.R_alloc | apply Kd.R_drewN | apply Kd.R_drew)); exact (Kd.R_mono (Kd.R_far (p := ⟨gb958, 1, none⟩) (Kd.R_far (p := ⟨gb958, 0, none⟩) (Kd.R_types HO953.out BK958.out (by decide)) (fun _ hk => hk.2) (.slice Ao115 t948.length co115)) (fun _ hk => hk.2) (.slice Ao121 t951.length co121)) (fun _ h_ => h_.1)))); (case side4 => exact (Kd.R_reads' HO953.out).2.1); (case side5 => refine (Kd.R_reads' (e := 3) (base := w.heap.size) (ok := fun k_ => ((((some k_ ≠ (v899 : Value).ownBlock ∧ (some k_ ≠ (.slice Ao103 t916.length co103 : Value).ownBlock ∧ (some k_ ≠ (.slice Ao29 t931.length co29 : Value).ownBlock ∧ some k_ ≠ (.slice Ao36 t910.length co36 : Value).ownBlock))) ∧ some k_ ≠ (.slice Ao111 t942.length co111 : Value).ownBlock) ∧ some k_ ≠ (.slice Ao115 t948.length co115 : Value).ownBlock) ∧ some k_ ≠ (v955 : Value).ownBlock)) (n := t892.length) (c := co22) ?_).2.2; exact (by (with_reducible repeat (first | apply Kd.R_alloc | apply Kd.R_drewN | apply Kd.R_drew)); exact (Kd.R_mono (Kd.R_far (p := ⟨gb958, 1, none⟩) (Kd.R_far (p := ⟨gb958, 0, none⟩) (Kd.R_types HO_903000.out BK958.out (by decide)) (fun _ hk => hk.2) (.slice Ao115 t948.length co115)) (fun _ hk => hk.2) (.slice Ao121 t951.length co121)) (fun _ h_ => h_.1)))); (case side6 => exact (Kd.R_reads' HO_903000.out).2.1); (case side7 => refine (Kd.R_reads' (e := 4) (base := w.heap.size) (ok := fun k_ => (((some k_ ≠ (.slice Ao33 t932.length co33 : Value).ownBlock ∧ some k_ ≠ (.slice Ao41 t913.length co41 : Value).ownBlock) ∧ some k_ ≠ (.slice Ao112 t945.length co112 : Value).ownBlock) ∧ some k_ ≠ (.slice Ao121 t951.length co121 : Value).ownBlock)) (n := t895.length) (c := co25) ?_).2.2; exact (by (with_reducible repeat (first | apply Kd.R_alloc | apply Kd.R_drewN | apply Kd.R_drew)); exact (Kd.R_mono (Kd.R_far (p := ⟨gb958, 1, none⟩) (Kd.R_far (p := ⟨gb958, 0, none⟩) (Kd.R_types HO_903001.out BK958.out (by decide)) (fun _ hk => hk.2) (.slice Ao115 t948.length co115)) (fun _ hk => hk.2) (.slice Ao121 t951.length co121)) (fun _ h_ => h_.1)))); (case side8 => exact (Kd.R_reads' HO_903001.out).2.1); rintro e w135 ⟨rfl, hb⟩; refine ⟨_, rfl, ?_⟩; have n0_ := Aside0.mk (Kd.R_below (by (with_reducible repeat (first | apply Kd.R_alloc | apply Kd.R_drewN | apply Kd.R_drew)); exact (Kd.R_mono (Kd.R_far (p := ⟨gb958, 1, none⟩) (Kd.R_far (p := ⟨gb958, 0, none⟩) (Kd.R_types HO_7.out BK958.out (by decide)) (fun _ hk => hk.2) (.slice Ao115 t948.length co115)) (fun _ hk => hk.2) (.slice Ao121 t951.length co121)) (fun _ h_ => h_.1))) hb); have n1_ := Aside0.mk (Kd.R_below (by (with_reducible repeat (first | apply Kd.R_alloc | apply Kd.R_drewN | apply Kd.R_drew)); exact (Kd.R_mono (Kd.R_far (p := ⟨gb958, 1, none⟩) (Kd.R_far (p := ⟨gb958, 0, none⟩) (Kd.R_types HO_11.out BK958.out (by decide)) (fun _ hk => hk.2) (.slice Ao115 t948.length co115)) (fun _ hk => hk.2) (.slice Ao121 t951.length co121)) (fun _ h_ => h_.1))) hb); have n2_ := Aside0.mk (Kd.R_below (by (with_reducible repeat (first | apply Kd.R_alloc | apply Kd.R_drewN | apply Kd.R_drew)); exact (Kd.R_mono (Kd.R_far (p := ⟨gb958, 1, none⟩) (Kd.R_far (p := ⟨gb958, 0, none⟩) (Kd.R_types HO_903000.out BK958.out (by decide)) (fun _ hk => hk.2) (.slice Ao115 t948.length co115)) (fun _ hk => hk.2) (.slice Ao121 t951.length co121)) (fun _ h_ => h_.1))) hb); have n3_ := Aside0.mk (Kd.R_below (by (with_reducible repeat (first | apply Kd.R_alloc | apply Kd.R_drewN | apply Kd.R_drew)); exact (Kd.R_mono (Kd.R_far (p := ⟨gb958, 1, none⟩) (Kd.R_far (p := ⟨gb958, 0, none⟩) (Kd.R_types HO_903001.out BK958.out (by decide)) (fun _ hk => hk.2) (.slice Ao115 t948.length co115)) (fun _ hk => hk.2) (.slice Ao121 t951.length co121)) (fun _ h_ => h_.1))) hb); have n4_ := Aside0.mk (Kd.R_below (by (with_reducible repeat (first | apply Kd.R_alloc | apply Kd.R_drewN | apply Kd.R_drew)); exact (Kd.R_mono (Kd.R_far (p := ⟨gb958, 1, none⟩) (Kd.R_far (p := ⟨gb958, 0, none⟩) (Kd.R_types HO_910000.out BK958.out (by decide)) (fun _ hk => hk.2) (.slice Ao115 t948.length co115)) (fun _ hk => hk.2) (.slice Ao121 t951.length co121)) (fun _ h_ => h_.1))) hb); have n5_ := Aside0.mk (Kd.R_below (by (with_reducible repeat (first | apply Kd.R_alloc | apply Kd.R_drewN | apply Kd.R_drew)); exact (Kd.R_mono (Kd.R_far (p := ⟨gb958, 1, none⟩) (Kd.R_far (p := ⟨gb958, 0, none⟩) (Kd.R_types HO_910001.out BK958.out (by decide)) (fun _ hk => hk.2) (.slice Ao115 t948.length co115)) (fun _ hk => hk.2) (.slice Ao121 t951.length co121)) (fun _ h_ => h_.1))) hb); have n6_ := Aside0.mk (Kd.R_below (by (with_reducible repeat (first | apply Kd.R_alloc | apply Kd.R_drewN | apply Kd.R_drew)); exact (Kd.R_mono (Kd.R_far (p := ⟨gb958, 1, none⟩) (Kd.R_far (p := ⟨gb958, 0, none⟩) (Kd.R_types HO_921000.out BK958.out (by decide)) (fun _ hk => hk.2) (.slice Ao115 t948.length co115)) (fun _ hk => hk.2) (.slice Ao121 t951.length co121)) (fun _ h_ => h_.1))) hb); have n7_ := Aside0.mk (Kd.R_below (by (with_reducible repeat (first | apply Kd.R_alloc | apply Kd.R_drewN | apply Kd.R_drew)); exact (Kd.R_mono (Kd.R_far (p := ⟨gb958, 1, none⟩) (Kd.R_far (p := ⟨gb958, 0, none⟩) (Kd.R_types HO_921001.out BK958.out (by decide)) (fun _ hk => hk.2) (.slice Ao115 t948.length co115)) (fun _ hk => hk.2) (.slice Ao121 t951.length co121)) (fun _ h_ => h_.1))) hb); have n8_ := Aside0.mk (Kd.R_below (by (with_reducible repeat (first | apply Kd.R_alloc | apply Kd.R_drewN | apply Kd.R_drew)); exact (Kd.R_mono (Kd.R_far (p := ⟨gb958, 1, none⟩) (Kd.R_far (p := ⟨gb958, 0, none⟩) (Kd.R_types HO944.out BK958.out (by decide)) (fun _ hk => hk.2) (.slice Ao115 t948.length co115)) (fun _ hk => hk.2) (.slice Ao121 t951.length co121)) (fun _ h_ => h_.1))) hb); have n9_ := Aside0.mk (Kd.R_below (by (with_reducible repeat (first | apply Kd.R_alloc | apply Kd.R_drewN | apply Kd.R_drew)); exact (Kd.R_mono (Kd.R_far (p := ⟨gb958, 1, none⟩) (Kd.R_far (p := ⟨gb958, 0, none⟩) (Kd.R_types HO947.out BK958.out (by decide)) (fun _ hk => hk.2) (.slice Ao115 t948.length co115)) (fun _ hk => hk.2) (.slice Ao121 t951.length co121)) (fun _ h_ => h_.1))) hb); have n10_ := Aside0.mk (Kd.R_below (by (with_reducible repeat (first | apply Kd.R_alloc | apply Kd.R_drewN | apply Kd.R_drew)); exact (Kd.R_mono (Kd.R_far (p := ⟨gb958, 1, none⟩) (Kd.R_far (p := ⟨gb958, 0, none⟩) (Kd.R_types HO950.out BK958.out (by decide)) (fun _ hk => hk.2) (.slice Ao115 t948.length co115)) (fun _ hk => hk.2) (.slice Ao121 t951.length co121)) (fun _ h_ => h_.1))) hb); have n11_ := Aside0.mk (Kd.R_below (by (with_reducible repeat (first | apply Kd.R_alloc | apply Kd.R_drewN | apply Kd.R_drew)); exact (Kd.R_mono (Kd.R_far (p := ⟨gb958, 1, none⟩) (Kd.R_far (p := ⟨gb958, 0, none⟩) (Kd.R_types HO953.out BK958.out (by decide)) (fun _ hk => hk.2) (.slice Ao115 t948.length co115)) (fun _ hk => hk.2) (.slice Ao121 t951.length co121)) (fun _ h_ => h_.1))) hb); have n12_ := Aside0.mk (Kd.R_below (by (with_reducible repeat (first | apply Kd.R_alloc | apply Kd.R_drewN | apply Kd.R_drew)); exact (Kd.R_mono (Kd.R_far (p := ⟨gb958, 1, none⟩) (Kd.R_far (p := ⟨gb958, 0, none⟩) (Kd.R_types HO956.out BK958.out (by decide)) (fun _ hk => hk.2) (.slice Ao115 t948.length co115)) (fun _ hk => hk.2) (.slice Ao121 t951.length co121)) (fun _ h_ => h_.1))) hb); have n13_ := Aside0.mk (blk_below (g := gb884) (o := .cells #[.slice A0_0 l0_0.length c0_0, .slice A0_1 l0_1.length c0_1] 30 (0, 0)) (by (with_reducible repeat (first | refine blk_drewN ?_ _ | refine blk_drew ?_ | refine blk_alloc ?_ _)); refine blk_far ?_ NB884_958.out _; (with_reducible repeat (first | refine blk_drewN ?_ _ | refine blk_drew ?_ | refine blk_alloc ?_ _)); refine blk_far ?_ NB884_958.out _; (with_reducible repeat (first | refine blk_drewN ?_ _ | refine blk_drew ?_ | refine blk_alloc ?_ _)); exact BK884.out) hb); have n14_ := Aside0.mk (blk_below (g := gb902) (o := .cells #[.slice Ao22 t892.length co22, .slice Ao25 t895.length co25] 33 (0, 0)) (by (with_reducible repeat (first | refine blk_drewN ?_ _ | refine blk_drew ?_ | refine blk_alloc ?_ _)); refine blk_far ?_ NB902_958.out _; (with_reducible repeat (first | refine blk_drewN ?_ _ | refine blk_drew ?_ | refine blk_alloc ?_ _)); refine blk_far ?_ NB902_958.out _; (with_reducible repeat (first | refine blk_drewN ?_ _ | refine blk_drew ?_ | refine blk_alloc ?_ _)); exact BK902.out) hb); have n15_ := Aside0.mk (blk_below (g := gb909) (o := .cells #[.slice Ao29 t931.length co29, .slice Ao33 t932.length co33] 33 (0, 0)) (by (with_reducible repeat (first | refine blk_drewN ?_ _ | refine blk_drew ?_ | refine blk_alloc ?_ _)); refine blk_far ?_ NB909_958.out _; (with_reducible repeat (first | refine blk_drewN ?_ _ | refine blk_drew ?_ | refine blk_alloc ?_ _)); refine blk_far ?_ NB909_958.out _; (with_reducible repeat (first | refine blk_drewN ?_ _ | refine blk_drew ?_ | refine blk_alloc ?_ _)); exact BK909.out) hb); have n16_ := Aside0.mk (blk_below (g := gb920) (o := .cells #[.slice Ao36 t910.length co36, .slice Ao41 t913.length co41] 33 (0, 0)) (by (with_reducible repeat (first | refine blk_drewN ?_ _ | refine blk_drew ?_ | refine blk_alloc ?_ _)); refine blk_far ?_ NB920_958.out _; (with_reducible repeat (first | refine blk_drewN ?_ _ | refine blk_drew ?_ | refine blk_alloc ?_ _)); refine blk_far ?_ NB920_958.out _; (with_reducible repeat (first | refine blk_drewN ?_ _ | refine blk_drew ?_ | refine blk_alloc ?_ _)); exact BK920.out) hb); have n17_ := Aside0.mk (blk_below (g := gb958) (o := .cells #[.slice Ao115 t948.length co115, .slice Ao121 t951.length co121] 33 (0, 0)) (by (with_reducible repeat (first | refine blk_drewN ?_ _ | refine blk_drew ?_ | refine blk_alloc ?_ _)); refine blk_put (cs := #[.slice Ao115 t948.length co115, .slice none 0 0]) ?_ 1 _ rfl; (with_reducible repeat (first | refine blk_drewN ?_ _ | refine blk_drew ?_ | refine blk_alloc ?_ _)); refine blk_put (cs := #[.slice none 0 0, .slice none 0 0]) ?_ 0 _ rfl; (with_reducible repeat (first | refine blk_drewN ?_ _ | refine blk_drew ?_ | refine blk_alloc ?_ _)); exact BK958.out) hb); have n18_ := Aside0.mk (below_step (by repeat (first | (with_reducible first | exact HB.out | apply below_alloc | apply pw_below_drewN | apply below_drew1 | refine below_set ?_ GE884.out | refine below_set ?_ GE902.out | refine below_set ?_ GE909.out | refine below_set ?_ GE920.out | refine below_set ?_ GE958.out) | exact HB.out)) hb); clear HO_7 HO_11 HO_903000 HO_903001 HO_910000 HO_910001 HO_921000 HO_921001 HO944 HO947 HO950 HO953 HO956 BK884 BK902 BK909 BK920 BK958 HB; have HO_7 := n0_; have HO_11 := n1_; have HO_903000 := n2_; have HO_903001 := n3_; have HO_910000 := n4_; have HO_910001 := n5_; have HO_921000 := n6_; have HO_921001 := n7_; have HO944 := n8_; have HO947 := n9_; have HO950 := n10_; have HO953 := n11_; have HO956 := n12_; have BK884 := n13_; have BK902 := n14_; have BK909 := n15_; have BK920 := n16_; have BK958 := n17_; have HB := n18_; clear n0_ n1_ n2_ n3_ n4_ n5_ n6_ n7_ n8_ n9_ n10_ n11_ n12_ n13_ n14_ n15_ n16_ n17_ n18_; (try clear hb); (try clear hb2); (try clear hk); (try clear hi); obtain ⟨Ao136, co136, eo136⟩ := Kd.R_slice HO956.out; subst eo136; obtain ⟨Ao137, co137, eo137⟩ := Kd.R_slice HO_7.out; subst eo137) | (go_at_call 18; (with_reducible refine (laws_eqIntS.calls kj60 _ _ t954 _ _ t898 true _ ?side1 ?side2 ?side3 ?side4 A124.out).mono ?_); (case side1 => exact pkC (Kd.R_reads' HO956.out).2.2); (case side2 => exact (Kd.R_reads' HO956.out).2.1); (case side3 => exact pkC (Kd.R_reads' HO_7.out).2.2); (case side4 => exact (Kd.R_reads' HO_7.out).2.1); rintro e w' ⟨rfl, ⟨nd, rfl⟩⟩))
                              go_meet
                              case rel => exact ⟨_, ((t957 != t901)), (by first | rfl | (simp; done) | (simp [*]; done)), H', ⟨by have := HJ11.out; have := HJ60.out; first | omega | exact Nat.le_refl _⟩, ⟨by (try simp only [hl910000_60]); (try simp only [hl910001_60]); (with_reducible repeat (first | apply Kd.R_alloc | apply Kd.R_drewN | apply Kd.R_drew)); exact Kd.R_mono HO_11.out (fun _ hk => ⟨hk.1.1.1.2.1, ⟨hk.1.1.1.2.2.1, ⟨hk.1.1.1.2.2.2, hk.1.2⟩⟩⟩)⟩, ⟨by (try simp only [hl910000_60]); (try simp only [hl910001_60]); (with_reducible repeat (first | apply Kd.R_alloc | apply Kd.R_drewN | apply Kd.R_drew)); exact Kd.R_mono HO_903000.out (fun _ hk => ⟨hk.1.1.1.2.1, ⟨hk.1.1.1.2.2.1, ⟨hk.1.1.1.2.2.2, hk.1.2⟩⟩⟩)⟩, ⟨by (try simp only [hl910000_60]); (try simp only [hl910001_60]); (with_reducible repeat (first | apply Kd.R_alloc | apply Kd.R_drewN | apply Kd.R_drew)); exact Kd.R_mono HO_903001.out (fun _ hk => ⟨hk.1.1.1, ⟨hk.1.1.2, hk.2⟩⟩)⟩, ⟨by (try simp only [hl910000_60]); (try simp only [hl910001_60]); (with_reducible repeat (first | apply Kd.R_alloc | apply Kd.R_drewN | apply Kd.R_drew)); exact Kd.R_mono HO_910000.out (fun _ hk => ⟨hk.1.1.1.2.1, ⟨hk.1.1.1.2.2.1, ⟨hk.1.1.1.2.2.2, hk.1.2⟩⟩⟩)⟩, ⟨by (try simp only [hl910000_60]); (try simp only [hl910001_60]); (with_reducible repeat (first | apply Kd.R_alloc | apply Kd.R_drewN | apply Kd.R_drew)); exact Kd.R_mono HO_910001.out (fun _ hk => ⟨hk.1.1.1, ⟨hk.1.1.2, hk.2⟩⟩)⟩, ⟨by (try simp only [hl910000_60]); (try simp only [hl910001_60]); (with_reducible repeat (first | apply Kd.R_alloc | apply Kd.R_drewN | apply Kd.R_drew)); exact Kd.R_mono HO_921000.out (fun _ hk => ⟨hk.1.1.1.2.1, ⟨hk.1.1.1.2.2.1, ⟨hk.1.1.1.2.2.2, hk.1.2⟩⟩⟩)⟩, ⟨by (try simp only [hl910000_60]); (try simp only [hl910001_60]); (with_reducible repeat (first | apply Kd.R_alloc | apply Kd.R_drewN | apply Kd.R_drew)); exact Kd.R_mono HO_921001.out (fun _ hk => ⟨hk.1.1.1, ⟨hk.1.1.2, hk.2⟩⟩)⟩, ⟨by (try simp only [hl910000_60]); (try simp only [hl910001_60]); (with_reducible repeat (first | apply Kd.R_alloc | apply Kd.R_drewN | apply Kd.R_drew)); exact Kd.R_mono HO950.out (fun _ hk => ⟨hk.1.1.1.1.2, ⟨hk.1.1.1.2, ⟨hk.1.1.2, hk.1.2⟩⟩⟩)⟩, ⟨by (try simp only [hl910000_60]); (try simp only [hl910001_60]); (with_reducible repeat (first | apply Kd.R_alloc | apply Kd.R_drewN | apply Kd.R_drew)); exact Kd.R_mono HO953.out (fun _ hk => ⟨hk.1.1.1.2, ⟨hk.1.1.2, hk.1.2⟩⟩)⟩, ⟨by (try simp only [hl910000_60]); (try simp only [hl910001_60]); (with_reducible repeat (first | refine blk_drewN ?_ _ | refine blk_drew ?_ | refine blk_alloc ?_ _)); exact BK884.out⟩, ⟨by (try simp only [hl910000_60]); (try simp only [hl910001_60]); (with_reducible repeat (first | refine blk_drewN ?_ _ | refine blk_drew ?_ | refine blk_alloc ?_ _)); exact BK902.out⟩, ⟨by (try simp only [hl910000_60]); (try simp only [hl910001_60]); (with_reducible repeat (first | refine blk_drewN ?_ _ | refine blk_drew ?_ | refine blk_alloc ?_ _)); exact BK909.out⟩, ⟨by (try simp only [hl910000_60]); (try simp only [hl910001_60]); (with_reducible repeat (first | refine blk_drewN ?_ _ | refine blk_drew ?_ | refine blk_alloc ?_ _)); exact BK920.out⟩, ⟨by (try simp only [hl910000_60]); (try simp only [hl910001_60]); (with_reducible repeat (first | refine blk_drewN ?_ _ | refine blk_drew ?_ | refine blk_alloc ?_ _)); exact BK958.out⟩, ⟨by repeat (first | (with_reducible first | exact HB.out | apply below_alloc | apply pw_below_drewN | apply below_drew1 | refine below_set ?_ GE884.out | refine below_set ?_ GE902.out | refine below_set ?_ GE909.out | refine below_set ?_ GE920.out | refine below_set ?_ GE958.out) | exact HB.out)⟩⟩
                            · replace c125 := Bool.eq_false_iff.mpr c125
                              subst c125
                              have H1 : (laws_FnExactCancel.j2 kj60 t939 t938 true t936 t937) = some r := by rw [if_neg (show ¬ (false = true) by decide)] at H; exact H
                              clear H
                              have H := H1
                              clear H1
                              cases kj60 with
                              | zero => exact absurd H (by simp [laws_FnExactCancel.j2])
                              | succ k_ => (simp only [laws_FnExactCancel.j2, if_pos] at H; exact absurd (Option.some.inj H) (by rw [HQ_.out]; simp))
                          · replace c123 := Bool.eq_false_iff.mpr c123
                            subst c123
                            have H1 : (laws_FnExactCancel.j2 kj60 t939 t938 true t936 t937) = some r := by rw [if_neg (show ¬ (false = true) by decide)] at H; exact H
                            clear H
                            have H := H1
                            clear H1
                            cases kj60 with
                            | zero => exact absurd H (by simp [laws_FnExactCancel.j2])
                            | succ k_ => (simp only [laws_FnExactCancel.j2, if_pos] at H; exact absurd (Option.some.inj H) (by rw [HQ_.out]; simp))
                        case rest =>
                          clear HC97
                          try clear c1
                          try clear c2
                          try clear p2
                          try clear c3
                          try clear c4
                          try clear c4b0
                          try clear c5
                          try clear c6
                          try clear c7
                          try clear c8
                          try clear c9
                          try clear c10
                          try clear c11
                          try clear c12
                          try clear c13
                          try clear c21
                          try clear c23
                          try clear c25
                          try clear c28
                          try clear c29
                          try clear c30
                          try clear c31
                          try clear c37
                          try clear c38
                          try clear c39
                          try clear c41
                          try clear c43
                          try clear c45
                          try clear c46
                          try clear c47
                          try clear c48
                          try clear c50
                          try clear c51
                          try clear c56
                          try clear c59
                          try clear c67
                          try clear c68
                          try clear c69
                          try clear c72
                          try clear c72b0
                          try clear c74
                          try clear c76
                          try clear c77
                          try clear c78
                          try clear c79
                          try clear c81
                          try clear c82
                          try clear c87
                          try clear c91
                          try clear c91b0
                          try clear c93
                          try clear c93b0
                          try clear c94
                          try clear c94b0
                          try clear c94b1
                          try clear c98
                          try clear c99
                          try clear c100
                          try clear c107
                          try clear c108
                          try clear c116
                          try clear c117
                          try clear c118
                          try clear c119
                          try clear c123
                          try clear c125
                          try clear c126
                          try clear c127
                          try clear c128
                          try clear c129
                          try clear c131
                          try clear c132
                          try clear c133
                          try clear hcz101_0
                          try clear hcz101_1
                          try clear hcz105_0
                          try clear hcz105_1
                          try clear hcz109_0
                          try clear hcz109_1
                          try clear hcz120_0
                          try clear hcz120_1
                          try clear hcz130_0
                          try clear hcz130_1
                          try clear hcz134_0
                          try clear hcz134_1
                          try clear hcz14_0
                          try clear hcz14_1
                          try clear hcz16_0
                          try clear hcz16_1
                          try clear hcz24_0
                          try clear hcz24_1
                          try clear hcz26_0
                          try clear hcz26_1
                          try clear hcz32_0
                          try clear hcz32_1
                          try clear hcz40_0
                          try clear hcz40_1
                          try clear hcz49_0
                          try clear hcz49_1
                          try clear hcz52_0
                          try clear hcz52_1
                          try clear hcz6_0
                          try clear hcz6_1
                          try clear hcz70_0
                          try clear hcz70_1
                          try clear hcz80_0
                          try clear hcz80_1
                          try clear hcz83_0
                          try clear hcz83_1
                          try clear hfz101_0
                          try clear hfz101_1
                          try clear hfz105_0
                          try clear hfz105_1
                          try clear hfz109_0
                          try clear hfz109_1
                          try clear hfz120_0
                          try clear hfz120_1
                          try clear hfz130_0
                          try clear hfz130_1
                          try clear hfz134_0
                          try clear hfz134_1
                          try clear hfz14_0
                          try clear hfz14_1
                          try clear hfz16_0
                          try clear hfz16_1
                          try clear hfz24_0
                          try clear hfz24_1
                          try clear hfz26_0
                          try clear hfz26_1
                          try clear hfz32_0
                          try clear hfz32_1
                          try clear hfz40_0
                          try clear hfz40_1
                          try clear hfz49_0
                          try clear hfz49_1
                          try clear hfz52_0
                          try clear hfz52_1
                          try clear hfz6_0
                          try clear hfz6_1
                          try clear hfz70_0
                          try clear hfz70_1
                          try clear hfz80_0
                          try clear hfz80_1
                          try clear hfz83_0
                          try clear hfz83_1
                          try clear p2
                          obtain ⟨kq, x124_96, rfl, HA, HJ96, HO_11, HO_903000, HO_903001, HO_910000, HO_910001, HO_921000, HO_921001, HO_959000, HO_959001, BK884, BK902, BK909, BK920, BK958, HB⟩ := hcut
                          have hl11_96 := (Kd.R_reads' HO_11.out).1
                          rw [hl11_96] at HO_11
                          (try simp only [hl11_96])
                          (try simp only [hl11_96] at BK884)
                          (try simp only [hl11_96] at BK902)
                          (try simp only [hl11_96] at BK909)
                          (try simp only [hl11_96] at BK920)
                          (try simp only [hl11_96] at BK958)
                          (try simp only [hl11_96] at HO_903000)
                          (try simp only [hl11_96] at HO_903001)
                          (try simp only [hl11_96] at HO_910000)
                          (try simp only [hl11_96] at HO_910001)
                          (try simp only [hl11_96] at HO_921000)
                          (try simp only [hl11_96] at HO_921001)
                          (try simp only [hl11_96] at HO_959000)
                          (try simp only [hl11_96] at HO_959001)
                          have hl921000_96 := (Kd.R_reads' HO_921000.out).1
                          rw [hl921000_96] at HO_921000
                          (try simp only [hl921000_96])
                          (try simp only [hl921000_96] at BK884)
                          (try simp only [hl921000_96] at BK902)
                          (try simp only [hl921000_96] at BK909)
                          (try simp only [hl921000_96] at BK920)
                          (try simp only [hl921000_96] at BK958)
                          (try simp only [hl921000_96] at HO_11)
                          (try simp only [hl921000_96] at HO_903000)
                          (try simp only [hl921000_96] at HO_903001)
                          (try simp only [hl921000_96] at HO_910000)
                          (try simp only [hl921000_96] at HO_910001)
                          (try simp only [hl921000_96] at HO_921001)
                          (try simp only [hl921000_96] at HO_959000)
                          (try simp only [hl921000_96] at HO_959001)
                          have hl921001_96 := (Kd.R_reads' HO_921001.out).1
                          rw [hl921001_96] at HO_921001
                          (try simp only [hl921001_96])
                          (try simp only [hl921001_96] at BK884)
                          (try simp only [hl921001_96] at BK902)
                          (try simp only [hl921001_96] at BK909)
                          (try simp only [hl921001_96] at BK920)
                          (try simp only [hl921001_96] at BK958)
                          (try simp only [hl921001_96] at HO_11)
                          (try simp only [hl921001_96] at HO_903000)
                          (try simp only [hl921001_96] at HO_903001)
                          (try simp only [hl921001_96] at HO_910000)
                          (try simp only [hl921001_96] at HO_910001)
                          (try simp only [hl921001_96] at HO_921000)
                          (try simp only [hl921001_96] at HO_959000)
                          (try simp only [hl921001_96] at HO_959001)
                          cases kq with
                          | zero => exact absurd HA.out (by simp [laws_FnExactCancel.j2])
                          | succ kj96 =>
                            have H := HA.out
                            clear HA
                            simp only [laws_FnExactCancel.j2] at H
                            by_cases c138 : x124_96 = true
                            · subst c138
                              have H1 : (some false) = some r := by rw [if_pos rfl] at H; exact H
                              clear H
                              have H := H1
                              clear H1
                              exact absurd (Option.some.inj H) (by rw [HQ_.out]; simp)
                            · replace c138 := Bool.eq_false_iff.mpr c138
                              subst c138
                              have H1 : ((laws_heldTokens.f kj96 t936 t937 1).bind fun t961 => (if t961 < 0 then (some false) else ((laws_heldIntS.f kj96 t939 t961).bind fun t962 => (if t962 < 0 then (some false) else (if t962 = t938 then (some true) else (some false)))))) = some r := by rw [if_neg (show ¬ (false = true) by decide)] at H; exact H
                              clear H
                              have H := H1
                              clear H1
                              replace H := Option.bind_eq_some_iff.mp H
                              obtain ⟨t961, A1390, H⟩ := H
                              replace H : (if t961 < 0 then (some false) else ((laws_heldIntS.f kj96 t939 t961).bind fun t962 => (if t962 < 0 then (some false) else (if t962 = t938 then (some true) else (some false))))) = some r := H
                              have A139 := Aside0.mk A1390
                              clear A1390
                              by_cases c140 : t961 < 0
                              · rw [if_pos c140] at H
                                have c140b0 : decide (t961 < 0) = true := decide_eq_true c140
                                clear c140
                                exact absurd (Option.some.inj H) (by rw [HQ_.out]; simp)
                              · rw [if_neg c140] at H
                                have c140b0 : decide (t961 < 0) = false := decide_eq_false c140
                                clear c140
                                replace H := Option.bind_eq_some_iff.mp H
                                obtain ⟨t962, A1410, H⟩ := H
                                replace H : (if t962 < 0 then (some false) else (if t962 = t938 then (some true) else (some false))) = some r := H
                                have A141 := Aside0.mk A1410
                                clear A1410
                                by_cases c142 : t962 < 0
                                · rw [if_pos c142] at H
                                  have c142b0 : decide (t962 < 0) = true := decide_eq_true c142
                                  clear c142
                                  exact absurd (Option.some.inj H) (by rw [HQ_.out]; simp)
                                · rw [if_neg c142] at H
                                  have c142b0 : decide (t962 < 0) = false := decide_eq_false c142
                                  clear c142
                                  by_cases c143 : t962 = t938
                                  · rw [if_pos c143] at H
                                    have c143b0 : (t962 == t938) = true := beq_iff_eq.mpr c143
                                    have c143b1 : (t962 != t938) = false := bne_eq_false_iff_eq.mpr c143
                                    clear c143
                                    obtain rfl := Option.some.inj H
                                    have hnb144 := NB920_884.out
                                    have hnc144 := NB884_920.out
                                    have hnb145 := NB920_902.out
                                    have hnc145 := NB902_920.out
                                    have hnb146 := NB920_909.out
                                    have hnc146 := NB909_920.out
                                    have hnb147 := NB920_958.out
                                    have hnc147 := NB958_920.out
                                    have hcz148_0 : wc.cell? ⟨gb920, 0, none⟩ = some (.slice Ao36 t936.length co36) := (blk_cell BK920.out 0).trans rfl
                                    have hcz148_1 : wc.cell? ⟨gb920, 1, none⟩ = some (.slice Ao41 t937.length co41) := (blk_cell BK920.out 1).trans rfl
                                    have hfz148_0 := blk_frozen BK920.out 0
                                    have hfz148_1 := blk_frozen BK920.out 1
                                    go_wp2_with (first | ((with_reducible refine gate_callee (f := 41) rfl ?_); refine goesL_ (some 127) rfl rfl Try.func41 (by kernel_rfl) rfl #[.agg #[.slice Ao36 t936.length co36, .slice Ao41 t937.length co41], .int .i64 1] rfl (by (try simp only [List.map_toArray, List.map_cons, List.map_nil]); first | done | rfl | (simp only [List.length_drop, List.length_take]; rfl) | (go_simp; done) | (simp [*]; done)) ?_; (with_reducible refine (laws_heldTokens.calls kj96 _ _ t936 _ _ t937 1 t961 _ ?side1 ?side2 ?side3 ?side4 A139.out).mono ?_); (case side1 => exact pkC (Kd.R_reads' HO_921000.out).2.2); (case side2 => exact (Kd.R_reads' HO_921000.out).2.1); (case side3 => exact pkC (Kd.R_reads' HO_921001.out).2.2); (case side4 => exact (Kd.R_reads' HO_921001.out).2.1); rintro e w149 ⟨rfl, hb⟩; refine ⟨_, rfl, ?_⟩; have n0_ := Aside0.mk (Kd.R_below (pkR HO_11.out) hb); have n1_ := Aside0.mk (Kd.R_below (pkR HO_903000.out) hb); have n2_ := Aside0.mk (Kd.R_below (pkR HO_903001.out) hb); have n3_ := Aside0.mk (Kd.R_below (pkR HO_910000.out) hb); have n4_ := Aside0.mk (Kd.R_below (pkR HO_910001.out) hb); have n5_ := Aside0.mk (Kd.R_below (pkR HO_921000.out) hb); have n6_ := Aside0.mk (Kd.R_below (pkR HO_921001.out) hb); have n7_ := Aside0.mk (Kd.R_below (pkR HO_959000.out) hb); have n8_ := Aside0.mk (Kd.R_below (pkR HO_959001.out) hb); have n9_ := Aside0.mk (blk_below (g := gb884) (o := .cells #[.slice A0_0 l0_0.length c0_0, .slice A0_1 l0_1.length c0_1] 30 (0, 0)) (pkK BK884.out) hb); have n10_ := Aside0.mk (blk_below (g := gb902) (o := .cells #[.slice Ao22 t892.length co22, .slice Ao25 t895.length co25] 33 (0, 0)) (pkK BK902.out) hb); have n11_ := Aside0.mk (blk_below (g := gb909) (o := .cells #[.slice Ao29 t931.length co29, .slice Ao33 t932.length co33] 33 (0, 0)) (pkK BK909.out) hb); have n12_ := Aside0.mk (blk_below (g := gb920) (o := .cells #[.slice Ao36 t936.length co36, .slice Ao41 t937.length co41] 33 (0, 0)) (pkK BK920.out) hb); have n13_ := Aside0.mk (blk_below (g := gb958) (o := .cells #[.slice Ao115 t948.length co115, .slice Ao121 t951.length co121] 33 (0, 0)) (pkK BK958.out) hb); have n14_ := Aside0.mk (below_step (by repeat (first | (with_reducible first | exact HB.out | apply below_alloc | apply pw_below_drewN | apply below_drew1 | refine below_set ?_ GE884.out | refine below_set ?_ GE902.out | refine below_set ?_ GE909.out | refine below_set ?_ GE920.out | refine below_set ?_ GE958.out) | exact HB.out)) hb); clear HO_11 HO_903000 HO_903001 HO_910000 HO_910001 HO_921000 HO_921001 HO_959000 HO_959001 BK884 BK902 BK909 BK920 BK958 HB; have HO_11 := n0_; have HO_903000 := n1_; have HO_903001 := n2_; have HO_910000 := n3_; have HO_910001 := n4_; have HO_921000 := n5_; have HO_921001 := n6_; have HO_959000 := n7_; have HO_959001 := n8_; have BK884 := n9_; have BK902 := n10_; have BK909 := n11_; have BK920 := n12_; have BK958 := n13_; have HB := n14_; clear n0_ n1_ n2_ n3_ n4_ n5_ n6_ n7_ n8_ n9_ n10_ n11_ n12_ n13_ n14_; (try clear hb); (try clear hb2); (try clear hk); (try clear hi)) | ((with_reducible refine gate_callee (f := 29) rfl ?_); refine goesL_ (some 132) rfl rfl Try.func29 (by kernel_rfl) rfl #[.slice Ao103 t939.length co103, .int .i64 t961] rfl (by (try simp only [List.map_toArray, List.map_cons, List.map_nil]); first | done | rfl | (simp only [List.length_drop, List.length_take]; rfl) | (go_simp; done) | (simp [*]; done)) ?_; (with_reducible refine (laws_heldIntS.calls kj96 _ _ t939 t961 t962 _ ?side1 ?side2 A141.out).mono ?_); (case side1 => exact pkC (Kd.R_reads' HO_11.out).2.2); (case side2 => exact (Kd.R_reads' HO_11.out).2.1); rintro e w' ⟨rfl, ⟨nd, rfl⟩⟩; refine ⟨_, rfl, ?_⟩))
                                    go_ret
                                    exact ⟨by first | rfl | (simp [errW_none, errW_some] <;> rfl) | (simp [*, errW_none, errW_some] <;> rfl), by repeat (first | (with_reducible first | exact HB.out | apply below_alloc | apply pw_below_drewN | apply below_drew1 | refine below_set ?_ GE884.out | refine below_set ?_ GE902.out | refine below_set ?_ GE909.out | refine below_set ?_ GE920.out | refine below_set ?_ GE958.out) | exact HB.out)⟩
                                  · rw [if_neg c143] at H
                                    have c143b0 : (t962 == t938) = false := beq_eq_false_iff_ne.mpr c143
                                    have c143b1 : (t962 != t938) = true := bne_iff_ne.mpr c143
                                    exact absurd (Option.some.inj H) (by rw [HQ_.out]; simp)
                      · rw [if_neg c94] at H
                        have c94b0 : (t941 == t938) = false := beq_eq_false_iff_ne.mpr c94
                        have c94b1 : (t941 != t938) = true := bne_iff_ne.mpr c94
                        exact absurd (Option.some.inj H) (by rw [HQ_.out]; simp)
          · replace c59 := Bool.eq_false_iff.mpr c59
            subst c59
            have H1 : (some false) = some r := by rw [if_neg (show ¬ (false = true) by decide)] at H; exact H
            clear H
            have H := H1
            clear H1
            exact absurd (Option.some.inj H) (by rw [HQ_.out]; simp)
end Go.Proofs.Ytghmhekjdjdleaa.Z
