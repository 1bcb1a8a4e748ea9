/- Go code comes to just these functions; conditions: in each theorem. -/
import Derived.Test.YtdagpmnadapbjaaZx0
import Derived.Test.YtdagpmnadapbjaaZx9
import Derived.Test.YtdagpmnadapbjaaZx10
namespace Go.Proofs.Ytdagpmnadapbjaa.Z
open Go.RowKit Go.Proofs.YtdagpmnadapbjaaW.PrintWords Go.Proofs.YtdagpmnadapbjaaW.PrintLast Go.Proofs.YtdagpmnadapbjaaW.PrintMore
attribute [local go_sem] max2_int min2_int max_two min_two max_three min_three max_four min_four   -- for this text's walks alone
set_option linter.unusedVariables false
set_option linter.unusedSimpArgs false
def impl_EventOk.j0 : Nat → Bool → Bool → Bool → List Int → List Int → Int → Int → Int → Option (Bool)
 | 0, _, _, _, _, _, _, _, _ => none
 | k + 1, x37, x147000, x147001, x147002, x147003, x147004, x147005, x147006 => if x37 = true then (some false) else (if x147000 = true then (if x147001 = true then (some ((wrap64 ((wrap64 ((wrap64 (x147005 + x147006)) + (x147003.length : Int))) + 1)) == x147004)) else (some ((wrap64 ((wrap64 (x147005 + x147006)) + (x147003.length : Int))) == x147004))) else (if x147004 = 0 then (if x147005 = 0 then (some (x147006 == 0)) else (some false)) else (some false)))
def impl_EventOk.f (k : Nat) (a0_0 : Bool) (a0_1 : Bool) (l0_2 : List Int) (l0_3 : List Int) (a0_4 : Int) (a0_5 : Int) (a0_6 : Int) : Option (Bool) := (impl_apart.f k l0_2 l0_3).bind fun t147 => (if t147 = true then (if a0_1 = true then (if (l0_2.length : Int) > 0 then (impl_EventOk.j0 k true a0_0 a0_1 l0_2 l0_3 a0_4 a0_5 a0_6) else ((impl_isCount.f a0_4).bind fun t148 => (if t148 = true then ((impl_isCount.f a0_5).bind fun t149 => (if t149 = true then ((impl_isCount.f a0_6).bind fun t150 => (impl_EventOk.j0 k (!t150) a0_0 a0_1 l0_2 l0_3 a0_4 a0_5 a0_6)) else (impl_EventOk.j0 k true a0_0 a0_1 l0_2 l0_3 a0_4 a0_5 a0_6))) else (impl_EventOk.j0 k true a0_0 a0_1 l0_2 l0_3 a0_4 a0_5 a0_6)))) else ((impl_isCount.f a0_4).bind fun t151 => (if t151 = true then ((impl_isCount.f a0_5).bind fun t152 => (if t152 = true then ((impl_isCount.f a0_6).bind fun t153 => (impl_EventOk.j0 k (!t153) a0_0 a0_1 l0_2 l0_3 a0_4 a0_5 a0_6)) else (impl_EventOk.j0 k true a0_0 a0_1 l0_2 l0_3 a0_4 a0_5 a0_6))) else (impl_EventOk.j0 k true a0_0 a0_1 l0_2 l0_3 a0_4 a0_5 a0_6)))) else (impl_EventOk.j0 k true a0_0 a0_1 l0_2 l0_3 a0_4 a0_5 a0_6))
theorem impl_EventOk.mono_l : ∀ k, (∀ y0 y1 y2 y3 y4 y5 y6 y7, LeO (impl_EventOk.j0 k y0 y1 y2 y3 y4 y5 y6 y7) (impl_EventOk.j0 (k + 1) y0 y1 y2 y3 y4 y5 y6 y7))
 | 0 => fun _ _ _ _ _ _ _ _ r h => by simp [impl_EventOk.j0] at h
 | k + 1 => by
  have ih0 := impl_EventOk.mono_l k
  ·intro y0 y1 y2 y3 y4 y5 y6 y7
   unfold impl_EventOk.j0
   repeat' first
   | (with_reducible exact ih0 _ _ _ _ _ _ _ _)
   | (with_reducible exact impl_apart.mono _ _ _)
   | (with_reducible exact LeO.refl _)
   | (with_reducible exact LeO.none _)
   | (with_reducible refine LeO.ite ?_ ?_)
   | (with_reducible refine LeO.bind ?_ (fun _ => ?_))
theorem impl_EventOk.mono : ∀ a0 a1 a2 a3 a4 a5 a6 k, LeO (impl_EventOk.f k a0 a1 a2 a3 a4 a5 a6) (impl_EventOk.f (k + 1) a0 a1 a2 a3 a4 a5 a6) := by
 intro a0 a1 a2 a3 a4 a5 a6 k
 have ih0 := impl_EventOk.mono_l k
 unfold impl_EventOk.f
 repeat' first
   | (with_reducible exact ih0 _ _ _ _ _ _ _ _)
   | (with_reducible exact impl_apart.mono _ _ _)
   | (with_reducible exact LeO.refl _)
   | (with_reducible exact LeO.none _)
   | (with_reducible refine LeO.ite ?_ ?_)
   | (with_reducible refine LeO.bind ?_ (fun _ => ?_))
set_option maxHeartbeats 8000000 in
set_option maxRecDepth 100000 in
theorem impl_EventOk.calls (k : Nat) (a0_0 : Bool) (a0_1 : Bool) (A0_2 : Option Addr) (c0_2 : Nat) (l0_2 : List Int) (A0_3 : Option Addr) (c0_3 : Nat) (l0_3 : List Int) (a0_4 : Int) (a0_5 : Int) (a0_6 : Int) (r : Bool) (w : World) (hr0_2 : Kd.C (Kd.int .i64) w A0_2 l0_2.length l0_2) (hc0_2 : l0_2.length ≤ c0_2) (hr0_3 : Kd.C (Kd.int .i64) w A0_3 l0_3.length l0_3) (hc0_3 : l0_3.length ≤ c0_3) (h : impl_EventOk.f k a0_0 a0_1 l0_2 l0_3 a0_4 a0_5 a0_6 = some r) :
  Calls Try.prog 17 #[.agg #[.bool a0_0, .bool a0_1, .slice A0_2 l0_2.length c0_2, .slice A0_3 l0_3.length c0_3, .int .i64 a0_4, .int .i64 a0_5, .int .i64 a0_6]] w fun e w' => e = .returned (.bool r) ∧ Below w.heap.size w w' := by
 have hu27 := Try.underlying27
 have HR0_2 := am hr0_2
 have HC0_2 := am hc0_2
 clear hr0_2 hc0_2
 have HR0_3 := am hr0_3
 have HC0_3 := am hc0_3
 clear hr0_3 hc0_3
 have HB := am (Below.refl w.heap.size w)
 have H : ((impl_apart.f k l0_2 l0_3).bind fun t147 => (if t147 = true then (if a0_1 = true then (if (l0_2.length : Int) > 0 then (impl_EventOk.j0 k true a0_0 a0_1 l0_2 l0_3 a0_4 a0_5 a0_6) else ((impl_isCount.f a0_4).bind fun t148 => (if t148 = true then ((impl_isCount.f a0_5).bind fun t149 => (if t149 = true then ((impl_isCount.f a0_6).bind fun t150 => (impl_EventOk.j0 k (!t150) a0_0 a0_1 l0_2 l0_3 a0_4 a0_5 a0_6)) else (impl_EventOk.j0 k true a0_0 a0_1 l0_2 l0_3 a0_4 a0_5 a0_6))) else (impl_EventOk.j0 k true a0_0 a0_1 l0_2 l0_3 a0_4 a0_5 a0_6)))) else ((impl_isCount.f a0_4).bind fun t151 => (if t151 = true then ((impl_isCount.f a0_5).bind fun t152 => (if t152 = true then ((impl_isCount.f a0_6).bind fun t153 => (impl_EventOk.j0 k (!t153) a0_0 a0_1 l0_2 l0_3 a0_4 a0_5 a0_6)) else (impl_EventOk.j0 k true a0_0 a0_1 l0_2 l0_3 a0_4 a0_5 a0_6))) else (impl_EventOk.j0 k true a0_0 a0_1 l0_2 l0_3 a0_4 a0_5 a0_6)))) else (impl_EventOk.j0 k true a0_0 a0_1 l0_2 l0_3 a0_4 a0_5 a0_6))) = some r := h
 clear h
 have HC2 := am H
 clear H
 go_enter Try.func17, Try.ntmps17
 go_upto_region 1 with (first | ((with_reducible refine gate_dst (N := 1) rfl ?_); (try (refine gate_guard (by rfl) ?_; dsimp only)); refine box_event ?hg (N := 1) ?hd (cs := #[.bool a0_0, .bool a0_1, .slice A0_2 l0_2.length c0_2, .slice A0_3 l0_3.length c0_3, .int .i64 a0_4, .int .i64 a0_5, .int .i64 a0_6]) (t := 27) ?hr ?_; (case hd => rfl); (case hg => rfl); (case hr => first | (go_simp; done) | (go_simp; rfl)); intro gb146 hg w3 hbox hb; have BK146 := am (hbox); have GW146 := am ((by rw [hg]; exact (below_size (pkB HB.out)) : w.heap.size ≤ gb146)); have GE146 := am ((by rw [hg]; exact (below_size (pkB HB.out)) : w.heap.size ≤ gb146)); replace HB := am (below_step (pkB HB.out) hb); clear hb hbox hg))
 (try simp only [Act.put, List.setIfInBounds_toArray, List.set_cons_zero, List.set_cons_succ])
 go_cut [37] (fun v37 wc => ∃ (kq : Nat) (x37_1 : Bool), v37 = .bool x37_1 ∧ Aside0 (impl_EventOk.j0 kq x37_1 a0_0 a0_1 l0_2 l0_3 a0_4 a0_5 a0_6 = some r) ∧ Aside0 (kq ≤ k) ∧ Aside0 (wc.heap[gb146]? = some (.cells #[.bool a0_0, .bool a0_1, (.slice A0_2 l0_2.length c0_2), (.slice A0_3 l0_3.length c0_3), .int .i64 a0_4, .int .i64 a0_5, .int .i64 a0_6] 27 (0, 0))) ∧ Aside0 (Below w.heap.size w wc))
 case first =>
  have H := HC2.out
  clear HC2
  replace H := Option.bind_eq_some_iff.mp H
  obtain ⟨t147, A40, H⟩ := H
  replace H : (if t147 = true then (if a0_1 = true then (if (l0_2.length : Int) > 0 then (impl_EventOk.j0 k true a0_0 a0_1 l0_2 l0_3 a0_4 a0_5 a0_6) else ((impl_isCount.f a0_4).bind fun t148 => (if t148 = true then ((impl_isCount.f a0_5).bind fun t149 => (if t149 = true then ((impl_isCount.f a0_6).bind fun t150 => (impl_EventOk.j0 k (!t150) a0_0 a0_1 l0_2 l0_3 a0_4 a0_5 a0_6)) else (impl_EventOk.j0 k true a0_0 a0_1 l0_2 l0_3 a0_4 a0_5 a0_6))) else (impl_EventOk.j0 k true a0_0 a0_1 l0_2 l0_3 a0_4 a0_5 a0_6)))) else ((impl_isCount.f a0_4).bind fun t151 => (if t151 = true then ((impl_isCount.f a0_5).bind fun t152 => (if t152 = true then ((impl_isCount.f a0_6).bind fun t153 => (impl_EventOk.j0 k (!t153) a0_0 a0_1 l0_2 l0_3 a0_4 a0_5 a0_6)) else (impl_EventOk.j0 k true a0_0 a0_1 l0_2 l0_3 a0_4 a0_5 a0_6))) else (impl_EventOk.j0 k true a0_0 a0_1 l0_2 l0_3 a0_4 a0_5 a0_6)))) else (impl_EventOk.j0 k true a0_0 a0_1 l0_2 l0_3 a0_4 a0_5 a0_6)) = some r := H
  have A4 := am A40
  clear A40
  by_cases c5 : t147 = true
  ·subst c5
   replace H : (if a0_1 = true then (if (l0_2.length : Int) > 0 then (impl_EventOk.j0 k true a0_0 a0_1 l0_2 l0_3 a0_4 a0_5 a0_6) else ((impl_isCount.f a0_4).bind fun t148 => (if t148 = true then ((impl_isCount.f a0_5).bind fun t149 => (if t149 = true then ((impl_isCount.f a0_6).bind fun t150 => (impl_EventOk.j0 k (!t150) a0_0 a0_1 l0_2 l0_3 a0_4 a0_5 a0_6)) else (impl_EventOk.j0 k true a0_0 a0_1 l0_2 l0_3 a0_4 a0_5 a0_6))) else (impl_EventOk.j0 k true a0_0 a0_1 l0_2 l0_3 a0_4 a0_5 a0_6)))) else ((impl_isCount.f a0_4).bind fun t151 => (if t151 = true then ((impl_isCount.f a0_5).bind fun t152 => (if t152 = true then ((impl_isCount.f a0_6).bind fun t153 => (impl_EventOk.j0 k (!t153) a0_0 a0_1 l0_2 l0_3 a0_4 a0_5 a0_6)) else (impl_EventOk.j0 k true a0_0 a0_1 l0_2 l0_3 a0_4 a0_5 a0_6))) else (impl_EventOk.j0 k true a0_0 a0_1 l0_2 l0_3 a0_4 a0_5 a0_6)))) = some r := by rw [if_pos rfl] at H; exact H
   by_cases c6 : a0_1 = true
   ·subst c6
    replace H : (if (l0_2.length : Int) > 0 then (impl_EventOk.j0 k true a0_0 true l0_2 l0_3 a0_4 a0_5 a0_6) else ((impl_isCount.f a0_4).bind fun t148 => (if t148 = true then ((impl_isCount.f a0_5).bind fun t149 => (if t149 = true then ((impl_isCount.f a0_6).bind fun t150 => (impl_EventOk.j0 k (!t150) a0_0 true l0_2 l0_3 a0_4 a0_5 a0_6)) else (impl_EventOk.j0 k true a0_0 true l0_2 l0_3 a0_4 a0_5 a0_6))) else (impl_EventOk.j0 k true a0_0 true l0_2 l0_3 a0_4 a0_5 a0_6)))) = some r := by rw [if_pos rfl] at H; exact H
    by_cases c7 : (l0_2.length : Int) > 0
    ·rw [if_pos c7] at H
     have c7b0 : decide (0 < (l0_2.length : Int)) = true := decide_eq_true c7
     have c7b1 : decide (0 < l0_2.length) = true := decide_eq_true (by omega)
     clear c7
     (first | rw [c7b0] | (simp only [i64_w, i32_w]; rw [c7b0]) | skip)
     have H' := am H
     clear H
     obtain ⟨hcz8_0, hcz8_1, hcz8_2, hcz8_3, hcz8_4, hcz8_5, hcz8_6, hfz8_0, hfz8_1, hfz8_2, hfz8_3, hfz8_4, hfz8_5, hfz8_6⟩ := bk7 BK146.out
     go_wp2_with (first | ((with_reducible refine gate_callee (f := 54) rfl ?_); refine goesL_ (some 8) rfl rfl Try.func54 (by kernel_rfl) rfl #[.slice A0_2 l0_2.length c0_2, .slice A0_3 l0_3.length c0_3] rfl mpx ?_; (with_reducible refine (impl_apart.calls k _ _ l0_2 _ _ l0_3 true _ ?side1 ?side2 ?side3 ?side4 A4.out).mono ?_); (case side1 => exact pkC (Kd.C_below HR0_2.out HB.out)); (case side2 => exact HC0_2.out); (case side3 => exact pkC (Kd.C_below HR0_3.out HB.out)); (case side4 => exact HC0_3.out); rintro e w9 ⟨rfl, hb⟩; refine ⟨_, rfl, ?_⟩; replace BK146 := bbk BK146 hb; replace HB := bst HB hb; (try clear hb); obtain ⟨hcz10_0, hcz10_1, hcz10_2, hcz10_3, hcz10_4, hcz10_5, hcz10_6, hfz10_0, hfz10_1, hfz10_2, hfz10_3, hfz10_4, hfz10_5, hfz10_6⟩ := bk7 BK146.out))
     go_meet
     case rel => exact ⟨_, (true), rfx, H', ⟨by first | omega | exact Nat.le_refl _⟩, ⟨pkK BK146.out⟩, ⟨pkW HB.out⟩⟩
    ·rw [if_neg c7] at H
     have c7b0 : decide (0 < (l0_2.length : Int)) = false := decide_eq_false c7
     have c7b1 : decide (0 < l0_2.length) = false := decide_eq_false (by omega)
     clear c7
     (first | rw [c7b0] | (simp only [i64_w, i32_w]; rw [c7b0]) | skip)
     replace H := Option.bind_eq_some_iff.mp H
     obtain ⟨t148, A110, H⟩ := H
     replace H : (if t148 = true then ((impl_isCount.f a0_5).bind fun t149 => (if t149 = true then ((impl_isCount.f a0_6).bind fun t150 => (impl_EventOk.j0 k (!t150) a0_0 true l0_2 l0_3 a0_4 a0_5 a0_6)) else (impl_EventOk.j0 k true a0_0 true l0_2 l0_3 a0_4 a0_5 a0_6))) else (impl_EventOk.j0 k true a0_0 true l0_2 l0_3 a0_4 a0_5 a0_6)) = some r := H
     have A11 := am A110
     clear A110
     by_cases c12 : t148 = true
     ·subst c12
      replace H : ((impl_isCount.f a0_5).bind fun t149 => (if t149 = true then ((impl_isCount.f a0_6).bind fun t150 => (impl_EventOk.j0 k (!t150) a0_0 true l0_2 l0_3 a0_4 a0_5 a0_6)) else (impl_EventOk.j0 k true a0_0 true l0_2 l0_3 a0_4 a0_5 a0_6))) = some r := by rw [if_pos rfl] at H; exact H
      replace H := Option.bind_eq_some_iff.mp H
      obtain ⟨t149, A130, H⟩ := H
      replace H : (if t149 = true then ((impl_isCount.f a0_6).bind fun t150 => (impl_EventOk.j0 k (!t150) a0_0 true l0_2 l0_3 a0_4 a0_5 a0_6)) else (impl_EventOk.j0 k true a0_0 true l0_2 l0_3 a0_4 a0_5 a0_6)) = some r := H
      have A13 := am A130
      clear A130
      by_cases c14 : t149 = true
      ·subst c14
       replace H : ((impl_isCount.f a0_6).bind fun t150 => (impl_EventOk.j0 k (!t150) a0_0 true l0_2 l0_3 a0_4 a0_5 a0_6)) = some r := by rw [if_pos rfl] at H; exact H
       replace H := Option.bind_eq_some_iff.mp H
       obtain ⟨t150, A150, H⟩ := H
       replace H : (impl_EventOk.j0 k (!t150) a0_0 true l0_2 l0_3 a0_4 a0_5 a0_6) = some r := H
       have A15 := am A150
       clear A150
       have H' := am H
       clear H
       obtain ⟨hcz16_0, hcz16_1, hcz16_2, hcz16_3, hcz16_4, hcz16_5, hcz16_6, hfz16_0, hfz16_1, hfz16_2, hfz16_3, hfz16_4, hfz16_5, hfz16_6⟩ := bk7 BK146.out
       go_wp2_with (first | ((with_reducible refine gate_callee (f := 54) rfl ?_); refine goesL_ (some 8) rfl rfl Try.func54 (by kernel_rfl) rfl #[.slice A0_2 l0_2.length c0_2, .slice A0_3 l0_3.length c0_3] rfl mpx ?_; (with_reducible refine (impl_apart.calls k _ _ l0_2 _ _ l0_3 true _ ?side1 ?side2 ?side3 ?side4 A4.out).mono ?_); (case side1 => exact pkC (Kd.C_below HR0_2.out HB.out)); (case side2 => exact HC0_2.out); (case side3 => exact pkC (Kd.C_below HR0_3.out HB.out)); (case side4 => exact HC0_3.out); rintro e w17 ⟨rfl, hb⟩; refine ⟨_, rfl, ?_⟩; replace BK146 := bbk BK146 hb; replace HB := bst HB hb; (try clear hb); obtain ⟨hcz18_0, hcz18_1, hcz18_2, hcz18_3, hcz18_4, hcz18_5, hcz18_6, hfz18_0, hfz18_1, hfz18_2, hfz18_3, hfz18_4, hfz18_5, hfz18_6⟩ := bk7 BK146.out) | (go_at_call 55; (with_reducible refine (impl_isCount.calls a0_4 true _ A11.out).mono ?_); rintro e w' ⟨rfl, nd, rfl⟩) | (go_at_call 55; (with_reducible refine (impl_isCount.calls a0_5 true _ A13.out).mono ?_); rintro e w' ⟨rfl, nd, rfl⟩) | (go_at_call 55; (with_reducible refine (impl_isCount.calls a0_6 t150 _ A15.out).mono ?_); rintro e w' ⟨rfl, nd, rfl⟩))
       go_meet
       case rel => exact ⟨_, (!t150), rfx, H', ⟨by first | omega | exact Nat.le_refl _⟩, ⟨pkK BK146.out⟩, ⟨pkW HB.out⟩⟩
      ·replace c14 := Bool.eq_false_iff.mpr c14
       subst c14
       replace H : (impl_EventOk.j0 k true a0_0 true l0_2 l0_3 a0_4 a0_5 a0_6) = some r := by rw [if_neg (show ¬ (false = true) by decide)] at H; exact H
       have H' := am H
       clear H
       obtain ⟨hcz19_0, hcz19_1, hcz19_2, hcz19_3, hcz19_4, hcz19_5, hcz19_6, hfz19_0, hfz19_1, hfz19_2, hfz19_3, hfz19_4, hfz19_5, hfz19_6⟩ := bk7 BK146.out
       go_wp2_with (first | ((with_reducible refine gate_callee (f := 54) rfl ?_); refine goesL_ (some 8) rfl rfl Try.func54 (by kernel_rfl) rfl #[.slice A0_2 l0_2.length c0_2, .slice A0_3 l0_3.length c0_3] rfl mpx ?_; (with_reducible refine (impl_apart.calls k _ _ l0_2 _ _ l0_3 true _ ?side1 ?side2 ?side3 ?side4 A4.out).mono ?_); (case side1 => exact pkC (Kd.C_below HR0_2.out HB.out)); (case side2 => exact HC0_2.out); (case side3 => exact pkC (Kd.C_below HR0_3.out HB.out)); (case side4 => exact HC0_3.out); rintro e w20 ⟨rfl, hb⟩; refine ⟨_, rfl, ?_⟩; replace BK146 := bbk BK146 hb; replace HB := bst HB hb; (try clear hb); obtain ⟨hcz21_0, hcz21_1, hcz21_2, hcz21_3, hcz21_4, hcz21_5, hcz21_6, hfz21_0, hfz21_1, hfz21_2, hfz21_3, hfz21_4, hfz21_5, hfz21_6⟩ := bk7 BK146.out) | (go_at_call 55; (with_reducible refine (impl_isCount.calls a0_4 true _ A11.out).mono ?_); rintro e w' ⟨rfl, nd, rfl⟩) | (go_at_call 55; (with_reducible refine (impl_isCount.calls a0_5 false _ A13.out).mono ?_); rintro e w' ⟨rfl, nd, rfl⟩))
       go_meet
       case rel => exact ⟨_, (true), rfx, H', ⟨by first | omega | exact Nat.le_refl _⟩, ⟨pkK BK146.out⟩, ⟨pkW HB.out⟩⟩
     ·replace c12 := Bool.eq_false_iff.mpr c12
      subst c12
      replace H : (impl_EventOk.j0 k true a0_0 true l0_2 l0_3 a0_4 a0_5 a0_6) = some r := by rw [if_neg (show ¬ (false = true) by decide)] at H; exact H
      have H' := am H
      clear H
      obtain ⟨hcz22_0, hcz22_1, hcz22_2, hcz22_3, hcz22_4, hcz22_5, hcz22_6, hfz22_0, hfz22_1, hfz22_2, hfz22_3, hfz22_4, hfz22_5, hfz22_6⟩ := bk7 BK146.out
      go_wp2_with (first | ((with_reducible refine gate_callee (f := 54) rfl ?_); refine goesL_ (some 8) rfl rfl Try.func54 (by kernel_rfl) rfl #[.slice A0_2 l0_2.length c0_2, .slice A0_3 l0_3.length c0_3] rfl mpx ?_; (with_reducible refine (impl_apart.calls k _ _ l0_2 _ _ l0_3 true _ ?side1 ?side2 ?side3 ?side4 A4.out).mono ?_); (case side1 => exact pkC (Kd.C_below HR0_2.out HB.out)); (case side2 => exact HC0_2.out); (case side3 => exact pkC (Kd.C_below HR0_3.out HB.out)); (case side4 => exact HC0_3.out); rintro e w23 ⟨rfl, hb⟩; refine ⟨_, rfl, ?_⟩; replace BK146 := bbk BK146 hb; replace HB := bst HB hb; (try clear hb); obtain ⟨hcz24_0, hcz24_1, hcz24_2, hcz24_3, hcz24_4, hcz24_5, hcz24_6, hfz24_0, hfz24_1, hfz24_2, hfz24_3, hfz24_4, hfz24_5, hfz24_6⟩ := bk7 BK146.out) | (go_at_call 55; (with_reducible refine (impl_isCount.calls a0_4 false _ A11.out).mono ?_); rintro e w' ⟨rfl, nd, rfl⟩))
      go_meet
      case rel => exact ⟨_, (true), rfx, H', ⟨by first | omega | exact Nat.le_refl _⟩, ⟨pkK BK146.out⟩, ⟨pkW HB.out⟩⟩
   ·replace c6 := Bool.eq_false_iff.mpr c6
    subst c6
    replace H : ((impl_isCount.f a0_4).bind fun t151 => (if t151 = true then ((impl_isCount.f a0_5).bind fun t152 => (if t152 = true then ((impl_isCount.f a0_6).bind fun t153 => (impl_EventOk.j0 k (!t153) a0_0 false l0_2 l0_3 a0_4 a0_5 a0_6)) else (impl_EventOk.j0 k true a0_0 false l0_2 l0_3 a0_4 a0_5 a0_6))) else (impl_EventOk.j0 k true a0_0 false l0_2 l0_3 a0_4 a0_5 a0_6))) = some r := by rw [if_neg (show ¬ (false = true) by decide)] at H; exact H
    replace H := Option.bind_eq_some_iff.mp H
    obtain ⟨t151, A250, H⟩ := H
    replace H : (if t151 = true then ((impl_isCount.f a0_5).bind fun t152 => (if t152 = true then ((impl_isCount.f a0_6).bind fun t153 => (impl_EventOk.j0 k (!t153) a0_0 false l0_2 l0_3 a0_4 a0_5 a0_6)) else (impl_EventOk.j0 k true a0_0 false l0_2 l0_3 a0_4 a0_5 a0_6))) else (impl_EventOk.j0 k true a0_0 false l0_2 l0_3 a0_4 a0_5 a0_6)) = some r := H
    have A25 := am A250
    clear A250
    by_cases c26 : t151 = true
    ·subst c26
     replace H : ((impl_isCount.f a0_5).bind fun t152 => (if t152 = true then ((impl_isCount.f a0_6).bind fun t153 => (impl_EventOk.j0 k (!t153) a0_0 false l0_2 l0_3 a0_4 a0_5 a0_6)) else (impl_EventOk.j0 k true a0_0 false l0_2 l0_3 a0_4 a0_5 a0_6))) = some r := by rw [if_pos rfl] at H; exact H
     replace H := Option.bind_eq_some_iff.mp H
     obtain ⟨t152, A270, H⟩ := H
     replace H : (if t152 = true then ((impl_isCount.f a0_6).bind fun t153 => (impl_EventOk.j0 k (!t153) a0_0 false l0_2 l0_3 a0_4 a0_5 a0_6)) else (impl_EventOk.j0 k true a0_0 false l0_2 l0_3 a0_4 a0_5 a0_6)) = some r := H
     have A27 := am A270
     clear A270
     by_cases c28 : t152 = true
     ·subst c28
      replace H : ((impl_isCount.f a0_6).bind fun t153 => (impl_EventOk.j0 k (!t153) a0_0 false l0_2 l0_3 a0_4 a0_5 a0_6)) = some r := by rw [if_pos rfl] at H; exact H
      replace H := Option.bind_eq_some_iff.mp H
      obtain ⟨t153, A290, H⟩ := H
      replace H : (impl_EventOk.j0 k (!t153) a0_0 false l0_2 l0_3 a0_4 a0_5 a0_6) = some r := H
      have A29 := am A290
      clear A290
      have H' := am H
      clear H
      obtain ⟨hcz30_0, hcz30_1, hcz30_2, hcz30_3, hcz30_4, hcz30_5, hcz30_6, hfz30_0, hfz30_1, hfz30_2, hfz30_3, hfz30_4, hfz30_5, hfz30_6⟩ := bk7 BK146.out
      go_wp2_with (first | ((with_reducible refine gate_callee (f := 54) rfl ?_); refine goesL_ (some 8) rfl rfl Try.func54 (by kernel_rfl) rfl #[.slice A0_2 l0_2.length c0_2, .slice A0_3 l0_3.length c0_3] rfl mpx ?_; (with_reducible refine (impl_apart.calls k _ _ l0_2 _ _ l0_3 true _ ?side1 ?side2 ?side3 ?side4 A4.out).mono ?_); (case side1 => exact pkC (Kd.C_below HR0_2.out HB.out)); (case side2 => exact HC0_2.out); (case side3 => exact pkC (Kd.C_below HR0_3.out HB.out)); (case side4 => exact HC0_3.out); rintro e w31 ⟨rfl, hb⟩; refine ⟨_, rfl, ?_⟩; replace BK146 := bbk BK146 hb; replace HB := bst HB hb; (try clear hb); obtain ⟨hcz32_0, hcz32_1, hcz32_2, hcz32_3, hcz32_4, hcz32_5, hcz32_6, hfz32_0, hfz32_1, hfz32_2, hfz32_3, hfz32_4, hfz32_5, hfz32_6⟩ := bk7 BK146.out) | (go_at_call 55; (with_reducible refine (impl_isCount.calls a0_4 true _ A25.out).mono ?_); rintro e w' ⟨rfl, nd, rfl⟩) | (go_at_call 55; (with_reducible refine (impl_isCount.calls a0_5 true _ A27.out).mono ?_); rintro e w' ⟨rfl, nd, rfl⟩) | (go_at_call 55; (with_reducible refine (impl_isCount.calls a0_6 t153 _ A29.out).mono ?_); rintro e w' ⟨rfl, nd, rfl⟩))
      go_meet
      case rel => exact ⟨_, (!t153), rfx, H', ⟨by first | omega | exact Nat.le_refl _⟩, ⟨pkK BK146.out⟩, ⟨pkW HB.out⟩⟩
     ·replace c28 := Bool.eq_false_iff.mpr c28
      subst c28
      replace H : (impl_EventOk.j0 k true a0_0 false l0_2 l0_3 a0_4 a0_5 a0_6) = some r := by rw [if_neg (show ¬ (false = true) by decide)] at H; exact H
      have H' := am H
      clear H
      obtain ⟨hcz33_0, hcz33_1, hcz33_2, hcz33_3, hcz33_4, hcz33_5, hcz33_6, hfz33_0, hfz33_1, hfz33_2, hfz33_3, hfz33_4, hfz33_5, hfz33_6⟩ := bk7 BK146.out
      go_wp2_with (first | ((with_reducible refine gate_callee (f := 54) rfl ?_); refine goesL_ (some 8) rfl rfl Try.func54 (by kernel_rfl) rfl #[.slice A0_2 l0_2.length c0_2, .slice A0_3 l0_3.length c0_3] rfl mpx ?_; (with_reducible refine (impl_apart.calls k _ _ l0_2 _ _ l0_3 true _ ?side1 ?side2 ?side3 ?side4 A4.out).mono ?_); (case side1 => exact pkC (Kd.C_below HR0_2.out HB.out)); (case side2 => exact HC0_2.out); (case side3 => exact pkC (Kd.C_below HR0_3.out HB.out)); (case side4 => exact HC0_3.out); rintro e w34 ⟨rfl, hb⟩; refine ⟨_, rfl, ?_⟩; replace BK146 := bbk BK146 hb; replace HB := bst HB hb; (try clear hb); obtain ⟨hcz35_0, hcz35_1, hcz35_2, hcz35_3, hcz35_4, hcz35_5, hcz35_6, hfz35_0, hfz35_1, hfz35_2, hfz35_3, hfz35_4, hfz35_5, hfz35_6⟩ := bk7 BK146.out) | (go_at_call 55; (with_reducible refine (impl_isCount.calls a0_4 true _ A25.out).mono ?_); rintro e w' ⟨rfl, nd, rfl⟩) | (go_at_call 55; (with_reducible refine (impl_isCount.calls a0_5 false _ A27.out).mono ?_); rintro e w' ⟨rfl, nd, rfl⟩))
      go_meet
      case rel => exact ⟨_, (true), rfx, H', ⟨by first | omega | exact Nat.le_refl _⟩, ⟨pkK BK146.out⟩, ⟨pkW HB.out⟩⟩
    ·replace c26 := Bool.eq_false_iff.mpr c26
     subst c26
     replace H : (impl_EventOk.j0 k true a0_0 false l0_2 l0_3 a0_4 a0_5 a0_6) = some r := by rw [if_neg (show ¬ (false = true) by decide)] at H; exact H
     have H' := am H
     clear H
     obtain ⟨hcz36_0, hcz36_1, hcz36_2, hcz36_3, hcz36_4, hcz36_5, hcz36_6, hfz36_0, hfz36_1, hfz36_2, hfz36_3, hfz36_4, hfz36_5, hfz36_6⟩ := bk7 BK146.out
     go_wp2_with (first | ((with_reducible refine gate_callee (f := 54) rfl ?_); refine goesL_ (some 8) rfl rfl Try.func54 (by kernel_rfl) rfl #[.slice A0_2 l0_2.length c0_2, .slice A0_3 l0_3.length c0_3] rfl mpx ?_; (with_reducible refine (impl_apart.calls k _ _ l0_2 _ _ l0_3 true _ ?side1 ?side2 ?side3 ?side4 A4.out).mono ?_); (case side1 => exact pkC (Kd.C_below HR0_2.out HB.out)); (case side2 => exact HC0_2.out); (case side3 => exact pkC (Kd.C_below HR0_3.out HB.out)); (case side4 => exact HC0_3.out); rintro e w37 ⟨rfl, hb⟩; refine ⟨_, rfl, ?_⟩; replace BK146 := bbk BK146 hb; replace HB := bst HB hb; (try clear hb); obtain ⟨hcz38_0, hcz38_1, hcz38_2, hcz38_3, hcz38_4, hcz38_5, hcz38_6, hfz38_0, hfz38_1, hfz38_2, hfz38_3, hfz38_4, hfz38_5, hfz38_6⟩ := bk7 BK146.out) | (go_at_call 55; (with_reducible refine (impl_isCount.calls a0_4 false _ A25.out).mono ?_); rintro e w' ⟨rfl, nd, rfl⟩))
     go_meet
     case rel => exact ⟨_, (true), rfx, H', ⟨by first | omega | exact Nat.le_refl _⟩, ⟨pkK BK146.out⟩, ⟨pkW HB.out⟩⟩
  ·replace c5 := Bool.eq_false_iff.mpr c5
   subst c5
   replace H : (impl_EventOk.j0 k true a0_0 a0_1 l0_2 l0_3 a0_4 a0_5 a0_6) = some r := by rw [if_neg (show ¬ (false = true) by decide)] at H; exact H
   have H' := am H
   clear H
   obtain ⟨hcz39_0, hcz39_1, hcz39_2, hcz39_3, hcz39_4, hcz39_5, hcz39_6, hfz39_0, hfz39_1, hfz39_2, hfz39_3, hfz39_4, hfz39_5, hfz39_6⟩ := bk7 BK146.out
   go_wp2_with (first | ((with_reducible refine gate_callee (f := 54) rfl ?_); refine goesL_ (some 8) rfl rfl Try.func54 (by kernel_rfl) rfl #[.slice A0_2 l0_2.length c0_2, .slice A0_3 l0_3.length c0_3] rfl mpx ?_; (with_reducible refine (impl_apart.calls k _ _ l0_2 _ _ l0_3 false _ ?side1 ?side2 ?side3 ?side4 A4.out).mono ?_); (case side1 => exact pkC (Kd.C_below HR0_2.out HB.out)); (case side2 => exact HC0_2.out); (case side3 => exact pkC (Kd.C_below HR0_3.out HB.out)); (case side4 => exact HC0_3.out); rintro e w40 ⟨rfl, hb⟩; refine ⟨_, rfl, ?_⟩; replace BK146 := bbk BK146 hb; replace HB := bst HB hb; (try clear hb)))
   go_meet
   case rel => exact ⟨_, (true), rfx, H', ⟨by first | omega | exact Nat.le_refl _⟩, ⟨pkK BK146.out⟩, ⟨pkW HB.out⟩⟩
 case rest =>
  clear HC2
  try clear c1
  try clear c2
  try clear p2
  try clear c5
  try clear c6
  try clear c7
  try clear c7b0
  try clear c7b1
  try clear c12
  try clear c14
  try clear c17
  try clear c26
  try clear c28
  try clear hcz10_0
  try clear hcz10_1
  try clear hcz10_2
  try clear hcz10_3
  try clear hcz10_4
  try clear hcz10_5
  try clear hcz10_6
  try clear hcz16_0
  try clear hcz16_1
  try clear hcz16_2
  try clear hcz16_3
  try clear hcz16_4
  try clear hcz16_5
  try clear hcz16_6
  try clear hcz18_0
  try clear hcz18_1
  try clear hcz18_2
  try clear hcz18_3
  try clear hcz18_4
  try clear hcz18_5
  try clear hcz18_6
  try clear hcz19_0
  try clear hcz19_1
  try clear hcz19_2
  try clear hcz19_3
  try clear hcz19_4
  try clear hcz19_5
  try clear hcz19_6
  try clear hcz21_0
  try clear hcz21_1
  try clear hcz21_2
  try clear hcz21_3
  try clear hcz21_4
  try clear hcz21_5
  try clear hcz21_6
  try clear hcz22_0
  try clear hcz22_1
  try clear hcz22_2
  try clear hcz22_3
  try clear hcz22_4
  try clear hcz22_5
  try clear hcz22_6
  try clear hcz24_0
  try clear hcz24_1
  try clear hcz24_2
  try clear hcz24_3
  try clear hcz24_4
  try clear hcz24_5
  try clear hcz24_6
  try clear hcz30_0
  try clear hcz30_1
  try clear hcz30_2
  try clear hcz30_3
  try clear hcz30_4
  try clear hcz30_5
  try clear hcz30_6
  try clear hcz32_0
  try clear hcz32_1
  try clear hcz32_2
  try clear hcz32_3
  try clear hcz32_4
  try clear hcz32_5
  try clear hcz32_6
  try clear hcz33_0
  try clear hcz33_1
  try clear hcz33_2
  try clear hcz33_3
  try clear hcz33_4
  try clear hcz33_5
  try clear hcz33_6
  try clear hcz35_0
  try clear hcz35_1
  try clear hcz35_2
  try clear hcz35_3
  try clear hcz35_4
  try clear hcz35_5
  try clear hcz35_6
  try clear hcz36_0
  try clear hcz36_1
  try clear hcz36_2
  try clear hcz36_3
  try clear hcz36_4
  try clear hcz36_5
  try clear hcz36_6
  try clear hcz38_0
  try clear hcz38_1
  try clear hcz38_2
  try clear hcz38_3
  try clear hcz38_4
  try clear hcz38_5
  try clear hcz38_6
  try clear hcz39_0
  try clear hcz39_1
  try clear hcz39_2
  try clear hcz39_3
  try clear hcz39_4
  try clear hcz39_5
  try clear hcz39_6
  try clear hcz8_0
  try clear hcz8_1
  try clear hcz8_2
  try clear hcz8_3
  try clear hcz8_4
  try clear hcz8_5
  try clear hcz8_6
  try clear hfz10_0
  try clear hfz10_1
  try clear hfz10_2
  try clear hfz10_3
  try clear hfz10_4
  try clear hfz10_5
  try clear hfz10_6
  try clear hfz16_0
  try clear hfz16_1
  try clear hfz16_2
  try clear hfz16_3
  try clear hfz16_4
  try clear hfz16_5
  try clear hfz16_6
  try clear hfz18_0
  try clear hfz18_1
  try clear hfz18_2
  try clear hfz18_3
  try clear hfz18_4
  try clear hfz18_5
  try clear hfz18_6
  try clear hfz19_0
  try clear hfz19_1
  try clear hfz19_2
  try clear hfz19_3
  try clear hfz19_4
  try clear hfz19_5
  try clear hfz19_6
  try clear hfz21_0
  try clear hfz21_1
  try clear hfz21_2
  try clear hfz21_3
  try clear hfz21_4
  try clear hfz21_5
  try clear hfz21_6
  try clear hfz22_0
  try clear hfz22_1
  try clear hfz22_2
  try clear hfz22_3
  try clear hfz22_4
  try clear hfz22_5
  try clear hfz22_6
  try clear hfz24_0
  try clear hfz24_1
  try clear hfz24_2
  try clear hfz24_3
  try clear hfz24_4
  try clear hfz24_5
  try clear hfz24_6
  try clear hfz30_0
  try clear hfz30_1
  try clear hfz30_2
  try clear hfz30_3
  try clear hfz30_4
  try clear hfz30_5
  try clear hfz30_6
  try clear hfz32_0
  try clear hfz32_1
  try clear hfz32_2
  try clear hfz32_3
  try clear hfz32_4
  try clear hfz32_5
  try clear hfz32_6
  try clear hfz33_0
  try clear hfz33_1
  try clear hfz33_2
  try clear hfz33_3
  try clear hfz33_4
  try clear hfz33_5
  try clear hfz33_6
  try clear hfz35_0
  try clear hfz35_1
  try clear hfz35_2
  try clear hfz35_3
  try clear hfz35_4
  try clear hfz35_5
  try clear hfz35_6
  try clear hfz36_0
  try clear hfz36_1
  try clear hfz36_2
  try clear hfz36_3
  try clear hfz36_4
  try clear hfz36_5
  try clear hfz36_6
  try clear hfz38_0
  try clear hfz38_1
  try clear hfz38_2
  try clear hfz38_3
  try clear hfz38_4
  try clear hfz38_5
  try clear hfz38_6
  try clear hfz39_0
  try clear hfz39_1
  try clear hfz39_2
  try clear hfz39_3
  try clear hfz39_4
  try clear hfz39_5
  try clear hfz39_6
  try clear hfz8_0
  try clear hfz8_1
  try clear hfz8_2
  try clear hfz8_3
  try clear hfz8_4
  try clear hfz8_5
  try clear hfz8_6
  obtain ⟨kq, x37_1, rfl, HA, HJ1, BK146, HB⟩ := hcut
  cases kq with
  | zero => exact absurd HA.out (by simp [impl_EventOk.j0])
  | succ kj1 =>
   have H := HA.out
   clear HA
   simp only [impl_EventOk.j0] at H
   by_cases c41 : x37_1 = true
   ·subst c41
    replace H : (some false) = some r := by rw [if_pos rfl] at H; exact H
    obtain rfl := Option.some.inj H
    go_wp2
    go_ret
    exact ⟨rfe, pkW HB.out⟩
   ·replace c41 := Bool.eq_false_iff.mpr c41
    subst c41
    replace H : (if a0_0 = true then (if a0_1 = true then (some ((wrap64 ((wrap64 ((wrap64 (a0_5 + a0_6)) + (l0_3.length : Int))) + 1)) == a0_4)) else (some ((wrap64 ((wrap64 (a0_5 + a0_6)) + (l0_3.length : Int))) == a0_4))) else (if a0_4 = 0 then (if a0_5 = 0 then (some (a0_6 == 0)) else (some false)) else (some false))) = some r := by rw [if_neg (show ¬ (false = true) by decide)] at H; exact H
    by_cases c42 : a0_0 = true
    ·subst c42
     replace H : (if a0_1 = true then (some ((wrap64 ((wrap64 ((wrap64 (a0_5 + a0_6)) + (l0_3.length : Int))) + 1)) == a0_4)) else (some ((wrap64 ((wrap64 (a0_5 + a0_6)) + (l0_3.length : Int))) == a0_4))) = some r := by rw [if_pos rfl] at H; exact H
     by_cases c43 : a0_1 = true
     ·subst c43
      replace H : (some ((wrap64 ((wrap64 ((wrap64 (a0_5 + a0_6)) + (l0_3.length : Int))) + 1)) == a0_4)) = some r := by rw [if_pos rfl] at H; exact H
      obtain rfl := Option.some.inj H
      obtain ⟨hcz44_0, hcz44_1, hcz44_2, hcz44_3, hcz44_4, hcz44_5, hcz44_6, hfz44_0, hfz44_1, hfz44_2, hfz44_3, hfz44_4, hfz44_5, hfz44_6⟩ := bk7 BK146.out
      go_wp2
      go_ret
      exact ⟨rfe, pkW HB.out⟩
     ·replace c43 := Bool.eq_false_iff.mpr c43
      subst c43
      replace H : (some ((wrap64 ((wrap64 (a0_5 + a0_6)) + (l0_3.length : Int))) == a0_4)) = some r := by rw [if_neg (show ¬ (false = true) by decide)] at H; exact H
      obtain rfl := Option.some.inj H
      obtain ⟨hcz45_0, hcz45_1, hcz45_2, hcz45_3, hcz45_4, hcz45_5, hcz45_6, hfz45_0, hfz45_1, hfz45_2, hfz45_3, hfz45_4, hfz45_5, hfz45_6⟩ := bk7 BK146.out
      go_wp2
      go_ret
      exact ⟨rfe, pkW HB.out⟩
    ·replace c42 := Bool.eq_false_iff.mpr c42
     subst c42
     replace H : (if a0_4 = 0 then (if a0_5 = 0 then (some (a0_6 == 0)) else (some false)) else (some false)) = some r := by rw [if_neg (show ¬ (false = true) by decide)] at H; exact H
     by_cases c46 : a0_4 = 0
     ·rw [if_pos c46] at H
      have c46b0 : (a0_4 == 0) = true := beq_iff_eq.mpr c46
      have c46b1 : (a0_4 != 0) = false := bne_eq_false_iff_eq.mpr c46
      clear c46
      by_cases c47 : a0_5 = 0
      ·rw [if_pos c47] at H
       have c47b0 : (a0_5 == 0) = true := beq_iff_eq.mpr c47
       have c47b1 : (a0_5 != 0) = false := bne_eq_false_iff_eq.mpr c47
       clear c47
       obtain rfl := Option.some.inj H
       obtain ⟨hcz48_0, hcz48_1, hcz48_2, hcz48_3, hcz48_4, hcz48_5, hcz48_6, hfz48_0, hfz48_1, hfz48_2, hfz48_3, hfz48_4, hfz48_5, hfz48_6⟩ := bk7 BK146.out
       go_wp2
       go_ret
       exact ⟨rfe, pkW HB.out⟩
      ·rw [if_neg c47] at H
       have c47b0 : (a0_5 == 0) = false := beq_eq_false_iff_ne.mpr c47
       have c47b1 : (a0_5 != 0) = true := bne_iff_ne.mpr c47
       obtain rfl := Option.some.inj H
       obtain ⟨hcz49_0, hcz49_1, hcz49_2, hcz49_3, hcz49_4, hcz49_5, hcz49_6, hfz49_0, hfz49_1, hfz49_2, hfz49_3, hfz49_4, hfz49_5, hfz49_6⟩ := bk7 BK146.out
       go_wp2
       go_ret
       exact ⟨rfe, pkW HB.out⟩
     ·rw [if_neg c46] at H
      have c46b0 : (a0_4 == 0) = false := beq_eq_false_iff_ne.mpr c46
      have c46b1 : (a0_4 != 0) = true := bne_iff_ne.mpr c46
      obtain rfl := Option.some.inj H
      obtain ⟨hcz50_0, hcz50_1, hcz50_2, hcz50_3, hcz50_4, hcz50_5, hcz50_6, hfz50_0, hfz50_1, hfz50_2, hfz50_3, hfz50_4, hfz50_5, hfz50_6⟩ := bk7 BK146.out
      go_wp2
      go_ret
      exact ⟨rfe, pkW HB.out⟩
end Go.Proofs.Ytdagpmnadapbjaa.Z
