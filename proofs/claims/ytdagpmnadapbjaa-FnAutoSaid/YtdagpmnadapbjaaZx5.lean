/- Go code comes to just these functions; conditions: in each theorem. -/
import Derived.Test.YtdagpmnadapbjaaZx0
import Derived.Test.YtdagpmnadapbjaaZx1
import Derived.Test.YtdagpmnadapbjaaZx4
namespace Go.Proofs.Ytdagpmnadapbjaa.Z
open Go.RowKit Go.Proofs.YtdagpmnadapbjaaW.PrintWords Go.Proofs.YtdagpmnadapbjaaW.PrintLast Go.Proofs.YtdagpmnadapbjaaW.PrintMore
attribute [local go_sem] max2_int min2_int max_two min_two max_three min_three max_four min_four   -- for this text's walks alone
set_option linter.unusedVariables false
set_option linter.unusedSimpArgs false
mutual
def spec_EventOk.j0 : Nat → Bool → Bool → Bool → List Int → List Int → Int → Int → Int → Option (Bool)
 | 0, _, _, _, _, _, _, _, _ => none
 | k + 1, x19, x116000, x116001, x116002, x116003, x116004, x116005, x116006 => if x19 = true then (some false) else ((spec_l1In.f x116004 0 1000000000).bind fun t117 => (if t117 = true then ((spec_l1In.f x116005 0 1000000000).bind fun t118 => (if t118 = true then ((spec_l1In.f x116006 0 1000000000).bind fun t119 => (spec_EventOk.j1 k (!t119) x116000 x116001 x116002 x116003 x116004 x116005 x116006)) else (spec_EventOk.j1 k true x116000 x116001 x116002 x116003 x116004 x116005 x116006))) else (spec_EventOk.j1 k true x116000 x116001 x116002 x116003 x116004 x116005 x116006)))
def spec_EventOk.j1 : Nat → Bool → Bool → Bool → List Int → List Int → Int → Int → Int → Option (Bool)
 | 0, _, _, _, _, _, _, _, _ => none
 | k + 1, x35, x116000, x116001, x116002, x116003, x116004, x116005, x116006 => if x35 = true then (some false) else (if x116000 = true then (if x116001 = true then (some (x116004 == (wrap64 ((wrap64 ((wrap64 (x116005 + x116006)) + (x116003.length : Int))) + 1)))) else (some (x116004 == (wrap64 ((wrap64 (x116005 + x116006)) + (x116003.length : Int)))))) else (if x116004 = 0 then (if x116005 = 0 then (some (x116006 == 0)) else (some false)) else (some false)))
end
def spec_EventOk.f (k : Nat) (a0_0 : Bool) (a0_1 : Bool) (l0_2 : List Int) (l0_3 : List Int) (a0_4 : Int) (a0_5 : Int) (a0_6 : Int) : Option (Bool) := (spec_l6Waits.f k l0_2 l0_3).bind fun t116 => (if t116 = true then (if a0_1 = true then (spec_EventOk.j0 k (decide ((l0_2.length : Int) > 0)) a0_0 a0_1 l0_2 l0_3 a0_4 a0_5 a0_6) else (spec_EventOk.j0 k false a0_0 a0_1 l0_2 l0_3 a0_4 a0_5 a0_6)) else (spec_EventOk.j0 k true a0_0 a0_1 l0_2 l0_3 a0_4 a0_5 a0_6))
theorem spec_EventOk.mono_l : ∀ k, (∀ y0 y1 y2 y3 y4 y5 y6 y7, LeO (spec_EventOk.j0 k y0 y1 y2 y3 y4 y5 y6 y7) (spec_EventOk.j0 (k + 1) y0 y1 y2 y3 y4 y5 y6 y7)) ∧ (∀ y0 y1 y2 y3 y4 y5 y6 y7, LeO (spec_EventOk.j1 k y0 y1 y2 y3 y4 y5 y6 y7) (spec_EventOk.j1 (k + 1) y0 y1 y2 y3 y4 y5 y6 y7))
 | 0 => ⟨fun _ _ _ _ _ _ _ _ r h => by simp [spec_EventOk.j0] at h, fun _ _ _ _ _ _ _ _ r h => by simp [spec_EventOk.j1] at h⟩
 | k + 1 => by
  obtain ⟨ih0, ih1⟩ := spec_EventOk.mono_l k
  refine ⟨?_, ?_⟩
  ·intro y0 y1 y2 y3 y4 y5 y6 y7
   unfold spec_EventOk.j0
   repeat' first
   | (with_reducible exact ih0 _ _ _ _ _ _ _ _)
   | (with_reducible exact ih1 _ _ _ _ _ _ _ _)
   | (with_reducible exact spec_l6Waits.mono _ _ _)
   | (with_reducible exact LeO.refl _)
   | (with_reducible exact LeO.none _)
   | (with_reducible refine LeO.ite ?_ ?_)
   | (with_reducible refine LeO.bind ?_ (fun _ => ?_))
  ·intro y0 y1 y2 y3 y4 y5 y6 y7
   unfold spec_EventOk.j1
   repeat' first
   | (with_reducible exact ih0 _ _ _ _ _ _ _ _)
   | (with_reducible exact ih1 _ _ _ _ _ _ _ _)
   | (with_reducible exact spec_l6Waits.mono _ _ _)
   | (with_reducible exact LeO.refl _)
   | (with_reducible exact LeO.none _)
   | (with_reducible refine LeO.ite ?_ ?_)
   | (with_reducible refine LeO.bind ?_ (fun _ => ?_))
theorem spec_EventOk.mono : ∀ a0 a1 a2 a3 a4 a5 a6 k, LeO (spec_EventOk.f k a0 a1 a2 a3 a4 a5 a6) (spec_EventOk.f (k + 1) a0 a1 a2 a3 a4 a5 a6) := by
 intro a0 a1 a2 a3 a4 a5 a6 k
 obtain ⟨ih0, ih1⟩ := spec_EventOk.mono_l k
 unfold spec_EventOk.f
 repeat' first
   | (with_reducible exact ih0 _ _ _ _ _ _ _ _)
   | (with_reducible exact ih1 _ _ _ _ _ _ _ _)
   | (with_reducible exact spec_l6Waits.mono _ _ _)
   | (with_reducible exact LeO.refl _)
   | (with_reducible exact LeO.none _)
   | (with_reducible refine LeO.ite ?_ ?_)
   | (with_reducible refine LeO.bind ?_ (fun _ => ?_))
set_option maxHeartbeats 8000000 in
set_option maxRecDepth 100000 in
theorem spec_EventOk.calls (k : Nat) (a0_0 : Bool) (a0_1 : Bool) (A0_2 : Option Addr) (c0_2 : Nat) (l0_2 : List Int) (A0_3 : Option Addr) (c0_3 : Nat) (l0_3 : List Int) (a0_4 : Int) (a0_5 : Int) (a0_6 : Int) (r : Bool) (w : World) (hr0_2 : Kd.C (Kd.int .i64) w A0_2 l0_2.length l0_2) (hc0_2 : l0_2.length ≤ c0_2) (hr0_3 : Kd.C (Kd.int .i64) w A0_3 l0_3.length l0_3) (hc0_3 : l0_3.length ≤ c0_3) (h : spec_EventOk.f k a0_0 a0_1 l0_2 l0_3 a0_4 a0_5 a0_6 = some r) :
  Calls Try.prog 15 #[.agg #[.bool a0_0, .bool a0_1, .slice A0_2 l0_2.length c0_2, .slice A0_3 l0_3.length c0_3, .int .i64 a0_4, .int .i64 a0_5, .int .i64 a0_6]] w fun e w' => e = .returned (.bool r) ∧ Below w.heap.size w w' := by
 have hu27 := Try.underlying27
 have HR0_2 := am hr0_2
 have HC0_2 := am hc0_2
 clear hr0_2 hc0_2
 have HR0_3 := am hr0_3
 have HC0_3 := am hc0_3
 clear hr0_3 hc0_3
 have HB := am (Below.refl w.heap.size w)
 have H : ((spec_l6Waits.f k l0_2 l0_3).bind fun t116 => (if t116 = true then (if a0_1 = true then (spec_EventOk.j0 k (decide ((l0_2.length : Int) > 0)) a0_0 a0_1 l0_2 l0_3 a0_4 a0_5 a0_6) else (spec_EventOk.j0 k false a0_0 a0_1 l0_2 l0_3 a0_4 a0_5 a0_6)) else (spec_EventOk.j0 k true a0_0 a0_1 l0_2 l0_3 a0_4 a0_5 a0_6))) = some r := h
 clear h
 have HC2 := am H
 clear H
 go_enter Try.func15, Try.ntmps15
 go_upto_region 1 with (first | ((with_reducible refine gate_dst (N := 1) rfl ?_); (try (refine gate_guard (by rfl) ?_; dsimp only)); refine box_event ?hg (N := 1) ?hd (cs := #[.bool a0_0, .bool a0_1, .slice A0_2 l0_2.length c0_2, .slice A0_3 l0_3.length c0_3, .int .i64 a0_4, .int .i64 a0_5, .int .i64 a0_6]) (t := 27) ?hr ?_; (case hd => rfl); (case hg => rfl); (case hr => first | (go_simp; done) | (go_simp; rfl)); intro gb115 hg w3 hbox hb; have BK115 := am (hbox); have GW115 := am ((by rw [hg]; exact (below_size (pkB HB.out)) : w.heap.size ≤ gb115)); have GE115 := am ((by rw [hg]; exact (below_size (pkB HB.out)) : w.heap.size ≤ gb115)); replace HB := am (below_step (pkB HB.out) hb); clear hb hbox hg))
 (try simp only [Act.put, List.setIfInBounds_toArray, List.set_cons_zero, List.set_cons_succ])
 go_cut [19] (fun v19 wc => ∃ (kq : Nat) (x19_1 : Bool), v19 = .bool x19_1 ∧ Aside0 (spec_EventOk.j0 kq x19_1 a0_0 a0_1 l0_2 l0_3 a0_4 a0_5 a0_6 = some r) ∧ Aside0 (kq ≤ k) ∧ Aside0 (wc.heap[gb115]? = some (.cells #[.bool a0_0, .bool a0_1, (.slice A0_2 l0_2.length c0_2), (.slice A0_3 l0_3.length c0_3), .int .i64 a0_4, .int .i64 a0_5, .int .i64 a0_6] 27 (0, 0))) ∧ Aside0 (Below w.heap.size w wc))
 case first =>
  have H := HC2.out
  clear HC2
  replace H := Option.bind_eq_some_iff.mp H
  obtain ⟨t116, A40, H⟩ := H
  replace H : (if t116 = true then (if a0_1 = true then (spec_EventOk.j0 k (decide ((l0_2.length : Int) > 0)) a0_0 a0_1 l0_2 l0_3 a0_4 a0_5 a0_6) else (spec_EventOk.j0 k false a0_0 a0_1 l0_2 l0_3 a0_4 a0_5 a0_6)) else (spec_EventOk.j0 k true a0_0 a0_1 l0_2 l0_3 a0_4 a0_5 a0_6)) = some r := H
  have A4 := am A40
  clear A40
  by_cases c5 : t116 = true
  ·subst c5
   replace H : (if a0_1 = true then (spec_EventOk.j0 k (decide ((l0_2.length : Int) > 0)) a0_0 a0_1 l0_2 l0_3 a0_4 a0_5 a0_6) else (spec_EventOk.j0 k false a0_0 a0_1 l0_2 l0_3 a0_4 a0_5 a0_6)) = some r := by rw [if_pos rfl] at H; exact H
   by_cases c6 : a0_1 = true
   ·subst c6
    replace H : (spec_EventOk.j0 k (decide ((l0_2.length : Int) > 0)) a0_0 true l0_2 l0_3 a0_4 a0_5 a0_6) = some r := by rw [if_pos rfl] at H; exact H
    have H' := am H
    clear H
    obtain ⟨hcz7_0, hcz7_1, hcz7_2, hcz7_3, hcz7_4, hcz7_5, hcz7_6, hfz7_0, hfz7_1, hfz7_2, hfz7_3, hfz7_4, hfz7_5, hfz7_6⟩ := bk7 BK115.out
    go_wp2_with (first | ((with_reducible refine gate_callee (f := 51) rfl ?_); refine goesL_ (some 8) rfl rfl Try.func51 (by kernel_rfl) rfl #[.slice A0_2 l0_2.length c0_2, .slice A0_3 l0_3.length c0_3] rfl mpx ?_; (with_reducible refine (spec_l6Waits.calls k _ _ l0_2 _ _ l0_3 true _ ?side1 ?side2 ?side3 ?side4 A4.out).mono ?_); (case side1 => exact pkC (Kd.C_below HR0_2.out HB.out)); (case side2 => exact HC0_2.out); (case side3 => exact pkC (Kd.C_below HR0_3.out HB.out)); (case side4 => exact HC0_3.out); rintro e w' ⟨rfl, ⟨nd, rfl⟩⟩; refine ⟨_, rfl, ?_⟩))
    go_meet
    case rel => exact ⟨_, (decide ((l0_2.length : Int) > 0)), rfx, H', ⟨by first | omega | exact Nat.le_refl _⟩, ⟨pkK BK115.out⟩, ⟨pkW HB.out⟩⟩
   ·replace c6 := Bool.eq_false_iff.mpr c6
    subst c6
    replace H : (spec_EventOk.j0 k false a0_0 false l0_2 l0_3 a0_4 a0_5 a0_6) = some r := by rw [if_neg (show ¬ (false = true) by decide)] at H; exact H
    have H' := am H
    clear H
    obtain ⟨hcz8_0, hcz8_1, hcz8_2, hcz8_3, hcz8_4, hcz8_5, hcz8_6, hfz8_0, hfz8_1, hfz8_2, hfz8_3, hfz8_4, hfz8_5, hfz8_6⟩ := bk7 BK115.out
    go_wp2_with (first | ((with_reducible refine gate_callee (f := 51) rfl ?_); refine goesL_ (some 8) rfl rfl Try.func51 (by kernel_rfl) rfl #[.slice A0_2 l0_2.length c0_2, .slice A0_3 l0_3.length c0_3] rfl mpx ?_; (with_reducible refine (spec_l6Waits.calls k _ _ l0_2 _ _ l0_3 true _ ?side1 ?side2 ?side3 ?side4 A4.out).mono ?_); (case side1 => exact pkC (Kd.C_below HR0_2.out HB.out)); (case side2 => exact HC0_2.out); (case side3 => exact pkC (Kd.C_below HR0_3.out HB.out)); (case side4 => exact HC0_3.out); rintro e w' ⟨rfl, ⟨nd, rfl⟩⟩; refine ⟨_, rfl, ?_⟩))
    go_meet
    case rel => exact ⟨_, (false), rfx, H', ⟨by first | omega | exact Nat.le_refl _⟩, ⟨pkK BK115.out⟩, ⟨pkW HB.out⟩⟩
  ·replace c5 := Bool.eq_false_iff.mpr c5
   subst c5
   replace H : (spec_EventOk.j0 k true a0_0 a0_1 l0_2 l0_3 a0_4 a0_5 a0_6) = some r := by rw [if_neg (show ¬ (false = true) by decide)] at H; exact H
   have H' := am H
   clear H
   obtain ⟨hcz9_0, hcz9_1, hcz9_2, hcz9_3, hcz9_4, hcz9_5, hcz9_6, hfz9_0, hfz9_1, hfz9_2, hfz9_3, hfz9_4, hfz9_5, hfz9_6⟩ := bk7 BK115.out
   go_wp2_with (first | ((with_reducible refine gate_callee (f := 51) rfl ?_); refine goesL_ (some 8) rfl rfl Try.func51 (by kernel_rfl) rfl #[.slice A0_2 l0_2.length c0_2, .slice A0_3 l0_3.length c0_3] rfl mpx ?_; (with_reducible refine (spec_l6Waits.calls k _ _ l0_2 _ _ l0_3 false _ ?side1 ?side2 ?side3 ?side4 A4.out).mono ?_); (case side1 => exact pkC (Kd.C_below HR0_2.out HB.out)); (case side2 => exact HC0_2.out); (case side3 => exact pkC (Kd.C_below HR0_3.out HB.out)); (case side4 => exact HC0_3.out); rintro e w' ⟨rfl, ⟨nd, rfl⟩⟩; refine ⟨_, rfl, ?_⟩))
   go_meet
   case rel => exact ⟨_, (true), rfx, H', ⟨by first | omega | exact Nat.le_refl _⟩, ⟨pkK BK115.out⟩, ⟨pkW HB.out⟩⟩
 case rest =>
  clear HC2
  try clear c1
  try clear p2
  try clear c5
  try clear c6
  try clear hcz7_0
  try clear hcz7_1
  try clear hcz7_2
  try clear hcz7_3
  try clear hcz7_4
  try clear hcz7_5
  try clear hcz7_6
  try clear hcz8_0
  try clear hcz8_1
  try clear hcz8_2
  try clear hcz8_3
  try clear hcz8_4
  try clear hcz8_5
  try clear hcz8_6
  try clear hcz9_0
  try clear hcz9_1
  try clear hcz9_2
  try clear hcz9_3
  try clear hcz9_4
  try clear hcz9_5
  try clear hcz9_6
  try clear hfz7_0
  try clear hfz7_1
  try clear hfz7_2
  try clear hfz7_3
  try clear hfz7_4
  try clear hfz7_5
  try clear hfz7_6
  try clear hfz8_0
  try clear hfz8_1
  try clear hfz8_2
  try clear hfz8_3
  try clear hfz8_4
  try clear hfz8_5
  try clear hfz8_6
  try clear hfz9_0
  try clear hfz9_1
  try clear hfz9_2
  try clear hfz9_3
  try clear hfz9_4
  try clear hfz9_5
  try clear hfz9_6
  obtain ⟨kq, x19_1, rfl, HA, HJ1, BK115, HB⟩ := hcut
  cases kq with
  | zero => exact absurd HA.out (by simp [spec_EventOk.j0])
  | succ kj1 =>
   have H := HA.out
   clear HA
   simp only [spec_EventOk.j0] at H
   by_cases c10 : x19_1 = true
   ·subst c10
    replace H : (some false) = some r := by rw [if_pos rfl] at H; exact H
    obtain rfl := Option.some.inj H
    go_wp2
    go_ret
    exact ⟨rfe, pkW HB.out⟩
   ·replace c10 := Bool.eq_false_iff.mpr c10
    subst c10
    replace H : ((spec_l1In.f a0_4 0 1000000000).bind fun t117 => (if t117 = true then ((spec_l1In.f a0_5 0 1000000000).bind fun t118 => (if t118 = true then ((spec_l1In.f a0_6 0 1000000000).bind fun t119 => (spec_EventOk.j1 kj1 (!t119) a0_0 a0_1 l0_2 l0_3 a0_4 a0_5 a0_6)) else (spec_EventOk.j1 kj1 true a0_0 a0_1 l0_2 l0_3 a0_4 a0_5 a0_6))) else (spec_EventOk.j1 kj1 true a0_0 a0_1 l0_2 l0_3 a0_4 a0_5 a0_6))) = some r := by rw [if_neg (show ¬ (false = true) by decide)] at H; exact H
    have HC11 := am H
    clear H
    go_upto_region 3 with (fail)
    go_cut [35] (fun v35 wc => ∃ (kq : Nat) (x35_10 : Bool), v35 = .bool x35_10 ∧ Aside0 (spec_EventOk.j1 kq x35_10 a0_0 a0_1 l0_2 l0_3 a0_4 a0_5 a0_6 = some r) ∧ Aside0 (kq ≤ kj1) ∧ Aside0 (wc.heap[gb115]? = some (.cells #[.bool a0_0, .bool a0_1, (.slice A0_2 l0_2.length c0_2), (.slice A0_3 l0_3.length c0_3), .int .i64 a0_4, .int .i64 a0_5, .int .i64 a0_6] 27 (0, 0))) ∧ Aside0 (Below w.heap.size w wc))
    case first =>
     have H := HC11.out
     clear HC11
     replace H := Option.bind_eq_some_iff.mp H
     obtain ⟨t117, A120, H⟩ := H
     replace H : (if t117 = true then ((spec_l1In.f a0_5 0 1000000000).bind fun t118 => (if t118 = true then ((spec_l1In.f a0_6 0 1000000000).bind fun t119 => (spec_EventOk.j1 kj1 (!t119) a0_0 a0_1 l0_2 l0_3 a0_4 a0_5 a0_6)) else (spec_EventOk.j1 kj1 true a0_0 a0_1 l0_2 l0_3 a0_4 a0_5 a0_6))) else (spec_EventOk.j1 kj1 true a0_0 a0_1 l0_2 l0_3 a0_4 a0_5 a0_6)) = some r := H
     have A12 := am A120
     clear A120
     by_cases c13 : t117 = true
     ·subst c13
      replace H : ((spec_l1In.f a0_5 0 1000000000).bind fun t118 => (if t118 = true then ((spec_l1In.f a0_6 0 1000000000).bind fun t119 => (spec_EventOk.j1 kj1 (!t119) a0_0 a0_1 l0_2 l0_3 a0_4 a0_5 a0_6)) else (spec_EventOk.j1 kj1 true a0_0 a0_1 l0_2 l0_3 a0_4 a0_5 a0_6))) = some r := by rw [if_pos rfl] at H; exact H
      replace H := Option.bind_eq_some_iff.mp H
      obtain ⟨t118, A140, H⟩ := H
      replace H : (if t118 = true then ((spec_l1In.f a0_6 0 1000000000).bind fun t119 => (spec_EventOk.j1 kj1 (!t119) a0_0 a0_1 l0_2 l0_3 a0_4 a0_5 a0_6)) else (spec_EventOk.j1 kj1 true a0_0 a0_1 l0_2 l0_3 a0_4 a0_5 a0_6)) = some r := H
      have A14 := am A140
      clear A140
      by_cases c15 : t118 = true
      ·subst c15
       replace H : ((spec_l1In.f a0_6 0 1000000000).bind fun t119 => (spec_EventOk.j1 kj1 (!t119) a0_0 a0_1 l0_2 l0_3 a0_4 a0_5 a0_6)) = some r := by rw [if_pos rfl] at H; exact H
       replace H := Option.bind_eq_some_iff.mp H
       obtain ⟨t119, A160, H⟩ := H
       replace H : (spec_EventOk.j1 kj1 (!t119) a0_0 a0_1 l0_2 l0_3 a0_4 a0_5 a0_6) = some r := H
       have A16 := am A160
       clear A160
       have H' := am H
       clear H
       obtain ⟨hcz17_0, hcz17_1, hcz17_2, hcz17_3, hcz17_4, hcz17_5, hcz17_6, hfz17_0, hfz17_1, hfz17_2, hfz17_3, hfz17_4, hfz17_5, hfz17_6⟩ := bk7 BK115.out
       go_wp2_with (first | ((with_reducible refine gate_callee (f := 52) rfl ?_); refine goesL_ (some 22) rfl rfl Try.func52 (by kernel_rfl) rfl #[.int .i64 a0_4, .int .i64 0, .int .i64 1000000000] rfl mpx ?_; (with_reducible refine (spec_l1In.calls a0_4 0 1000000000 true _ A12.out).mono ?_); rintro e w' ⟨rfl, ⟨nd, rfl⟩⟩; refine ⟨_, rfl, ?_⟩) | (go_at_call 52; (with_reducible refine (spec_l1In.calls a0_5 0 1000000000 true _ A14.out).mono ?_); rintro e w' ⟨rfl, ⟨nd, rfl⟩⟩) | (go_at_call 52; (with_reducible refine (spec_l1In.calls a0_6 0 1000000000 t119 _ A16.out).mono ?_); rintro e w' ⟨rfl, ⟨nd, rfl⟩⟩))
       go_meet
       case rel => exact ⟨_, (!t119), rfx, H', ⟨by have := HJ1.out; first | omega | exact Nat.le_refl _⟩, ⟨pkK BK115.out⟩, ⟨pkW HB.out⟩⟩
      ·replace c15 := Bool.eq_false_iff.mpr c15
       subst c15
       replace H : (spec_EventOk.j1 kj1 true a0_0 a0_1 l0_2 l0_3 a0_4 a0_5 a0_6) = some r := by rw [if_neg (show ¬ (false = true) by decide)] at H; exact H
       have H' := am H
       clear H
       obtain ⟨hcz18_0, hcz18_1, hcz18_2, hcz18_3, hcz18_4, hcz18_5, hcz18_6, hfz18_0, hfz18_1, hfz18_2, hfz18_3, hfz18_4, hfz18_5, hfz18_6⟩ := bk7 BK115.out
       go_wp2_with (first | ((with_reducible refine gate_callee (f := 52) rfl ?_); refine goesL_ (some 22) rfl rfl Try.func52 (by kernel_rfl) rfl #[.int .i64 a0_4, .int .i64 0, .int .i64 1000000000] rfl mpx ?_; (with_reducible refine (spec_l1In.calls a0_4 0 1000000000 true _ A12.out).mono ?_); rintro e w' ⟨rfl, ⟨nd, rfl⟩⟩; refine ⟨_, rfl, ?_⟩) | (go_at_call 52; (with_reducible refine (spec_l1In.calls a0_5 0 1000000000 false _ A14.out).mono ?_); rintro e w' ⟨rfl, ⟨nd, rfl⟩⟩))
       go_meet
       case rel => exact ⟨_, (true), rfx, H', ⟨by have := HJ1.out; first | omega | exact Nat.le_refl _⟩, ⟨pkK BK115.out⟩, ⟨pkW HB.out⟩⟩
     ·replace c13 := Bool.eq_false_iff.mpr c13
      subst c13
      replace H : (spec_EventOk.j1 kj1 true a0_0 a0_1 l0_2 l0_3 a0_4 a0_5 a0_6) = some r := by rw [if_neg (show ¬ (false = true) by decide)] at H; exact H
      have H' := am H
      clear H
      obtain ⟨hcz19_0, hcz19_1, hcz19_2, hcz19_3, hcz19_4, hcz19_5, hcz19_6, hfz19_0, hfz19_1, hfz19_2, hfz19_3, hfz19_4, hfz19_5, hfz19_6⟩ := bk7 BK115.out
      go_wp2_with (first | ((with_reducible refine gate_callee (f := 52) rfl ?_); refine goesL_ (some 22) rfl rfl Try.func52 (by kernel_rfl) rfl #[.int .i64 a0_4, .int .i64 0, .int .i64 1000000000] rfl mpx ?_; (with_reducible refine (spec_l1In.calls a0_4 0 1000000000 false _ A12.out).mono ?_); rintro e w' ⟨rfl, ⟨nd, rfl⟩⟩; refine ⟨_, rfl, ?_⟩))
      go_meet
      case rel => exact ⟨_, (true), rfx, H', ⟨by have := HJ1.out; first | omega | exact Nat.le_refl _⟩, ⟨pkK BK115.out⟩, ⟨pkW HB.out⟩⟩
    case rest =>
     clear HC11
     try clear c1
     try clear p2
     try clear c5
     try clear c6
     try clear c10
     try clear c13
     try clear c15
     try clear hcz17_0
     try clear hcz17_1
     try clear hcz17_2
     try clear hcz17_3
     try clear hcz17_4
     try clear hcz17_5
     try clear hcz17_6
     try clear hcz18_0
     try clear hcz18_1
     try clear hcz18_2
     try clear hcz18_3
     try clear hcz18_4
     try clear hcz18_5
     try clear hcz18_6
     try clear hcz19_0
     try clear hcz19_1
     try clear hcz19_2
     try clear hcz19_3
     try clear hcz19_4
     try clear hcz19_5
     try clear hcz19_6
     try clear hcz7_0
     try clear hcz7_1
     try clear hcz7_2
     try clear hcz7_3
     try clear hcz7_4
     try clear hcz7_5
     try clear hcz7_6
     try clear hcz8_0
     try clear hcz8_1
     try clear hcz8_2
     try clear hcz8_3
     try clear hcz8_4
     try clear hcz8_5
     try clear hcz8_6
     try clear hcz9_0
     try clear hcz9_1
     try clear hcz9_2
     try clear hcz9_3
     try clear hcz9_4
     try clear hcz9_5
     try clear hcz9_6
     try clear hfz17_0
     try clear hfz17_1
     try clear hfz17_2
     try clear hfz17_3
     try clear hfz17_4
     try clear hfz17_5
     try clear hfz17_6
     try clear hfz18_0
     try clear hfz18_1
     try clear hfz18_2
     try clear hfz18_3
     try clear hfz18_4
     try clear hfz18_5
     try clear hfz18_6
     try clear hfz19_0
     try clear hfz19_1
     try clear hfz19_2
     try clear hfz19_3
     try clear hfz19_4
     try clear hfz19_5
     try clear hfz19_6
     try clear hfz7_0
     try clear hfz7_1
     try clear hfz7_2
     try clear hfz7_3
     try clear hfz7_4
     try clear hfz7_5
     try clear hfz7_6
     try clear hfz8_0
     try clear hfz8_1
     try clear hfz8_2
     try clear hfz8_3
     try clear hfz8_4
     try clear hfz8_5
     try clear hfz8_6
     try clear hfz9_0
     try clear hfz9_1
     try clear hfz9_2
     try clear hfz9_3
     try clear hfz9_4
     try clear hfz9_5
     try clear hfz9_6
     try clear p2
     obtain ⟨kq, x35_10, rfl, HA, HJ10, BK115, HB⟩ := hcut
     cases kq with
     | zero => exact absurd HA.out (by simp [spec_EventOk.j1])
     | succ kj10 =>
      have H := HA.out
      clear HA
      simp only [spec_EventOk.j1] at H
      by_cases c20 : x35_10 = true
      ·subst c20
       replace H : (some false) = some r := by rw [if_pos rfl] at H; exact H
       obtain rfl := Option.some.inj H
       go_wp2
       go_ret
       exact ⟨rfe, pkW HB.out⟩
      ·replace c20 := Bool.eq_false_iff.mpr c20
       subst c20
       replace H : (if a0_0 = true then (if a0_1 = true then (some (a0_4 == (wrap64 ((wrap64 ((wrap64 (a0_5 + a0_6)) + (l0_3.length : Int))) + 1)))) else (some (a0_4 == (wrap64 ((wrap64 (a0_5 + a0_6)) + (l0_3.length : Int)))))) else (if a0_4 = 0 then (if a0_5 = 0 then (some (a0_6 == 0)) else (some false)) else (some false))) = some r := by rw [if_neg (show ¬ (false = true) by decide)] at H; exact H
       by_cases c21 : a0_0 = true
       ·subst c21
        replace H : (if a0_1 = true then (some (a0_4 == (wrap64 ((wrap64 ((wrap64 (a0_5 + a0_6)) + (l0_3.length : Int))) + 1)))) else (some (a0_4 == (wrap64 ((wrap64 (a0_5 + a0_6)) + (l0_3.length : Int)))))) = some r := by rw [if_pos rfl] at H; exact H
        by_cases c22 : a0_1 = true
        ·subst c22
         replace H : (some (a0_4 == (wrap64 ((wrap64 ((wrap64 (a0_5 + a0_6)) + (l0_3.length : Int))) + 1)))) = some r := by rw [if_pos rfl] at H; exact H
         obtain rfl := Option.some.inj H
         obtain ⟨hcz23_0, hcz23_1, hcz23_2, hcz23_3, hcz23_4, hcz23_5, hcz23_6, hfz23_0, hfz23_1, hfz23_2, hfz23_3, hfz23_4, hfz23_5, hfz23_6⟩ := bk7 BK115.out
         go_wp2
         go_ret
         exact ⟨rfe, pkW HB.out⟩
        ·replace c22 := Bool.eq_false_iff.mpr c22
         subst c22
         replace H : (some (a0_4 == (wrap64 ((wrap64 (a0_5 + a0_6)) + (l0_3.length : Int))))) = some r := by rw [if_neg (show ¬ (false = true) by decide)] at H; exact H
         obtain rfl := Option.some.inj H
         obtain ⟨hcz24_0, hcz24_1, hcz24_2, hcz24_3, hcz24_4, hcz24_5, hcz24_6, hfz24_0, hfz24_1, hfz24_2, hfz24_3, hfz24_4, hfz24_5, hfz24_6⟩ := bk7 BK115.out
         go_wp2
         go_ret
         exact ⟨rfe, pkW HB.out⟩
       ·replace c21 := Bool.eq_false_iff.mpr c21
        subst c21
        replace H : (if a0_4 = 0 then (if a0_5 = 0 then (some (a0_6 == 0)) else (some false)) else (some false)) = some r := by rw [if_neg (show ¬ (false = true) by decide)] at H; exact H
        by_cases c25 : a0_4 = 0
        ·rw [if_pos c25] at H
         have c25b0 : (a0_4 == 0) = true := beq_iff_eq.mpr c25
         have c25b1 : (a0_4 != 0) = false := bne_eq_false_iff_eq.mpr c25
         clear c25
         by_cases c26 : a0_5 = 0
         ·rw [if_pos c26] at H
          have c26b0 : (a0_5 == 0) = true := beq_iff_eq.mpr c26
          have c26b1 : (a0_5 != 0) = false := bne_eq_false_iff_eq.mpr c26
          clear c26
          obtain rfl := Option.some.inj H
          obtain ⟨hcz27_0, hcz27_1, hcz27_2, hcz27_3, hcz27_4, hcz27_5, hcz27_6, hfz27_0, hfz27_1, hfz27_2, hfz27_3, hfz27_4, hfz27_5, hfz27_6⟩ := bk7 BK115.out
          go_wp2
          go_ret
          exact ⟨rfe, pkW HB.out⟩
         ·rw [if_neg c26] at H
          have c26b0 : (a0_5 == 0) = false := beq_eq_false_iff_ne.mpr c26
          have c26b1 : (a0_5 != 0) = true := bne_iff_ne.mpr c26
          obtain rfl := Option.some.inj H
          obtain ⟨hcz28_0, hcz28_1, hcz28_2, hcz28_3, hcz28_4, hcz28_5, hcz28_6, hfz28_0, hfz28_1, hfz28_2, hfz28_3, hfz28_4, hfz28_5, hfz28_6⟩ := bk7 BK115.out
          go_wp2
          go_ret
          exact ⟨rfe, pkW HB.out⟩
        ·rw [if_neg c25] at H
         have c25b0 : (a0_4 == 0) = false := beq_eq_false_iff_ne.mpr c25
         have c25b1 : (a0_4 != 0) = true := bne_iff_ne.mpr c25
         obtain rfl := Option.some.inj H
         obtain ⟨hcz29_0, hcz29_1, hcz29_2, hcz29_3, hcz29_4, hcz29_5, hcz29_6, hfz29_0, hfz29_1, hfz29_2, hfz29_3, hfz29_4, hfz29_5, hfz29_6⟩ := bk7 BK115.out
         go_wp2
         go_ret
         exact ⟨rfe, pkW HB.out⟩
end Go.Proofs.Ytdagpmnadapbjaa.Z
