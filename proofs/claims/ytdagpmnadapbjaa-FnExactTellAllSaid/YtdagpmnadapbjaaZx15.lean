/- The Go functions spec_NotifyOk as Lean functions, each with a proof that its code comes to just these answers; conditions: those of each theorem. -/
import Derived.Test.YtdagpmnadapbjaaZx0
import Derived.Test.YtdagpmnadapbjaaZx1
import Derived.Test.YtdagpmnadapbjaaZx2
import Derived.Test.YtdagpmnadapbjaaZx3
import Derived.Test.YtdagpmnadapbjaaZx14
namespace Go.Proofs.Ytdagpmnadapbjaa.Z
open Go.RowKit Go.Proofs.YtdagpmnadapbjaaW.PrintWords Go.Proofs.YtdagpmnadapbjaaW.PrintLast Go.Proofs.YtdagpmnadapbjaaW.PrintMore
attribute [local go_sem] max2_int min2_int max_two min_two max_three min_three max_four min_four   -- for this text's walks alone
set_option linter.unusedVariables false
set_option linter.unusedSimpArgs false
mutual
def spec_NotifyOk.j0 : Nat → Bool → Bool → List Int → List (S67) → Int → Int → Int → Option (Bool)
 | 0, _, _, _, _, _, _, _ => none
 | k + 1, x25, x204000, x204001, x204002, x204003, x204004, x204005 => if x25 = true then (some false) else ((spec_l1In.f x204003 0 1000000000).bind fun t205 => (if t205 = true then ((spec_l1In.f x204004 0 1000000000).bind fun t206 => (if t206 = true then ((spec_l1In.f x204005 0 1000000000).bind fun t207 => (spec_NotifyOk.j1 k (!t207) x204000 x204001 x204002 x204003 x204004 x204005)) else (spec_NotifyOk.j1 k true x204000 x204001 x204002 x204003 x204004 x204005))) else (spec_NotifyOk.j1 k true x204000 x204001 x204002 x204003 x204004 x204005)))
def spec_NotifyOk.j1 : Nat → Bool → Bool → List Int → List (S67) → Int → Int → Int → Option (Bool)
 | 0, _, _, _, _, _, _, _ => none
 | k + 1, x41, x204000, x204001, x204002, x204003, x204004, x204005 => if x41 = true then (some false) else (if x204000 = true then (spec_NotifyOk.j2 k (wrap64 ((wrap64 (x204005 + x204004)) + 1)) x204000 x204001 x204002 x204003 x204004 x204005) else (spec_NotifyOk.j2 k (wrap64 (x204005 + x204004)) x204000 x204001 x204002 x204003 x204004 x204005))
def spec_NotifyOk.j2 : Nat → Int → Bool → List Int → List (S67) → Int → Int → Int → Option (Bool)
 | 0, _, _, _, _, _, _, _ => none
 | k + 1, x3, x204000, x204001, x204002, x204003, x204004, x204005 => spec_NotifyOk.l0 k x3 0 x204000 x204001 x204002 x204003 x204004 x204005
def spec_NotifyOk.l0 : Nat → Int → Int → Bool → List Int → List (S67) → Int → Int → Int → Option (Bool)
 | 0, _, _, _, _, _, _, _, _ => none
 | k + 1, x3, x4, x204000, x204001, x204002, x204003, x204004, x204005 => if x4 < (x204002.length : Int) then (if 0 ≤ x4 then ((spec_l2Client.f ((rd_T67 x204002 x4).f0)).bind fun t210 => (if t210 = true then ((spec_l5At.f k x204002 ((rd_T67 x204002 x4).f0)).bind fun t211 => (if t211 = x4 then ((spec_l2Has.f k x204001 ((rd_T67 x204002 x4).f0)).bind fun t212 => (spec_NotifyOk.j4 k x3 x4 t212 x204000 x204001 x204002 x204003 x204004 x204005 ((rd_T67 x204002 x4).f0) ((rd_T67 x204002 x4).f1))) else (spec_NotifyOk.j4 k x3 x4 true x204000 x204001 x204002 x204003 x204004 x204005 ((rd_T67 x204002 x4).f0) ((rd_T67 x204002 x4).f1)))) else (spec_NotifyOk.j4 k x3 x4 true x204000 x204001 x204002 x204003 x204004 x204005 ((rd_T67 x204002 x4).f0) ((rd_T67 x204002 x4).f1)))) else (none)) else (some (x3 == x204003))
def spec_NotifyOk.j4 : Nat → Int → Int → Bool → Bool → List Int → List (S67) → Int → Int → Int → Int → Bool → Option (Bool)
 | 0, _, _, _, _, _, _, _, _, _, _, _ => none
 | k + 1, x3, x4, x82, x204000, x204001, x204002, x204003, x204004, x204005, x210000, x210001 => if x82 = true then (some false) else (if x210001 = true then (spec_NotifyOk.l0 k (wrap64 (x3 + 1)) (wrap64 (x4 + 1)) x204000 x204001 x204002 x204003 x204004 x204005) else (spec_NotifyOk.l0 k x3 (wrap64 (x4 + 1)) x204000 x204001 x204002 x204003 x204004 x204005))
end
def spec_NotifyOk.f (k : Nat) (a0_0 : Bool) (l0_1 : List Int) (l0_2 : List (S67)) (a0_3 : Int) (a0_4 : Int) (a0_5 : Int) : Option (Bool) := (spec_LineOk.f k l0_1).bind fun t204 => (if t204 = true then (if (l0_2.length : Int) > 32 then (spec_NotifyOk.j0 k true a0_0 l0_1 l0_2 a0_3 a0_4 a0_5) else (if a0_0 = true then (spec_NotifyOk.j0 k (decide ((l0_1.length : Int) > 0)) a0_0 l0_1 l0_2 a0_3 a0_4 a0_5) else (spec_NotifyOk.j0 k false a0_0 l0_1 l0_2 a0_3 a0_4 a0_5))) else (spec_NotifyOk.j0 k true a0_0 l0_1 l0_2 a0_3 a0_4 a0_5))
theorem spec_NotifyOk.mono_l : ∀ k, (∀ y0 y1 y2 y3 y4 y5 y6, LeO (spec_NotifyOk.j0 k y0 y1 y2 y3 y4 y5 y6) (spec_NotifyOk.j0 (k + 1) y0 y1 y2 y3 y4 y5 y6)) ∧ (∀ y0 y1 y2 y3 y4 y5 y6, LeO (spec_NotifyOk.j1 k y0 y1 y2 y3 y4 y5 y6) (spec_NotifyOk.j1 (k + 1) y0 y1 y2 y3 y4 y5 y6)) ∧ (∀ y0 y1 y2 y3 y4 y5 y6, LeO (spec_NotifyOk.j2 k y0 y1 y2 y3 y4 y5 y6) (spec_NotifyOk.j2 (k + 1) y0 y1 y2 y3 y4 y5 y6)) ∧ (∀ y0 y1 y2 y3 y4 y5 y6 y7, LeO (spec_NotifyOk.l0 k y0 y1 y2 y3 y4 y5 y6 y7) (spec_NotifyOk.l0 (k + 1) y0 y1 y2 y3 y4 y5 y6 y7)) ∧ (∀ y0 y1 y2 y3 y4 y5 y6 y7 y8 y9 y10, LeO (spec_NotifyOk.j4 k y0 y1 y2 y3 y4 y5 y6 y7 y8 y9 y10) (spec_NotifyOk.j4 (k + 1) y0 y1 y2 y3 y4 y5 y6 y7 y8 y9 y10))
 | 0 => ⟨fun _ _ _ _ _ _ _ r h => by simp [spec_NotifyOk.j0] at h, fun _ _ _ _ _ _ _ r h => by simp [spec_NotifyOk.j1] at h, fun _ _ _ _ _ _ _ r h => by simp [spec_NotifyOk.j2] at h, fun _ _ _ _ _ _ _ _ r h => by simp [spec_NotifyOk.l0] at h, fun _ _ _ _ _ _ _ _ _ _ _ r h => by simp [spec_NotifyOk.j4] at h⟩
 | k + 1 => by
  obtain ⟨ih0, ih1, ih2, ih3, ih4⟩ := spec_NotifyOk.mono_l k
  refine ⟨?_, ?_, ?_, ?_, ?_⟩
  ·intro y0 y1 y2 y3 y4 y5 y6
   unfold spec_NotifyOk.j0
   repeat' first
   | (with_reducible exact ih0 _ _ _ _ _ _ _)
   | (with_reducible exact ih1 _ _ _ _ _ _ _)
   | (with_reducible exact ih2 _ _ _ _ _ _ _)
   | (with_reducible exact ih3 _ _ _ _ _ _ _ _)
   | (with_reducible exact ih4 _ _ _ _ _ _ _ _ _ _ _)
   | (with_reducible exact spec_LineOk.mono _ _)
   | (with_reducible exact spec_l2Has.mono _ _ _)
   | (with_reducible exact spec_l5At.mono _ _ _)
   | (with_reducible exact LeO.refl _)
   | (with_reducible exact LeO.none _)
   | (with_reducible refine LeO.ite ?_ ?_)
   | (with_reducible refine LeO.bind ?_ (fun _ => ?_))
  ·intro y0 y1 y2 y3 y4 y5 y6
   unfold spec_NotifyOk.j1
   repeat' first
   | (with_reducible exact ih0 _ _ _ _ _ _ _)
   | (with_reducible exact ih1 _ _ _ _ _ _ _)
   | (with_reducible exact ih2 _ _ _ _ _ _ _)
   | (with_reducible exact ih3 _ _ _ _ _ _ _ _)
   | (with_reducible exact ih4 _ _ _ _ _ _ _ _ _ _ _)
   | (with_reducible exact spec_LineOk.mono _ _)
   | (with_reducible exact spec_l2Has.mono _ _ _)
   | (with_reducible exact spec_l5At.mono _ _ _)
   | (with_reducible exact LeO.refl _)
   | (with_reducible exact LeO.none _)
   | (with_reducible refine LeO.ite ?_ ?_)
   | (with_reducible refine LeO.bind ?_ (fun _ => ?_))
  ·intro y0 y1 y2 y3 y4 y5 y6
   unfold spec_NotifyOk.j2
   repeat' first
   | (with_reducible exact ih0 _ _ _ _ _ _ _)
   | (with_reducible exact ih1 _ _ _ _ _ _ _)
   | (with_reducible exact ih2 _ _ _ _ _ _ _)
   | (with_reducible exact ih3 _ _ _ _ _ _ _ _)
   | (with_reducible exact ih4 _ _ _ _ _ _ _ _ _ _ _)
   | (with_reducible exact spec_LineOk.mono _ _)
   | (with_reducible exact spec_l2Has.mono _ _ _)
   | (with_reducible exact spec_l5At.mono _ _ _)
   | (with_reducible exact LeO.refl _)
   | (with_reducible exact LeO.none _)
   | (with_reducible refine LeO.ite ?_ ?_)
   | (with_reducible refine LeO.bind ?_ (fun _ => ?_))
  ·intro y0 y1 y2 y3 y4 y5 y6 y7
   unfold spec_NotifyOk.l0
   repeat' first
   | (with_reducible exact ih0 _ _ _ _ _ _ _)
   | (with_reducible exact ih1 _ _ _ _ _ _ _)
   | (with_reducible exact ih2 _ _ _ _ _ _ _)
   | (with_reducible exact ih3 _ _ _ _ _ _ _ _)
   | (with_reducible exact ih4 _ _ _ _ _ _ _ _ _ _ _)
   | (with_reducible exact spec_LineOk.mono _ _)
   | (with_reducible exact spec_l2Has.mono _ _ _)
   | (with_reducible exact spec_l5At.mono _ _ _)
   | (with_reducible exact LeO.refl _)
   | (with_reducible exact LeO.none _)
   | (with_reducible refine LeO.ite ?_ ?_)
   | (with_reducible refine LeO.bind ?_ (fun _ => ?_))
  ·intro y0 y1 y2 y3 y4 y5 y6 y7 y8 y9 y10
   unfold spec_NotifyOk.j4
   repeat' first
   | (with_reducible exact ih0 _ _ _ _ _ _ _)
   | (with_reducible exact ih1 _ _ _ _ _ _ _)
   | (with_reducible exact ih2 _ _ _ _ _ _ _)
   | (with_reducible exact ih3 _ _ _ _ _ _ _ _)
   | (with_reducible exact ih4 _ _ _ _ _ _ _ _ _ _ _)
   | (with_reducible exact spec_LineOk.mono _ _)
   | (with_reducible exact spec_l2Has.mono _ _ _)
   | (with_reducible exact spec_l5At.mono _ _ _)
   | (with_reducible exact LeO.refl _)
   | (with_reducible exact LeO.none _)
   | (with_reducible refine LeO.ite ?_ ?_)
   | (with_reducible refine LeO.bind ?_ (fun _ => ?_))
theorem spec_NotifyOk.mono : ∀ a0 a1 a2 a3 a4 a5 k, LeO (spec_NotifyOk.f k a0 a1 a2 a3 a4 a5) (spec_NotifyOk.f (k + 1) a0 a1 a2 a3 a4 a5) := by
 intro a0 a1 a2 a3 a4 a5 k
 obtain ⟨ih0, ih1, ih2, ih3, ih4⟩ := spec_NotifyOk.mono_l k
 unfold spec_NotifyOk.f
 repeat' first
   | (with_reducible exact ih0 _ _ _ _ _ _ _)
   | (with_reducible exact ih1 _ _ _ _ _ _ _)
   | (with_reducible exact ih2 _ _ _ _ _ _ _)
   | (with_reducible exact ih3 _ _ _ _ _ _ _ _)
   | (with_reducible exact ih4 _ _ _ _ _ _ _ _ _ _ _)
   | (with_reducible exact spec_LineOk.mono _ _)
   | (with_reducible exact spec_l2Has.mono _ _ _)
   | (with_reducible exact spec_l5At.mono _ _ _)
   | (with_reducible exact LeO.refl _)
   | (with_reducible exact LeO.none _)
   | (with_reducible refine LeO.ite ?_ ?_)
   | (with_reducible refine LeO.bind ?_ (fun _ => ?_))
set_option maxHeartbeats 8000000 in
set_option maxRecDepth 100000 in
theorem spec_NotifyOk.calls (k : Nat) (a0_0 : Bool) (A0_1 : Option Addr) (c0_1 : Nat) (l0_1 : List Int) (A0_2 : Option Addr) (c0_2 : Nat) (l0_2 : List (S67)) (a0_3 : Int) (a0_4 : Int) (a0_5 : Int) (r : Bool) (w : World) (hr0_1 : Kd.C (Kd.int .i64) w A0_1 l0_1.length l0_1) (hc0_1 : l0_1.length ≤ c0_1) (hr0_2 : Kd.C k67 w A0_2 l0_2.length l0_2) (hc0_2 : l0_2.length ≤ c0_2) (h : spec_NotifyOk.f k a0_0 l0_1 l0_2 a0_3 a0_4 a0_5 = some r) :
  Calls Try.prog 20 #[.agg #[.bool a0_0, .slice A0_1 l0_1.length c0_1, .slice A0_2 l0_2.length c0_2, .int .i64 a0_3, .int .i64 a0_4, .int .i64 a0_5]] w fun e w' => e = .returned (.bool r) ∧ Below w.heap.size w w' := by
 have hu38 := Try.underlying38
 have hu67 := Try.underlying67
 have HR0_1 := am hr0_1
 have HC0_1 := am hc0_1
 clear hr0_1 hc0_1
 have HR0_2 := am hr0_2
 have HC0_2 := am hc0_2
 clear hr0_2 hc0_2
 have HB := am (Below.refl w.heap.size w)
 have H : ((spec_LineOk.f k l0_1).bind fun t204 => (if t204 = true then (if (l0_2.length : Int) > 32 then (spec_NotifyOk.j0 k true a0_0 l0_1 l0_2 a0_3 a0_4 a0_5) else (if a0_0 = true then (spec_NotifyOk.j0 k (decide ((l0_1.length : Int) > 0)) a0_0 l0_1 l0_2 a0_3 a0_4 a0_5) else (spec_NotifyOk.j0 k false a0_0 l0_1 l0_2 a0_3 a0_4 a0_5))) else (spec_NotifyOk.j0 k true a0_0 l0_1 l0_2 a0_3 a0_4 a0_5))) = some r := h
 clear h
 have HC2 := am H
 clear H
 go_enter Try.func20, Try.ntmps20
 go_upto_region 1 with (first | ((with_reducible refine gate_dst (N := 1) rfl ?_); (try (refine gate_guard (by rfl) ?_; dsimp only)); refine box_event ?hg (N := 1) ?hd (cs := #[.bool a0_0, .slice A0_1 l0_1.length c0_1, .slice A0_2 l0_2.length c0_2, .int .i64 a0_3, .int .i64 a0_4, .int .i64 a0_5]) (t := 38) ?hr ?_; (case hd => rfl); (case hg => rfl); (case hr => first | (go_simp; done) | (go_simp; rfl)); intro gb203 hg w3 hbox hb; have BK203 := am (hbox); have GW203 := am ((by rw [hg]; exact (below_size (pkB HB.out)) : w.heap.size ≤ gb203)); have GE203 := am ((by rw [hg]; exact (below_size (pkB HB.out)) : w.heap.size ≤ gb203)); replace HB := am (below_step (pkB HB.out) hb); clear hb hbox hg))
 (try simp only [Act.put, List.setIfInBounds_toArray, List.set_cons_zero, List.set_cons_succ])
 go_cut [25] (fun v25 wc => ∃ (kq : Nat) (x25_1 : Bool), v25 = .bool x25_1 ∧ Aside0 (spec_NotifyOk.j0 kq x25_1 a0_0 l0_1 l0_2 a0_3 a0_4 a0_5 = some r) ∧ Aside0 (kq ≤ k) ∧ Aside0 (wc.heap[gb203]? = some (.cells #[.bool a0_0, (.slice A0_1 l0_1.length c0_1), (.slice A0_2 l0_2.length c0_2), .int .i64 a0_3, .int .i64 a0_4, .int .i64 a0_5] 38 (0, 0))) ∧ Aside0 (Below w.heap.size w wc))
 case first =>
  have H := HC2.out
  clear HC2
  replace H := Option.bind_eq_some_iff.mp H
  obtain ⟨t204, A40, H⟩ := H
  replace H : (if t204 = true then (if (l0_2.length : Int) > 32 then (spec_NotifyOk.j0 k true a0_0 l0_1 l0_2 a0_3 a0_4 a0_5) else (if a0_0 = true then (spec_NotifyOk.j0 k (decide ((l0_1.length : Int) > 0)) a0_0 l0_1 l0_2 a0_3 a0_4 a0_5) else (spec_NotifyOk.j0 k false a0_0 l0_1 l0_2 a0_3 a0_4 a0_5))) else (spec_NotifyOk.j0 k true a0_0 l0_1 l0_2 a0_3 a0_4 a0_5)) = some r := H
  have A4 := am A40
  clear A40
  by_cases c5 : t204 = true
  ·subst c5
   replace H : (if (l0_2.length : Int) > 32 then (spec_NotifyOk.j0 k true a0_0 l0_1 l0_2 a0_3 a0_4 a0_5) else (if a0_0 = true then (spec_NotifyOk.j0 k (decide ((l0_1.length : Int) > 0)) a0_0 l0_1 l0_2 a0_3 a0_4 a0_5) else (spec_NotifyOk.j0 k false a0_0 l0_1 l0_2 a0_3 a0_4 a0_5))) = some r := by rw [if_pos rfl] at H; exact H
   by_cases c6 : (l0_2.length : Int) > 32
   ·rw [if_pos c6] at H
    have c6b0 : decide (32 < (l0_2.length : Int)) = true := decide_eq_true c6
    have c6b1 : decide (32 < l0_2.length) = true := decide_eq_true (by omega)
    clear c6
    (first | rw [c6b0] | (simp only [i64_w, i32_w]; rw [c6b0]) | skip)
    have H' := am H
    clear H
    obtain ⟨hcz7_0, hcz7_1, hcz7_2, hcz7_3, hcz7_4, hcz7_5, hfz7_0, hfz7_1, hfz7_2, hfz7_3, hfz7_4, hfz7_5⟩ := bk6 BK203.out
    go_wp2_with (first | ((with_reducible refine gate_callee (f := 57) rfl ?_); refine goesL_ (some 8) rfl rfl Try.func57 (by kernel_rfl) rfl #[.slice A0_1 l0_1.length c0_1] rfl mpx ?_; (with_reducible refine (spec_LineOk.calls k _ _ l0_1 true _ ?side1 ?side2 A4.out).mono ?_); (case side1 => exact pkC (Kd.C_below HR0_1.out HB.out)); (case side2 => exact HC0_1.out); rintro e w' ⟨rfl, ⟨nd, rfl⟩⟩; refine ⟨_, rfl, ?_⟩))
    go_meet
    case rel => exact ⟨_, (true), rfx, H', ⟨by first | omega | exact Nat.le_refl _⟩, ⟨pkK BK203.out⟩, ⟨pkW HB.out⟩⟩
   ·rw [if_neg c6] at H
    have c6b0 : decide (32 < (l0_2.length : Int)) = false := decide_eq_false c6
    have c6b1 : decide (32 < l0_2.length) = false := decide_eq_false (by omega)
    clear c6
    (first | rw [c6b0] | (simp only [i64_w, i32_w]; rw [c6b0]) | skip)
    by_cases c8 : a0_0 = true
    ·subst c8
     replace H : (spec_NotifyOk.j0 k (decide ((l0_1.length : Int) > 0)) true l0_1 l0_2 a0_3 a0_4 a0_5) = some r := by rw [if_pos rfl] at H; exact H
     have H' := am H
     clear H
     obtain ⟨hcz9_0, hcz9_1, hcz9_2, hcz9_3, hcz9_4, hcz9_5, hfz9_0, hfz9_1, hfz9_2, hfz9_3, hfz9_4, hfz9_5⟩ := bk6 BK203.out
     go_wp2_with (first | ((with_reducible refine gate_callee (f := 57) rfl ?_); refine goesL_ (some 8) rfl rfl Try.func57 (by kernel_rfl) rfl #[.slice A0_1 l0_1.length c0_1] rfl mpx ?_; (with_reducible refine (spec_LineOk.calls k _ _ l0_1 true _ ?side1 ?side2 A4.out).mono ?_); (case side1 => exact pkC (Kd.C_below HR0_1.out HB.out)); (case side2 => exact HC0_1.out); rintro e w' ⟨rfl, ⟨nd, rfl⟩⟩; refine ⟨_, rfl, ?_⟩))
     go_meet
     case rel => exact ⟨_, (decide ((l0_1.length : Int) > 0)), rfx, H', ⟨by first | omega | exact Nat.le_refl _⟩, ⟨pkK BK203.out⟩, ⟨pkW HB.out⟩⟩
    ·replace c8 := Bool.eq_false_iff.mpr c8
     subst c8
     replace H : (spec_NotifyOk.j0 k false false l0_1 l0_2 a0_3 a0_4 a0_5) = some r := by rw [if_neg (show ¬ (false = true) by decide)] at H; exact H
     have H' := am H
     clear H
     obtain ⟨hcz10_0, hcz10_1, hcz10_2, hcz10_3, hcz10_4, hcz10_5, hfz10_0, hfz10_1, hfz10_2, hfz10_3, hfz10_4, hfz10_5⟩ := bk6 BK203.out
     go_wp2_with (first | ((with_reducible refine gate_callee (f := 57) rfl ?_); refine goesL_ (some 8) rfl rfl Try.func57 (by kernel_rfl) rfl #[.slice A0_1 l0_1.length c0_1] rfl mpx ?_; (with_reducible refine (spec_LineOk.calls k _ _ l0_1 true _ ?side1 ?side2 A4.out).mono ?_); (case side1 => exact pkC (Kd.C_below HR0_1.out HB.out)); (case side2 => exact HC0_1.out); rintro e w' ⟨rfl, ⟨nd, rfl⟩⟩; refine ⟨_, rfl, ?_⟩))
     go_meet
     case rel => exact ⟨_, (false), rfx, H', ⟨by first | omega | exact Nat.le_refl _⟩, ⟨pkK BK203.out⟩, ⟨pkW HB.out⟩⟩
  ·replace c5 := Bool.eq_false_iff.mpr c5
   subst c5
   replace H : (spec_NotifyOk.j0 k true a0_0 l0_1 l0_2 a0_3 a0_4 a0_5) = some r := by rw [if_neg (show ¬ (false = true) by decide)] at H; exact H
   have H' := am H
   clear H
   obtain ⟨hcz11_0, hcz11_1, hcz11_2, hcz11_3, hcz11_4, hcz11_5, hfz11_0, hfz11_1, hfz11_2, hfz11_3, hfz11_4, hfz11_5⟩ := bk6 BK203.out
   go_wp2_with (first | ((with_reducible refine gate_callee (f := 57) rfl ?_); refine goesL_ (some 8) rfl rfl Try.func57 (by kernel_rfl) rfl #[.slice A0_1 l0_1.length c0_1] rfl mpx ?_; (with_reducible refine (spec_LineOk.calls k _ _ l0_1 false _ ?side1 ?side2 A4.out).mono ?_); (case side1 => exact pkC (Kd.C_below HR0_1.out HB.out)); (case side2 => exact HC0_1.out); rintro e w' ⟨rfl, ⟨nd, rfl⟩⟩; refine ⟨_, rfl, ?_⟩))
   go_meet
   case rel => exact ⟨_, (true), rfx, H', ⟨by first | omega | exact Nat.le_refl _⟩, ⟨pkK BK203.out⟩, ⟨pkW HB.out⟩⟩
 case rest =>
  clear HC2
  try clear c2
  try clear p2
  try clear c5
  try clear c6
  try clear c6b0
  try clear c6b1
  try clear c8
  try clear hcz10_0
  try clear hcz10_1
  try clear hcz10_2
  try clear hcz10_3
  try clear hcz10_4
  try clear hcz10_5
  try clear hcz11_0
  try clear hcz11_1
  try clear hcz11_2
  try clear hcz11_3
  try clear hcz11_4
  try clear hcz11_5
  try clear hcz7_0
  try clear hcz7_1
  try clear hcz7_2
  try clear hcz7_3
  try clear hcz7_4
  try clear hcz7_5
  try clear hcz9_0
  try clear hcz9_1
  try clear hcz9_2
  try clear hcz9_3
  try clear hcz9_4
  try clear hcz9_5
  try clear hfz10_0
  try clear hfz10_1
  try clear hfz10_2
  try clear hfz10_3
  try clear hfz10_4
  try clear hfz10_5
  try clear hfz11_0
  try clear hfz11_1
  try clear hfz11_2
  try clear hfz11_3
  try clear hfz11_4
  try clear hfz11_5
  try clear hfz7_0
  try clear hfz7_1
  try clear hfz7_2
  try clear hfz7_3
  try clear hfz7_4
  try clear hfz7_5
  try clear hfz9_0
  try clear hfz9_1
  try clear hfz9_2
  try clear hfz9_3
  try clear hfz9_4
  try clear hfz9_5
  obtain ⟨kq, x25_1, rfl, HA, HJ1, BK203, HB⟩ := hcut
  cases kq with
  | zero => exact absurd HA.out (by simp [spec_NotifyOk.j0])
  | succ kj1 =>
   have H := HA.out
   clear HA
   simp only [spec_NotifyOk.j0] at H
   by_cases c12 : x25_1 = true
   ·subst c12
    replace H : (some false) = some r := by rw [if_pos rfl] at H; exact H
    obtain rfl := Option.some.inj H
    go_wp2
    go_ret
    exact ⟨rfe, pkW HB.out⟩
   ·replace c12 := Bool.eq_false_iff.mpr c12
    subst c12
    replace H : ((spec_l1In.f a0_3 0 1000000000).bind fun t205 => (if t205 = true then ((spec_l1In.f a0_4 0 1000000000).bind fun t206 => (if t206 = true then ((spec_l1In.f a0_5 0 1000000000).bind fun t207 => (spec_NotifyOk.j1 kj1 (!t207) a0_0 l0_1 l0_2 a0_3 a0_4 a0_5)) else (spec_NotifyOk.j1 kj1 true a0_0 l0_1 l0_2 a0_3 a0_4 a0_5))) else (spec_NotifyOk.j1 kj1 true a0_0 l0_1 l0_2 a0_3 a0_4 a0_5))) = some r := by rw [if_neg (show ¬ (false = true) by decide)] at H; exact H
    have HC13 := am H
    clear H
    go_upto_region 3 with (fail)
    go_cut [41] (fun v41 wc => ∃ (kq : Nat) (x41_12 : Bool), v41 = .bool x41_12 ∧ Aside0 (spec_NotifyOk.j1 kq x41_12 a0_0 l0_1 l0_2 a0_3 a0_4 a0_5 = some r) ∧ Aside0 (kq ≤ kj1) ∧ Aside0 (wc.heap[gb203]? = some (.cells #[.bool a0_0, (.slice A0_1 l0_1.length c0_1), (.slice A0_2 l0_2.length c0_2), .int .i64 a0_3, .int .i64 a0_4, .int .i64 a0_5] 38 (0, 0))) ∧ Aside0 (Below w.heap.size w wc))
    case first =>
     have H := HC13.out
     clear HC13
     replace H := Option.bind_eq_some_iff.mp H
     obtain ⟨t205, A140, H⟩ := H
     replace H : (if t205 = true then ((spec_l1In.f a0_4 0 1000000000).bind fun t206 => (if t206 = true then ((spec_l1In.f a0_5 0 1000000000).bind fun t207 => (spec_NotifyOk.j1 kj1 (!t207) a0_0 l0_1 l0_2 a0_3 a0_4 a0_5)) else (spec_NotifyOk.j1 kj1 true a0_0 l0_1 l0_2 a0_3 a0_4 a0_5))) else (spec_NotifyOk.j1 kj1 true a0_0 l0_1 l0_2 a0_3 a0_4 a0_5)) = some r := H
     have A14 := am A140
     clear A140
     by_cases c15 : t205 = true
     ·subst c15
      replace H : ((spec_l1In.f a0_4 0 1000000000).bind fun t206 => (if t206 = true then ((spec_l1In.f a0_5 0 1000000000).bind fun t207 => (spec_NotifyOk.j1 kj1 (!t207) a0_0 l0_1 l0_2 a0_3 a0_4 a0_5)) else (spec_NotifyOk.j1 kj1 true a0_0 l0_1 l0_2 a0_3 a0_4 a0_5))) = some r := by rw [if_pos rfl] at H; exact H
      replace H := Option.bind_eq_some_iff.mp H
      obtain ⟨t206, A160, H⟩ := H
      replace H : (if t206 = true then ((spec_l1In.f a0_5 0 1000000000).bind fun t207 => (spec_NotifyOk.j1 kj1 (!t207) a0_0 l0_1 l0_2 a0_3 a0_4 a0_5)) else (spec_NotifyOk.j1 kj1 true a0_0 l0_1 l0_2 a0_3 a0_4 a0_5)) = some r := H
      have A16 := am A160
      clear A160
      by_cases c17 : t206 = true
      ·subst c17
       replace H : ((spec_l1In.f a0_5 0 1000000000).bind fun t207 => (spec_NotifyOk.j1 kj1 (!t207) a0_0 l0_1 l0_2 a0_3 a0_4 a0_5)) = some r := by rw [if_pos rfl] at H; exact H
       replace H := Option.bind_eq_some_iff.mp H
       obtain ⟨t207, A180, H⟩ := H
       replace H : (spec_NotifyOk.j1 kj1 (!t207) a0_0 l0_1 l0_2 a0_3 a0_4 a0_5) = some r := H
       have A18 := am A180
       clear A180
       have H' := am H
       clear H
       obtain ⟨hcz19_0, hcz19_1, hcz19_2, hcz19_3, hcz19_4, hcz19_5, hfz19_0, hfz19_1, hfz19_2, hfz19_3, hfz19_4, hfz19_5⟩ := bk6 BK203.out
       go_wp2_with (first | ((with_reducible refine gate_callee (f := 52) rfl ?_); refine goesL_ (some 28) rfl rfl Try.func52 (by kernel_rfl) rfl #[.int .i64 a0_3, .int .i64 0, .int .i64 1000000000] rfl mpx ?_; (with_reducible refine (spec_l1In.calls a0_3 0 1000000000 true _ A14.out).mono ?_); rintro e w' ⟨rfl, ⟨nd, rfl⟩⟩; refine ⟨_, rfl, ?_⟩) | (go_at_call 52; (with_reducible refine (spec_l1In.calls a0_4 0 1000000000 true _ A16.out).mono ?_); rintro e w' ⟨rfl, ⟨nd, rfl⟩⟩) | (go_at_call 52; (with_reducible refine (spec_l1In.calls a0_5 0 1000000000 t207 _ A18.out).mono ?_); rintro e w' ⟨rfl, ⟨nd, rfl⟩⟩))
       go_meet
       case rel => exact ⟨_, (!t207), rfx, H', ⟨by have := HJ1.out; first | omega | exact Nat.le_refl _⟩, ⟨pkK BK203.out⟩, ⟨pkW HB.out⟩⟩
      ·replace c17 := Bool.eq_false_iff.mpr c17
       subst c17
       replace H : (spec_NotifyOk.j1 kj1 true a0_0 l0_1 l0_2 a0_3 a0_4 a0_5) = some r := by rw [if_neg (show ¬ (false = true) by decide)] at H; exact H
       have H' := am H
       clear H
       obtain ⟨hcz20_0, hcz20_1, hcz20_2, hcz20_3, hcz20_4, hcz20_5, hfz20_0, hfz20_1, hfz20_2, hfz20_3, hfz20_4, hfz20_5⟩ := bk6 BK203.out
       go_wp2_with (first | ((with_reducible refine gate_callee (f := 52) rfl ?_); refine goesL_ (some 28) rfl rfl Try.func52 (by kernel_rfl) rfl #[.int .i64 a0_3, .int .i64 0, .int .i64 1000000000] rfl mpx ?_; (with_reducible refine (spec_l1In.calls a0_3 0 1000000000 true _ A14.out).mono ?_); rintro e w' ⟨rfl, ⟨nd, rfl⟩⟩; refine ⟨_, rfl, ?_⟩) | (go_at_call 52; (with_reducible refine (spec_l1In.calls a0_4 0 1000000000 false _ A16.out).mono ?_); rintro e w' ⟨rfl, ⟨nd, rfl⟩⟩))
       go_meet
       case rel => exact ⟨_, (true), rfx, H', ⟨by have := HJ1.out; first | omega | exact Nat.le_refl _⟩, ⟨pkK BK203.out⟩, ⟨pkW HB.out⟩⟩
     ·replace c15 := Bool.eq_false_iff.mpr c15
      subst c15
      replace H : (spec_NotifyOk.j1 kj1 true a0_0 l0_1 l0_2 a0_3 a0_4 a0_5) = some r := by rw [if_neg (show ¬ (false = true) by decide)] at H; exact H
      have H' := am H
      clear H
      obtain ⟨hcz21_0, hcz21_1, hcz21_2, hcz21_3, hcz21_4, hcz21_5, hfz21_0, hfz21_1, hfz21_2, hfz21_3, hfz21_4, hfz21_5⟩ := bk6 BK203.out
      go_wp2_with (first | ((with_reducible refine gate_callee (f := 52) rfl ?_); refine goesL_ (some 28) rfl rfl Try.func52 (by kernel_rfl) rfl #[.int .i64 a0_3, .int .i64 0, .int .i64 1000000000] rfl mpx ?_; (with_reducible refine (spec_l1In.calls a0_3 0 1000000000 false _ A14.out).mono ?_); rintro e w' ⟨rfl, ⟨nd, rfl⟩⟩; refine ⟨_, rfl, ?_⟩))
      go_meet
      case rel => exact ⟨_, (true), rfx, H', ⟨by have := HJ1.out; first | omega | exact Nat.le_refl _⟩, ⟨pkK BK203.out⟩, ⟨pkW HB.out⟩⟩
    case rest =>
     clear HC13
     try clear c1
     try clear c2
     try clear p2
     try clear c5
     try clear c6
     try clear c6b0
     try clear c6b1
     try clear c8
     try clear c12
     try clear c15
     try clear c17
     try clear c20
     try clear hcz10_0
     try clear hcz10_1
     try clear hcz10_2
     try clear hcz10_3
     try clear hcz10_4
     try clear hcz10_5
     try clear hcz11_0
     try clear hcz11_1
     try clear hcz11_2
     try clear hcz11_3
     try clear hcz11_4
     try clear hcz11_5
     try clear hcz19_0
     try clear hcz19_1
     try clear hcz19_2
     try clear hcz19_3
     try clear hcz19_4
     try clear hcz19_5
     try clear hcz20_0
     try clear hcz20_1
     try clear hcz20_2
     try clear hcz20_3
     try clear hcz20_4
     try clear hcz20_5
     try clear hcz21_0
     try clear hcz21_1
     try clear hcz21_2
     try clear hcz21_3
     try clear hcz21_4
     try clear hcz21_5
     try clear hcz7_0
     try clear hcz7_1
     try clear hcz7_2
     try clear hcz7_3
     try clear hcz7_4
     try clear hcz7_5
     try clear hcz9_0
     try clear hcz9_1
     try clear hcz9_2
     try clear hcz9_3
     try clear hcz9_4
     try clear hcz9_5
     try clear hfz10_0
     try clear hfz10_1
     try clear hfz10_2
     try clear hfz10_3
     try clear hfz10_4
     try clear hfz10_5
     try clear hfz11_0
     try clear hfz11_1
     try clear hfz11_2
     try clear hfz11_3
     try clear hfz11_4
     try clear hfz11_5
     try clear hfz19_0
     try clear hfz19_1
     try clear hfz19_2
     try clear hfz19_3
     try clear hfz19_4
     try clear hfz19_5
     try clear hfz20_0
     try clear hfz20_1
     try clear hfz20_2
     try clear hfz20_3
     try clear hfz20_4
     try clear hfz20_5
     try clear hfz21_0
     try clear hfz21_1
     try clear hfz21_2
     try clear hfz21_3
     try clear hfz21_4
     try clear hfz21_5
     try clear hfz7_0
     try clear hfz7_1
     try clear hfz7_2
     try clear hfz7_3
     try clear hfz7_4
     try clear hfz7_5
     try clear hfz9_0
     try clear hfz9_1
     try clear hfz9_2
     try clear hfz9_3
     try clear hfz9_4
     try clear hfz9_5
     try clear p2
     obtain ⟨kq, x41_12, rfl, HA, HJ12, BK203, HB⟩ := hcut
     cases kq with
     | zero => exact absurd HA.out (by simp [spec_NotifyOk.j1])
     | succ kj12 =>
      have H := HA.out
      clear HA
      simp only [spec_NotifyOk.j1] at H
      by_cases c22 : x41_12 = true
      ·subst c22
       replace H : (some false) = some r := by rw [if_pos rfl] at H; exact H
       obtain rfl := Option.some.inj H
       go_wp2
       go_ret
       exact ⟨rfe, pkW HB.out⟩
      ·replace c22 := Bool.eq_false_iff.mpr c22
       subst c22
       replace H : (if a0_0 = true then (spec_NotifyOk.j2 kj12 (wrap64 ((wrap64 (a0_5 + a0_4)) + 1)) a0_0 l0_1 l0_2 a0_3 a0_4 a0_5) else (spec_NotifyOk.j2 kj12 (wrap64 (a0_5 + a0_4)) a0_0 l0_1 l0_2 a0_3 a0_4 a0_5)) = some r := by rw [if_neg (show ¬ (false = true) by decide)] at H; exact H
       have HC23 := am H
       clear H
       obtain ⟨hcz24_0, hcz24_1, hcz24_2, hcz24_3, hcz24_4, hcz24_5, hfz24_0, hfz24_1, hfz24_2, hfz24_3, hfz24_4, hfz24_5⟩ := bk6 BK203.out
       go_upto_if 48 with (fail)
       go_cut [3] (fun v3 wc => ∃ (kq : Nat) (x3_22 : Int), v3 = .int .i64 x3_22 ∧ Aside0 (spec_NotifyOk.j2 kq x3_22 a0_0 l0_1 l0_2 a0_3 a0_4 a0_5 = some r) ∧ Aside0 (kq ≤ kj12) ∧ Aside0 (wc.heap[gb203]? = some (.cells #[.bool a0_0, (.slice A0_1 l0_1.length c0_1), (.slice A0_2 l0_2.length c0_2), .int .i64 a0_3, .int .i64 a0_4, .int .i64 a0_5] 38 (0, 0))) ∧ Aside0 (Below w.heap.size w wc))
       case first =>
        have H := HC23.out
        clear HC23
        by_cases c25 : a0_0 = true
        ·subst c25
         replace H : (spec_NotifyOk.j2 kj12 (wrap64 ((wrap64 (a0_5 + a0_4)) + 1)) true l0_1 l0_2 a0_3 a0_4 a0_5) = some r := by rw [if_pos rfl] at H; exact H
         have H' := am H
         clear H
         go_wp2
         go_meet
         case rel => exact ⟨_, (wrap64 ((wrap64 (a0_5 + a0_4)) + 1)), rfx, H', ⟨by have := HJ1.out; have := HJ12.out; first | omega | exact Nat.le_refl _⟩, ⟨pkK BK203.out⟩, ⟨pkW HB.out⟩⟩
        ·replace c25 := Bool.eq_false_iff.mpr c25
         subst c25
         replace H : (spec_NotifyOk.j2 kj12 (wrap64 (a0_5 + a0_4)) false l0_1 l0_2 a0_3 a0_4 a0_5) = some r := by rw [if_neg (show ¬ (false = true) by decide)] at H; exact H
         have H' := am H
         clear H
         go_wp2
         go_meet
         case rel => exact ⟨_, (wrap64 (a0_5 + a0_4)), rfx, H', ⟨by have := HJ1.out; have := HJ12.out; first | omega | exact Nat.le_refl _⟩, ⟨pkK BK203.out⟩, ⟨pkW HB.out⟩⟩
       case rest =>
        clear HC23
        try clear c1
        try clear c2
        try clear p2
        try clear c5
        try clear c6
        try clear c6b0
        try clear c6b1
        try clear p6
        try clear c8
        try clear c12
        try clear c15
        try clear c17
        try clear c20
        try clear c22
        try clear c25
        try clear hcz10_0
        try clear hcz10_1
        try clear hcz10_2
        try clear hcz10_3
        try clear hcz10_4
        try clear hcz10_5
        try clear hcz11_0
        try clear hcz11_1
        try clear hcz11_2
        try clear hcz11_3
        try clear hcz11_4
        try clear hcz11_5
        try clear hcz19_0
        try clear hcz19_1
        try clear hcz19_2
        try clear hcz19_3
        try clear hcz19_4
        try clear hcz19_5
        try clear hcz20_0
        try clear hcz20_1
        try clear hcz20_2
        try clear hcz20_3
        try clear hcz20_4
        try clear hcz20_5
        try clear hcz21_0
        try clear hcz21_1
        try clear hcz21_2
        try clear hcz21_3
        try clear hcz21_4
        try clear hcz21_5
        try clear hcz24_0
        try clear hcz24_1
        try clear hcz24_2
        try clear hcz24_3
        try clear hcz24_4
        try clear hcz24_5
        try clear hcz7_0
        try clear hcz7_1
        try clear hcz7_2
        try clear hcz7_3
        try clear hcz7_4
        try clear hcz7_5
        try clear hcz9_0
        try clear hcz9_1
        try clear hcz9_2
        try clear hcz9_3
        try clear hcz9_4
        try clear hcz9_5
        try clear hfz10_0
        try clear hfz10_1
        try clear hfz10_2
        try clear hfz10_3
        try clear hfz10_4
        try clear hfz10_5
        try clear hfz11_0
        try clear hfz11_1
        try clear hfz11_2
        try clear hfz11_3
        try clear hfz11_4
        try clear hfz11_5
        try clear hfz19_0
        try clear hfz19_1
        try clear hfz19_2
        try clear hfz19_3
        try clear hfz19_4
        try clear hfz19_5
        try clear hfz20_0
        try clear hfz20_1
        try clear hfz20_2
        try clear hfz20_3
        try clear hfz20_4
        try clear hfz20_5
        try clear hfz21_0
        try clear hfz21_1
        try clear hfz21_2
        try clear hfz21_3
        try clear hfz21_4
        try clear hfz21_5
        try clear hfz24_0
        try clear hfz24_1
        try clear hfz24_2
        try clear hfz24_3
        try clear hfz24_4
        try clear hfz24_5
        try clear hfz7_0
        try clear hfz7_1
        try clear hfz7_2
        try clear hfz7_3
        try clear hfz7_4
        try clear hfz7_5
        try clear hfz9_0
        try clear hfz9_1
        try clear hfz9_2
        try clear hfz9_3
        try clear hfz9_4
        try clear hfz9_5
        try clear p2
        obtain ⟨kq, x3_22, rfl, HA, HJ22, BK203, HB⟩ := hcut
        cases kq with
        | zero => exact absurd HA.out (by simp [spec_NotifyOk.j2])
        | succ kj22 =>
         have H := HA.out
         clear HA
         simp only [spec_NotifyOk.j2] at H
         have H' := am H
         clear H
         go_wp2
         go_loopg [3, 4] kj22 (fun kq v3 v4 w' => ∃ (x3_4 : Int) (x4_4 : Int), v3 = .int .i64 x3_4 ∧ v4 = .int .i64 x4_4 ∧ Aside0 (spec_NotifyOk.l0 kq x3_4 x4_4 a0_0 l0_1 l0_2 a0_3 a0_4 a0_5 = some r) ∧ Aside0 (kq ≤ kj22) ∧ Aside0 (w'.heap[gb203]? = some (.cells #[.bool a0_0, (.slice A0_1 l0_1.length c0_1), (.slice A0_2 l0_2.length c0_2), .int .i64 a0_3, .int .i64 a0_4, .int .i64 a0_5] 38 (0, 0))) ∧ Aside0 (Below w.heap.size w w'))
         case atStart => exact ⟨(x3_22), (0), rfx, rfx, H', ⟨Nat.le_refl _⟩, ⟨pkK BK203.out⟩, ⟨pkW HB.out⟩⟩
         case round =>
          clear H'
          try clear c1
          try clear c2
          try clear p2
          try clear c5
          try clear c6
          try clear c6b0
          try clear c6b1
          try clear p6
          try clear c8
          try clear c12
          try clear c15
          try clear c17
          try clear c20
          try clear c22
          try clear c25
          try clear hcz10_0
          try clear hcz10_1
          try clear hcz10_2
          try clear hcz10_3
          try clear hcz10_4
          try clear hcz10_5
          try clear hcz11_0
          try clear hcz11_1
          try clear hcz11_2
          try clear hcz11_3
          try clear hcz11_4
          try clear hcz11_5
          try clear hcz19_0
          try clear hcz19_1
          try clear hcz19_2
          try clear hcz19_3
          try clear hcz19_4
          try clear hcz19_5
          try clear hcz20_0
          try clear hcz20_1
          try clear hcz20_2
          try clear hcz20_3
          try clear hcz20_4
          try clear hcz20_5
          try clear hcz21_0
          try clear hcz21_1
          try clear hcz21_2
          try clear hcz21_3
          try clear hcz21_4
          try clear hcz21_5
          try clear hcz24_0
          try clear hcz24_1
          try clear hcz24_2
          try clear hcz24_3
          try clear hcz24_4
          try clear hcz24_5
          try clear hcz7_0
          try clear hcz7_1
          try clear hcz7_2
          try clear hcz7_3
          try clear hcz7_4
          try clear hcz7_5
          try clear hcz9_0
          try clear hcz9_1
          try clear hcz9_2
          try clear hcz9_3
          try clear hcz9_4
          try clear hcz9_5
          try clear hfz10_0
          try clear hfz10_1
          try clear hfz10_2
          try clear hfz10_3
          try clear hfz10_4
          try clear hfz10_5
          try clear hfz11_0
          try clear hfz11_1
          try clear hfz11_2
          try clear hfz11_3
          try clear hfz11_4
          try clear hfz11_5
          try clear hfz19_0
          try clear hfz19_1
          try clear hfz19_2
          try clear hfz19_3
          try clear hfz19_4
          try clear hfz19_5
          try clear hfz20_0
          try clear hfz20_1
          try clear hfz20_2
          try clear hfz20_3
          try clear hfz20_4
          try clear hfz20_5
          try clear hfz21_0
          try clear hfz21_1
          try clear hfz21_2
          try clear hfz21_3
          try clear hfz21_4
          try clear hfz21_5
          try clear hfz24_0
          try clear hfz24_1
          try clear hfz24_2
          try clear hfz24_3
          try clear hfz24_4
          try clear hfz24_5
          try clear hfz7_0
          try clear hfz7_1
          try clear hfz7_2
          try clear hfz7_3
          try clear hfz7_4
          try clear hfz7_5
          try clear hfz9_0
          try clear hfz9_1
          try clear hfz9_2
          try clear hfz9_3
          try clear hfz9_4
          try clear hfz9_5
          try clear p2
          try clear p6
          obtain ⟨x3_4, x4_4, rfl, rfl, HA, HK4, BK203, HB⟩ := hrel
          cases gk with
          | zero => exact absurd HA.out (by simp [spec_NotifyOk.l0])
          | succ k4 =>
           have H := HA.out
           clear HA
           simp only [spec_NotifyOk.l0] at H
           by_cases c26 : x4_4 < (l0_2.length : Int)
           ·rw [if_pos c26] at H
            have c26b0 : decide (x4_4 < (l0_2.length : Int)) = true := decide_eq_true c26
            clear c26
            by_cases c27 : 0 ≤ x4_4
            ·rw [if_pos c27] at H
             have c27b0 : decide (0 ≤ x4_4) = true := decide_eq_true c27
             clear c27
             have HC28 := am H
             clear H
             obtain ⟨hcz29_0, hcz29_1, hcz29_2, hcz29_3, hcz29_4, hcz29_5, hfz29_0, hfz29_1, hfz29_2, hfz29_3, hfz29_4, hfz29_5⟩ := bk6 BK203.out
             have p208 : 0 ≤ (x4_4 : Int) := ofd
             have q208 : x4_4 < (l0_2.length : Int) := ofd
             obtain ⟨ad208, e208, hx208_0, hx208_1⟩ := at_T67 HR0_2.out x4_4 p208 q208
             cases e208
             replace hx208_0 := (HB.out.cell (World.block_lt_of_cell? w _ hx208_0)).trans hx208_0
             replace hx208_1 := (HB.out.cell (World.block_lt_of_cell? w _ hx208_1)).trans hx208_1
             replace p208 := eq_true p208
             replace q208 := eq_true q208
             go_upto_region 12 with (first | ((with_reducible refine gate_dst (N := 5) rfl ?_); (try (refine gate_guard (by rfl) ?_; dsimp only)); refine box_event ?hg (N := 5) ?hd (cs := #[.int .i64 0, .bool false]) (t := 67) ?hr ?_; (case hd => rfl); (case hg => rfl); (case hr => first | (go_simp; done) | (go_simp; rfl)); intro gb209 hg w30 hbox hb; have BK209 := am (hbox); have GW209 := am ((by rw [hg]; exact (below_size (pkW HB.out)) : w.heap.size ≤ gb209)); have GE209 := am ((by rw [hg]; exact (below_size (pkW HB.out)) : w.heap.size ≤ gb209)); replace HB := am (below_step (pkW HB.out) hb); have NB203_209 := am ((by rw [hg]; exact Nat.ne_of_lt (blk_lt (g := gb203) (o := .cells #[.bool a0_0, .slice A0_1 l0_1.length c0_1, .slice (some ad208) l0_2.length c0_2, .int .i64 a0_3, .int .i64 a0_4, .int .i64 a0_5] 38 (0, 0)) (pkK BK203.out)) : gb203 ≠ gb209)); have NB209_203 := am ((by rw [hg]; exact Nat.ne_of_gt (blk_lt (g := gb203) (o := .cells #[.bool a0_0, .slice A0_1 l0_1.length c0_1, .slice (some ad208) l0_2.length c0_2, .int .i64 a0_3, .int .i64 a0_4, .int .i64 a0_5] 38 (0, 0)) (pkK BK203.out)) : gb209 ≠ gb203)); replace BK203 := am (blk_below (pkK BK203.out) hb); clear hb hbox hg; have hnb31 := NB209_203.out; have hnc31 := NB203_209.out; obtain ⟨hcz32_0, hcz32_1, hfz32_0, hfz32_1⟩ := bk2 BK209.out))
             (try simp only [Act.put, List.setIfInBounds_toArray, List.set_cons_zero, List.set_cons_succ])
             go_cut [82] (fun v82 wc => ∃ (kq : Nat) (x82_27 : Bool), v82 = .bool x82_27 ∧ Aside0 (spec_NotifyOk.j4 kq x3_4 x4_4 x82_27 a0_0 l0_1 l0_2 a0_3 a0_4 a0_5 ((rd_T67 l0_2 x4_4).f0) ((rd_T67 l0_2 x4_4).f1) = some r) ∧ Aside0 (kq ≤ k4) ∧ Aside0 (wc.heap[gb203]? = some (.cells #[.bool a0_0, (.slice A0_1 l0_1.length c0_1), (.slice (some ad208) l0_2.length c0_2), .int .i64 a0_3, .int .i64 a0_4, .int .i64 a0_5] 38 (0, 0))) ∧ Aside0 (wc.heap[gb209]? = some (.cells #[.int .i64 ((rd_T67 l0_2 x4_4).f0), .bool ((rd_T67 l0_2 x4_4).f1)] 67 (0, 0))) ∧ Aside0 (Below w.heap.size w wc))
             case first =>
              have H := HC28.out
              clear HC28
              replace H := Option.bind_eq_some_iff.mp H
              obtain ⟨t210, A330, H⟩ := H
              replace H : (if t210 = true then ((spec_l5At.f k4 l0_2 ((rd_T67 l0_2 x4_4).f0)).bind fun t211 => (if t211 = x4_4 then ((spec_l2Has.f k4 l0_1 ((rd_T67 l0_2 x4_4).f0)).bind fun t212 => (spec_NotifyOk.j4 k4 x3_4 x4_4 t212 a0_0 l0_1 l0_2 a0_3 a0_4 a0_5 ((rd_T67 l0_2 x4_4).f0) ((rd_T67 l0_2 x4_4).f1))) else (spec_NotifyOk.j4 k4 x3_4 x4_4 true a0_0 l0_1 l0_2 a0_3 a0_4 a0_5 ((rd_T67 l0_2 x4_4).f0) ((rd_T67 l0_2 x4_4).f1)))) else (spec_NotifyOk.j4 k4 x3_4 x4_4 true a0_0 l0_1 l0_2 a0_3 a0_4 a0_5 ((rd_T67 l0_2 x4_4).f0) ((rd_T67 l0_2 x4_4).f1))) = some r := H
              have A33 := am A330
              clear A330
              by_cases c34 : t210 = true
              ·subst c34
               replace H : ((spec_l5At.f k4 l0_2 ((rd_T67 l0_2 x4_4).f0)).bind fun t211 => (if t211 = x4_4 then ((spec_l2Has.f k4 l0_1 ((rd_T67 l0_2 x4_4).f0)).bind fun t212 => (spec_NotifyOk.j4 k4 x3_4 x4_4 t212 a0_0 l0_1 l0_2 a0_3 a0_4 a0_5 ((rd_T67 l0_2 x4_4).f0) ((rd_T67 l0_2 x4_4).f1))) else (spec_NotifyOk.j4 k4 x3_4 x4_4 true a0_0 l0_1 l0_2 a0_3 a0_4 a0_5 ((rd_T67 l0_2 x4_4).f0) ((rd_T67 l0_2 x4_4).f1)))) = some r := by rw [if_pos rfl] at H; exact H
               replace H := Option.bind_eq_some_iff.mp H
               obtain ⟨t211, A350, H⟩ := H
               replace H : (if t211 = x4_4 then ((spec_l2Has.f k4 l0_1 ((rd_T67 l0_2 x4_4).f0)).bind fun t212 => (spec_NotifyOk.j4 k4 x3_4 x4_4 t212 a0_0 l0_1 l0_2 a0_3 a0_4 a0_5 ((rd_T67 l0_2 x4_4).f0) ((rd_T67 l0_2 x4_4).f1))) else (spec_NotifyOk.j4 k4 x3_4 x4_4 true a0_0 l0_1 l0_2 a0_3 a0_4 a0_5 ((rd_T67 l0_2 x4_4).f0) ((rd_T67 l0_2 x4_4).f1))) = some r := H
               have A35 := am A350
               clear A350
               by_cases c36 : t211 = x4_4
               ·rw [if_pos c36] at H
                have c36b0 : (t211 == x4_4) = true := beq_iff_eq.mpr c36
                have c36b1 : (t211 != x4_4) = false := bne_eq_false_iff_eq.mpr c36
                clear c36
                (first | rw [c36b0] | (simp only [i64_w, i32_w]; rw [c36b0]) | skip)
                replace H := Option.bind_eq_some_iff.mp H
                obtain ⟨t212, A370, H⟩ := H
                replace H : (spec_NotifyOk.j4 k4 x3_4 x4_4 t212 a0_0 l0_1 l0_2 a0_3 a0_4 a0_5 ((rd_T67 l0_2 x4_4).f0) ((rd_T67 l0_2 x4_4).f1)) = some r := H
                have A37 := am A370
                clear A370
                have H' := am H
                clear H
                have hnb38 := NB209_203.out
                have hnc38 := NB203_209.out
                obtain ⟨hcz39_0, hcz39_1, hfz39_0, hfz39_1⟩ := bk2 BK209.out
                go_wp2_with (first | ((with_reducible refine gate_callee (f := 58) rfl ?_); refine goesL_ (some 65) rfl rfl Try.func58 (by kernel_rfl) rfl #[.int .i64 ((rd_T67 l0_2 x4_4).f0)] rfl mpx ?_; (with_reducible refine (spec_l2Client.calls ((rd_T67 l0_2 x4_4).f0) true _ A33.out).mono ?_); rintro e w' ⟨rfl, ⟨nd, rfl⟩⟩; refine ⟨_, rfl, ?_⟩; obtain ⟨hcz40_0, hcz40_1, hcz40_2, hcz40_3, hcz40_4, hcz40_5, hfz40_0, hfz40_1, hfz40_2, hfz40_3, hfz40_4, hfz40_5⟩ := bk6 BK203.out) | (go_at_call 59; (with_reducible refine (spec_l5At.calls k4 _ _ l0_2 ((rd_T67 l0_2 x4_4).f0) t211 _ ?side1 ?side2 A35.out).mono ?_); (case side1 => exact Kd.C_below HR0_2.out (pkW HB.out)); (case side2 => exact HC0_2.out); rintro e w' ⟨rfl, ⟨nd, rfl⟩⟩) | (go_at_call 60; (with_reducible refine (spec_l2Has.calls k4 _ _ l0_1 ((rd_T67 l0_2 x4_4).f0) t212 _ ?side1 ?side2 A37.out).mono ?_); (case side1 => exact Kd.C_below HR0_1.out (pkW HB.out)); (case side2 => exact HC0_1.out); rintro e w' ⟨rfl, ⟨nd, rfl⟩⟩))
                go_meet
                case rel => exact ⟨_, (t212), rfx, H', ⟨by have := HJ1.out; have := HJ12.out; have := HJ22.out; have := HK4.out; first | omega | exact Nat.le_refl _⟩, ⟨by (with_reducible repeat (first | refine blk_drewN ?_ _ | refine blk_drew ?_ | refine blk_alloc ?_ _)); refine blk_far ?_ NB203_209.out _; (with_reducible repeat (first | refine blk_drewN ?_ _ | refine blk_drew ?_ | refine blk_alloc ?_ _)); refine blk_far ?_ NB203_209.out _; exact pkK BK203.out⟩, ⟨by (with_reducible repeat (first | refine blk_drewN ?_ _ | refine blk_drew ?_ | refine blk_alloc ?_ _)); refine blk_put (cs := #[.int .i64 ((rd_T67 l0_2 x4_4).f0), .bool false]) ?_ 1 _ rfl; (with_reducible repeat (first | refine blk_drewN ?_ _ | refine blk_drew ?_ | refine blk_alloc ?_ _)); refine blk_put (cs := #[.int .i64 0, .bool false]) ?_ 0 _ rfl; exact pkK BK209.out⟩, ⟨pkW HB.out⟩⟩
               ·rw [if_neg c36] at H
                have c36b0 : (t211 == x4_4) = false := beq_eq_false_iff_ne.mpr c36
                have c36b1 : (t211 != x4_4) = true := bne_iff_ne.mpr c36
                (first | rw [c36b0] | (simp only [i64_w, i32_w]; rw [c36b0]) | skip)
                have H' := am H
                clear H
                have hnb41 := NB209_203.out
                have hnc41 := NB203_209.out
                obtain ⟨hcz42_0, hcz42_1, hfz42_0, hfz42_1⟩ := bk2 BK209.out
                go_wp2_with (first | ((with_reducible refine gate_callee (f := 58) rfl ?_); refine goesL_ (some 65) rfl rfl Try.func58 (by kernel_rfl) rfl #[.int .i64 ((rd_T67 l0_2 x4_4).f0)] rfl mpx ?_; (with_reducible refine (spec_l2Client.calls ((rd_T67 l0_2 x4_4).f0) true _ A33.out).mono ?_); rintro e w' ⟨rfl, ⟨nd, rfl⟩⟩; refine ⟨_, rfl, ?_⟩; obtain ⟨hcz43_0, hcz43_1, hcz43_2, hcz43_3, hcz43_4, hcz43_5, hfz43_0, hfz43_1, hfz43_2, hfz43_3, hfz43_4, hfz43_5⟩ := bk6 BK203.out) | (go_at_call 59; (with_reducible refine (spec_l5At.calls k4 _ _ l0_2 ((rd_T67 l0_2 x4_4).f0) t211 _ ?side1 ?side2 A35.out).mono ?_); (case side1 => exact Kd.C_below HR0_2.out (pkW HB.out)); (case side2 => exact HC0_2.out); rintro e w' ⟨rfl, ⟨nd, rfl⟩⟩))
                go_meet
                case rel => exact ⟨_, (true), rfx, H', ⟨by have := HJ1.out; have := HJ12.out; have := HJ22.out; have := HK4.out; first | omega | exact Nat.le_refl _⟩, ⟨by (with_reducible repeat (first | refine blk_drewN ?_ _ | refine blk_drew ?_ | refine blk_alloc ?_ _)); refine blk_far ?_ NB203_209.out _; (with_reducible repeat (first | refine blk_drewN ?_ _ | refine blk_drew ?_ | refine blk_alloc ?_ _)); refine blk_far ?_ NB203_209.out _; exact pkK BK203.out⟩, ⟨by (with_reducible repeat (first | refine blk_drewN ?_ _ | refine blk_drew ?_ | refine blk_alloc ?_ _)); refine blk_put (cs := #[.int .i64 ((rd_T67 l0_2 x4_4).f0), .bool false]) ?_ 1 _ rfl; (with_reducible repeat (first | refine blk_drewN ?_ _ | refine blk_drew ?_ | refine blk_alloc ?_ _)); refine blk_put (cs := #[.int .i64 0, .bool false]) ?_ 0 _ rfl; exact pkK BK209.out⟩, ⟨pkW HB.out⟩⟩
              ·replace c34 := Bool.eq_false_iff.mpr c34
               subst c34
               replace H : (spec_NotifyOk.j4 k4 x3_4 x4_4 true a0_0 l0_1 l0_2 a0_3 a0_4 a0_5 ((rd_T67 l0_2 x4_4).f0) ((rd_T67 l0_2 x4_4).f1)) = some r := by rw [if_neg (show ¬ (false = true) by decide)] at H; exact H
               have H' := am H
               clear H
               have hnb44 := NB209_203.out
               have hnc44 := NB203_209.out
               obtain ⟨hcz45_0, hcz45_1, hfz45_0, hfz45_1⟩ := bk2 BK209.out
               go_wp2_with (first | ((with_reducible refine gate_callee (f := 58) rfl ?_); refine goesL_ (some 65) rfl rfl Try.func58 (by kernel_rfl) rfl #[.int .i64 ((rd_T67 l0_2 x4_4).f0)] rfl mpx ?_; (with_reducible refine (spec_l2Client.calls ((rd_T67 l0_2 x4_4).f0) false _ A33.out).mono ?_); rintro e w' ⟨rfl, ⟨nd, rfl⟩⟩; refine ⟨_, rfl, ?_⟩))
               go_meet
               case rel => exact ⟨_, (true), rfx, H', ⟨by have := HJ1.out; have := HJ12.out; have := HJ22.out; have := HK4.out; first | omega | exact Nat.le_refl _⟩, ⟨by (with_reducible repeat (first | refine blk_drewN ?_ _ | refine blk_drew ?_ | refine blk_alloc ?_ _)); refine blk_far ?_ NB203_209.out _; (with_reducible repeat (first | refine blk_drewN ?_ _ | refine blk_drew ?_ | refine blk_alloc ?_ _)); refine blk_far ?_ NB203_209.out _; exact pkK BK203.out⟩, ⟨by (with_reducible repeat (first | refine blk_drewN ?_ _ | refine blk_drew ?_ | refine blk_alloc ?_ _)); refine blk_put (cs := #[.int .i64 ((rd_T67 l0_2 x4_4).f0), .bool false]) ?_ 1 _ rfl; (with_reducible repeat (first | refine blk_drewN ?_ _ | refine blk_drew ?_ | refine blk_alloc ?_ _)); refine blk_put (cs := #[.int .i64 0, .bool false]) ?_ 0 _ rfl; exact pkK BK209.out⟩, ⟨pkW HB.out⟩⟩
             case rest =>
              clear HC28
              try clear c1
              try clear c2
              try clear p2
              try clear q2
              try clear hx2
              try clear c3
              try clear c4
              try clear c5
              try clear c6
              try clear c6b0
              try clear c6b1
              try clear p6
              try clear c8
              try clear c12
              try clear c15
              try clear c17
              try clear c20
              try clear p20
              try clear q20
              try clear hx20
              try clear c22
              try clear c25
              try clear c26
              try clear c26b0
              try clear c27
              try clear c27b0
              try clear c31
              try clear c34
              try clear c36
              try clear c36b0
              try clear c36b1
              try clear c38
              try clear c41
              try clear c44
              try clear hcz10_0
              try clear hcz10_1
              try clear hcz10_2
              try clear hcz10_3
              try clear hcz10_4
              try clear hcz10_5
              try clear hcz11_0
              try clear hcz11_1
              try clear hcz11_2
              try clear hcz11_3
              try clear hcz11_4
              try clear hcz11_5
              try clear hcz19_0
              try clear hcz19_1
              try clear hcz19_2
              try clear hcz19_3
              try clear hcz19_4
              try clear hcz19_5
              try clear hcz20_0
              try clear hcz20_1
              try clear hcz20_2
              try clear hcz20_3
              try clear hcz20_4
              try clear hcz20_5
              try clear hcz21_0
              try clear hcz21_1
              try clear hcz21_2
              try clear hcz21_3
              try clear hcz21_4
              try clear hcz21_5
              try clear hcz24_0
              try clear hcz24_1
              try clear hcz24_2
              try clear hcz24_3
              try clear hcz24_4
              try clear hcz24_5
              try clear hcz29_0
              try clear hcz29_1
              try clear hcz29_2
              try clear hcz29_3
              try clear hcz29_4
              try clear hcz29_5
              try clear hcz32_0
              try clear hcz32_1
              try clear hcz39_0
              try clear hcz39_1
              try clear hcz40_0
              try clear hcz40_1
              try clear hcz40_2
              try clear hcz40_3
              try clear hcz40_4
              try clear hcz40_5
              try clear hcz42_0
              try clear hcz42_1
              try clear hcz43_0
              try clear hcz43_1
              try clear hcz43_2
              try clear hcz43_3
              try clear hcz43_4
              try clear hcz43_5
              try clear hcz45_0
              try clear hcz45_1
              try clear hcz7_0
              try clear hcz7_1
              try clear hcz7_2
              try clear hcz7_3
              try clear hcz7_4
              try clear hcz7_5
              try clear hcz9_0
              try clear hcz9_1
              try clear hcz9_2
              try clear hcz9_3
              try clear hcz9_4
              try clear hcz9_5
              try clear hfz10_0
              try clear hfz10_1
              try clear hfz10_2
              try clear hfz10_3
              try clear hfz10_4
              try clear hfz10_5
              try clear hfz11_0
              try clear hfz11_1
              try clear hfz11_2
              try clear hfz11_3
              try clear hfz11_4
              try clear hfz11_5
              try clear hfz19_0
              try clear hfz19_1
              try clear hfz19_2
              try clear hfz19_3
              try clear hfz19_4
              try clear hfz19_5
              try clear hfz20_0
              try clear hfz20_1
              try clear hfz20_2
              try clear hfz20_3
              try clear hfz20_4
              try clear hfz20_5
              try clear hfz21_0
              try clear hfz21_1
              try clear hfz21_2
              try clear hfz21_3
              try clear hfz21_4
              try clear hfz21_5
              try clear hfz24_0
              try clear hfz24_1
              try clear hfz24_2
              try clear hfz24_3
              try clear hfz24_4
              try clear hfz24_5
              try clear hfz29_0
              try clear hfz29_1
              try clear hfz29_2
              try clear hfz29_3
              try clear hfz29_4
              try clear hfz29_5
              try clear hfz32_0
              try clear hfz32_1
              try clear hfz39_0
              try clear hfz39_1
              try clear hfz40_0
              try clear hfz40_1
              try clear hfz40_2
              try clear hfz40_3
              try clear hfz40_4
              try clear hfz40_5
              try clear hfz42_0
              try clear hfz42_1
              try clear hfz43_0
              try clear hfz43_1
              try clear hfz43_2
              try clear hfz43_3
              try clear hfz43_4
              try clear hfz43_5
              try clear hfz45_0
              try clear hfz45_1
              try clear hfz7_0
              try clear hfz7_1
              try clear hfz7_2
              try clear hfz7_3
              try clear hfz7_4
              try clear hfz7_5
              try clear hfz9_0
              try clear hfz9_1
              try clear hfz9_2
              try clear hfz9_3
              try clear hfz9_4
              try clear hfz9_5
              try clear hx208_0
              try clear hx208_1
              try clear p2
              try clear p208
              try clear p6
              try clear q208
              obtain ⟨kq, x82_27, rfl, HA, HJ27, BK203, BK209, HB⟩ := hcut
              cases kq with
              | zero => exact absurd HA.out (by simp [spec_NotifyOk.j4])
              | succ kj27 =>
               have H := HA.out
               clear HA
               simp only [spec_NotifyOk.j4] at H
               by_cases c46 : x82_27 = true
               ·subst c46
                replace H : (some false) = some r := by rw [if_pos rfl] at H; exact H
                obtain rfl := Option.some.inj H
                go_wp2
                go_ret
                exact ⟨rfe, pkW HB.out⟩
               ·replace c46 := Bool.eq_false_iff.mpr c46
                subst c46
                replace H : (if ((rd_T67 l0_2 x4_4).f1) = true then (spec_NotifyOk.l0 kj27 (wrap64 (x3_4 + 1)) (wrap64 (x4_4 + 1)) a0_0 l0_1 l0_2 a0_3 a0_4 a0_5) else (spec_NotifyOk.l0 kj27 x3_4 (wrap64 (x4_4 + 1)) a0_0 l0_1 l0_2 a0_3 a0_4 a0_5)) = some r := by rw [if_neg (show ¬ (false = true) by decide)] at H; exact H
                by_cases c47 : ((rd_T67 l0_2 x4_4).f1) = true
                ·rw [if_pos c47] at H
                 have c47b0 : ((rd_T67 l0_2 x4_4).f1) = true := c47
                 clear c47
                 have H' := am H
                 clear H
                 have hnb48 := NB209_203.out
                 have hnc48 := NB203_209.out
                 obtain ⟨hcz49_0, hcz49_1, hfz49_0, hfz49_1⟩ := bk2 BK209.out
                 go_wp2
                 go_roundg kj27
                 case measure => have := HJ1.out; have := HJ12.out; have := HJ22.out; have := HK4.out; have := HJ27.out; omega
                 case rel => exact ⟨(wrap64 (x3_4 + 1)), (wrap64 (x4_4 + 1)), rfx, rfx, H', ⟨by have := HJ1.out; have := HJ12.out; have := HJ22.out; have := HK4.out; have := HJ27.out; omega⟩, ⟨pkK BK203.out⟩, ⟨pkW HB.out⟩⟩
                ·rw [if_neg c47] at H
                 have c47b0 : ((rd_T67 l0_2 x4_4).f1) = false := by simpa using c47
                 clear c47
                 have H' := am H
                 clear H
                 have hnb50 := NB209_203.out
                 have hnc50 := NB203_209.out
                 obtain ⟨hcz51_0, hcz51_1, hfz51_0, hfz51_1⟩ := bk2 BK209.out
                 go_wp2
                 go_roundg kj27
                 case measure => have := HJ1.out; have := HJ12.out; have := HJ22.out; have := HK4.out; have := HJ27.out; omega
                 case rel => exact ⟨(x3_4), (wrap64 (x4_4 + 1)), rfx, rfx, H', ⟨by have := HJ1.out; have := HJ12.out; have := HJ22.out; have := HK4.out; have := HJ27.out; omega⟩, ⟨pkK BK203.out⟩, ⟨pkW HB.out⟩⟩
            ·rw [if_neg c27] at H
             exact absurd H (by simp)
           ·rw [if_neg c26] at H
            have c26b0 : decide (x4_4 < (l0_2.length : Int)) = false := decide_eq_false c26
            clear c26
            obtain rfl := Option.some.inj H
            obtain ⟨hcz52_0, hcz52_1, hcz52_2, hcz52_3, hcz52_4, hcz52_5, hfz52_0, hfz52_1, hfz52_2, hfz52_3, hfz52_4, hfz52_5⟩ := bk6 BK203.out
            go_wp2
            go_ret
            exact ⟨rfe, pkW HB.out⟩
end Go.Proofs.Ytdagpmnadapbjaa.Z
