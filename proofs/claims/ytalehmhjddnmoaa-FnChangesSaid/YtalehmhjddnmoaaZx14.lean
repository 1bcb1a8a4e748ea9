/- The Go functions impl_MsgLess as Lean functions, each with a proof that its code comes to just these answers; conditions: those of each theorem. -/
import Derived.Test.YtalehmhjddnmoaaZx0
import Derived.Test.YtalehmhjddnmoaaZx6
import Derived.Test.YtalehmhjddnmoaaZx12
import Derived.Test.YtalehmhjddnmoaaZx13
namespace Go.Proofs.Ytalehmhjddnmoaa.Z
open Go.RowKit Go.Proofs.YtalehmhjddnmoaaW.PrintWords Go.Proofs.YtalehmhjddnmoaaW.PrintLast Go.Proofs.YtalehmhjddnmoaaW.PrintMore
attribute [local go_sem] max2_int min2_int max_two min_two max_three min_three max_four min_four   -- for this text's walks alone
set_option linter.unusedVariables false
set_option linter.unusedSimpArgs false
def impl_MsgLess.j0 : Nat → Bool → Int → Int → ByteArray → Int → Int → ByteArray → Option (Bool)
 | 0, _, _, _, _, _, _, _ => none
 | k + 1, x13, x155000, x155001, x155002, x156000, x156001, x156002 => if x13 = true then (some false) else ((cmp_Compare_int.f x155000 x156000).bind fun t158 => (if t158 = 0 then ((cmp_Compare_int.f x155001 x156001).bind fun t159 => (if t159 = 0 then ((strings_Compare.f x155002 x156002).bind fun t160 => (some (decide (t160 < 0)))) else (some (decide (t159 < 0))))) else (some (decide (t158 < 0)))))
def impl_MsgLess.f (k : Nat) (a0_0 : Int) (a0_1 : Int) (a0_2 : ByteArray) (a1_0 : Int) (a1_1 : Int) (a1_2 : ByteArray) : Option (Bool) := (impl_MsgOk.f k a0_0 a0_1 a0_2).bind fun t156 => (if t156 = true then ((impl_MsgOk.f k a1_0 a1_1 a1_2).bind fun t157 => (impl_MsgLess.j0 k (!t157) a0_0 a0_1 a0_2 a1_0 a1_1 a1_2)) else (impl_MsgLess.j0 k true a0_0 a0_1 a0_2 a1_0 a1_1 a1_2))
theorem impl_MsgLess.mono_l : ∀ k, (∀ y0 y1 y2 y3 y4 y5 y6, LeO (impl_MsgLess.j0 k y0 y1 y2 y3 y4 y5 y6) (impl_MsgLess.j0 (k + 1) y0 y1 y2 y3 y4 y5 y6))
 | 0 => fun _ _ _ _ _ _ _ r h => by simp [impl_MsgLess.j0] at h
 | k + 1 => by
  have ih0 := impl_MsgLess.mono_l k
  ·intro y0 y1 y2 y3 y4 y5 y6
   unfold impl_MsgLess.j0
   repeat' first
   | (with_reducible exact ih0 _ _ _ _ _ _ _)
   | (with_reducible exact impl_MsgOk.mono _ _ _ _)
   | (with_reducible exact LeO.refl _)
   | (with_reducible exact LeO.none _)
   | (with_reducible refine LeO.ite ?_ ?_)
   | (with_reducible refine LeO.bind ?_ (fun _ => ?_))
theorem impl_MsgLess.mono : ∀ a0 a1 a2 a3 a4 a5 k, LeO (impl_MsgLess.f k a0 a1 a2 a3 a4 a5) (impl_MsgLess.f (k + 1) a0 a1 a2 a3 a4 a5) := by
 intro a0 a1 a2 a3 a4 a5 k
 have ih0 := impl_MsgLess.mono_l k
 unfold impl_MsgLess.f
 repeat' first
   | (with_reducible exact ih0 _ _ _ _ _ _ _)
   | (with_reducible exact impl_MsgOk.mono _ _ _ _)
   | (with_reducible exact LeO.refl _)
   | (with_reducible exact LeO.none _)
   | (with_reducible refine LeO.ite ?_ ?_)
   | (with_reducible refine LeO.bind ?_ (fun _ => ?_))
set_option maxHeartbeats 8000000 in
set_option maxRecDepth 100000 in
theorem impl_MsgLess.calls (k : Nat) (a0_0 : Int) (a0_1 : Int) (a0_2 : ByteArray) (a1_0 : Int) (a1_1 : Int) (a1_2 : ByteArray) (r : Bool) (w : World) (h : impl_MsgLess.f k a0_0 a0_1 a0_2 a1_0 a1_1 a1_2 = some r) :
  Calls Try.prog 19 #[.agg #[.int .i64 a0_0, .int .i64 a0_1, .string a0_2], .agg #[.int .i64 a1_0, .int .i64 a1_1, .string a1_2]] w fun e w' => e = .returned (.bool r) ∧ Below w.heap.size w w' := by
 have hu27 := Try.underlying27
 have HB := am (Below.refl w.heap.size w)
 have H : ((impl_MsgOk.f k a0_0 a0_1 a0_2).bind fun t156 => (if t156 = true then ((impl_MsgOk.f k a1_0 a1_1 a1_2).bind fun t157 => (impl_MsgLess.j0 k (!t157) a0_0 a0_1 a0_2 a1_0 a1_1 a1_2)) else (impl_MsgLess.j0 k true a0_0 a0_1 a0_2 a1_0 a1_1 a1_2))) = some r := h
 clear h
 have HC3 := am H
 clear H
 go_enter Try.func19, Try.ntmps19
 go_upto_region 1 with (first | ((with_reducible refine gate_dst (N := 2) rfl ?_); refine box_event ?hg (N := 2) ?hd (cs := #[.int .i64 a0_0, .int .i64 a0_1, .string a0_2]) (t := 27) ?hr ?_; (case hd => rfl); (case hg => rfl); (case hr => first | (go_simp; done) | (go_simp; rfl)); intro gb154 hg w4 hbox hb; have BK154 := am (hbox); have GW154 := am ((by rw [hg]; exact (below_size (pkB HB.out)) : w.heap.size ≤ gb154)); have GE154 := am ((by rw [hg]; exact (below_size (pkB HB.out)) : w.heap.size ≤ gb154)); replace HB := am (below_step (pkB HB.out) hb); clear hb hbox hg) | ((with_reducible refine gate_dst (N := 3) rfl ?_); refine box_event ?hg (N := 3) ?hd (cs := #[.int .i64 a1_0, .int .i64 a1_1, .string a1_2]) (t := 27) ?hr ?_; (case hd => rfl); (case hg => rfl); (case hr => first | (go_simp; done) | (go_simp; rfl)); intro gb155 hg w5 hbox hb; have BK155 := am (hbox); have GW155 := am ((by rw [hg]; exact (below_size (pkW HB.out)) : w.heap.size ≤ gb155)); have GE155 := am ((by rw [hg]; exact (below_size (pkW HB.out)) : w.heap.size ≤ gb155)); replace HB := am (below_step (pkW HB.out) hb); have NB154_155 := am ((by rw [hg]; exact Nat.ne_of_lt (blk_lt (g := gb154) (o := .cells #[.int .i64 a0_0, .int .i64 a0_1, .string a0_2] 27 (0, 0)) (pkK BK154.out)) : gb154 ≠ gb155)); have NB155_154 := am ((by rw [hg]; exact Nat.ne_of_gt (blk_lt (g := gb154) (o := .cells #[.int .i64 a0_0, .int .i64 a0_1, .string a0_2] 27 (0, 0)) (pkK BK154.out)) : gb155 ≠ gb154)); replace BK154 := am (blk_below (pkK BK154.out) hb); clear hb hbox hg))
 (try simp only [Act.put, List.setIfInBounds_toArray, List.set_cons_zero, List.set_cons_succ])
 go_cut [13] (fun v13 wc => ∃ (kq : Nat) (x13_2 : Bool), v13 = .bool x13_2 ∧ Aside0 (impl_MsgLess.j0 kq x13_2 a0_0 a0_1 a0_2 a1_0 a1_1 a1_2 = some r) ∧ Aside0 (kq ≤ k) ∧ Aside0 (wc.heap[gb154]? = some (.cells #[.int .i64 a0_0, .int .i64 a0_1, .string a0_2] 27 (0, 0))) ∧ Aside0 (wc.heap[gb155]? = some (.cells #[.int .i64 a1_0, .int .i64 a1_1, .string a1_2] 27 (0, 0))) ∧ Aside0 (Below w.heap.size w wc))
 case first =>
  have H := HC3.out
  clear HC3
  replace H := Option.bind_eq_some_iff.mp H
  obtain ⟨t156, A60, H⟩ := H
  replace H : (if t156 = true then ((impl_MsgOk.f k a1_0 a1_1 a1_2).bind fun t157 => (impl_MsgLess.j0 k (!t157) a0_0 a0_1 a0_2 a1_0 a1_1 a1_2)) else (impl_MsgLess.j0 k true a0_0 a0_1 a0_2 a1_0 a1_1 a1_2)) = some r := H
  have A6 := am A60
  clear A60
  by_cases c7 : t156 = true
  ·subst c7
   replace H : ((impl_MsgOk.f k a1_0 a1_1 a1_2).bind fun t157 => (impl_MsgLess.j0 k (!t157) a0_0 a0_1 a0_2 a1_0 a1_1 a1_2)) = some r := by rw [if_pos rfl] at H; exact H
   replace H := Option.bind_eq_some_iff.mp H
   obtain ⟨t157, A80, H⟩ := H
   replace H : (impl_MsgLess.j0 k (!t157) a0_0 a0_1 a0_2 a1_0 a1_1 a1_2) = some r := H
   have A8 := am A80
   clear A80
   have H' := am H
   clear H
   have hnb9 := NB154_155.out
   have hnc9 := NB155_154.out
   obtain ⟨hcz10_0, hcz10_1, hcz10_2, hfz10_0, hfz10_1, hfz10_2⟩ := bk3 BK154.out
   go_wp2_with (first | ((with_reducible refine gate_callee (f := 15) rfl ?_); refine goesL_ (some 7) rfl rfl Try.func15 (by kernel_rfl) rfl #[.agg #[.int .i64 a0_0, .int .i64 a0_1, .string a0_2]] rfl mpx ?_; (with_reducible refine (impl_MsgOk.calls k a0_0 a0_1 a0_2 true _ A6.out).mono ?_); rintro e w11 ⟨rfl, hb⟩; refine ⟨_, rfl, ?_⟩; replace BK154 := am (blk_below (pkK BK154.out) hb); replace BK155 := am (blk_below (pkK BK155.out) hb); replace HB := am (below_step (pkW HB.out) hb); (try clear hb); obtain ⟨hcz12_0, hcz12_1, hcz12_2, hfz12_0, hfz12_1, hfz12_2⟩ := bk3 BK155.out) | (go_at_call 15; (with_reducible refine (impl_MsgOk.calls k a1_0 a1_1 a1_2 t157 _ A8.out).mono ?_); rintro e w13 ⟨rfl, hb⟩; replace BK154 := am (blk_below (pkK BK154.out) hb); replace BK155 := am (blk_below (pkK BK155.out) hb); replace HB := am (below_step (pkW HB.out) hb); (try clear hb)))
   go_meet
   case rel => exact ⟨_, (!t157), rfx, H', ⟨by first | omega | exact Nat.le_refl _⟩, ⟨pkK BK154.out⟩, ⟨pkK BK155.out⟩, ⟨pkW HB.out⟩⟩
  ·replace c7 := Bool.eq_false_iff.mpr c7
   subst c7
   replace H : (impl_MsgLess.j0 k true a0_0 a0_1 a0_2 a1_0 a1_1 a1_2) = some r := by rw [if_neg (show ¬ (false = true) by decide)] at H; exact H
   have H' := am H
   clear H
   have hnb14 := NB154_155.out
   have hnc14 := NB155_154.out
   obtain ⟨hcz15_0, hcz15_1, hcz15_2, hfz15_0, hfz15_1, hfz15_2⟩ := bk3 BK154.out
   go_wp2_with (first | ((with_reducible refine gate_callee (f := 15) rfl ?_); refine goesL_ (some 7) rfl rfl Try.func15 (by kernel_rfl) rfl #[.agg #[.int .i64 a0_0, .int .i64 a0_1, .string a0_2]] rfl mpx ?_; (with_reducible refine (impl_MsgOk.calls k a0_0 a0_1 a0_2 false _ A6.out).mono ?_); rintro e w16 ⟨rfl, hb⟩; refine ⟨_, rfl, ?_⟩; replace BK154 := am (blk_below (pkK BK154.out) hb); replace BK155 := am (blk_below (pkK BK155.out) hb); replace HB := am (below_step (pkW HB.out) hb); (try clear hb)))
   go_meet
   case rel => exact ⟨_, (true), rfx, H', ⟨by first | omega | exact Nat.le_refl _⟩, ⟨pkK BK154.out⟩, ⟨pkK BK155.out⟩, ⟨pkW HB.out⟩⟩
 case rest =>
  clear HC3
  try clear c1
  try clear p2
  try clear c7
  try clear c9
  try clear c14
  try clear c15
  try clear hcz10_0
  try clear hcz10_1
  try clear hcz10_2
  try clear hcz12_0
  try clear hcz12_1
  try clear hcz12_2
  try clear hcz15_0
  try clear hcz15_1
  try clear hcz15_2
  try clear hfz10_0
  try clear hfz10_1
  try clear hfz10_2
  try clear hfz12_0
  try clear hfz12_1
  try clear hfz12_2
  try clear hfz15_0
  try clear hfz15_1
  try clear hfz15_2
  obtain ⟨kq, x13_2, rfl, HA, HJ2, BK154, BK155, HB⟩ := hcut
  cases kq with
  | zero => exact absurd HA.out (by simp [impl_MsgLess.j0])
  | succ kj2 =>
   have H := HA.out
   clear HA
   simp only [impl_MsgLess.j0] at H
   by_cases c17 : x13_2 = true
   ·subst c17
    replace H : (some false) = some r := by rw [if_pos rfl] at H; exact H
    obtain rfl := Option.some.inj H
    go_wp2
    go_ret
    exact ⟨rfe, pkW HB.out⟩
   ·replace c17 := Bool.eq_false_iff.mpr c17
    subst c17
    replace H : ((cmp_Compare_int.f a0_0 a1_0).bind fun t158 => (if t158 = 0 then ((cmp_Compare_int.f a0_1 a1_1).bind fun t159 => (if t159 = 0 then ((strings_Compare.f a0_2 a1_2).bind fun t160 => (some (decide (t160 < 0)))) else (some (decide (t159 < 0))))) else (some (decide (t158 < 0))))) = some r := by rw [if_neg (show ¬ (false = true) by decide)] at H; exact H
    replace H := Option.bind_eq_some_iff.mp H
    obtain ⟨t158, A180, H⟩ := H
    replace H : (if t158 = 0 then ((cmp_Compare_int.f a0_1 a1_1).bind fun t159 => (if t159 = 0 then ((strings_Compare.f a0_2 a1_2).bind fun t160 => (some (decide (t160 < 0)))) else (some (decide (t159 < 0))))) else (some (decide (t158 < 0)))) = some r := H
    have A18 := am A180
    clear A180
    by_cases c19 : t158 = 0
    ·rw [if_pos c19] at H
     have c19b0 : (t158 == 0) = true := beq_iff_eq.mpr c19
     have c19b1 : (t158 != 0) = false := bne_eq_false_iff_eq.mpr c19
     clear c19
     replace H := Option.bind_eq_some_iff.mp H
     obtain ⟨t159, A200, H⟩ := H
     replace H : (if t159 = 0 then ((strings_Compare.f a0_2 a1_2).bind fun t160 => (some (decide (t160 < 0)))) else (some (decide (t159 < 0)))) = some r := H
     have A20 := am A200
     clear A200
     by_cases c21 : t159 = 0
     ·rw [if_pos c21] at H
      have c21b0 : (t159 == 0) = true := beq_iff_eq.mpr c21
      have c21b1 : (t159 != 0) = false := bne_eq_false_iff_eq.mpr c21
      clear c21
      replace H := Option.bind_eq_some_iff.mp H
      obtain ⟨t160, A220, H⟩ := H
      replace H : (some (decide (t160 < 0))) = some r := H
      have A22 := am A220
      clear A220
      obtain rfl := Option.some.inj H
      have hnb23 := NB154_155.out
      have hnc23 := NB155_154.out
      obtain ⟨hcz24_0, hcz24_1, hcz24_2, hfz24_0, hfz24_1, hfz24_2⟩ := bk3 BK154.out
      obtain ⟨hcz25_0, hcz25_1, hcz25_2, hfz25_0, hfz25_1, hfz25_2⟩ := bk3 BK155.out
      go_wp2_with (first | ((with_reducible refine gate_callee (f := 37) rfl ?_); refine goesL_ (some 18) rfl rfl Try.func37 (by kernel_rfl) rfl #[.int .i64 a0_0, .int .i64 a1_0] rfl mpx ?_; (with_reducible refine (cmp_Compare_int.calls a0_0 a1_0 t158 _ A18.out).mono ?_); rintro e w' ⟨rfl, ⟨nd, rfl⟩⟩; refine ⟨_, rfl, ?_⟩) | ((with_reducible refine gate_callee (f := 37) rfl ?_); refine goesL_ (some 25) rfl rfl Try.func37 (by kernel_rfl) rfl #[.int .i64 a0_1, .int .i64 a1_1] rfl mpx ?_; (with_reducible refine (cmp_Compare_int.calls a0_1 a1_1 t159 _ A20.out).mono ?_); rintro e w' ⟨rfl, ⟨nd, rfl⟩⟩; refine ⟨_, rfl, ?_⟩) | ((with_reducible refine gate_callee (f := 38) rfl ?_); refine goesL_ (some 32) rfl rfl Try.func38 (by kernel_rfl) rfl #[.string a0_2, .string a1_2] rfl mpx ?_; (with_reducible refine (strings_Compare.calls a0_2 a1_2 t160 _ A22.out).mono ?_); rintro e w' ⟨rfl, ⟨nd, rfl⟩⟩; refine ⟨_, rfl, ?_⟩))
      go_ret
      exact ⟨rfe, pkW HB.out⟩
     ·rw [if_neg c21] at H
      have c21b0 : (t159 == 0) = false := beq_eq_false_iff_ne.mpr c21
      have c21b1 : (t159 != 0) = true := bne_iff_ne.mpr c21
      obtain rfl := Option.some.inj H
      have hnb26 := NB154_155.out
      have hnc26 := NB155_154.out
      obtain ⟨hcz27_0, hcz27_1, hcz27_2, hfz27_0, hfz27_1, hfz27_2⟩ := bk3 BK154.out
      obtain ⟨hcz28_0, hcz28_1, hcz28_2, hfz28_0, hfz28_1, hfz28_2⟩ := bk3 BK155.out
      go_wp2_with (first | ((with_reducible refine gate_callee (f := 37) rfl ?_); refine goesL_ (some 18) rfl rfl Try.func37 (by kernel_rfl) rfl #[.int .i64 a0_0, .int .i64 a1_0] rfl mpx ?_; (with_reducible refine (cmp_Compare_int.calls a0_0 a1_0 t158 _ A18.out).mono ?_); rintro e w' ⟨rfl, ⟨nd, rfl⟩⟩; refine ⟨_, rfl, ?_⟩) | ((with_reducible refine gate_callee (f := 37) rfl ?_); refine goesL_ (some 25) rfl rfl Try.func37 (by kernel_rfl) rfl #[.int .i64 a0_1, .int .i64 a1_1] rfl mpx ?_; (with_reducible refine (cmp_Compare_int.calls a0_1 a1_1 t159 _ A20.out).mono ?_); rintro e w' ⟨rfl, ⟨nd, rfl⟩⟩; refine ⟨_, rfl, ?_⟩))
      go_ret
      exact ⟨rfe, pkW HB.out⟩
    ·rw [if_neg c19] at H
     have c19b0 : (t158 == 0) = false := beq_eq_false_iff_ne.mpr c19
     have c19b1 : (t158 != 0) = true := bne_iff_ne.mpr c19
     obtain rfl := Option.some.inj H
     have hnb29 := NB154_155.out
     have hnc29 := NB155_154.out
     obtain ⟨hcz30_0, hcz30_1, hcz30_2, hfz30_0, hfz30_1, hfz30_2⟩ := bk3 BK154.out
     obtain ⟨hcz31_0, hcz31_1, hcz31_2, hfz31_0, hfz31_1, hfz31_2⟩ := bk3 BK155.out
     go_wp2_with (first | ((with_reducible refine gate_callee (f := 37) rfl ?_); refine goesL_ (some 18) rfl rfl Try.func37 (by kernel_rfl) rfl #[.int .i64 a0_0, .int .i64 a1_0] rfl mpx ?_; (with_reducible refine (cmp_Compare_int.calls a0_0 a1_0 t158 _ A18.out).mono ?_); rintro e w' ⟨rfl, ⟨nd, rfl⟩⟩; refine ⟨_, rfl, ?_⟩))
     go_ret
     exact ⟨rfe, pkW HB.out⟩
end Go.Proofs.Ytalehmhjddnmoaa.Z
