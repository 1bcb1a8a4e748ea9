/- The Go functions impl_MsgLess as Lean functions, each with a proof that its code comes to just these answers; conditions: those of each theorem. -/
import Derived.Test.YtffcphplnilokaaZx0
import Derived.Test.YtffcphplnilokaaZx4
import Derived.Test.YtffcphplnilokaaZx6
namespace Go.Proofs.Ytffcphplnilokaa.Z
open Go.RowKit Go.Proofs.YtffcphplnilokaaW.PrintWords Go.Proofs.YtffcphplnilokaaW.PrintLast Go.Proofs.YtffcphplnilokaaW.PrintMore
attribute [local go_sem] max2_int min2_int max_two min_two max_three min_three max_four min_four   -- for this text's walks alone
set_option linter.unusedVariables false
set_option linter.unusedSimpArgs false
def impl_MsgLess.j0 : Nat → Bool → Int → Int → ByteArray → Int → Int → ByteArray → Option (Bool)
 | 0, _, _, _, _, _, _, _ => none
 | k + 1, x13, x140000, x140001, x140002, x141000, x141001, x141002 => if x13 = true then (some false) else ((cmp_Compare_int.f x140000 x141000).bind fun t143 => (if t143 = 0 then ((cmp_Compare_int.f x140001 x141001).bind fun t144 => (if t144 = 0 then ((strings_Compare.f x140002 x141002).bind fun t145 => (some (decide (t145 < 0)))) else (some (decide (t144 < 0))))) else (some (decide (t143 < 0)))))
def impl_MsgLess.f (k : Nat) (a0_0 : Int) (a0_1 : Int) (a0_2 : ByteArray) (a1_0 : Int) (a1_1 : Int) (a1_2 : ByteArray) : Option (Bool) := (impl_MsgOk.f k a0_0 a0_1 a0_2).bind fun t141 => (if t141 = true then ((impl_MsgOk.f k a1_0 a1_1 a1_2).bind fun t142 => (impl_MsgLess.j0 k (!t142) a0_0 a0_1 a0_2 a1_0 a1_1 a1_2)) else (impl_MsgLess.j0 k true a0_0 a0_1 a0_2 a1_0 a1_1 a1_2))
theorem impl_MsgLess.mono_l : ∀ k, (∀ y0 y1 y2 y3 y4 y5 y6, LeO (impl_MsgLess.j0 k y0 y1 y2 y3 y4 y5 y6) (impl_MsgLess.j0 (k + 1) y0 y1 y2 y3 y4 y5 y6))
 | 0 => fun _ _ _ _ _ _ _ r h => by simp [impl_MsgLess.j0] at h
 | k + 1 => by
  have ih0 := impl_MsgLess.mono_l k
  ·intro y0 y1 y2 y3 y4 y5 y6
   unfold impl_MsgLess.j0
   repeat' first
   | (with_reducible exact ih0 _ _ _ _ _ _ _)
   | (with_reducible exact impl_MsgOk.mono _ _ _ _)
   | (with_reducible exact LeO.refl _)
   | (with_reducible exact LeO.none _)
   | (with_reducible refine LeO.ite ?_ ?_)
   | (with_reducible refine LeO.bind ?_ (fun _ => ?_))
theorem impl_MsgLess.mono : ∀ a0 a1 a2 a3 a4 a5 k, LeO (impl_MsgLess.f k a0 a1 a2 a3 a4 a5) (impl_MsgLess.f (k + 1) a0 a1 a2 a3 a4 a5) := by
 intro a0 a1 a2 a3 a4 a5 k
 have ih0 := impl_MsgLess.mono_l k
 unfold impl_MsgLess.f
 repeat' first
   | (with_reducible exact ih0 _ _ _ _ _ _ _)
   | (with_reducible exact impl_MsgOk.mono _ _ _ _)
   | (with_reducible exact LeO.refl _)
   | (with_reducible exact LeO.none _)
   | (with_reducible refine LeO.ite ?_ ?_)
   | (with_reducible refine LeO.bind ?_ (fun _ => ?_))
set_option maxHeartbeats 8000000 in
set_option maxRecDepth 100000 in
theorem impl_MsgLess.calls (k : Nat) (a0_0 : Int) (a0_1 : Int) (a0_2 : ByteArray) (a1_0 : Int) (a1_1 : Int) (a1_2 : ByteArray) (r : Bool) (w : World) (h : impl_MsgLess.f k a0_0 a0_1 a0_2 a1_0 a1_1 a1_2 = some r) :
  Calls Try.prog 81 #[.agg #[.int .i64 a0_0, .int .i64 a0_1, .string a0_2], .agg #[.int .i64 a1_0, .int .i64 a1_1, .string a1_2]] w fun e w' => e = .returned (.bool r) ∧ Below w.heap.size w w' := by
 have hu25 := Try.underlying25
 have HB := am (Below.refl w.heap.size w)
 have H : ((impl_MsgOk.f k a0_0 a0_1 a0_2).bind fun t141 => (if t141 = true then ((impl_MsgOk.f k a1_0 a1_1 a1_2).bind fun t142 => (impl_MsgLess.j0 k (!t142) a0_0 a0_1 a0_2 a1_0 a1_1 a1_2)) else (impl_MsgLess.j0 k true a0_0 a0_1 a0_2 a1_0 a1_1 a1_2))) = some r := h
 clear h
 have HC3 := am H
 clear H
 go_enter Try.func81, Try.ntmps81
 go_upto_region 1 with (first | ((with_reducible refine gate_dst (N := 2) rfl ?_); refine box_event ?hg (N := 2) ?hd (cs := #[.int .i64 a0_0, .int .i64 a0_1, .string a0_2]) (t := 25) ?hr ?_; (case hd => rfl); (case hg => rfl); (case hr => first | (go_simp; done) | (go_simp; rfl)); intro gb139 hg w4 hbox hb; have BK139 := am (hbox); have GW139 := am ((by rw [hg]; exact (below_size (pkB HB.out)) : w.heap.size ≤ gb139)); have GE139 := am ((by rw [hg]; exact (below_size (pkB HB.out)) : w.heap.size ≤ gb139)); replace HB := am (below_step (pkB HB.out) hb); clear hb hbox hg) | ((with_reducible refine gate_dst (N := 3) rfl ?_); refine box_event ?hg (N := 3) ?hd (cs := #[.int .i64 a1_0, .int .i64 a1_1, .string a1_2]) (t := 25) ?hr ?_; (case hd => rfl); (case hg => rfl); (case hr => first | (go_simp; done) | (go_simp; rfl)); intro gb140 hg w5 hbox hb; have BK140 := am (hbox); have GW140 := am ((by rw [hg]; exact (below_size (pkW HB.out)) : w.heap.size ≤ gb140)); have GE140 := am ((by rw [hg]; exact (below_size (pkW HB.out)) : w.heap.size ≤ gb140)); replace HB := am (below_step (pkW HB.out) hb); have NB139_140 := am ((by rw [hg]; exact Nat.ne_of_lt (blk_lt (g := gb139) (o := .cells #[.int .i64 a0_0, .int .i64 a0_1, .string a0_2] 25 (0, 0)) (pkK BK139.out)) : gb139 ≠ gb140)); have NB140_139 := am ((by rw [hg]; exact Nat.ne_of_gt (blk_lt (g := gb139) (o := .cells #[.int .i64 a0_0, .int .i64 a0_1, .string a0_2] 25 (0, 0)) (pkK BK139.out)) : gb140 ≠ gb139)); replace BK139 := am (blk_below (pkK BK139.out) hb); clear hb hbox hg))
 (try simp only [Act.put, List.setIfInBounds_toArray, List.set_cons_zero, List.set_cons_succ])
 go_cut [13] (fun v13 wc => ∃ (kq : Nat) (x13_2 : Bool), v13 = .bool x13_2 ∧ Aside0 (impl_MsgLess.j0 kq x13_2 a0_0 a0_1 a0_2 a1_0 a1_1 a1_2 = some r) ∧ Aside0 (kq ≤ k) ∧ Aside0 (wc.heap[gb139]? = some (.cells #[.int .i64 a0_0, .int .i64 a0_1, .string a0_2] 25 (0, 0))) ∧ Aside0 (wc.heap[gb140]? = some (.cells #[.int .i64 a1_0, .int .i64 a1_1, .string a1_2] 25 (0, 0))) ∧ Aside0 (Below w.heap.size w wc))
 case first =>
  have H := HC3.out
  clear HC3
  replace H := Option.bind_eq_some_iff.mp H
  obtain ⟨t141, A60, H⟩ := H
  replace H : (if t141 = true then ((impl_MsgOk.f k a1_0 a1_1 a1_2).bind fun t142 => (impl_MsgLess.j0 k (!t142) a0_0 a0_1 a0_2 a1_0 a1_1 a1_2)) else (impl_MsgLess.j0 k true a0_0 a0_1 a0_2 a1_0 a1_1 a1_2)) = some r := H
  have A6 := am A60
  clear A60
  by_cases c7 : t141 = true
  ·subst c7
   replace H : ((impl_MsgOk.f k a1_0 a1_1 a1_2).bind fun t142 => (impl_MsgLess.j0 k (!t142) a0_0 a0_1 a0_2 a1_0 a1_1 a1_2)) = some r := by rw [if_pos rfl] at H; exact H
   replace H := Option.bind_eq_some_iff.mp H
   obtain ⟨t142, A80, H⟩ := H
   replace H : (impl_MsgLess.j0 k (!t142) a0_0 a0_1 a0_2 a1_0 a1_1 a1_2) = some r := H
   have A8 := am A80
   clear A80
   have H' := am H
   clear H
   have hnb9 := NB139_140.out
   have hnc9 := NB140_139.out
   obtain ⟨hcz10_0, hcz10_1, hcz10_2, hfz10_0, hfz10_1, hfz10_2⟩ := bk3 BK139.out
   go_wp2_with (first | ((with_reducible refine gate_callee (f := 73) rfl ?_); refine goesL_ (some 7) rfl rfl Try.func73 (by kernel_rfl) rfl #[.agg #[.int .i64 a0_0, .int .i64 a0_1, .string a0_2]] rfl mpx ?_; (with_reducible refine (impl_MsgOk.calls k a0_0 a0_1 a0_2 true _ A6.out).mono ?_); rintro e w11 ⟨rfl, hb⟩; refine ⟨_, rfl, ?_⟩; replace BK139 := am (blk_below (pkK BK139.out) hb); replace BK140 := am (blk_below (pkK BK140.out) hb); replace HB := am (below_step (pkW HB.out) hb); (try clear hb); obtain ⟨hcz12_0, hcz12_1, hcz12_2, hfz12_0, hfz12_1, hfz12_2⟩ := bk3 BK140.out) | (go_at_call 73; (with_reducible refine (impl_MsgOk.calls k a1_0 a1_1 a1_2 t142 _ A8.out).mono ?_); rintro e w13 ⟨rfl, hb⟩; replace BK139 := am (blk_below (pkK BK139.out) hb); replace BK140 := am (blk_below (pkK BK140.out) hb); replace HB := am (below_step (pkW HB.out) hb); (try clear hb)))
   go_meet
   case rel => exact ⟨_, (!t142), rfx, H', ⟨by first | omega | exact Nat.le_refl _⟩, ⟨pkK BK139.out⟩, ⟨pkK BK140.out⟩, ⟨pkW HB.out⟩⟩
  ·replace c7 := Bool.eq_false_iff.mpr c7
   subst c7
   replace H : (impl_MsgLess.j0 k true a0_0 a0_1 a0_2 a1_0 a1_1 a1_2) = some r := by rw [if_neg (show ¬ (false = true) by decide)] at H; exact H
   have H' := am H
   clear H
   have hnb14 := NB139_140.out
   have hnc14 := NB140_139.out
   obtain ⟨hcz15_0, hcz15_1, hcz15_2, hfz15_0, hfz15_1, hfz15_2⟩ := bk3 BK139.out
   go_wp2_with (first | ((with_reducible refine gate_callee (f := 73) rfl ?_); refine goesL_ (some 7) rfl rfl Try.func73 (by kernel_rfl) rfl #[.agg #[.int .i64 a0_0, .int .i64 a0_1, .string a0_2]] rfl mpx ?_; (with_reducible refine (impl_MsgOk.calls k a0_0 a0_1 a0_2 false _ A6.out).mono ?_); rintro e w16 ⟨rfl, hb⟩; refine ⟨_, rfl, ?_⟩; replace BK139 := am (blk_below (pkK BK139.out) hb); replace BK140 := am (blk_below (pkK BK140.out) hb); replace HB := am (below_step (pkW HB.out) hb); (try clear hb)))
   go_meet
   case rel => exact ⟨_, (true), rfx, H', ⟨by first | omega | exact Nat.le_refl _⟩, ⟨pkK BK139.out⟩, ⟨pkK BK140.out⟩, ⟨pkW HB.out⟩⟩
 case rest =>
  clear HC3
  try clear c1
  try clear p2
  try clear c7
  try clear c8
  try clear c9
  try clear c14
  try clear hcz10_0
  try clear hcz10_1
  try clear hcz10_2
  try clear hcz12_0
  try clear hcz12_1
  try clear hcz12_2
  try clear hcz15_0
  try clear hcz15_1
  try clear hcz15_2
  try clear hfz10_0
  try clear hfz10_1
  try clear hfz10_2
  try clear hfz12_0
  try clear hfz12_1
  try clear hfz12_2
  try clear hfz15_0
  try clear hfz15_1
  try clear hfz15_2
  obtain ⟨kq, x13_2, rfl, HA, HJ2, BK139, BK140, HB⟩ := hcut
  cases kq with
  | zero => exact absurd HA.out (by simp [impl_MsgLess.j0])
  | succ kj2 =>
   have H := HA.out
   clear HA
   simp only [impl_MsgLess.j0] at H
   by_cases c17 : x13_2 = true
   ·subst c17
    replace H : (some false) = some r := by rw [if_pos rfl] at H; exact H
    obtain rfl := Option.some.inj H
    go_wp2
    go_ret
    exact ⟨rfe, pkW HB.out⟩
   ·replace c17 := Bool.eq_false_iff.mpr c17
    subst c17
    replace H : ((cmp_Compare_int.f a0_0 a1_0).bind fun t143 => (if t143 = 0 then ((cmp_Compare_int.f a0_1 a1_1).bind fun t144 => (if t144 = 0 then ((strings_Compare.f a0_2 a1_2).bind fun t145 => (some (decide (t145 < 0)))) else (some (decide (t144 < 0))))) else (some (decide (t143 < 0))))) = some r := by rw [if_neg (show ¬ (false = true) by decide)] at H; exact H
    replace H := Option.bind_eq_some_iff.mp H
    obtain ⟨t143, A180, H⟩ := H
    replace H : (if t143 = 0 then ((cmp_Compare_int.f a0_1 a1_1).bind fun t144 => (if t144 = 0 then ((strings_Compare.f a0_2 a1_2).bind fun t145 => (some (decide (t145 < 0)))) else (some (decide (t144 < 0))))) else (some (decide (t143 < 0)))) = some r := H
    have A18 := am A180
    clear A180
    by_cases c19 : t143 = 0
    ·rw [if_pos c19] at H
     have c19b0 : (t143 == 0) = true := beq_iff_eq.mpr c19
     have c19b1 : (t143 != 0) = false := bne_eq_false_iff_eq.mpr c19
     clear c19
     replace H := Option.bind_eq_some_iff.mp H
     obtain ⟨t144, A200, H⟩ := H
     replace H : (if t144 = 0 then ((strings_Compare.f a0_2 a1_2).bind fun t145 => (some (decide (t145 < 0)))) else (some (decide (t144 < 0)))) = some r := H
     have A20 := am A200
     clear A200
     by_cases c21 : t144 = 0
     ·rw [if_pos c21] at H
      have c21b0 : (t144 == 0) = true := beq_iff_eq.mpr c21
      have c21b1 : (t144 != 0) = false := bne_eq_false_iff_eq.mpr c21
      clear c21
      replace H := Option.bind_eq_some_iff.mp H
      obtain ⟨t145, A220, H⟩ := H
      replace H : (some (decide (t145 < 0))) = some r := H
      have A22 := am A220
      clear A220
      obtain rfl := Option.some.inj H
      have hnb23 := NB139_140.out
      have hnc23 := NB140_139.out
      obtain ⟨hcz24_0, hcz24_1, hcz24_2, hfz24_0, hfz24_1, hfz24_2⟩ := bk3 BK139.out
      obtain ⟨hcz25_0, hcz25_1, hcz25_2, hfz25_0, hfz25_1, hfz25_2⟩ := bk3 BK140.out
      go_wp2_with (first | ((with_reducible refine gate_callee (f := 93) rfl ?_); refine goesL_ (some 18) rfl rfl Try.func93 (by kernel_rfl) rfl #[.int .i64 a0_0, .int .i64 a1_0] rfl mpx ?_; (with_reducible refine (cmp_Compare_int.calls a0_0 a1_0 t143 _ A18.out).mono ?_); rintro e w' ⟨rfl, ⟨nd, rfl⟩⟩; refine ⟨_, rfl, ?_⟩) | ((with_reducible refine gate_callee (f := 93) rfl ?_); refine goesL_ (some 25) rfl rfl Try.func93 (by kernel_rfl) rfl #[.int .i64 a0_1, .int .i64 a1_1] rfl mpx ?_; (with_reducible refine (cmp_Compare_int.calls a0_1 a1_1 t144 _ A20.out).mono ?_); rintro e w' ⟨rfl, ⟨nd, rfl⟩⟩; refine ⟨_, rfl, ?_⟩) | ((with_reducible refine gate_callee (f := 94) rfl ?_); refine goesL_ (some 32) rfl rfl Try.func94 (by kernel_rfl) rfl #[.string a0_2, .string a1_2] rfl mpx ?_; (with_reducible refine (strings_Compare.calls a0_2 a1_2 t145 _ A22.out).mono ?_); rintro e w' ⟨rfl, ⟨nd, rfl⟩⟩; refine ⟨_, rfl, ?_⟩))
      go_ret
      exact ⟨rfe, pkW HB.out⟩
     ·rw [if_neg c21] at H
      have c21b0 : (t144 == 0) = false := beq_eq_false_iff_ne.mpr c21
      have c21b1 : (t144 != 0) = true := bne_iff_ne.mpr c21
      obtain rfl := Option.some.inj H
      have hnb26 := NB139_140.out
      have hnc26 := NB140_139.out
      obtain ⟨hcz27_0, hcz27_1, hcz27_2, hfz27_0, hfz27_1, hfz27_2⟩ := bk3 BK139.out
      obtain ⟨hcz28_0, hcz28_1, hcz28_2, hfz28_0, hfz28_1, hfz28_2⟩ := bk3 BK140.out
      go_wp2_with (first | ((with_reducible refine gate_callee (f := 93) rfl ?_); refine goesL_ (some 18) rfl rfl Try.func93 (by kernel_rfl) rfl #[.int .i64 a0_0, .int .i64 a1_0] rfl mpx ?_; (with_reducible refine (cmp_Compare_int.calls a0_0 a1_0 t143 _ A18.out).mono ?_); rintro e w' ⟨rfl, ⟨nd, rfl⟩⟩; refine ⟨_, rfl, ?_⟩) | ((with_reducible refine gate_callee (f := 93) rfl ?_); refine goesL_ (some 25) rfl rfl Try.func93 (by kernel_rfl) rfl #[.int .i64 a0_1, .int .i64 a1_1] rfl mpx ?_; (with_reducible refine (cmp_Compare_int.calls a0_1 a1_1 t144 _ A20.out).mono ?_); rintro e w' ⟨rfl, ⟨nd, rfl⟩⟩; refine ⟨_, rfl, ?_⟩))
      go_ret
      exact ⟨rfe, pkW HB.out⟩
    ·rw [if_neg c19] at H
     have c19b0 : (t143 == 0) = false := beq_eq_false_iff_ne.mpr c19
     have c19b1 : (t143 != 0) = true := bne_iff_ne.mpr c19
     obtain rfl := Option.some.inj H
     have hnb29 := NB139_140.out
     have hnc29 := NB140_139.out
     obtain ⟨hcz30_0, hcz30_1, hcz30_2, hfz30_0, hfz30_1, hfz30_2⟩ := bk3 BK139.out
     obtain ⟨hcz31_0, hcz31_1, hcz31_2, hfz31_0, hfz31_1, hfz31_2⟩ := bk3 BK140.out
     go_wp2_with (first | ((with_reducible refine gate_callee (f := 93) rfl ?_); refine goesL_ (some 18) rfl rfl Try.func93 (by kernel_rfl) rfl #[.int .i64 a0_0, .int .i64 a1_0] rfl mpx ?_; (with_reducible refine (cmp_Compare_int.calls a0_0 a1_0 t143 _ A18.out).mono ?_); rintro e w' ⟨rfl, ⟨nd, rfl⟩⟩; refine ⟨_, rfl, ?_⟩))
     go_ret
     exact ⟨rfe, pkW HB.out⟩
end Go.Proofs.Ytffcphplnilokaa.Z
