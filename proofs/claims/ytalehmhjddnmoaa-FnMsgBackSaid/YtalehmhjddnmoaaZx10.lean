/- The Go functions impl_MsgText as Lean functions, each with a proof that its code comes to just these answers; conditions: those of each theorem. -/
import Derived.Test.YtalehmhjddnmoaaZx0
import Derived.Test.YtalehmhjddnmoaaZx6
import Derived.Test.YtalehmhjddnmoaaZx9
namespace Go.Proofs.Ytalehmhjddnmoaa.Z
open Go.RowKit Go.Proofs.YtalehmhjddnmoaaW.PrintWords Go.Proofs.YtalehmhjddnmoaaW.PrintLast Go.Proofs.YtalehmhjddnmoaaW.PrintMore
attribute [local go_sem] max2_int min2_int max_two min_two max_three min_three max_four min_four   -- for this text's walks alone
set_option linter.unusedVariables false
set_option linter.unusedSimpArgs false
def impl_MsgText.f (k : Nat) (a0_0 : Int) (a0_1 : Int) (a0_2 : ByteArray) : Option (ByteArray) := (impl_MsgOk.f k a0_0 a0_1 a0_2).bind fun t135 => (if t135 = true then (if a0_0 = 1 then ((impl_decimal.f k a0_1).bind fun t136 => (some t136)) else (if 1 + a0_2.size ≤ 9223372036854775807 then (if 1 + a0_2.size + 1 ≤ 9223372036854775807 then (some (((⟨#[34]⟩ : ByteArray) ++ a0_2) ++ (⟨#[34]⟩ : ByteArray))) else (none)) else (none))) else (some (⟨#[63]⟩ : ByteArray)))
theorem impl_MsgText.mono : ∀ a0 a1 a2 k, LeO (impl_MsgText.f k a0 a1 a2) (impl_MsgText.f (k + 1) a0 a1 a2) := by
 intro a0 a1 a2 k
 unfold impl_MsgText.f
 repeat' first
   | (with_reducible exact impl_MsgOk.mono _ _ _ _)
   | (with_reducible exact impl_decimal.mono _ _)
   | (with_reducible exact LeO.refl _)
   | (with_reducible exact LeO.none _)
   | (with_reducible refine LeO.ite ?_ ?_)
   | (with_reducible refine LeO.bind ?_ (fun _ => ?_))
set_option maxHeartbeats 8000000 in
set_option maxRecDepth 100000 in
theorem impl_MsgText.calls (k : Nat) (a0_0 : Int) (a0_1 : Int) (a0_2 : ByteArray) (r : ByteArray) (w : World) (h : impl_MsgText.f k a0_0 a0_1 a0_2 = some r) :
  Calls Try.prog 17 #[.agg #[.int .i64 a0_0, .int .i64 a0_1, .string a0_2]] w fun e w' => e = .returned (.string r) ∧ Below w.heap.size w w' := by
 have hu27 := Try.underlying27
 have HB := am (Below.refl w.heap.size w)
 have H : ((impl_MsgOk.f k a0_0 a0_1 a0_2).bind fun t135 => (if t135 = true then (if a0_0 = 1 then ((impl_decimal.f k a0_1).bind fun t136 => (some t136)) else (if 1 + a0_2.size ≤ 9223372036854775807 then (if 1 + a0_2.size + 1 ≤ 9223372036854775807 then (some (((⟨#[34]⟩ : ByteArray) ++ a0_2) ++ (⟨#[34]⟩ : ByteArray))) else (none)) else (none))) else (some (⟨#[63]⟩ : ByteArray)))) = some r := h
 clear h
 replace H := Option.bind_eq_some_iff.mp H
 obtain ⟨t135, A20, H⟩ := H
 replace H : (if t135 = true then (if a0_0 = 1 then ((impl_decimal.f k a0_1).bind fun t136 => (some t136)) else (if 1 + a0_2.size ≤ 9223372036854775807 then (if 1 + a0_2.size + 1 ≤ 9223372036854775807 then (some (((⟨#[34]⟩ : ByteArray) ++ a0_2) ++ (⟨#[34]⟩ : ByteArray))) else (none)) else (none))) else (some (⟨#[63]⟩ : ByteArray))) = some r := H
 have A2 := am A20
 clear A20
 by_cases c3 : t135 = true
 ·subst c3
  replace H : (if a0_0 = 1 then ((impl_decimal.f k a0_1).bind fun t136 => (some t136)) else (if 1 + a0_2.size ≤ 9223372036854775807 then (if 1 + a0_2.size + 1 ≤ 9223372036854775807 then (some (((⟨#[34]⟩ : ByteArray) ++ a0_2) ++ (⟨#[34]⟩ : ByteArray))) else (none)) else (none))) = some r := by rw [if_pos rfl] at H; exact H
  by_cases c4 : a0_0 = 1
  ·rw [if_pos c4] at H
   have c4b0 : (a0_0 == 1) = true := beq_iff_eq.mpr c4
   have c4b1 : (a0_0 != 1) = false := bne_eq_false_iff_eq.mpr c4
   clear c4
   replace H := Option.bind_eq_some_iff.mp H
   obtain ⟨t136, A50, H⟩ := H
   replace H : (some t136) = some r := H
   have A5 := am A50
   clear A50
   obtain rfl := Option.some.inj H
   go_enter Try.func17, Try.ntmps17
   go_wp2_with (first | ((with_reducible refine gate_dst (N := 1) rfl ?_); refine box_event ?hg (N := 1) ?hd (cs := #[.int .i64 a0_0, .int .i64 a0_1, .string a0_2]) (t := 27) ?hr ?_; (case hd => rfl); (case hg => rfl); (case hr => first | (go_simp; done) | (go_simp; rfl)); intro gb134 hg w6 hbox hb; have BK134 := am (hbox); have GW134 := am ((by rw [hg]; exact (below_size (pkB HB.out)) : w.heap.size ≤ gb134)); have GE134 := am ((by rw [hg]; exact (below_size (pkB HB.out)) : w.heap.size ≤ gb134)); replace HB := am (below_step (pkB HB.out) hb); clear hb hbox hg; obtain ⟨hcz7_0, hcz7_1, hcz7_2, hfz7_0, hfz7_1, hfz7_2⟩ := bk3 BK134.out) | ((with_reducible refine gate_callee (f := 15) rfl ?_); refine goesL_ (some 5) rfl rfl Try.func15 (by kernel_rfl) rfl #[.agg #[.int .i64 a0_0, .int .i64 a0_1, .string a0_2]] rfl mpx ?_; (with_reducible refine (impl_MsgOk.calls k a0_0 a0_1 a0_2 true _ A2.out).mono ?_); rintro e w8 ⟨rfl, hb⟩; refine ⟨_, rfl, ?_⟩; replace BK134 := am (blk_below (pkK BK134.out) hb); replace HB := am (below_step (pkW HB.out) hb); (try clear hb); obtain ⟨hcz9_0, hcz9_1, hcz9_2, hfz9_0, hfz9_1, hfz9_2⟩ := bk3 BK134.out) | ((with_reducible refine gate_callee (f := 36) rfl ?_); refine goesL_ (some 13) rfl rfl Try.func36 (by kernel_rfl) rfl #[.int .i64 a0_1] rfl mpx ?_; (with_reducible refine (impl_decimal.calls k a0_1 t136 _ A5.out).mono ?_); rintro e w' ⟨rfl, ⟨nd, rfl⟩⟩; refine ⟨_, rfl, ?_⟩))
   go_ret
   exact ⟨rfe, pkW HB.out⟩
  ·rw [if_neg c4] at H
   have c4b0 : (a0_0 == 1) = false := beq_eq_false_iff_ne.mpr c4
   have c4b1 : (a0_0 != 1) = true := bne_iff_ne.mpr c4
   by_cases c10 : 1 + a0_2.size ≤ 9223372036854775807
   ·rw [if_pos c10] at H
    have c10b0 := eq_true c10
    have c10b1 : decide (1 + a0_2.size ≤ 9223372036854775807) = true := decide_eq_true c10
    try have c10b2 : (9223372036854775807 < 1 + a0_2.size) = False := eq_false (Nat.not_lt.2 c10)
    by_cases c11 : 1 + a0_2.size + 1 ≤ 9223372036854775807
    ·rw [if_pos c11] at H
     have c11b0 := eq_true c11
     have c11b1 : decide (1 + a0_2.size + 1 ≤ 9223372036854775807) = true := decide_eq_true c11
     try have c11b2 : (9223372036854775807 < 1 + a0_2.size + 1) = False := eq_false (Nat.not_lt.2 c11)
     obtain rfl := Option.some.inj H
     go_enter Try.func17, Try.ntmps17
     go_wp2_with (first | ((with_reducible refine gate_dst (N := 1) rfl ?_); refine box_event ?hg (N := 1) ?hd (cs := #[.int .i64 a0_0, .int .i64 a0_1, .string a0_2]) (t := 27) ?hr ?_; (case hd => rfl); (case hg => rfl); (case hr => first | (go_simp; done) | (go_simp; rfl)); intro gb134 hg w12 hbox hb; have BK134 := am (hbox); have GW134 := am ((by rw [hg]; exact (below_size (pkB HB.out)) : w.heap.size ≤ gb134)); have GE134 := am ((by rw [hg]; exact (below_size (pkB HB.out)) : w.heap.size ≤ gb134)); replace HB := am (below_step (pkB HB.out) hb); clear hb hbox hg; obtain ⟨hcz13_0, hcz13_1, hcz13_2, hfz13_0, hfz13_1, hfz13_2⟩ := bk3 BK134.out) | ((with_reducible refine gate_callee (f := 15) rfl ?_); refine goesL_ (some 5) rfl rfl Try.func15 (by kernel_rfl) rfl #[.agg #[.int .i64 a0_0, .int .i64 a0_1, .string a0_2]] rfl mpx ?_; (with_reducible refine (impl_MsgOk.calls k a0_0 a0_1 a0_2 true _ A2.out).mono ?_); rintro e w14 ⟨rfl, hb⟩; refine ⟨_, rfl, ?_⟩; replace BK134 := am (blk_below (pkK BK134.out) hb); replace HB := am (below_step (pkW HB.out) hb); (try clear hb); obtain ⟨hcz15_0, hcz15_1, hcz15_2, hfz15_0, hfz15_1, hfz15_2⟩ := bk3 BK134.out))
     go_ret
     exact ⟨rfe, pkW HB.out⟩
    ·rw [if_neg c11] at H
     exact absurd H (by simp)
   ·rw [if_neg c10] at H
    exact absurd H (by simp)
 ·replace c3 := Bool.eq_false_iff.mpr c3
  subst c3
  replace H : (some (⟨#[63]⟩ : ByteArray)) = some r := by rw [if_neg (show ¬ (false = true) by decide)] at H; exact H
  obtain rfl := Option.some.inj H
  go_enter Try.func17, Try.ntmps17
  go_wp2_with (first | ((with_reducible refine gate_dst (N := 1) rfl ?_); refine box_event ?hg (N := 1) ?hd (cs := #[.int .i64 a0_0, .int .i64 a0_1, .string a0_2]) (t := 27) ?hr ?_; (case hd => rfl); (case hg => rfl); (case hr => first | (go_simp; done) | (go_simp; rfl)); intro gb134 hg w16 hbox hb; have BK134 := am (hbox); have GW134 := am ((by rw [hg]; exact (below_size (pkB HB.out)) : w.heap.size ≤ gb134)); have GE134 := am ((by rw [hg]; exact (below_size (pkB HB.out)) : w.heap.size ≤ gb134)); replace HB := am (below_step (pkB HB.out) hb); clear hb hbox hg; obtain ⟨hcz17_0, hcz17_1, hcz17_2, hfz17_0, hfz17_1, hfz17_2⟩ := bk3 BK134.out) | ((with_reducible refine gate_callee (f := 15) rfl ?_); refine goesL_ (some 5) rfl rfl Try.func15 (by kernel_rfl) rfl #[.agg #[.int .i64 a0_0, .int .i64 a0_1, .string a0_2]] rfl mpx ?_; (with_reducible refine (impl_MsgOk.calls k a0_0 a0_1 a0_2 false _ A2.out).mono ?_); rintro e w18 ⟨rfl, hb⟩; refine ⟨_, rfl, ?_⟩; replace BK134 := am (blk_below (pkK BK134.out) hb); replace HB := am (below_step (pkW HB.out) hb); (try clear hb)))
  go_ret
  exact ⟨rfe, pkW HB.out⟩
end Go.Proofs.Ytalehmhjddnmoaa.Z
