/- The Go functions laws_FnExactReadMsg as Lean functions, each with a proof that its code comes to just these answers; conditions: those of each theorem. -/
import Derived.Test.YtalehmhjddnmoaaZx0
import Derived.Test.YtalehmhjddnmoaaZx16
import Derived.Test.YtalehmhjddnmoaaZx19
import Derived.Test.YtalehmhjddnmoaaZx20
namespace Go.Proofs.Ytalehmhjddnmoaa.Z
open Go.RowKit Go.Proofs.YtalehmhjddnmoaaW.PrintWords Go.Proofs.YtalehmhjddnmoaaW.PrintLast Go.Proofs.YtalehmhjddnmoaaW.PrintMore
attribute [local go_sem] max2_int min2_int max_two min_two max_three min_three max_four min_four   -- for this text's walks alone
set_option linter.unusedVariables false
set_option linter.unusedSimpArgs false
def laws_FnExactReadMsg.f (k : Nat) (a0 : ByteArray) : Option (Bool) := if (a0.size : Int) > 1048576 then (some true) else ((spec_ReadMsg.f k a0).bind fun bt197 => ((impl_ReadMsg.f k a0).bind fun bt202 => ((laws_eqMsg.f bt202.1 bt202.2.1 bt202.2.2.1 bt197.1 bt197.2.1 bt197.2.2.1).bind fun t207 => (if t207 = true then (if (bt202.2.2.2 != bt197.2.2.2) = true then (some false) else (some true)) else (some false)))))
theorem laws_FnExactReadMsg.mono : ∀ a0 k, LeO (laws_FnExactReadMsg.f k a0) (laws_FnExactReadMsg.f (k + 1) a0) := by
 intro a0 k
 unfold laws_FnExactReadMsg.f
 repeat' first
   | (with_reducible exact impl_ReadMsg.mono _ _)
   | (with_reducible exact spec_ReadMsg.mono _ _)
   | (with_reducible exact LeO.refl _)
   | (with_reducible exact LeO.none _)
   | (with_reducible refine LeO.ite ?_ ?_)
   | (with_reducible refine LeO.bind ?_ (fun _ => ?_))
set_option maxHeartbeats 8000000 in
set_option maxRecDepth 100000 in
theorem laws_FnExactReadMsg.calls (k : Nat) (a0 : ByteArray) (r : Bool) (w : World) (HQ_ : Aside0 (r = true)) (h : laws_FnExactReadMsg.f k a0 = some r) :
  Calls Try.prog 7 #[.string a0] w fun e w' => e = .returned (.bool r) ∧ Below w.heap.size w w' := by
 have hu27 := Try.underlying27
 have HB := am (Below.refl w.heap.size w)
 have H : (if (a0.size : Int) > 1048576 then (some true) else ((spec_ReadMsg.f k a0).bind fun bt197 => ((impl_ReadMsg.f k a0).bind fun bt202 => ((laws_eqMsg.f bt202.1 bt202.2.1 bt202.2.2.1 bt197.1 bt197.2.1 bt197.2.2.1).bind fun t207 => (if t207 = true then (if (bt202.2.2.2 != bt197.2.2.2) = true then (some false) else (some true)) else (some false)))))) = some r := h
 clear h
 by_cases c2 : (a0.size : Int) > 1048576
 ·rw [if_pos c2] at H
  have c2b0 : decide (1048576 < (a0.size : Int)) = true := decide_eq_true c2
  have c2b1 : decide (1048576 < a0.size) = true := decide_eq_true (by omega)
  clear c2
  obtain rfl := Option.some.inj H
  go_enter Try.func7, Try.ntmps7
  go_wp2
  go_ret
  exact ⟨rfe, pkB HB.out⟩
 ·rw [if_neg c2] at H
  have c2b0 : decide (1048576 < (a0.size : Int)) = false := decide_eq_false c2
  have c2b1 : decide (1048576 < a0.size) = false := decide_eq_false (by omega)
  clear c2
  replace H := Option.bind_eq_some_iff.mp H
  obtain ⟨⟨t197, t198, t199, t200⟩, A30, H⟩ := H
  replace H : ((impl_ReadMsg.f k a0).bind fun bt202 => ((laws_eqMsg.f bt202.1 bt202.2.1 bt202.2.2.1 t197 t198 t199).bind fun t207 => (if t207 = true then (if (bt202.2.2.2 != t200) = true then (some false) else (some true)) else (some false)))) = some r := H
  have A3 := am A30
  clear A30
  replace H := Option.bind_eq_some_iff.mp H
  obtain ⟨⟨t202, t203, t204, t205⟩, A40, H⟩ := H
  replace H : ((laws_eqMsg.f t202 t203 t204 t197 t198 t199).bind fun t207 => (if t207 = true then (if (t205 != t200) = true then (some false) else (some true)) else (some false))) = some r := H
  have A4 := am A40
  clear A40
  replace H := Option.bind_eq_some_iff.mp H
  obtain ⟨t207, A50, H⟩ := H
  replace H : (if t207 = true then (if (t205 != t200) = true then (some false) else (some true)) else (some false)) = some r := H
  have A5 := am A50
  clear A50
  by_cases c6 : t207 = true
  ·subst c6
   replace H : (if (t205 != t200) = true then (some false) else (some true)) = some r := by rw [if_pos rfl] at H; exact H
   by_cases c7 : (t205 != t200) = true
   ·rw [if_pos c7] at H
    have c7b0 : (t205 != t200) = true := c7
    (try (have c7b1 : decide (t205 = t200) = false := by simpa using c7))
    (try (have c7b2 : (t205 == t200) = false := by first | exact bq_t c7 | exact bq_f c7 | simpa using c7))
    (try (have c7b3 : ¬ (t205 = t200) := by simpa using c7))
    clear c7
    exact absurd (Option.some.inj H) (by rw [HQ_.out]; simp)
   ·rw [if_neg c7] at H
    have c7b0 : (t205 != t200) = false := by simpa using c7
    (try (have c7b1 : decide (t205 = t200) = true := by simpa using c7))
    (try (have c7b2 : (t205 == t200) = true := by first | exact bq_t c7 | exact bq_f c7 | simpa using c7))
    clear c7
    obtain rfl := Option.some.inj H
    go_enter Try.func7, Try.ntmps7
    go_wp2_with (first | ((with_reducible refine gate_callee (f := 20) rfl ?_); refine goesL_ (some 12) rfl rfl Try.func20 (by kernel_rfl) rfl #[.string a0] rfl mpx ?_; (with_reducible refine (spec_ReadMsg.calls k a0 t197 t198 t199 t200 _ A3.out).mono ?_); rintro e w8 ⟨rfl, hb⟩; refine ⟨_, rfl, ?_⟩; replace HB := am (below_step (pkB HB.out) hb); (try clear hb)) | ((with_reducible refine gate_dst (N := 3) rfl ?_); refine box_event ?hg (N := 3) ?hd (cs := #[.int .i64 0, .int .i64 0, .string (⟨#[]⟩ : ByteArray)]) (t := 27) ?hr ?_; (case hd => rfl); (case hg => rfl); (case hr => first | (go_simp; done) | (go_simp; rfl)); intro gb201 hg w9 hbox hb; have BK201 := am (hbox); have GW201 := am ((by rw [hg]; exact (below_size (pkB HB.out)) : w.heap.size ≤ gb201)); have GE201 := am ((by rw [hg]; exact (below_size (pkB HB.out)) : w.heap.size ≤ gb201)); replace HB := am (below_step (pkB HB.out) hb); clear hb hbox hg; obtain ⟨hcz10_0, hcz10_1, hcz10_2, hfz10_0, hfz10_1, hfz10_2⟩ := bk3 BK201.out) | ((with_reducible refine gate_callee (f := 21) rfl ?_); refine goesL_ (some 17) rfl rfl Try.func21 (by kernel_rfl) rfl #[.string a0] rfl mpx ?_; (with_reducible refine (impl_ReadMsg.calls k a0 t202 t203 t204 t205 _ A4.out).mono ?_); rintro e w11 ⟨rfl, hb⟩; refine ⟨_, rfl, ?_⟩; replace BK201 := am (blk_below (g := gb201) (o := .cells #[.int .i64 t197, .int .i64 t198, .string t199] 27 (0, 0)) (by (with_reducible repeat (first | refine blk_drewN ?_ _ | refine blk_drew ?_ | refine blk_alloc ?_ _)); refine blk_put (cs := #[.int .i64 t197, .int .i64 t198, .string (⟨#[]⟩ : ByteArray)]) ?_ 2 _ rfl; (with_reducible repeat (first | refine blk_drewN ?_ _ | refine blk_drew ?_ | refine blk_alloc ?_ _)); refine blk_put (cs := #[.int .i64 t197, .int .i64 0, .string (⟨#[]⟩ : ByteArray)]) ?_ 1 _ rfl; (with_reducible repeat (first | refine blk_drewN ?_ _ | refine blk_drew ?_ | refine blk_alloc ?_ _)); refine blk_put (cs := #[.int .i64 0, .int .i64 0, .string (⟨#[]⟩ : ByteArray)]) ?_ 0 _ rfl; exact pkK BK201.out) hb); replace HB := am (below_step (pkW HB.out) hb); (try clear hb)) | ((with_reducible refine gate_dst (N := 5) rfl ?_); refine box_event ?hg (N := 5) ?hd (cs := #[.int .i64 0, .int .i64 0, .string (⟨#[]⟩ : ByteArray)]) (t := 27) ?hr ?_; (case hd => rfl); (case hg => rfl); (case hr => first | (go_simp; done) | (go_simp; rfl)); intro gb206 hg w12 hbox hb; have BK206 := am (hbox); have GW206 := am ((by rw [hg]; exact (below_size (pkW HB.out)) : w.heap.size ≤ gb206)); have GE206 := am ((by rw [hg]; exact (below_size (pkW HB.out)) : w.heap.size ≤ gb206)); replace HB := am (below_step (pkW HB.out) hb); have NB201_206 := am ((by rw [hg]; exact Nat.ne_of_lt (blk_lt (g := gb201) (o := .cells #[.int .i64 t197, .int .i64 t198, .string t199] 27 (0, 0)) (pkK BK201.out)) : gb201 ≠ gb206)); have NB206_201 := am ((by rw [hg]; exact Nat.ne_of_gt (blk_lt (g := gb201) (o := .cells #[.int .i64 t197, .int .i64 t198, .string t199] 27 (0, 0)) (pkK BK201.out)) : gb206 ≠ gb201)); replace BK201 := am (blk_below (pkK BK201.out) hb); clear hb hbox hg; have hnb13 := NB206_201.out; have hnc13 := NB201_206.out; obtain ⟨hcz14_0, hcz14_1, hcz14_2, hfz14_0, hfz14_1, hfz14_2⟩ := bk3 BK206.out; obtain ⟨hcz15_0, hcz15_1, hcz15_2, hfz15_0, hfz15_1, hfz15_2⟩ := bk3 BK201.out) | ((with_reducible refine gate_callee (f := 22) rfl ?_); refine goesL_ (some 22) rfl rfl Try.func22 (by kernel_rfl) rfl #[.agg #[.int .i64 t202, .int .i64 t203, .string t204], .agg #[.int .i64 t197, .int .i64 t198, .string t199]] rfl mpx ?_; (with_reducible refine (laws_eqMsg.calls t202 t203 t204 t197 t198 t199 true _ A5.out).mono ?_); rintro e w16 ⟨rfl, hb⟩; refine ⟨_, rfl, ?_⟩; replace BK201 := am (blk_below (g := gb201) (o := .cells #[.int .i64 t197, .int .i64 t198, .string t199] 27 (0, 0)) (by (with_reducible repeat (first | refine blk_drewN ?_ _ | refine blk_drew ?_ | refine blk_alloc ?_ _)); refine blk_far ?_ NB201_206.out _; (with_reducible repeat (first | refine blk_drewN ?_ _ | refine blk_drew ?_ | refine blk_alloc ?_ _)); refine blk_far ?_ NB201_206.out _; (with_reducible repeat (first | refine blk_drewN ?_ _ | refine blk_drew ?_ | refine blk_alloc ?_ _)); refine blk_far ?_ NB201_206.out _; exact pkK BK201.out) hb); replace BK206 := am (blk_below (g := gb206) (o := .cells #[.int .i64 t202, .int .i64 t203, .string t204] 27 (0, 0)) (by (with_reducible repeat (first | refine blk_drewN ?_ _ | refine blk_drew ?_ | refine blk_alloc ?_ _)); refine blk_put (cs := #[.int .i64 t202, .int .i64 t203, .string (⟨#[]⟩ : ByteArray)]) ?_ 2 _ rfl; (with_reducible repeat (first | refine blk_drewN ?_ _ | refine blk_drew ?_ | refine blk_alloc ?_ _)); refine blk_put (cs := #[.int .i64 t202, .int .i64 0, .string (⟨#[]⟩ : ByteArray)]) ?_ 1 _ rfl; (with_reducible repeat (first | refine blk_drewN ?_ _ | refine blk_drew ?_ | refine blk_alloc ?_ _)); refine blk_put (cs := #[.int .i64 0, .int .i64 0, .string (⟨#[]⟩ : ByteArray)]) ?_ 0 _ rfl; exact pkK BK206.out) hb); replace HB := am (below_step (pkW HB.out) hb); (try clear hb)))
    go_ret
    exact ⟨rfe, pkW HB.out⟩
  ·replace c6 := Bool.eq_false_iff.mpr c6
   subst c6
   replace H : (some false) = some r := by rw [if_neg (show ¬ (false = true) by decide)] at H; exact H
   exact absurd (Option.some.inj H) (by rw [HQ_.out]; simp)
end Go.Proofs.Ytalehmhjddnmoaa.Z
