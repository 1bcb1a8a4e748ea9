/- The Go functions laws_FnExactChanged as Lean functions, each with a proof that its code comes to just these answers; conditions: those of each theorem. -/
import Derived.Test.YtalehmhjddnmoaaZx0
import Derived.Test.YtalehmhjddnmoaaZx2
import Derived.Test.YtalehmhjddnmoaaZx4
import Derived.Test.YtalehmhjddnmoaaZx20
import Derived.Test.YtalehmhjddnmoaaZx28
import Derived.Test.YtalehmhjddnmoaaZx29
import Derived.Test.YtalehmhjddnmoaaZx30
import Derived.Test.YtalehmhjddnmoaaZx31
namespace Go.Proofs.Ytalehmhjddnmoaa.Z
open Go.RowKit Go.Proofs.YtalehmhjddnmoaaW.PrintWords Go.Proofs.YtalehmhjddnmoaaW.PrintLast Go.Proofs.YtalehmhjddnmoaaW.PrintMore
attribute [local go_sem] max2_int min2_int max_two min_two max_three min_three max_four min_four   -- for this text's walks alone
set_option linter.unusedVariables false
set_option linter.unusedSimpArgs false
def laws_FnExactChanged.f (k : Nat) (a0_0 : Int) (a0_1 : Int) (a0_2 : ByteArray) (a1_0 : Int) (a1_1 : Int) (a1_2 : Int) (a1_3 : ByteArray) : Option (Bool) := (laws_szMsg.f a0_0 a0_1 a0_2 1048576).bind fun t370 => (if t370 < 0 then (some true) else ((laws_szChange.f a1_0 a1_1 a1_2 a1_3 t370).bind fun t371 => (if t371 < 0 then (some true) else ((laws_toMsg.f a0_0 a0_1 a0_2).bind fun bt372 => ((laws_toChange.f a1_0 a1_1 a1_2 a1_3).bind fun bt375 => ((spec_Changed.f k bt372.1 bt372.2.1 bt372.2.2 bt375.1 bt375.2.1 bt375.2.2.1 bt375.2.2.2).bind fun bt379 => ((laws_toMsg.f a0_0 a0_1 a0_2).bind fun bt384 => ((laws_toChange.f a1_0 a1_1 a1_2 a1_3).bind fun bt387 => ((impl_Changed.f k bt384.1 bt384.2.1 bt384.2.2 bt387.1 bt387.2.1 bt387.2.2.1 bt387.2.2.2).bind fun bt391 => ((laws_eqMsg.f bt391.1 bt391.2.1 bt391.2.2.1 bt379.1 bt379.2.1 bt379.2.2.1).bind fun t396 => (if t396 = true then (if (bt391.2.2.2 != bt379.2.2.2) = true then (some false) else (some true)) else (some false))))))))))))
theorem laws_FnExactChanged.mono : ∀ a0 a1 a2 a3 a4 a5 a6 k, LeO (laws_FnExactChanged.f k a0 a1 a2 a3 a4 a5 a6) (laws_FnExactChanged.f (k + 1) a0 a1 a2 a3 a4 a5 a6) := by
 intro a0 a1 a2 a3 a4 a5 a6 k
 unfold laws_FnExactChanged.f
 repeat' first
   | (with_reducible exact impl_Changed.mono _ _ _ _ _ _ _ _)
   | (with_reducible exact spec_Changed.mono _ _ _ _ _ _ _ _)
   | (with_reducible exact LeO.refl _)
   | (with_reducible exact LeO.none _)
   | (with_reducible refine LeO.ite ?_ ?_)
   | (with_reducible refine LeO.bind ?_ (fun _ => ?_))
def laws_FnExactChanged.T8 : Bool × List (List Nat × List Nat) := (true, [([], []), ([0], [0]), ([], []), ([2, 1], [2]), ([1, 3, 3], [1, 3]), ([4], [4]), ([5], [5]), ([5], [5]), ([], []), ([8, 6, 4, 0, 1, 2, 3, 4, 5, 6, 8], [6, 8]), ([7, 9, 0, 1, 2, 3, 4, 5, 6, 7, 8, 9], [7])])
def laws_FnExactChanged.B8 : List Nat := [0, 1, 0, 7, 15, 31, 63, 63, 0, 383, 1023]
theorem laws_FnExactChanged.tab8 : rtab .any (opsOf Try.f9 8) = laws_FnExactChanged.T8 := by kernel_rfl
theorem laws_FnExactChanged.bits8 : waitsOk laws_FnExactChanged.T8.2 laws_FnExactChanged.B8 = true := by kernel_rfl
def laws_FnExactChanged.T9 : Bool × List (List Nat × List Nat) := (true, [([], []), ([0], [0]), ([], []), ([2, 1], [2]), ([1, 3, 3], [1, 3]), ([4], [4]), ([5], [5]), ([5], [5]), ([], []), ([8, 6, 4, 0, 1, 2, 3, 4, 5, 6, 8], [6, 8]), ([7, 9, 0, 1, 2, 3, 4, 5, 6, 7, 8, 9], [7])])
def laws_FnExactChanged.B9 : List Nat := [0, 1, 0, 7, 15, 31, 63, 63, 0, 383, 1023]
theorem laws_FnExactChanged.tab9 : rtab .any (opsOf Try.f9 9) = laws_FnExactChanged.T9 := by kernel_rfl
theorem laws_FnExactChanged.bits9 : waitsOk laws_FnExactChanged.T9.2 laws_FnExactChanged.B9 = true := by kernel_rfl
set_option maxHeartbeats 8000000 in
set_option maxRecDepth 100000 in
theorem laws_FnExactChanged.calls (k : Nat) (a0_0 : Int) (a0_1 : Int) (a0_2 : ByteArray) (a1_0 : Int) (a1_1 : Int) (a1_2 : Int) (a1_3 : ByteArray) (r : Bool) (w : World) (HQ_ : Aside0 (r = true)) (h : laws_FnExactChanged.f k a0_0 a0_1 a0_2 a1_0 a1_1 a1_2 a1_3 = some r) :
  Calls Try.prog 9 #[.agg #[.int .i64 a0_0, .int .i64 a0_1, .string a0_2], .agg #[.int .i64 a1_0, .int .i64 a1_1, .int .i64 a1_2, .string a1_3]] w fun e w' => e = .returned (.bool r) ∧ Below w.heap.size w w' := by
 have hu24 := Try.underlying24
 have hu41 := Try.underlying41
 have hu27 := Try.underlying27
 have HB := am (Below.refl w.heap.size w)
 have H : ((laws_szMsg.f a0_0 a0_1 a0_2 1048576).bind fun t370 => (if t370 < 0 then (some true) else ((laws_szChange.f a1_0 a1_1 a1_2 a1_3 t370).bind fun t371 => (if t371 < 0 then (some true) else ((laws_toMsg.f a0_0 a0_1 a0_2).bind fun bt372 => ((laws_toChange.f a1_0 a1_1 a1_2 a1_3).bind fun bt375 => ((spec_Changed.f k bt372.1 bt372.2.1 bt372.2.2 bt375.1 bt375.2.1 bt375.2.2.1 bt375.2.2.2).bind fun bt379 => ((laws_toMsg.f a0_0 a0_1 a0_2).bind fun bt384 => ((laws_toChange.f a1_0 a1_1 a1_2 a1_3).bind fun bt387 => ((impl_Changed.f k bt384.1 bt384.2.1 bt384.2.2 bt387.1 bt387.2.1 bt387.2.2.1 bt387.2.2.2).bind fun bt391 => ((laws_eqMsg.f bt391.1 bt391.2.1 bt391.2.2.1 bt379.1 bt379.2.1 bt379.2.2.1).bind fun t396 => (if t396 = true then (if (bt391.2.2.2 != bt379.2.2.2) = true then (some false) else (some true)) else (some false))))))))))))) = some r := h
 clear h
 replace H := Option.bind_eq_some_iff.mp H
 obtain ⟨t370, A30, H⟩ := H
 replace H : (if t370 < 0 then (some true) else ((laws_szChange.f a1_0 a1_1 a1_2 a1_3 t370).bind fun t371 => (if t371 < 0 then (some true) else ((laws_toMsg.f a0_0 a0_1 a0_2).bind fun bt372 => ((laws_toChange.f a1_0 a1_1 a1_2 a1_3).bind fun bt375 => ((spec_Changed.f k bt372.1 bt372.2.1 bt372.2.2 bt375.1 bt375.2.1 bt375.2.2.1 bt375.2.2.2).bind fun bt379 => ((laws_toMsg.f a0_0 a0_1 a0_2).bind fun bt384 => ((laws_toChange.f a1_0 a1_1 a1_2 a1_3).bind fun bt387 => ((impl_Changed.f k bt384.1 bt384.2.1 bt384.2.2 bt387.1 bt387.2.1 bt387.2.2.1 bt387.2.2.2).bind fun bt391 => ((laws_eqMsg.f bt391.1 bt391.2.1 bt391.2.2.1 bt379.1 bt379.2.1 bt379.2.2.1).bind fun t396 => (if t396 = true then (if (bt391.2.2.2 != bt379.2.2.2) = true then (some false) else (some true)) else (some false)))))))))))) = some r := H
 have A3 := am A30
 clear A30
 by_cases c4 : t370 < 0
 ·rw [if_pos c4] at H
  have c4b0 : decide (t370 < 0) = true := decide_eq_true c4
  clear c4
  obtain rfl := Option.some.inj H
  go_enter Try.func9, Try.ntmps9
  go_wp2_with (first | ((with_reducible refine gate_dst (N := 2) rfl ?_); refine box_event ?hg (N := 2) ?hd (cs := #[.int .i64 a0_0, .int .i64 a0_1, .string a0_2]) (t := 24) ?hr ?_; (case hd => rfl); (case hg => rfl); (case hr => first | (go_simp; done) | (go_simp; rfl)); intro gb368 hg w5 hbox hb; have BK368 := am (hbox); have GW368 := am ((by rw [hg]; exact (below_size (pkB HB.out)) : w.heap.size ≤ gb368)); have GE368 := am ((by rw [hg]; exact (below_size (pkB HB.out)) : w.heap.size ≤ gb368)); replace HB := am (below_step (pkB HB.out) hb); clear hb hbox hg) | ((with_reducible refine gate_dst (N := 3) rfl ?_); refine box_event ?hg (N := 3) ?hd (cs := #[.int .i64 a1_0, .int .i64 a1_1, .int .i64 a1_2, .string a1_3]) (t := 41) ?hr ?_; (case hd => rfl); (case hg => rfl); (case hr => first | (go_simp; done) | (go_simp; rfl)); intro gb369 hg w6 hbox hb; have BK369 := am (hbox); have GW369 := am ((by rw [hg]; exact (below_size (pkW HB.out)) : w.heap.size ≤ gb369)); have GE369 := am ((by rw [hg]; exact (below_size (pkW HB.out)) : w.heap.size ≤ gb369)); replace HB := am (below_step (pkW HB.out) hb); have NB368_369 := am ((by rw [hg]; exact Nat.ne_of_lt (blk_lt (g := gb368) (o := .cells #[.int .i64 a0_0, .int .i64 a0_1, .string a0_2] 24 (0, 0)) (pkK BK368.out)) : gb368 ≠ gb369)); have NB369_368 := am ((by rw [hg]; exact Nat.ne_of_gt (blk_lt (g := gb368) (o := .cells #[.int .i64 a0_0, .int .i64 a0_1, .string a0_2] 24 (0, 0)) (pkK BK368.out)) : gb369 ≠ gb368)); replace BK368 := am (blk_below (pkK BK368.out) hb); clear hb hbox hg; have hnb7 := NB368_369.out; have hnc7 := NB369_368.out; obtain ⟨hcz8_0, hcz8_1, hcz8_2, hfz8_0, hfz8_1, hfz8_2⟩ := bk3 BK368.out) | ((with_reducible refine gate_callee (f := 12) rfl ?_); refine goesL_ (some 12) rfl rfl Try.func12 (by kernel_rfl) rfl #[.agg #[.int .i64 a0_0, .int .i64 a0_1, .string a0_2], .int .i64 1048576] rfl mpx ?_; (with_reducible refine (laws_szMsg.calls a0_0 a0_1 a0_2 1048576 t370 _ A3.out).mono ?_); rintro e w9 ⟨rfl, hb⟩; refine ⟨_, rfl, ?_⟩; replace BK368 := am (blk_below (pkK BK368.out) hb); replace BK369 := am (blk_below (pkK BK369.out) hb); replace HB := am (below_step (pkW HB.out) hb); (try clear hb)))
  go_ret
  exact ⟨rfe, pkW HB.out⟩
 ·rw [if_neg c4] at H
  have c4b0 : decide (t370 < 0) = false := decide_eq_false c4
  clear c4
  replace H := Option.bind_eq_some_iff.mp H
  obtain ⟨t371, A100, H⟩ := H
  replace H : (if t371 < 0 then (some true) else ((laws_toMsg.f a0_0 a0_1 a0_2).bind fun bt372 => ((laws_toChange.f a1_0 a1_1 a1_2 a1_3).bind fun bt375 => ((spec_Changed.f k bt372.1 bt372.2.1 bt372.2.2 bt375.1 bt375.2.1 bt375.2.2.1 bt375.2.2.2).bind fun bt379 => ((laws_toMsg.f a0_0 a0_1 a0_2).bind fun bt384 => ((laws_toChange.f a1_0 a1_1 a1_2 a1_3).bind fun bt387 => ((impl_Changed.f k bt384.1 bt384.2.1 bt384.2.2 bt387.1 bt387.2.1 bt387.2.2.1 bt387.2.2.2).bind fun bt391 => ((laws_eqMsg.f bt391.1 bt391.2.1 bt391.2.2.1 bt379.1 bt379.2.1 bt379.2.2.1).bind fun t396 => (if t396 = true then (if (bt391.2.2.2 != bt379.2.2.2) = true then (some false) else (some true)) else (some false)))))))))) = some r := H
  have A10 := am A100
  clear A100
  by_cases c11 : t371 < 0
  ·rw [if_pos c11] at H
   have c11b0 : decide (t371 < 0) = true := decide_eq_true c11
   clear c11
   obtain rfl := Option.some.inj H
   go_enter Try.func9, Try.ntmps9
   go_wp2_with (first | ((with_reducible refine gate_dst (N := 2) rfl ?_); refine box_event ?hg (N := 2) ?hd (cs := #[.int .i64 a0_0, .int .i64 a0_1, .string a0_2]) (t := 24) ?hr ?_; (case hd => rfl); (case hg => rfl); (case hr => first | (go_simp; done) | (go_simp; rfl)); intro gb368 hg w12 hbox hb; have BK368 := am (hbox); have GW368 := am ((by rw [hg]; exact (below_size (pkB HB.out)) : w.heap.size ≤ gb368)); have GE368 := am ((by rw [hg]; exact (below_size (pkB HB.out)) : w.heap.size ≤ gb368)); replace HB := am (below_step (pkB HB.out) hb); clear hb hbox hg) | ((with_reducible refine gate_dst (N := 3) rfl ?_); refine box_event ?hg (N := 3) ?hd (cs := #[.int .i64 a1_0, .int .i64 a1_1, .int .i64 a1_2, .string a1_3]) (t := 41) ?hr ?_; (case hd => rfl); (case hg => rfl); (case hr => first | (go_simp; done) | (go_simp; rfl)); intro gb369 hg w13 hbox hb; have BK369 := am (hbox); have GW369 := am ((by rw [hg]; exact (below_size (pkW HB.out)) : w.heap.size ≤ gb369)); have GE369 := am ((by rw [hg]; exact (below_size (pkW HB.out)) : w.heap.size ≤ gb369)); replace HB := am (below_step (pkW HB.out) hb); have NB368_369 := am ((by rw [hg]; exact Nat.ne_of_lt (blk_lt (g := gb368) (o := .cells #[.int .i64 a0_0, .int .i64 a0_1, .string a0_2] 24 (0, 0)) (pkK BK368.out)) : gb368 ≠ gb369)); have NB369_368 := am ((by rw [hg]; exact Nat.ne_of_gt (blk_lt (g := gb368) (o := .cells #[.int .i64 a0_0, .int .i64 a0_1, .string a0_2] 24 (0, 0)) (pkK BK368.out)) : gb369 ≠ gb368)); replace BK368 := am (blk_below (pkK BK368.out) hb); clear hb hbox hg; have hnb14 := NB368_369.out; have hnc14 := NB369_368.out; obtain ⟨hcz15_0, hcz15_1, hcz15_2, hfz15_0, hfz15_1, hfz15_2⟩ := bk3 BK368.out) | ((with_reducible refine gate_callee (f := 12) rfl ?_); refine goesL_ (some 12) rfl rfl Try.func12 (by kernel_rfl) rfl #[.agg #[.int .i64 a0_0, .int .i64 a0_1, .string a0_2], .int .i64 1048576] rfl mpx ?_; (with_reducible refine (laws_szMsg.calls a0_0 a0_1 a0_2 1048576 t370 _ A3.out).mono ?_); rintro e w16 ⟨rfl, hb⟩; refine ⟨_, rfl, ?_⟩; replace BK368 := am (blk_below (pkK BK368.out) hb); replace BK369 := am (blk_below (pkK BK369.out) hb); replace HB := am (below_step (pkW HB.out) hb); (try clear hb); obtain ⟨hcz17_0, hcz17_1, hcz17_2, hcz17_3, hfz17_0, hfz17_1, hfz17_2, hfz17_3⟩ := bk4 BK369.out) | ((with_reducible refine gate_callee (f := 25) rfl ?_); refine goesL_ (some 17) rfl rfl Try.func25 (by kernel_rfl) rfl #[.agg #[.int .i64 a1_0, .int .i64 a1_1, .int .i64 a1_2, .string a1_3], .int .i64 t370] rfl mpx ?_; (with_reducible refine (laws_szChange.calls a1_0 a1_1 a1_2 a1_3 t370 t371 _ A10.out).mono ?_); rintro e w18 ⟨rfl, hb⟩; refine ⟨_, rfl, ?_⟩; replace BK368 := am (blk_below (pkK BK368.out) hb); replace BK369 := am (blk_below (pkK BK369.out) hb); replace HB := am (below_step (pkW HB.out) hb); (try clear hb)))
   go_ret
   exact ⟨rfe, pkW HB.out⟩
  ·rw [if_neg c11] at H
   have c11b0 : decide (t371 < 0) = false := decide_eq_false c11
   clear c11
   replace H := Option.bind_eq_some_iff.mp H
   obtain ⟨⟨t372, t373, t374⟩, A190, H⟩ := H
   replace H : ((laws_toChange.f a1_0 a1_1 a1_2 a1_3).bind fun bt375 => ((spec_Changed.f k t372 t373 t374 bt375.1 bt375.2.1 bt375.2.2.1 bt375.2.2.2).bind fun bt379 => ((laws_toMsg.f a0_0 a0_1 a0_2).bind fun bt384 => ((laws_toChange.f a1_0 a1_1 a1_2 a1_3).bind fun bt387 => ((impl_Changed.f k bt384.1 bt384.2.1 bt384.2.2 bt387.1 bt387.2.1 bt387.2.2.1 bt387.2.2.2).bind fun bt391 => ((laws_eqMsg.f bt391.1 bt391.2.1 bt391.2.2.1 bt379.1 bt379.2.1 bt379.2.2.1).bind fun t396 => (if t396 = true then (if (bt391.2.2.2 != bt379.2.2.2) = true then (some false) else (some true)) else (some false)))))))) = some r := H
   have A19 := am A190
   clear A190
   replace H := Option.bind_eq_some_iff.mp H
   obtain ⟨⟨t375, t376, t377, t378⟩, A200, H⟩ := H
   replace H : ((spec_Changed.f k t372 t373 t374 t375 t376 t377 t378).bind fun bt379 => ((laws_toMsg.f a0_0 a0_1 a0_2).bind fun bt384 => ((laws_toChange.f a1_0 a1_1 a1_2 a1_3).bind fun bt387 => ((impl_Changed.f k bt384.1 bt384.2.1 bt384.2.2 bt387.1 bt387.2.1 bt387.2.2.1 bt387.2.2.2).bind fun bt391 => ((laws_eqMsg.f bt391.1 bt391.2.1 bt391.2.2.1 bt379.1 bt379.2.1 bt379.2.2.1).bind fun t396 => (if t396 = true then (if (bt391.2.2.2 != bt379.2.2.2) = true then (some false) else (some true)) else (some false))))))) = some r := H
   have A20 := am A200
   clear A200
   replace H := Option.bind_eq_some_iff.mp H
   obtain ⟨⟨t379, t380, t381, t382⟩, A210, H⟩ := H
   replace H : ((laws_toMsg.f a0_0 a0_1 a0_2).bind fun bt384 => ((laws_toChange.f a1_0 a1_1 a1_2 a1_3).bind fun bt387 => ((impl_Changed.f k bt384.1 bt384.2.1 bt384.2.2 bt387.1 bt387.2.1 bt387.2.2.1 bt387.2.2.2).bind fun bt391 => ((laws_eqMsg.f bt391.1 bt391.2.1 bt391.2.2.1 t379 t380 t381).bind fun t396 => (if t396 = true then (if (bt391.2.2.2 != t382) = true then (some false) else (some true)) else (some false)))))) = some r := H
   have A21 := am A210
   clear A210
   replace H := Option.bind_eq_some_iff.mp H
   obtain ⟨⟨t384, t385, t386⟩, A220, H⟩ := H
   replace H : ((laws_toChange.f a1_0 a1_1 a1_2 a1_3).bind fun bt387 => ((impl_Changed.f k t384 t385 t386 bt387.1 bt387.2.1 bt387.2.2.1 bt387.2.2.2).bind fun bt391 => ((laws_eqMsg.f bt391.1 bt391.2.1 bt391.2.2.1 t379 t380 t381).bind fun t396 => (if t396 = true then (if (bt391.2.2.2 != t382) = true then (some false) else (some true)) else (some false))))) = some r := H
   have A22 := am A220
   clear A220
   replace H := Option.bind_eq_some_iff.mp H
   obtain ⟨⟨t387, t388, t389, t390⟩, A230, H⟩ := H
   replace H : ((impl_Changed.f k t384 t385 t386 t387 t388 t389 t390).bind fun bt391 => ((laws_eqMsg.f bt391.1 bt391.2.1 bt391.2.2.1 t379 t380 t381).bind fun t396 => (if t396 = true then (if (bt391.2.2.2 != t382) = true then (some false) else (some true)) else (some false)))) = some r := H
   have A23 := am A230
   clear A230
   replace H := Option.bind_eq_some_iff.mp H
   obtain ⟨⟨t391, t392, t393, t394⟩, A240, H⟩ := H
   replace H : ((laws_eqMsg.f t391 t392 t393 t379 t380 t381).bind fun t396 => (if t396 = true then (if (t394 != t382) = true then (some false) else (some true)) else (some false))) = some r := H
   have A24 := am A240
   clear A240
   replace H := Option.bind_eq_some_iff.mp H
   obtain ⟨t396, A250, H⟩ := H
   replace H : (if t396 = true then (if (t394 != t382) = true then (some false) else (some true)) else (some false)) = some r := H
   have A25 := am A250
   clear A250
   by_cases c26 : t396 = true
   ·subst c26
    replace H : (if (t394 != t382) = true then (some false) else (some true)) = some r := by rw [if_pos rfl] at H; exact H
    by_cases c27 : (t394 != t382) = true
    ·rw [if_pos c27] at H
     have c27b0 : (t394 != t382) = true := c27
     (try (have c27b1 : decide (t394 = t382) = false := by simpa using c27))
     (try (have c27b2 : (t394 == t382) = false := by first | exact bq_t c27 | exact bq_f c27 | simpa using c27))
     (try (have c27b3 : ¬ (t394 = t382) := by simpa using c27))
     clear c27
     exact absurd (Option.some.inj H) (by rw [HQ_.out]; simp)
    ·rw [if_neg c27] at H
     have c27b0 : (t394 != t382) = false := by simpa using c27
     (try (have c27b1 : decide (t394 = t382) = true := by simpa using c27))
     (try (have c27b2 : (t394 == t382) = true := by first | exact bq_t c27 | exact bq_f c27 | simpa using c27))
     clear c27
     obtain rfl := Option.some.inj H
     go_enter Try.func9, Try.ntmps9
     try go_wp2_with (first | ((with_reducible refine gate_dst (N := 2) rfl ?_); refine box_event ?hg (N := 2) ?hd (cs := #[.int .i64 a0_0, .int .i64 a0_1, .string a0_2]) (t := 24) ?hr ?_; (case hd => rfl); (case hg => rfl); (case hr => first | (go_simp; done) | (go_simp; rfl)); intro gb368 hg w28 hbox hb; have BK368 := am (hbox); have GW368 := am ((by rw [hg]; exact (below_size (pkB HB.out)) : w.heap.size ≤ gb368)); have GE368 := am ((by rw [hg]; exact (below_size (pkB HB.out)) : w.heap.size ≤ gb368)); replace HB := am (below_step (pkB HB.out) hb); clear hb hbox hg) | ((with_reducible refine gate_dst (N := 3) rfl ?_); refine box_event ?hg (N := 3) ?hd (cs := #[.int .i64 a1_0, .int .i64 a1_1, .int .i64 a1_2, .string a1_3]) (t := 41) ?hr ?_; (case hd => rfl); (case hg => rfl); (case hr => first | (go_simp; done) | (go_simp; rfl)); intro gb369 hg w29 hbox hb; have BK369 := am (hbox); have GW369 := am ((by rw [hg]; exact (below_size (pkW HB.out)) : w.heap.size ≤ gb369)); have GE369 := am ((by rw [hg]; exact (below_size (pkW HB.out)) : w.heap.size ≤ gb369)); replace HB := am (below_step (pkW HB.out) hb); have NB368_369 := am ((by rw [hg]; exact Nat.ne_of_lt (blk_lt (g := gb368) (o := .cells #[.int .i64 a0_0, .int .i64 a0_1, .string a0_2] 24 (0, 0)) (pkK BK368.out)) : gb368 ≠ gb369)); have NB369_368 := am ((by rw [hg]; exact Nat.ne_of_gt (blk_lt (g := gb368) (o := .cells #[.int .i64 a0_0, .int .i64 a0_1, .string a0_2] 24 (0, 0)) (pkK BK368.out)) : gb369 ≠ gb368)); replace BK368 := am (blk_below (pkK BK368.out) hb); clear hb hbox hg; have hnb30 := NB368_369.out; have hnc30 := NB369_368.out; obtain ⟨hcz31_0, hcz31_1, hcz31_2, hfz31_0, hfz31_1, hfz31_2⟩ := bk3 BK368.out) | ((with_reducible refine gate_callee (f := 12) rfl ?_); refine goesL_ (some 12) rfl rfl Try.func12 (by kernel_rfl) rfl #[.agg #[.int .i64 a0_0, .int .i64 a0_1, .string a0_2], .int .i64 1048576] rfl mpx ?_; (with_reducible refine (laws_szMsg.calls a0_0 a0_1 a0_2 1048576 t370 _ A3.out).mono ?_); rintro e w32 ⟨rfl, hb⟩; refine ⟨_, rfl, ?_⟩; replace BK368 := am (blk_below (pkK BK368.out) hb); replace BK369 := am (blk_below (pkK BK369.out) hb); replace HB := am (below_step (pkW HB.out) hb); (try clear hb); obtain ⟨hcz33_0, hcz33_1, hcz33_2, hcz33_3, hfz33_0, hfz33_1, hfz33_2, hfz33_3⟩ := bk4 BK369.out) | ((with_reducible refine gate_callee (f := 25) rfl ?_); refine goesL_ (some 17) rfl rfl Try.func25 (by kernel_rfl) rfl #[.agg #[.int .i64 a1_0, .int .i64 a1_1, .int .i64 a1_2, .string a1_3], .int .i64 t370] rfl mpx ?_; (with_reducible refine (laws_szChange.calls a1_0 a1_1 a1_2 a1_3 t370 t371 _ A10.out).mono ?_); rintro e w34 ⟨rfl, hb⟩; refine ⟨_, rfl, ?_⟩; replace BK368 := am (blk_below (pkK BK368.out) hb); replace BK369 := am (blk_below (pkK BK369.out) hb); replace HB := am (below_step (pkW HB.out) hb); (try clear hb)))
     replace BK368 := am (blk_drew BK368.out)
     replace BK369 := am (blk_drew BK369.out)
     replace HB := am (below_drew1 HB.out)
     refine start_ (n := 11) (S := fun w' => w'.cell? ⟨gb368, 0, none⟩ = some (.int .i64 a0_0) ∧ w'.cell? ⟨gb368, 1, none⟩ = some (.int .i64 a0_1) ∧ w'.cell? ⟨gb368, 2, none⟩ = some (.string a0_2) ∧ w'.cell? ⟨gb369, 0, none⟩ = some (.int .i64 a1_0) ∧ w'.cell? ⟨gb369, 1, none⟩ = some (.int .i64 a1_1) ∧ w'.cell? ⟨gb369, 2, none⟩ = some (.int .i64 a1_2) ∧ w'.cell? ⟨gb369, 3, none⟩ = some (.string a1_3)) (ds := []) #[false, false, false, false, false, false, false, false, false, false, false] (by kernel_rfl) rfl rfl ⟨(blk_cell BK368.out 0).trans rfl, (blk_cell BK368.out 1).trans rfl, (blk_cell BK368.out 2).trans rfl, (blk_cell BK369.out 0).trans rfl, (blk_cell BK369.out 1).trans rfl, (blk_cell BK369.out 2).trans rfl, (blk_cell BK369.out 3).trans rfl⟩ (fun hHeld => ?_); refine with_tabW laws_FnExactChanged.tab8 laws_FnExactChanged.bits8 (fun HT_ HW_ => ?_)
     generalize w34.drew = w35 at BK368 BK369 HB hHeld ⊢
     refine take_ (i := 0) (N := some 21) (v := ?_) (a' := ?_) #[true, false, false, false, false, false, false, false, false, false, false] rfl rfl (take_ofW HT_.out HW_.out (by kernel_rfl)) (fun _ _ _ h => h) (Or.inl ⟨by rfl, ?_⟩) hHeld ?_ ?_
     rotate_left
     ·rintro w' ⟨s0, s1, s2, s3, s4, s5, s6⟩
      go_simp
      with_reducible rfl
     rotate_left
     ·simp only [Act.put, List.setIfInBounds_toArray, List.set_cons_zero, List.set_cons_succ, i64_w, i32_w]
      rfl
     refine take_ (i := 2) (N := some 23) (v := ?_) (a' := ?_) #[true, false, true, false, false, false, false, false, false, false, false] rfl rfl (take_ofW HT_.out HW_.out (by kernel_rfl)) (fun _ _ _ h => h) (Or.inl ⟨by rfl, ?_⟩) hHeld ?_ ?_
     rotate_left
     ·rintro w' ⟨s0, s1, s2, s3, s4, s5, s6⟩
      go_simp
      with_reducible rfl
     rotate_left
     ·simp only [Act.put, List.setIfInBounds_toArray, List.set_cons_zero, List.set_cons_succ, i64_w, i32_w]
      rfl
     refine join_ (σ := Nat) 2 #[true, true, true, true, true, true, true, true, true, false, false] (fun s_ => [(22, .agg #[.int .i64 t372, .int .i64 t373, .string t374]), (24, .agg #[.int .i64 t375, .int .i64 t376, .int .i64 t377, .string t378]), (25, .tuple #[.agg #[.int .i64 t379, .int .i64 t380, .string t381], .bool t382]), (6, .pointer (some ⟨s_, 0, none⟩)), (20, .tuple #[.agg #[.int .i64 t379, .int .i64 t380, .string t381], .bool t382]), (26, .agg #[.int .i64 t379, .int .i64 t380, .string t381]), (27, .bool t382)]) (fun s_ w' => (w'.cell? ⟨gb368, 0, none⟩ = some (.int .i64 a0_0) ∧ w'.cell? ⟨gb368, 1, none⟩ = some (.int .i64 a0_1) ∧ w'.cell? ⟨gb368, 2, none⟩ = some (.string a0_2) ∧ w'.cell? ⟨gb369, 0, none⟩ = some (.int .i64 a1_0) ∧ w'.cell? ⟨gb369, 1, none⟩ = some (.int .i64 a1_1) ∧ w'.cell? ⟨gb369, 2, none⟩ = some (.int .i64 a1_2) ∧ w'.cell? ⟨gb369, 3, none⟩ = some (.string a1_3)) ∧ (w'.heap[gb368]? = some (.cells #[.int .i64 a0_0, .int .i64 a0_1, .string a0_2] 24 (0, 0))) ∧ (w'.heap[gb369]? = some (.cells #[.int .i64 a1_0, .int .i64 a1_1, .int .i64 a1_2, .string a1_3] 41 (0, 0))) ∧ (w'.heap[s_]? = some (.cells #[.int .i64 0, .int .i64 0, .string (⟨#[]⟩ : ByteArray)] 27 (0, 0))) ∧ (w.heap.size ≤ s_) ∧ (w.heap.size ≤ s_) ∧ (gb368 ≠ s_) ∧ (s_ ≠ gb368) ∧ (gb369 ≠ s_) ∧ (s_ ≠ gb369) ∧ (Below w.heap.size w w')) ?_ ?_
     rotate_left
     ·intro hCont
      refine two_ (i := 1) (j := 8) (Ni := some 22) (Nj := some 6) #[true, true, true, false, false, false, false, false, false, false, false] #[true, false, true, false, false, false, false, false, true, false, false] rfl rfl rfl rfl (two_of HT_.out (by kernel_rfl)) (by decide) (by decide) (fun K hK => ?_) (fun K hK => ?_)
      ·skip
       refine goes_ Try.func14 (by kernel_rfl) rfl #[.agg #[.int .i64 a0_0, .int .i64 a0_1, .string a0_2]] (by rfl) rfl rfl mpx ?_
       with_reducible refine (laws_toMsg.calls a0_0 a0_1 a0_2 t372 t373 t374 _ A19.out).mono ?_
       rintro e w36 ⟨rfl, hb⟩
       refine ⟨_, rfl, ?_⟩
       replace BK368 := am (blk_below (pkK BK368.out) hb)
       replace BK369 := am (blk_below (pkK BK369.out) hb)
       replace HB := am (below_step (pkW HB.out) hb)
       (try clear hb)
       refine hK.out _ _ ⟨(blk_cell BK368.out 0).trans rfl, (blk_cell BK368.out 1).trans rfl, (blk_cell BK368.out 2).trans rfl, (blk_cell BK369.out 0).trans rfl, (blk_cell BK369.out 1).trans rfl, (blk_cell BK369.out 2).trans rfl, (blk_cell BK369.out 3).trans rfl⟩ (fun hHeld => ?_)
       clear hK K
       refine norm_ (a' := ?_) ?_ ?_
       rotate_left
       ·show Act.put _ (some 22) _ = _
        simp only [Act.put, List.setIfInBounds_toArray, List.set_cons_zero, List.set_cons_succ, i64_w, i32_w]
        rfl
       refine two_ (i := 3) (j := 8) (Ni := some 24) (Nj := some 6) #[true, true, true, true, false, false, false, false, false, false, false] #[true, true, true, false, false, false, false, false, true, false, false] rfl rfl rfl rfl (two_of HT_.out (by kernel_rfl)) (by decide) (by decide) (fun K hK => ?_) (fun K hK => ?_)
       ·skip
        refine goes_ Try.func27 (by kernel_rfl) rfl #[.agg #[.int .i64 a1_0, .int .i64 a1_1, .int .i64 a1_2, .string a1_3]] (by rfl) rfl rfl mpx ?_
        with_reducible refine (laws_toChange.calls a1_0 a1_1 a1_2 a1_3 t375 t376 t377 t378 _ A20.out).mono ?_
        rintro e w37 ⟨rfl, hb⟩
        refine ⟨_, rfl, ?_⟩
        replace BK368 := am (blk_below (pkK BK368.out) hb)
        replace BK369 := am (blk_below (pkK BK369.out) hb)
        replace HB := am (below_step (pkW HB.out) hb)
        (try clear hb)
        refine hK.out _ _ ⟨(blk_cell BK368.out 0).trans rfl, (blk_cell BK368.out 1).trans rfl, (blk_cell BK368.out 2).trans rfl, (blk_cell BK369.out 0).trans rfl, (blk_cell BK369.out 1).trans rfl, (blk_cell BK369.out 2).trans rfl, (blk_cell BK369.out 3).trans rfl⟩ (fun hHeld => ?_)
        clear hK K
        refine norm_ (a' := ?_) ?_ ?_
        rotate_left
        ·show Act.put _ (some 24) _ = _
         simp only [Act.put, List.setIfInBounds_toArray, List.set_cons_zero, List.set_cons_succ, i64_w, i32_w]
         rfl
        refine two_ (i := 4) (j := 8) (Ni := some 25) (Nj := some 6) #[true, true, true, true, true, false, false, false, false, false, false] #[true, true, true, true, false, false, false, false, true, false, false] rfl rfl rfl rfl (two_of HT_.out (by kernel_rfl)) (by decide) (by decide) (fun K hK => ?_) (fun K hK => ?_)
        ·skip
         refine goes_ Try.func26 (by kernel_rfl) rfl #[.agg #[.int .i64 t372, .int .i64 t373, .string t374], .agg #[.int .i64 t375, .int .i64 t376, .int .i64 t377, .string t378]] (by rfl) rfl rfl mpx ?_
         with_reducible refine (spec_Changed.calls k t372 t373 t374 t375 t376 t377 t378 t379 t380 t381 t382 _ A21.out).mono ?_
         rintro e w38 ⟨rfl, hb⟩
         refine ⟨_, rfl, ?_⟩
         replace BK368 := am (blk_below (pkK BK368.out) hb)
         replace BK369 := am (blk_below (pkK BK369.out) hb)
         replace HB := am (below_step (pkW HB.out) hb)
         (try clear hb)
         refine hK.out _ _ ⟨(blk_cell BK368.out 0).trans rfl, (blk_cell BK368.out 1).trans rfl, (blk_cell BK368.out 2).trans rfl, (blk_cell BK369.out 0).trans rfl, (blk_cell BK369.out 1).trans rfl, (blk_cell BK369.out 2).trans rfl, (blk_cell BK369.out 3).trans rfl⟩ (fun hHeld => ?_)
         clear hK K
         refine norm_ (a' := ?_) ?_ ?_
         rotate_left
         ·show Act.put _ (some 25) _ = _
          simp only [Act.put, List.setIfInBounds_toArray, List.set_cons_zero, List.set_cons_succ, i64_w, i32_w]
          rfl
         refine pure_ (i := 5) (N := some 20) (v := ?_) (a' := ?_) #[true, true, true, true, true, true, false, false, false, false, false] rfl rfl (any_of HT_.out (by kernel_rfl)) (fun _ _ _ h => h) (Or.inl ⟨by rfl, ?_⟩) ?_ ?_
         rotate_left
         ·intro w'
          go_simp
          with_reducible rfl
         rotate_left
         ·simp only [Act.put, List.setIfInBounds_toArray, List.set_cons_zero, List.set_cons_succ, i64_w, i32_w]
          rfl
         refine pure_ (i := 6) (N := some 26) (v := ?_) (a' := ?_) #[true, true, true, true, true, true, true, false, false, false, false] rfl rfl (any_of HT_.out (by kernel_rfl)) (fun _ _ _ h => h) (Or.inl ⟨by rfl, ?_⟩) ?_ ?_
         rotate_left
         ·intro w'
          go_simp
          with_reducible rfl
         rotate_left
         ·simp only [Act.put, List.setIfInBounds_toArray, List.set_cons_zero, List.set_cons_succ, i64_w, i32_w]
          rfl
         refine pure_ (i := 7) (N := some 27) (v := ?_) (a' := ?_) #[true, true, true, true, true, true, true, true, false, false, false] rfl rfl (any_of HT_.out (by kernel_rfl)) (fun _ _ _ h => h) (Or.inl ⟨by rfl, ?_⟩) ?_ ?_
         rotate_left
         ·intro w'
          go_simp
          with_reducible rfl
         rotate_left
         ·simp only [Act.put, List.setIfInBounds_toArray, List.set_cons_zero, List.set_cons_succ, i64_w, i32_w]
          rfl
         refine one_ (i := 8) (N := some 6) #[true, true, true, true, true, true, true, true, true, false, false] rfl rfl (one_of HT_.out (by kernel_rfl)) (by decide) (fun K hK => ?_)
         refine box_step ?hg (N := 6) ?hd (cs := #[.int .i64 0, .int .i64 0, .string (⟨#[]⟩ : ByteArray)]) (t := 27) ?hr ?_; (case hd => rfl); (case hg => rfl); (case hr => first | (go_simp; done) | (go_simp; rfl))
         intro gb383 hg w39 hbox hb
         have BK383 := am (hbox)
         have GW383 := am ((by rw [hg]; exact (below_size (pkW HB.out)) : w.heap.size ≤ gb383))
         have GE383 := am ((by rw [hg]; exact (below_size (pkW HB.out)) : w.heap.size ≤ gb383))
         replace HB := am (below_step (pkW HB.out) hb)
         have NB368_383 := am ((by rw [hg]; exact Nat.ne_of_lt (blk_lt (g := gb368) (o := .cells #[.int .i64 a0_0, .int .i64 a0_1, .string a0_2] 24 (0, 0)) (pkK BK368.out)) : gb368 ≠ gb383))
         have NB383_368 := am ((by rw [hg]; exact Nat.ne_of_gt (blk_lt (g := gb368) (o := .cells #[.int .i64 a0_0, .int .i64 a0_1, .string a0_2] 24 (0, 0)) (pkK BK368.out)) : gb383 ≠ gb368))
         replace BK368 := am (blk_below (pkK BK368.out) hb)
         have NB369_383 := am ((by rw [hg]; exact Nat.ne_of_lt (blk_lt (g := gb369) (o := .cells #[.int .i64 a1_0, .int .i64 a1_1, .int .i64 a1_2, .string a1_3] 41 (0, 0)) (pkK BK369.out)) : gb369 ≠ gb383))
         have NB383_369 := am ((by rw [hg]; exact Nat.ne_of_gt (blk_lt (g := gb369) (o := .cells #[.int .i64 a1_0, .int .i64 a1_1, .int .i64 a1_2, .string a1_3] 41 (0, 0)) (pkK BK369.out)) : gb383 ≠ gb369))
         replace BK369 := am (blk_below (pkK BK369.out) hb)
         clear hb hbox hg
         refine hK.out _ _ ⟨(blk_cell BK368.out 0).trans rfl, (blk_cell BK368.out 1).trans rfl, (blk_cell BK368.out 2).trans rfl, (blk_cell BK369.out 0).trans rfl, (blk_cell BK369.out 1).trans rfl, (blk_cell BK369.out 2).trans rfl, (blk_cell BK369.out 3).trans rfl⟩ (fun hHeld => ?_)
         clear hK K
         refine norm_ (a' := ?_) ?_ ?_
         rotate_left
         ·show Act.put _ (some 6) _ = _
          simp only [Act.put, List.setIfInBounds_toArray, List.set_cons_zero, List.set_cons_succ, i64_w, i32_w]
          rfl
         exact norm_ (by simp only [putAll, Act.put, List.setIfInBounds_toArray, List.set_cons_zero, List.set_cons_succ]) (hCont (gb383) _ ⟨hHeld, (pkK BK368.out), (pkK BK369.out), (pkK BK383.out), GW383.out, GE383.out, NB368_383.out, NB383_368.out, NB369_383.out, NB383_369.out, (pkW HB.out)⟩)
        ·skip
         refine box_step ?hg (N := 6) ?hd (cs := #[.int .i64 0, .int .i64 0, .string (⟨#[]⟩ : ByteArray)]) (t := 27) ?hr ?_; (case hd => rfl); (case hg => rfl); (case hr => first | (go_simp; done) | (go_simp; rfl))
         intro gb383 hg w38 hbox hb
         have BK383 := am (hbox)
         have GW383 := am ((by rw [hg]; exact (below_size (pkW HB.out)) : w.heap.size ≤ gb383))
         have GE383 := am ((by rw [hg]; exact (below_size (pkW HB.out)) : w.heap.size ≤ gb383))
         replace HB := am (below_step (pkW HB.out) hb)
         have NB368_383 := am ((by rw [hg]; exact Nat.ne_of_lt (blk_lt (g := gb368) (o := .cells #[.int .i64 a0_0, .int .i64 a0_1, .string a0_2] 24 (0, 0)) (pkK BK368.out)) : gb368 ≠ gb383))
         have NB383_368 := am ((by rw [hg]; exact Nat.ne_of_gt (blk_lt (g := gb368) (o := .cells #[.int .i64 a0_0, .int .i64 a0_1, .string a0_2] 24 (0, 0)) (pkK BK368.out)) : gb383 ≠ gb368))
         replace BK368 := am (blk_below (pkK BK368.out) hb)
         have NB369_383 := am ((by rw [hg]; exact Nat.ne_of_lt (blk_lt (g := gb369) (o := .cells #[.int .i64 a1_0, .int .i64 a1_1, .int .i64 a1_2, .string a1_3] 41 (0, 0)) (pkK BK369.out)) : gb369 ≠ gb383))
         have NB383_369 := am ((by rw [hg]; exact Nat.ne_of_gt (blk_lt (g := gb369) (o := .cells #[.int .i64 a1_0, .int .i64 a1_1, .int .i64 a1_2, .string a1_3] 41 (0, 0)) (pkK BK369.out)) : gb383 ≠ gb369))
         replace BK369 := am (blk_below (pkK BK369.out) hb)
         clear hb hbox hg
         refine hK.out _ _ ⟨(blk_cell BK368.out 0).trans rfl, (blk_cell BK368.out 1).trans rfl, (blk_cell BK368.out 2).trans rfl, (blk_cell BK369.out 0).trans rfl, (blk_cell BK369.out 1).trans rfl, (blk_cell BK369.out 2).trans rfl, (blk_cell BK369.out 3).trans rfl⟩ (fun hHeld => ?_)
         clear hK K
         refine norm_ (a' := ?_) ?_ ?_
         rotate_left
         ·show Act.put _ (some 6) _ = _
          simp only [Act.put, List.setIfInBounds_toArray, List.set_cons_zero, List.set_cons_succ, i64_w, i32_w]
          rfl
         refine one_ (i := 4) (N := some 25) #[true, true, true, true, true, false, false, false, true, false, false] rfl rfl (one_of HT_.out (by kernel_rfl)) (by decide) (fun K hK => ?_)
         refine goes_ Try.func26 (by kernel_rfl) rfl #[.agg #[.int .i64 t372, .int .i64 t373, .string t374], .agg #[.int .i64 t375, .int .i64 t376, .int .i64 t377, .string t378]] (by rfl) rfl rfl mpx ?_
         with_reducible refine (spec_Changed.calls k t372 t373 t374 t375 t376 t377 t378 t379 t380 t381 t382 _ A21.out).mono ?_
         rintro e w39 ⟨rfl, hb⟩
         refine ⟨_, rfl, ?_⟩
         replace BK368 := am (blk_below (pkK BK368.out) hb)
         replace BK369 := am (blk_below (pkK BK369.out) hb)
         replace BK383 := am (blk_below (pkK BK383.out) hb)
         replace HB := am (below_step (pkW HB.out) hb)
         (try clear hb)
         refine hK.out _ _ ⟨(blk_cell BK368.out 0).trans rfl, (blk_cell BK368.out 1).trans rfl, (blk_cell BK368.out 2).trans rfl, (blk_cell BK369.out 0).trans rfl, (blk_cell BK369.out 1).trans rfl, (blk_cell BK369.out 2).trans rfl, (blk_cell BK369.out 3).trans rfl⟩ (fun hHeld => ?_)
         clear hK K
         refine norm_ (a' := ?_) ?_ ?_
         rotate_left
         ·show Act.put _ (some 25) _ = _
          simp only [Act.put, List.setIfInBounds_toArray, List.set_cons_zero, List.set_cons_succ, i64_w, i32_w]
          rfl
         refine pure_ (i := 5) (N := some 20) (v := ?_) (a' := ?_) #[true, true, true, true, true, true, false, false, true, false, false] rfl rfl (any_of HT_.out (by kernel_rfl)) (fun _ _ _ h => h) (Or.inl ⟨by rfl, ?_⟩) ?_ ?_
         rotate_left
         ·intro w'
          go_simp
          with_reducible rfl
         rotate_left
         ·simp only [Act.put, List.setIfInBounds_toArray, List.set_cons_zero, List.set_cons_succ, i64_w, i32_w]
          rfl
         refine pure_ (i := 6) (N := some 26) (v := ?_) (a' := ?_) #[true, true, true, true, true, true, true, false, true, false, false] rfl rfl (any_of HT_.out (by kernel_rfl)) (fun _ _ _ h => h) (Or.inl ⟨by rfl, ?_⟩) ?_ ?_
         rotate_left
         ·intro w'
          go_simp
          with_reducible rfl
         rotate_left
         ·simp only [Act.put, List.setIfInBounds_toArray, List.set_cons_zero, List.set_cons_succ, i64_w, i32_w]
          rfl
         refine pure_ (i := 7) (N := some 27) (v := ?_) (a' := ?_) #[true, true, true, true, true, true, true, true, true, false, false] rfl rfl (any_of HT_.out (by kernel_rfl)) (fun _ _ _ h => h) (Or.inl ⟨by rfl, ?_⟩) ?_ ?_
         rotate_left
         ·intro w'
          go_simp
          with_reducible rfl
         rotate_left
         ·simp only [Act.put, List.setIfInBounds_toArray, List.set_cons_zero, List.set_cons_succ, i64_w, i32_w]
          rfl
         exact norm_ (by simp only [putAll, Act.put, List.setIfInBounds_toArray, List.set_cons_zero, List.set_cons_succ]) (hCont (gb383) _ ⟨hHeld, (pkK BK368.out), (pkK BK369.out), (pkK BK383.out), GW383.out, GE383.out, NB368_383.out, NB383_368.out, NB369_383.out, NB383_369.out, (pkW HB.out)⟩)
       ·skip
        refine box_step ?hg (N := 6) ?hd (cs := #[.int .i64 0, .int .i64 0, .string (⟨#[]⟩ : ByteArray)]) (t := 27) ?hr ?_; (case hd => rfl); (case hg => rfl); (case hr => first | (go_simp; done) | (go_simp; rfl))
        intro gb383 hg w37 hbox hb
        have BK383 := am (hbox)
        have GW383 := am ((by rw [hg]; exact (below_size (pkW HB.out)) : w.heap.size ≤ gb383))
        have GE383 := am ((by rw [hg]; exact (below_size (pkW HB.out)) : w.heap.size ≤ gb383))
        replace HB := am (below_step (pkW HB.out) hb)
        have NB368_383 := am ((by rw [hg]; exact Nat.ne_of_lt (blk_lt (g := gb368) (o := .cells #[.int .i64 a0_0, .int .i64 a0_1, .string a0_2] 24 (0, 0)) (pkK BK368.out)) : gb368 ≠ gb383))
        have NB383_368 := am ((by rw [hg]; exact Nat.ne_of_gt (blk_lt (g := gb368) (o := .cells #[.int .i64 a0_0, .int .i64 a0_1, .string a0_2] 24 (0, 0)) (pkK BK368.out)) : gb383 ≠ gb368))
        replace BK368 := am (blk_below (pkK BK368.out) hb)
        have NB369_383 := am ((by rw [hg]; exact Nat.ne_of_lt (blk_lt (g := gb369) (o := .cells #[.int .i64 a1_0, .int .i64 a1_1, .int .i64 a1_2, .string a1_3] 41 (0, 0)) (pkK BK369.out)) : gb369 ≠ gb383))
        have NB383_369 := am ((by rw [hg]; exact Nat.ne_of_gt (blk_lt (g := gb369) (o := .cells #[.int .i64 a1_0, .int .i64 a1_1, .int .i64 a1_2, .string a1_3] 41 (0, 0)) (pkK BK369.out)) : gb383 ≠ gb369))
        replace BK369 := am (blk_below (pkK BK369.out) hb)
        clear hb hbox hg
        refine hK.out _ _ ⟨(blk_cell BK368.out 0).trans rfl, (blk_cell BK368.out 1).trans rfl, (blk_cell BK368.out 2).trans rfl, (blk_cell BK369.out 0).trans rfl, (blk_cell BK369.out 1).trans rfl, (blk_cell BK369.out 2).trans rfl, (blk_cell BK369.out 3).trans rfl⟩ (fun hHeld => ?_)
        clear hK K
        refine norm_ (a' := ?_) ?_ ?_
        rotate_left
        ·show Act.put _ (some 6) _ = _
         simp only [Act.put, List.setIfInBounds_toArray, List.set_cons_zero, List.set_cons_succ, i64_w, i32_w]
         rfl
        refine one_ (i := 3) (N := some 24) #[true, true, true, true, false, false, false, false, true, false, false] rfl rfl (one_of HT_.out (by kernel_rfl)) (by decide) (fun K hK => ?_)
        refine goes_ Try.func27 (by kernel_rfl) rfl #[.agg #[.int .i64 a1_0, .int .i64 a1_1, .int .i64 a1_2, .string a1_3]] (by rfl) rfl rfl mpx ?_
        with_reducible refine (laws_toChange.calls a1_0 a1_1 a1_2 a1_3 t375 t376 t377 t378 _ A20.out).mono ?_
        rintro e w38 ⟨rfl, hb⟩
        refine ⟨_, rfl, ?_⟩
        replace BK368 := am (blk_below (pkK BK368.out) hb)
        replace BK369 := am (blk_below (pkK BK369.out) hb)
        replace BK383 := am (blk_below (pkK BK383.out) hb)
        replace HB := am (below_step (pkW HB.out) hb)
        (try clear hb)
        refine hK.out _ _ ⟨(blk_cell BK368.out 0).trans rfl, (blk_cell BK368.out 1).trans rfl, (blk_cell BK368.out 2).trans rfl, (blk_cell BK369.out 0).trans rfl, (blk_cell BK369.out 1).trans rfl, (blk_cell BK369.out 2).trans rfl, (blk_cell BK369.out 3).trans rfl⟩ (fun hHeld => ?_)
        clear hK K
        refine norm_ (a' := ?_) ?_ ?_
        rotate_left
        ·show Act.put _ (some 24) _ = _
         simp only [Act.put, List.setIfInBounds_toArray, List.set_cons_zero, List.set_cons_succ, i64_w, i32_w]
         rfl
        refine one_ (i := 4) (N := some 25) #[true, true, true, true, true, false, false, false, true, false, false] rfl rfl (one_of HT_.out (by kernel_rfl)) (by decide) (fun K hK => ?_)
        refine goes_ Try.func26 (by kernel_rfl) rfl #[.agg #[.int .i64 t372, .int .i64 t373, .string t374], .agg #[.int .i64 t375, .int .i64 t376, .int .i64 t377, .string t378]] (by rfl) rfl rfl mpx ?_
        with_reducible refine (spec_Changed.calls k t372 t373 t374 t375 t376 t377 t378 t379 t380 t381 t382 _ A21.out).mono ?_
        rintro e w39 ⟨rfl, hb⟩
        refine ⟨_, rfl, ?_⟩
        replace BK368 := am (blk_below (pkK BK368.out) hb)
        replace BK369 := am (blk_below (pkK BK369.out) hb)
        replace BK383 := am (blk_below (pkK BK383.out) hb)
        replace HB := am (below_step (pkW HB.out) hb)
        (try clear hb)
        refine hK.out _ _ ⟨(blk_cell BK368.out 0).trans rfl, (blk_cell BK368.out 1).trans rfl, (blk_cell BK368.out 2).trans rfl, (blk_cell BK369.out 0).trans rfl, (blk_cell BK369.out 1).trans rfl, (blk_cell BK369.out 2).trans rfl, (blk_cell BK369.out 3).trans rfl⟩ (fun hHeld => ?_)
        clear hK K
        refine norm_ (a' := ?_) ?_ ?_
        rotate_left
        ·show Act.put _ (some 25) _ = _
         simp only [Act.put, List.setIfInBounds_toArray, List.set_cons_zero, List.set_cons_succ, i64_w, i32_w]
         rfl
        refine pure_ (i := 5) (N := some 20) (v := ?_) (a' := ?_) #[true, true, true, true, true, true, false, false, true, false, false] rfl rfl (any_of HT_.out (by kernel_rfl)) (fun _ _ _ h => h) (Or.inl ⟨by rfl, ?_⟩) ?_ ?_
        rotate_left
        ·intro w'
         go_simp
         with_reducible rfl
        rotate_left
        ·simp only [Act.put, List.setIfInBounds_toArray, List.set_cons_zero, List.set_cons_succ, i64_w, i32_w]
         rfl
        refine pure_ (i := 6) (N := some 26) (v := ?_) (a' := ?_) #[true, true, true, true, true, true, true, false, true, false, false] rfl rfl (any_of HT_.out (by kernel_rfl)) (fun _ _ _ h => h) (Or.inl ⟨by rfl, ?_⟩) ?_ ?_
        rotate_left
        ·intro w'
         go_simp
         with_reducible rfl
        rotate_left
        ·simp only [Act.put, List.setIfInBounds_toArray, List.set_cons_zero, List.set_cons_succ, i64_w, i32_w]
         rfl
        refine pure_ (i := 7) (N := some 27) (v := ?_) (a' := ?_) #[true, true, true, true, true, true, true, true, true, false, false] rfl rfl (any_of HT_.out (by kernel_rfl)) (fun _ _ _ h => h) (Or.inl ⟨by rfl, ?_⟩) ?_ ?_
        rotate_left
        ·intro w'
         go_simp
         with_reducible rfl
        rotate_left
        ·simp only [Act.put, List.setIfInBounds_toArray, List.set_cons_zero, List.set_cons_succ, i64_w, i32_w]
         rfl
        exact norm_ (by simp only [putAll, Act.put, List.setIfInBounds_toArray, List.set_cons_zero, List.set_cons_succ]) (hCont (gb383) _ ⟨hHeld, (pkK BK368.out), (pkK BK369.out), (pkK BK383.out), GW383.out, GE383.out, NB368_383.out, NB383_368.out, NB369_383.out, NB383_369.out, (pkW HB.out)⟩)
      ·skip
       refine box_step ?hg (N := 6) ?hd (cs := #[.int .i64 0, .int .i64 0, .string (⟨#[]⟩ : ByteArray)]) (t := 27) ?hr ?_; (case hd => rfl); (case hg => rfl); (case hr => first | (go_simp; done) | (go_simp; rfl))
       intro gb383 hg w36 hbox hb
       have BK383 := am (hbox)
       have GW383 := am ((by rw [hg]; exact (below_size (pkW HB.out)) : w.heap.size ≤ gb383))
       have GE383 := am ((by rw [hg]; exact (below_size (pkW HB.out)) : w.heap.size ≤ gb383))
       replace HB := am (below_step (pkW HB.out) hb)
       have NB368_383 := am ((by rw [hg]; exact Nat.ne_of_lt (blk_lt (g := gb368) (o := .cells #[.int .i64 a0_0, .int .i64 a0_1, .string a0_2] 24 (0, 0)) (pkK BK368.out)) : gb368 ≠ gb383))
       have NB383_368 := am ((by rw [hg]; exact Nat.ne_of_gt (blk_lt (g := gb368) (o := .cells #[.int .i64 a0_0, .int .i64 a0_1, .string a0_2] 24 (0, 0)) (pkK BK368.out)) : gb383 ≠ gb368))
       replace BK368 := am (blk_below (pkK BK368.out) hb)
       have NB369_383 := am ((by rw [hg]; exact Nat.ne_of_lt (blk_lt (g := gb369) (o := .cells #[.int .i64 a1_0, .int .i64 a1_1, .int .i64 a1_2, .string a1_3] 41 (0, 0)) (pkK BK369.out)) : gb369 ≠ gb383))
       have NB383_369 := am ((by rw [hg]; exact Nat.ne_of_gt (blk_lt (g := gb369) (o := .cells #[.int .i64 a1_0, .int .i64 a1_1, .int .i64 a1_2, .string a1_3] 41 (0, 0)) (pkK BK369.out)) : gb383 ≠ gb369))
       replace BK369 := am (blk_below (pkK BK369.out) hb)
       clear hb hbox hg
       refine hK.out _ _ ⟨(blk_cell BK368.out 0).trans rfl, (blk_cell BK368.out 1).trans rfl, (blk_cell BK368.out 2).trans rfl, (blk_cell BK369.out 0).trans rfl, (blk_cell BK369.out 1).trans rfl, (blk_cell BK369.out 2).trans rfl, (blk_cell BK369.out 3).trans rfl⟩ (fun hHeld => ?_)
       clear hK K
       refine norm_ (a' := ?_) ?_ ?_
       rotate_left
       ·show Act.put _ (some 6) _ = _
        simp only [Act.put, List.setIfInBounds_toArray, List.set_cons_zero, List.set_cons_succ, i64_w, i32_w]
        rfl
       refine one_ (i := 1) (N := some 22) #[true, true, true, false, false, false, false, false, true, false, false] rfl rfl (one_of HT_.out (by kernel_rfl)) (by decide) (fun K hK => ?_)
       refine goes_ Try.func14 (by kernel_rfl) rfl #[.agg #[.int .i64 a0_0, .int .i64 a0_1, .string a0_2]] (by rfl) rfl rfl mpx ?_
       with_reducible refine (laws_toMsg.calls a0_0 a0_1 a0_2 t372 t373 t374 _ A19.out).mono ?_
       rintro e w37 ⟨rfl, hb⟩
       refine ⟨_, rfl, ?_⟩
       replace BK368 := am (blk_below (pkK BK368.out) hb)
       replace BK369 := am (blk_below (pkK BK369.out) hb)
       replace BK383 := am (blk_below (pkK BK383.out) hb)
       replace HB := am (below_step (pkW HB.out) hb)
       (try clear hb)
       refine hK.out _ _ ⟨(blk_cell BK368.out 0).trans rfl, (blk_cell BK368.out 1).trans rfl, (blk_cell BK368.out 2).trans rfl, (blk_cell BK369.out 0).trans rfl, (blk_cell BK369.out 1).trans rfl, (blk_cell BK369.out 2).trans rfl, (blk_cell BK369.out 3).trans rfl⟩ (fun hHeld => ?_)
       clear hK K
       refine norm_ (a' := ?_) ?_ ?_
       rotate_left
       ·show Act.put _ (some 22) _ = _
        simp only [Act.put, List.setIfInBounds_toArray, List.set_cons_zero, List.set_cons_succ, i64_w, i32_w]
        rfl
       refine one_ (i := 3) (N := some 24) #[true, true, true, true, false, false, false, false, true, false, false] rfl rfl (one_of HT_.out (by kernel_rfl)) (by decide) (fun K hK => ?_)
       refine goes_ Try.func27 (by kernel_rfl) rfl #[.agg #[.int .i64 a1_0, .int .i64 a1_1, .int .i64 a1_2, .string a1_3]] (by rfl) rfl rfl mpx ?_
       with_reducible refine (laws_toChange.calls a1_0 a1_1 a1_2 a1_3 t375 t376 t377 t378 _ A20.out).mono ?_
       rintro e w38 ⟨rfl, hb⟩
       refine ⟨_, rfl, ?_⟩
       replace BK368 := am (blk_below (pkK BK368.out) hb)
       replace BK369 := am (blk_below (pkK BK369.out) hb)
       replace BK383 := am (blk_below (pkK BK383.out) hb)
       replace HB := am (below_step (pkW HB.out) hb)
       (try clear hb)
       refine hK.out _ _ ⟨(blk_cell BK368.out 0).trans rfl, (blk_cell BK368.out 1).trans rfl, (blk_cell BK368.out 2).trans rfl, (blk_cell BK369.out 0).trans rfl, (blk_cell BK369.out 1).trans rfl, (blk_cell BK369.out 2).trans rfl, (blk_cell BK369.out 3).trans rfl⟩ (fun hHeld => ?_)
       clear hK K
       refine norm_ (a' := ?_) ?_ ?_
       rotate_left
       ·show Act.put _ (some 24) _ = _
        simp only [Act.put, List.setIfInBounds_toArray, List.set_cons_zero, List.set_cons_succ, i64_w, i32_w]
        rfl
       refine one_ (i := 4) (N := some 25) #[true, true, true, true, true, false, false, false, true, false, false] rfl rfl (one_of HT_.out (by kernel_rfl)) (by decide) (fun K hK => ?_)
       refine goes_ Try.func26 (by kernel_rfl) rfl #[.agg #[.int .i64 t372, .int .i64 t373, .string t374], .agg #[.int .i64 t375, .int .i64 t376, .int .i64 t377, .string t378]] (by rfl) rfl rfl mpx ?_
       with_reducible refine (spec_Changed.calls k t372 t373 t374 t375 t376 t377 t378 t379 t380 t381 t382 _ A21.out).mono ?_
       rintro e w39 ⟨rfl, hb⟩
       refine ⟨_, rfl, ?_⟩
       replace BK368 := am (blk_below (pkK BK368.out) hb)
       replace BK369 := am (blk_below (pkK BK369.out) hb)
       replace BK383 := am (blk_below (pkK BK383.out) hb)
       replace HB := am (below_step (pkW HB.out) hb)
       (try clear hb)
       refine hK.out _ _ ⟨(blk_cell BK368.out 0).trans rfl, (blk_cell BK368.out 1).trans rfl, (blk_cell BK368.out 2).trans rfl, (blk_cell BK369.out 0).trans rfl, (blk_cell BK369.out 1).trans rfl, (blk_cell BK369.out 2).trans rfl, (blk_cell BK369.out 3).trans rfl⟩ (fun hHeld => ?_)
       clear hK K
       refine norm_ (a' := ?_) ?_ ?_
       rotate_left
       ·show Act.put _ (some 25) _ = _
        simp only [Act.put, List.setIfInBounds_toArray, List.set_cons_zero, List.set_cons_succ, i64_w, i32_w]
        rfl
       refine pure_ (i := 5) (N := some 20) (v := ?_) (a' := ?_) #[true, true, true, true, true, true, false, false, true, false, false] rfl rfl (any_of HT_.out (by kernel_rfl)) (fun _ _ _ h => h) (Or.inl ⟨by rfl, ?_⟩) ?_ ?_
       rotate_left
       ·intro w'
        go_simp
        with_reducible rfl
       rotate_left
       ·simp only [Act.put, List.setIfInBounds_toArray, List.set_cons_zero, List.set_cons_succ, i64_w, i32_w]
        rfl
       refine pure_ (i := 6) (N := some 26) (v := ?_) (a' := ?_) #[true, true, true, true, true, true, true, false, true, false, false] rfl rfl (any_of HT_.out (by kernel_rfl)) (fun _ _ _ h => h) (Or.inl ⟨by rfl, ?_⟩) ?_ ?_
       rotate_left
       ·intro w'
        go_simp
        with_reducible rfl
       rotate_left
       ·simp only [Act.put, List.setIfInBounds_toArray, List.set_cons_zero, List.set_cons_succ, i64_w, i32_w]
        rfl
       refine pure_ (i := 7) (N := some 27) (v := ?_) (a' := ?_) #[true, true, true, true, true, true, true, true, true, false, false] rfl rfl (any_of HT_.out (by kernel_rfl)) (fun _ _ _ h => h) (Or.inl ⟨by rfl, ?_⟩) ?_ ?_
       rotate_left
       ·intro w'
        go_simp
        with_reducible rfl
       rotate_left
       ·simp only [Act.put, List.setIfInBounds_toArray, List.set_cons_zero, List.set_cons_succ, i64_w, i32_w]
        rfl
       exact norm_ (by simp only [putAll, Act.put, List.setIfInBounds_toArray, List.set_cons_zero, List.set_cons_succ]) (hCont (gb383) _ ⟨hHeld, (pkK BK368.out), (pkK BK369.out), (pkK BK383.out), GW383.out, GE383.out, NB368_383.out, NB383_368.out, NB369_383.out, NB383_369.out, (pkW HB.out)⟩)
     rintro gb383 w40 ⟨hS_, h0_, h1_, h2_, h3_, h4_, h5_, h6_, h7_, h8_, h9_⟩
     replace BK368 : Aside0 (w40.heap[gb368]? = some (.cells #[.int .i64 a0_0, .int .i64 a0_1, .string a0_2] 24 (0, 0))) := ⟨h0_⟩
     replace BK369 : Aside0 (w40.heap[gb369]? = some (.cells #[.int .i64 a1_0, .int .i64 a1_1, .int .i64 a1_2, .string a1_3] 41 (0, 0))) := ⟨h1_⟩
     have BK383 : Aside0 (w40.heap[gb383]? = some (.cells #[.int .i64 0, .int .i64 0, .string (⟨#[]⟩ : ByteArray)] 27 (0, 0))) := ⟨h2_⟩
     have GW383 : Aside0 (w.heap.size ≤ gb383) := ⟨h3_⟩
     have GE383 : Aside0 (w.heap.size ≤ gb383) := ⟨h4_⟩
     have NB368_383 : Aside0 (gb368 ≠ gb383) := ⟨h5_⟩
     have NB383_368 : Aside0 (gb383 ≠ gb368) := ⟨h6_⟩
     have NB369_383 : Aside0 (gb369 ≠ gb383) := ⟨h7_⟩
     have NB383_369 : Aside0 (gb383 ≠ gb369) := ⟨h8_⟩
     replace HB : Aside0 (Below w.heap.size w w40) := ⟨h9_⟩
     clear h0_ h1_ h2_ h3_ h4_ h5_ h6_ h7_ h8_ h9_
     have hHeld : w40.cell? ⟨gb368, 0, none⟩ = some (.int .i64 a0_0) ∧ w40.cell? ⟨gb368, 1, none⟩ = some (.int .i64 a0_1) ∧ w40.cell? ⟨gb368, 2, none⟩ = some (.string a0_2) ∧ w40.cell? ⟨gb369, 0, none⟩ = some (.int .i64 a1_0) ∧ w40.cell? ⟨gb369, 1, none⟩ = some (.int .i64 a1_1) ∧ w40.cell? ⟨gb369, 2, none⟩ = some (.int .i64 a1_2) ∧ w40.cell? ⟨gb369, 3, none⟩ = some (.string a1_3) := hS_
     refine norm_ (a' := ?_) ?_ ?_
     rotate_left
     ·simp only [putAll, Act.put, List.setIfInBounds_toArray, List.set_cons_zero, List.set_cons_succ]
      rfl
     refine one_ (i := 9) (N := none) #[true, true, true, true, true, true, true, true, true, true, false] rfl rfl (one_of HT_.out (by kernel_rfl)) (by decide) (fun K hK => ?_)
     have hs41 : w40.cell? ⟨gb383, 0, none⟩ = some (.int .i64 0) := (blk_cell BK383.out 0).trans rfl
     have hfs41 := blk_frozen BK383.out 0
     have hns41_0 := NB368_383.out
     have hns41_1 := NB369_383.out
     have hms41_0 := NB383_368.out
     have hms41_1 := NB383_369.out
     have hs42 : w40.cell? ⟨gb383, 1, none⟩ = some (.int .i64 0) := (blk_cell BK383.out 1).trans rfl
     have hfs42 := blk_frozen BK383.out 1
     have hns42_0 := NB368_383.out
     have hns42_1 := NB369_383.out
     have hms42_0 := NB383_368.out
     have hms42_1 := NB383_369.out
     have hs43 : w40.cell? ⟨gb383, 2, none⟩ = some (.string (⟨#[]⟩ : ByteArray)) := (blk_cell BK383.out 2).trans rfl
     have hfs43 := blk_frozen BK383.out 2
     have hns43_0 := NB368_383.out
     have hns43_1 := NB369_383.out
     have hms43_0 := NB383_368.out
     have hms43_1 := NB383_369.out
     refine skip_ (w1 := ?_) (by rfl) rfl ?_ ?_
     rotate_left
     ·go_simp
      rfl
     refine hK.out _ _ ⟨((cell_far (p := ⟨gb383, _, none⟩) NB368_383.out _).trans (((cell_far (p := ⟨gb383, _, none⟩) NB368_383.out _).trans (((cell_far (p := ⟨gb383, _, none⟩) NB368_383.out _).trans (hHeld.1)))))), ((cell_far (p := ⟨gb383, _, none⟩) NB368_383.out _).trans (((cell_far (p := ⟨gb383, _, none⟩) NB368_383.out _).trans (((cell_far (p := ⟨gb383, _, none⟩) NB368_383.out _).trans (hHeld.2.1)))))), ((cell_far (p := ⟨gb383, _, none⟩) NB368_383.out _).trans (((cell_far (p := ⟨gb383, _, none⟩) NB368_383.out _).trans (((cell_far (p := ⟨gb383, _, none⟩) NB368_383.out _).trans (hHeld.2.2.1)))))), ((cell_far (p := ⟨gb383, _, none⟩) NB369_383.out _).trans (((cell_far (p := ⟨gb383, _, none⟩) NB369_383.out _).trans (((cell_far (p := ⟨gb383, _, none⟩) NB369_383.out _).trans (hHeld.2.2.2.1)))))), ((cell_far (p := ⟨gb383, _, none⟩) NB369_383.out _).trans (((cell_far (p := ⟨gb383, _, none⟩) NB369_383.out _).trans (((cell_far (p := ⟨gb383, _, none⟩) NB369_383.out _).trans (hHeld.2.2.2.2.1)))))), ((cell_far (p := ⟨gb383, _, none⟩) NB369_383.out _).trans (((cell_far (p := ⟨gb383, _, none⟩) NB369_383.out _).trans (((cell_far (p := ⟨gb383, _, none⟩) NB369_383.out _).trans (hHeld.2.2.2.2.2.1)))))), ((cell_far (p := ⟨gb383, _, none⟩) NB369_383.out _).trans (((cell_far (p := ⟨gb383, _, none⟩) NB369_383.out _).trans (((cell_far (p := ⟨gb383, _, none⟩) NB369_383.out _).trans (hHeld.2.2.2.2.2.2))))))⟩ (fun hHeld => ?_)
     clear hK K
     refine pure_ (i := 10) (N := some 7) (v := ?_) (a' := ?_) #[true, true, true, true, true, true, true, true, true, true, true] rfl rfl (any_of HT_.out (by kernel_rfl)) (fun _ _ _ h => h) (Or.inl ⟨by rfl, ?_⟩) ?_ ?_
     rotate_left
     ·intro w'
      go_simp
      with_reducible rfl
     rotate_left
     ·simp only [Act.put, List.setIfInBounds_toArray, List.set_cons_zero, List.set_cons_succ, i64_w, i32_w]
      rfl
     refine done_ (done_of HT_.out (by kernel_rfl)) ?_
     try go_wp2
     have n0_ : Aside0 ((((w40.setCell ⟨gb383, 0, none⟩ (.int .i64 t379)).setCell ⟨gb383, 1, none⟩ (.int .i64 t380)).setCell ⟨gb383, 2, none⟩ (.string t381)).heap[gb368]? = some (.cells #[.int .i64 a0_0, .int .i64 a0_1, .string a0_2] 24 (0, 0))) := ⟨by (with_reducible repeat (first | refine blk_drewN ?_ _ | refine blk_drew ?_ | refine blk_alloc ?_ _)); refine blk_far ?_ NB368_383.out _; (with_reducible repeat (first | refine blk_drewN ?_ _ | refine blk_drew ?_ | refine blk_alloc ?_ _)); refine blk_far ?_ NB368_383.out _; (with_reducible repeat (first | refine blk_drewN ?_ _ | refine blk_drew ?_ | refine blk_alloc ?_ _)); refine blk_far ?_ NB368_383.out _; exact pkK BK368.out⟩
     have n1_ : Aside0 ((((w40.setCell ⟨gb383, 0, none⟩ (.int .i64 t379)).setCell ⟨gb383, 1, none⟩ (.int .i64 t380)).setCell ⟨gb383, 2, none⟩ (.string t381)).heap[gb369]? = some (.cells #[.int .i64 a1_0, .int .i64 a1_1, .int .i64 a1_2, .string a1_3] 41 (0, 0))) := ⟨by (with_reducible repeat (first | refine blk_drewN ?_ _ | refine blk_drew ?_ | refine blk_alloc ?_ _)); refine blk_far ?_ NB369_383.out _; (with_reducible repeat (first | refine blk_drewN ?_ _ | refine blk_drew ?_ | refine blk_alloc ?_ _)); refine blk_far ?_ NB369_383.out _; (with_reducible repeat (first | refine blk_drewN ?_ _ | refine blk_drew ?_ | refine blk_alloc ?_ _)); refine blk_far ?_ NB369_383.out _; exact pkK BK369.out⟩
     have n2_ : Aside0 ((((w40.setCell ⟨gb383, 0, none⟩ (.int .i64 t379)).setCell ⟨gb383, 1, none⟩ (.int .i64 t380)).setCell ⟨gb383, 2, none⟩ (.string t381)).heap[gb383]? = some (.cells #[.int .i64 t379, .int .i64 t380, .string t381] 27 (0, 0))) := ⟨by (with_reducible repeat (first | refine blk_drewN ?_ _ | refine blk_drew ?_ | refine blk_alloc ?_ _)); refine blk_put (cs := #[.int .i64 t379, .int .i64 t380, .string (⟨#[]⟩ : ByteArray)]) ?_ 2 _ rfl; (with_reducible repeat (first | refine blk_drewN ?_ _ | refine blk_drew ?_ | refine blk_alloc ?_ _)); refine blk_put (cs := #[.int .i64 t379, .int .i64 0, .string (⟨#[]⟩ : ByteArray)]) ?_ 1 _ rfl; (with_reducible repeat (first | refine blk_drewN ?_ _ | refine blk_drew ?_ | refine blk_alloc ?_ _)); refine blk_put (cs := #[.int .i64 0, .int .i64 0, .string (⟨#[]⟩ : ByteArray)]) ?_ 0 _ rfl; exact pkK BK383.out⟩
     have n3_ : Aside0 (Below w.heap.size w (((w40.setCell ⟨gb383, 0, none⟩ (.int .i64 t379)).setCell ⟨gb383, 1, none⟩ (.int .i64 t380)).setCell ⟨gb383, 2, none⟩ (.string t381))) := ⟨pkW HB.out⟩
     (try clear BK368); (try clear BK369); (try clear BK383); (try clear HB)
     generalize (((w40.setCell ⟨gb383, 0, none⟩ (.int .i64 t379)).setCell ⟨gb383, 1, none⟩ (.int .i64 t380)).setCell ⟨gb383, 2, none⟩ (.string t381)) = w44 at n0_ n1_ n2_ n3_ ⊢
     have BK368 := n0_; have BK369 := n1_; have BK383 := n2_; have HB := n3_
     clear n0_ n1_ n2_ n3_
     replace BK368 := am (blk_drew BK368.out)
     replace BK369 := am (blk_drew BK369.out)
     replace BK383 := am (blk_drew BK383.out)
     replace HB := am (below_drew1 HB.out)
     refine start_ (n := 11) (S := fun w' => w'.cell? ⟨gb368, 0, none⟩ = some (.int .i64 a0_0) ∧ w'.cell? ⟨gb368, 1, none⟩ = some (.int .i64 a0_1) ∧ w'.cell? ⟨gb368, 2, none⟩ = some (.string a0_2) ∧ w'.cell? ⟨gb369, 0, none⟩ = some (.int .i64 a1_0) ∧ w'.cell? ⟨gb369, 1, none⟩ = some (.int .i64 a1_1) ∧ w'.cell? ⟨gb369, 2, none⟩ = some (.int .i64 a1_2) ∧ w'.cell? ⟨gb369, 3, none⟩ = some (.string a1_3)) (ds := []) #[false, false, false, false, false, false, false, false, false, false, false] (by kernel_rfl) rfl rfl ⟨(blk_cell BK368.out 0).trans rfl, (blk_cell BK368.out 1).trans rfl, (blk_cell BK368.out 2).trans rfl, (blk_cell BK369.out 0).trans rfl, (blk_cell BK369.out 1).trans rfl, (blk_cell BK369.out 2).trans rfl, (blk_cell BK369.out 3).trans rfl⟩ (fun hHeld => ?_); refine with_tabW laws_FnExactChanged.tab9 laws_FnExactChanged.bits9 (fun HT_ HW_ => ?_)
     generalize w44.drew = w45 at BK368 BK369 BK383 HB hHeld ⊢
     refine take_ (i := 0) (N := some 29) (v := ?_) (a' := ?_) #[true, false, false, false, false, false, false, false, false, false, false] rfl rfl (take_ofW HT_.out HW_.out (by kernel_rfl)) (fun _ _ _ h => h) (Or.inl ⟨by rfl, ?_⟩) hHeld ?_ ?_
     rotate_left
     ·rintro w' ⟨s0, s1, s2, s3, s4, s5, s6⟩
      go_simp
      with_reducible rfl
     rotate_left
     ·simp only [Act.put, List.setIfInBounds_toArray, List.set_cons_zero, List.set_cons_succ, i64_w, i32_w]
      rfl
     refine take_ (i := 2) (N := some 31) (v := ?_) (a' := ?_) #[true, false, true, false, false, false, false, false, false, false, false] rfl rfl (take_ofW HT_.out HW_.out (by kernel_rfl)) (fun _ _ _ h => h) (Or.inl ⟨by rfl, ?_⟩) hHeld ?_ ?_
     rotate_left
     ·rintro w' ⟨s0, s1, s2, s3, s4, s5, s6⟩
      go_simp
      with_reducible rfl
     rotate_left
     ·simp only [Act.put, List.setIfInBounds_toArray, List.set_cons_zero, List.set_cons_succ, i64_w, i32_w]
      rfl
     refine join_ (σ := Nat) 2 #[true, true, true, true, true, true, true, true, true, false, false] (fun s_ => [(30, .agg #[.int .i64 t384, .int .i64 t385, .string t386]), (32, .agg #[.int .i64 t387, .int .i64 t388, .int .i64 t389, .string t390]), (33, .tuple #[.agg #[.int .i64 t391, .int .i64 t392, .string t393], .bool t394]), (8, .pointer (some ⟨s_, 0, none⟩)), (28, .tuple #[.agg #[.int .i64 t391, .int .i64 t392, .string t393], .bool t394]), (34, .agg #[.int .i64 t391, .int .i64 t392, .string t393]), (35, .bool t394)]) (fun s_ w' => (w'.cell? ⟨gb368, 0, none⟩ = some (.int .i64 a0_0) ∧ w'.cell? ⟨gb368, 1, none⟩ = some (.int .i64 a0_1) ∧ w'.cell? ⟨gb368, 2, none⟩ = some (.string a0_2) ∧ w'.cell? ⟨gb369, 0, none⟩ = some (.int .i64 a1_0) ∧ w'.cell? ⟨gb369, 1, none⟩ = some (.int .i64 a1_1) ∧ w'.cell? ⟨gb369, 2, none⟩ = some (.int .i64 a1_2) ∧ w'.cell? ⟨gb369, 3, none⟩ = some (.string a1_3)) ∧ (w'.heap[gb368]? = some (.cells #[.int .i64 a0_0, .int .i64 a0_1, .string a0_2] 24 (0, 0))) ∧ (w'.heap[gb369]? = some (.cells #[.int .i64 a1_0, .int .i64 a1_1, .int .i64 a1_2, .string a1_3] 41 (0, 0))) ∧ (w'.heap[gb383]? = some (.cells #[.int .i64 t379, .int .i64 t380, .string t381] 27 (0, 0))) ∧ (w'.heap[s_]? = some (.cells #[.int .i64 0, .int .i64 0, .string (⟨#[]⟩ : ByteArray)] 27 (0, 0))) ∧ (w.heap.size ≤ s_) ∧ (w.heap.size ≤ s_) ∧ (gb368 ≠ s_) ∧ (s_ ≠ gb368) ∧ (gb369 ≠ s_) ∧ (s_ ≠ gb369) ∧ (gb383 ≠ s_) ∧ (s_ ≠ gb383) ∧ (Below w.heap.size w w')) ?_ ?_
     rotate_left
     ·intro hCont
      refine two_ (i := 1) (j := 8) (Ni := some 30) (Nj := some 8) #[true, true, true, false, false, false, false, false, false, false, false] #[true, false, true, false, false, false, false, false, true, false, false] rfl rfl rfl rfl (two_of HT_.out (by kernel_rfl)) (by decide) (by decide) (fun K hK => ?_) (fun K hK => ?_)
      ·skip
       refine goes_ Try.func14 (by kernel_rfl) rfl #[.agg #[.int .i64 a0_0, .int .i64 a0_1, .string a0_2]] (by rfl) rfl rfl mpx ?_
       with_reducible refine (laws_toMsg.calls a0_0 a0_1 a0_2 t384 t385 t386 _ A22.out).mono ?_
       rintro e w46 ⟨rfl, hb⟩
       refine ⟨_, rfl, ?_⟩
       replace BK368 := am (blk_below (pkK BK368.out) hb)
       replace BK369 := am (blk_below (pkK BK369.out) hb)
       replace BK383 := am (blk_below (pkK BK383.out) hb)
       replace HB := am (below_step (pkW HB.out) hb)
       (try clear hb)
       refine hK.out _ _ ⟨(blk_cell BK368.out 0).trans rfl, (blk_cell BK368.out 1).trans rfl, (blk_cell BK368.out 2).trans rfl, (blk_cell BK369.out 0).trans rfl, (blk_cell BK369.out 1).trans rfl, (blk_cell BK369.out 2).trans rfl, (blk_cell BK369.out 3).trans rfl⟩ (fun hHeld => ?_)
       clear hK K
       refine norm_ (a' := ?_) ?_ ?_
       rotate_left
       ·show Act.put _ (some 30) _ = _
        simp only [Act.put, List.setIfInBounds_toArray, List.set_cons_zero, List.set_cons_succ, i64_w, i32_w]
        rfl
       refine two_ (i := 3) (j := 8) (Ni := some 32) (Nj := some 8) #[true, true, true, true, false, false, false, false, false, false, false] #[true, true, true, false, false, false, false, false, true, false, false] rfl rfl rfl rfl (two_of HT_.out (by kernel_rfl)) (by decide) (by decide) (fun K hK => ?_) (fun K hK => ?_)
       ·skip
        refine goes_ Try.func27 (by kernel_rfl) rfl #[.agg #[.int .i64 a1_0, .int .i64 a1_1, .int .i64 a1_2, .string a1_3]] (by rfl) rfl rfl mpx ?_
        with_reducible refine (laws_toChange.calls a1_0 a1_1 a1_2 a1_3 t387 t388 t389 t390 _ A23.out).mono ?_
        rintro e w47 ⟨rfl, hb⟩
        refine ⟨_, rfl, ?_⟩
        replace BK368 := am (blk_below (pkK BK368.out) hb)
        replace BK369 := am (blk_below (pkK BK369.out) hb)
        replace BK383 := am (blk_below (pkK BK383.out) hb)
        replace HB := am (below_step (pkW HB.out) hb)
        (try clear hb)
        refine hK.out _ _ ⟨(blk_cell BK368.out 0).trans rfl, (blk_cell BK368.out 1).trans rfl, (blk_cell BK368.out 2).trans rfl, (blk_cell BK369.out 0).trans rfl, (blk_cell BK369.out 1).trans rfl, (blk_cell BK369.out 2).trans rfl, (blk_cell BK369.out 3).trans rfl⟩ (fun hHeld => ?_)
        clear hK K
        refine norm_ (a' := ?_) ?_ ?_
        rotate_left
        ·show Act.put _ (some 32) _ = _
         simp only [Act.put, List.setIfInBounds_toArray, List.set_cons_zero, List.set_cons_succ, i64_w, i32_w]
         rfl
        refine two_ (i := 4) (j := 8) (Ni := some 33) (Nj := some 8) #[true, true, true, true, true, false, false, false, false, false, false] #[true, true, true, true, false, false, false, false, true, false, false] rfl rfl rfl rfl (two_of HT_.out (by kernel_rfl)) (by decide) (by decide) (fun K hK => ?_) (fun K hK => ?_)
        ·skip
         refine goes_ Try.func28 (by kernel_rfl) rfl #[.agg #[.int .i64 t384, .int .i64 t385, .string t386], .agg #[.int .i64 t387, .int .i64 t388, .int .i64 t389, .string t390]] (by rfl) rfl rfl mpx ?_
         with_reducible refine (impl_Changed.calls k t384 t385 t386 t387 t388 t389 t390 t391 t392 t393 t394 _ A24.out).mono ?_
         rintro e w48 ⟨rfl, hb⟩
         refine ⟨_, rfl, ?_⟩
         replace BK368 := am (blk_below (pkK BK368.out) hb)
         replace BK369 := am (blk_below (pkK BK369.out) hb)
         replace BK383 := am (blk_below (pkK BK383.out) hb)
         replace HB := am (below_step (pkW HB.out) hb)
         (try clear hb)
         refine hK.out _ _ ⟨(blk_cell BK368.out 0).trans rfl, (blk_cell BK368.out 1).trans rfl, (blk_cell BK368.out 2).trans rfl, (blk_cell BK369.out 0).trans rfl, (blk_cell BK369.out 1).trans rfl, (blk_cell BK369.out 2).trans rfl, (blk_cell BK369.out 3).trans rfl⟩ (fun hHeld => ?_)
         clear hK K
         refine norm_ (a' := ?_) ?_ ?_
         rotate_left
         ·show Act.put _ (some 33) _ = _
          simp only [Act.put, List.setIfInBounds_toArray, List.set_cons_zero, List.set_cons_succ, i64_w, i32_w]
          rfl
         refine pure_ (i := 5) (N := some 28) (v := ?_) (a' := ?_) #[true, true, true, true, true, true, false, false, false, false, false] rfl rfl (any_of HT_.out (by kernel_rfl)) (fun _ _ _ h => h) (Or.inl ⟨by rfl, ?_⟩) ?_ ?_
         rotate_left
         ·intro w'
          go_simp
          with_reducible rfl
         rotate_left
         ·simp only [Act.put, List.setIfInBounds_toArray, List.set_cons_zero, List.set_cons_succ, i64_w, i32_w]
          rfl
         refine pure_ (i := 6) (N := some 34) (v := ?_) (a' := ?_) #[true, true, true, true, true, true, true, false, false, false, false] rfl rfl (any_of HT_.out (by kernel_rfl)) (fun _ _ _ h => h) (Or.inl ⟨by rfl, ?_⟩) ?_ ?_
         rotate_left
         ·intro w'
          go_simp
          with_reducible rfl
         rotate_left
         ·simp only [Act.put, List.setIfInBounds_toArray, List.set_cons_zero, List.set_cons_succ, i64_w, i32_w]
          rfl
         refine pure_ (i := 7) (N := some 35) (v := ?_) (a' := ?_) #[true, true, true, true, true, true, true, true, false, false, false] rfl rfl (any_of HT_.out (by kernel_rfl)) (fun _ _ _ h => h) (Or.inl ⟨by rfl, ?_⟩) ?_ ?_
         rotate_left
         ·intro w'
          go_simp
          with_reducible rfl
         rotate_left
         ·simp only [Act.put, List.setIfInBounds_toArray, List.set_cons_zero, List.set_cons_succ, i64_w, i32_w]
          rfl
         refine one_ (i := 8) (N := some 8) #[true, true, true, true, true, true, true, true, true, false, false] rfl rfl (one_of HT_.out (by kernel_rfl)) (by decide) (fun K hK => ?_)
         refine box_step ?hg (N := 8) ?hd (cs := #[.int .i64 0, .int .i64 0, .string (⟨#[]⟩ : ByteArray)]) (t := 27) ?hr ?_; (case hd => rfl); (case hg => rfl); (case hr => first | (go_simp; done) | (go_simp; rfl))
         intro gb395 hg w49 hbox hb
         have BK395 := am (hbox)
         have GW395 := am ((by rw [hg]; exact (below_size (pkW HB.out)) : w.heap.size ≤ gb395))
         have GE395 := am ((by rw [hg]; exact (below_size (pkW HB.out)) : w.heap.size ≤ gb395))
         replace HB := am (below_step (pkW HB.out) hb)
         have NB368_395 := am ((by rw [hg]; exact Nat.ne_of_lt (blk_lt (g := gb368) (o := .cells #[.int .i64 a0_0, .int .i64 a0_1, .string a0_2] 24 (0, 0)) (pkK BK368.out)) : gb368 ≠ gb395))
         have NB395_368 := am ((by rw [hg]; exact Nat.ne_of_gt (blk_lt (g := gb368) (o := .cells #[.int .i64 a0_0, .int .i64 a0_1, .string a0_2] 24 (0, 0)) (pkK BK368.out)) : gb395 ≠ gb368))
         replace BK368 := am (blk_below (pkK BK368.out) hb)
         have NB369_395 := am ((by rw [hg]; exact Nat.ne_of_lt (blk_lt (g := gb369) (o := .cells #[.int .i64 a1_0, .int .i64 a1_1, .int .i64 a1_2, .string a1_3] 41 (0, 0)) (pkK BK369.out)) : gb369 ≠ gb395))
         have NB395_369 := am ((by rw [hg]; exact Nat.ne_of_gt (blk_lt (g := gb369) (o := .cells #[.int .i64 a1_0, .int .i64 a1_1, .int .i64 a1_2, .string a1_3] 41 (0, 0)) (pkK BK369.out)) : gb395 ≠ gb369))
         replace BK369 := am (blk_below (pkK BK369.out) hb)
         have NB383_395 := am ((by rw [hg]; exact Nat.ne_of_lt (blk_lt (g := gb383) (o := .cells #[.int .i64 t379, .int .i64 t380, .string t381] 27 (0, 0)) (pkK BK383.out)) : gb383 ≠ gb395))
         have NB395_383 := am ((by rw [hg]; exact Nat.ne_of_gt (blk_lt (g := gb383) (o := .cells #[.int .i64 t379, .int .i64 t380, .string t381] 27 (0, 0)) (pkK BK383.out)) : gb395 ≠ gb383))
         replace BK383 := am (blk_below (pkK BK383.out) hb)
         clear hb hbox hg
         refine hK.out _ _ ⟨(blk_cell BK368.out 0).trans rfl, (blk_cell BK368.out 1).trans rfl, (blk_cell BK368.out 2).trans rfl, (blk_cell BK369.out 0).trans rfl, (blk_cell BK369.out 1).trans rfl, (blk_cell BK369.out 2).trans rfl, (blk_cell BK369.out 3).trans rfl⟩ (fun hHeld => ?_)
         clear hK K
         refine norm_ (a' := ?_) ?_ ?_
         rotate_left
         ·show Act.put _ (some 8) _ = _
          simp only [Act.put, List.setIfInBounds_toArray, List.set_cons_zero, List.set_cons_succ, i64_w, i32_w]
          rfl
         exact norm_ (by simp only [putAll, Act.put, List.setIfInBounds_toArray, List.set_cons_zero, List.set_cons_succ]) (hCont (gb395) _ ⟨hHeld, (pkK BK368.out), (pkK BK369.out), (pkK BK383.out), (pkK BK395.out), GW395.out, GE395.out, NB368_395.out, NB395_368.out, NB369_395.out, NB395_369.out, NB383_395.out, NB395_383.out, (pkW HB.out)⟩)
        ·skip
         refine box_step ?hg (N := 8) ?hd (cs := #[.int .i64 0, .int .i64 0, .string (⟨#[]⟩ : ByteArray)]) (t := 27) ?hr ?_; (case hd => rfl); (case hg => rfl); (case hr => first | (go_simp; done) | (go_simp; rfl))
         intro gb395 hg w48 hbox hb
         have BK395 := am (hbox)
         have GW395 := am ((by rw [hg]; exact (below_size (pkW HB.out)) : w.heap.size ≤ gb395))
         have GE395 := am ((by rw [hg]; exact (below_size (pkW HB.out)) : w.heap.size ≤ gb395))
         replace HB := am (below_step (pkW HB.out) hb)
         have NB368_395 := am ((by rw [hg]; exact Nat.ne_of_lt (blk_lt (g := gb368) (o := .cells #[.int .i64 a0_0, .int .i64 a0_1, .string a0_2] 24 (0, 0)) (pkK BK368.out)) : gb368 ≠ gb395))
         have NB395_368 := am ((by rw [hg]; exact Nat.ne_of_gt (blk_lt (g := gb368) (o := .cells #[.int .i64 a0_0, .int .i64 a0_1, .string a0_2] 24 (0, 0)) (pkK BK368.out)) : gb395 ≠ gb368))
         replace BK368 := am (blk_below (pkK BK368.out) hb)
         have NB369_395 := am ((by rw [hg]; exact Nat.ne_of_lt (blk_lt (g := gb369) (o := .cells #[.int .i64 a1_0, .int .i64 a1_1, .int .i64 a1_2, .string a1_3] 41 (0, 0)) (pkK BK369.out)) : gb369 ≠ gb395))
         have NB395_369 := am ((by rw [hg]; exact Nat.ne_of_gt (blk_lt (g := gb369) (o := .cells #[.int .i64 a1_0, .int .i64 a1_1, .int .i64 a1_2, .string a1_3] 41 (0, 0)) (pkK BK369.out)) : gb395 ≠ gb369))
         replace BK369 := am (blk_below (pkK BK369.out) hb)
         have NB383_395 := am ((by rw [hg]; exact Nat.ne_of_lt (blk_lt (g := gb383) (o := .cells #[.int .i64 t379, .int .i64 t380, .string t381] 27 (0, 0)) (pkK BK383.out)) : gb383 ≠ gb395))
         have NB395_383 := am ((by rw [hg]; exact Nat.ne_of_gt (blk_lt (g := gb383) (o := .cells #[.int .i64 t379, .int .i64 t380, .string t381] 27 (0, 0)) (pkK BK383.out)) : gb395 ≠ gb383))
         replace BK383 := am (blk_below (pkK BK383.out) hb)
         clear hb hbox hg
         refine hK.out _ _ ⟨(blk_cell BK368.out 0).trans rfl, (blk_cell BK368.out 1).trans rfl, (blk_cell BK368.out 2).trans rfl, (blk_cell BK369.out 0).trans rfl, (blk_cell BK369.out 1).trans rfl, (blk_cell BK369.out 2).trans rfl, (blk_cell BK369.out 3).trans rfl⟩ (fun hHeld => ?_)
         clear hK K
         refine norm_ (a' := ?_) ?_ ?_
         rotate_left
         ·show Act.put _ (some 8) _ = _
          simp only [Act.put, List.setIfInBounds_toArray, List.set_cons_zero, List.set_cons_succ, i64_w, i32_w]
          rfl
         refine one_ (i := 4) (N := some 33) #[true, true, true, true, true, false, false, false, true, false, false] rfl rfl (one_of HT_.out (by kernel_rfl)) (by decide) (fun K hK => ?_)
         refine goes_ Try.func28 (by kernel_rfl) rfl #[.agg #[.int .i64 t384, .int .i64 t385, .string t386], .agg #[.int .i64 t387, .int .i64 t388, .int .i64 t389, .string t390]] (by rfl) rfl rfl mpx ?_
         with_reducible refine (impl_Changed.calls k t384 t385 t386 t387 t388 t389 t390 t391 t392 t393 t394 _ A24.out).mono ?_
         rintro e w49 ⟨rfl, hb⟩
         refine ⟨_, rfl, ?_⟩
         replace BK368 := am (blk_below (pkK BK368.out) hb)
         replace BK369 := am (blk_below (pkK BK369.out) hb)
         replace BK383 := am (blk_below (pkK BK383.out) hb)
         replace BK395 := am (blk_below (pkK BK395.out) hb)
         replace HB := am (below_step (pkW HB.out) hb)
         (try clear hb)
         refine hK.out _ _ ⟨(blk_cell BK368.out 0).trans rfl, (blk_cell BK368.out 1).trans rfl, (blk_cell BK368.out 2).trans rfl, (blk_cell BK369.out 0).trans rfl, (blk_cell BK369.out 1).trans rfl, (blk_cell BK369.out 2).trans rfl, (blk_cell BK369.out 3).trans rfl⟩ (fun hHeld => ?_)
         clear hK K
         refine norm_ (a' := ?_) ?_ ?_
         rotate_left
         ·show Act.put _ (some 33) _ = _
          simp only [Act.put, List.setIfInBounds_toArray, List.set_cons_zero, List.set_cons_succ, i64_w, i32_w]
          rfl
         refine pure_ (i := 5) (N := some 28) (v := ?_) (a' := ?_) #[true, true, true, true, true, true, false, false, true, false, false] rfl rfl (any_of HT_.out (by kernel_rfl)) (fun _ _ _ h => h) (Or.inl ⟨by rfl, ?_⟩) ?_ ?_
         rotate_left
         ·intro w'
          go_simp
          with_reducible rfl
         rotate_left
         ·simp only [Act.put, List.setIfInBounds_toArray, List.set_cons_zero, List.set_cons_succ, i64_w, i32_w]
          rfl
         refine pure_ (i := 6) (N := some 34) (v := ?_) (a' := ?_) #[true, true, true, true, true, true, true, false, true, false, false] rfl rfl (any_of HT_.out (by kernel_rfl)) (fun _ _ _ h => h) (Or.inl ⟨by rfl, ?_⟩) ?_ ?_
         rotate_left
         ·intro w'
          go_simp
          with_reducible rfl
         rotate_left
         ·simp only [Act.put, List.setIfInBounds_toArray, List.set_cons_zero, List.set_cons_succ, i64_w, i32_w]
          rfl
         refine pure_ (i := 7) (N := some 35) (v := ?_) (a' := ?_) #[true, true, true, true, true, true, true, true, true, false, false] rfl rfl (any_of HT_.out (by kernel_rfl)) (fun _ _ _ h => h) (Or.inl ⟨by rfl, ?_⟩) ?_ ?_
         rotate_left
         ·intro w'
          go_simp
          with_reducible rfl
         rotate_left
         ·simp only [Act.put, List.setIfInBounds_toArray, List.set_cons_zero, List.set_cons_succ, i64_w, i32_w]
          rfl
         exact norm_ (by simp only [putAll, Act.put, List.setIfInBounds_toArray, List.set_cons_zero, List.set_cons_succ]) (hCont (gb395) _ ⟨hHeld, (pkK BK368.out), (pkK BK369.out), (pkK BK383.out), (pkK BK395.out), GW395.out, GE395.out, NB368_395.out, NB395_368.out, NB369_395.out, NB395_369.out, NB383_395.out, NB395_383.out, (pkW HB.out)⟩)
       ·skip
        refine box_step ?hg (N := 8) ?hd (cs := #[.int .i64 0, .int .i64 0, .string (⟨#[]⟩ : ByteArray)]) (t := 27) ?hr ?_; (case hd => rfl); (case hg => rfl); (case hr => first | (go_simp; done) | (go_simp; rfl))
        intro gb395 hg w47 hbox hb
        have BK395 := am (hbox)
        have GW395 := am ((by rw [hg]; exact (below_size (pkW HB.out)) : w.heap.size ≤ gb395))
        have GE395 := am ((by rw [hg]; exact (below_size (pkW HB.out)) : w.heap.size ≤ gb395))
        replace HB := am (below_step (pkW HB.out) hb)
        have NB368_395 := am ((by rw [hg]; exact Nat.ne_of_lt (blk_lt (g := gb368) (o := .cells #[.int .i64 a0_0, .int .i64 a0_1, .string a0_2] 24 (0, 0)) (pkK BK368.out)) : gb368 ≠ gb395))
        have NB395_368 := am ((by rw [hg]; exact Nat.ne_of_gt (blk_lt (g := gb368) (o := .cells #[.int .i64 a0_0, .int .i64 a0_1, .string a0_2] 24 (0, 0)) (pkK BK368.out)) : gb395 ≠ gb368))
        replace BK368 := am (blk_below (pkK BK368.out) hb)
        have NB369_395 := am ((by rw [hg]; exact Nat.ne_of_lt (blk_lt (g := gb369) (o := .cells #[.int .i64 a1_0, .int .i64 a1_1, .int .i64 a1_2, .string a1_3] 41 (0, 0)) (pkK BK369.out)) : gb369 ≠ gb395))
        have NB395_369 := am ((by rw [hg]; exact Nat.ne_of_gt (blk_lt (g := gb369) (o := .cells #[.int .i64 a1_0, .int .i64 a1_1, .int .i64 a1_2, .string a1_3] 41 (0, 0)) (pkK BK369.out)) : gb395 ≠ gb369))
        replace BK369 := am (blk_below (pkK BK369.out) hb)
        have NB383_395 := am ((by rw [hg]; exact Nat.ne_of_lt (blk_lt (g := gb383) (o := .cells #[.int .i64 t379, .int .i64 t380, .string t381] 27 (0, 0)) (pkK BK383.out)) : gb383 ≠ gb395))
        have NB395_383 := am ((by rw [hg]; exact Nat.ne_of_gt (blk_lt (g := gb383) (o := .cells #[.int .i64 t379, .int .i64 t380, .string t381] 27 (0, 0)) (pkK BK383.out)) : gb395 ≠ gb383))
        replace BK383 := am (blk_below (pkK BK383.out) hb)
        clear hb hbox hg
        refine hK.out _ _ ⟨(blk_cell BK368.out 0).trans rfl, (blk_cell BK368.out 1).trans rfl, (blk_cell BK368.out 2).trans rfl, (blk_cell BK369.out 0).trans rfl, (blk_cell BK369.out 1).trans rfl, (blk_cell BK369.out 2).trans rfl, (blk_cell BK369.out 3).trans rfl⟩ (fun hHeld => ?_)
        clear hK K
        refine norm_ (a' := ?_) ?_ ?_
        rotate_left
        ·show Act.put _ (some 8) _ = _
         simp only [Act.put, List.setIfInBounds_toArray, List.set_cons_zero, List.set_cons_succ, i64_w, i32_w]
         rfl
        refine one_ (i := 3) (N := some 32) #[true, true, true, true, false, false, false, false, true, false, false] rfl rfl (one_of HT_.out (by kernel_rfl)) (by decide) (fun K hK => ?_)
        refine goes_ Try.func27 (by kernel_rfl) rfl #[.agg #[.int .i64 a1_0, .int .i64 a1_1, .int .i64 a1_2, .string a1_3]] (by rfl) rfl rfl mpx ?_
        with_reducible refine (laws_toChange.calls a1_0 a1_1 a1_2 a1_3 t387 t388 t389 t390 _ A23.out).mono ?_
        rintro e w48 ⟨rfl, hb⟩
        refine ⟨_, rfl, ?_⟩
        replace BK368 := am (blk_below (pkK BK368.out) hb)
        replace BK369 := am (blk_below (pkK BK369.out) hb)
        replace BK383 := am (blk_below (pkK BK383.out) hb)
        replace BK395 := am (blk_below (pkK BK395.out) hb)
        replace HB := am (below_step (pkW HB.out) hb)
        (try clear hb)
        refine hK.out _ _ ⟨(blk_cell BK368.out 0).trans rfl, (blk_cell BK368.out 1).trans rfl, (blk_cell BK368.out 2).trans rfl, (blk_cell BK369.out 0).trans rfl, (blk_cell BK369.out 1).trans rfl, (blk_cell BK369.out 2).trans rfl, (blk_cell BK369.out 3).trans rfl⟩ (fun hHeld => ?_)
        clear hK K
        refine norm_ (a' := ?_) ?_ ?_
        rotate_left
        ·show Act.put _ (some 32) _ = _
         simp only [Act.put, List.setIfInBounds_toArray, List.set_cons_zero, List.set_cons_succ, i64_w, i32_w]
         rfl
        refine one_ (i := 4) (N := some 33) #[true, true, true, true, true, false, false, false, true, false, false] rfl rfl (one_of HT_.out (by kernel_rfl)) (by decide) (fun K hK => ?_)
        refine goes_ Try.func28 (by kernel_rfl) rfl #[.agg #[.int .i64 t384, .int .i64 t385, .string t386], .agg #[.int .i64 t387, .int .i64 t388, .int .i64 t389, .string t390]] (by rfl) rfl rfl mpx ?_
        with_reducible refine (impl_Changed.calls k t384 t385 t386 t387 t388 t389 t390 t391 t392 t393 t394 _ A24.out).mono ?_
        rintro e w49 ⟨rfl, hb⟩
        refine ⟨_, rfl, ?_⟩
        replace BK368 := am (blk_below (pkK BK368.out) hb)
        replace BK369 := am (blk_below (pkK BK369.out) hb)
        replace BK383 := am (blk_below (pkK BK383.out) hb)
        replace BK395 := am (blk_below (pkK BK395.out) hb)
        replace HB := am (below_step (pkW HB.out) hb)
        (try clear hb)
        refine hK.out _ _ ⟨(blk_cell BK368.out 0).trans rfl, (blk_cell BK368.out 1).trans rfl, (blk_cell BK368.out 2).trans rfl, (blk_cell BK369.out 0).trans rfl, (blk_cell BK369.out 1).trans rfl, (blk_cell BK369.out 2).trans rfl, (blk_cell BK369.out 3).trans rfl⟩ (fun hHeld => ?_)
        clear hK K
        refine norm_ (a' := ?_) ?_ ?_
        rotate_left
        ·show Act.put _ (some 33) _ = _
         simp only [Act.put, List.setIfInBounds_toArray, List.set_cons_zero, List.set_cons_succ, i64_w, i32_w]
         rfl
        refine pure_ (i := 5) (N := some 28) (v := ?_) (a' := ?_) #[true, true, true, true, true, true, false, false, true, false, false] rfl rfl (any_of HT_.out (by kernel_rfl)) (fun _ _ _ h => h) (Or.inl ⟨by rfl, ?_⟩) ?_ ?_
        rotate_left
        ·intro w'
         go_simp
         with_reducible rfl
        rotate_left
        ·simp only [Act.put, List.setIfInBounds_toArray, List.set_cons_zero, List.set_cons_succ, i64_w, i32_w]
         rfl
        refine pure_ (i := 6) (N := some 34) (v := ?_) (a' := ?_) #[true, true, true, true, true, true, true, false, true, false, false] rfl rfl (any_of HT_.out (by kernel_rfl)) (fun _ _ _ h => h) (Or.inl ⟨by rfl, ?_⟩) ?_ ?_
        rotate_left
        ·intro w'
         go_simp
         with_reducible rfl
        rotate_left
        ·simp only [Act.put, List.setIfInBounds_toArray, List.set_cons_zero, List.set_cons_succ, i64_w, i32_w]
         rfl
        refine pure_ (i := 7) (N := some 35) (v := ?_) (a' := ?_) #[true, true, true, true, true, true, true, true, true, false, false] rfl rfl (any_of HT_.out (by kernel_rfl)) (fun _ _ _ h => h) (Or.inl ⟨by rfl, ?_⟩) ?_ ?_
        rotate_left
        ·intro w'
         go_simp
         with_reducible rfl
        rotate_left
        ·simp only [Act.put, List.setIfInBounds_toArray, List.set_cons_zero, List.set_cons_succ, i64_w, i32_w]
         rfl
        exact norm_ (by simp only [putAll, Act.put, List.setIfInBounds_toArray, List.set_cons_zero, List.set_cons_succ]) (hCont (gb395) _ ⟨hHeld, (pkK BK368.out), (pkK BK369.out), (pkK BK383.out), (pkK BK395.out), GW395.out, GE395.out, NB368_395.out, NB395_368.out, NB369_395.out, NB395_369.out, NB383_395.out, NB395_383.out, (pkW HB.out)⟩)
      ·skip
       refine box_step ?hg (N := 8) ?hd (cs := #[.int .i64 0, .int .i64 0, .string (⟨#[]⟩ : ByteArray)]) (t := 27) ?hr ?_; (case hd => rfl); (case hg => rfl); (case hr => first | (go_simp; done) | (go_simp; rfl))
       intro gb395 hg w46 hbox hb
       have BK395 := am (hbox)
       have GW395 := am ((by rw [hg]; exact (below_size (pkW HB.out)) : w.heap.size ≤ gb395))
       have GE395 := am ((by rw [hg]; exact (below_size (pkW HB.out)) : w.heap.size ≤ gb395))
       replace HB := am (below_step (pkW HB.out) hb)
       have NB368_395 := am ((by rw [hg]; exact Nat.ne_of_lt (blk_lt (g := gb368) (o := .cells #[.int .i64 a0_0, .int .i64 a0_1, .string a0_2] 24 (0, 0)) (pkK BK368.out)) : gb368 ≠ gb395))
       have NB395_368 := am ((by rw [hg]; exact Nat.ne_of_gt (blk_lt (g := gb368) (o := .cells #[.int .i64 a0_0, .int .i64 a0_1, .string a0_2] 24 (0, 0)) (pkK BK368.out)) : gb395 ≠ gb368))
       replace BK368 := am (blk_below (pkK BK368.out) hb)
       have NB369_395 := am ((by rw [hg]; exact Nat.ne_of_lt (blk_lt (g := gb369) (o := .cells #[.int .i64 a1_0, .int .i64 a1_1, .int .i64 a1_2, .string a1_3] 41 (0, 0)) (pkK BK369.out)) : gb369 ≠ gb395))
       have NB395_369 := am ((by rw [hg]; exact Nat.ne_of_gt (blk_lt (g := gb369) (o := .cells #[.int .i64 a1_0, .int .i64 a1_1, .int .i64 a1_2, .string a1_3] 41 (0, 0)) (pkK BK369.out)) : gb395 ≠ gb369))
       replace BK369 := am (blk_below (pkK BK369.out) hb)
       have NB383_395 := am ((by rw [hg]; exact Nat.ne_of_lt (blk_lt (g := gb383) (o := .cells #[.int .i64 t379, .int .i64 t380, .string t381] 27 (0, 0)) (pkK BK383.out)) : gb383 ≠ gb395))
       have NB395_383 := am ((by rw [hg]; exact Nat.ne_of_gt (blk_lt (g := gb383) (o := .cells #[.int .i64 t379, .int .i64 t380, .string t381] 27 (0, 0)) (pkK BK383.out)) : gb395 ≠ gb383))
       replace BK383 := am (blk_below (pkK BK383.out) hb)
       clear hb hbox hg
       refine hK.out _ _ ⟨(blk_cell BK368.out 0).trans rfl, (blk_cell BK368.out 1).trans rfl, (blk_cell BK368.out 2).trans rfl, (blk_cell BK369.out 0).trans rfl, (blk_cell BK369.out 1).trans rfl, (blk_cell BK369.out 2).trans rfl, (blk_cell BK369.out 3).trans rfl⟩ (fun hHeld => ?_)
       clear hK K
       refine norm_ (a' := ?_) ?_ ?_
       rotate_left
       ·show Act.put _ (some 8) _ = _
        simp only [Act.put, List.setIfInBounds_toArray, List.set_cons_zero, List.set_cons_succ, i64_w, i32_w]
        rfl
       refine one_ (i := 1) (N := some 30) #[true, true, true, false, false, false, false, false, true, false, false] rfl rfl (one_of HT_.out (by kernel_rfl)) (by decide) (fun K hK => ?_)
       refine goes_ Try.func14 (by kernel_rfl) rfl #[.agg #[.int .i64 a0_0, .int .i64 a0_1, .string a0_2]] (by rfl) rfl rfl mpx ?_
       with_reducible refine (laws_toMsg.calls a0_0 a0_1 a0_2 t384 t385 t386 _ A22.out).mono ?_
       rintro e w47 ⟨rfl, hb⟩
       refine ⟨_, rfl, ?_⟩
       replace BK368 := am (blk_below (pkK BK368.out) hb)
       replace BK369 := am (blk_below (pkK BK369.out) hb)
       replace BK383 := am (blk_below (pkK BK383.out) hb)
       replace BK395 := am (blk_below (pkK BK395.out) hb)
       replace HB := am (below_step (pkW HB.out) hb)
       (try clear hb)
       refine hK.out _ _ ⟨(blk_cell BK368.out 0).trans rfl, (blk_cell BK368.out 1).trans rfl, (blk_cell BK368.out 2).trans rfl, (blk_cell BK369.out 0).trans rfl, (blk_cell BK369.out 1).trans rfl, (blk_cell BK369.out 2).trans rfl, (blk_cell BK369.out 3).trans rfl⟩ (fun hHeld => ?_)
       clear hK K
       refine norm_ (a' := ?_) ?_ ?_
       rotate_left
       ·show Act.put _ (some 30) _ = _
        simp only [Act.put, List.setIfInBounds_toArray, List.set_cons_zero, List.set_cons_succ, i64_w, i32_w]
        rfl
       refine one_ (i := 3) (N := some 32) #[true, true, true, true, false, false, false, false, true, false, false] rfl rfl (one_of HT_.out (by kernel_rfl)) (by decide) (fun K hK => ?_)
       refine goes_ Try.func27 (by kernel_rfl) rfl #[.agg #[.int .i64 a1_0, .int .i64 a1_1, .int .i64 a1_2, .string a1_3]] (by rfl) rfl rfl mpx ?_
       with_reducible refine (laws_toChange.calls a1_0 a1_1 a1_2 a1_3 t387 t388 t389 t390 _ A23.out).mono ?_
       rintro e w48 ⟨rfl, hb⟩
       refine ⟨_, rfl, ?_⟩
       replace BK368 := am (blk_below (pkK BK368.out) hb)
       replace BK369 := am (blk_below (pkK BK369.out) hb)
       replace BK383 := am (blk_below (pkK BK383.out) hb)
       replace BK395 := am (blk_below (pkK BK395.out) hb)
       replace HB := am (below_step (pkW HB.out) hb)
       (try clear hb)
       refine hK.out _ _ ⟨(blk_cell BK368.out 0).trans rfl, (blk_cell BK368.out 1).trans rfl, (blk_cell BK368.out 2).trans rfl, (blk_cell BK369.out 0).trans rfl, (blk_cell BK369.out 1).trans rfl, (blk_cell BK369.out 2).trans rfl, (blk_cell BK369.out 3).trans rfl⟩ (fun hHeld => ?_)
       clear hK K
       refine norm_ (a' := ?_) ?_ ?_
       rotate_left
       ·show Act.put _ (some 32) _ = _
        simp only [Act.put, List.setIfInBounds_toArray, List.set_cons_zero, List.set_cons_succ, i64_w, i32_w]
        rfl
       refine one_ (i := 4) (N := some 33) #[true, true, true, true, true, false, false, false, true, false, false] rfl rfl (one_of HT_.out (by kernel_rfl)) (by decide) (fun K hK => ?_)
       refine goes_ Try.func28 (by kernel_rfl) rfl #[.agg #[.int .i64 t384, .int .i64 t385, .string t386], .agg #[.int .i64 t387, .int .i64 t388, .int .i64 t389, .string t390]] (by rfl) rfl rfl mpx ?_
       with_reducible refine (impl_Changed.calls k t384 t385 t386 t387 t388 t389 t390 t391 t392 t393 t394 _ A24.out).mono ?_
       rintro e w49 ⟨rfl, hb⟩
       refine ⟨_, rfl, ?_⟩
       replace BK368 := am (blk_below (pkK BK368.out) hb)
       replace BK369 := am (blk_below (pkK BK369.out) hb)
       replace BK383 := am (blk_below (pkK BK383.out) hb)
       replace BK395 := am (blk_below (pkK BK395.out) hb)
       replace HB := am (below_step (pkW HB.out) hb)
       (try clear hb)
       refine hK.out _ _ ⟨(blk_cell BK368.out 0).trans rfl, (blk_cell BK368.out 1).trans rfl, (blk_cell BK368.out 2).trans rfl, (blk_cell BK369.out 0).trans rfl, (blk_cell BK369.out 1).trans rfl, (blk_cell BK369.out 2).trans rfl, (blk_cell BK369.out 3).trans rfl⟩ (fun hHeld => ?_)
       clear hK K
       refine norm_ (a' := ?_) ?_ ?_
       rotate_left
       ·show Act.put _ (some 33) _ = _
        simp only [Act.put, List.setIfInBounds_toArray, List.set_cons_zero, List.set_cons_succ, i64_w, i32_w]
        rfl
       refine pure_ (i := 5) (N := some 28) (v := ?_) (a' := ?_) #[true, true, true, true, true, true, false, false, true, false, false] rfl rfl (any_of HT_.out (by kernel_rfl)) (fun _ _ _ h => h) (Or.inl ⟨by rfl, ?_⟩) ?_ ?_
       rotate_left
       ·intro w'
        go_simp
        with_reducible rfl
       rotate_left
       ·simp only [Act.put, List.setIfInBounds_toArray, List.set_cons_zero, List.set_cons_succ, i64_w, i32_w]
        rfl
       refine pure_ (i := 6) (N := some 34) (v := ?_) (a' := ?_) #[true, true, true, true, true, true, true, false, true, false, false] rfl rfl (any_of HT_.out (by kernel_rfl)) (fun _ _ _ h => h) (Or.inl ⟨by rfl, ?_⟩) ?_ ?_
       rotate_left
       ·intro w'
        go_simp
        with_reducible rfl
       rotate_left
       ·simp only [Act.put, List.setIfInBounds_toArray, List.set_cons_zero, List.set_cons_succ, i64_w, i32_w]
        rfl
       refine pure_ (i := 7) (N := some 35) (v := ?_) (a' := ?_) #[true, true, true, true, true, true, true, true, true, false, false] rfl rfl (any_of HT_.out (by kernel_rfl)) (fun _ _ _ h => h) (Or.inl ⟨by rfl, ?_⟩) ?_ ?_
       rotate_left
       ·intro w'
        go_simp
        with_reducible rfl
       rotate_left
       ·simp only [Act.put, List.setIfInBounds_toArray, List.set_cons_zero, List.set_cons_succ, i64_w, i32_w]
        rfl
       exact norm_ (by simp only [putAll, Act.put, List.setIfInBounds_toArray, List.set_cons_zero, List.set_cons_succ]) (hCont (gb395) _ ⟨hHeld, (pkK BK368.out), (pkK BK369.out), (pkK BK383.out), (pkK BK395.out), GW395.out, GE395.out, NB368_395.out, NB395_368.out, NB369_395.out, NB395_369.out, NB383_395.out, NB395_383.out, (pkW HB.out)⟩)
     rintro gb395 w50 ⟨hS_, h0_, h1_, h2_, h3_, h4_, h5_, h6_, h7_, h8_, h9_, h10_, h11_, h12_⟩
     replace BK368 : Aside0 (w50.heap[gb368]? = some (.cells #[.int .i64 a0_0, .int .i64 a0_1, .string a0_2] 24 (0, 0))) := ⟨h0_⟩
     replace BK369 : Aside0 (w50.heap[gb369]? = some (.cells #[.int .i64 a1_0, .int .i64 a1_1, .int .i64 a1_2, .string a1_3] 41 (0, 0))) := ⟨h1_⟩
     replace BK383 : Aside0 (w50.heap[gb383]? = some (.cells #[.int .i64 t379, .int .i64 t380, .string t381] 27 (0, 0))) := ⟨h2_⟩
     have BK395 : Aside0 (w50.heap[gb395]? = some (.cells #[.int .i64 0, .int .i64 0, .string (⟨#[]⟩ : ByteArray)] 27 (0, 0))) := ⟨h3_⟩
     have GW395 : Aside0 (w.heap.size ≤ gb395) := ⟨h4_⟩
     have GE395 : Aside0 (w.heap.size ≤ gb395) := ⟨h5_⟩
     have NB368_395 : Aside0 (gb368 ≠ gb395) := ⟨h6_⟩
     have NB395_368 : Aside0 (gb395 ≠ gb368) := ⟨h7_⟩
     have NB369_395 : Aside0 (gb369 ≠ gb395) := ⟨h8_⟩
     have NB395_369 : Aside0 (gb395 ≠ gb369) := ⟨h9_⟩
     have NB383_395 : Aside0 (gb383 ≠ gb395) := ⟨h10_⟩
     have NB395_383 : Aside0 (gb395 ≠ gb383) := ⟨h11_⟩
     replace HB : Aside0 (Below w.heap.size w w50) := ⟨h12_⟩
     clear h0_ h1_ h2_ h3_ h4_ h5_ h6_ h7_ h8_ h9_ h10_ h11_ h12_
     have hHeld : w50.cell? ⟨gb368, 0, none⟩ = some (.int .i64 a0_0) ∧ w50.cell? ⟨gb368, 1, none⟩ = some (.int .i64 a0_1) ∧ w50.cell? ⟨gb368, 2, none⟩ = some (.string a0_2) ∧ w50.cell? ⟨gb369, 0, none⟩ = some (.int .i64 a1_0) ∧ w50.cell? ⟨gb369, 1, none⟩ = some (.int .i64 a1_1) ∧ w50.cell? ⟨gb369, 2, none⟩ = some (.int .i64 a1_2) ∧ w50.cell? ⟨gb369, 3, none⟩ = some (.string a1_3) := hS_
     refine norm_ (a' := ?_) ?_ ?_
     rotate_left
     ·simp only [putAll, Act.put, List.setIfInBounds_toArray, List.set_cons_zero, List.set_cons_succ]
      rfl
     refine one_ (i := 9) (N := none) #[true, true, true, true, true, true, true, true, true, true, false] rfl rfl (one_of HT_.out (by kernel_rfl)) (by decide) (fun K hK => ?_)
     have hs51 : w50.cell? ⟨gb395, 0, none⟩ = some (.int .i64 0) := (blk_cell BK395.out 0).trans rfl
     have hfs51 := blk_frozen BK395.out 0
     have hns51_0 := NB368_395.out
     have hns51_1 := NB369_395.out
     have hns51_2 := NB383_395.out
     have hms51_0 := NB395_368.out
     have hms51_1 := NB395_369.out
     have hms51_2 := NB395_383.out
     have hs52 : w50.cell? ⟨gb395, 1, none⟩ = some (.int .i64 0) := (blk_cell BK395.out 1).trans rfl
     have hfs52 := blk_frozen BK395.out 1
     have hns52_0 := NB368_395.out
     have hns52_1 := NB369_395.out
     have hns52_2 := NB383_395.out
     have hms52_0 := NB395_368.out
     have hms52_1 := NB395_369.out
     have hms52_2 := NB395_383.out
     have hs53 : w50.cell? ⟨gb395, 2, none⟩ = some (.string (⟨#[]⟩ : ByteArray)) := (blk_cell BK395.out 2).trans rfl
     have hfs53 := blk_frozen BK395.out 2
     have hns53_0 := NB368_395.out
     have hns53_1 := NB369_395.out
     have hns53_2 := NB383_395.out
     have hms53_0 := NB395_368.out
     have hms53_1 := NB395_369.out
     have hms53_2 := NB395_383.out
     refine skip_ (w1 := ?_) (by rfl) rfl ?_ ?_
     rotate_left
     ·go_simp
      rfl
     refine hK.out _ _ ⟨((cell_far (p := ⟨gb395, _, none⟩) NB368_395.out _).trans (((cell_far (p := ⟨gb395, _, none⟩) NB368_395.out _).trans (((cell_far (p := ⟨gb395, _, none⟩) NB368_395.out _).trans (hHeld.1)))))), ((cell_far (p := ⟨gb395, _, none⟩) NB368_395.out _).trans (((cell_far (p := ⟨gb395, _, none⟩) NB368_395.out _).trans (((cell_far (p := ⟨gb395, _, none⟩) NB368_395.out _).trans (hHeld.2.1)))))), ((cell_far (p := ⟨gb395, _, none⟩) NB368_395.out _).trans (((cell_far (p := ⟨gb395, _, none⟩) NB368_395.out _).trans (((cell_far (p := ⟨gb395, _, none⟩) NB368_395.out _).trans (hHeld.2.2.1)))))), ((cell_far (p := ⟨gb395, _, none⟩) NB369_395.out _).trans (((cell_far (p := ⟨gb395, _, none⟩) NB369_395.out _).trans (((cell_far (p := ⟨gb395, _, none⟩) NB369_395.out _).trans (hHeld.2.2.2.1)))))), ((cell_far (p := ⟨gb395, _, none⟩) NB369_395.out _).trans (((cell_far (p := ⟨gb395, _, none⟩) NB369_395.out _).trans (((cell_far (p := ⟨gb395, _, none⟩) NB369_395.out _).trans (hHeld.2.2.2.2.1)))))), ((cell_far (p := ⟨gb395, _, none⟩) NB369_395.out _).trans (((cell_far (p := ⟨gb395, _, none⟩) NB369_395.out _).trans (((cell_far (p := ⟨gb395, _, none⟩) NB369_395.out _).trans (hHeld.2.2.2.2.2.1)))))), ((cell_far (p := ⟨gb395, _, none⟩) NB369_395.out _).trans (((cell_far (p := ⟨gb395, _, none⟩) NB369_395.out _).trans (((cell_far (p := ⟨gb395, _, none⟩) NB369_395.out _).trans (hHeld.2.2.2.2.2.2))))))⟩ (fun hHeld => ?_)
     clear hK K
     refine pure_ (i := 10) (N := some 9) (v := ?_) (a' := ?_) #[true, true, true, true, true, true, true, true, true, true, true] rfl rfl (any_of HT_.out (by kernel_rfl)) (fun _ _ _ h => h) (Or.inl ⟨by rfl, ?_⟩) ?_ ?_
     rotate_left
     ·intro w'
      go_simp
      with_reducible rfl
     rotate_left
     ·simp only [Act.put, List.setIfInBounds_toArray, List.set_cons_zero, List.set_cons_succ, i64_w, i32_w]
      rfl
     refine done_ (done_of HT_.out (by kernel_rfl)) ?_
     have hnb54 := NB395_368.out
     have hnc54 := NB368_395.out
     have hnb55 := NB395_369.out
     have hnc55 := NB369_395.out
     have hnb56 := NB395_383.out
     have hnc56 := NB383_395.out
     obtain ⟨hcz57_0, hcz57_1, hcz57_2, hfz57_0, hfz57_1, hfz57_2⟩ := bk3 BK395.out
     have hnb58 := NB383_368.out
     have hnc58 := NB368_383.out
     have hnb59 := NB383_369.out
     have hnc59 := NB369_383.out
     obtain ⟨hcz60_0, hcz60_1, hcz60_2, hfz60_0, hfz60_1, hfz60_2⟩ := bk3 BK383.out
     try go_wp2_with (first | ((with_reducible refine gate_callee (f := 22) rfl ?_); refine goesL_ (some 38) rfl rfl Try.func22 (by kernel_rfl) rfl #[.agg #[.int .i64 t391, .int .i64 t392, .string t393], .agg #[.int .i64 t379, .int .i64 t380, .string t381]] rfl mpx ?_; (with_reducible refine (laws_eqMsg.calls t391 t392 t393 t379 t380 t381 true _ A25.out).mono ?_); rintro e w61 ⟨rfl, hb⟩; refine ⟨_, rfl, ?_⟩; replace BK368 := am (blk_below (g := gb368) (o := .cells #[.int .i64 a0_0, .int .i64 a0_1, .string a0_2] 24 (0, 0)) (by (with_reducible repeat (first | refine blk_drewN ?_ _ | refine blk_drew ?_ | refine blk_alloc ?_ _)); refine blk_far ?_ NB368_395.out _; (with_reducible repeat (first | refine blk_drewN ?_ _ | refine blk_drew ?_ | refine blk_alloc ?_ _)); refine blk_far ?_ NB368_395.out _; (with_reducible repeat (first | refine blk_drewN ?_ _ | refine blk_drew ?_ | refine blk_alloc ?_ _)); refine blk_far ?_ NB368_395.out _; exact pkK BK368.out) hb); replace BK369 := am (blk_below (g := gb369) (o := .cells #[.int .i64 a1_0, .int .i64 a1_1, .int .i64 a1_2, .string a1_3] 41 (0, 0)) (by (with_reducible repeat (first | refine blk_drewN ?_ _ | refine blk_drew ?_ | refine blk_alloc ?_ _)); refine blk_far ?_ NB369_395.out _; (with_reducible repeat (first | refine blk_drewN ?_ _ | refine blk_drew ?_ | refine blk_alloc ?_ _)); refine blk_far ?_ NB369_395.out _; (with_reducible repeat (first | refine blk_drewN ?_ _ | refine blk_drew ?_ | refine blk_alloc ?_ _)); refine blk_far ?_ NB369_395.out _; exact pkK BK369.out) hb); replace BK383 := am (blk_below (g := gb383) (o := .cells #[.int .i64 t379, .int .i64 t380, .string t381] 27 (0, 0)) (by (with_reducible repeat (first | refine blk_drewN ?_ _ | refine blk_drew ?_ | refine blk_alloc ?_ _)); refine blk_far ?_ NB383_395.out _; (with_reducible repeat (first | refine blk_drewN ?_ _ | refine blk_drew ?_ | refine blk_alloc ?_ _)); refine blk_far ?_ NB383_395.out _; (with_reducible repeat (first | refine blk_drewN ?_ _ | refine blk_drew ?_ | refine blk_alloc ?_ _)); refine blk_far ?_ NB383_395.out _; exact pkK BK383.out) hb); replace BK395 := am (blk_below (g := gb395) (o := .cells #[.int .i64 t391, .int .i64 t392, .string t393] 27 (0, 0)) (by (with_reducible repeat (first | refine blk_drewN ?_ _ | refine blk_drew ?_ | refine blk_alloc ?_ _)); refine blk_put (cs := #[.int .i64 t391, .int .i64 t392, .string (⟨#[]⟩ : ByteArray)]) ?_ 2 _ rfl; (with_reducible repeat (first | refine blk_drewN ?_ _ | refine blk_drew ?_ | refine blk_alloc ?_ _)); refine blk_put (cs := #[.int .i64 t391, .int .i64 0, .string (⟨#[]⟩ : ByteArray)]) ?_ 1 _ rfl; (with_reducible repeat (first | refine blk_drewN ?_ _ | refine blk_drew ?_ | refine blk_alloc ?_ _)); refine blk_put (cs := #[.int .i64 0, .int .i64 0, .string (⟨#[]⟩ : ByteArray)]) ?_ 0 _ rfl; exact pkK BK395.out) hb); replace HB := am (below_step (pkW HB.out) hb); (try clear hb)))
     go_ret
     exact ⟨rfe, pkW HB.out⟩
   ·replace c26 := Bool.eq_false_iff.mpr c26
    subst c26
    replace H : (some false) = some r := by rw [if_neg (show ¬ (false = true) by decide)] at H; exact H
    exact absurd (Option.some.inj H) (by rw [HQ_.out]; simp)
end Go.Proofs.Ytalehmhjddnmoaa.Z
