/- The Go functions laws_FnExactMsgText as Lean functions, each with a proof that its code comes to just these answers; conditions: those of each theorem. -/
import Derived.Test.YtalehmhjddnmoaaZx0
import Derived.Test.YtalehmhjddnmoaaZx2
import Derived.Test.YtalehmhjddnmoaaZx4
import Derived.Test.YtalehmhjddnmoaaZx8
import Derived.Test.YtalehmhjddnmoaaZx10
namespace Go.Proofs.Ytalehmhjddnmoaa.Z
open Go.RowKit Go.Proofs.YtalehmhjddnmoaaW.PrintWords Go.Proofs.YtalehmhjddnmoaaW.PrintLast Go.Proofs.YtalehmhjddnmoaaW.PrintMore
attribute [local go_sem] max2_int min2_int max_two min_two max_three min_three max_four min_four   -- for this text's walks alone
set_option linter.unusedVariables false
set_option linter.unusedSimpArgs false
def laws_FnExactMsgText.f (k : Nat) (a0_0 : Int) (a0_1 : Int) (a0_2 : ByteArray) : Option (Bool) := (laws_szMsg.f a0_0 a0_1 a0_2 1048576).bind fun t138 => (if t138 < 0 then (some true) else ((laws_toMsg.f a0_0 a0_1 a0_2).bind fun bt139 => ((spec_MsgText.f k bt139.1 bt139.2.1 bt139.2.2).bind fun t142 => ((laws_toMsg.f a0_0 a0_1 a0_2).bind fun bt143 => ((impl_MsgText.f k bt143.1 bt143.2.1 bt143.2.2).bind fun t146 => (if t146.toList = t142.toList then (some true) else (some false)))))))
theorem laws_FnExactMsgText.mono : ∀ a0 a1 a2 k, LeO (laws_FnExactMsgText.f k a0 a1 a2) (laws_FnExactMsgText.f (k + 1) a0 a1 a2) := by
 intro a0 a1 a2 k
 unfold laws_FnExactMsgText.f
 repeat' first
   | (with_reducible exact impl_MsgText.mono _ _ _ _)
   | (with_reducible exact spec_MsgText.mono _ _ _ _)
   | (with_reducible exact LeO.refl _)
   | (with_reducible exact LeO.none _)
   | (with_reducible refine LeO.ite ?_ ?_)
   | (with_reducible refine LeO.bind ?_ (fun _ => ?_))
set_option maxHeartbeats 8000000 in
set_option maxRecDepth 100000 in
theorem laws_FnExactMsgText.calls (k : Nat) (a0_0 : Int) (a0_1 : Int) (a0_2 : ByteArray) (r : Bool) (w : World) (HQ_ : Aside0 (r = true)) (h : laws_FnExactMsgText.f k a0_0 a0_1 a0_2 = some r) :
  Calls Try.prog 5 #[.agg #[.int .i64 a0_0, .int .i64 a0_1, .string a0_2]] w fun e w' => e = .returned (.bool r) ∧ Below w.heap.size w w' := by
 have hu24 := Try.underlying24
 have HB := am (Below.refl w.heap.size w)
 have H : ((laws_szMsg.f a0_0 a0_1 a0_2 1048576).bind fun t138 => (if t138 < 0 then (some true) else ((laws_toMsg.f a0_0 a0_1 a0_2).bind fun bt139 => ((spec_MsgText.f k bt139.1 bt139.2.1 bt139.2.2).bind fun t142 => ((laws_toMsg.f a0_0 a0_1 a0_2).bind fun bt143 => ((impl_MsgText.f k bt143.1 bt143.2.1 bt143.2.2).bind fun t146 => (if t146.toList = t142.toList then (some true) else (some false)))))))) = some r := h
 clear h
 replace H := Option.bind_eq_some_iff.mp H
 obtain ⟨t138, A20, H⟩ := H
 replace H : (if t138 < 0 then (some true) else ((laws_toMsg.f a0_0 a0_1 a0_2).bind fun bt139 => ((spec_MsgText.f k bt139.1 bt139.2.1 bt139.2.2).bind fun t142 => ((laws_toMsg.f a0_0 a0_1 a0_2).bind fun bt143 => ((impl_MsgText.f k bt143.1 bt143.2.1 bt143.2.2).bind fun t146 => (if t146.toList = t142.toList then (some true) else (some false))))))) = some r := H
 have A2 := am A20
 clear A20
 by_cases c3 : t138 < 0
 ·rw [if_pos c3] at H
  have c3b0 : decide (t138 < 0) = true := decide_eq_true c3
  clear c3
  obtain rfl := Option.some.inj H
  go_enter Try.func5, Try.ntmps5
  go_wp2_with (first | ((with_reducible refine gate_dst (N := 1) rfl ?_); refine box_event ?hg (N := 1) ?hd (cs := #[.int .i64 a0_0, .int .i64 a0_1, .string a0_2]) (t := 24) ?hr ?_; (case hd => rfl); (case hg => rfl); (case hr => first | (go_simp; done) | (go_simp; rfl)); intro gb137 hg w4 hbox hb; have BK137 := am (hbox); have GW137 := am ((by rw [hg]; exact (below_size (pkB HB.out)) : w.heap.size ≤ gb137)); have GE137 := am ((by rw [hg]; exact (below_size (pkB HB.out)) : w.heap.size ≤ gb137)); replace HB := am (below_step (pkB HB.out) hb); clear hb hbox hg; obtain ⟨hcz5_0, hcz5_1, hcz5_2, hfz5_0, hfz5_1, hfz5_2⟩ := bk3 BK137.out) | ((with_reducible refine gate_callee (f := 12) rfl ?_); refine goesL_ (some 8) rfl rfl Try.func12 (by kernel_rfl) rfl #[.agg #[.int .i64 a0_0, .int .i64 a0_1, .string a0_2], .int .i64 1048576] rfl mpx ?_; (with_reducible refine (laws_szMsg.calls a0_0 a0_1 a0_2 1048576 t138 _ A2.out).mono ?_); rintro e w6 ⟨rfl, hb⟩; refine ⟨_, rfl, ?_⟩; replace BK137 := am (blk_below (pkK BK137.out) hb); replace HB := am (below_step (pkW HB.out) hb); (try clear hb)))
  go_ret
  exact ⟨rfe, pkW HB.out⟩
 ·rw [if_neg c3] at H
  have c3b0 : decide (t138 < 0) = false := decide_eq_false c3
  clear c3
  replace H := Option.bind_eq_some_iff.mp H
  obtain ⟨⟨t139, t140, t141⟩, A70, H⟩ := H
  replace H : ((spec_MsgText.f k t139 t140 t141).bind fun t142 => ((laws_toMsg.f a0_0 a0_1 a0_2).bind fun bt143 => ((impl_MsgText.f k bt143.1 bt143.2.1 bt143.2.2).bind fun t146 => (if t146.toList = t142.toList then (some true) else (some false))))) = some r := H
  have A7 := am A70
  clear A70
  replace H := Option.bind_eq_some_iff.mp H
  obtain ⟨t142, A80, H⟩ := H
  replace H : ((laws_toMsg.f a0_0 a0_1 a0_2).bind fun bt143 => ((impl_MsgText.f k bt143.1 bt143.2.1 bt143.2.2).bind fun t146 => (if t146.toList = t142.toList then (some true) else (some false)))) = some r := H
  have A8 := am A80
  clear A80
  replace H := Option.bind_eq_some_iff.mp H
  obtain ⟨⟨t143, t144, t145⟩, A90, H⟩ := H
  replace H : ((impl_MsgText.f k t143 t144 t145).bind fun t146 => (if t146.toList = t142.toList then (some true) else (some false))) = some r := H
  have A9 := am A90
  clear A90
  replace H := Option.bind_eq_some_iff.mp H
  obtain ⟨t146, A100, H⟩ := H
  replace H : (if t146.toList = t142.toList then (some true) else (some false)) = some r := H
  have A10 := am A100
  clear A100
  by_cases c11 : t146.toList = t142.toList
  ·rw [if_pos c11] at H
   have c11b0 : (t146.toList == t142.toList) = true := beq_iff_eq.mpr c11
   have c11b1 : (t146.toList != t142.toList) = false := bne_eq_false_iff_eq.mpr c11
   clear c11
   obtain rfl := Option.some.inj H
   go_enter Try.func5, Try.ntmps5
   go_wp2_with (first | ((with_reducible refine gate_dst (N := 1) rfl ?_); refine box_event ?hg (N := 1) ?hd (cs := #[.int .i64 a0_0, .int .i64 a0_1, .string a0_2]) (t := 24) ?hr ?_; (case hd => rfl); (case hg => rfl); (case hr => first | (go_simp; done) | (go_simp; rfl)); intro gb137 hg w12 hbox hb; have BK137 := am (hbox); have GW137 := am ((by rw [hg]; exact (below_size (pkB HB.out)) : w.heap.size ≤ gb137)); have GE137 := am ((by rw [hg]; exact (below_size (pkB HB.out)) : w.heap.size ≤ gb137)); replace HB := am (below_step (pkB HB.out) hb); clear hb hbox hg; obtain ⟨hcz13_0, hcz13_1, hcz13_2, hfz13_0, hfz13_1, hfz13_2⟩ := bk3 BK137.out) | ((with_reducible refine gate_callee (f := 12) rfl ?_); refine goesL_ (some 8) rfl rfl Try.func12 (by kernel_rfl) rfl #[.agg #[.int .i64 a0_0, .int .i64 a0_1, .string a0_2], .int .i64 1048576] rfl mpx ?_; (with_reducible refine (laws_szMsg.calls a0_0 a0_1 a0_2 1048576 t138 _ A2.out).mono ?_); rintro e w14 ⟨rfl, hb⟩; refine ⟨_, rfl, ?_⟩; replace BK137 := am (blk_below (pkK BK137.out) hb); replace HB := am (below_step (pkW HB.out) hb); (try clear hb); obtain ⟨hcz15_0, hcz15_1, hcz15_2, hfz15_0, hfz15_1, hfz15_2⟩ := bk3 BK137.out) | ((with_reducible refine gate_callee (f := 14) rfl ?_); refine goesL_ (some 12) rfl rfl Try.func14 (by kernel_rfl) rfl #[.agg #[.int .i64 a0_0, .int .i64 a0_1, .string a0_2]] rfl mpx ?_; (with_reducible refine (laws_toMsg.calls a0_0 a0_1 a0_2 t139 t140 t141 _ A7.out).mono ?_); rintro e w16 ⟨rfl, hb⟩; refine ⟨_, rfl, ?_⟩; replace BK137 := am (blk_below (pkK BK137.out) hb); replace HB := am (below_step (pkW HB.out) hb); (try clear hb)) | ((with_reducible refine gate_callee (f := 16) rfl ?_); refine goesL_ (some 13) rfl rfl Try.func16 (by kernel_rfl) rfl #[.agg #[.int .i64 t139, .int .i64 t140, .string t141]] rfl mpx ?_; (with_reducible refine (spec_MsgText.calls k t139 t140 t141 t142 _ A8.out).mono ?_); rintro e w17 ⟨rfl, hb⟩; refine ⟨_, rfl, ?_⟩; replace BK137 := am (blk_below (pkK BK137.out) hb); replace HB := am (below_step (pkW HB.out) hb); (try clear hb); obtain ⟨hcz18_0, hcz18_1, hcz18_2, hfz18_0, hfz18_1, hfz18_2⟩ := bk3 BK137.out) | ((with_reducible refine gate_callee (f := 14) rfl ?_); refine goesL_ (some 15) rfl rfl Try.func14 (by kernel_rfl) rfl #[.agg #[.int .i64 a0_0, .int .i64 a0_1, .string a0_2]] rfl mpx ?_; (with_reducible refine (laws_toMsg.calls a0_0 a0_1 a0_2 t143 t144 t145 _ A9.out).mono ?_); rintro e w19 ⟨rfl, hb⟩; refine ⟨_, rfl, ?_⟩; replace BK137 := am (blk_below (pkK BK137.out) hb); replace HB := am (below_step (pkW HB.out) hb); (try clear hb)) | ((with_reducible refine gate_callee (f := 17) rfl ?_); refine goesL_ (some 16) rfl rfl Try.func17 (by kernel_rfl) rfl #[.agg #[.int .i64 t143, .int .i64 t144, .string t145]] rfl mpx ?_; (with_reducible refine (impl_MsgText.calls k t143 t144 t145 t146 _ A10.out).mono ?_); rintro e w20 ⟨rfl, hb⟩; refine ⟨_, rfl, ?_⟩; replace BK137 := am (blk_below (pkK BK137.out) hb); replace HB := am (below_step (pkW HB.out) hb); (try clear hb)))
   go_ret
   exact ⟨rfe, pkW HB.out⟩
  ·rw [if_neg c11] at H
   have c11b0 : (t146.toList == t142.toList) = false := beq_eq_false_iff_ne.mpr c11
   have c11b1 : (t146.toList != t142.toList) = true := bne_iff_ne.mpr c11
   exact absurd (Option.some.inj H) (by rw [HQ_.out]; simp)
end Go.Proofs.Ytalehmhjddnmoaa.Z
