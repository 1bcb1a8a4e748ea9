/- The Go functions laws_FnExactMsgOk as Lean functions, each with a proof that its code comes to just these answers; conditions: those of each theorem. -/
import Derived.Test.YtalehmhjddnmoaaZx0
import Derived.Test.YtalehmhjddnmoaaZx2
import Derived.Test.YtalehmhjddnmoaaZx4
import Derived.Test.YtalehmhjddnmoaaZx6
namespace Go.Proofs.Ytalehmhjddnmoaa.Z
open Go.RowKit Go.Proofs.YtalehmhjddnmoaaW.PrintWords Go.Proofs.YtalehmhjddnmoaaW.PrintLast Go.Proofs.YtalehmhjddnmoaaW.PrintMore
attribute [local go_sem] max2_int min2_int max_two min_two max_three min_three max_four min_four   -- for this text's walks alone
set_option linter.unusedVariables false
set_option linter.unusedSimpArgs false
def laws_FnExactMsgOk.f (k : Nat) (a0_0 : Int) (a0_1 : Int) (a0_2 : ByteArray) : Option (Bool) := (laws_szMsg.f a0_0 a0_1 a0_2 1048576).bind fun t112 => (if t112 < 0 then (some true) else ((laws_toMsg.f a0_0 a0_1 a0_2).bind fun bt113 => ((spec_MsgOk.f k bt113.1 bt113.2.1 bt113.2.2).bind fun t116 => ((laws_toMsg.f a0_0 a0_1 a0_2).bind fun bt117 => ((impl_MsgOk.f k bt117.1 bt117.2.1 bt117.2.2).bind fun t120 => (if (t120 != t116) = true then (some false) else (some true)))))))
theorem laws_FnExactMsgOk.mono : ∀ a0 a1 a2 k, LeO (laws_FnExactMsgOk.f k a0 a1 a2) (laws_FnExactMsgOk.f (k + 1) a0 a1 a2) := by
 intro a0 a1 a2 k
 unfold laws_FnExactMsgOk.f
 repeat' first
   | (with_reducible exact impl_MsgOk.mono _ _ _ _)
   | (with_reducible exact spec_MsgOk.mono _ _ _ _)
   | (with_reducible exact LeO.refl _)
   | (with_reducible exact LeO.none _)
   | (with_reducible refine LeO.ite ?_ ?_)
   | (with_reducible refine LeO.bind ?_ (fun _ => ?_))
set_option maxHeartbeats 8000000 in
set_option maxRecDepth 100000 in
theorem laws_FnExactMsgOk.calls (k : Nat) (a0_0 : Int) (a0_1 : Int) (a0_2 : ByteArray) (r : Bool) (w : World) (HQ_ : Aside0 (r = true)) (h : laws_FnExactMsgOk.f k a0_0 a0_1 a0_2 = some r) :
  Calls Try.prog 4 #[.agg #[.int .i64 a0_0, .int .i64 a0_1, .string a0_2]] w fun e w' => e = .returned (.bool r) ∧ Below w.heap.size w w' := by
 have hu24 := Try.underlying24
 have HB := am (Below.refl w.heap.size w)
 have H : ((laws_szMsg.f a0_0 a0_1 a0_2 1048576).bind fun t112 => (if t112 < 0 then (some true) else ((laws_toMsg.f a0_0 a0_1 a0_2).bind fun bt113 => ((spec_MsgOk.f k bt113.1 bt113.2.1 bt113.2.2).bind fun t116 => ((laws_toMsg.f a0_0 a0_1 a0_2).bind fun bt117 => ((impl_MsgOk.f k bt117.1 bt117.2.1 bt117.2.2).bind fun t120 => (if (t120 != t116) = true then (some false) else (some true)))))))) = some r := h
 clear h
 replace H := Option.bind_eq_some_iff.mp H
 obtain ⟨t112, A20, H⟩ := H
 replace H : (if t112 < 0 then (some true) else ((laws_toMsg.f a0_0 a0_1 a0_2).bind fun bt113 => ((spec_MsgOk.f k bt113.1 bt113.2.1 bt113.2.2).bind fun t116 => ((laws_toMsg.f a0_0 a0_1 a0_2).bind fun bt117 => ((impl_MsgOk.f k bt117.1 bt117.2.1 bt117.2.2).bind fun t120 => (if (t120 != t116) = true then (some false) else (some true))))))) = some r := H
 have A2 := am A20
 clear A20
 by_cases c3 : t112 < 0
 ·rw [if_pos c3] at H
  have c3b0 : decide (t112 < 0) = true := decide_eq_true c3
  clear c3
  obtain rfl := Option.some.inj H
  go_enter Try.func4, Try.ntmps4
  go_wp2_with (first | ((with_reducible refine gate_dst (N := 1) rfl ?_); refine box_event ?hg (N := 1) ?hd (cs := #[.int .i64 a0_0, .int .i64 a0_1, .string a0_2]) (t := 24) ?hr ?_; (case hd => rfl); (case hg => rfl); (case hr => first | (go_simp; done) | (go_simp; rfl)); intro gb111 hg w4 hbox hb; have BK111 := am (hbox); have GW111 := am ((by rw [hg]; exact (below_size (pkB HB.out)) : w.heap.size ≤ gb111)); have GE111 := am ((by rw [hg]; exact (below_size (pkB HB.out)) : w.heap.size ≤ gb111)); replace HB := am (below_step (pkB HB.out) hb); clear hb hbox hg; obtain ⟨hcz5_0, hcz5_1, hcz5_2, hfz5_0, hfz5_1, hfz5_2⟩ := bk3 BK111.out) | ((with_reducible refine gate_callee (f := 12) rfl ?_); refine goesL_ (some 8) rfl rfl Try.func12 (by kernel_rfl) rfl #[.agg #[.int .i64 a0_0, .int .i64 a0_1, .string a0_2], .int .i64 1048576] rfl mpx ?_; (with_reducible refine (laws_szMsg.calls a0_0 a0_1 a0_2 1048576 t112 _ A2.out).mono ?_); rintro e w6 ⟨rfl, hb⟩; refine ⟨_, rfl, ?_⟩; replace BK111 := am (blk_below (pkK BK111.out) hb); replace HB := am (below_step (pkW HB.out) hb); (try clear hb)))
  go_ret
  exact ⟨rfe, pkW HB.out⟩
 ·rw [if_neg c3] at H
  have c3b0 : decide (t112 < 0) = false := decide_eq_false c3
  clear c3
  replace H := Option.bind_eq_some_iff.mp H
  obtain ⟨⟨t113, t114, t115⟩, A70, H⟩ := H
  replace H : ((spec_MsgOk.f k t113 t114 t115).bind fun t116 => ((laws_toMsg.f a0_0 a0_1 a0_2).bind fun bt117 => ((impl_MsgOk.f k bt117.1 bt117.2.1 bt117.2.2).bind fun t120 => (if (t120 != t116) = true then (some false) else (some true))))) = some r := H
  have A7 := am A70
  clear A70
  replace H := Option.bind_eq_some_iff.mp H
  obtain ⟨t116, A80, H⟩ := H
  replace H : ((laws_toMsg.f a0_0 a0_1 a0_2).bind fun bt117 => ((impl_MsgOk.f k bt117.1 bt117.2.1 bt117.2.2).bind fun t120 => (if (t120 != t116) = true then (some false) else (some true)))) = some r := H
  have A8 := am A80
  clear A80
  replace H := Option.bind_eq_some_iff.mp H
  obtain ⟨⟨t117, t118, t119⟩, A90, H⟩ := H
  replace H : ((impl_MsgOk.f k t117 t118 t119).bind fun t120 => (if (t120 != t116) = true then (some false) else (some true))) = some r := H
  have A9 := am A90
  clear A90
  replace H := Option.bind_eq_some_iff.mp H
  obtain ⟨t120, A100, H⟩ := H
  replace H : (if (t120 != t116) = true then (some false) else (some true)) = some r := H
  have A10 := am A100
  clear A100
  by_cases c11 : (t120 != t116) = true
  ·rw [if_pos c11] at H
   have c11b0 : (t120 != t116) = true := c11
   (try (have c11b1 : decide (t120 = t116) = false := by simpa using c11))
   (try (have c11b2 : (t120 == t116) = false := by first | exact bq_t c11 | exact bq_f c11 | simpa using c11))
   (try (have c11b3 : ¬ (t120 = t116) := by simpa using c11))
   clear c11
   exact absurd (Option.some.inj H) (by rw [HQ_.out]; simp)
  ·rw [if_neg c11] at H
   have c11b0 : (t120 != t116) = false := by simpa using c11
   (try (have c11b1 : decide (t120 = t116) = true := by simpa using c11))
   (try (have c11b2 : (t120 == t116) = true := by first | exact bq_t c11 | exact bq_f c11 | simpa using c11))
   clear c11
   obtain rfl := Option.some.inj H
   go_enter Try.func4, Try.ntmps4
   go_wp2_with (first | ((with_reducible refine gate_dst (N := 1) rfl ?_); refine box_event ?hg (N := 1) ?hd (cs := #[.int .i64 a0_0, .int .i64 a0_1, .string a0_2]) (t := 24) ?hr ?_; (case hd => rfl); (case hg => rfl); (case hr => first | (go_simp; done) | (go_simp; rfl)); intro gb111 hg w12 hbox hb; have BK111 := am (hbox); have GW111 := am ((by rw [hg]; exact (below_size (pkB HB.out)) : w.heap.size ≤ gb111)); have GE111 := am ((by rw [hg]; exact (below_size (pkB HB.out)) : w.heap.size ≤ gb111)); replace HB := am (below_step (pkB HB.out) hb); clear hb hbox hg; obtain ⟨hcz13_0, hcz13_1, hcz13_2, hfz13_0, hfz13_1, hfz13_2⟩ := bk3 BK111.out) | ((with_reducible refine gate_callee (f := 12) rfl ?_); refine goesL_ (some 8) rfl rfl Try.func12 (by kernel_rfl) rfl #[.agg #[.int .i64 a0_0, .int .i64 a0_1, .string a0_2], .int .i64 1048576] rfl mpx ?_; (with_reducible refine (laws_szMsg.calls a0_0 a0_1 a0_2 1048576 t112 _ A2.out).mono ?_); rintro e w14 ⟨rfl, hb⟩; refine ⟨_, rfl, ?_⟩; replace BK111 := am (blk_below (pkK BK111.out) hb); replace HB := am (below_step (pkW HB.out) hb); (try clear hb); obtain ⟨hcz15_0, hcz15_1, hcz15_2, hfz15_0, hfz15_1, hfz15_2⟩ := bk3 BK111.out) | ((with_reducible refine gate_callee (f := 14) rfl ?_); refine goesL_ (some 12) rfl rfl Try.func14 (by kernel_rfl) rfl #[.agg #[.int .i64 a0_0, .int .i64 a0_1, .string a0_2]] rfl mpx ?_; (with_reducible refine (laws_toMsg.calls a0_0 a0_1 a0_2 t113 t114 t115 _ A7.out).mono ?_); rintro e w16 ⟨rfl, hb⟩; refine ⟨_, rfl, ?_⟩; replace BK111 := am (blk_below (pkK BK111.out) hb); replace HB := am (below_step (pkW HB.out) hb); (try clear hb)) | ((with_reducible refine gate_callee (f := 13) rfl ?_); refine goesL_ (some 13) rfl rfl Try.func13 (by kernel_rfl) rfl #[.agg #[.int .i64 t113, .int .i64 t114, .string t115]] rfl mpx ?_; (with_reducible refine (spec_MsgOk.calls k t113 t114 t115 t116 _ A8.out).mono ?_); rintro e w17 ⟨rfl, hb⟩; refine ⟨_, rfl, ?_⟩; replace BK111 := am (blk_below (pkK BK111.out) hb); replace HB := am (below_step (pkW HB.out) hb); (try clear hb); obtain ⟨hcz18_0, hcz18_1, hcz18_2, hfz18_0, hfz18_1, hfz18_2⟩ := bk3 BK111.out) | ((with_reducible refine gate_callee (f := 14) rfl ?_); refine goesL_ (some 15) rfl rfl Try.func14 (by kernel_rfl) rfl #[.agg #[.int .i64 a0_0, .int .i64 a0_1, .string a0_2]] rfl mpx ?_; (with_reducible refine (laws_toMsg.calls a0_0 a0_1 a0_2 t117 t118 t119 _ A9.out).mono ?_); rintro e w19 ⟨rfl, hb⟩; refine ⟨_, rfl, ?_⟩; replace BK111 := am (blk_below (pkK BK111.out) hb); replace HB := am (below_step (pkW HB.out) hb); (try clear hb)) | ((with_reducible refine gate_callee (f := 15) rfl ?_); refine goesL_ (some 16) rfl rfl Try.func15 (by kernel_rfl) rfl #[.agg #[.int .i64 t117, .int .i64 t118, .string t119]] rfl mpx ?_; (with_reducible refine (impl_MsgOk.calls k t117 t118 t119 t120 _ A10.out).mono ?_); rintro e w20 ⟨rfl, hb⟩; refine ⟨_, rfl, ?_⟩; replace BK111 := am (blk_below (pkK BK111.out) hb); replace HB := am (below_step (pkW HB.out) hb); (try clear hb)))
   go_ret
   exact ⟨rfe, pkW HB.out⟩
end Go.Proofs.Ytalehmhjddnmoaa.Z
