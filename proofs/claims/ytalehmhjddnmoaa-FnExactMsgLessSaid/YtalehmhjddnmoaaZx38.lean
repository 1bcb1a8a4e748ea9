/- The Go functions laws_FnExactMsgLess as Lean functions, each with a proof that its code comes to just these answers; conditions: those of each theorem. -/
import Derived.Test.YtalehmhjddnmoaaZx0
import Derived.Test.YtalehmhjddnmoaaZx2
import Derived.Test.YtalehmhjddnmoaaZx4
import Derived.Test.YtalehmhjddnmoaaZx11
import Derived.Test.YtalehmhjddnmoaaZx14
namespace Go.Proofs.Ytalehmhjddnmoaa.Z
open Go.RowKit Go.Proofs.YtalehmhjddnmoaaW.PrintWords Go.Proofs.YtalehmhjddnmoaaW.PrintLast Go.Proofs.YtalehmhjddnmoaaW.PrintMore
attribute [local go_sem] max2_int min2_int max_two min_two max_three min_three max_four min_four   -- for this text's walks alone
set_option linter.unusedVariables false
set_option linter.unusedSimpArgs false
def laws_FnExactMsgLess.f (k : Nat) (a0_0 : Int) (a0_1 : Int) (a0_2 : ByteArray) (a1_0 : Int) (a1_1 : Int) (a1_2 : ByteArray) : Option (Bool) := (laws_szMsg.f a0_0 a0_1 a0_2 1048576).bind fun t163 => (if t163 < 0 then (some true) else ((laws_szMsg.f a1_0 a1_1 a1_2 t163).bind fun t164 => (if t164 < 0 then (some true) else ((laws_toMsg.f a0_0 a0_1 a0_2).bind fun bt165 => ((laws_toMsg.f a1_0 a1_1 a1_2).bind fun bt168 => ((spec_MsgLess.f k bt165.1 bt165.2.1 bt165.2.2 bt168.1 bt168.2.1 bt168.2.2).bind fun t171 => ((laws_toMsg.f a0_0 a0_1 a0_2).bind fun bt172 => ((laws_toMsg.f a1_0 a1_1 a1_2).bind fun bt175 => ((impl_MsgLess.f k bt172.1 bt172.2.1 bt172.2.2 bt175.1 bt175.2.1 bt175.2.2).bind fun t178 => (if (t178 != t171) = true then (some false) else (some true)))))))))))
theorem laws_FnExactMsgLess.mono : ∀ a0 a1 a2 a3 a4 a5 k, LeO (laws_FnExactMsgLess.f k a0 a1 a2 a3 a4 a5) (laws_FnExactMsgLess.f (k + 1) a0 a1 a2 a3 a4 a5) := by
 intro a0 a1 a2 a3 a4 a5 k
 unfold laws_FnExactMsgLess.f
 repeat' first
   | (with_reducible exact impl_MsgLess.mono _ _ _ _ _ _ _)
   | (with_reducible exact spec_MsgLess.mono _ _ _ _ _ _ _)
   | (with_reducible exact LeO.refl _)
   | (with_reducible exact LeO.none _)
   | (with_reducible refine LeO.ite ?_ ?_)
   | (with_reducible refine LeO.bind ?_ (fun _ => ?_))
set_option maxHeartbeats 8000000 in
set_option maxRecDepth 100000 in
theorem laws_FnExactMsgLess.calls (k : Nat) (a0_0 : Int) (a0_1 : Int) (a0_2 : ByteArray) (a1_0 : Int) (a1_1 : Int) (a1_2 : ByteArray) (r : Bool) (w : World) (HQ_ : Aside0 (r = true)) (h : laws_FnExactMsgLess.f k a0_0 a0_1 a0_2 a1_0 a1_1 a1_2 = some r) :
  Calls Try.prog 6 #[.agg #[.int .i64 a0_0, .int .i64 a0_1, .string a0_2], .agg #[.int .i64 a1_0, .int .i64 a1_1, .string a1_2]] w fun e w' => e = .returned (.bool r) ∧ Below w.heap.size w w' := by
 have hu24 := Try.underlying24
 have HB := am (Below.refl w.heap.size w)
 have H : ((laws_szMsg.f a0_0 a0_1 a0_2 1048576).bind fun t163 => (if t163 < 0 then (some true) else ((laws_szMsg.f a1_0 a1_1 a1_2 t163).bind fun t164 => (if t164 < 0 then (some true) else ((laws_toMsg.f a0_0 a0_1 a0_2).bind fun bt165 => ((laws_toMsg.f a1_0 a1_1 a1_2).bind fun bt168 => ((spec_MsgLess.f k bt165.1 bt165.2.1 bt165.2.2 bt168.1 bt168.2.1 bt168.2.2).bind fun t171 => ((laws_toMsg.f a0_0 a0_1 a0_2).bind fun bt172 => ((laws_toMsg.f a1_0 a1_1 a1_2).bind fun bt175 => ((impl_MsgLess.f k bt172.1 bt172.2.1 bt172.2.2 bt175.1 bt175.2.1 bt175.2.2).bind fun t178 => (if (t178 != t171) = true then (some false) else (some true)))))))))))) = some r := h
 clear h
 replace H := Option.bind_eq_some_iff.mp H
 obtain ⟨t163, A30, H⟩ := H
 replace H : (if t163 < 0 then (some true) else ((laws_szMsg.f a1_0 a1_1 a1_2 t163).bind fun t164 => (if t164 < 0 then (some true) else ((laws_toMsg.f a0_0 a0_1 a0_2).bind fun bt165 => ((laws_toMsg.f a1_0 a1_1 a1_2).bind fun bt168 => ((spec_MsgLess.f k bt165.1 bt165.2.1 bt165.2.2 bt168.1 bt168.2.1 bt168.2.2).bind fun t171 => ((laws_toMsg.f a0_0 a0_1 a0_2).bind fun bt172 => ((laws_toMsg.f a1_0 a1_1 a1_2).bind fun bt175 => ((impl_MsgLess.f k bt172.1 bt172.2.1 bt172.2.2 bt175.1 bt175.2.1 bt175.2.2).bind fun t178 => (if (t178 != t171) = true then (some false) else (some true))))))))))) = some r := H
 have A3 := am A30
 clear A30
 by_cases c4 : t163 < 0
 ·rw [if_pos c4] at H
  have c4b0 : decide (t163 < 0) = true := decide_eq_true c4
  clear c4
  obtain rfl := Option.some.inj H
  go_enter Try.func6, Try.ntmps6
  go_wp2_with (first | ((with_reducible refine gate_dst (N := 2) rfl ?_); refine box_event ?hg (N := 2) ?hd (cs := #[.int .i64 a0_0, .int .i64 a0_1, .string a0_2]) (t := 24) ?hr ?_; (case hd => rfl); (case hg => rfl); (case hr => first | (go_simp; done) | (go_simp; rfl)); intro gb161 hg w5 hbox hb; have BK161 := am (hbox); have GW161 := am ((by rw [hg]; exact (below_size (pkB HB.out)) : w.heap.size ≤ gb161)); have GE161 := am ((by rw [hg]; exact (below_size (pkB HB.out)) : w.heap.size ≤ gb161)); replace HB := am (below_step (pkB HB.out) hb); clear hb hbox hg) | ((with_reducible refine gate_dst (N := 3) rfl ?_); refine box_event ?hg (N := 3) ?hd (cs := #[.int .i64 a1_0, .int .i64 a1_1, .string a1_2]) (t := 24) ?hr ?_; (case hd => rfl); (case hg => rfl); (case hr => first | (go_simp; done) | (go_simp; rfl)); intro gb162 hg w6 hbox hb; have BK162 := am (hbox); have GW162 := am ((by rw [hg]; exact (below_size (pkW HB.out)) : w.heap.size ≤ gb162)); have GE162 := am ((by rw [hg]; exact (below_size (pkW HB.out)) : w.heap.size ≤ gb162)); replace HB := am (below_step (pkW HB.out) hb); have NB161_162 := am ((by rw [hg]; exact Nat.ne_of_lt (blk_lt (g := gb161) (o := .cells #[.int .i64 a0_0, .int .i64 a0_1, .string a0_2] 24 (0, 0)) (pkK BK161.out)) : gb161 ≠ gb162)); have NB162_161 := am ((by rw [hg]; exact Nat.ne_of_gt (blk_lt (g := gb161) (o := .cells #[.int .i64 a0_0, .int .i64 a0_1, .string a0_2] 24 (0, 0)) (pkK BK161.out)) : gb162 ≠ gb161)); replace BK161 := am (blk_below (pkK BK161.out) hb); clear hb hbox hg; have hnb7 := NB161_162.out; have hnc7 := NB162_161.out; obtain ⟨hcz8_0, hcz8_1, hcz8_2, hfz8_0, hfz8_1, hfz8_2⟩ := bk3 BK161.out) | ((with_reducible refine gate_callee (f := 12) rfl ?_); refine goesL_ (some 10) rfl rfl Try.func12 (by kernel_rfl) rfl #[.agg #[.int .i64 a0_0, .int .i64 a0_1, .string a0_2], .int .i64 1048576] rfl mpx ?_; (with_reducible refine (laws_szMsg.calls a0_0 a0_1 a0_2 1048576 t163 _ A3.out).mono ?_); rintro e w9 ⟨rfl, hb⟩; refine ⟨_, rfl, ?_⟩; replace BK161 := am (blk_below (pkK BK161.out) hb); replace BK162 := am (blk_below (pkK BK162.out) hb); replace HB := am (below_step (pkW HB.out) hb); (try clear hb)))
  go_ret
  exact ⟨rfe, pkW HB.out⟩
 ·rw [if_neg c4] at H
  have c4b0 : decide (t163 < 0) = false := decide_eq_false c4
  clear c4
  replace H := Option.bind_eq_some_iff.mp H
  obtain ⟨t164, A100, H⟩ := H
  replace H : (if t164 < 0 then (some true) else ((laws_toMsg.f a0_0 a0_1 a0_2).bind fun bt165 => ((laws_toMsg.f a1_0 a1_1 a1_2).bind fun bt168 => ((spec_MsgLess.f k bt165.1 bt165.2.1 bt165.2.2 bt168.1 bt168.2.1 bt168.2.2).bind fun t171 => ((laws_toMsg.f a0_0 a0_1 a0_2).bind fun bt172 => ((laws_toMsg.f a1_0 a1_1 a1_2).bind fun bt175 => ((impl_MsgLess.f k bt172.1 bt172.2.1 bt172.2.2 bt175.1 bt175.2.1 bt175.2.2).bind fun t178 => (if (t178 != t171) = true then (some false) else (some true))))))))) = some r := H
  have A10 := am A100
  clear A100
  by_cases c11 : t164 < 0
  ·rw [if_pos c11] at H
   have c11b0 : decide (t164 < 0) = true := decide_eq_true c11
   clear c11
   obtain rfl := Option.some.inj H
   go_enter Try.func6, Try.ntmps6
   go_wp2_with (first | ((with_reducible refine gate_dst (N := 2) rfl ?_); refine box_event ?hg (N := 2) ?hd (cs := #[.int .i64 a0_0, .int .i64 a0_1, .string a0_2]) (t := 24) ?hr ?_; (case hd => rfl); (case hg => rfl); (case hr => first | (go_simp; done) | (go_simp; rfl)); intro gb161 hg w12 hbox hb; have BK161 := am (hbox); have GW161 := am ((by rw [hg]; exact (below_size (pkB HB.out)) : w.heap.size ≤ gb161)); have GE161 := am ((by rw [hg]; exact (below_size (pkB HB.out)) : w.heap.size ≤ gb161)); replace HB := am (below_step (pkB HB.out) hb); clear hb hbox hg) | ((with_reducible refine gate_dst (N := 3) rfl ?_); refine box_event ?hg (N := 3) ?hd (cs := #[.int .i64 a1_0, .int .i64 a1_1, .string a1_2]) (t := 24) ?hr ?_; (case hd => rfl); (case hg => rfl); (case hr => first | (go_simp; done) | (go_simp; rfl)); intro gb162 hg w13 hbox hb; have BK162 := am (hbox); have GW162 := am ((by rw [hg]; exact (below_size (pkW HB.out)) : w.heap.size ≤ gb162)); have GE162 := am ((by rw [hg]; exact (below_size (pkW HB.out)) : w.heap.size ≤ gb162)); replace HB := am (below_step (pkW HB.out) hb); have NB161_162 := am ((by rw [hg]; exact Nat.ne_of_lt (blk_lt (g := gb161) (o := .cells #[.int .i64 a0_0, .int .i64 a0_1, .string a0_2] 24 (0, 0)) (pkK BK161.out)) : gb161 ≠ gb162)); have NB162_161 := am ((by rw [hg]; exact Nat.ne_of_gt (blk_lt (g := gb161) (o := .cells #[.int .i64 a0_0, .int .i64 a0_1, .string a0_2] 24 (0, 0)) (pkK BK161.out)) : gb162 ≠ gb161)); replace BK161 := am (blk_below (pkK BK161.out) hb); clear hb hbox hg; have hnb14 := NB161_162.out; have hnc14 := NB162_161.out; obtain ⟨hcz15_0, hcz15_1, hcz15_2, hfz15_0, hfz15_1, hfz15_2⟩ := bk3 BK161.out) | ((with_reducible refine gate_callee (f := 12) rfl ?_); refine goesL_ (some 10) rfl rfl Try.func12 (by kernel_rfl) rfl #[.agg #[.int .i64 a0_0, .int .i64 a0_1, .string a0_2], .int .i64 1048576] rfl mpx ?_; (with_reducible refine (laws_szMsg.calls a0_0 a0_1 a0_2 1048576 t163 _ A3.out).mono ?_); rintro e w16 ⟨rfl, hb⟩; refine ⟨_, rfl, ?_⟩; replace BK161 := am (blk_below (pkK BK161.out) hb); replace BK162 := am (blk_below (pkK BK162.out) hb); replace HB := am (below_step (pkW HB.out) hb); (try clear hb); obtain ⟨hcz17_0, hcz17_1, hcz17_2, hfz17_0, hfz17_1, hfz17_2⟩ := bk3 BK162.out) | ((with_reducible refine gate_callee (f := 12) rfl ?_); refine goesL_ (some 15) rfl rfl Try.func12 (by kernel_rfl) rfl #[.agg #[.int .i64 a1_0, .int .i64 a1_1, .string a1_2], .int .i64 t163] rfl mpx ?_; (with_reducible refine (laws_szMsg.calls a1_0 a1_1 a1_2 t163 t164 _ A10.out).mono ?_); rintro e w18 ⟨rfl, hb⟩; refine ⟨_, rfl, ?_⟩; replace BK161 := am (blk_below (pkK BK161.out) hb); replace BK162 := am (blk_below (pkK BK162.out) hb); replace HB := am (below_step (pkW HB.out) hb); (try clear hb)))
   go_ret
   exact ⟨rfe, pkW HB.out⟩
  ·rw [if_neg c11] at H
   have c11b0 : decide (t164 < 0) = false := decide_eq_false c11
   clear c11
   replace H := Option.bind_eq_some_iff.mp H
   obtain ⟨⟨t165, t166, t167⟩, A190, H⟩ := H
   replace H : ((laws_toMsg.f a1_0 a1_1 a1_2).bind fun bt168 => ((spec_MsgLess.f k t165 t166 t167 bt168.1 bt168.2.1 bt168.2.2).bind fun t171 => ((laws_toMsg.f a0_0 a0_1 a0_2).bind fun bt172 => ((laws_toMsg.f a1_0 a1_1 a1_2).bind fun bt175 => ((impl_MsgLess.f k bt172.1 bt172.2.1 bt172.2.2 bt175.1 bt175.2.1 bt175.2.2).bind fun t178 => (if (t178 != t171) = true then (some false) else (some true))))))) = some r := H
   have A19 := am A190
   clear A190
   replace H := Option.bind_eq_some_iff.mp H
   obtain ⟨⟨t168, t169, t170⟩, A200, H⟩ := H
   replace H : ((spec_MsgLess.f k t165 t166 t167 t168 t169 t170).bind fun t171 => ((laws_toMsg.f a0_0 a0_1 a0_2).bind fun bt172 => ((laws_toMsg.f a1_0 a1_1 a1_2).bind fun bt175 => ((impl_MsgLess.f k bt172.1 bt172.2.1 bt172.2.2 bt175.1 bt175.2.1 bt175.2.2).bind fun t178 => (if (t178 != t171) = true then (some false) else (some true)))))) = some r := H
   have A20 := am A200
   clear A200
   replace H := Option.bind_eq_some_iff.mp H
   obtain ⟨t171, A210, H⟩ := H
   replace H : ((laws_toMsg.f a0_0 a0_1 a0_2).bind fun bt172 => ((laws_toMsg.f a1_0 a1_1 a1_2).bind fun bt175 => ((impl_MsgLess.f k bt172.1 bt172.2.1 bt172.2.2 bt175.1 bt175.2.1 bt175.2.2).bind fun t178 => (if (t178 != t171) = true then (some false) else (some true))))) = some r := H
   have A21 := am A210
   clear A210
   replace H := Option.bind_eq_some_iff.mp H
   obtain ⟨⟨t172, t173, t174⟩, A220, H⟩ := H
   replace H : ((laws_toMsg.f a1_0 a1_1 a1_2).bind fun bt175 => ((impl_MsgLess.f k t172 t173 t174 bt175.1 bt175.2.1 bt175.2.2).bind fun t178 => (if (t178 != t171) = true then (some false) else (some true)))) = some r := H
   have A22 := am A220
   clear A220
   replace H := Option.bind_eq_some_iff.mp H
   obtain ⟨⟨t175, t176, t177⟩, A230, H⟩ := H
   replace H : ((impl_MsgLess.f k t172 t173 t174 t175 t176 t177).bind fun t178 => (if (t178 != t171) = true then (some false) else (some true))) = some r := H
   have A23 := am A230
   clear A230
   replace H := Option.bind_eq_some_iff.mp H
   obtain ⟨t178, A240, H⟩ := H
   replace H : (if (t178 != t171) = true then (some false) else (some true)) = some r := H
   have A24 := am A240
   clear A240
   by_cases c25 : (t178 != t171) = true
   ·rw [if_pos c25] at H
    have c25b0 : (t178 != t171) = true := c25
    (try (have c25b1 : decide (t178 = t171) = false := by simpa using c25))
    (try (have c25b2 : (t178 == t171) = false := by first | exact bq_t c25 | exact bq_f c25 | simpa using c25))
    (try (have c25b3 : ¬ (t178 = t171) := by simpa using c25))
    clear c25
    exact absurd (Option.some.inj H) (by rw [HQ_.out]; simp)
   ·rw [if_neg c25] at H
    have c25b0 : (t178 != t171) = false := by simpa using c25
    (try (have c25b1 : decide (t178 = t171) = true := by simpa using c25))
    (try (have c25b2 : (t178 == t171) = true := by first | exact bq_t c25 | exact bq_f c25 | simpa using c25))
    clear c25
    obtain rfl := Option.some.inj H
    go_enter Try.func6, Try.ntmps6
    try go_wp2_with (first | ((with_reducible refine gate_dst (N := 2) rfl ?_); refine box_event ?hg (N := 2) ?hd (cs := #[.int .i64 a0_0, .int .i64 a0_1, .string a0_2]) (t := 24) ?hr ?_; (case hd => rfl); (case hg => rfl); (case hr => first | (go_simp; done) | (go_simp; rfl)); intro gb161 hg w26 hbox hb; have BK161 := am (hbox); have GW161 := am ((by rw [hg]; exact (below_size (pkB HB.out)) : w.heap.size ≤ gb161)); have GE161 := am ((by rw [hg]; exact (below_size (pkB HB.out)) : w.heap.size ≤ gb161)); replace HB := am (below_step (pkB HB.out) hb); clear hb hbox hg) | ((with_reducible refine gate_dst (N := 3) rfl ?_); refine box_event ?hg (N := 3) ?hd (cs := #[.int .i64 a1_0, .int .i64 a1_1, .string a1_2]) (t := 24) ?hr ?_; (case hd => rfl); (case hg => rfl); (case hr => first | (go_simp; done) | (go_simp; rfl)); intro gb162 hg w27 hbox hb; have BK162 := am (hbox); have GW162 := am ((by rw [hg]; exact (below_size (pkW HB.out)) : w.heap.size ≤ gb162)); have GE162 := am ((by rw [hg]; exact (below_size (pkW HB.out)) : w.heap.size ≤ gb162)); replace HB := am (below_step (pkW HB.out) hb); have NB161_162 := am ((by rw [hg]; exact Nat.ne_of_lt (blk_lt (g := gb161) (o := .cells #[.int .i64 a0_0, .int .i64 a0_1, .string a0_2] 24 (0, 0)) (pkK BK161.out)) : gb161 ≠ gb162)); have NB162_161 := am ((by rw [hg]; exact Nat.ne_of_gt (blk_lt (g := gb161) (o := .cells #[.int .i64 a0_0, .int .i64 a0_1, .string a0_2] 24 (0, 0)) (pkK BK161.out)) : gb162 ≠ gb161)); replace BK161 := am (blk_below (pkK BK161.out) hb); clear hb hbox hg; have hnb28 := NB161_162.out; have hnc28 := NB162_161.out; obtain ⟨hcz29_0, hcz29_1, hcz29_2, hfz29_0, hfz29_1, hfz29_2⟩ := bk3 BK161.out) | ((with_reducible refine gate_callee (f := 12) rfl ?_); refine goesL_ (some 10) rfl rfl Try.func12 (by kernel_rfl) rfl #[.agg #[.int .i64 a0_0, .int .i64 a0_1, .string a0_2], .int .i64 1048576] rfl mpx ?_; (with_reducible refine (laws_szMsg.calls a0_0 a0_1 a0_2 1048576 t163 _ A3.out).mono ?_); rintro e w30 ⟨rfl, hb⟩; refine ⟨_, rfl, ?_⟩; replace BK161 := am (blk_below (pkK BK161.out) hb); replace BK162 := am (blk_below (pkK BK162.out) hb); replace HB := am (below_step (pkW HB.out) hb); (try clear hb); obtain ⟨hcz31_0, hcz31_1, hcz31_2, hfz31_0, hfz31_1, hfz31_2⟩ := bk3 BK162.out) | ((with_reducible refine gate_callee (f := 12) rfl ?_); refine goesL_ (some 15) rfl rfl Try.func12 (by kernel_rfl) rfl #[.agg #[.int .i64 a1_0, .int .i64 a1_1, .string a1_2], .int .i64 t163] rfl mpx ?_; (with_reducible refine (laws_szMsg.calls a1_0 a1_1 a1_2 t163 t164 _ A10.out).mono ?_); rintro e w32 ⟨rfl, hb⟩; refine ⟨_, rfl, ?_⟩; replace BK161 := am (blk_below (pkK BK161.out) hb); replace BK162 := am (blk_below (pkK BK162.out) hb); replace HB := am (below_step (pkW HB.out) hb); (try clear hb)))
    replace BK161 := am (blk_drew BK161.out)
    replace BK162 := am (blk_drew BK162.out)
    replace HB := am (below_drew1 HB.out)
    refine start_ (n := 6) (S := fun w' => w'.cell? ⟨gb161, 0, none⟩ = some (.int .i64 a0_0) ∧ w'.cell? ⟨gb161, 1, none⟩ = some (.int .i64 a0_1) ∧ w'.cell? ⟨gb161, 2, none⟩ = some (.string a0_2) ∧ w'.cell? ⟨gb162, 0, none⟩ = some (.int .i64 a1_0) ∧ w'.cell? ⟨gb162, 1, none⟩ = some (.int .i64 a1_1) ∧ w'.cell? ⟨gb162, 2, none⟩ = some (.string a1_2)) (ds := []) #[false, false, false, false, false, false] (by kernel_rfl) rfl rfl ⟨(blk_cell BK161.out 0).trans rfl, (blk_cell BK161.out 1).trans rfl, (blk_cell BK161.out 2).trans rfl, (blk_cell BK162.out 0).trans rfl, (blk_cell BK162.out 1).trans rfl, (blk_cell BK162.out 2).trans rfl⟩ (fun hHeld => ?_)
    generalize w32.drew = w33 at BK161 BK162 HB hHeld ⊢
    refine take_ (i := 0) (N := some 18) (v := ?_) (a' := ?_) #[true, false, false, false, false, false] rfl rfl (by kernel_rfl) (fun _ _ _ h => h) (Or.inl ⟨by rfl, ?_⟩) hHeld ?_ ?_
    rotate_left
    ·rintro w' ⟨s0, s1, s2, s3, s4, s5⟩
     go_simp
     with_reducible rfl
    rotate_left
    ·simp only [Act.put, List.setIfInBounds_toArray, List.set_cons_zero, List.set_cons_succ, i64_w, i32_w]
     rfl
    refine take_ (i := 2) (N := some 20) (v := ?_) (a' := ?_) #[true, false, true, false, false, false] rfl rfl (by kernel_rfl) (fun _ _ _ h => h) (Or.inl ⟨by rfl, ?_⟩) hHeld ?_ ?_
    rotate_left
    ·rintro w' ⟨s0, s1, s2, s3, s4, s5⟩
     go_simp
     with_reducible rfl
    rotate_left
    ·simp only [Act.put, List.setIfInBounds_toArray, List.set_cons_zero, List.set_cons_succ, i64_w, i32_w]
     rfl
    refine one_ (i := 1) (N := some 19) #[true, true, true, false, false, false] rfl rfl (by kernel_rfl) (by decide) (fun K hK => ?_)
    refine goes_ Try.func14 (by kernel_rfl) rfl #[.agg #[.int .i64 a0_0, .int .i64 a0_1, .string a0_2]] (by rfl) rfl rfl mpx ?_
    with_reducible refine (laws_toMsg.calls a0_0 a0_1 a0_2 t165 t166 t167 _ A19.out).mono ?_
    rintro e w34 ⟨rfl, hb⟩
    refine ⟨_, rfl, ?_⟩
    replace BK161 := am (blk_below (pkK BK161.out) hb)
    replace BK162 := am (blk_below (pkK BK162.out) hb)
    replace HB := am (below_step (pkW HB.out) hb)
    (try clear hb)
    refine hK.out _ _ ⟨(blk_cell BK161.out 0).trans rfl, (blk_cell BK161.out 1).trans rfl, (blk_cell BK161.out 2).trans rfl, (blk_cell BK162.out 0).trans rfl, (blk_cell BK162.out 1).trans rfl, (blk_cell BK162.out 2).trans rfl⟩ (fun hHeld => ?_)
    clear hK K
    refine norm_ (a' := ?_) ?_ ?_
    rotate_left
    ·show Act.put _ (some 19) _ = _
     simp only [Act.put, List.setIfInBounds_toArray, List.set_cons_zero, List.set_cons_succ, i64_w, i32_w]
     rfl
    refine one_ (i := 3) (N := some 21) #[true, true, true, true, false, false] rfl rfl (by kernel_rfl) (by decide) (fun K hK => ?_)
    refine goes_ Try.func14 (by kernel_rfl) rfl #[.agg #[.int .i64 a1_0, .int .i64 a1_1, .string a1_2]] (by rfl) rfl rfl mpx ?_
    with_reducible refine (laws_toMsg.calls a1_0 a1_1 a1_2 t168 t169 t170 _ A20.out).mono ?_
    rintro e w35 ⟨rfl, hb⟩
    refine ⟨_, rfl, ?_⟩
    replace BK161 := am (blk_below (pkK BK161.out) hb)
    replace BK162 := am (blk_below (pkK BK162.out) hb)
    replace HB := am (below_step (pkW HB.out) hb)
    (try clear hb)
    refine hK.out _ _ ⟨(blk_cell BK161.out 0).trans rfl, (blk_cell BK161.out 1).trans rfl, (blk_cell BK161.out 2).trans rfl, (blk_cell BK162.out 0).trans rfl, (blk_cell BK162.out 1).trans rfl, (blk_cell BK162.out 2).trans rfl⟩ (fun hHeld => ?_)
    clear hK K
    refine norm_ (a' := ?_) ?_ ?_
    rotate_left
    ·show Act.put _ (some 21) _ = _
     simp only [Act.put, List.setIfInBounds_toArray, List.set_cons_zero, List.set_cons_succ, i64_w, i32_w]
     rfl
    refine one_ (i := 4) (N := some 22) #[true, true, true, true, true, false] rfl rfl (by kernel_rfl) (by decide) (fun K hK => ?_)
    refine goes_ Try.func18 (by kernel_rfl) rfl #[.agg #[.int .i64 t165, .int .i64 t166, .string t167], .agg #[.int .i64 t168, .int .i64 t169, .string t170]] (by rfl) rfl rfl mpx ?_
    with_reducible refine (spec_MsgLess.calls k t165 t166 t167 t168 t169 t170 t171 _ A21.out).mono ?_
    rintro e w36 ⟨rfl, hb⟩
    refine ⟨_, rfl, ?_⟩
    replace BK161 := am (blk_below (pkK BK161.out) hb)
    replace BK162 := am (blk_below (pkK BK162.out) hb)
    replace HB := am (below_step (pkW HB.out) hb)
    (try clear hb)
    refine hK.out _ _ ⟨(blk_cell BK161.out 0).trans rfl, (blk_cell BK161.out 1).trans rfl, (blk_cell BK161.out 2).trans rfl, (blk_cell BK162.out 0).trans rfl, (blk_cell BK162.out 1).trans rfl, (blk_cell BK162.out 2).trans rfl⟩ (fun hHeld => ?_)
    clear hK K
    refine norm_ (a' := ?_) ?_ ?_
    rotate_left
    ·show Act.put _ (some 22) _ = _
     simp only [Act.put, List.setIfInBounds_toArray, List.set_cons_zero, List.set_cons_succ, i64_w, i32_w]
     rfl
    refine pure_ (i := 5) (N := some 6) (v := ?_) (a' := ?_) #[true, true, true, true, true, true] rfl rfl (by kernel_rfl) (fun _ _ _ h => h) (Or.inl ⟨by rfl, ?_⟩) ?_ ?_
    rotate_left
    ·intro w'
     go_simp
     with_reducible rfl
    rotate_left
    ·simp only [Act.put, List.setIfInBounds_toArray, List.set_cons_zero, List.set_cons_succ, i64_w, i32_w]
     rfl
    refine done_ (by kernel_rfl) ?_
    try go_wp2
    replace BK161 := am (blk_drew BK161.out)
    replace BK162 := am (blk_drew BK162.out)
    replace HB := am (below_drew1 HB.out)
    refine start_ (n := 6) (S := fun w' => w'.cell? ⟨gb161, 0, none⟩ = some (.int .i64 a0_0) ∧ w'.cell? ⟨gb161, 1, none⟩ = some (.int .i64 a0_1) ∧ w'.cell? ⟨gb161, 2, none⟩ = some (.string a0_2) ∧ w'.cell? ⟨gb162, 0, none⟩ = some (.int .i64 a1_0) ∧ w'.cell? ⟨gb162, 1, none⟩ = some (.int .i64 a1_1) ∧ w'.cell? ⟨gb162, 2, none⟩ = some (.string a1_2)) (ds := []) #[false, false, false, false, false, false] (by kernel_rfl) rfl rfl ⟨(blk_cell BK161.out 0).trans rfl, (blk_cell BK161.out 1).trans rfl, (blk_cell BK161.out 2).trans rfl, (blk_cell BK162.out 0).trans rfl, (blk_cell BK162.out 1).trans rfl, (blk_cell BK162.out 2).trans rfl⟩ (fun hHeld => ?_)
    generalize w36.drew = w37 at BK161 BK162 HB hHeld ⊢
    refine take_ (i := 0) (N := some 23) (v := ?_) (a' := ?_) #[true, false, false, false, false, false] rfl rfl (by kernel_rfl) (fun _ _ _ h => h) (Or.inl ⟨by rfl, ?_⟩) hHeld ?_ ?_
    rotate_left
    ·rintro w' ⟨s0, s1, s2, s3, s4, s5⟩
     go_simp
     with_reducible rfl
    rotate_left
    ·simp only [Act.put, List.setIfInBounds_toArray, List.set_cons_zero, List.set_cons_succ, i64_w, i32_w]
     rfl
    refine take_ (i := 2) (N := some 25) (v := ?_) (a' := ?_) #[true, false, true, false, false, false] rfl rfl (by kernel_rfl) (fun _ _ _ h => h) (Or.inl ⟨by rfl, ?_⟩) hHeld ?_ ?_
    rotate_left
    ·rintro w' ⟨s0, s1, s2, s3, s4, s5⟩
     go_simp
     with_reducible rfl
    rotate_left
    ·simp only [Act.put, List.setIfInBounds_toArray, List.set_cons_zero, List.set_cons_succ, i64_w, i32_w]
     rfl
    refine one_ (i := 1) (N := some 24) #[true, true, true, false, false, false] rfl rfl (by kernel_rfl) (by decide) (fun K hK => ?_)
    refine goes_ Try.func14 (by kernel_rfl) rfl #[.agg #[.int .i64 a0_0, .int .i64 a0_1, .string a0_2]] (by rfl) rfl rfl mpx ?_
    with_reducible refine (laws_toMsg.calls a0_0 a0_1 a0_2 t172 t173 t174 _ A22.out).mono ?_
    rintro e w38 ⟨rfl, hb⟩
    refine ⟨_, rfl, ?_⟩
    replace BK161 := am (blk_below (pkK BK161.out) hb)
    replace BK162 := am (blk_below (pkK BK162.out) hb)
    replace HB := am (below_step (pkW HB.out) hb)
    (try clear hb)
    refine hK.out _ _ ⟨(blk_cell BK161.out 0).trans rfl, (blk_cell BK161.out 1).trans rfl, (blk_cell BK161.out 2).trans rfl, (blk_cell BK162.out 0).trans rfl, (blk_cell BK162.out 1).trans rfl, (blk_cell BK162.out 2).trans rfl⟩ (fun hHeld => ?_)
    clear hK K
    refine norm_ (a' := ?_) ?_ ?_
    rotate_left
    ·show Act.put _ (some 24) _ = _
     simp only [Act.put, List.setIfInBounds_toArray, List.set_cons_zero, List.set_cons_succ, i64_w, i32_w]
     rfl
    refine one_ (i := 3) (N := some 26) #[true, true, true, true, false, false] rfl rfl (by kernel_rfl) (by decide) (fun K hK => ?_)
    refine goes_ Try.func14 (by kernel_rfl) rfl #[.agg #[.int .i64 a1_0, .int .i64 a1_1, .string a1_2]] (by rfl) rfl rfl mpx ?_
    with_reducible refine (laws_toMsg.calls a1_0 a1_1 a1_2 t175 t176 t177 _ A23.out).mono ?_
    rintro e w39 ⟨rfl, hb⟩
    refine ⟨_, rfl, ?_⟩
    replace BK161 := am (blk_below (pkK BK161.out) hb)
    replace BK162 := am (blk_below (pkK BK162.out) hb)
    replace HB := am (below_step (pkW HB.out) hb)
    (try clear hb)
    refine hK.out _ _ ⟨(blk_cell BK161.out 0).trans rfl, (blk_cell BK161.out 1).trans rfl, (blk_cell BK161.out 2).trans rfl, (blk_cell BK162.out 0).trans rfl, (blk_cell BK162.out 1).trans rfl, (blk_cell BK162.out 2).trans rfl⟩ (fun hHeld => ?_)
    clear hK K
    refine norm_ (a' := ?_) ?_ ?_
    rotate_left
    ·show Act.put _ (some 26) _ = _
     simp only [Act.put, List.setIfInBounds_toArray, List.set_cons_zero, List.set_cons_succ, i64_w, i32_w]
     rfl
    refine one_ (i := 4) (N := some 27) #[true, true, true, true, true, false] rfl rfl (by kernel_rfl) (by decide) (fun K hK => ?_)
    refine goes_ Try.func19 (by kernel_rfl) rfl #[.agg #[.int .i64 t172, .int .i64 t173, .string t174], .agg #[.int .i64 t175, .int .i64 t176, .string t177]] (by rfl) rfl rfl mpx ?_
    with_reducible refine (impl_MsgLess.calls k t172 t173 t174 t175 t176 t177 t178 _ A24.out).mono ?_
    rintro e w40 ⟨rfl, hb⟩
    refine ⟨_, rfl, ?_⟩
    replace BK161 := am (blk_below (pkK BK161.out) hb)
    replace BK162 := am (blk_below (pkK BK162.out) hb)
    replace HB := am (below_step (pkW HB.out) hb)
    (try clear hb)
    refine hK.out _ _ ⟨(blk_cell BK161.out 0).trans rfl, (blk_cell BK161.out 1).trans rfl, (blk_cell BK161.out 2).trans rfl, (blk_cell BK162.out 0).trans rfl, (blk_cell BK162.out 1).trans rfl, (blk_cell BK162.out 2).trans rfl⟩ (fun hHeld => ?_)
    clear hK K
    refine norm_ (a' := ?_) ?_ ?_
    rotate_left
    ·show Act.put _ (some 27) _ = _
     simp only [Act.put, List.setIfInBounds_toArray, List.set_cons_zero, List.set_cons_succ, i64_w, i32_w]
     rfl
    refine pure_ (i := 5) (N := some 7) (v := ?_) (a' := ?_) #[true, true, true, true, true, true] rfl rfl (by kernel_rfl) (fun _ _ _ h => h) (Or.inl ⟨by rfl, ?_⟩) ?_ ?_
    rotate_left
    ·intro w'
     go_simp
     with_reducible rfl
    rotate_left
    ·simp only [Act.put, List.setIfInBounds_toArray, List.set_cons_zero, List.set_cons_succ, i64_w, i32_w]
     rfl
    refine done_ (by kernel_rfl) ?_
    try go_wp2
    go_ret
    exact ⟨rfe, pkW HB.out⟩
end Go.Proofs.Ytalehmhjddnmoaa.Z
