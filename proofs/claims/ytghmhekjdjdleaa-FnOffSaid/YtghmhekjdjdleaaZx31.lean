/- The Go functions impl_NewToken as Lean functions, each with a proof that its code comes to just these answers; conditions: those of each theorem. -/
import Derived.Test.YtghmhekjdjdleaaZx0
import Derived.Test.YtghmhekjdjdleaaZx11
import Derived.Test.YtghmhekjdjdleaaZx18
import Derived.Test.YtghmhekjdjdleaaZx30
namespace Go.Proofs.Ytghmhekjdjdleaa.Z
open Go.RowKit Go.Proofs.YtghmhekjdjdleaaW.PrintWords Go.Proofs.YtghmhekjdjdleaaW.PrintLast Go.Proofs.YtghmhekjdjdleaaW.PrintMore
attribute [local go_sem] max2_int min2_int max_two min_two max_three min_three max_four min_four   -- for this text's walks alone
set_option linter.unusedVariables false
set_option linter.unusedSimpArgs false
def impl_NewToken.j0 : Nat → Int → Bool → List Int → List Bool → List Int → List Bool → Option (List Int × List Bool × Int × Int)
  | 0, _, _, _, _, _, _ => none
  | k + 1, x1, x10, x598000, x598001, x606000, x606001 => if x10 = true then (some (x606000, x606001, (-1), 1)) else (if (x598000.length : Int) = 24 then (some (x606000, x606001, (-1), 2)) else (if x606000.length < 17592186044416 then ((some (x606000 ++ [x1] : List Int)).bind fun y608 => (if x1 ≥ 0 then (if 0 ≤ x1 then (if x1 < (x598001.length : Int) then (if x606001.length < 140737488355328 then (some (y608, (x606001 ++ [rdOf false x598001 x1]), (x598000.length : Int), 0)) else (none)) else (none)) else (none)) else (if x606001.length < 140737488355328 then (some (y608, (x606001 ++ [false]), (x598000.length : Int), 0)) else (none)))) else (none)))
def impl_NewToken.f (k : Nat) (l0_0 : List Int) (l0_1 : List Bool) (a1 : Int) : Option (List Int × List Bool × Int × Int) := (impl_copyTokens.f l0_0 l0_1).bind fun bt599 => ((impl_TokensOk.f k l0_0 l0_1).bind fun t606 => (if t606 = true then (if a1 = (-1) then (impl_NewToken.j0 k a1 false l0_0 l0_1 bt599.1 bt599.2) else ((impl_isToken.f l0_0 l0_1 a1).bind fun t607 => (impl_NewToken.j0 k a1 (!t607) l0_0 l0_1 bt599.1 bt599.2))) else (impl_NewToken.j0 k a1 true l0_0 l0_1 bt599.1 bt599.2)))
theorem impl_NewToken.mono_l : ∀ k, (∀ y0 y1 y2 y3 y4 y5, LeO (impl_NewToken.j0 k y0 y1 y2 y3 y4 y5) (impl_NewToken.j0 (k + 1) y0 y1 y2 y3 y4 y5))
  | 0 => fun _ _ _ _ _ _ r h => by simp [impl_NewToken.j0] at h
  | k + 1 => by
    have ih0 := impl_NewToken.mono_l k
    · intro y0 y1 y2 y3 y4 y5
      unfold impl_NewToken.j0
      repeat' first
      | (with_reducible exact ih0 _ _ _ _ _ _)
      | (with_reducible exact impl_TokensOk.mono _ _ _)
      | (with_reducible exact LeO.refl _)
      | (with_reducible exact LeO.none _)
      | (with_reducible refine LeO.ite ?_ ?_)
      | (with_reducible refine LeO.bind ?_ (fun _ => ?_))
theorem impl_NewToken.mono : ∀ a0 a1 a2 k, LeO (impl_NewToken.f k a0 a1 a2) (impl_NewToken.f (k + 1) a0 a1 a2) := by
  intro a0 a1 a2 k
  have ih0 := impl_NewToken.mono_l k
  unfold impl_NewToken.f
  repeat' first
      | (with_reducible exact ih0 _ _ _ _ _ _)
      | (with_reducible exact impl_TokensOk.mono _ _ _)
      | (with_reducible exact LeO.refl _)
      | (with_reducible exact LeO.none _)
      | (with_reducible refine LeO.ite ?_ ?_)
      | (with_reducible refine LeO.bind ?_ (fun _ => ?_))
def impl_NewToken.T7 : Bool × List (List Nat × List Nat) := (true, [([], []), ([0], [0]), ([], []), ([2], [2]), ([3], [3]), ([4], [4]), ([5, 4], [4, 5]), ([4], [4]), ([6, 7, 4], [4, 6, 7]), ([8, 4], [4, 8]), ([4, 9], [4, 9]), ([10], [10]), ([1, 11, 4], [1, 11]), ([0, 1, 2, 3, 4, 5, 6, 7, 8, 9, 10, 11, 12], []), ([13, 12, 12, 0, 1, 2, 3, 4, 5, 6, 7, 8, 9, 10, 11, 12], [12, 13])])
def impl_NewToken.B7 : List Nat := [0, 1, 0, 4, 12, 28, 60, 28, 252, 508, 1020, 2044, 4095, 8191, 16383]
theorem impl_NewToken.tab7 : rtab .any (opsOf Try.f40 7) = impl_NewToken.T7 := by kernel_rfl
theorem impl_NewToken.bits7 : waitsOk impl_NewToken.T7.2 impl_NewToken.B7 = true := by kernel_rfl
set_option maxHeartbeats 8000000 in
set_option maxRecDepth 100000 in
theorem impl_NewToken.calls (k : Nat) (A0_0 : Option Addr) (c0_0 : Nat) (l0_0 : List Int) (A0_1 : Option Addr) (c0_1 : Nat) (l0_1 : List Bool) (a1 : Int) (r1 : List Int) (r2 : List Bool) (r3 : Int) (r4 : Int) (w : World) (hr0_0 : Kd.C (Kd.int .i64) w A0_0 l0_0.length l0_0) (hc0_0 : l0_0.length ≤ c0_0) (hr0_1 : Kd.C Kd.bool w A0_1 l0_1.length l0_1) (hc0_1 : l0_1.length ≤ c0_1) (h : impl_NewToken.f k l0_0 l0_1 a1 = some (r1, r2, r3, r4)) :
    Calls Try.prog 40 #[.agg #[.slice A0_0 l0_0.length c0_0, .slice A0_1 l0_1.length c0_1], .int .i64 a1] w fun e w' => ∃ v0_ v1_ : Value, e = .returned (.tuple #[.agg #[v0_, v1_], .int .i64 r3, .int .i64 r4]) ∧ Kd.R (Kd.int .i64) 3 w' w.heap.size (fun _ => True) v0_ r1 ∧ Kd.R Kd.bool 4 w' w.heap.size (fun _ => True) v1_ r2 ∧ Below w.heap.size w w' := by
  have hu33 := Try.underlying33
  have HR0_0 := am hr0_0
  have HC0_0 := am hc0_0
  clear hr0_0 hc0_0
  have HR0_1 := am hr0_1
  have HC0_1 := am hc0_1
  clear hr0_1 hc0_1
  have HB := am (Below.refl w.heap.size w)
  have H : ((impl_copyTokens.f l0_0 l0_1).bind fun bt599 => ((impl_TokensOk.f k l0_0 l0_1).bind fun t606 => (if t606 = true then (if a1 = (-1) then (impl_NewToken.j0 k a1 false l0_0 l0_1 bt599.1 bt599.2) else ((impl_isToken.f l0_0 l0_1 a1).bind fun t607 => (impl_NewToken.j0 k a1 (!t607) l0_0 l0_1 bt599.1 bt599.2))) else (impl_NewToken.j0 k a1 true l0_0 l0_1 bt599.1 bt599.2)))) = some (r1, r2, r3, r4) := h
  clear h
  replace H := Option.bind_eq_some_iff.mp H
  obtain ⟨⟨t599, t602⟩, A30, H⟩ := H
  replace H : ((impl_TokensOk.f k l0_0 l0_1).bind fun t606 => (if t606 = true then (if a1 = (-1) then (impl_NewToken.j0 k a1 false l0_0 l0_1 t599 t602) else ((impl_isToken.f l0_0 l0_1 a1).bind fun t607 => (impl_NewToken.j0 k a1 (!t607) l0_0 l0_1 t599 t602))) else (impl_NewToken.j0 k a1 true l0_0 l0_1 t599 t602))) = some (r1, r2, r3, r4) := H
  have A3 := am A30
  clear A30
  have HC4 := am H
  clear H
  go_enter Try.func40, Try.ntmps40
  go_upto_region 2 with (first | ((with_reducible refine gate_dst (N := 2) rfl ?_); refine box_event ?hg (N := 2) ?hd (cs := #[.slice A0_0 l0_0.length c0_0, .slice A0_1 l0_1.length c0_1]) (t := 33) ?hr ?_; (case hd => rfl); (case hg => rfl); (case hr => first | (go_simp; done) | (go_simp; rfl)); intro gb597 hg w5 hbox hb; have n0_ := am (below_step (pkB HB.out) hb); have n1_ := am (hbox); have n2_ := am ((by rw [hg]; exact (below_size (pkB HB.out)) : w.heap.size ≤ gb597)); have n3_ := am ((by rw [hg]; exact (below_size (pkB HB.out)) : w.heap.size ≤ gb597)); clear HB; have HB := n0_; have BK597 := n1_; have GW597 := n2_; have GE597 := n3_; clear n0_ n1_ n2_ n3_; clear hb hbox hg) | ((with_reducible refine gate_dst (N := 4) rfl ?_); refine box_event ?hg (N := 4) ?hd (cs := #[.slice none 0 0, .slice none 0 0]) (t := 33) ?hr ?_; (case hd => rfl); (case hg => rfl); (case hr => first | (go_simp; done) | (go_simp; rfl)); intro gb598 hg w6 hbox hb; have n0_ := am (blk_below (pkK BK597.out) hb); have n1_ := am (below_step (pkW HB.out) hb); have n2_ := am (hbox); have n3_ := am ((by rw [hg]; exact (below_size (pkW HB.out)) : w.heap.size ≤ gb598)); have n4_ := am ((by rw [hg]; exact (below_size (pkW HB.out)) : w.heap.size ≤ gb598)); have n5_ := am ((by rw [hg]; exact Nat.ne_of_lt (blk_lt (g := gb597) (o := .cells #[.slice A0_0 l0_0.length c0_0, .slice A0_1 l0_1.length c0_1] 33 (0, 0)) (pkK BK597.out)) : gb597 ≠ gb598)); have n6_ := am ((by rw [hg]; exact Nat.ne_of_gt (blk_lt (g := gb597) (o := .cells #[.slice A0_0 l0_0.length c0_0, .slice A0_1 l0_1.length c0_1] 33 (0, 0)) (pkK BK597.out)) : gb598 ≠ gb597)); clear BK597 HB; have BK597 := n0_; have HB := n1_; have BK598 := n2_; have GW598 := n3_; have GE598 := n4_; have NB597_598 := n5_; have NB598_597 := n6_; clear n0_ n1_ n2_ n3_ n4_ n5_ n6_; clear hb hbox hg; have hnb7 := NB597_598.out; have hnc7 := NB598_597.out; have hcz8_0 : w6.cell? ⟨gb597, 0, none⟩ = some (.slice A0_0 l0_0.length c0_0) := (blk_cell BK597.out 0).trans rfl; have hcz8_1 : w6.cell? ⟨gb597, 1, none⟩ = some (.slice A0_1 l0_1.length c0_1) := (blk_cell BK597.out 1).trans rfl; have hfz8_0 := blk_frozen BK597.out 0; have hfz8_1 := blk_frozen BK597.out 1) | ((with_reducible refine gate_callee (f := 71) rfl ?_); refine goesL_ (some 9) rfl rfl Try.func71 (by kernel_rfl) rfl #[.agg #[.slice A0_0 l0_0.length c0_0, .slice A0_1 l0_1.length c0_1]] rfl mpx ?_; (with_reducible refine (impl_copyTokens.calls _ _ l0_0 _ _ l0_1 t599 t602 _ ?side1 ?side2 ?side3 ?side4 A3.out).mono ?_); (case side1 => exact pkC (Kd.C_below HR0_0.out HB.out)); (case side2 => exact HC0_0.out); (case side3 => exact pkC (Kd.C_below HR0_1.out HB.out)); (case side4 => exact HC0_1.out); rintro e w9 ⟨v600, v603, rfl, ho0, ho1, hb⟩; refine ⟨_, rfl, ?_⟩; have n0_ := am (Kd.R_lower ho0 (below_size (pkW HB.out))); have n1_ := am (Kd.R_lower ho1 (below_size (pkW HB.out))); have n2_ := am (blk_below (pkK BK597.out) hb); have n3_ := am (blk_below (pkK BK598.out) hb); have n4_ := am (below_step (pkW HB.out) hb); clear BK597 BK598 HB; have HO601 := n0_; have HO604 := n1_; have BK597 := n2_; have BK598 := n3_; have HB := n4_; clear n0_ n1_ n2_ n3_ n4_; (try clear hb); (try clear hb2); (try clear hk); (try clear hi); (try clear ho0); (try clear ho1)) | ((with_reducible refine gate_dst (N := 7) rfl ?_); refine box_event ?hg (N := 7) ?hd (cs := #[.slice none 0 0, .slice none 0 0]) (t := 33) ?hr ?_; (case hd => rfl); (case hg => rfl); (case hr => first | (go_simp; done) | (go_simp; rfl)); intro gb605 hg w10 hbox hb; have n0_ := am (Kd.R_below (pkR HO601.out) hb); have n1_ := am (Kd.R_below (pkR HO604.out) hb); have n2_ := am (blk_below (pkK BK597.out) hb); have n3_ := am (blk_below (pkK BK598.out) hb); have n4_ := am (below_step (pkW HB.out) hb); have n5_ := am (hbox); have n6_ := am ((by rw [hg]; exact (below_size (pkW HB.out)) : w.heap.size ≤ gb605)); have n7_ := am ((by rw [hg]; exact (below_size (pkW HB.out)) : w.heap.size ≤ gb605)); have n8_ := am ((by rw [hg]; exact Nat.ne_of_lt (blk_lt (g := gb597) (o := .cells #[.slice A0_0 l0_0.length c0_0, .slice A0_1 l0_1.length c0_1] 33 (0, 0)) (pkK BK597.out)) : gb597 ≠ gb605)); have n9_ := am ((by rw [hg]; exact Nat.ne_of_gt (blk_lt (g := gb597) (o := .cells #[.slice A0_0 l0_0.length c0_0, .slice A0_1 l0_1.length c0_1] 33 (0, 0)) (pkK BK597.out)) : gb605 ≠ gb597)); have n10_ := am ((by rw [hg]; exact Nat.ne_of_lt (blk_lt (g := gb598) (o := .cells #[.slice none 0 0, .slice none 0 0] 33 (0, 0)) (pkK BK598.out)) : gb598 ≠ gb605)); have n11_ := am ((by rw [hg]; exact Nat.ne_of_gt (blk_lt (g := gb598) (o := .cells #[.slice none 0 0, .slice none 0 0] 33 (0, 0)) (pkK BK598.out)) : gb605 ≠ gb598)); clear HO601 HO604 BK597 BK598 HB; have HO601 := n0_; have HO604 := n1_; have BK597 := n2_; have BK598 := n3_; have HB := n4_; have BK605 := n5_; have GW605 := n6_; have GE605 := n7_; have NB597_605 := n8_; have NB605_597 := n9_; have NB598_605 := n10_; have NB605_598 := n11_; clear n0_ n1_ n2_ n3_ n4_ n5_ n6_ n7_ n8_ n9_ n10_ n11_; clear hb hbox hg; obtain ⟨Ao11, co11, eo11⟩ := Kd.R_slice HO601.out; subst eo11; have hnb12 := NB605_597.out; have hnc12 := NB597_605.out; have hnb13 := NB605_598.out; have hnc13 := NB598_605.out; have hcz14_0 : w10.cell? ⟨gb605, 0, none⟩ = some (.slice none 0 0) := (blk_cell BK605.out 0).trans rfl; have hcz14_1 : w10.cell? ⟨gb605, 1, none⟩ = some (.slice none 0 0) := (blk_cell BK605.out 1).trans rfl; have hfz14_0 := blk_frozen BK605.out 0; have hfz14_1 := blk_frozen BK605.out 1; obtain ⟨Ao15, co15, eo15⟩ := Kd.R_slice HO604.out; subst eo15))
  (try simp only [Act.put, List.setIfInBounds_toArray, List.set_cons_zero, List.set_cons_succ])
  go_cut [10] (fun v10 wc => ∃ (kq : Nat) (x10_3 : Bool), v10 = .bool x10_3 ∧ Aside0 (impl_NewToken.j0 kq a1 x10_3 l0_0 l0_1 t599 t602 = some (r1, r2, r3, r4)) ∧ Aside0 (kq ≤ k) ∧ Aside0 (Kd.R (Kd.int .i64) 3 wc w.heap.size (fun _ => True) (.slice Ao11 t599.length co11) t599) ∧ Aside0 (Kd.R Kd.bool 4 wc w.heap.size (fun _ => True) (.slice Ao15 t602.length co15) t602) ∧ Aside0 (wc.heap[gb597]? = some (.cells #[(.slice A0_0 l0_0.length c0_0), (.slice A0_1 l0_1.length c0_1)] 33 (0, 0))) ∧ Aside0 (wc.heap[gb598]? = some (.cells #[(.slice none 0 0), (.slice none 0 0)] 33 (0, 0))) ∧ Aside0 (wc.heap[gb605]? = some (.cells #[(.slice Ao11 t599.length co11), (.slice Ao15 t602.length co15)] 33 (0, 0))) ∧ Aside0 (Below w.heap.size w wc))
  case first =>
    have H := HC4.out
    clear HC4
    replace H := Option.bind_eq_some_iff.mp H
    obtain ⟨t606, A160, H⟩ := H
    replace H : (if t606 = true then (if a1 = (-1) then (impl_NewToken.j0 k a1 false l0_0 l0_1 t599 t602) else ((impl_isToken.f l0_0 l0_1 a1).bind fun t607 => (impl_NewToken.j0 k a1 (!t607) l0_0 l0_1 t599 t602))) else (impl_NewToken.j0 k a1 true l0_0 l0_1 t599 t602)) = some (r1, r2, r3, r4) := H
    have A16 := am A160
    clear A160
    by_cases c17 : t606 = true
    · subst c17
      replace H : (if a1 = (-1) then (impl_NewToken.j0 k a1 false l0_0 l0_1 t599 t602) else ((impl_isToken.f l0_0 l0_1 a1).bind fun t607 => (impl_NewToken.j0 k a1 (!t607) l0_0 l0_1 t599 t602))) = some (r1, r2, r3, r4) := by rw [if_pos rfl] at H; exact H
      by_cases c18 : a1 = (-1)
      · rw [if_pos c18] at H
        have c18b0 : (a1 == (-1)) = true := beq_iff_eq.mpr c18
        have c18b1 : (a1 != (-1)) = false := bne_eq_false_iff_eq.mpr c18
        clear c18
        (first | rw [c18b0] | (simp only [i64_w, i32_w]; rw [c18b0]) | skip)
        have H' := am H
        clear H
        have hnb19 := NB597_598.out
        have hnc19 := NB598_597.out
        have hnb20 := NB597_605.out
        have hnc20 := NB605_597.out
        have hcz21_0 : w10.cell? ⟨gb597, 0, none⟩ = some (.slice A0_0 l0_0.length c0_0) := (blk_cell BK597.out 0).trans rfl
        have hcz21_1 : w10.cell? ⟨gb597, 1, none⟩ = some (.slice A0_1 l0_1.length c0_1) := (blk_cell BK597.out 1).trans rfl
        have hfz21_0 := blk_frozen BK597.out 0
        have hfz21_1 := blk_frozen BK597.out 1
        go_wp2_with (first | ((with_reducible refine gate_callee (f := 24) rfl ?_); refine goesL_ (some 12) rfl rfl Try.func24 (by kernel_rfl) rfl #[.agg #[.slice A0_0 l0_0.length c0_0, .slice A0_1 l0_1.length c0_1]] rfl mpx ?_; (with_reducible refine (impl_TokensOk.calls k _ _ l0_0 _ _ l0_1 true _ ?side1 ?side2 ?side3 ?side4 A16.out).mono ?_); (case side1 => exact Kd.C_below HR0_0.out (pkW HB.out)); (case side2 => exact HC0_0.out); (case side3 => exact Kd.C_below HR0_1.out (pkW HB.out)); (case side4 => exact HC0_1.out); rintro e w22 ⟨rfl, hb⟩; refine ⟨_, rfl, ?_⟩; have n0_ := am (Kd.R_below (by (with_reducible repeat (first | apply Kd.R_alloc | apply Kd.R_drewN | apply Kd.R_drew)); exact (Kd.R_mono (Kd.R_far (p := ⟨gb605, 1, none⟩) (Kd.R_far (p := ⟨gb605, 0, none⟩) (Kd.R_types HO601.out BK605.out (by decide)) (fun _ hk => hk.2) (.slice Ao11 t599.length co11)) (fun _ hk => hk.2) (.slice Ao15 t602.length co15)) (fun _ h_ => h_.1))) hb); have n1_ := am (Kd.R_below (by (with_reducible repeat (first | apply Kd.R_alloc | apply Kd.R_drewN | apply Kd.R_drew)); exact (Kd.R_mono (Kd.R_far (p := ⟨gb605, 1, none⟩) (Kd.R_far (p := ⟨gb605, 0, none⟩) (Kd.R_types HO604.out BK605.out (by decide)) (fun _ hk => hk.2) (.slice Ao11 t599.length co11)) (fun _ hk => hk.2) (.slice Ao15 t602.length co15)) (fun _ h_ => h_.1))) hb); have n2_ := am (blk_below (g := gb597) (o := .cells #[.slice A0_0 l0_0.length c0_0, .slice A0_1 l0_1.length c0_1] 33 (0, 0)) (by (with_reducible repeat (first | refine blk_drewN ?_ _ | refine blk_drew ?_ | refine blk_alloc ?_ _)); refine blk_far ?_ NB597_605.out _; (with_reducible repeat (first | refine blk_drewN ?_ _ | refine blk_drew ?_ | refine blk_alloc ?_ _)); refine blk_far ?_ NB597_605.out _; exact pkK BK597.out) hb); have n3_ := am (blk_below (g := gb598) (o := .cells #[.slice none 0 0, .slice none 0 0] 33 (0, 0)) (by (with_reducible repeat (first | refine blk_drewN ?_ _ | refine blk_drew ?_ | refine blk_alloc ?_ _)); refine blk_far ?_ NB598_605.out _; (with_reducible repeat (first | refine blk_drewN ?_ _ | refine blk_drew ?_ | refine blk_alloc ?_ _)); refine blk_far ?_ NB598_605.out _; exact pkK BK598.out) hb); have n4_ := am (blk_below (g := gb605) (o := .cells #[.slice Ao11 t599.length co11, .slice Ao15 t602.length co15] 33 (0, 0)) (by (with_reducible repeat (first | refine blk_drewN ?_ _ | refine blk_drew ?_ | refine blk_alloc ?_ _)); refine blk_put (cs := #[.slice Ao11 t599.length co11, .slice none 0 0]) ?_ 1 _ rfl; (with_reducible repeat (first | refine blk_drewN ?_ _ | refine blk_drew ?_ | refine blk_alloc ?_ _)); refine blk_put (cs := #[.slice none 0 0, .slice none 0 0]) ?_ 0 _ rfl; exact pkK BK605.out) hb); have n5_ := am (below_step (pkW HB.out) hb); clear HO601 HO604 BK597 BK598 BK605 HB; have HO601 := n0_; have HO604 := n1_; have BK597 := n2_; have BK598 := n3_; have BK605 := n4_; have HB := n5_; clear n0_ n1_ n2_ n3_ n4_ n5_; (try clear hb); (try clear hb2); (try clear hk); (try clear hi)))
        go_meet
        case rel => exact ⟨_, (false), rfx, H', ⟨by first | omega | exact Nat.le_refl _⟩, ⟨pkR HO601.out⟩, ⟨pkR HO604.out⟩, ⟨pkK BK597.out⟩, ⟨pkK BK598.out⟩, ⟨pkK BK605.out⟩, ⟨pkW HB.out⟩⟩
      · rw [if_neg c18] at H
        have c18b0 : (a1 == (-1)) = false := beq_eq_false_iff_ne.mpr c18
        have c18b1 : (a1 != (-1)) = true := bne_iff_ne.mpr c18
        (first | rw [c18b0] | (simp only [i64_w, i32_w]; rw [c18b0]) | skip)
        replace H := Option.bind_eq_some_iff.mp H
        obtain ⟨t607, A230, H⟩ := H
        replace H : (impl_NewToken.j0 k a1 (!t607) l0_0 l0_1 t599 t602) = some (r1, r2, r3, r4) := H
        have A23 := am A230
        clear A230
        have H' := am H
        clear H
        have hnb24 := NB597_598.out
        have hnc24 := NB598_597.out
        have hnb25 := NB597_605.out
        have hnc25 := NB605_597.out
        have hcz26_0 : w10.cell? ⟨gb597, 0, none⟩ = some (.slice A0_0 l0_0.length c0_0) := (blk_cell BK597.out 0).trans rfl
        have hcz26_1 : w10.cell? ⟨gb597, 1, none⟩ = some (.slice A0_1 l0_1.length c0_1) := (blk_cell BK597.out 1).trans rfl
        have hfz26_0 := blk_frozen BK597.out 0
        have hfz26_1 := blk_frozen BK597.out 1
        go_wp2_with (first | ((with_reducible refine gate_callee (f := 24) rfl ?_); refine goesL_ (some 12) rfl rfl Try.func24 (by kernel_rfl) rfl #[.agg #[.slice A0_0 l0_0.length c0_0, .slice A0_1 l0_1.length c0_1]] rfl mpx ?_; (with_reducible refine (impl_TokensOk.calls k _ _ l0_0 _ _ l0_1 true _ ?side1 ?side2 ?side3 ?side4 A16.out).mono ?_); (case side1 => exact Kd.C_below HR0_0.out (pkW HB.out)); (case side2 => exact HC0_0.out); (case side3 => exact Kd.C_below HR0_1.out (pkW HB.out)); (case side4 => exact HC0_1.out); rintro e w27 ⟨rfl, hb⟩; refine ⟨_, rfl, ?_⟩; have n0_ := am (Kd.R_below (by (with_reducible repeat (first | apply Kd.R_alloc | apply Kd.R_drewN | apply Kd.R_drew)); exact (Kd.R_mono (Kd.R_far (p := ⟨gb605, 1, none⟩) (Kd.R_far (p := ⟨gb605, 0, none⟩) (Kd.R_types HO601.out BK605.out (by decide)) (fun _ hk => hk.2) (.slice Ao11 t599.length co11)) (fun _ hk => hk.2) (.slice Ao15 t602.length co15)) (fun _ h_ => h_.1))) hb); have n1_ := am (Kd.R_below (by (with_reducible repeat (first | apply Kd.R_alloc | apply Kd.R_drewN | apply Kd.R_drew)); exact (Kd.R_mono (Kd.R_far (p := ⟨gb605, 1, none⟩) (Kd.R_far (p := ⟨gb605, 0, none⟩) (Kd.R_types HO604.out BK605.out (by decide)) (fun _ hk => hk.2) (.slice Ao11 t599.length co11)) (fun _ hk => hk.2) (.slice Ao15 t602.length co15)) (fun _ h_ => h_.1))) hb); have n2_ := am (blk_below (g := gb597) (o := .cells #[.slice A0_0 l0_0.length c0_0, .slice A0_1 l0_1.length c0_1] 33 (0, 0)) (by (with_reducible repeat (first | refine blk_drewN ?_ _ | refine blk_drew ?_ | refine blk_alloc ?_ _)); refine blk_far ?_ NB597_605.out _; (with_reducible repeat (first | refine blk_drewN ?_ _ | refine blk_drew ?_ | refine blk_alloc ?_ _)); refine blk_far ?_ NB597_605.out _; exact pkK BK597.out) hb); have n3_ := am (blk_below (g := gb598) (o := .cells #[.slice none 0 0, .slice none 0 0] 33 (0, 0)) (by (with_reducible repeat (first | refine blk_drewN ?_ _ | refine blk_drew ?_ | refine blk_alloc ?_ _)); refine blk_far ?_ NB598_605.out _; (with_reducible repeat (first | refine blk_drewN ?_ _ | refine blk_drew ?_ | refine blk_alloc ?_ _)); refine blk_far ?_ NB598_605.out _; exact pkK BK598.out) hb); have n4_ := am (blk_below (g := gb605) (o := .cells #[.slice Ao11 t599.length co11, .slice Ao15 t602.length co15] 33 (0, 0)) (by (with_reducible repeat (first | refine blk_drewN ?_ _ | refine blk_drew ?_ | refine blk_alloc ?_ _)); refine blk_put (cs := #[.slice Ao11 t599.length co11, .slice none 0 0]) ?_ 1 _ rfl; (with_reducible repeat (first | refine blk_drewN ?_ _ | refine blk_drew ?_ | refine blk_alloc ?_ _)); refine blk_put (cs := #[.slice none 0 0, .slice none 0 0]) ?_ 0 _ rfl; exact pkK BK605.out) hb); have n5_ := am (below_step (pkW HB.out) hb); clear HO601 HO604 BK597 BK598 BK605 HB; have HO601 := n0_; have HO604 := n1_; have BK597 := n2_; have BK598 := n3_; have BK605 := n4_; have HB := n5_; clear n0_ n1_ n2_ n3_ n4_ n5_; (try clear hb); (try clear hb2); (try clear hk); (try clear hi); have hcz28_0 : w27.cell? ⟨gb597, 0, none⟩ = some (.slice A0_0 l0_0.length c0_0) := (blk_cell BK597.out 0).trans rfl; have hcz28_1 : w27.cell? ⟨gb597, 1, none⟩ = some (.slice A0_1 l0_1.length c0_1) := (blk_cell BK597.out 1).trans rfl; have hfz28_0 := blk_frozen BK597.out 0; have hfz28_1 := blk_frozen BK597.out 1) | (go_at_call 63; (with_reducible refine (impl_isToken.calls _ _ l0_0 _ _ l0_1 a1 t607 _ ?side1 ?side2 ?side3 ?side4 A23.out).mono ?_); (case side1 => exact pkC (Kd.C_below HR0_0.out HB.out)); (case side2 => exact HC0_0.out); (case side3 => exact pkC (Kd.C_below HR0_1.out HB.out)); (case side4 => exact HC0_1.out); rintro e w29 ⟨rfl, hb⟩; have n0_ := am (Kd.R_below (pkR HO601.out) hb); have n1_ := am (Kd.R_below (pkR HO604.out) hb); have n2_ := am (blk_below (pkK BK597.out) hb); have n3_ := am (blk_below (pkK BK598.out) hb); have n4_ := am (blk_below (pkK BK605.out) hb); have n5_ := am (below_step (pkW HB.out) hb); clear HO601 HO604 BK597 BK598 BK605 HB; have HO601 := n0_; have HO604 := n1_; have BK597 := n2_; have BK598 := n3_; have BK605 := n4_; have HB := n5_; clear n0_ n1_ n2_ n3_ n4_ n5_; (try clear hb); (try clear hb2); (try clear hk); (try clear hi)))
        go_meet
        case rel => exact ⟨_, (!t607), rfx, H', ⟨by first | omega | exact Nat.le_refl _⟩, ⟨pkR HO601.out⟩, ⟨pkR HO604.out⟩, ⟨pkK BK597.out⟩, ⟨pkK BK598.out⟩, ⟨pkK BK605.out⟩, ⟨pkW HB.out⟩⟩
    · replace c17 := Bool.eq_false_iff.mpr c17
      subst c17
      replace H : (impl_NewToken.j0 k a1 true l0_0 l0_1 t599 t602) = some (r1, r2, r3, r4) := by rw [if_neg (show ¬ (false = true) by decide)] at H; exact H
      have H' := am H
      clear H
      have hnb30 := NB597_598.out
      have hnc30 := NB598_597.out
      have hnb31 := NB597_605.out
      have hnc31 := NB605_597.out
      have hcz32_0 : w10.cell? ⟨gb597, 0, none⟩ = some (.slice A0_0 l0_0.length c0_0) := (blk_cell BK597.out 0).trans rfl
      have hcz32_1 : w10.cell? ⟨gb597, 1, none⟩ = some (.slice A0_1 l0_1.length c0_1) := (blk_cell BK597.out 1).trans rfl
      have hfz32_0 := blk_frozen BK597.out 0
      have hfz32_1 := blk_frozen BK597.out 1
      go_wp2_with (first | ((with_reducible refine gate_callee (f := 24) rfl ?_); refine goesL_ (some 12) rfl rfl Try.func24 (by kernel_rfl) rfl #[.agg #[.slice A0_0 l0_0.length c0_0, .slice A0_1 l0_1.length c0_1]] rfl mpx ?_; (with_reducible refine (impl_TokensOk.calls k _ _ l0_0 _ _ l0_1 false _ ?side1 ?side2 ?side3 ?side4 A16.out).mono ?_); (case side1 => exact Kd.C_below HR0_0.out (pkW HB.out)); (case side2 => exact HC0_0.out); (case side3 => exact Kd.C_below HR0_1.out (pkW HB.out)); (case side4 => exact HC0_1.out); rintro e w33 ⟨rfl, hb⟩; refine ⟨_, rfl, ?_⟩; have n0_ := am (Kd.R_below (by (with_reducible repeat (first | apply Kd.R_alloc | apply Kd.R_drewN | apply Kd.R_drew)); exact (Kd.R_mono (Kd.R_far (p := ⟨gb605, 1, none⟩) (Kd.R_far (p := ⟨gb605, 0, none⟩) (Kd.R_types HO601.out BK605.out (by decide)) (fun _ hk => hk.2) (.slice Ao11 t599.length co11)) (fun _ hk => hk.2) (.slice Ao15 t602.length co15)) (fun _ h_ => h_.1))) hb); have n1_ := am (Kd.R_below (by (with_reducible repeat (first | apply Kd.R_alloc | apply Kd.R_drewN | apply Kd.R_drew)); exact (Kd.R_mono (Kd.R_far (p := ⟨gb605, 1, none⟩) (Kd.R_far (p := ⟨gb605, 0, none⟩) (Kd.R_types HO604.out BK605.out (by decide)) (fun _ hk => hk.2) (.slice Ao11 t599.length co11)) (fun _ hk => hk.2) (.slice Ao15 t602.length co15)) (fun _ h_ => h_.1))) hb); have n2_ := am (blk_below (g := gb597) (o := .cells #[.slice A0_0 l0_0.length c0_0, .slice A0_1 l0_1.length c0_1] 33 (0, 0)) (by (with_reducible repeat (first | refine blk_drewN ?_ _ | refine blk_drew ?_ | refine blk_alloc ?_ _)); refine blk_far ?_ NB597_605.out _; (with_reducible repeat (first | refine blk_drewN ?_ _ | refine blk_drew ?_ | refine blk_alloc ?_ _)); refine blk_far ?_ NB597_605.out _; exact pkK BK597.out) hb); have n3_ := am (blk_below (g := gb598) (o := .cells #[.slice none 0 0, .slice none 0 0] 33 (0, 0)) (by (with_reducible repeat (first | refine blk_drewN ?_ _ | refine blk_drew ?_ | refine blk_alloc ?_ _)); refine blk_far ?_ NB598_605.out _; (with_reducible repeat (first | refine blk_drewN ?_ _ | refine blk_drew ?_ | refine blk_alloc ?_ _)); refine blk_far ?_ NB598_605.out _; exact pkK BK598.out) hb); have n4_ := am (blk_below (g := gb605) (o := .cells #[.slice Ao11 t599.length co11, .slice Ao15 t602.length co15] 33 (0, 0)) (by (with_reducible repeat (first | refine blk_drewN ?_ _ | refine blk_drew ?_ | refine blk_alloc ?_ _)); refine blk_put (cs := #[.slice Ao11 t599.length co11, .slice none 0 0]) ?_ 1 _ rfl; (with_reducible repeat (first | refine blk_drewN ?_ _ | refine blk_drew ?_ | refine blk_alloc ?_ _)); refine blk_put (cs := #[.slice none 0 0, .slice none 0 0]) ?_ 0 _ rfl; exact pkK BK605.out) hb); have n5_ := am (below_step (pkW HB.out) hb); clear HO601 HO604 BK597 BK598 BK605 HB; have HO601 := n0_; have HO604 := n1_; have BK597 := n2_; have BK598 := n3_; have BK605 := n4_; have HB := n5_; clear n0_ n1_ n2_ n3_ n4_ n5_; (try clear hb); (try clear hb2); (try clear hk); (try clear hi)))
      go_meet
      case rel => exact ⟨_, (true), rfx, H', ⟨by first | omega | exact Nat.le_refl _⟩, ⟨pkR HO601.out⟩, ⟨pkR HO604.out⟩, ⟨pkK BK597.out⟩, ⟨pkK BK598.out⟩, ⟨pkK BK605.out⟩, ⟨pkW HB.out⟩⟩
  case rest =>
    clear HC4
    try clear c1
    try clear c2
    try clear p2
    try clear c3
    try clear c4
    try clear c7
    try clear c12
    try clear c13
    try clear c17
    try clear c18
    try clear c18b0
    try clear c18b1
    try clear c19
    try clear c20
    try clear c24
    try clear c25
    try clear c30
    try clear c31
    try clear hcz14_0
    try clear hcz14_1
    try clear hcz21_0
    try clear hcz21_1
    try clear hcz26_0
    try clear hcz26_1
    try clear hcz28_0
    try clear hcz28_1
    try clear hcz32_0
    try clear hcz32_1
    try clear hcz8_0
    try clear hcz8_1
    try clear hfz14_0
    try clear hfz14_1
    try clear hfz21_0
    try clear hfz21_1
    try clear hfz26_0
    try clear hfz26_1
    try clear hfz28_0
    try clear hfz28_1
    try clear hfz32_0
    try clear hfz32_1
    try clear hfz8_0
    try clear hfz8_1
    obtain ⟨kq, x10_3, rfl, HA, HJ3, HO_606000, HO_606001, BK597, BK598, BK605, HB⟩ := hcut
    cases kq with
    | zero => exact absurd HA.out (by simp [impl_NewToken.j0])
    | succ kj3 =>
      have H := HA.out
      clear HA
      simp only [impl_NewToken.j0] at H
      by_cases c34 : x10_3 = true
      · subst c34
        replace H : (some (t599, t602, (-1), 1)) = some (r1, r2, r3, r4) := by rw [if_pos rfl] at H; exact H
        simp only [Option.some.injEq, Prod.mk.injEq] at H
        obtain ⟨rfl, rfl, rfl, rfl⟩ := H
        have hnb35 := NB605_597.out
        have hnc35 := NB597_605.out
        have hnb36 := NB605_598.out
        have hnc36 := NB598_605.out
        have hcz37_0 : wc.cell? ⟨gb605, 0, none⟩ = some (.slice Ao11 t599.length co11) := (blk_cell BK605.out 0).trans rfl
        have hcz37_1 : wc.cell? ⟨gb605, 1, none⟩ = some (.slice Ao15 t602.length co15) := (blk_cell BK605.out 1).trans rfl
        have hfz37_0 := blk_frozen BK605.out 0
        have hfz37_1 := blk_frozen BK605.out 1
        have hnb38 := NB598_597.out
        have hnc38 := NB597_598.out
        have hcz39_0 : wc.cell? ⟨gb598, 0, none⟩ = some (.slice none 0 0) := (blk_cell BK598.out 0).trans rfl
        have hcz39_1 : wc.cell? ⟨gb598, 1, none⟩ = some (.slice none 0 0) := (blk_cell BK598.out 1).trans rfl
        have hfz39_0 := blk_frozen BK598.out 0
        have hfz39_1 := blk_frozen BK598.out 1
        go_wp2
        refine bodyPost_ret (results_ctt rfl _ _ gb598 33 #[.slice Ao11 t599.length co11, .slice Ao15 t602.length co15] (0, 0) _ rfl (by (with_reducible repeat (first | refine blk_drewN ?_ _ | refine blk_drew ?_ | refine blk_alloc ?_ _)); refine blk_put (cs := #[.slice Ao11 t599.length co11, .slice none 0 0]) ?_ 1 _ rfl; (with_reducible repeat (first | refine blk_drewN ?_ _ | refine blk_drew ?_ | refine blk_alloc ?_ _)); refine blk_put (cs := #[.slice none 0 0, .slice none 0 0]) ?_ 0 _ rfl; exact pkK BK598.out) Try.underlying33 rfl (by kernel_rfl)) rfl ?_
        exact ⟨_, _, rfe, by (with_reducible repeat (first | apply Kd.R_alloc | apply Kd.R_drewN | apply Kd.R_drew)); exact Kd.R_mono (Kd.R_far (p := ⟨gb598, 1, none⟩) (Kd.R_far (p := ⟨gb598, 0, none⟩) (Kd.R_types HO_606000.out BK598.out (by decide)) (fun _ hk => hk.2) (.slice Ao11 t599.length co11)) (fun _ hk => hk.2) (.slice Ao15 t602.length co15)) (fun _ hk => trivial), by (with_reducible repeat (first | apply Kd.R_alloc | apply Kd.R_drewN | apply Kd.R_drew)); exact Kd.R_mono (Kd.R_far (p := ⟨gb598, 1, none⟩) (Kd.R_far (p := ⟨gb598, 0, none⟩) (Kd.R_types HO_606001.out BK598.out (by decide)) (fun _ hk => hk.2) (.slice Ao11 t599.length co11)) (fun _ hk => hk.2) (.slice Ao15 t602.length co15)) (fun _ hk => trivial), pkW HB.out⟩
      · replace c34 := Bool.eq_false_iff.mpr c34
        subst c34
        replace H : (if (l0_0.length : Int) = 24 then (some (t599, t602, (-1), 2)) else (if t599.length < 17592186044416 then ((some (t599 ++ [a1] : List Int)).bind fun y608 => (if a1 ≥ 0 then (if 0 ≤ a1 then (if a1 < (l0_1.length : Int) then (if t602.length < 140737488355328 then (some (y608, (t602 ++ [rdOf false l0_1 a1]), (l0_0.length : Int), 0)) else (none)) else (none)) else (none)) else (if t602.length < 140737488355328 then (some (y608, (t602 ++ [false]), (l0_0.length : Int), 0)) else (none)))) else (none))) = some (r1, r2, r3, r4) := by rw [if_neg (show ¬ (false = true) by decide)] at H; exact H
        by_cases c40 : (l0_0.length : Int) = 24
        · rw [if_pos c40] at H
          have c40b0 : ((l0_0.length : Int) == 24) = true := beq_iff_eq.mpr c40
          have c40b1 : ((l0_0.length : Int) != 24) = false := bne_eq_false_iff_eq.mpr c40
          clear c40
          simp only [Option.some.injEq, Prod.mk.injEq] at H
          obtain ⟨rfl, rfl, rfl, rfl⟩ := H
          have hnb41 := NB597_598.out
          have hnc41 := NB598_597.out
          have hnb42 := NB597_605.out
          have hnc42 := NB605_597.out
          have hcz43_0 : wc.cell? ⟨gb597, 0, none⟩ = some (.slice A0_0 l0_0.length c0_0) := (blk_cell BK597.out 0).trans rfl
          have hcz43_1 : wc.cell? ⟨gb597, 1, none⟩ = some (.slice A0_1 l0_1.length c0_1) := (blk_cell BK597.out 1).trans rfl
          have hfz43_0 := blk_frozen BK597.out 0
          have hfz43_1 := blk_frozen BK597.out 1
          have hnb44 := NB605_598.out
          have hnc44 := NB598_605.out
          have hcz45_0 : wc.cell? ⟨gb605, 0, none⟩ = some (.slice Ao11 t599.length co11) := (blk_cell BK605.out 0).trans rfl
          have hcz45_1 : wc.cell? ⟨gb605, 1, none⟩ = some (.slice Ao15 t602.length co15) := (blk_cell BK605.out 1).trans rfl
          have hfz45_0 := blk_frozen BK605.out 0
          have hfz45_1 := blk_frozen BK605.out 1
          have hcz46_0 : wc.cell? ⟨gb598, 0, none⟩ = some (.slice none 0 0) := (blk_cell BK598.out 0).trans rfl
          have hcz46_1 : wc.cell? ⟨gb598, 1, none⟩ = some (.slice none 0 0) := (blk_cell BK598.out 1).trans rfl
          have hfz46_0 := blk_frozen BK598.out 0
          have hfz46_1 := blk_frozen BK598.out 1
          go_wp2
          refine bodyPost_ret (results_ctt rfl _ _ gb598 33 #[.slice Ao11 t599.length co11, .slice Ao15 t602.length co15] (0, 0) _ rfl (by (with_reducible repeat (first | refine blk_drewN ?_ _ | refine blk_drew ?_ | refine blk_alloc ?_ _)); refine blk_put (cs := #[.slice Ao11 t599.length co11, .slice none 0 0]) ?_ 1 _ rfl; (with_reducible repeat (first | refine blk_drewN ?_ _ | refine blk_drew ?_ | refine blk_alloc ?_ _)); refine blk_put (cs := #[.slice none 0 0, .slice none 0 0]) ?_ 0 _ rfl; exact pkK BK598.out) Try.underlying33 rfl (by kernel_rfl)) rfl ?_
          exact ⟨_, _, rfe, by (with_reducible repeat (first | apply Kd.R_alloc | apply Kd.R_drewN | apply Kd.R_drew)); exact Kd.R_mono (Kd.R_far (p := ⟨gb598, 1, none⟩) (Kd.R_far (p := ⟨gb598, 0, none⟩) (Kd.R_types HO_606000.out BK598.out (by decide)) (fun _ hk => hk.2) (.slice Ao11 t599.length co11)) (fun _ hk => hk.2) (.slice Ao15 t602.length co15)) (fun _ hk => trivial), by (with_reducible repeat (first | apply Kd.R_alloc | apply Kd.R_drewN | apply Kd.R_drew)); exact Kd.R_mono (Kd.R_far (p := ⟨gb598, 1, none⟩) (Kd.R_far (p := ⟨gb598, 0, none⟩) (Kd.R_types HO_606001.out BK598.out (by decide)) (fun _ hk => hk.2) (.slice Ao11 t599.length co11)) (fun _ hk => hk.2) (.slice Ao15 t602.length co15)) (fun _ hk => trivial), pkW HB.out⟩
        · rw [if_neg c40] at H
          have c40b0 : ((l0_0.length : Int) == 24) = false := beq_eq_false_iff_ne.mpr c40
          have c40b1 : ((l0_0.length : Int) != 24) = true := bne_iff_ne.mpr c40
          by_cases c47 : t599.length < 17592186044416
          · rw [if_pos c47] at H
            have LMc47 := am c47
            clear c47
            obtain ⟨y608, hy608⟩ : ∃ y_ : List Int, y_ = (t599 ++ [a1]) := ⟨_, rfl⟩
            replace H : (if a1 ≥ 0 then (if 0 ≤ a1 then (if a1 < (l0_1.length : Int) then (if t602.length < 140737488355328 then (some (y608, (t602 ++ [rdOf false l0_1 a1]), (l0_0.length : Int), 0)) else (none)) else (none)) else (none)) else (if t602.length < 140737488355328 then (some (y608, (t602 ++ [false]), (l0_0.length : Int), 0)) else (none))) = some (r1, r2, r3, r4) := by first | (rw [hy608]; with_reducible exact H) | (have H2_ := (Option.bind_some _ _).symm.trans H; rw [hy608]; with_reducible exact H2_) | (have H2_ := (Option.bind_some _ _).symm.trans H; with_reducible exact H2_) | with_reducible exact H | (rw [hy608]; exact H) | exact H
            have Ny608 := am hy608
            clear hy608
            by_cases c48 : a1 ≥ 0
            · rw [if_pos c48] at H
              have c48b0 : decide (0 ≤ a1) = true := decide_eq_true c48
              clear c48
              by_cases c49 : 0 ≤ a1
              · rw [if_pos c49] at H
                have c49b0 : decide (0 ≤ a1) = true := decide_eq_true c49
                clear c49
                by_cases c50 : a1 < (l0_1.length : Int)
                · rw [if_pos c50] at H
                  have c50b0 : decide (a1 < (l0_1.length : Int)) = true := decide_eq_true c50
                  clear c50
                  by_cases c51 : t602.length < 140737488355328
                  · rw [if_pos c51] at H
                    have LMc51 := am c51
                    clear c51
                    obtain ⟨y612, hy612⟩ : ∃ y_ : List Bool, y_ = (t602 ++ [rdOf false l0_1 a1]) := ⟨_, rfl⟩
                    replace H : (some (y608, y612, (l0_0.length : Int), 0)) = some (r1, r2, r3, r4) := by first | (rw [hy612]; with_reducible exact H) | (have H2_ := (Option.bind_some _ _).symm.trans H; rw [hy612]; with_reducible exact H2_) | (have H2_ := (Option.bind_some _ _).symm.trans H; with_reducible exact H2_) | with_reducible exact H | (rw [hy612]; exact H) | exact H
                    have Ny612 := am hy612
                    clear hy612
                    simp only [Option.some.injEq, Prod.mk.injEq] at H
                    obtain ⟨rfl, rfl, rfl, rfl⟩ := H
                    have hnb52 := NB597_598.out
                    have hnc52 := NB598_597.out
                    have hnb53 := NB597_605.out
                    have hnc53 := NB605_597.out
                    have hcz54_0 : wc.cell? ⟨gb597, 0, none⟩ = some (.slice A0_0 l0_0.length c0_0) := (blk_cell BK597.out 0).trans rfl
                    have hcz54_1 : wc.cell? ⟨gb597, 1, none⟩ = some (.slice A0_1 l0_1.length c0_1) := (blk_cell BK597.out 1).trans rfl
                    have hfz54_0 := blk_frozen BK597.out 0
                    have hfz54_1 := blk_frozen BK597.out 1
                    have hnb55 := NB605_598.out
                    have hnc55 := NB598_605.out
                    have hcz56_0 : wc.cell? ⟨gb605, 0, none⟩ = some (.slice Ao11 t599.length co11) := (blk_cell BK605.out 0).trans rfl
                    have hcz56_1 : wc.cell? ⟨gb605, 1, none⟩ = some (.slice Ao15 t602.length co15) := (blk_cell BK605.out 1).trans rfl
                    have hfz56_0 := blk_frozen BK605.out 0
                    have hfz56_1 := blk_frozen BK605.out 1
                    try go_wp2_with (first | ((with_reducible refine gate_builtin (b := .append) (xs := #[.tmp 32, .tmp 34]) rfl ?_); at_builtin; refine Kd.R_append (Kd.int .i64) (w0 := w) w.heap.size rfl (.tmp 32) (.tmp 34) 22 3 (.int .i64 0) 8 rfl Try.underlying22 info3 rfl (by decide) (by omega) (.slice Ao11 t599.length co11) t599 a1 [.int .i64 a1] (fun _ => True) (fun _ => False) rfl rfl ?aP (fun _ hk => hk.elim) ?aF ?aO ?aB ?aS ?aL ?_; (case aP => exact rfl); (case aB => exact (pkW HB.out)); (case aF => exact (fun _ _ => trivial)); (case aO => exact (pkR HO_606000.out)); (case aS => exact (below_size (pkW HB.out))); (case aL => have := LMc47.out; omega); intro v609 w57 ho hb hg hat; rw [← Ny608.out] at ho; have n0_ := am (Kd.R_over' (pkR HO_606001.out) (Kd.R_typed (pkR HO_606000.out)) (by decide) hg); have n1_ := am (blk_grown (g := gb597) (o := .cells #[.slice A0_0 l0_0.length c0_0, .slice A0_1 l0_1.length c0_1] 33 (0, 0)) (pkK BK597.out) hg (Kd.R_ne HO_606000.out BK597.out (by decide))); have n2_ := am (blk_grown (g := gb598) (o := .cells #[.slice none 0 0, .slice none 0 0] 33 (0, 0)) (pkK BK598.out) hg (Kd.R_ne HO_606000.out BK598.out (by decide))); have n3_ := am (blk_grown (g := gb605) (o := .cells #[.slice Ao11 t599.length co11, .slice Ao15 t602.length co15] 33 (0, 0)) (pkK BK605.out) hg (Kd.R_ne HO_606000.out BK605.out (by decide))); have n4_ := am (hb); have n5_ := am (ho); clear HO_606001 BK597 BK598 BK605 HB HO_606000; have HO_606001 := n0_; have BK597 := n1_; have BK598 := n2_; have BK605 := n3_; have HB := n4_; have HO610 := n5_; clear n0_ n1_ n2_ n3_ n4_ n5_; clear ho hb hg hat; obtain ⟨Ao58, co58, eo58⟩ := Kd.R_slice HO610.out; subst eo58; have hcz59_0 : w57.cell? ⟨gb605, 0, none⟩ = some (.slice Ao11 t599.length co11) := (blk_cell BK605.out 0).trans rfl; have hcz59_1 : w57.cell? ⟨gb605, 1, none⟩ = some (.slice Ao15 t602.length co15) := (blk_cell BK605.out 1).trans rfl; have hfz59_0 := blk_frozen BK605.out 0; have hfz59_1 := blk_frozen BK605.out 1))
                    have n0_ : Aside0 (Kd.R Kd.bool 4 (w57.setCell ⟨gb605, 0, none⟩ (.slice Ao58 y608.length co58)) w.heap.size (fun _ => True) (.slice Ao15 t602.length co15) t602) := ⟨by (with_reducible repeat (first | apply Kd.R_alloc | apply Kd.R_drewN | apply Kd.R_drew)); exact Kd.R_mono (Kd.R_far (p := ⟨gb605, 0, none⟩) (Kd.R_types HO_606001.out BK605.out (by decide)) (fun _ hk => hk.2) (.slice Ao58 y608.length co58)) (fun _ hk => trivial)⟩
                    have n1_ : Aside0 (Kd.R (Kd.int .i64) 3 (w57.setCell ⟨gb605, 0, none⟩ (.slice Ao58 y608.length co58)) w.heap.size (fun _ => True) (.slice Ao58 y608.length co58) y608) := ⟨by (with_reducible repeat (first | apply Kd.R_alloc | apply Kd.R_drewN | apply Kd.R_drew)); exact Kd.R_mono (Kd.R_far (p := ⟨gb605, 0, none⟩) (Kd.R_types HO610.out BK605.out (by decide)) (fun _ hk => hk.2) (.slice Ao58 y608.length co58)) (fun _ hk => trivial)⟩
                    have n2_ : Aside0 ((w57.setCell ⟨gb605, 0, none⟩ (.slice Ao58 y608.length co58)).heap[gb597]? = some (.cells #[.slice A0_0 l0_0.length c0_0, .slice A0_1 l0_1.length c0_1] 33 (0, 0))) := ⟨by (with_reducible repeat (first | refine blk_drewN ?_ _ | refine blk_drew ?_ | refine blk_alloc ?_ _)); refine blk_far ?_ NB597_605.out _; exact pkK BK597.out⟩
                    have n3_ : Aside0 ((w57.setCell ⟨gb605, 0, none⟩ (.slice Ao58 y608.length co58)).heap[gb598]? = some (.cells #[.slice none 0 0, .slice none 0 0] 33 (0, 0))) := ⟨by (with_reducible repeat (first | refine blk_drewN ?_ _ | refine blk_drew ?_ | refine blk_alloc ?_ _)); refine blk_far ?_ NB598_605.out _; exact pkK BK598.out⟩
                    have n4_ : Aside0 ((w57.setCell ⟨gb605, 0, none⟩ (.slice Ao58 y608.length co58)).heap[gb605]? = some (.cells #[.slice Ao58 y608.length co58, .slice Ao15 t602.length co15] 33 (0, 0))) := ⟨by (with_reducible repeat (first | refine blk_drewN ?_ _ | refine blk_drew ?_ | refine blk_alloc ?_ _)); refine blk_put (cs := #[.slice Ao11 t599.length co11, .slice Ao15 t602.length co15]) ?_ 0 _ rfl; exact pkK BK605.out⟩
                    have n5_ : Aside0 (Below w.heap.size w (w57.setCell ⟨gb605, 0, none⟩ (.slice Ao58 y608.length co58))) := ⟨pkW HB.out⟩
                    (try clear HO_606001); (try clear HO610); (try clear BK597); (try clear BK598); (try clear BK605); (try clear HB)
                    generalize (w57.setCell ⟨gb605, 0, none⟩ (.slice Ao58 y608.length co58)) = w60 at n0_ n1_ n2_ n3_ n4_ n5_ ⊢
                    have HO_606001 := n0_; have HO610 := n1_; have BK597 := n2_; have BK598 := n3_; have BK605 := n4_; have HB := n5_
                    clear n0_ n1_ n2_ n3_ n4_ n5_
                    have n0_ := am (Kd.R_drew HO_606001.out)
                    have n1_ := am (Kd.R_drew HO610.out)
                    have n2_ := am (blk_drew BK597.out)
                    have n3_ := am (blk_drew BK598.out)
                    have n4_ := am (blk_drew BK605.out)
                    have n5_ := am (below_drew1 HB.out)
                    clear HO_606001 HO610 BK597 BK598 BK605 HB
                    have HO_606001 := n0_; have HO610 := n1_; have BK597 := n2_; have BK598 := n3_; have BK605 := n4_; have HB := n5_
                    clear n0_ n1_ n2_ n3_ n4_ n5_
                    have p611 : 0 ≤ (a1 : Int) := ofd
                    have q611 : a1 < (l0_1.length : Int) := ofd
                    obtain ⟨ad611, e611, hx611_0⟩ := Kd.at_bool HR0_1.out a1 p611 q611
                    have hw611_0 := hx611_0
                    cases e611
                    replace hx611_0 := (HB.out.cell (World.block_lt_of_cell? w _ hx611_0)).trans hx611_0
                    replace p611 := eq_true p611
                    replace q611 := eq_true q611
                    refine start_ (n := 15) (S := fun w' => w'.cell? ⟨gb605, 0, none⟩ = some (.slice Ao58 y608.length co58) ∧ w'.cell? ⟨gb605, 1, none⟩ = some (.slice Ao15 t602.length co15) ∧ w'.cell? ⟨gb597, 0, none⟩ = some (.slice A0_0 l0_0.length c0_0) ∧ w'.cell? ⟨gb597, 1, none⟩ = some (.slice (some ad611) l0_1.length c0_1) ∧ w'.cell? (ad611.add (a1).toNat) = some (.bool (rdOf false l0_1 a1))) (ds := [14]) #[false, false, false, false, false, false, false, false, false, false, false, false, false, false, false] (by kernel_rfl) rfl rfl ⟨(blk_cell BK605.out 0).trans rfl, (blk_cell BK605.out 1).trans rfl, (blk_cell BK597.out 0).trans rfl, (blk_cell BK597.out 1).trans rfl, ((HB.out.cell (World.block_lt_of_cell? w _ hw611_0)).trans hw611_0)⟩ (fun hHeld => ?_); refine with_tabW impl_NewToken.tab7 impl_NewToken.bits7 (fun HT_ HW_ => ?_)
                    generalize w60.drew = w61 at HO_606001 HO610 BK597 BK598 BK605 HB hx611_0 hHeld ⊢
                    refine pure_ (i := 0) (N := some 37) (v := ?_) (a' := ?_) #[true, false, false, false, false, false, false, false, false, false, false, false, false, false, false] rfl rfl (any_of HT_.out (by kernel_rfl)) (fun _ _ _ h => h) (Or.inl ⟨by rfl, ?_⟩) ?_ ?_
                    rotate_left
                    · intro w'
                      go_simp
                      with_reducible rfl
                    rotate_left
                    · simp only [Act.put, List.setIfInBounds_toArray, List.set_cons_zero, List.set_cons_succ, i64_w, i32_w]
                      rfl
                    refine pure_ (i := 2) (N := some 39) (v := ?_) (a' := ?_) #[true, false, true, false, false, false, false, false, false, false, false, false, false, false, false] rfl rfl (any_of HT_.out (by kernel_rfl)) (fun _ _ _ h => h) (Or.inl ⟨by rfl, ?_⟩) ?_ ?_
                    rotate_left
                    · intro w'
                      go_simp
                      with_reducible rfl
                    rotate_left
                    · simp only [Act.put, List.setIfInBounds_toArray, List.set_cons_zero, List.set_cons_succ, i64_w, i32_w]
                      rfl
                    refine pure_ (i := 3) (N := some 40) (v := ?_) (a' := ?_) #[true, false, true, true, false, false, false, false, false, false, false, false, false, false, false] rfl rfl (any_of HT_.out (by kernel_rfl)) (fun _ _ _ h => h) (Or.inl ⟨by rfl, ?_⟩) ?_ ?_
                    rotate_left
                    · intro w'
                      go_simp
                      with_reducible rfl
                    rotate_left
                    · simp only [Act.put, List.setIfInBounds_toArray, List.set_cons_zero, List.set_cons_succ, i64_w, i32_w]
                      rfl
                    refine pure_ (i := 4) (N := some 41) (v := ?_) (a' := ?_) #[true, false, true, true, true, false, false, false, false, false, false, false, false, false, false] rfl rfl (any_of HT_.out (by kernel_rfl)) (fun _ _ _ h => h) (Or.inl ⟨by rfl, ?_⟩) ?_ ?_
                    rotate_left
                    · intro w'
                      go_simp
                      with_reducible rfl
                    rotate_left
                    · simp only [Act.put, List.setIfInBounds_toArray, List.set_cons_zero, List.set_cons_succ, i64_w, i32_w]
                      rfl
                    refine pure_ (i := 5) (N := some 42) (v := ?_) (a' := ?_) #[true, false, true, true, true, true, false, false, false, false, false, false, false, false, false] rfl rfl (any_of HT_.out (by kernel_rfl)) (fun _ _ _ h => h) (Or.inl ⟨by rfl, ?_⟩) ?_ ?_
                    rotate_left
                    · intro w'
                      go_simp
                      with_reducible rfl
                    rotate_left
                    · simp only [Act.put, List.setIfInBounds_toArray, List.set_cons_zero, List.set_cons_succ, i64_w, i32_w]
                      rfl
                    refine pure_ (i := 7) (N := some 44) (v := ?_) (a' := ?_) #[true, false, true, true, true, true, false, true, false, false, false, false, false, false, false] rfl rfl (any_of HT_.out (by kernel_rfl)) (fun _ _ _ h => h) (Or.inl ⟨by rfl, ?_⟩) ?_ ?_
                    rotate_left
                    · intro w'
                      go_simp
                      with_reducible rfl
                    rotate_left
                    · simp only [Act.put, List.setIfInBounds_toArray, List.set_cons_zero, List.set_cons_succ, i64_w, i32_w]
                      rfl
                    refine take_ (i := 1) (N := some 38) (v := ?_) (a' := ?_) #[true, true, true, true, true, true, false, true, false, false, false, false, false, false, false] rfl rfl (take_ofW HT_.out HW_.out (by kernel_rfl)) (fun _ _ _ h => h) (Or.inl ⟨by rfl, ?_⟩) hHeld ?_ ?_
                    rotate_left
                    · rintro w' ⟨s0, s1, s2, s3, s4⟩
                      go_simp
                      with_reducible rfl
                    rotate_left
                    · simp only [Act.put, List.setIfInBounds_toArray, List.set_cons_zero, List.set_cons_succ, i64_w, i32_w]
                      rfl
                    refine take_ (i := 6) (N := some 43) (v := ?_) (a' := ?_) #[true, true, true, true, true, true, true, true, false, false, false, false, false, false, false] rfl rfl (take_ofW HT_.out HW_.out (by kernel_rfl)) (fun _ _ _ h => h) (Or.inl ⟨by rfl, ?_⟩) hHeld ?_ ?_
                    rotate_left
                    · rintro w' ⟨s0, s1, s2, s3, s4⟩
                      go_simp
                      with_reducible rfl
                    rotate_left
                    · simp only [Act.put, List.setIfInBounds_toArray, List.set_cons_zero, List.set_cons_succ, i64_w, i32_w]
                      rfl
                    refine pure_ (i := 8) (N := some 45) (v := ?_) (a' := ?_) #[true, true, true, true, true, true, true, true, true, false, false, false, false, false, false] rfl rfl (any_of HT_.out (by kernel_rfl)) (fun _ _ _ h => h) (Or.inl ⟨by rfl, ?_⟩) ?_ ?_
                    rotate_left
                    · intro w'
                      go_simp
                      with_reducible rfl
                    rotate_left
                    · simp only [Act.put, List.setIfInBounds_toArray, List.set_cons_zero, List.set_cons_succ, i64_w, i32_w]
                      rfl
                    refine take_ (i := 9) (N := some 46) (v := ?_) (a' := ?_) #[true, true, true, true, true, true, true, true, true, true, false, false, false, false, false] rfl rfl (take_ofW HT_.out HW_.out (by kernel_rfl)) (fun _ _ _ h => h) (Or.inl ⟨by rfl, ?_⟩) hHeld ?_ ?_
                    rotate_left
                    · rintro w' ⟨s0, s1, s2, s3, s4⟩
                      go_simp
                      with_reducible rfl
                    rotate_left
                    · simp only [Act.put, List.setIfInBounds_toArray, List.set_cons_zero, List.set_cons_succ, i64_w, i32_w]
                      rfl
                    refine pure_ (i := 10) (N := some 47) (v := ?_) (a' := ?_) #[true, true, true, true, true, true, true, true, true, true, true, false, false, false, false] rfl rfl (any_of HT_.out (by kernel_rfl)) (fun _ _ _ h => h) (Or.inl ⟨by rfl, ?_⟩) ?_ ?_
                    rotate_left
                    · intro w'
                      go_simp
                      with_reducible rfl
                    rotate_left
                    · simp only [Act.put, List.setIfInBounds_toArray, List.set_cons_zero, List.set_cons_succ, i64_w, i32_w]
                      rfl
                    refine one_ (i := 11) (N := some 48) #[true, true, true, true, true, true, true, true, true, true, true, true, false, false, false] rfl rfl (one_of HT_.out (by kernel_rfl)) (by decide) (fun K hK => ?_)
                    refine value_ (w1 := ?_) (v := ?_) (by rfl) rfl ?_ ?_
                    rotate_left 2
                    · go_simp
                      constructor
                      · rfl
                      · rfl
                    refine hK.out _ _ ⟨(blk_cell (blk_alloc BK605.out _) 0).trans rfl, (blk_cell (blk_alloc BK605.out _) 1).trans rfl, (blk_cell (blk_alloc BK597.out _) 0).trans rfl, (blk_cell (blk_alloc BK597.out _) 1).trans rfl, (World.cell?_alloc_lt _ _ _ (World.block_lt_of_cell? _ _ (((HB.out.cell (World.block_lt_of_cell? w _ hw611_0)).trans hw611_0)))).trans (((HB.out.cell (World.block_lt_of_cell? w _ hw611_0)).trans hw611_0))⟩ (fun hHeld => ?_)
                    clear hK K
                    refine norm_ (a' := ?_) ?_ ?_
                    rotate_left
                    · show Act.put _ (some 48) _ = _
                      simp only [Act.put, List.setIfInBounds_toArray, List.set_cons_zero, List.set_cons_succ, i64_w, i32_w]
                      rfl
                    refine one_ (i := 12) (N := some 49) #[true, true, true, true, true, true, true, true, true, true, true, true, true, false, false] rfl rfl (one_of HT_.out (by kernel_rfl)) (by decide) (fun K hK => ?_)
                    refine Kd.R_append_step Kd.bool (w0 := w) w.heap.size (by rfl) (.tmp 38) (.tmp 48) 28 4 (.bool false) 1 rfl Try.underlying28 info4 rfl (by decide) (by omega) (.slice Ao15 t602.length co15) t602 (rdOf false l0_1 a1) [.bool (rdOf false l0_1 a1)] (fun _ => True) (fun _ => False) rfl rfl ?aP (fun _ hk => hk.elim) ?aF ?aO ?aB ?aS ?aL ?_
                    (case aP => exact rfl)
                    (case aB => exact (pkW HB.out))
                    (case aF => exact (fun _ _ => trivial))
                    (case aO => exact (pkR HO_606001.out))
                    (case aS => exact (below_size (pkW HB.out)))
                    (case aL => have := LMc51.out; omega)
                    intro v613 w62 ho hb hg hat
                    rw [← Ny612.out] at ho
                    have n0_ := am (blk_grown (g := gb597) (o := .cells #[.slice A0_0 l0_0.length c0_0, .slice (some ad611) l0_1.length c0_1] 33 (0, 0)) (pkK BK597.out) hg (Kd.R_ne HO_606001.out BK597.out (by decide)))
                    have n1_ := am (blk_grown (g := gb598) (o := .cells #[.slice none 0 0, .slice none 0 0] 33 (0, 0)) (pkK BK598.out) hg (Kd.R_ne HO_606001.out BK598.out (by decide)))
                    have n2_ := am (blk_grown (g := gb605) (o := .cells #[.slice Ao58 y608.length co58, .slice Ao15 t602.length co15] 33 (0, 0)) (pkK BK605.out) hg (Kd.R_ne HO_606001.out BK605.out (by decide)))
                    have n3_ := am (Kd.R_over' (pkR HO610.out) (Kd.R_typed (pkR HO_606001.out)) (by decide) hg)
                    have n4_ := am (hb)
                    have n5_ := am (ho)
                    clear BK597 BK598 BK605 HO610 HB HO_606001
                    have BK597 := n0_; have BK598 := n1_; have BK605 := n2_; have HO610 := n3_; have HB := n4_; have HO614 := n5_
                    clear n0_ n1_ n2_ n3_ n4_ n5_ ho hb hg hat
                    obtain ⟨Ao63, co63, eo63⟩ := Kd.R_slice HO614.out
                    (first | subst eo63 | (injection eo63 with f1_ f2_ f3_; have f4_ := f1_.symm; have f5_ := f3_.symm; clear f1_ f2_ f3_; subst f4_; subst f5_))
                    refine hK.out _ _ ⟨(blk_cell BK605.out 0).trans rfl, (blk_cell BK605.out 1).trans rfl, (blk_cell BK597.out 0).trans rfl, (blk_cell BK597.out 1).trans rfl, ((HB.out.cell (World.block_lt_of_cell? w _ hw611_0)).trans hw611_0)⟩ (fun hHeld => ?_)
                    clear hK K
                    refine norm_ (a' := ?_) ?_ ?_
                    rotate_left
                    · show Act.put _ (some 49) _ = _
                      simp only [Act.put, List.setIfInBounds_toArray, List.set_cons_zero, List.set_cons_succ, i64_w, i32_w]
                      rfl
                    refine pure_ (i := 13) (N := some 50) (v := ?_) (a' := ?_) #[true, true, true, true, true, true, true, true, true, true, true, true, true, true, false] rfl rfl (any_of HT_.out (by kernel_rfl)) (fun _ _ _ h => h) (Or.inl ⟨by rfl, ?_⟩) ?_ ?_
                    rotate_left
                    · intro w'
                      go_simp
                      with_reducible rfl
                    rotate_left
                    · simp only [Act.put, List.setIfInBounds_toArray, List.set_cons_zero, List.set_cons_succ, i64_w, i32_w]
                      rfl
                    refine last_ (i := 14) (N := none) #[true, true, true, true, true, true, true, true, true, true, true, true, true, true, true] rfl rfl (one_of HT_.out (by kernel_rfl)) (by decide) (fun K hK => ?_)
                    have hs64 : w62.cell? ⟨gb605, 1, none⟩ = some (.slice Ao15 t602.length co15) := (blk_cell BK605.out 1).trans rfl
                    have hfs64 := blk_frozen BK605.out 1
                    have hns64_0 := NB597_605.out
                    have hns64_1 := NB598_605.out
                    have hms64_0 := NB605_597.out
                    have hms64_1 := NB605_598.out
                    refine skip_ (w1 := ?_) (by rfl) rfl ?_ ?_
                    rotate_left
                    · go_simp
                      rfl
                    refine hK.out _ _ ?_
                    clear hK K
                    refine done_ (done_of HT_.out (by kernel_rfl)) ?_
                    try go_wp2
                    have n0_ : Aside0 (Kd.R (Kd.int .i64) 3 (w62.setCell ⟨gb605, 1, none⟩ (.slice Ao63 y612.length co63)) w.heap.size (fun _ => True) (.slice Ao58 y608.length co58) y608) := ⟨by (with_reducible repeat (first | apply Kd.R_alloc | apply Kd.R_drewN | apply Kd.R_drew)); exact Kd.R_mono (Kd.R_far (p := ⟨gb605, 1, none⟩) (Kd.R_types HO610.out BK605.out (by decide)) (fun _ hk => hk.2) (.slice Ao63 y612.length co63)) (fun _ hk => trivial)⟩
                    have n1_ : Aside0 (Kd.R Kd.bool 4 (w62.setCell ⟨gb605, 1, none⟩ (.slice Ao63 y612.length co63)) w.heap.size (fun _ => True) (.slice Ao63 y612.length co63) y612) := ⟨by (with_reducible repeat (first | apply Kd.R_alloc | apply Kd.R_drewN | apply Kd.R_drew)); exact Kd.R_mono (Kd.R_far (p := ⟨gb605, 1, none⟩) (Kd.R_types HO614.out BK605.out (by decide)) (fun _ hk => hk.2) (.slice Ao63 y612.length co63)) (fun _ hk => trivial)⟩
                    have n2_ : Aside0 ((w62.setCell ⟨gb605, 1, none⟩ (.slice Ao63 y612.length co63)).heap[gb597]? = some (.cells #[.slice A0_0 l0_0.length c0_0, .slice (some ad611) l0_1.length c0_1] 33 (0, 0))) := ⟨by (with_reducible repeat (first | refine blk_drewN ?_ _ | refine blk_drew ?_ | refine blk_alloc ?_ _)); refine blk_far ?_ NB597_605.out _; exact pkK BK597.out⟩
                    have n3_ : Aside0 ((w62.setCell ⟨gb605, 1, none⟩ (.slice Ao63 y612.length co63)).heap[gb598]? = some (.cells #[.slice none 0 0, .slice none 0 0] 33 (0, 0))) := ⟨by (with_reducible repeat (first | refine blk_drewN ?_ _ | refine blk_drew ?_ | refine blk_alloc ?_ _)); refine blk_far ?_ NB598_605.out _; exact pkK BK598.out⟩
                    have n4_ : Aside0 ((w62.setCell ⟨gb605, 1, none⟩ (.slice Ao63 y612.length co63)).heap[gb605]? = some (.cells #[.slice Ao58 y608.length co58, .slice Ao63 y612.length co63] 33 (0, 0))) := ⟨by (with_reducible repeat (first | refine blk_drewN ?_ _ | refine blk_drew ?_ | refine blk_alloc ?_ _)); refine blk_put (cs := #[.slice Ao58 y608.length co58, .slice Ao15 t602.length co15]) ?_ 1 _ rfl; exact pkK BK605.out⟩
                    have n5_ : Aside0 (Below w.heap.size w (w62.setCell ⟨gb605, 1, none⟩ (.slice Ao63 y612.length co63))) := ⟨pkW HB.out⟩
                    (try clear HO610); (try clear HO614); (try clear BK597); (try clear BK598); (try clear BK605); (try clear HB)
                    generalize (w62.setCell ⟨gb605, 1, none⟩ (.slice Ao63 y612.length co63)) = w65 at n0_ n1_ n2_ n3_ n4_ n5_ ⊢
                    have HO610 := n0_; have HO614 := n1_; have BK597 := n2_; have BK598 := n3_; have BK605 := n4_; have HB := n5_
                    clear n0_ n1_ n2_ n3_ n4_ n5_
                    have n0_ := am (Kd.R_drew HO610.out)
                    have n1_ := am (Kd.R_drew HO614.out)
                    have n2_ := am (blk_drew BK597.out)
                    have n3_ := am (blk_drew BK598.out)
                    have n4_ := am (blk_drew BK605.out)
                    have n5_ := am (below_drew1 HB.out)
                    clear HO610 HO614 BK597 BK598 BK605 HB
                    have HO610 := n0_; have HO614 := n1_; have BK597 := n2_; have BK598 := n3_; have BK605 := n4_; have HB := n5_
                    clear n0_ n1_ n2_ n3_ n4_ n5_
                    refine start_ (n := 7) (S := fun w' => w'.cell? ⟨gb605, 0, none⟩ = some (.slice Ao58 y608.length co58) ∧ w'.cell? ⟨gb605, 1, none⟩ = some (.slice Ao63 y612.length co63) ∧ w'.cell? ⟨gb597, 0, none⟩ = some (.slice A0_0 l0_0.length c0_0) ∧ w'.cell? ⟨gb597, 1, none⟩ = some (.slice (some ad611) l0_1.length c0_1)) (ds := []) #[false, false, false, false, false, false, false] (by kernel_rfl) rfl rfl ⟨(blk_cell BK605.out 0).trans rfl, (blk_cell BK605.out 1).trans rfl, (blk_cell BK597.out 0).trans rfl, (blk_cell BK597.out 1).trans rfl⟩ (fun hHeld => ?_)
                    generalize w65.drew = w66 at HO610 HO614 BK597 BK598 BK605 HB hHeld ⊢
                    refine pure_ (i := 1) (N := some 52) (v := ?_) (a' := ?_) #[false, true, false, false, false, false, false] rfl rfl (by kernel_rfl) (fun _ _ _ h => h) (Or.inl ⟨by rfl, ?_⟩) ?_ ?_
                    rotate_left
                    · intro w'
                      go_simp
                      with_reducible rfl
                    rotate_left
                    · simp only [Act.put, List.setIfInBounds_toArray, List.set_cons_zero, List.set_cons_succ, i64_w, i32_w]
                      rfl
                    refine take_ (i := 0) (N := some 51) (v := ?_) (a' := ?_) #[true, true, false, false, false, false, false] rfl rfl (by kernel_rfl) (fun _ _ _ h => h) (Or.inl ⟨by rfl, ?_⟩) hHeld ?_ ?_
                    rotate_left
                    · rintro w' ⟨s0, s1, s2, s3⟩
                      go_simp
                      with_reducible rfl
                    rotate_left
                    · simp only [Act.put, List.setIfInBounds_toArray, List.set_cons_zero, List.set_cons_succ, i64_w, i32_w]
                      rfl
                    refine take_ (i := 2) (N := some 53) (v := ?_) (a' := ?_) #[true, true, true, false, false, false, false] rfl rfl (by kernel_rfl) (fun _ _ _ h => h) (Or.inl ⟨by rfl, ?_⟩) hHeld ?_ ?_
                    rotate_left
                    · rintro w' ⟨s0, s1, s2, s3⟩
                      go_simp
                      with_reducible rfl
                    rotate_left
                    · simp only [Act.put, List.setIfInBounds_toArray, List.set_cons_zero, List.set_cons_succ, i64_w, i32_w]
                      rfl
                    refine pure_ (i := 3) (N := some 54) (v := ?_) (a' := ?_) #[true, true, true, true, false, false, false] rfl rfl (by kernel_rfl) (fun _ _ _ h => h) (Or.inl ⟨by rfl, ?_⟩) ?_ ?_
                    rotate_left
                    · intro w'
                      go_simp
                      with_reducible rfl
                    rotate_left
                    · simp only [Act.put, List.setIfInBounds_toArray, List.set_cons_zero, List.set_cons_succ, i64_w, i32_w]
                      rfl
                    refine one_ (i := 4) (N := none) #[true, true, true, true, true, false, false] rfl rfl (by kernel_rfl) (by decide) (fun K hK => ?_)
                    have hs67 : w66.cell? ⟨gb598, 0, none⟩ = some (.slice none 0 0) := (blk_cell BK598.out 0).trans rfl
                    have hfs67 := blk_frozen BK598.out 0
                    have hns67_0 := NB597_598.out
                    have hns67_2 := NB605_598.out
                    have hms67_0 := NB598_597.out
                    have hms67_2 := NB598_605.out
                    have hs68 : w66.cell? ⟨gb598, 1, none⟩ = some (.slice none 0 0) := (blk_cell BK598.out 1).trans rfl
                    have hfs68 := blk_frozen BK598.out 1
                    have hns68_0 := NB597_598.out
                    have hns68_2 := NB605_598.out
                    have hms68_0 := NB598_597.out
                    have hms68_2 := NB598_605.out
                    refine skip_ (w1 := ?_) (by rfl) rfl ?_ ?_
                    rotate_left
                    · go_simp
                      rfl
                    refine hK.out _ _ ⟨((cell_far (p := ⟨gb598, _, none⟩) NB605_598.out _).trans (((cell_far (p := ⟨gb598, _, none⟩) NB605_598.out _).trans (hHeld.1)))), ((cell_far (p := ⟨gb598, _, none⟩) NB605_598.out _).trans (((cell_far (p := ⟨gb598, _, none⟩) NB605_598.out _).trans (hHeld.2.1)))), ((cell_far (p := ⟨gb598, _, none⟩) NB597_598.out _).trans (((cell_far (p := ⟨gb598, _, none⟩) NB597_598.out _).trans (hHeld.2.2.1)))), ((cell_far (p := ⟨gb598, _, none⟩) NB597_598.out _).trans (((cell_far (p := ⟨gb598, _, none⟩) NB597_598.out _).trans (hHeld.2.2.2))))⟩ (fun hHeld => ?_)
                    clear hK K
                    refine pure_ (i := 5) (N := some 5) (v := ?_) (a' := ?_) #[true, true, true, true, true, true, false] rfl rfl (by kernel_rfl) (fun _ _ _ h => h) (Or.inl ⟨by rfl, ?_⟩) ?_ ?_
                    rotate_left
                    · intro w'
                      go_simp
                      with_reducible rfl
                    rotate_left
                    · simp only [Act.put, List.setIfInBounds_toArray, List.set_cons_zero, List.set_cons_succ, i64_w, i32_w]
                      rfl
                    refine pure_ (i := 6) (N := some 6) (v := ?_) (a' := ?_) #[true, true, true, true, true, true, true] rfl rfl (by kernel_rfl) (fun _ _ _ h => h) (Or.inl ⟨by rfl, ?_⟩) ?_ ?_
                    rotate_left
                    · intro w'
                      go_simp
                      with_reducible rfl
                    rotate_left
                    · simp only [Act.put, List.setIfInBounds_toArray, List.set_cons_zero, List.set_cons_succ, i64_w, i32_w]
                      rfl
                    refine done_ (by kernel_rfl) ?_
                    try go_wp2
                    refine bodyPost_ret (results_ctt rfl _ _ gb598 33 #[.slice Ao58 y608.length co58, .slice Ao63 y612.length co63] (0, 0) _ rfl (by (with_reducible repeat (first | refine blk_drewN ?_ _ | refine blk_drew ?_ | refine blk_alloc ?_ _)); refine blk_put (cs := #[.slice Ao58 y608.length co58, .slice none 0 0]) ?_ 1 _ rfl; (with_reducible repeat (first | refine blk_drewN ?_ _ | refine blk_drew ?_ | refine blk_alloc ?_ _)); refine blk_put (cs := #[.slice none 0 0, .slice none 0 0]) ?_ 0 _ rfl; exact pkK BK598.out) Try.underlying33 rfl (by kernel_rfl)) rfl ?_
                    exact ⟨_, _, rfe, by (with_reducible repeat (first | apply Kd.R_alloc | apply Kd.R_drewN | apply Kd.R_drew)); exact Kd.R_mono (Kd.R_far (p := ⟨gb598, 1, none⟩) (Kd.R_far (p := ⟨gb598, 0, none⟩) (Kd.R_types HO610.out BK598.out (by decide)) (fun _ hk => hk.2) (.slice Ao58 y608.length co58)) (fun _ hk => hk.2) (.slice Ao63 y612.length co63)) (fun _ hk => trivial), by (with_reducible repeat (first | apply Kd.R_alloc | apply Kd.R_drewN | apply Kd.R_drew)); exact Kd.R_mono (Kd.R_far (p := ⟨gb598, 1, none⟩) (Kd.R_far (p := ⟨gb598, 0, none⟩) (Kd.R_types HO614.out BK598.out (by decide)) (fun _ hk => hk.2) (.slice Ao58 y608.length co58)) (fun _ hk => hk.2) (.slice Ao63 y612.length co63)) (fun _ hk => trivial), pkW HB.out⟩
                  · rw [if_neg c51] at H
                    exact absurd H (by simp)
                · rw [if_neg c50] at H
                  exact absurd H (by simp)
              · rw [if_neg c49] at H
                exact absurd H (by simp)
            · rw [if_neg c48] at H
              have c48b0 : decide (0 ≤ a1) = false := decide_eq_false c48
              clear c48
              by_cases c69 : t602.length < 140737488355328
              · rw [if_pos c69] at H
                have LMc69 := am c69
                clear c69
                obtain ⟨y615, hy615⟩ : ∃ y_ : List Bool, y_ = (t602 ++ [false]) := ⟨_, rfl⟩
                replace H : (some (y608, y615, (l0_0.length : Int), 0)) = some (r1, r2, r3, r4) := by first | (rw [hy615]; with_reducible exact H) | (have H2_ := (Option.bind_some _ _).symm.trans H; rw [hy615]; with_reducible exact H2_) | (have H2_ := (Option.bind_some _ _).symm.trans H; with_reducible exact H2_) | with_reducible exact H | (rw [hy615]; exact H) | exact H
                have Ny615 := am hy615
                clear hy615
                simp only [Option.some.injEq, Prod.mk.injEq] at H
                obtain ⟨rfl, rfl, rfl, rfl⟩ := H
                have hnb70 := NB597_598.out
                have hnc70 := NB598_597.out
                have hnb71 := NB597_605.out
                have hnc71 := NB605_597.out
                have hcz72_0 : wc.cell? ⟨gb597, 0, none⟩ = some (.slice A0_0 l0_0.length c0_0) := (blk_cell BK597.out 0).trans rfl
                have hcz72_1 : wc.cell? ⟨gb597, 1, none⟩ = some (.slice A0_1 l0_1.length c0_1) := (blk_cell BK597.out 1).trans rfl
                have hfz72_0 := blk_frozen BK597.out 0
                have hfz72_1 := blk_frozen BK597.out 1
                have hnb73 := NB605_598.out
                have hnc73 := NB598_605.out
                have hcz74_0 : wc.cell? ⟨gb605, 0, none⟩ = some (.slice Ao11 t599.length co11) := (blk_cell BK605.out 0).trans rfl
                have hcz74_1 : wc.cell? ⟨gb605, 1, none⟩ = some (.slice Ao15 t602.length co15) := (blk_cell BK605.out 1).trans rfl
                have hfz74_0 := blk_frozen BK605.out 0
                have hfz74_1 := blk_frozen BK605.out 1
                try go_wp2_with (first | ((with_reducible refine gate_builtin (b := .append) (xs := #[.tmp 32, .tmp 34]) rfl ?_); at_builtin; refine Kd.R_append (Kd.int .i64) (w0 := w) w.heap.size rfl (.tmp 32) (.tmp 34) 22 3 (.int .i64 0) 8 rfl Try.underlying22 info3 rfl (by decide) (by omega) (.slice Ao11 t599.length co11) t599 a1 [.int .i64 a1] (fun _ => True) (fun _ => False) rfl rfl ?aP (fun _ hk => hk.elim) ?aF ?aO ?aB ?aS ?aL ?_; (case aP => exact rfl); (case aB => exact (pkW HB.out)); (case aF => exact (fun _ _ => trivial)); (case aO => exact (pkR HO_606000.out)); (case aS => exact (below_size (pkW HB.out))); (case aL => have := LMc47.out; omega); intro v609 w75 ho hb hg hat; rw [← Ny608.out] at ho; have n0_ := am (Kd.R_over' (pkR HO_606001.out) (Kd.R_typed (pkR HO_606000.out)) (by decide) hg); have n1_ := am (blk_grown (g := gb597) (o := .cells #[.slice A0_0 l0_0.length c0_0, .slice A0_1 l0_1.length c0_1] 33 (0, 0)) (pkK BK597.out) hg (Kd.R_ne HO_606000.out BK597.out (by decide))); have n2_ := am (blk_grown (g := gb598) (o := .cells #[.slice none 0 0, .slice none 0 0] 33 (0, 0)) (pkK BK598.out) hg (Kd.R_ne HO_606000.out BK598.out (by decide))); have n3_ := am (blk_grown (g := gb605) (o := .cells #[.slice Ao11 t599.length co11, .slice Ao15 t602.length co15] 33 (0, 0)) (pkK BK605.out) hg (Kd.R_ne HO_606000.out BK605.out (by decide))); have n4_ := am (hb); have n5_ := am (ho); clear HO_606001 BK597 BK598 BK605 HB HO_606000; have HO_606001 := n0_; have BK597 := n1_; have BK598 := n2_; have BK605 := n3_; have HB := n4_; have HO610 := n5_; clear n0_ n1_ n2_ n3_ n4_ n5_; clear ho hb hg hat; obtain ⟨Ao76, co76, eo76⟩ := Kd.R_slice HO610.out; subst eo76; have hcz77_0 : w75.cell? ⟨gb605, 0, none⟩ = some (.slice Ao11 t599.length co11) := (blk_cell BK605.out 0).trans rfl; have hcz77_1 : w75.cell? ⟨gb605, 1, none⟩ = some (.slice Ao15 t602.length co15) := (blk_cell BK605.out 1).trans rfl; have hfz77_0 := blk_frozen BK605.out 0; have hfz77_1 := blk_frozen BK605.out 1))
                have n0_ : Aside0 (Kd.R Kd.bool 4 (w75.setCell ⟨gb605, 0, none⟩ (.slice Ao76 y608.length co76)) w.heap.size (fun _ => True) (.slice Ao15 t602.length co15) t602) := ⟨by (with_reducible repeat (first | apply Kd.R_alloc | apply Kd.R_drewN | apply Kd.R_drew)); exact Kd.R_mono (Kd.R_far (p := ⟨gb605, 0, none⟩) (Kd.R_types HO_606001.out BK605.out (by decide)) (fun _ hk => hk.2) (.slice Ao76 y608.length co76)) (fun _ hk => trivial)⟩
                have n1_ : Aside0 (Kd.R (Kd.int .i64) 3 (w75.setCell ⟨gb605, 0, none⟩ (.slice Ao76 y608.length co76)) w.heap.size (fun _ => True) (.slice Ao76 y608.length co76) y608) := ⟨by (with_reducible repeat (first | apply Kd.R_alloc | apply Kd.R_drewN | apply Kd.R_drew)); exact Kd.R_mono (Kd.R_far (p := ⟨gb605, 0, none⟩) (Kd.R_types HO610.out BK605.out (by decide)) (fun _ hk => hk.2) (.slice Ao76 y608.length co76)) (fun _ hk => trivial)⟩
                have n2_ : Aside0 ((w75.setCell ⟨gb605, 0, none⟩ (.slice Ao76 y608.length co76)).heap[gb597]? = some (.cells #[.slice A0_0 l0_0.length c0_0, .slice A0_1 l0_1.length c0_1] 33 (0, 0))) := ⟨by (with_reducible repeat (first | refine blk_drewN ?_ _ | refine blk_drew ?_ | refine blk_alloc ?_ _)); refine blk_far ?_ NB597_605.out _; exact pkK BK597.out⟩
                have n3_ : Aside0 ((w75.setCell ⟨gb605, 0, none⟩ (.slice Ao76 y608.length co76)).heap[gb598]? = some (.cells #[.slice none 0 0, .slice none 0 0] 33 (0, 0))) := ⟨by (with_reducible repeat (first | refine blk_drewN ?_ _ | refine blk_drew ?_ | refine blk_alloc ?_ _)); refine blk_far ?_ NB598_605.out _; exact pkK BK598.out⟩
                have n4_ : Aside0 ((w75.setCell ⟨gb605, 0, none⟩ (.slice Ao76 y608.length co76)).heap[gb605]? = some (.cells #[.slice Ao76 y608.length co76, .slice Ao15 t602.length co15] 33 (0, 0))) := ⟨by (with_reducible repeat (first | refine blk_drewN ?_ _ | refine blk_drew ?_ | refine blk_alloc ?_ _)); refine blk_put (cs := #[.slice Ao11 t599.length co11, .slice Ao15 t602.length co15]) ?_ 0 _ rfl; exact pkK BK605.out⟩
                have n5_ : Aside0 (Below w.heap.size w (w75.setCell ⟨gb605, 0, none⟩ (.slice Ao76 y608.length co76))) := ⟨pkW HB.out⟩
                (try clear HO_606001); (try clear HO610); (try clear BK597); (try clear BK598); (try clear BK605); (try clear HB)
                generalize (w75.setCell ⟨gb605, 0, none⟩ (.slice Ao76 y608.length co76)) = w78 at n0_ n1_ n2_ n3_ n4_ n5_ ⊢
                have HO_606001 := n0_; have HO610 := n1_; have BK597 := n2_; have BK598 := n3_; have BK605 := n4_; have HB := n5_
                clear n0_ n1_ n2_ n3_ n4_ n5_
                have n0_ := am (Kd.R_drew HO_606001.out)
                have n1_ := am (Kd.R_drew HO610.out)
                have n2_ := am (blk_drew BK597.out)
                have n3_ := am (blk_drew BK598.out)
                have n4_ := am (blk_drew BK605.out)
                have n5_ := am (below_drew1 HB.out)
                clear HO_606001 HO610 BK597 BK598 BK605 HB
                have HO_606001 := n0_; have HO610 := n1_; have BK597 := n2_; have BK598 := n3_; have BK605 := n4_; have HB := n5_
                clear n0_ n1_ n2_ n3_ n4_ n5_
                refine start_ (n := 15) (S := fun w' => w'.cell? ⟨gb605, 0, none⟩ = some (.slice Ao76 y608.length co76) ∧ w'.cell? ⟨gb605, 1, none⟩ = some (.slice Ao15 t602.length co15)) (ds := [14]) #[false, false, false, false, false, false, false, false, false, false, false, false, false, false, false] (by kernel_rfl) rfl rfl ⟨(blk_cell BK605.out 0).trans rfl, (blk_cell BK605.out 1).trans rfl⟩ (fun hHeld => ?_); refine with_tabW impl_NewToken.tab7 impl_NewToken.bits7 (fun HT_ HW_ => ?_)
                generalize w78.drew = w79 at HO_606001 HO610 BK597 BK598 BK605 HB hHeld ⊢
                refine pure_ (i := 0) (N := some 37) (v := ?_) (a' := ?_) #[true, false, false, false, false, false, false, false, false, false, false, false, false, false, false] rfl rfl (any_of HT_.out (by kernel_rfl)) (fun _ _ _ h => h) (Or.inl ⟨by rfl, ?_⟩) ?_ ?_
                rotate_left
                · intro w'
                  go_simp
                  with_reducible rfl
                rotate_left
                · simp only [Act.put, List.setIfInBounds_toArray, List.set_cons_zero, List.set_cons_succ, i64_w, i32_w]
                  rfl
                refine pure_ (i := 2) (N := some 39) (v := ?_) (a' := ?_) #[true, false, true, false, false, false, false, false, false, false, false, false, false, false, false] rfl rfl (any_of HT_.out (by kernel_rfl)) (fun _ _ _ h => h) (Or.inl ⟨by rfl, ?_⟩) ?_ ?_
                rotate_left
                · intro w'
                  go_simp
                  with_reducible rfl
                rotate_left
                · simp only [Act.put, List.setIfInBounds_toArray, List.set_cons_zero, List.set_cons_succ, i64_w, i32_w]
                  rfl
                refine pure_ (i := 3) (N := some 40) (v := ?_) (a' := ?_) #[true, false, true, true, false, false, false, false, false, false, false, false, false, false, false] rfl rfl (any_of HT_.out (by kernel_rfl)) (fun _ _ _ h => h) (Or.inl ⟨by rfl, ?_⟩) ?_ ?_
                rotate_left
                · intro w'
                  go_simp
                  with_reducible rfl
                rotate_left
                · simp only [Act.put, List.setIfInBounds_toArray, List.set_cons_zero, List.set_cons_succ, i64_w, i32_w]
                  rfl
                refine pure_ (i := 4) (N := some 41) (v := ?_) (a' := ?_) #[true, false, true, true, true, false, false, false, false, false, false, false, false, false, false] rfl rfl (any_of HT_.out (by kernel_rfl)) (fun _ _ _ h => h) (Or.inl ⟨by rfl, ?_⟩) ?_ ?_
                rotate_left
                · intro w'
                  go_simp
                  with_reducible rfl
                rotate_left
                · simp only [Act.put, List.setIfInBounds_toArray, List.set_cons_zero, List.set_cons_succ, i64_w, i32_w]
                  rfl
                refine pure_ (i := 5) (N := some 42) (v := undef) (a' := ?_) #[true, false, true, true, true, true, false, false, false, false, false, false, false, false, false] rfl rfl (any_of HT_.out (by kernel_rfl)) (fun _ _ _ h => h) (Or.inr ⟨by rfl, rfl⟩) ?_ ?_
                rotate_left
                · simp only [Act.put, List.setIfInBounds_toArray, List.set_cons_zero, List.set_cons_succ, i64_w, i32_w]
                  rfl
                refine pure_ (i := 6) (N := some 43) (v := undef) (a' := ?_) #[true, false, true, true, true, true, true, false, false, false, false, false, false, false, false] rfl rfl (any_of HT_.out (by kernel_rfl)) (fun _ _ _ h => h) (Or.inr ⟨by rfl, rfl⟩) ?_ ?_
                rotate_left
                · simp only [Act.put, List.setIfInBounds_toArray, List.set_cons_zero, List.set_cons_succ, i64_w, i32_w]
                  rfl
                refine pure_ (i := 7) (N := some 44) (v := undef) (a' := ?_) #[true, false, true, true, true, true, true, true, false, false, false, false, false, false, false] rfl rfl (any_of HT_.out (by kernel_rfl)) (fun _ _ _ h => h) (Or.inr ⟨by rfl, rfl⟩) ?_ ?_
                rotate_left
                · simp only [Act.put, List.setIfInBounds_toArray, List.set_cons_zero, List.set_cons_succ, i64_w, i32_w]
                  rfl
                refine pure_ (i := 8) (N := some 45) (v := undef) (a' := ?_) #[true, false, true, true, true, true, true, true, true, false, false, false, false, false, false] rfl rfl (any_of HT_.out (by kernel_rfl)) (fun _ _ _ h => h) (Or.inr ⟨by rfl, rfl⟩) ?_ ?_
                rotate_left
                · simp only [Act.put, List.setIfInBounds_toArray, List.set_cons_zero, List.set_cons_succ, i64_w, i32_w]
                  rfl
                refine pure_ (i := 9) (N := some 46) (v := undef) (a' := ?_) #[true, false, true, true, true, true, true, true, true, true, false, false, false, false, false] rfl rfl (any_of HT_.out (by kernel_rfl)) (fun _ _ _ h => h) (Or.inr ⟨by rfl, rfl⟩) ?_ ?_
                rotate_left
                · simp only [Act.put, List.setIfInBounds_toArray, List.set_cons_zero, List.set_cons_succ, i64_w, i32_w]
                  rfl
                refine pure_ (i := 10) (N := some 47) (v := ?_) (a' := ?_) #[true, false, true, true, true, true, true, true, true, true, true, false, false, false, false] rfl rfl (any_of HT_.out (by kernel_rfl)) (fun _ _ _ h => h) (Or.inl ⟨by rfl, ?_⟩) ?_ ?_
                rotate_left
                · intro w'
                  go_simp
                  with_reducible rfl
                rotate_left
                · simp only [Act.put, List.setIfInBounds_toArray, List.set_cons_zero, List.set_cons_succ, i64_w, i32_w]
                  rfl
                refine take_ (i := 1) (N := some 38) (v := ?_) (a' := ?_) #[true, true, true, true, true, true, true, true, true, true, true, false, false, false, false] rfl rfl (take_ofW HT_.out HW_.out (by kernel_rfl)) (fun _ _ _ h => h) (Or.inl ⟨by rfl, ?_⟩) hHeld ?_ ?_
                rotate_left
                · rintro w' ⟨s0, s1⟩
                  go_simp
                  with_reducible rfl
                rotate_left
                · simp only [Act.put, List.setIfInBounds_toArray, List.set_cons_zero, List.set_cons_succ, i64_w, i32_w]
                  rfl
                refine one_ (i := 11) (N := some 48) #[true, true, true, true, true, true, true, true, true, true, true, true, false, false, false] rfl rfl (one_of HT_.out (by kernel_rfl)) (by decide) (fun K hK => ?_)
                refine value_ (w1 := ?_) (v := ?_) (by rfl) rfl ?_ ?_
                rotate_left 2
                · go_simp
                  constructor
                  · rfl
                  · rfl
                refine hK.out _ _ ⟨(blk_cell (blk_alloc BK605.out _) 0).trans rfl, (blk_cell (blk_alloc BK605.out _) 1).trans rfl⟩ (fun hHeld => ?_)
                clear hK K
                refine norm_ (a' := ?_) ?_ ?_
                rotate_left
                · show Act.put _ (some 48) _ = _
                  simp only [Act.put, List.setIfInBounds_toArray, List.set_cons_zero, List.set_cons_succ, i64_w, i32_w]
                  rfl
                refine one_ (i := 12) (N := some 49) #[true, true, true, true, true, true, true, true, true, true, true, true, true, false, false] rfl rfl (one_of HT_.out (by kernel_rfl)) (by decide) (fun K hK => ?_)
                refine Kd.R_append_step Kd.bool (w0 := w) w.heap.size (by rfl) (.tmp 38) (.tmp 48) 28 4 (.bool false) 1 rfl Try.underlying28 info4 rfl (by decide) (by omega) (.slice Ao15 t602.length co15) t602 false [.bool false] (fun _ => True) (fun _ => False) rfl rfl ?aP (fun _ hk => hk.elim) ?aF ?aO ?aB ?aS ?aL ?_
                (case aP => exact rfl)
                (case aB => exact (pkW HB.out))
                (case aF => exact (fun _ _ => trivial))
                (case aO => exact (pkR HO_606001.out))
                (case aS => exact (below_size (pkW HB.out)))
                (case aL => have := LMc69.out; omega)
                intro v616 w80 ho hb hg hat
                rw [← Ny615.out] at ho
                have n0_ := am (blk_grown (g := gb597) (o := .cells #[.slice A0_0 l0_0.length c0_0, .slice A0_1 l0_1.length c0_1] 33 (0, 0)) (pkK BK597.out) hg (Kd.R_ne HO_606001.out BK597.out (by decide)))
                have n1_ := am (blk_grown (g := gb598) (o := .cells #[.slice none 0 0, .slice none 0 0] 33 (0, 0)) (pkK BK598.out) hg (Kd.R_ne HO_606001.out BK598.out (by decide)))
                have n2_ := am (blk_grown (g := gb605) (o := .cells #[.slice Ao76 y608.length co76, .slice Ao15 t602.length co15] 33 (0, 0)) (pkK BK605.out) hg (Kd.R_ne HO_606001.out BK605.out (by decide)))
                have n3_ := am (Kd.R_over' (pkR HO610.out) (Kd.R_typed (pkR HO_606001.out)) (by decide) hg)
                have n4_ := am (hb)
                have n5_ := am (ho)
                clear BK597 BK598 BK605 HO610 HB HO_606001
                have BK597 := n0_; have BK598 := n1_; have BK605 := n2_; have HO610 := n3_; have HB := n4_; have HO617 := n5_
                clear n0_ n1_ n2_ n3_ n4_ n5_ ho hb hg hat
                obtain ⟨Ao81, co81, eo81⟩ := Kd.R_slice HO617.out
                (first | subst eo81 | (injection eo81 with f1_ f2_ f3_; have f4_ := f1_.symm; have f5_ := f3_.symm; clear f1_ f2_ f3_; subst f4_; subst f5_))
                refine hK.out _ _ ⟨(blk_cell BK605.out 0).trans rfl, (blk_cell BK605.out 1).trans rfl⟩ (fun hHeld => ?_)
                clear hK K
                refine norm_ (a' := ?_) ?_ ?_
                rotate_left
                · show Act.put _ (some 49) _ = _
                  simp only [Act.put, List.setIfInBounds_toArray, List.set_cons_zero, List.set_cons_succ, i64_w, i32_w]
                  rfl
                refine pure_ (i := 13) (N := some 50) (v := ?_) (a' := ?_) #[true, true, true, true, true, true, true, true, true, true, true, true, true, true, false] rfl rfl (any_of HT_.out (by kernel_rfl)) (fun _ _ _ h => h) (Or.inl ⟨by rfl, ?_⟩) ?_ ?_
                rotate_left
                · intro w'
                  go_simp
                  with_reducible rfl
                rotate_left
                · simp only [Act.put, List.setIfInBounds_toArray, List.set_cons_zero, List.set_cons_succ, i64_w, i32_w]
                  rfl
                refine last_ (i := 14) (N := none) #[true, true, true, true, true, true, true, true, true, true, true, true, true, true, true] rfl rfl (one_of HT_.out (by kernel_rfl)) (by decide) (fun K hK => ?_)
                have hs82 : w80.cell? ⟨gb605, 1, none⟩ = some (.slice Ao15 t602.length co15) := (blk_cell BK605.out 1).trans rfl
                have hfs82 := blk_frozen BK605.out 1
                have hns82_0 := NB597_605.out
                have hns82_1 := NB598_605.out
                have hms82_0 := NB605_597.out
                have hms82_1 := NB605_598.out
                refine skip_ (w1 := ?_) (by rfl) rfl ?_ ?_
                rotate_left
                · go_simp
                  rfl
                refine hK.out _ _ ?_
                clear hK K
                refine done_ (done_of HT_.out (by kernel_rfl)) ?_
                try go_wp2
                have n0_ : Aside0 (Kd.R (Kd.int .i64) 3 (w80.setCell ⟨gb605, 1, none⟩ (.slice Ao81 y615.length co81)) w.heap.size (fun _ => True) (.slice Ao76 y608.length co76) y608) := ⟨by (with_reducible repeat (first | apply Kd.R_alloc | apply Kd.R_drewN | apply Kd.R_drew)); exact Kd.R_mono (Kd.R_far (p := ⟨gb605, 1, none⟩) (Kd.R_types HO610.out BK605.out (by decide)) (fun _ hk => hk.2) (.slice Ao81 y615.length co81)) (fun _ hk => trivial)⟩
                have n1_ : Aside0 (Kd.R Kd.bool 4 (w80.setCell ⟨gb605, 1, none⟩ (.slice Ao81 y615.length co81)) w.heap.size (fun _ => True) (.slice Ao81 y615.length co81) y615) := ⟨by (with_reducible repeat (first | apply Kd.R_alloc | apply Kd.R_drewN | apply Kd.R_drew)); exact Kd.R_mono (Kd.R_far (p := ⟨gb605, 1, none⟩) (Kd.R_types HO617.out BK605.out (by decide)) (fun _ hk => hk.2) (.slice Ao81 y615.length co81)) (fun _ hk => trivial)⟩
                have n2_ : Aside0 ((w80.setCell ⟨gb605, 1, none⟩ (.slice Ao81 y615.length co81)).heap[gb597]? = some (.cells #[.slice A0_0 l0_0.length c0_0, .slice A0_1 l0_1.length c0_1] 33 (0, 0))) := ⟨by (with_reducible repeat (first | refine blk_drewN ?_ _ | refine blk_drew ?_ | refine blk_alloc ?_ _)); refine blk_far ?_ NB597_605.out _; exact pkK BK597.out⟩
                have n3_ : Aside0 ((w80.setCell ⟨gb605, 1, none⟩ (.slice Ao81 y615.length co81)).heap[gb598]? = some (.cells #[.slice none 0 0, .slice none 0 0] 33 (0, 0))) := ⟨by (with_reducible repeat (first | refine blk_drewN ?_ _ | refine blk_drew ?_ | refine blk_alloc ?_ _)); refine blk_far ?_ NB598_605.out _; exact pkK BK598.out⟩
                have n4_ : Aside0 ((w80.setCell ⟨gb605, 1, none⟩ (.slice Ao81 y615.length co81)).heap[gb605]? = some (.cells #[.slice Ao76 y608.length co76, .slice Ao81 y615.length co81] 33 (0, 0))) := ⟨by (with_reducible repeat (first | refine blk_drewN ?_ _ | refine blk_drew ?_ | refine blk_alloc ?_ _)); refine blk_put (cs := #[.slice Ao76 y608.length co76, .slice Ao15 t602.length co15]) ?_ 1 _ rfl; exact pkK BK605.out⟩
                have n5_ : Aside0 (Below w.heap.size w (w80.setCell ⟨gb605, 1, none⟩ (.slice Ao81 y615.length co81))) := ⟨pkW HB.out⟩
                (try clear HO610); (try clear HO617); (try clear BK597); (try clear BK598); (try clear BK605); (try clear HB)
                generalize (w80.setCell ⟨gb605, 1, none⟩ (.slice Ao81 y615.length co81)) = w83 at n0_ n1_ n2_ n3_ n4_ n5_ ⊢
                have HO610 := n0_; have HO617 := n1_; have BK597 := n2_; have BK598 := n3_; have BK605 := n4_; have HB := n5_
                clear n0_ n1_ n2_ n3_ n4_ n5_
                have n0_ := am (Kd.R_drew HO610.out)
                have n1_ := am (Kd.R_drew HO617.out)
                have n2_ := am (blk_drew BK597.out)
                have n3_ := am (blk_drew BK598.out)
                have n4_ := am (blk_drew BK605.out)
                have n5_ := am (below_drew1 HB.out)
                clear HO610 HO617 BK597 BK598 BK605 HB
                have HO610 := n0_; have HO617 := n1_; have BK597 := n2_; have BK598 := n3_; have BK605 := n4_; have HB := n5_
                clear n0_ n1_ n2_ n3_ n4_ n5_
                refine start_ (n := 7) (S := fun w' => w'.cell? ⟨gb605, 0, none⟩ = some (.slice Ao76 y608.length co76) ∧ w'.cell? ⟨gb605, 1, none⟩ = some (.slice Ao81 y615.length co81) ∧ w'.cell? ⟨gb597, 0, none⟩ = some (.slice A0_0 l0_0.length c0_0) ∧ w'.cell? ⟨gb597, 1, none⟩ = some (.slice A0_1 l0_1.length c0_1)) (ds := []) #[false, false, false, false, false, false, false] (by kernel_rfl) rfl rfl ⟨(blk_cell BK605.out 0).trans rfl, (blk_cell BK605.out 1).trans rfl, (blk_cell BK597.out 0).trans rfl, (blk_cell BK597.out 1).trans rfl⟩ (fun hHeld => ?_)
                generalize w83.drew = w84 at HO610 HO617 BK597 BK598 BK605 HB hHeld ⊢
                refine pure_ (i := 1) (N := some 52) (v := ?_) (a' := ?_) #[false, true, false, false, false, false, false] rfl rfl (by kernel_rfl) (fun _ _ _ h => h) (Or.inl ⟨by rfl, ?_⟩) ?_ ?_
                rotate_left
                · intro w'
                  go_simp
                  with_reducible rfl
                rotate_left
                · simp only [Act.put, List.setIfInBounds_toArray, List.set_cons_zero, List.set_cons_succ, i64_w, i32_w]
                  rfl
                refine take_ (i := 0) (N := some 51) (v := ?_) (a' := ?_) #[true, true, false, false, false, false, false] rfl rfl (by kernel_rfl) (fun _ _ _ h => h) (Or.inl ⟨by rfl, ?_⟩) hHeld ?_ ?_
                rotate_left
                · rintro w' ⟨s0, s1, s2, s3⟩
                  go_simp
                  with_reducible rfl
                rotate_left
                · simp only [Act.put, List.setIfInBounds_toArray, List.set_cons_zero, List.set_cons_succ, i64_w, i32_w]
                  rfl
                refine take_ (i := 2) (N := some 53) (v := ?_) (a' := ?_) #[true, true, true, false, false, false, false] rfl rfl (by kernel_rfl) (fun _ _ _ h => h) (Or.inl ⟨by rfl, ?_⟩) hHeld ?_ ?_
                rotate_left
                · rintro w' ⟨s0, s1, s2, s3⟩
                  go_simp
                  with_reducible rfl
                rotate_left
                · simp only [Act.put, List.setIfInBounds_toArray, List.set_cons_zero, List.set_cons_succ, i64_w, i32_w]
                  rfl
                refine pure_ (i := 3) (N := some 54) (v := ?_) (a' := ?_) #[true, true, true, true, false, false, false] rfl rfl (by kernel_rfl) (fun _ _ _ h => h) (Or.inl ⟨by rfl, ?_⟩) ?_ ?_
                rotate_left
                · intro w'
                  go_simp
                  with_reducible rfl
                rotate_left
                · simp only [Act.put, List.setIfInBounds_toArray, List.set_cons_zero, List.set_cons_succ, i64_w, i32_w]
                  rfl
                refine one_ (i := 4) (N := none) #[true, true, true, true, true, false, false] rfl rfl (by kernel_rfl) (by decide) (fun K hK => ?_)
                have hs85 : w84.cell? ⟨gb598, 0, none⟩ = some (.slice none 0 0) := (blk_cell BK598.out 0).trans rfl
                have hfs85 := blk_frozen BK598.out 0
                have hns85_0 := NB597_598.out
                have hns85_2 := NB605_598.out
                have hms85_0 := NB598_597.out
                have hms85_2 := NB598_605.out
                have hs86 : w84.cell? ⟨gb598, 1, none⟩ = some (.slice none 0 0) := (blk_cell BK598.out 1).trans rfl
                have hfs86 := blk_frozen BK598.out 1
                have hns86_0 := NB597_598.out
                have hns86_2 := NB605_598.out
                have hms86_0 := NB598_597.out
                have hms86_2 := NB598_605.out
                refine skip_ (w1 := ?_) (by rfl) rfl ?_ ?_
                rotate_left
                · go_simp
                  rfl
                refine hK.out _ _ ⟨((cell_far (p := ⟨gb598, _, none⟩) NB605_598.out _).trans (((cell_far (p := ⟨gb598, _, none⟩) NB605_598.out _).trans (hHeld.1)))), ((cell_far (p := ⟨gb598, _, none⟩) NB605_598.out _).trans (((cell_far (p := ⟨gb598, _, none⟩) NB605_598.out _).trans (hHeld.2.1)))), ((cell_far (p := ⟨gb598, _, none⟩) NB597_598.out _).trans (((cell_far (p := ⟨gb598, _, none⟩) NB597_598.out _).trans (hHeld.2.2.1)))), ((cell_far (p := ⟨gb598, _, none⟩) NB597_598.out _).trans (((cell_far (p := ⟨gb598, _, none⟩) NB597_598.out _).trans (hHeld.2.2.2))))⟩ (fun hHeld => ?_)
                clear hK K
                refine pure_ (i := 5) (N := some 5) (v := ?_) (a' := ?_) #[true, true, true, true, true, true, false] rfl rfl (by kernel_rfl) (fun _ _ _ h => h) (Or.inl ⟨by rfl, ?_⟩) ?_ ?_
                rotate_left
                · intro w'
                  go_simp
                  with_reducible rfl
                rotate_left
                · simp only [Act.put, List.setIfInBounds_toArray, List.set_cons_zero, List.set_cons_succ, i64_w, i32_w]
                  rfl
                refine pure_ (i := 6) (N := some 6) (v := ?_) (a' := ?_) #[true, true, true, true, true, true, true] rfl rfl (by kernel_rfl) (fun _ _ _ h => h) (Or.inl ⟨by rfl, ?_⟩) ?_ ?_
                rotate_left
                · intro w'
                  go_simp
                  with_reducible rfl
                rotate_left
                · simp only [Act.put, List.setIfInBounds_toArray, List.set_cons_zero, List.set_cons_succ, i64_w, i32_w]
                  rfl
                refine done_ (by kernel_rfl) ?_
                try go_wp2
                refine bodyPost_ret (results_ctt rfl _ _ gb598 33 #[.slice Ao76 y608.length co76, .slice Ao81 y615.length co81] (0, 0) _ rfl (by (with_reducible repeat (first | refine blk_drewN ?_ _ | refine blk_drew ?_ | refine blk_alloc ?_ _)); refine blk_put (cs := #[.slice Ao76 y608.length co76, .slice none 0 0]) ?_ 1 _ rfl; (with_reducible repeat (first | refine blk_drewN ?_ _ | refine blk_drew ?_ | refine blk_alloc ?_ _)); refine blk_put (cs := #[.slice none 0 0, .slice none 0 0]) ?_ 0 _ rfl; exact pkK BK598.out) Try.underlying33 rfl (by kernel_rfl)) rfl ?_
                exact ⟨_, _, rfe, by (with_reducible repeat (first | apply Kd.R_alloc | apply Kd.R_drewN | apply Kd.R_drew)); exact Kd.R_mono (Kd.R_far (p := ⟨gb598, 1, none⟩) (Kd.R_far (p := ⟨gb598, 0, none⟩) (Kd.R_types HO610.out BK598.out (by decide)) (fun _ hk => hk.2) (.slice Ao76 y608.length co76)) (fun _ hk => hk.2) (.slice Ao81 y615.length co81)) (fun _ hk => trivial), by (with_reducible repeat (first | apply Kd.R_alloc | apply Kd.R_drewN | apply Kd.R_drew)); exact Kd.R_mono (Kd.R_far (p := ⟨gb598, 1, none⟩) (Kd.R_far (p := ⟨gb598, 0, none⟩) (Kd.R_types HO617.out BK598.out (by decide)) (fun _ hk => hk.2) (.slice Ao76 y608.length co76)) (fun _ hk => hk.2) (.slice Ao81 y615.length co81)) (fun _ hk => trivial), pkW HB.out⟩
              · rw [if_neg c69] at H
                exact absurd H (by simp)
          · rw [if_neg c47] at H
            exact absurd H (by simp)
end Go.Proofs.Ytghmhekjdjdleaa.Z
