/- The Go functions spec_NewToken as Lean functions, each with a proof that its code comes to just these answers; conditions: those of each theorem. -/
import Derived.Test.YtghmhekjdjdleaaZx0
import Derived.Test.YtghmhekjdjdleaaZx4
import Derived.Test.YtghmhekjdjdleaaZx9
import Derived.Test.YtghmhekjdjdleaaZx28
namespace Go.Proofs.Ytghmhekjdjdleaa.Z
open Go.RowKit Go.Proofs.YtghmhekjdjdleaaW.PrintWords Go.Proofs.YtghmhekjdjdleaaW.PrintLast Go.Proofs.YtghmhekjdjdleaaW.PrintMore
attribute [local go_sem] max2_int min2_int max_two min_two max_three min_three max_four min_four   -- for this text's walks alone
set_option linter.unusedVariables false
set_option linter.unusedSimpArgs false
def spec_NewToken.j0 : Nat → Int → Int → Bool → List Int → List Bool → List Int → List Bool → Option (List Int × List Bool × Int × Int)
  | 0, _, _, _, _, _, _, _ => none
  | k + 1, x1, x8, x14, x563000, x563001, x571000, x571001 => if x14 = true then (some (x571000, x571001, (-1), 1)) else (if x8 ≥ 24 then (some (x571000, x571001, (-1), 2)) else (if x571000.length < 17592186044416 then ((some (x571000 ++ [x1] : List Int)).bind fun y573 => (if x1 ≥ 0 then (if 0 ≤ x1 then (if x1 < (x563001.length : Int) then (if x571001.length < 140737488355328 then (some (y573, (x571001 ++ [rdOf false x563001 x1]), x8, 0)) else (none)) else (none)) else (none)) else (if x571001.length < 140737488355328 then (some (y573, (x571001 ++ [false]), x8, 0)) else (none)))) else (none)))
def spec_NewToken.f (k : Nat) (l0_0 : List Int) (l0_1 : List Bool) (a1 : Int) : Option (List Int × List Bool × Int × Int) := (spec_l3Copy.f l0_0 l0_1).bind fun bt564 => ((spec_TokensOk.f k l0_0 l0_1).bind fun t571 => (if t571 = true then ((spec_l1In.f a1 (-1) (wrap64 ((l0_0.length : Int) - 1))).bind fun t572 => (spec_NewToken.j0 k a1 (l0_0.length : Int) (!t572) l0_0 l0_1 bt564.1 bt564.2)) else (spec_NewToken.j0 k a1 (l0_0.length : Int) true l0_0 l0_1 bt564.1 bt564.2)))
theorem spec_NewToken.mono_l : ∀ k, (∀ y0 y1 y2 y3 y4 y5 y6, LeO (spec_NewToken.j0 k y0 y1 y2 y3 y4 y5 y6) (spec_NewToken.j0 (k + 1) y0 y1 y2 y3 y4 y5 y6))
  | 0 => fun _ _ _ _ _ _ _ r h => by simp [spec_NewToken.j0] at h
  | k + 1 => by
    have ih0 := spec_NewToken.mono_l k
    · intro y0 y1 y2 y3 y4 y5 y6
      unfold spec_NewToken.j0
      repeat' first
      | (with_reducible exact ih0 _ _ _ _ _ _ _)
      | (with_reducible exact spec_TokensOk.mono _ _ _)
      | (with_reducible exact LeO.refl _)
      | (with_reducible exact LeO.none _)
      | (with_reducible refine LeO.ite ?_ ?_)
      | (with_reducible refine LeO.bind ?_ (fun _ => ?_))
theorem spec_NewToken.mono : ∀ a0 a1 a2 k, LeO (spec_NewToken.f k a0 a1 a2) (spec_NewToken.f (k + 1) a0 a1 a2) := by
  intro a0 a1 a2 k
  have ih0 := spec_NewToken.mono_l k
  unfold spec_NewToken.f
  repeat' first
      | (with_reducible exact ih0 _ _ _ _ _ _ _)
      | (with_reducible exact spec_TokensOk.mono _ _ _)
      | (with_reducible exact LeO.refl _)
      | (with_reducible exact LeO.none _)
      | (with_reducible refine LeO.ite ?_ ?_)
      | (with_reducible refine LeO.bind ?_ (fun _ => ?_))
def spec_NewToken.T8 : Bool × List (List Nat × List Nat) := (true, [([], []), ([0], [0]), ([], []), ([2], [2]), ([3], [3]), ([4], [4]), ([5, 4], [4, 5]), ([4], [4]), ([6, 7, 4], [4, 6, 7]), ([8, 4], [4, 8]), ([4, 9], [4, 9]), ([10], [10]), ([1, 11, 4], [1, 11]), ([0, 1, 2, 3, 4, 5, 6, 7, 8, 9, 10, 11, 12], []), ([13, 12, 12, 0, 1, 2, 3, 4, 5, 6, 7, 8, 9, 10, 11, 12], [12, 13])])
def spec_NewToken.B8 : List Nat := [0, 1, 0, 4, 12, 28, 60, 28, 252, 508, 1020, 2044, 4095, 8191, 16383]
theorem spec_NewToken.tab8 : rtab .any (opsOf Try.f39 8) = spec_NewToken.T8 := by kernel_rfl
theorem spec_NewToken.bits8 : waitsOk spec_NewToken.T8.2 spec_NewToken.B8 = true := by kernel_rfl
set_option maxHeartbeats 8000000 in
set_option maxRecDepth 100000 in
theorem spec_NewToken.calls (k : Nat) (A0_0 : Option Addr) (c0_0 : Nat) (l0_0 : List Int) (A0_1 : Option Addr) (c0_1 : Nat) (l0_1 : List Bool) (a1 : Int) (r1 : List Int) (r2 : List Bool) (r3 : Int) (r4 : Int) (w : World) (hr0_0 : Kd.C (Kd.int .i64) w A0_0 l0_0.length l0_0) (hc0_0 : l0_0.length ≤ c0_0) (hr0_1 : Kd.C Kd.bool w A0_1 l0_1.length l0_1) (hc0_1 : l0_1.length ≤ c0_1) (h : spec_NewToken.f k l0_0 l0_1 a1 = some (r1, r2, r3, r4)) :
    Calls Try.prog 39 #[.agg #[.slice A0_0 l0_0.length c0_0, .slice A0_1 l0_1.length c0_1], .int .i64 a1] w fun e w' => ∃ v0_ v1_ : Value, e = .returned (.tuple #[.agg #[v0_, v1_], .int .i64 r3, .int .i64 r4]) ∧ Kd.R (Kd.int .i64) 3 w' w.heap.size (fun _ => True) v0_ r1 ∧ Kd.R Kd.bool 4 w' w.heap.size (fun _ => True) v1_ r2 ∧ Below w.heap.size w w' := by
  have hu33 := Try.underlying33
  have HR0_0 := am hr0_0
  have HC0_0 := am hc0_0
  clear hr0_0 hc0_0
  have HR0_1 := am hr0_1
  have HC0_1 := am hc0_1
  clear hr0_1 hc0_1
  have HB := am (Below.refl w.heap.size w)
  have H : ((spec_l3Copy.f l0_0 l0_1).bind fun bt564 => ((spec_TokensOk.f k l0_0 l0_1).bind fun t571 => (if t571 = true then ((spec_l1In.f a1 (-1) (wrap64 ((l0_0.length : Int) - 1))).bind fun t572 => (spec_NewToken.j0 k a1 (l0_0.length : Int) (!t572) l0_0 l0_1 bt564.1 bt564.2)) else (spec_NewToken.j0 k a1 (l0_0.length : Int) true l0_0 l0_1 bt564.1 bt564.2)))) = some (r1, r2, r3, r4) := h
  clear h
  replace H := Option.bind_eq_some_iff.mp H
  obtain ⟨⟨t564, t567⟩, A30, H⟩ := H
  replace H : ((spec_TokensOk.f k l0_0 l0_1).bind fun t571 => (if t571 = true then ((spec_l1In.f a1 (-1) (wrap64 ((l0_0.length : Int) - 1))).bind fun t572 => (spec_NewToken.j0 k a1 (l0_0.length : Int) (!t572) l0_0 l0_1 t564 t567)) else (spec_NewToken.j0 k a1 (l0_0.length : Int) true l0_0 l0_1 t564 t567))) = some (r1, r2, r3, r4) := H
  have A3 := am A30
  clear A30
  have HC4 := am H
  clear H
  go_enter Try.func39, Try.ntmps39
  go_upto_region 3 with (first | ((with_reducible refine gate_dst (N := 2) rfl ?_); refine box_event ?hg (N := 2) ?hd (cs := #[.slice A0_0 l0_0.length c0_0, .slice A0_1 l0_1.length c0_1]) (t := 33) ?hr ?_; (case hd => rfl); (case hg => rfl); (case hr => first | (go_simp; done) | (go_simp; rfl)); intro gb562 hg w5 hbox hb; have n0_ := am (below_step (pkB HB.out) hb); have n1_ := am (hbox); have n2_ := am ((by rw [hg]; exact (below_size (pkB HB.out)) : w.heap.size ≤ gb562)); have n3_ := am ((by rw [hg]; exact (below_size (pkB HB.out)) : w.heap.size ≤ gb562)); clear HB; have HB := n0_; have BK562 := n1_; have GW562 := n2_; have GE562 := n3_; clear n0_ n1_ n2_ n3_; clear hb hbox hg) | ((with_reducible refine gate_dst (N := 4) rfl ?_); refine box_event ?hg (N := 4) ?hd (cs := #[.slice none 0 0, .slice none 0 0]) (t := 33) ?hr ?_; (case hd => rfl); (case hg => rfl); (case hr => first | (go_simp; done) | (go_simp; rfl)); intro gb563 hg w6 hbox hb; have n0_ := am (blk_below (pkK BK562.out) hb); have n1_ := am (below_step (pkW HB.out) hb); have n2_ := am (hbox); have n3_ := am ((by rw [hg]; exact (below_size (pkW HB.out)) : w.heap.size ≤ gb563)); have n4_ := am ((by rw [hg]; exact (below_size (pkW HB.out)) : w.heap.size ≤ gb563)); have n5_ := am ((by rw [hg]; exact Nat.ne_of_lt (blk_lt (g := gb562) (o := .cells #[.slice A0_0 l0_0.length c0_0, .slice A0_1 l0_1.length c0_1] 33 (0, 0)) (pkK BK562.out)) : gb562 ≠ gb563)); have n6_ := am ((by rw [hg]; exact Nat.ne_of_gt (blk_lt (g := gb562) (o := .cells #[.slice A0_0 l0_0.length c0_0, .slice A0_1 l0_1.length c0_1] 33 (0, 0)) (pkK BK562.out)) : gb563 ≠ gb562)); clear BK562 HB; have BK562 := n0_; have HB := n1_; have BK563 := n2_; have GW563 := n3_; have GE563 := n4_; have NB562_563 := n5_; have NB563_562 := n6_; clear n0_ n1_ n2_ n3_ n4_ n5_ n6_; clear hb hbox hg; have hnb7 := NB562_563.out; have hnc7 := NB563_562.out; have hcz8_0 : w6.cell? ⟨gb562, 0, none⟩ = some (.slice A0_0 l0_0.length c0_0) := (blk_cell BK562.out 0).trans rfl; have hcz8_1 : w6.cell? ⟨gb562, 1, none⟩ = some (.slice A0_1 l0_1.length c0_1) := (blk_cell BK562.out 1).trans rfl; have hfz8_0 := blk_frozen BK562.out 0; have hfz8_1 := blk_frozen BK562.out 1) | ((with_reducible refine gate_callee (f := 70) rfl ?_); refine goesL_ (some 10) rfl rfl Try.func70 (by kernel_rfl) rfl #[.agg #[.slice A0_0 l0_0.length c0_0, .slice A0_1 l0_1.length c0_1]] rfl mpx ?_; (with_reducible refine (spec_l3Copy.calls _ _ l0_0 _ _ l0_1 t564 t567 _ ?side1 ?side2 ?side3 ?side4 A3.out).mono ?_); (case side1 => exact pkC (Kd.C_below HR0_0.out HB.out)); (case side2 => exact HC0_0.out); (case side3 => exact pkC (Kd.C_below HR0_1.out HB.out)); (case side4 => exact HC0_1.out); rintro e w9 ⟨v565, v568, rfl, ho0, ho1, hb⟩; refine ⟨_, rfl, ?_⟩; have n0_ := am (Kd.R_lower ho0 (below_size (pkW HB.out))); have n1_ := am (Kd.R_lower ho1 (below_size (pkW HB.out))); have n2_ := am (blk_below (pkK BK562.out) hb); have n3_ := am (blk_below (pkK BK563.out) hb); have n4_ := am (below_step (pkW HB.out) hb); clear BK562 BK563 HB; have HO566 := n0_; have HO569 := n1_; have BK562 := n2_; have BK563 := n3_; have HB := n4_; clear n0_ n1_ n2_ n3_ n4_; (try clear hb); (try clear hb2); (try clear hk); (try clear hi); (try clear ho0); (try clear ho1)) | ((with_reducible refine gate_dst (N := 7) rfl ?_); refine box_event ?hg (N := 7) ?hd (cs := #[.slice none 0 0, .slice none 0 0]) (t := 33) ?hr ?_; (case hd => rfl); (case hg => rfl); (case hr => first | (go_simp; done) | (go_simp; rfl)); intro gb570 hg w10 hbox hb; have n0_ := am (Kd.R_below (pkR HO566.out) hb); have n1_ := am (Kd.R_below (pkR HO569.out) hb); have n2_ := am (blk_below (pkK BK562.out) hb); have n3_ := am (blk_below (pkK BK563.out) hb); have n4_ := am (below_step (pkW HB.out) hb); have n5_ := am (hbox); have n6_ := am ((by rw [hg]; exact (below_size (pkW HB.out)) : w.heap.size ≤ gb570)); have n7_ := am ((by rw [hg]; exact (below_size (pkW HB.out)) : w.heap.size ≤ gb570)); have n8_ := am ((by rw [hg]; exact Nat.ne_of_lt (blk_lt (g := gb562) (o := .cells #[.slice A0_0 l0_0.length c0_0, .slice A0_1 l0_1.length c0_1] 33 (0, 0)) (pkK BK562.out)) : gb562 ≠ gb570)); have n9_ := am ((by rw [hg]; exact Nat.ne_of_gt (blk_lt (g := gb562) (o := .cells #[.slice A0_0 l0_0.length c0_0, .slice A0_1 l0_1.length c0_1] 33 (0, 0)) (pkK BK562.out)) : gb570 ≠ gb562)); have n10_ := am ((by rw [hg]; exact Nat.ne_of_lt (blk_lt (g := gb563) (o := .cells #[.slice none 0 0, .slice none 0 0] 33 (0, 0)) (pkK BK563.out)) : gb563 ≠ gb570)); have n11_ := am ((by rw [hg]; exact Nat.ne_of_gt (blk_lt (g := gb563) (o := .cells #[.slice none 0 0, .slice none 0 0] 33 (0, 0)) (pkK BK563.out)) : gb570 ≠ gb563)); clear HO566 HO569 BK562 BK563 HB; have HO566 := n0_; have HO569 := n1_; have BK562 := n2_; have BK563 := n3_; have HB := n4_; have BK570 := n5_; have GW570 := n6_; have GE570 := n7_; have NB562_570 := n8_; have NB570_562 := n9_; have NB563_570 := n10_; have NB570_563 := n11_; clear n0_ n1_ n2_ n3_ n4_ n5_ n6_ n7_ n8_ n9_ n10_ n11_; clear hb hbox hg; obtain ⟨Ao11, co11, eo11⟩ := Kd.R_slice HO566.out; subst eo11; have hnb12 := NB570_562.out; have hnc12 := NB562_570.out; have hnb13 := NB570_563.out; have hnc13 := NB563_570.out; have hcz14_0 : w10.cell? ⟨gb570, 0, none⟩ = some (.slice none 0 0) := (blk_cell BK570.out 0).trans rfl; have hcz14_1 : w10.cell? ⟨gb570, 1, none⟩ = some (.slice none 0 0) := (blk_cell BK570.out 1).trans rfl; have hfz14_0 := blk_frozen BK570.out 0; have hfz14_1 := blk_frozen BK570.out 1; obtain ⟨Ao15, co15, eo15⟩ := Kd.R_slice HO569.out; subst eo15; have hcz16_0 : w10.cell? ⟨gb562, 0, none⟩ = some (.slice A0_0 l0_0.length c0_0) := (blk_cell BK562.out 0).trans rfl; have hcz16_1 : w10.cell? ⟨gb562, 1, none⟩ = some (.slice A0_1 l0_1.length c0_1) := (blk_cell BK562.out 1).trans rfl; have hfz16_0 := blk_frozen BK562.out 0; have hfz16_1 := blk_frozen BK562.out 1))
  (try simp only [Act.put, List.setIfInBounds_toArray, List.set_cons_zero, List.set_cons_succ])
  go_cut [14] (fun v14 wc => ∃ (kq : Nat) (x14_3 : Bool), v14 = .bool x14_3 ∧ Aside0 (spec_NewToken.j0 kq a1 (l0_0.length : Int) x14_3 l0_0 l0_1 t564 t567 = some (r1, r2, r3, r4)) ∧ Aside0 (kq ≤ k) ∧ Aside0 (Kd.R (Kd.int .i64) 3 wc w.heap.size (fun _ => True) (.slice Ao11 t564.length co11) t564) ∧ Aside0 (Kd.R Kd.bool 4 wc w.heap.size (fun _ => True) (.slice Ao15 t567.length co15) t567) ∧ Aside0 (wc.heap[gb562]? = some (.cells #[(.slice A0_0 l0_0.length c0_0), (.slice A0_1 l0_1.length c0_1)] 33 (0, 0))) ∧ Aside0 (wc.heap[gb563]? = some (.cells #[(.slice none 0 0), (.slice none 0 0)] 33 (0, 0))) ∧ Aside0 (wc.heap[gb570]? = some (.cells #[(.slice Ao11 t564.length co11), (.slice Ao15 t567.length co15)] 33 (0, 0))) ∧ Aside0 (Below w.heap.size w wc))
  case first =>
    have H := HC4.out
    clear HC4
    replace H := Option.bind_eq_some_iff.mp H
    obtain ⟨t571, A170, H⟩ := H
    replace H : (if t571 = true then ((spec_l1In.f a1 (-1) (wrap64 ((l0_0.length : Int) - 1))).bind fun t572 => (spec_NewToken.j0 k a1 (l0_0.length : Int) (!t572) l0_0 l0_1 t564 t567)) else (spec_NewToken.j0 k a1 (l0_0.length : Int) true l0_0 l0_1 t564 t567)) = some (r1, r2, r3, r4) := H
    have A17 := am A170
    clear A170
    by_cases c18 : t571 = true
    · subst c18
      replace H : ((spec_l1In.f a1 (-1) (wrap64 ((l0_0.length : Int) - 1))).bind fun t572 => (spec_NewToken.j0 k a1 (l0_0.length : Int) (!t572) l0_0 l0_1 t564 t567)) = some (r1, r2, r3, r4) := by rw [if_pos rfl] at H; exact H
      replace H := Option.bind_eq_some_iff.mp H
      obtain ⟨t572, A190, H⟩ := H
      replace H : (spec_NewToken.j0 k a1 (l0_0.length : Int) (!t572) l0_0 l0_1 t564 t567) = some (r1, r2, r3, r4) := H
      have A19 := am A190
      clear A190
      have H' := am H
      clear H
      have hnb20 := NB562_563.out
      have hnc20 := NB563_562.out
      have hnb21 := NB562_570.out
      have hnc21 := NB570_562.out
      have hcz22_0 : w10.cell? ⟨gb562, 0, none⟩ = some (.slice A0_0 l0_0.length c0_0) := (blk_cell BK562.out 0).trans rfl
      have hcz22_1 : w10.cell? ⟨gb562, 1, none⟩ = some (.slice A0_1 l0_1.length c0_1) := (blk_cell BK562.out 1).trans rfl
      have hfz22_0 := blk_frozen BK562.out 0
      have hfz22_1 := blk_frozen BK562.out 1
      go_wp2_with (first | ((with_reducible refine gate_callee (f := 22) rfl ?_); refine goesL_ (some 16) rfl rfl Try.func22 (by kernel_rfl) rfl #[.agg #[.slice A0_0 l0_0.length c0_0, .slice A0_1 l0_1.length c0_1]] rfl mpx ?_; (with_reducible refine (spec_TokensOk.calls k _ _ l0_0 _ _ l0_1 true _ ?side1 ?side2 ?side3 ?side4 A17.out).mono ?_); (case side1 => exact Kd.C_below HR0_0.out (pkW HB.out)); (case side2 => exact HC0_0.out); (case side3 => exact Kd.C_below HR0_1.out (pkW HB.out)); (case side4 => exact HC0_1.out); rintro e w23 ⟨rfl, hb⟩; refine ⟨_, rfl, ?_⟩; have n0_ := am (Kd.R_below (by (with_reducible repeat (first | apply Kd.R_alloc | apply Kd.R_drewN | apply Kd.R_drew)); exact (Kd.R_mono (Kd.R_far (p := ⟨gb570, 1, none⟩) (Kd.R_far (p := ⟨gb570, 0, none⟩) (Kd.R_types HO566.out BK570.out (by decide)) (fun _ hk => hk.2) (.slice Ao11 t564.length co11)) (fun _ hk => hk.2) (.slice Ao15 t567.length co15)) (fun _ h_ => h_.1))) hb); have n1_ := am (Kd.R_below (by (with_reducible repeat (first | apply Kd.R_alloc | apply Kd.R_drewN | apply Kd.R_drew)); exact (Kd.R_mono (Kd.R_far (p := ⟨gb570, 1, none⟩) (Kd.R_far (p := ⟨gb570, 0, none⟩) (Kd.R_types HO569.out BK570.out (by decide)) (fun _ hk => hk.2) (.slice Ao11 t564.length co11)) (fun _ hk => hk.2) (.slice Ao15 t567.length co15)) (fun _ h_ => h_.1))) hb); have n2_ := am (blk_below (g := gb562) (o := .cells #[.slice A0_0 l0_0.length c0_0, .slice A0_1 l0_1.length c0_1] 33 (0, 0)) (by (with_reducible repeat (first | refine blk_drewN ?_ _ | refine blk_drew ?_ | refine blk_alloc ?_ _)); refine blk_far ?_ NB562_570.out _; (with_reducible repeat (first | refine blk_drewN ?_ _ | refine blk_drew ?_ | refine blk_alloc ?_ _)); refine blk_far ?_ NB562_570.out _; exact pkK BK562.out) hb); have n3_ := am (blk_below (g := gb563) (o := .cells #[.slice none 0 0, .slice none 0 0] 33 (0, 0)) (by (with_reducible repeat (first | refine blk_drewN ?_ _ | refine blk_drew ?_ | refine blk_alloc ?_ _)); refine blk_far ?_ NB563_570.out _; (with_reducible repeat (first | refine blk_drewN ?_ _ | refine blk_drew ?_ | refine blk_alloc ?_ _)); refine blk_far ?_ NB563_570.out _; exact pkK BK563.out) hb); have n4_ := am (blk_below (g := gb570) (o := .cells #[.slice Ao11 t564.length co11, .slice Ao15 t567.length co15] 33 (0, 0)) (by (with_reducible repeat (first | refine blk_drewN ?_ _ | refine blk_drew ?_ | refine blk_alloc ?_ _)); refine blk_put (cs := #[.slice Ao11 t564.length co11, .slice none 0 0]) ?_ 1 _ rfl; (with_reducible repeat (first | refine blk_drewN ?_ _ | refine blk_drew ?_ | refine blk_alloc ?_ _)); refine blk_put (cs := #[.slice none 0 0, .slice none 0 0]) ?_ 0 _ rfl; exact pkK BK570.out) hb); have n5_ := am (below_step (pkW HB.out) hb); clear HO566 HO569 BK562 BK563 BK570 HB; have HO566 := n0_; have HO569 := n1_; have BK562 := n2_; have BK563 := n3_; have BK570 := n4_; have HB := n5_; clear n0_ n1_ n2_ n3_ n4_ n5_; (try clear hb); (try clear hb2); (try clear hk); (try clear hi)) | (go_at_call 57; (with_reducible refine (spec_l1In.calls a1 (-1) (wrap64 ((l0_0.length : Int) - 1)) t572 _ A19.out).mono ?_); rintro e w' ⟨rfl, ⟨nd, rfl⟩⟩))
      go_meet
      case rel => exact ⟨_, (!t572), rfx, H', ⟨by first | omega | exact Nat.le_refl _⟩, ⟨pkR HO566.out⟩, ⟨pkR HO569.out⟩, ⟨pkK BK562.out⟩, ⟨pkK BK563.out⟩, ⟨pkK BK570.out⟩, ⟨pkW HB.out⟩⟩
    · replace c18 := Bool.eq_false_iff.mpr c18
      subst c18
      replace H : (spec_NewToken.j0 k a1 (l0_0.length : Int) true l0_0 l0_1 t564 t567) = some (r1, r2, r3, r4) := by rw [if_neg (show ¬ (false = true) by decide)] at H; exact H
      have H' := am H
      clear H
      have hnb24 := NB562_563.out
      have hnc24 := NB563_562.out
      have hnb25 := NB562_570.out
      have hnc25 := NB570_562.out
      have hcz26_0 : w10.cell? ⟨gb562, 0, none⟩ = some (.slice A0_0 l0_0.length c0_0) := (blk_cell BK562.out 0).trans rfl
      have hcz26_1 : w10.cell? ⟨gb562, 1, none⟩ = some (.slice A0_1 l0_1.length c0_1) := (blk_cell BK562.out 1).trans rfl
      have hfz26_0 := blk_frozen BK562.out 0
      have hfz26_1 := blk_frozen BK562.out 1
      go_wp2_with (first | ((with_reducible refine gate_callee (f := 22) rfl ?_); refine goesL_ (some 16) rfl rfl Try.func22 (by kernel_rfl) rfl #[.agg #[.slice A0_0 l0_0.length c0_0, .slice A0_1 l0_1.length c0_1]] rfl mpx ?_; (with_reducible refine (spec_TokensOk.calls k _ _ l0_0 _ _ l0_1 false _ ?side1 ?side2 ?side3 ?side4 A17.out).mono ?_); (case side1 => exact Kd.C_below HR0_0.out (pkW HB.out)); (case side2 => exact HC0_0.out); (case side3 => exact Kd.C_below HR0_1.out (pkW HB.out)); (case side4 => exact HC0_1.out); rintro e w27 ⟨rfl, hb⟩; refine ⟨_, rfl, ?_⟩; have n0_ := am (Kd.R_below (by (with_reducible repeat (first | apply Kd.R_alloc | apply Kd.R_drewN | apply Kd.R_drew)); exact (Kd.R_mono (Kd.R_far (p := ⟨gb570, 1, none⟩) (Kd.R_far (p := ⟨gb570, 0, none⟩) (Kd.R_types HO566.out BK570.out (by decide)) (fun _ hk => hk.2) (.slice Ao11 t564.length co11)) (fun _ hk => hk.2) (.slice Ao15 t567.length co15)) (fun _ h_ => h_.1))) hb); have n1_ := am (Kd.R_below (by (with_reducible repeat (first | apply Kd.R_alloc | apply Kd.R_drewN | apply Kd.R_drew)); exact (Kd.R_mono (Kd.R_far (p := ⟨gb570, 1, none⟩) (Kd.R_far (p := ⟨gb570, 0, none⟩) (Kd.R_types HO569.out BK570.out (by decide)) (fun _ hk => hk.2) (.slice Ao11 t564.length co11)) (fun _ hk => hk.2) (.slice Ao15 t567.length co15)) (fun _ h_ => h_.1))) hb); have n2_ := am (blk_below (g := gb562) (o := .cells #[.slice A0_0 l0_0.length c0_0, .slice A0_1 l0_1.length c0_1] 33 (0, 0)) (by (with_reducible repeat (first | refine blk_drewN ?_ _ | refine blk_drew ?_ | refine blk_alloc ?_ _)); refine blk_far ?_ NB562_570.out _; (with_reducible repeat (first | refine blk_drewN ?_ _ | refine blk_drew ?_ | refine blk_alloc ?_ _)); refine blk_far ?_ NB562_570.out _; exact pkK BK562.out) hb); have n3_ := am (blk_below (g := gb563) (o := .cells #[.slice none 0 0, .slice none 0 0] 33 (0, 0)) (by (with_reducible repeat (first | refine blk_drewN ?_ _ | refine blk_drew ?_ | refine blk_alloc ?_ _)); refine blk_far ?_ NB563_570.out _; (with_reducible repeat (first | refine blk_drewN ?_ _ | refine blk_drew ?_ | refine blk_alloc ?_ _)); refine blk_far ?_ NB563_570.out _; exact pkK BK563.out) hb); have n4_ := am (blk_below (g := gb570) (o := .cells #[.slice Ao11 t564.length co11, .slice Ao15 t567.length co15] 33 (0, 0)) (by (with_reducible repeat (first | refine blk_drewN ?_ _ | refine blk_drew ?_ | refine blk_alloc ?_ _)); refine blk_put (cs := #[.slice Ao11 t564.length co11, .slice none 0 0]) ?_ 1 _ rfl; (with_reducible repeat (first | refine blk_drewN ?_ _ | refine blk_drew ?_ | refine blk_alloc ?_ _)); refine blk_put (cs := #[.slice none 0 0, .slice none 0 0]) ?_ 0 _ rfl; exact pkK BK570.out) hb); have n5_ := am (below_step (pkW HB.out) hb); clear HO566 HO569 BK562 BK563 BK570 HB; have HO566 := n0_; have HO569 := n1_; have BK562 := n2_; have BK563 := n3_; have BK570 := n4_; have HB := n5_; clear n0_ n1_ n2_ n3_ n4_ n5_; (try clear hb); (try clear hb2); (try clear hk); (try clear hi)))
      go_meet
      case rel => exact ⟨_, (true), rfx, H', ⟨by first | omega | exact Nat.le_refl _⟩, ⟨pkR HO566.out⟩, ⟨pkR HO569.out⟩, ⟨pkK BK562.out⟩, ⟨pkK BK563.out⟩, ⟨pkK BK570.out⟩, ⟨pkW HB.out⟩⟩
  case rest =>
    clear HC4
    try clear c1
    try clear c2
    try clear p2
    try clear c3
    try clear p6
    try clear c7
    try clear c12
    try clear c13
    try clear c18
    try clear c20
    try clear c21
    try clear c22
    try clear c24
    try clear c25
    try clear hcz14_0
    try clear hcz14_1
    try clear hcz16_0
    try clear hcz16_1
    try clear hcz22_0
    try clear hcz22_1
    try clear hcz26_0
    try clear hcz26_1
    try clear hcz8_0
    try clear hcz8_1
    try clear hfz14_0
    try clear hfz14_1
    try clear hfz16_0
    try clear hfz16_1
    try clear hfz22_0
    try clear hfz22_1
    try clear hfz26_0
    try clear hfz26_1
    try clear hfz8_0
    try clear hfz8_1
    obtain ⟨kq, x14_3, rfl, HA, HJ3, HO_571000, HO_571001, BK562, BK563, BK570, HB⟩ := hcut
    cases kq with
    | zero => exact absurd HA.out (by simp [spec_NewToken.j0])
    | succ kj3 =>
      have H := HA.out
      clear HA
      simp only [spec_NewToken.j0] at H
      by_cases c28 : x14_3 = true
      · subst c28
        replace H : (some (t564, t567, (-1), 1)) = some (r1, r2, r3, r4) := by rw [if_pos rfl] at H; exact H
        simp only [Option.some.injEq, Prod.mk.injEq] at H
        obtain ⟨rfl, rfl, rfl, rfl⟩ := H
        have hnb29 := NB570_562.out
        have hnc29 := NB562_570.out
        have hnb30 := NB570_563.out
        have hnc30 := NB563_570.out
        have hcz31_0 : wc.cell? ⟨gb570, 0, none⟩ = some (.slice Ao11 t564.length co11) := (blk_cell BK570.out 0).trans rfl
        have hcz31_1 : wc.cell? ⟨gb570, 1, none⟩ = some (.slice Ao15 t567.length co15) := (blk_cell BK570.out 1).trans rfl
        have hfz31_0 := blk_frozen BK570.out 0
        have hfz31_1 := blk_frozen BK570.out 1
        have hnb32 := NB563_562.out
        have hnc32 := NB562_563.out
        have hcz33_0 : wc.cell? ⟨gb563, 0, none⟩ = some (.slice none 0 0) := (blk_cell BK563.out 0).trans rfl
        have hcz33_1 : wc.cell? ⟨gb563, 1, none⟩ = some (.slice none 0 0) := (blk_cell BK563.out 1).trans rfl
        have hfz33_0 := blk_frozen BK563.out 0
        have hfz33_1 := blk_frozen BK563.out 1
        go_wp2
        refine bodyPost_ret (results_ctt rfl _ _ gb563 33 #[.slice Ao11 t564.length co11, .slice Ao15 t567.length co15] (0, 0) _ rfl (by (with_reducible repeat (first | refine blk_drewN ?_ _ | refine blk_drew ?_ | refine blk_alloc ?_ _)); refine blk_put (cs := #[.slice Ao11 t564.length co11, .slice none 0 0]) ?_ 1 _ rfl; (with_reducible repeat (first | refine blk_drewN ?_ _ | refine blk_drew ?_ | refine blk_alloc ?_ _)); refine blk_put (cs := #[.slice none 0 0, .slice none 0 0]) ?_ 0 _ rfl; exact pkK BK563.out) Try.underlying33 rfl (by kernel_rfl)) rfl ?_
        exact ⟨_, _, rfe, by (with_reducible repeat (first | apply Kd.R_alloc | apply Kd.R_drewN | apply Kd.R_drew)); exact Kd.R_mono (Kd.R_far (p := ⟨gb563, 1, none⟩) (Kd.R_far (p := ⟨gb563, 0, none⟩) (Kd.R_types HO_571000.out BK563.out (by decide)) (fun _ hk => hk.2) (.slice Ao11 t564.length co11)) (fun _ hk => hk.2) (.slice Ao15 t567.length co15)) (fun _ hk => trivial), by (with_reducible repeat (first | apply Kd.R_alloc | apply Kd.R_drewN | apply Kd.R_drew)); exact Kd.R_mono (Kd.R_far (p := ⟨gb563, 1, none⟩) (Kd.R_far (p := ⟨gb563, 0, none⟩) (Kd.R_types HO_571001.out BK563.out (by decide)) (fun _ hk => hk.2) (.slice Ao11 t564.length co11)) (fun _ hk => hk.2) (.slice Ao15 t567.length co15)) (fun _ hk => trivial), pkW HB.out⟩
      · replace c28 := Bool.eq_false_iff.mpr c28
        subst c28
        replace H : (if (l0_0.length : Int) ≥ 24 then (some (t564, t567, (-1), 2)) else (if t564.length < 17592186044416 then ((some (t564 ++ [a1] : List Int)).bind fun y573 => (if a1 ≥ 0 then (if 0 ≤ a1 then (if a1 < (l0_1.length : Int) then (if t567.length < 140737488355328 then (some (y573, (t567 ++ [rdOf false l0_1 a1]), (l0_0.length : Int), 0)) else (none)) else (none)) else (none)) else (if t567.length < 140737488355328 then (some (y573, (t567 ++ [false]), (l0_0.length : Int), 0)) else (none)))) else (none))) = some (r1, r2, r3, r4) := by rw [if_neg (show ¬ (false = true) by decide)] at H; exact H
        by_cases c34 : (l0_0.length : Int) ≥ 24
        · rw [if_pos c34] at H
          have c34b0 : decide (24 ≤ (l0_0.length : Int)) = true := decide_eq_true c34
          have c34b1 : decide (24 ≤ l0_0.length) = true := decide_eq_true (by omega)
          clear c34
          simp only [Option.some.injEq, Prod.mk.injEq] at H
          obtain ⟨rfl, rfl, rfl, rfl⟩ := H
          have hnb35 := NB570_562.out
          have hnc35 := NB562_570.out
          have hnb36 := NB570_563.out
          have hnc36 := NB563_570.out
          have hcz37_0 : wc.cell? ⟨gb570, 0, none⟩ = some (.slice Ao11 t564.length co11) := (blk_cell BK570.out 0).trans rfl
          have hcz37_1 : wc.cell? ⟨gb570, 1, none⟩ = some (.slice Ao15 t567.length co15) := (blk_cell BK570.out 1).trans rfl
          have hfz37_0 := blk_frozen BK570.out 0
          have hfz37_1 := blk_frozen BK570.out 1
          have hnb38 := NB563_562.out
          have hnc38 := NB562_563.out
          have hcz39_0 : wc.cell? ⟨gb563, 0, none⟩ = some (.slice none 0 0) := (blk_cell BK563.out 0).trans rfl
          have hcz39_1 : wc.cell? ⟨gb563, 1, none⟩ = some (.slice none 0 0) := (blk_cell BK563.out 1).trans rfl
          have hfz39_0 := blk_frozen BK563.out 0
          have hfz39_1 := blk_frozen BK563.out 1
          go_wp2
          refine bodyPost_ret (results_ctt rfl _ _ gb563 33 #[.slice Ao11 t564.length co11, .slice Ao15 t567.length co15] (0, 0) _ rfl (by (with_reducible repeat (first | refine blk_drewN ?_ _ | refine blk_drew ?_ | refine blk_alloc ?_ _)); refine blk_put (cs := #[.slice Ao11 t564.length co11, .slice none 0 0]) ?_ 1 _ rfl; (with_reducible repeat (first | refine blk_drewN ?_ _ | refine blk_drew ?_ | refine blk_alloc ?_ _)); refine blk_put (cs := #[.slice none 0 0, .slice none 0 0]) ?_ 0 _ rfl; exact pkK BK563.out) Try.underlying33 rfl (by kernel_rfl)) rfl ?_
          exact ⟨_, _, rfe, by (with_reducible repeat (first | apply Kd.R_alloc | apply Kd.R_drewN | apply Kd.R_drew)); exact Kd.R_mono (Kd.R_far (p := ⟨gb563, 1, none⟩) (Kd.R_far (p := ⟨gb563, 0, none⟩) (Kd.R_types HO_571000.out BK563.out (by decide)) (fun _ hk => hk.2) (.slice Ao11 t564.length co11)) (fun _ hk => hk.2) (.slice Ao15 t567.length co15)) (fun _ hk => trivial), by (with_reducible repeat (first | apply Kd.R_alloc | apply Kd.R_drewN | apply Kd.R_drew)); exact Kd.R_mono (Kd.R_far (p := ⟨gb563, 1, none⟩) (Kd.R_far (p := ⟨gb563, 0, none⟩) (Kd.R_types HO_571001.out BK563.out (by decide)) (fun _ hk => hk.2) (.slice Ao11 t564.length co11)) (fun _ hk => hk.2) (.slice Ao15 t567.length co15)) (fun _ hk => trivial), pkW HB.out⟩
        · rw [if_neg c34] at H
          have c34b0 : decide (24 ≤ (l0_0.length : Int)) = false := decide_eq_false c34
          have c34b1 : decide (24 ≤ l0_0.length) = false := decide_eq_false (by omega)
          clear c34
          by_cases c40 : t564.length < 17592186044416
          · rw [if_pos c40] at H
            have LMc40 := am c40
            clear c40
            obtain ⟨y573, hy573⟩ : ∃ y_ : List Int, y_ = (t564 ++ [a1]) := ⟨_, rfl⟩
            replace H : (if a1 ≥ 0 then (if 0 ≤ a1 then (if a1 < (l0_1.length : Int) then (if t567.length < 140737488355328 then (some (y573, (t567 ++ [rdOf false l0_1 a1]), (l0_0.length : Int), 0)) else (none)) else (none)) else (none)) else (if t567.length < 140737488355328 then (some (y573, (t567 ++ [false]), (l0_0.length : Int), 0)) else (none))) = some (r1, r2, r3, r4) := by first | (rw [hy573]; with_reducible exact H) | (have H2_ := (Option.bind_some _ _).symm.trans H; rw [hy573]; with_reducible exact H2_) | (have H2_ := (Option.bind_some _ _).symm.trans H; with_reducible exact H2_) | with_reducible exact H | (rw [hy573]; exact H) | exact H
            have Ny573 := am hy573
            clear hy573
            by_cases c41 : a1 ≥ 0
            · rw [if_pos c41] at H
              have c41b0 : decide (0 ≤ a1) = true := decide_eq_true c41
              clear c41
              by_cases c42 : 0 ≤ a1
              · rw [if_pos c42] at H
                have c42b0 : decide (0 ≤ a1) = true := decide_eq_true c42
                clear c42
                by_cases c43 : a1 < (l0_1.length : Int)
                · rw [if_pos c43] at H
                  have c43b0 : decide (a1 < (l0_1.length : Int)) = true := decide_eq_true c43
                  clear c43
                  by_cases c44 : t567.length < 140737488355328
                  · rw [if_pos c44] at H
                    have LMc44 := am c44
                    clear c44
                    obtain ⟨y577, hy577⟩ : ∃ y_ : List Bool, y_ = (t567 ++ [rdOf false l0_1 a1]) := ⟨_, rfl⟩
                    replace H : (some (y573, y577, (l0_0.length : Int), 0)) = some (r1, r2, r3, r4) := by first | (rw [hy577]; with_reducible exact H) | (have H2_ := (Option.bind_some _ _).symm.trans H; rw [hy577]; with_reducible exact H2_) | (have H2_ := (Option.bind_some _ _).symm.trans H; with_reducible exact H2_) | with_reducible exact H | (rw [hy577]; exact H) | exact H
                    have Ny577 := am hy577
                    clear hy577
                    simp only [Option.some.injEq, Prod.mk.injEq] at H
                    obtain ⟨rfl, rfl, rfl, rfl⟩ := H
                    have hnb45 := NB570_562.out
                    have hnc45 := NB562_570.out
                    have hnb46 := NB570_563.out
                    have hnc46 := NB563_570.out
                    have hcz47_0 : wc.cell? ⟨gb570, 0, none⟩ = some (.slice Ao11 t564.length co11) := (blk_cell BK570.out 0).trans rfl
                    have hcz47_1 : wc.cell? ⟨gb570, 1, none⟩ = some (.slice Ao15 t567.length co15) := (blk_cell BK570.out 1).trans rfl
                    have hfz47_0 := blk_frozen BK570.out 0
                    have hfz47_1 := blk_frozen BK570.out 1
                    try go_wp2_with (first | ((with_reducible refine gate_builtin (b := .append) (xs := #[.tmp 31, .tmp 33]) rfl ?_); at_builtin; refine Kd.R_append (Kd.int .i64) (w0 := w) w.heap.size rfl (.tmp 31) (.tmp 33) 22 3 (.int .i64 0) 8 rfl Try.underlying22 info3 rfl (by decide) (by omega) (.slice Ao11 t564.length co11) t564 a1 [.int .i64 a1] (fun _ => True) (fun _ => False) rfl rfl ?aP (fun _ hk => hk.elim) ?aF ?aO ?aB ?aS ?aL ?_; (case aP => exact rfl); (case aB => exact (pkW HB.out)); (case aF => exact (fun _ _ => trivial)); (case aO => exact (pkR HO_571000.out)); (case aS => exact (below_size (pkW HB.out))); (case aL => have := LMc40.out; omega); intro v574 w48 ho hb hg hat; rw [← Ny573.out] at ho; have n0_ := am (Kd.R_over' (pkR HO_571001.out) (Kd.R_typed (pkR HO_571000.out)) (by decide) hg); have n1_ := am (blk_grown (g := gb562) (o := .cells #[.slice A0_0 l0_0.length c0_0, .slice A0_1 l0_1.length c0_1] 33 (0, 0)) (pkK BK562.out) hg (Kd.R_ne HO_571000.out BK562.out (by decide))); have n2_ := am (blk_grown (g := gb563) (o := .cells #[.slice none 0 0, .slice none 0 0] 33 (0, 0)) (pkK BK563.out) hg (Kd.R_ne HO_571000.out BK563.out (by decide))); have n3_ := am (blk_grown (g := gb570) (o := .cells #[.slice Ao11 t564.length co11, .slice Ao15 t567.length co15] 33 (0, 0)) (pkK BK570.out) hg (Kd.R_ne HO_571000.out BK570.out (by decide))); have n4_ := am (hb); have n5_ := am (ho); clear HO_571001 BK562 BK563 BK570 HB HO_571000; have HO_571001 := n0_; have BK562 := n1_; have BK563 := n2_; have BK570 := n3_; have HB := n4_; have HO575 := n5_; clear n0_ n1_ n2_ n3_ n4_ n5_; clear ho hb hg hat; obtain ⟨Ao49, co49, eo49⟩ := Kd.R_slice HO575.out; subst eo49; have hcz50_0 : w48.cell? ⟨gb570, 0, none⟩ = some (.slice Ao11 t564.length co11) := (blk_cell BK570.out 0).trans rfl; have hcz50_1 : w48.cell? ⟨gb570, 1, none⟩ = some (.slice Ao15 t567.length co15) := (blk_cell BK570.out 1).trans rfl; have hfz50_0 := blk_frozen BK570.out 0; have hfz50_1 := blk_frozen BK570.out 1))
                    have n0_ : Aside0 (Kd.R Kd.bool 4 (w48.setCell ⟨gb570, 0, none⟩ (.slice Ao49 y573.length co49)) w.heap.size (fun _ => True) (.slice Ao15 t567.length co15) t567) := ⟨by (with_reducible repeat (first | apply Kd.R_alloc | apply Kd.R_drewN | apply Kd.R_drew)); exact Kd.R_mono (Kd.R_far (p := ⟨gb570, 0, none⟩) (Kd.R_types HO_571001.out BK570.out (by decide)) (fun _ hk => hk.2) (.slice Ao49 y573.length co49)) (fun _ hk => trivial)⟩
                    have n1_ : Aside0 (Kd.R (Kd.int .i64) 3 (w48.setCell ⟨gb570, 0, none⟩ (.slice Ao49 y573.length co49)) w.heap.size (fun _ => True) (.slice Ao49 y573.length co49) y573) := ⟨by (with_reducible repeat (first | apply Kd.R_alloc | apply Kd.R_drewN | apply Kd.R_drew)); exact Kd.R_mono (Kd.R_far (p := ⟨gb570, 0, none⟩) (Kd.R_types HO575.out BK570.out (by decide)) (fun _ hk => hk.2) (.slice Ao49 y573.length co49)) (fun _ hk => trivial)⟩
                    have n2_ : Aside0 ((w48.setCell ⟨gb570, 0, none⟩ (.slice Ao49 y573.length co49)).heap[gb562]? = some (.cells #[.slice A0_0 l0_0.length c0_0, .slice A0_1 l0_1.length c0_1] 33 (0, 0))) := ⟨by (with_reducible repeat (first | refine blk_drewN ?_ _ | refine blk_drew ?_ | refine blk_alloc ?_ _)); refine blk_far ?_ NB562_570.out _; exact pkK BK562.out⟩
                    have n3_ : Aside0 ((w48.setCell ⟨gb570, 0, none⟩ (.slice Ao49 y573.length co49)).heap[gb563]? = some (.cells #[.slice none 0 0, .slice none 0 0] 33 (0, 0))) := ⟨by (with_reducible repeat (first | refine blk_drewN ?_ _ | refine blk_drew ?_ | refine blk_alloc ?_ _)); refine blk_far ?_ NB563_570.out _; exact pkK BK563.out⟩
                    have n4_ : Aside0 ((w48.setCell ⟨gb570, 0, none⟩ (.slice Ao49 y573.length co49)).heap[gb570]? = some (.cells #[.slice Ao49 y573.length co49, .slice Ao15 t567.length co15] 33 (0, 0))) := ⟨by (with_reducible repeat (first | refine blk_drewN ?_ _ | refine blk_drew ?_ | refine blk_alloc ?_ _)); refine blk_put (cs := #[.slice Ao11 t564.length co11, .slice Ao15 t567.length co15]) ?_ 0 _ rfl; exact pkK BK570.out⟩
                    have n5_ : Aside0 (Below w.heap.size w (w48.setCell ⟨gb570, 0, none⟩ (.slice Ao49 y573.length co49))) := ⟨pkW HB.out⟩
                    (try clear HO_571001); (try clear HO575); (try clear BK562); (try clear BK563); (try clear BK570); (try clear HB)
                    generalize (w48.setCell ⟨gb570, 0, none⟩ (.slice Ao49 y573.length co49)) = w51 at n0_ n1_ n2_ n3_ n4_ n5_ ⊢
                    have HO_571001 := n0_; have HO575 := n1_; have BK562 := n2_; have BK563 := n3_; have BK570 := n4_; have HB := n5_
                    clear n0_ n1_ n2_ n3_ n4_ n5_
                    have n0_ := am (Kd.R_drew HO_571001.out)
                    have n1_ := am (Kd.R_drew HO575.out)
                    have n2_ := am (blk_drew BK562.out)
                    have n3_ := am (blk_drew BK563.out)
                    have n4_ := am (blk_drew BK570.out)
                    have n5_ := am (below_drew1 HB.out)
                    clear HO_571001 HO575 BK562 BK563 BK570 HB
                    have HO_571001 := n0_; have HO575 := n1_; have BK562 := n2_; have BK563 := n3_; have BK570 := n4_; have HB := n5_
                    clear n0_ n1_ n2_ n3_ n4_ n5_
                    have p576 : 0 ≤ (a1 : Int) := ofd
                    have q576 : a1 < (l0_1.length : Int) := ofd
                    obtain ⟨ad576, e576, hx576_0⟩ := Kd.at_bool HR0_1.out a1 p576 q576
                    have hw576_0 := hx576_0
                    cases e576
                    replace hx576_0 := (HB.out.cell (World.block_lt_of_cell? w _ hx576_0)).trans hx576_0
                    replace p576 := eq_true p576
                    replace q576 := eq_true q576
                    refine start_ (n := 15) (S := fun w' => w'.cell? ⟨gb570, 0, none⟩ = some (.slice Ao49 y573.length co49) ∧ w'.cell? ⟨gb570, 1, none⟩ = some (.slice Ao15 t567.length co15) ∧ w'.cell? ⟨gb562, 0, none⟩ = some (.slice A0_0 l0_0.length c0_0) ∧ w'.cell? ⟨gb562, 1, none⟩ = some (.slice (some ad576) l0_1.length c0_1) ∧ w'.cell? (ad576.add (a1).toNat) = some (.bool (rdOf false l0_1 a1))) (ds := [14]) #[false, false, false, false, false, false, false, false, false, false, false, false, false, false, false] (by kernel_rfl) rfl rfl ⟨(blk_cell BK570.out 0).trans rfl, (blk_cell BK570.out 1).trans rfl, (blk_cell BK562.out 0).trans rfl, (blk_cell BK562.out 1).trans rfl, ((HB.out.cell (World.block_lt_of_cell? w _ hw576_0)).trans hw576_0)⟩ (fun hHeld => ?_); refine with_tabW spec_NewToken.tab8 spec_NewToken.bits8 (fun HT_ HW_ => ?_)
                    generalize w51.drew = w52 at HO_571001 HO575 BK562 BK563 BK570 HB hx576_0 hHeld ⊢
                    refine pure_ (i := 0) (N := some 36) (v := ?_) (a' := ?_) #[true, false, false, false, false, false, false, false, false, false, false, false, false, false, false] rfl rfl (any_of HT_.out (by kernel_rfl)) (fun _ _ _ h => h) (Or.inl ⟨by rfl, ?_⟩) ?_ ?_
                    rotate_left
                    · intro w'
                      go_simp
                      with_reducible rfl
                    rotate_left
                    · simp only [Act.put, List.setIfInBounds_toArray, List.set_cons_zero, List.set_cons_succ, i64_w, i32_w]
                      rfl
                    refine pure_ (i := 2) (N := some 38) (v := ?_) (a' := ?_) #[true, false, true, false, false, false, false, false, false, false, false, false, false, false, false] rfl rfl (any_of HT_.out (by kernel_rfl)) (fun _ _ _ h => h) (Or.inl ⟨by rfl, ?_⟩) ?_ ?_
                    rotate_left
                    · intro w'
                      go_simp
                      with_reducible rfl
                    rotate_left
                    · simp only [Act.put, List.setIfInBounds_toArray, List.set_cons_zero, List.set_cons_succ, i64_w, i32_w]
                      rfl
                    refine pure_ (i := 3) (N := some 39) (v := ?_) (a' := ?_) #[true, false, true, true, false, false, false, false, false, false, false, false, false, false, false] rfl rfl (any_of HT_.out (by kernel_rfl)) (fun _ _ _ h => h) (Or.inl ⟨by rfl, ?_⟩) ?_ ?_
                    rotate_left
                    · intro w'
                      go_simp
                      with_reducible rfl
                    rotate_left
                    · simp only [Act.put, List.setIfInBounds_toArray, List.set_cons_zero, List.set_cons_succ, i64_w, i32_w]
                      rfl
                    refine pure_ (i := 4) (N := some 40) (v := ?_) (a' := ?_) #[true, false, true, true, true, false, false, false, false, false, false, false, false, false, false] rfl rfl (any_of HT_.out (by kernel_rfl)) (fun _ _ _ h => h) (Or.inl ⟨by rfl, ?_⟩) ?_ ?_
                    rotate_left
                    · intro w'
                      go_simp
                      with_reducible rfl
                    rotate_left
                    · simp only [Act.put, List.setIfInBounds_toArray, List.set_cons_zero, List.set_cons_succ, i64_w, i32_w]
                      rfl
                    refine pure_ (i := 5) (N := some 41) (v := ?_) (a' := ?_) #[true, false, true, true, true, true, false, false, false, false, false, false, false, false, false] rfl rfl (any_of HT_.out (by kernel_rfl)) (fun _ _ _ h => h) (Or.inl ⟨by rfl, ?_⟩) ?_ ?_
                    rotate_left
                    · intro w'
                      go_simp
                      with_reducible rfl
                    rotate_left
                    · simp only [Act.put, List.setIfInBounds_toArray, List.set_cons_zero, List.set_cons_succ, i64_w, i32_w]
                      rfl
                    refine pure_ (i := 7) (N := some 43) (v := ?_) (a' := ?_) #[true, false, true, true, true, true, false, true, false, false, false, false, false, false, false] rfl rfl (any_of HT_.out (by kernel_rfl)) (fun _ _ _ h => h) (Or.inl ⟨by rfl, ?_⟩) ?_ ?_
                    rotate_left
                    · intro w'
                      go_simp
                      with_reducible rfl
                    rotate_left
                    · simp only [Act.put, List.setIfInBounds_toArray, List.set_cons_zero, List.set_cons_succ, i64_w, i32_w]
                      rfl
                    refine take_ (i := 1) (N := some 37) (v := ?_) (a' := ?_) #[true, true, true, true, true, true, false, true, false, false, false, false, false, false, false] rfl rfl (take_ofW HT_.out HW_.out (by kernel_rfl)) (fun _ _ _ h => h) (Or.inl ⟨by rfl, ?_⟩) hHeld ?_ ?_
                    rotate_left
                    · rintro w' ⟨s0, s1, s2, s3, s4⟩
                      go_simp
                      with_reducible rfl
                    rotate_left
                    · simp only [Act.put, List.setIfInBounds_toArray, List.set_cons_zero, List.set_cons_succ, i64_w, i32_w]
                      rfl
                    refine take_ (i := 6) (N := some 42) (v := ?_) (a' := ?_) #[true, true, true, true, true, true, true, true, false, false, false, false, false, false, false] rfl rfl (take_ofW HT_.out HW_.out (by kernel_rfl)) (fun _ _ _ h => h) (Or.inl ⟨by rfl, ?_⟩) hHeld ?_ ?_
                    rotate_left
                    · rintro w' ⟨s0, s1, s2, s3, s4⟩
                      go_simp
                      with_reducible rfl
                    rotate_left
                    · simp only [Act.put, List.setIfInBounds_toArray, List.set_cons_zero, List.set_cons_succ, i64_w, i32_w]
                      rfl
                    refine pure_ (i := 8) (N := some 44) (v := ?_) (a' := ?_) #[true, true, true, true, true, true, true, true, true, false, false, false, false, false, false] rfl rfl (any_of HT_.out (by kernel_rfl)) (fun _ _ _ h => h) (Or.inl ⟨by rfl, ?_⟩) ?_ ?_
                    rotate_left
                    · intro w'
                      go_simp
                      with_reducible rfl
                    rotate_left
                    · simp only [Act.put, List.setIfInBounds_toArray, List.set_cons_zero, List.set_cons_succ, i64_w, i32_w]
                      rfl
                    refine take_ (i := 9) (N := some 45) (v := ?_) (a' := ?_) #[true, true, true, true, true, true, true, true, true, true, false, false, false, false, false] rfl rfl (take_ofW HT_.out HW_.out (by kernel_rfl)) (fun _ _ _ h => h) (Or.inl ⟨by rfl, ?_⟩) hHeld ?_ ?_
                    rotate_left
                    · rintro w' ⟨s0, s1, s2, s3, s4⟩
                      go_simp
                      with_reducible rfl
                    rotate_left
                    · simp only [Act.put, List.setIfInBounds_toArray, List.set_cons_zero, List.set_cons_succ, i64_w, i32_w]
                      rfl
                    refine pure_ (i := 10) (N := some 46) (v := ?_) (a' := ?_) #[true, true, true, true, true, true, true, true, true, true, true, false, false, false, false] rfl rfl (any_of HT_.out (by kernel_rfl)) (fun _ _ _ h => h) (Or.inl ⟨by rfl, ?_⟩) ?_ ?_
                    rotate_left
                    · intro w'
                      go_simp
                      with_reducible rfl
                    rotate_left
                    · simp only [Act.put, List.setIfInBounds_toArray, List.set_cons_zero, List.set_cons_succ, i64_w, i32_w]
                      rfl
                    refine one_ (i := 11) (N := some 47) #[true, true, true, true, true, true, true, true, true, true, true, true, false, false, false] rfl rfl (one_of HT_.out (by kernel_rfl)) (by decide) (fun K hK => ?_)
                    refine value_ (w1 := ?_) (v := ?_) (by rfl) rfl ?_ ?_
                    rotate_left 2
                    · go_simp
                      constructor
                      · rfl
                      · rfl
                    refine hK.out _ _ ⟨(blk_cell (blk_alloc BK570.out _) 0).trans rfl, (blk_cell (blk_alloc BK570.out _) 1).trans rfl, (blk_cell (blk_alloc BK562.out _) 0).trans rfl, (blk_cell (blk_alloc BK562.out _) 1).trans rfl, (World.cell?_alloc_lt _ _ _ (World.block_lt_of_cell? _ _ (((HB.out.cell (World.block_lt_of_cell? w _ hw576_0)).trans hw576_0)))).trans (((HB.out.cell (World.block_lt_of_cell? w _ hw576_0)).trans hw576_0))⟩ (fun hHeld => ?_)
                    clear hK K
                    refine norm_ (a' := ?_) ?_ ?_
                    rotate_left
                    · show Act.put _ (some 47) _ = _
                      simp only [Act.put, List.setIfInBounds_toArray, List.set_cons_zero, List.set_cons_succ, i64_w, i32_w]
                      rfl
                    refine one_ (i := 12) (N := some 48) #[true, true, true, true, true, true, true, true, true, true, true, true, true, false, false] rfl rfl (one_of HT_.out (by kernel_rfl)) (by decide) (fun K hK => ?_)
                    refine Kd.R_append_step Kd.bool (w0 := w) w.heap.size (by rfl) (.tmp 37) (.tmp 47) 28 4 (.bool false) 1 rfl Try.underlying28 info4 rfl (by decide) (by omega) (.slice Ao15 t567.length co15) t567 (rdOf false l0_1 a1) [.bool (rdOf false l0_1 a1)] (fun _ => True) (fun _ => False) rfl rfl ?aP (fun _ hk => hk.elim) ?aF ?aO ?aB ?aS ?aL ?_
                    (case aP => exact rfl)
                    (case aB => exact (pkW HB.out))
                    (case aF => exact (fun _ _ => trivial))
                    (case aO => exact (pkR HO_571001.out))
                    (case aS => exact (below_size (pkW HB.out)))
                    (case aL => have := LMc44.out; omega)
                    intro v578 w53 ho hb hg hat
                    rw [← Ny577.out] at ho
                    have n0_ := am (blk_grown (g := gb562) (o := .cells #[.slice A0_0 l0_0.length c0_0, .slice (some ad576) l0_1.length c0_1] 33 (0, 0)) (pkK BK562.out) hg (Kd.R_ne HO_571001.out BK562.out (by decide)))
                    have n1_ := am (blk_grown (g := gb563) (o := .cells #[.slice none 0 0, .slice none 0 0] 33 (0, 0)) (pkK BK563.out) hg (Kd.R_ne HO_571001.out BK563.out (by decide)))
                    have n2_ := am (blk_grown (g := gb570) (o := .cells #[.slice Ao49 y573.length co49, .slice Ao15 t567.length co15] 33 (0, 0)) (pkK BK570.out) hg (Kd.R_ne HO_571001.out BK570.out (by decide)))
                    have n3_ := am (Kd.R_over' (pkR HO575.out) (Kd.R_typed (pkR HO_571001.out)) (by decide) hg)
                    have n4_ := am (hb)
                    have n5_ := am (ho)
                    clear BK562 BK563 BK570 HO575 HB HO_571001
                    have BK562 := n0_; have BK563 := n1_; have BK570 := n2_; have HO575 := n3_; have HB := n4_; have HO579 := n5_
                    clear n0_ n1_ n2_ n3_ n4_ n5_ ho hb hg hat
                    obtain ⟨Ao54, co54, eo54⟩ := Kd.R_slice HO579.out
                    (first | subst eo54 | (injection eo54 with f1_ f2_ f3_; have f4_ := f1_.symm; have f5_ := f3_.symm; clear f1_ f2_ f3_; subst f4_; subst f5_))
                    refine hK.out _ _ ⟨(blk_cell BK570.out 0).trans rfl, (blk_cell BK570.out 1).trans rfl, (blk_cell BK562.out 0).trans rfl, (blk_cell BK562.out 1).trans rfl, ((HB.out.cell (World.block_lt_of_cell? w _ hw576_0)).trans hw576_0)⟩ (fun hHeld => ?_)
                    clear hK K
                    refine norm_ (a' := ?_) ?_ ?_
                    rotate_left
                    · show Act.put _ (some 48) _ = _
                      simp only [Act.put, List.setIfInBounds_toArray, List.set_cons_zero, List.set_cons_succ, i64_w, i32_w]
                      rfl
                    refine pure_ (i := 13) (N := some 49) (v := ?_) (a' := ?_) #[true, true, true, true, true, true, true, true, true, true, true, true, true, true, false] rfl rfl (any_of HT_.out (by kernel_rfl)) (fun _ _ _ h => h) (Or.inl ⟨by rfl, ?_⟩) ?_ ?_
                    rotate_left
                    · intro w'
                      go_simp
                      with_reducible rfl
                    rotate_left
                    · simp only [Act.put, List.setIfInBounds_toArray, List.set_cons_zero, List.set_cons_succ, i64_w, i32_w]
                      rfl
                    refine last_ (i := 14) (N := none) #[true, true, true, true, true, true, true, true, true, true, true, true, true, true, true] rfl rfl (one_of HT_.out (by kernel_rfl)) (by decide) (fun K hK => ?_)
                    have hs55 : w53.cell? ⟨gb570, 1, none⟩ = some (.slice Ao15 t567.length co15) := (blk_cell BK570.out 1).trans rfl
                    have hfs55 := blk_frozen BK570.out 1
                    have hns55_0 := NB562_570.out
                    have hns55_1 := NB563_570.out
                    have hms55_0 := NB570_562.out
                    have hms55_1 := NB570_563.out
                    refine skip_ (w1 := ?_) (by rfl) rfl ?_ ?_
                    rotate_left
                    · go_simp
                      rfl
                    refine hK.out _ _ ?_
                    clear hK K
                    refine done_ (done_of HT_.out (by kernel_rfl)) ?_
                    have hcz56_0 : w53.cell? ⟨gb570, 0, none⟩ = some (.slice Ao49 y573.length co49) := (blk_cell BK570.out 0).trans rfl
                    have hcz56_1 : w53.cell? ⟨gb570, 1, none⟩ = some (.slice Ao15 t567.length co15) := (blk_cell BK570.out 1).trans rfl
                    have hfz56_0 := blk_frozen BK570.out 0
                    have hfz56_1 := blk_frozen BK570.out 1
                    have hnb57 := NB563_562.out
                    have hnc57 := NB562_563.out
                    have hcz58_0 : w53.cell? ⟨gb563, 0, none⟩ = some (.slice none 0 0) := (blk_cell BK563.out 0).trans rfl
                    have hcz58_1 : w53.cell? ⟨gb563, 1, none⟩ = some (.slice none 0 0) := (blk_cell BK563.out 1).trans rfl
                    have hfz58_0 := blk_frozen BK563.out 0
                    have hfz58_1 := blk_frozen BK563.out 1
                    try go_wp2
                    refine bodyPost_ret (results_ctt rfl _ _ gb563 33 #[.slice Ao49 y573.length co49, .slice Ao54 y577.length co54] (0, 0) _ rfl (by (with_reducible repeat (first | refine blk_drewN ?_ _ | refine blk_drew ?_ | refine blk_alloc ?_ _)); refine blk_put (cs := #[.slice Ao49 y573.length co49, .slice none 0 0]) ?_ 1 _ rfl; (with_reducible repeat (first | refine blk_drewN ?_ _ | refine blk_drew ?_ | refine blk_alloc ?_ _)); refine blk_put (cs := #[.slice none 0 0, .slice none 0 0]) ?_ 0 _ rfl; (with_reducible repeat (first | refine blk_drewN ?_ _ | refine blk_drew ?_ | refine blk_alloc ?_ _)); refine blk_far ?_ NB563_570.out _; exact pkK BK563.out) Try.underlying33 rfl (by kernel_rfl)) rfl ?_
                    exact ⟨_, _, rfe, by (with_reducible repeat (first | apply Kd.R_alloc | apply Kd.R_drewN | apply Kd.R_drew)); exact Kd.R_mono (Kd.R_far (p := ⟨gb563, 1, none⟩) (Kd.R_far (p := ⟨gb563, 0, none⟩) (Kd.R_far (p := ⟨gb570, 1, none⟩) (Kd.R_types (Kd.R_types HO575.out BK570.out (by decide)) BK563.out (by decide)) (fun _ hk => hk.1.2) (.slice Ao54 y577.length co54)) (fun _ hk => hk.2) (.slice Ao49 y573.length co49)) (fun _ hk => hk.2) (.slice Ao54 y577.length co54)) (fun _ hk => trivial), by (with_reducible repeat (first | apply Kd.R_alloc | apply Kd.R_drewN | apply Kd.R_drew)); exact Kd.R_mono (Kd.R_far (p := ⟨gb563, 1, none⟩) (Kd.R_far (p := ⟨gb563, 0, none⟩) (Kd.R_far (p := ⟨gb570, 1, none⟩) (Kd.R_types (Kd.R_types HO579.out BK570.out (by decide)) BK563.out (by decide)) (fun _ hk => hk.1.2) (.slice Ao54 y577.length co54)) (fun _ hk => hk.2) (.slice Ao49 y573.length co49)) (fun _ hk => hk.2) (.slice Ao54 y577.length co54)) (fun _ hk => trivial), pkW HB.out⟩
                  · rw [if_neg c44] at H
                    exact absurd H (by simp)
                · rw [if_neg c43] at H
                  exact absurd H (by simp)
              · rw [if_neg c42] at H
                exact absurd H (by simp)
            · rw [if_neg c41] at H
              have c41b0 : decide (0 ≤ a1) = false := decide_eq_false c41
              clear c41
              by_cases c59 : t567.length < 140737488355328
              · rw [if_pos c59] at H
                have LMc59 := am c59
                clear c59
                obtain ⟨y580, hy580⟩ : ∃ y_ : List Bool, y_ = (t567 ++ [false]) := ⟨_, rfl⟩
                replace H : (some (y573, y580, (l0_0.length : Int), 0)) = some (r1, r2, r3, r4) := by first | (rw [hy580]; with_reducible exact H) | (have H2_ := (Option.bind_some _ _).symm.trans H; rw [hy580]; with_reducible exact H2_) | (have H2_ := (Option.bind_some _ _).symm.trans H; with_reducible exact H2_) | with_reducible exact H | (rw [hy580]; exact H) | exact H
                have Ny580 := am hy580
                clear hy580
                simp only [Option.some.injEq, Prod.mk.injEq] at H
                obtain ⟨rfl, rfl, rfl, rfl⟩ := H
                have hnb60 := NB570_562.out
                have hnc60 := NB562_570.out
                have hnb61 := NB570_563.out
                have hnc61 := NB563_570.out
                have hcz62_0 : wc.cell? ⟨gb570, 0, none⟩ = some (.slice Ao11 t564.length co11) := (blk_cell BK570.out 0).trans rfl
                have hcz62_1 : wc.cell? ⟨gb570, 1, none⟩ = some (.slice Ao15 t567.length co15) := (blk_cell BK570.out 1).trans rfl
                have hfz62_0 := blk_frozen BK570.out 0
                have hfz62_1 := blk_frozen BK570.out 1
                try go_wp2_with (first | ((with_reducible refine gate_builtin (b := .append) (xs := #[.tmp 31, .tmp 33]) rfl ?_); at_builtin; refine Kd.R_append (Kd.int .i64) (w0 := w) w.heap.size rfl (.tmp 31) (.tmp 33) 22 3 (.int .i64 0) 8 rfl Try.underlying22 info3 rfl (by decide) (by omega) (.slice Ao11 t564.length co11) t564 a1 [.int .i64 a1] (fun _ => True) (fun _ => False) rfl rfl ?aP (fun _ hk => hk.elim) ?aF ?aO ?aB ?aS ?aL ?_; (case aP => exact rfl); (case aB => exact (pkW HB.out)); (case aF => exact (fun _ _ => trivial)); (case aO => exact (pkR HO_571000.out)); (case aS => exact (below_size (pkW HB.out))); (case aL => have := LMc40.out; omega); intro v574 w63 ho hb hg hat; rw [← Ny573.out] at ho; have n0_ := am (Kd.R_over' (pkR HO_571001.out) (Kd.R_typed (pkR HO_571000.out)) (by decide) hg); have n1_ := am (blk_grown (g := gb562) (o := .cells #[.slice A0_0 l0_0.length c0_0, .slice A0_1 l0_1.length c0_1] 33 (0, 0)) (pkK BK562.out) hg (Kd.R_ne HO_571000.out BK562.out (by decide))); have n2_ := am (blk_grown (g := gb563) (o := .cells #[.slice none 0 0, .slice none 0 0] 33 (0, 0)) (pkK BK563.out) hg (Kd.R_ne HO_571000.out BK563.out (by decide))); have n3_ := am (blk_grown (g := gb570) (o := .cells #[.slice Ao11 t564.length co11, .slice Ao15 t567.length co15] 33 (0, 0)) (pkK BK570.out) hg (Kd.R_ne HO_571000.out BK570.out (by decide))); have n4_ := am (hb); have n5_ := am (ho); clear HO_571001 BK562 BK563 BK570 HB HO_571000; have HO_571001 := n0_; have BK562 := n1_; have BK563 := n2_; have BK570 := n3_; have HB := n4_; have HO575 := n5_; clear n0_ n1_ n2_ n3_ n4_ n5_; clear ho hb hg hat; obtain ⟨Ao64, co64, eo64⟩ := Kd.R_slice HO575.out; subst eo64; have hcz65_0 : w63.cell? ⟨gb570, 0, none⟩ = some (.slice Ao11 t564.length co11) := (blk_cell BK570.out 0).trans rfl; have hcz65_1 : w63.cell? ⟨gb570, 1, none⟩ = some (.slice Ao15 t567.length co15) := (blk_cell BK570.out 1).trans rfl; have hfz65_0 := blk_frozen BK570.out 0; have hfz65_1 := blk_frozen BK570.out 1))
                have n0_ : Aside0 (Kd.R Kd.bool 4 (w63.setCell ⟨gb570, 0, none⟩ (.slice Ao64 y573.length co64)) w.heap.size (fun _ => True) (.slice Ao15 t567.length co15) t567) := ⟨by (with_reducible repeat (first | apply Kd.R_alloc | apply Kd.R_drewN | apply Kd.R_drew)); exact Kd.R_mono (Kd.R_far (p := ⟨gb570, 0, none⟩) (Kd.R_types HO_571001.out BK570.out (by decide)) (fun _ hk => hk.2) (.slice Ao64 y573.length co64)) (fun _ hk => trivial)⟩
                have n1_ : Aside0 (Kd.R (Kd.int .i64) 3 (w63.setCell ⟨gb570, 0, none⟩ (.slice Ao64 y573.length co64)) w.heap.size (fun _ => True) (.slice Ao64 y573.length co64) y573) := ⟨by (with_reducible repeat (first | apply Kd.R_alloc | apply Kd.R_drewN | apply Kd.R_drew)); exact Kd.R_mono (Kd.R_far (p := ⟨gb570, 0, none⟩) (Kd.R_types HO575.out BK570.out (by decide)) (fun _ hk => hk.2) (.slice Ao64 y573.length co64)) (fun _ hk => trivial)⟩
                have n2_ : Aside0 ((w63.setCell ⟨gb570, 0, none⟩ (.slice Ao64 y573.length co64)).heap[gb562]? = some (.cells #[.slice A0_0 l0_0.length c0_0, .slice A0_1 l0_1.length c0_1] 33 (0, 0))) := ⟨by (with_reducible repeat (first | refine blk_drewN ?_ _ | refine blk_drew ?_ | refine blk_alloc ?_ _)); refine blk_far ?_ NB562_570.out _; exact pkK BK562.out⟩
                have n3_ : Aside0 ((w63.setCell ⟨gb570, 0, none⟩ (.slice Ao64 y573.length co64)).heap[gb563]? = some (.cells #[.slice none 0 0, .slice none 0 0] 33 (0, 0))) := ⟨by (with_reducible repeat (first | refine blk_drewN ?_ _ | refine blk_drew ?_ | refine blk_alloc ?_ _)); refine blk_far ?_ NB563_570.out _; exact pkK BK563.out⟩
                have n4_ : Aside0 ((w63.setCell ⟨gb570, 0, none⟩ (.slice Ao64 y573.length co64)).heap[gb570]? = some (.cells #[.slice Ao64 y573.length co64, .slice Ao15 t567.length co15] 33 (0, 0))) := ⟨by (with_reducible repeat (first | refine blk_drewN ?_ _ | refine blk_drew ?_ | refine blk_alloc ?_ _)); refine blk_put (cs := #[.slice Ao11 t564.length co11, .slice Ao15 t567.length co15]) ?_ 0 _ rfl; exact pkK BK570.out⟩
                have n5_ : Aside0 (Below w.heap.size w (w63.setCell ⟨gb570, 0, none⟩ (.slice Ao64 y573.length co64))) := ⟨pkW HB.out⟩
                (try clear HO_571001); (try clear HO575); (try clear BK562); (try clear BK563); (try clear BK570); (try clear HB)
                generalize (w63.setCell ⟨gb570, 0, none⟩ (.slice Ao64 y573.length co64)) = w66 at n0_ n1_ n2_ n3_ n4_ n5_ ⊢
                have HO_571001 := n0_; have HO575 := n1_; have BK562 := n2_; have BK563 := n3_; have BK570 := n4_; have HB := n5_
                clear n0_ n1_ n2_ n3_ n4_ n5_
                have n0_ := am (Kd.R_drew HO_571001.out)
                have n1_ := am (Kd.R_drew HO575.out)
                have n2_ := am (blk_drew BK562.out)
                have n3_ := am (blk_drew BK563.out)
                have n4_ := am (blk_drew BK570.out)
                have n5_ := am (below_drew1 HB.out)
                clear HO_571001 HO575 BK562 BK563 BK570 HB
                have HO_571001 := n0_; have HO575 := n1_; have BK562 := n2_; have BK563 := n3_; have BK570 := n4_; have HB := n5_
                clear n0_ n1_ n2_ n3_ n4_ n5_
                refine start_ (n := 15) (S := fun w' => w'.cell? ⟨gb570, 0, none⟩ = some (.slice Ao64 y573.length co64) ∧ w'.cell? ⟨gb570, 1, none⟩ = some (.slice Ao15 t567.length co15)) (ds := [14]) #[false, false, false, false, false, false, false, false, false, false, false, false, false, false, false] (by kernel_rfl) rfl rfl ⟨(blk_cell BK570.out 0).trans rfl, (blk_cell BK570.out 1).trans rfl⟩ (fun hHeld => ?_); refine with_tabW spec_NewToken.tab8 spec_NewToken.bits8 (fun HT_ HW_ => ?_)
                generalize w66.drew = w67 at HO_571001 HO575 BK562 BK563 BK570 HB hHeld ⊢
                refine pure_ (i := 0) (N := some 36) (v := ?_) (a' := ?_) #[true, false, false, false, false, false, false, false, false, false, false, false, false, false, false] rfl rfl (any_of HT_.out (by kernel_rfl)) (fun _ _ _ h => h) (Or.inl ⟨by rfl, ?_⟩) ?_ ?_
                rotate_left
                · intro w'
                  go_simp
                  with_reducible rfl
                rotate_left
                · simp only [Act.put, List.setIfInBounds_toArray, List.set_cons_zero, List.set_cons_succ, i64_w, i32_w]
                  rfl
                refine pure_ (i := 2) (N := some 38) (v := ?_) (a' := ?_) #[true, false, true, false, false, false, false, false, false, false, false, false, false, false, false] rfl rfl (any_of HT_.out (by kernel_rfl)) (fun _ _ _ h => h) (Or.inl ⟨by rfl, ?_⟩) ?_ ?_
                rotate_left
                · intro w'
                  go_simp
                  with_reducible rfl
                rotate_left
                · simp only [Act.put, List.setIfInBounds_toArray, List.set_cons_zero, List.set_cons_succ, i64_w, i32_w]
                  rfl
                refine pure_ (i := 3) (N := some 39) (v := ?_) (a' := ?_) #[true, false, true, true, false, false, false, false, false, false, false, false, false, false, false] rfl rfl (any_of HT_.out (by kernel_rfl)) (fun _ _ _ h => h) (Or.inl ⟨by rfl, ?_⟩) ?_ ?_
                rotate_left
                · intro w'
                  go_simp
                  with_reducible rfl
                rotate_left
                · simp only [Act.put, List.setIfInBounds_toArray, List.set_cons_zero, List.set_cons_succ, i64_w, i32_w]
                  rfl
                refine pure_ (i := 4) (N := some 40) (v := ?_) (a' := ?_) #[true, false, true, true, true, false, false, false, false, false, false, false, false, false, false] rfl rfl (any_of HT_.out (by kernel_rfl)) (fun _ _ _ h => h) (Or.inl ⟨by rfl, ?_⟩) ?_ ?_
                rotate_left
                · intro w'
                  go_simp
                  with_reducible rfl
                rotate_left
                · simp only [Act.put, List.setIfInBounds_toArray, List.set_cons_zero, List.set_cons_succ, i64_w, i32_w]
                  rfl
                refine pure_ (i := 5) (N := some 41) (v := undef) (a' := ?_) #[true, false, true, true, true, true, false, false, false, false, false, false, false, false, false] rfl rfl (any_of HT_.out (by kernel_rfl)) (fun _ _ _ h => h) (Or.inr ⟨by rfl, rfl⟩) ?_ ?_
                rotate_left
                · simp only [Act.put, List.setIfInBounds_toArray, List.set_cons_zero, List.set_cons_succ, i64_w, i32_w]
                  rfl
                refine pure_ (i := 6) (N := some 42) (v := undef) (a' := ?_) #[true, false, true, true, true, true, true, false, false, false, false, false, false, false, false] rfl rfl (any_of HT_.out (by kernel_rfl)) (fun _ _ _ h => h) (Or.inr ⟨by rfl, rfl⟩) ?_ ?_
                rotate_left
                · simp only [Act.put, List.setIfInBounds_toArray, List.set_cons_zero, List.set_cons_succ, i64_w, i32_w]
                  rfl
                refine pure_ (i := 7) (N := some 43) (v := undef) (a' := ?_) #[true, false, true, true, true, true, true, true, false, false, false, false, false, false, false] rfl rfl (any_of HT_.out (by kernel_rfl)) (fun _ _ _ h => h) (Or.inr ⟨by rfl, rfl⟩) ?_ ?_
                rotate_left
                · simp only [Act.put, List.setIfInBounds_toArray, List.set_cons_zero, List.set_cons_succ, i64_w, i32_w]
                  rfl
                refine pure_ (i := 8) (N := some 44) (v := undef) (a' := ?_) #[true, false, true, true, true, true, true, true, true, false, false, false, false, false, false] rfl rfl (any_of HT_.out (by kernel_rfl)) (fun _ _ _ h => h) (Or.inr ⟨by rfl, rfl⟩) ?_ ?_
                rotate_left
                · simp only [Act.put, List.setIfInBounds_toArray, List.set_cons_zero, List.set_cons_succ, i64_w, i32_w]
                  rfl
                refine pure_ (i := 9) (N := some 45) (v := undef) (a' := ?_) #[true, false, true, true, true, true, true, true, true, true, false, false, false, false, false] rfl rfl (any_of HT_.out (by kernel_rfl)) (fun _ _ _ h => h) (Or.inr ⟨by rfl, rfl⟩) ?_ ?_
                rotate_left
                · simp only [Act.put, List.setIfInBounds_toArray, List.set_cons_zero, List.set_cons_succ, i64_w, i32_w]
                  rfl
                refine pure_ (i := 10) (N := some 46) (v := ?_) (a' := ?_) #[true, false, true, true, true, true, true, true, true, true, true, false, false, false, false] rfl rfl (any_of HT_.out (by kernel_rfl)) (fun _ _ _ h => h) (Or.inl ⟨by rfl, ?_⟩) ?_ ?_
                rotate_left
                · intro w'
                  go_simp
                  with_reducible rfl
                rotate_left
                · simp only [Act.put, List.setIfInBounds_toArray, List.set_cons_zero, List.set_cons_succ, i64_w, i32_w]
                  rfl
                refine take_ (i := 1) (N := some 37) (v := ?_) (a' := ?_) #[true, true, true, true, true, true, true, true, true, true, true, false, false, false, false] rfl rfl (take_ofW HT_.out HW_.out (by kernel_rfl)) (fun _ _ _ h => h) (Or.inl ⟨by rfl, ?_⟩) hHeld ?_ ?_
                rotate_left
                · rintro w' ⟨s0, s1⟩
                  go_simp
                  with_reducible rfl
                rotate_left
                · simp only [Act.put, List.setIfInBounds_toArray, List.set_cons_zero, List.set_cons_succ, i64_w, i32_w]
                  rfl
                refine one_ (i := 11) (N := some 47) #[true, true, true, true, true, true, true, true, true, true, true, true, false, false, false] rfl rfl (one_of HT_.out (by kernel_rfl)) (by decide) (fun K hK => ?_)
                refine value_ (w1 := ?_) (v := ?_) (by rfl) rfl ?_ ?_
                rotate_left 2
                · go_simp
                  constructor
                  · rfl
                  · rfl
                refine hK.out _ _ ⟨(blk_cell (blk_alloc BK570.out _) 0).trans rfl, (blk_cell (blk_alloc BK570.out _) 1).trans rfl⟩ (fun hHeld => ?_)
                clear hK K
                refine norm_ (a' := ?_) ?_ ?_
                rotate_left
                · show Act.put _ (some 47) _ = _
                  simp only [Act.put, List.setIfInBounds_toArray, List.set_cons_zero, List.set_cons_succ, i64_w, i32_w]
                  rfl
                refine one_ (i := 12) (N := some 48) #[true, true, true, true, true, true, true, true, true, true, true, true, true, false, false] rfl rfl (one_of HT_.out (by kernel_rfl)) (by decide) (fun K hK => ?_)
                refine Kd.R_append_step Kd.bool (w0 := w) w.heap.size (by rfl) (.tmp 37) (.tmp 47) 28 4 (.bool false) 1 rfl Try.underlying28 info4 rfl (by decide) (by omega) (.slice Ao15 t567.length co15) t567 false [.bool false] (fun _ => True) (fun _ => False) rfl rfl ?aP (fun _ hk => hk.elim) ?aF ?aO ?aB ?aS ?aL ?_
                (case aP => exact rfl)
                (case aB => exact (pkW HB.out))
                (case aF => exact (fun _ _ => trivial))
                (case aO => exact (pkR HO_571001.out))
                (case aS => exact (below_size (pkW HB.out)))
                (case aL => have := LMc59.out; omega)
                intro v581 w68 ho hb hg hat
                rw [← Ny580.out] at ho
                have n0_ := am (blk_grown (g := gb562) (o := .cells #[.slice A0_0 l0_0.length c0_0, .slice A0_1 l0_1.length c0_1] 33 (0, 0)) (pkK BK562.out) hg (Kd.R_ne HO_571001.out BK562.out (by decide)))
                have n1_ := am (blk_grown (g := gb563) (o := .cells #[.slice none 0 0, .slice none 0 0] 33 (0, 0)) (pkK BK563.out) hg (Kd.R_ne HO_571001.out BK563.out (by decide)))
                have n2_ := am (blk_grown (g := gb570) (o := .cells #[.slice Ao64 y573.length co64, .slice Ao15 t567.length co15] 33 (0, 0)) (pkK BK570.out) hg (Kd.R_ne HO_571001.out BK570.out (by decide)))
                have n3_ := am (Kd.R_over' (pkR HO575.out) (Kd.R_typed (pkR HO_571001.out)) (by decide) hg)
                have n4_ := am (hb)
                have n5_ := am (ho)
                clear BK562 BK563 BK570 HO575 HB HO_571001
                have BK562 := n0_; have BK563 := n1_; have BK570 := n2_; have HO575 := n3_; have HB := n4_; have HO582 := n5_
                clear n0_ n1_ n2_ n3_ n4_ n5_ ho hb hg hat
                obtain ⟨Ao69, co69, eo69⟩ := Kd.R_slice HO582.out
                (first | subst eo69 | (injection eo69 with f1_ f2_ f3_; have f4_ := f1_.symm; have f5_ := f3_.symm; clear f1_ f2_ f3_; subst f4_; subst f5_))
                refine hK.out _ _ ⟨(blk_cell BK570.out 0).trans rfl, (blk_cell BK570.out 1).trans rfl⟩ (fun hHeld => ?_)
                clear hK K
                refine norm_ (a' := ?_) ?_ ?_
                rotate_left
                · show Act.put _ (some 48) _ = _
                  simp only [Act.put, List.setIfInBounds_toArray, List.set_cons_zero, List.set_cons_succ, i64_w, i32_w]
                  rfl
                refine pure_ (i := 13) (N := some 49) (v := ?_) (a' := ?_) #[true, true, true, true, true, true, true, true, true, true, true, true, true, true, false] rfl rfl (any_of HT_.out (by kernel_rfl)) (fun _ _ _ h => h) (Or.inl ⟨by rfl, ?_⟩) ?_ ?_
                rotate_left
                · intro w'
                  go_simp
                  with_reducible rfl
                rotate_left
                · simp only [Act.put, List.setIfInBounds_toArray, List.set_cons_zero, List.set_cons_succ, i64_w, i32_w]
                  rfl
                refine last_ (i := 14) (N := none) #[true, true, true, true, true, true, true, true, true, true, true, true, true, true, true] rfl rfl (one_of HT_.out (by kernel_rfl)) (by decide) (fun K hK => ?_)
                have hs70 : w68.cell? ⟨gb570, 1, none⟩ = some (.slice Ao15 t567.length co15) := (blk_cell BK570.out 1).trans rfl
                have hfs70 := blk_frozen BK570.out 1
                have hns70_0 := NB562_570.out
                have hns70_1 := NB563_570.out
                have hms70_0 := NB570_562.out
                have hms70_1 := NB570_563.out
                refine skip_ (w1 := ?_) (by rfl) rfl ?_ ?_
                rotate_left
                · go_simp
                  rfl
                refine hK.out _ _ ?_
                clear hK K
                refine done_ (done_of HT_.out (by kernel_rfl)) ?_
                have hcz71_0 : w68.cell? ⟨gb570, 0, none⟩ = some (.slice Ao64 y573.length co64) := (blk_cell BK570.out 0).trans rfl
                have hcz71_1 : w68.cell? ⟨gb570, 1, none⟩ = some (.slice Ao15 t567.length co15) := (blk_cell BK570.out 1).trans rfl
                have hfz71_0 := blk_frozen BK570.out 0
                have hfz71_1 := blk_frozen BK570.out 1
                have hnb72 := NB563_562.out
                have hnc72 := NB562_563.out
                have hcz73_0 : w68.cell? ⟨gb563, 0, none⟩ = some (.slice none 0 0) := (blk_cell BK563.out 0).trans rfl
                have hcz73_1 : w68.cell? ⟨gb563, 1, none⟩ = some (.slice none 0 0) := (blk_cell BK563.out 1).trans rfl
                have hfz73_0 := blk_frozen BK563.out 0
                have hfz73_1 := blk_frozen BK563.out 1
                try go_wp2
                refine bodyPost_ret (results_ctt rfl _ _ gb563 33 #[.slice Ao64 y573.length co64, .slice Ao69 y580.length co69] (0, 0) _ rfl (by (with_reducible repeat (first | refine blk_drewN ?_ _ | refine blk_drew ?_ | refine blk_alloc ?_ _)); refine blk_put (cs := #[.slice Ao64 y573.length co64, .slice none 0 0]) ?_ 1 _ rfl; (with_reducible repeat (first | refine blk_drewN ?_ _ | refine blk_drew ?_ | refine blk_alloc ?_ _)); refine blk_put (cs := #[.slice none 0 0, .slice none 0 0]) ?_ 0 _ rfl; (with_reducible repeat (first | refine blk_drewN ?_ _ | refine blk_drew ?_ | refine blk_alloc ?_ _)); refine blk_far ?_ NB563_570.out _; exact pkK BK563.out) Try.underlying33 rfl (by kernel_rfl)) rfl ?_
                exact ⟨_, _, rfe, by (with_reducible repeat (first | apply Kd.R_alloc | apply Kd.R_drewN | apply Kd.R_drew)); exact Kd.R_mono (Kd.R_far (p := ⟨gb563, 1, none⟩) (Kd.R_far (p := ⟨gb563, 0, none⟩) (Kd.R_far (p := ⟨gb570, 1, none⟩) (Kd.R_types (Kd.R_types HO575.out BK570.out (by decide)) BK563.out (by decide)) (fun _ hk => hk.1.2) (.slice Ao69 y580.length co69)) (fun _ hk => hk.2) (.slice Ao64 y573.length co64)) (fun _ hk => hk.2) (.slice Ao69 y580.length co69)) (fun _ hk => trivial), by (with_reducible repeat (first | apply Kd.R_alloc | apply Kd.R_drewN | apply Kd.R_drew)); exact Kd.R_mono (Kd.R_far (p := ⟨gb563, 1, none⟩) (Kd.R_far (p := ⟨gb563, 0, none⟩) (Kd.R_far (p := ⟨gb570, 1, none⟩) (Kd.R_types (Kd.R_types HO582.out BK570.out (by decide)) BK563.out (by decide)) (fun _ hk => hk.1.2) (.slice Ao69 y580.length co69)) (fun _ hk => hk.2) (.slice Ao64 y573.length co64)) (fun _ hk => hk.2) (.slice Ao69 y580.length co69)) (fun _ hk => trivial), pkW HB.out⟩
              · rw [if_neg c59] at H
                exact absurd H (by simp)
          · rw [if_neg c40] at H
            exact absurd H (by simp)
end Go.Proofs.Ytghmhekjdjdleaa.Z
