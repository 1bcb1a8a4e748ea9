/- The Go functions spec_DrawCancel as Lean functions, each with a proof that its code comes to just these answers; conditions: those of each theorem. -/
import Derived.Test.YtghmhekjdjdleaaZx0
import Derived.Test.YtghmhekjdjdleaaZx33
import Derived.Test.YtghmhekjdjdleaaZx34
import Derived.Test.YtghmhekjdjdleaaZx42
namespace Go.Proofs.Ytghmhekjdjdleaa.Z
open Go.RowKit Go.Proofs.YtghmhekjdjdleaaW.PrintWords Go.Proofs.YtghmhekjdjdleaaW.PrintLast Go.Proofs.YtghmhekjdjdleaaW.PrintMore
attribute [local go_sem] max2_int min2_int max_two min_two max_three min_three max_four min_four   -- for this text's walks alone
set_option linter.unusedVariables false
set_option linter.unusedSimpArgs false
def spec_DrawCancel.f (k : Nat) (l0 : List Int) : Option (List Int × List Bool × Int) := (spec_l1New.f k l0).bind fun bt1039 => ((spec_l3Some.f k bt1039.1 bt1039.2.1 bt1039.2.2).bind fun bt1043 => ((spec_l1Below.f bt1039.1 bt1043.2.2.1 bt1043.2.2.2 (wrap64 ((bt1043.1.length : Int) + 2))).bind fun bt1052 => (some (bt1043.1, bt1043.2.1, wrap64 (bt1052.1 - 1)))))
theorem spec_DrawCancel.mono : ∀ a0 k, LeO (spec_DrawCancel.f k a0) (spec_DrawCancel.f (k + 1) a0) := by
  intro a0 k
  unfold spec_DrawCancel.f
  repeat' first
      | (with_reducible exact spec_l1New.mono _ _)
      | (with_reducible exact spec_l3Some.mono _ _ _ _)
      | (with_reducible exact LeO.refl _)
      | (with_reducible exact LeO.none _)
      | (with_reducible refine LeO.ite ?_ ?_)
      | (with_reducible refine LeO.bind ?_ (fun _ => ?_))
def spec_DrawCancel.T3 : Bool × List (List Nat × List Nat) := (true, [([], []), ([], []), ([], []), ([2], [2]), ([3], [3]), ([4], [4]), ([1, 5], [1, 5]), ([6], [6]), ([0, 6, 0], [0]), ([7, 8, 0, 1, 2, 3, 4, 5, 6, 7, 8], [7])])
def spec_DrawCancel.B3 : List Nat := [0, 0, 0, 4, 12, 28, 62, 126, 127, 511]
theorem spec_DrawCancel.tab3 : rtab .any (opsOf Try.f48 3) = spec_DrawCancel.T3 := by kernel_rfl
theorem spec_DrawCancel.bits3 : waitsOk spec_DrawCancel.T3.2 spec_DrawCancel.B3 = true := by kernel_rfl
set_option maxHeartbeats 8000000 in
set_option maxRecDepth 100000 in
theorem spec_DrawCancel.calls (k : Nat) (A0 : Option Addr) (c0 : Nat) (l0 : List Int) (r1 : List Int) (r2 : List Bool) (r3 : Int) (w : World) (hr0 : Kd.C (Kd.int .u8) w A0 l0.length l0) (hc0 : l0.length ≤ c0) (h : spec_DrawCancel.f k l0 = some (r1, r2, r3)) :
    Calls Try.prog 48 #[.slice A0 l0.length c0] w fun e w' => ∃ v0_ v1_ : Value, e = .returned (.tuple #[.agg #[v0_, v1_], .int .i64 r3]) ∧ Kd.R (Kd.int .i64) 3 w' w.heap.size (fun _ => True) v0_ r1 ∧ Kd.Q Kd.bool 4 w' w.heap.size (fun _ => True) v1_ r2 ∧ Below w.heap.size w w' := by
  have hu33 := Try.underlying33
  have HR0 := am hr0
  have HC0 := am hc0
  clear hr0 hc0
  have HB := am (Below.refl w.heap.size w)
  have H : ((spec_l1New.f k l0).bind fun bt1039 => ((spec_l3Some.f k bt1039.1 bt1039.2.1 bt1039.2.2).bind fun bt1043 => ((spec_l1Below.f bt1039.1 bt1043.2.2.1 bt1043.2.2.2 (wrap64 ((bt1043.1.length : Int) + 2))).bind fun bt1052 => (some (bt1043.1, bt1043.2.1, wrap64 (bt1052.1 - 1)))))) = some (r1, r2, r3) := h
  clear h
  replace H := Option.bind_eq_some_iff.mp H
  obtain ⟨⟨t1039, t1040, t1041⟩, A20, H⟩ := H
  replace H : ((spec_l3Some.f k t1039 t1040 t1041).bind fun bt1043 => ((spec_l1Below.f t1039 bt1043.2.2.1 bt1043.2.2.2 (wrap64 ((bt1043.1.length : Int) + 2))).bind fun bt1052 => (some (bt1043.1, bt1043.2.1, wrap64 (bt1052.1 - 1))))) = some (r1, r2, r3) := H
  have A2 := am A20
  clear A20
  replace H := Option.bind_eq_some_iff.mp H
  obtain ⟨⟨t1043, t1046, t1049, t1050⟩, A30, H⟩ := H
  replace H : ((spec_l1Below.f t1039 t1049 t1050 (wrap64 ((t1043.length : Int) + 2))).bind fun bt1052 => (some (t1043, t1046, wrap64 (bt1052.1 - 1)))) = some (r1, r2, r3) := H
  have A3 := am A30
  clear A30
  replace H := Option.bind_eq_some_iff.mp H
  obtain ⟨⟨t1052, t1053, t1054⟩, A40, H⟩ := H
  replace H : (some (t1043, t1046, wrap64 (t1052 - 1))) = some (r1, r2, r3) := H
  have A4 := am A40
  clear A40
  simp only [Option.some.injEq, Prod.mk.injEq] at H
  obtain ⟨rfl, rfl, rfl⟩ := H
  go_enter Try.func48, Try.ntmps48
  try go_wp2_with (first | ((with_reducible refine gate_dst (N := 2) rfl ?_); refine box_event ?hg (N := 2) ?hd (cs := #[.slice none 0 0, .slice none 0 0]) (t := 33) ?hr ?_; (case hd => rfl); (case hg => rfl); (case hr => first | (go_simp; done) | (go_simp; rfl)); intro gb1038 hg w5 hbox hb; have n0_ := am (below_step (pkB HB.out) hb); have n1_ := am (hbox); have n2_ := am ((by rw [hg]; exact (below_size (pkB HB.out)) : w.heap.size ≤ gb1038)); have n3_ := am ((by rw [hg]; exact (below_size (pkB HB.out)) : w.heap.size ≤ gb1038)); clear HB; have HB := n0_; have BK1038 := n1_; have GW1038 := n2_; have GE1038 := n3_; clear n0_ n1_ n2_ n3_; clear hb hbox hg) | ((with_reducible refine gate_callee (f := 73) rfl ?_); refine goesL_ (some 7) rfl rfl Try.func73 (by kernel_rfl) rfl #[.slice A0 l0.length c0] rfl mpx ?_; (with_reducible refine (spec_l1New.calls k _ _ l0 t1039 t1040 t1041 w _ ?side1 ?side2 ?side3 A2.out).mono ?_); (case side1 => repeat (first | (with_reducible first | exact HB.out | apply below_alloc | apply pw_below_drewN | apply below_drew1 | refine below_set ?_ GE1038.out) | exact HB.out)); (case side2 => exact HR0.out); (case side3 => exact HC0.out); rintro e w6 ⟨g1042, rfl, hi, hb, hb2⟩; refine ⟨_, rfl, ?_⟩; have n0_ := am (blk_below (pkK BK1038.out) hb2); have n1_ := am (hb); have n2_ := am (hi); have n3_ := am (IsS70.ne_blk hi (blk_below (pkK BK1038.out) hb2) (by decide)); have n4_ := am (Ne.symm (IsS70.ne_blk hi (blk_below (pkK BK1038.out) hb2) (by decide))); clear BK1038 HB; have BK1038 := n0_; have HB := n1_; have HI1042 := n2_; have NB1042_1038 := n3_; have NB1038_1042 := n4_; clear n0_ n1_ n2_ n3_ n4_; (try clear hb); (try clear hb2); (try clear hk); (try clear hi)) | ((with_reducible refine gate_callee (f := 76) rfl ?_); refine goesL_ (some 9) rfl rfl Try.func76 (by kernel_rfl) rfl #[.pointer (some ⟨g1042, 0, none⟩)] rfl mpx ?_; (with_reducible refine (spec_l3Some.calls k g1042 t1039 t1040 t1041 t1043 t1046 t1049 t1050 w _ ?side1 ?side2 A3.out).mono ?_); (case side1 => repeat (first | (with_reducible first | exact HI1042.out | apply IsS70.alloc | apply IsS70.drewN | apply IsS70.drew | apply IsS70.set_1 | apply IsS70.set_2 | refine IsS70.far ?_ NB1042_1038.out _) | exact HI1042.out)); (case side2 => repeat (first | (with_reducible first | exact HB.out | apply below_alloc | apply pw_below_drewN | apply below_drew1 | refine below_set ?_ (IsS70.ge HI1042.out) | refine below_set ?_ GE1038.out) | exact HB.out)); rintro e w7 ⟨v1044, v1047, rfl, ho0, ho1, hi, hb, hk⟩; refine ⟨_, rfl, ?_⟩; have n0_ := am (KeepBut.blk hk (g' := gb1038) (o := .cells #[.slice none 0 0, .slice none 0 0] 33 (0, 0)) (pkK BK1038.out) NB1038_1042.out (by simp)); have n1_ := am (Kd.R_lower ho0 (below_size (by repeat (first | (with_reducible first | exact HB.out | apply below_alloc | apply pw_below_drewN | apply below_drew1 | refine below_set ?_ (IsS70.ge HI1042.out) | refine below_set ?_ GE1038.out) | exact HB.out)))); have n2_ := am (Kd.Q_lower ho1 (below_size (by repeat (first | (with_reducible first | exact HB.out | apply below_alloc | apply pw_below_drewN | apply below_drew1 | refine below_set ?_ (IsS70.ge HI1042.out) | refine below_set ?_ GE1038.out) | exact HB.out)))); have n3_ := am (hb); have n4_ := am (hi); clear BK1038 HB HI1042; have BK1038 := n0_; have HO1045 := n1_; have HO1048 := n2_; have HB := n3_; have HI1042 := n4_; clear n0_ n1_ n2_ n3_ n4_; (try clear hb); (try clear hb2); (try clear hk); (try clear hi); (try clear ho0); (try clear ho1)) | ((with_reducible refine gate_dst (N := 5) rfl ?_); refine box_event ?hg (N := 5) ?hd (cs := #[.slice none 0 0, .slice none 0 0]) (t := 33) ?hr ?_; (case hd => rfl); (case hg => rfl); (case hr => first | (go_simp; done) | (go_simp; rfl)); intro gb1051 hg w8 hbox hb; have n0_ := am (Kd.R_below (pkR HO1045.out) hb); have n1_ := am (Kd.Q_below (pkQ HO1048.out) hb); have n2_ := am (blk_below (pkK BK1038.out) hb); have n3_ := am (IsS70.below (IsS70.pk HI1042.out) hb); have n4_ := am (below_step (by repeat (first | (with_reducible first | exact HB.out | apply below_alloc | apply pw_below_drewN | apply below_drew1 | refine below_set ?_ (IsS70.ge HI1042.out) | refine below_set ?_ GE1038.out) | exact HB.out)) hb); have n5_ := am (hbox); have n6_ := am ((by rw [hg]; exact (below_size (by repeat (first | (with_reducible first | exact HB.out | apply below_alloc | apply pw_below_drewN | apply below_drew1 | refine below_set ?_ (IsS70.ge HI1042.out) | refine below_set ?_ GE1038.out) | exact HB.out))) : w.heap.size ≤ gb1051)); have n7_ := am ((by rw [hg]; exact (below_size (by repeat (first | (with_reducible first | exact HB.out | apply below_alloc | apply pw_below_drewN | apply below_drew1 | refine below_set ?_ (IsS70.ge HI1042.out) | refine below_set ?_ GE1038.out) | exact HB.out))) : w.heap.size ≤ gb1051)); have n8_ := am ((by rw [hg]; exact Nat.ne_of_lt (blk_lt (g := gb1038) (o := .cells #[.slice none 0 0, .slice none 0 0] 33 (0, 0)) (pkK BK1038.out)) : gb1038 ≠ gb1051)); have n9_ := am ((by rw [hg]; exact Nat.ne_of_gt (blk_lt (g := gb1038) (o := .cells #[.slice none 0 0, .slice none 0 0] 33 (0, 0)) (pkK BK1038.out)) : gb1051 ≠ gb1038)); have n10_ := am ((by rw [hg]; exact Nat.ne_of_lt (IsS70.lt (show IsS70 w _ g1042 t1039 t1049 t1050 from IsS70.pk HI1042.out)) : g1042 ≠ gb1051)); have n11_ := am ((by rw [hg]; exact Nat.ne_of_gt (IsS70.lt (show IsS70 w _ g1042 t1039 t1049 t1050 from IsS70.pk HI1042.out)) : gb1051 ≠ g1042)); clear HO1045 HO1048 BK1038 HI1042 HB; have HO1045 := n0_; have HO1048 := n1_; have BK1038 := n2_; have HI1042 := n3_; have HB := n4_; have BK1051 := n5_; have GW1051 := n6_; have GE1051 := n7_; have NB1038_1051 := n8_; have NB1051_1038 := n9_; have NB1042_1051 := n10_; have NB1051_1042 := n11_; clear n0_ n1_ n2_ n3_ n4_ n5_ n6_ n7_ n8_ n9_ n10_ n11_; clear hb hbox hg; obtain ⟨Ao9, co9, eo9⟩ := Kd.R_slice HO1045.out; subst eo9; have hnb10 := NB1051_1038.out; have hnc10 := NB1038_1051.out; have hnb11 := NB1051_1042.out; have hnc11 := NB1042_1051.out; have hcz12_0 : w8.cell? ⟨gb1051, 0, none⟩ = some (.slice none 0 0) := (blk_cell BK1051.out 0).trans rfl; have hcz12_1 : w8.cell? ⟨gb1051, 1, none⟩ = some (.slice none 0 0) := (blk_cell BK1051.out 1).trans rfl; have hfz12_0 := blk_frozen BK1051.out 0; have hfz12_1 := blk_frozen BK1051.out 1; obtain ⟨Ao13, co13, eo13, _⟩ := Kd.Q_slice HO1048.out; subst eo13))
  have n0_ : Aside0 (Kd.R (Kd.int .i64) 3 ((w8.setCell ⟨gb1051, 0, none⟩ (.slice Ao9 t1043.length co9)).setCell ⟨gb1051, 1, none⟩ (.slice Ao13 t1046.length co13)) w.heap.size (fun _ => True) (.slice Ao9 t1043.length co9) t1043) := ⟨by (with_reducible repeat (first | apply Kd.R_alloc | apply Kd.R_drewN | apply Kd.R_drew)); exact Kd.R_mono (Kd.R_far (p := ⟨gb1051, 1, none⟩) (Kd.R_far (p := ⟨gb1051, 0, none⟩) (Kd.R_types HO1045.out BK1051.out (by decide)) (fun _ hk => hk.2) (.slice Ao9 t1043.length co9)) (fun _ hk => hk.2) (.slice Ao13 t1046.length co13)) (fun _ hk => trivial)⟩
  have n1_ : Aside0 (Kd.Q Kd.bool 4 ((w8.setCell ⟨gb1051, 0, none⟩ (.slice Ao9 t1043.length co9)).setCell ⟨gb1051, 1, none⟩ (.slice Ao13 t1046.length co13)) w.heap.size (fun _ => True) (.slice Ao13 t1046.length co13) t1046) := ⟨by (with_reducible repeat (first | apply Kd.Q_alloc | apply Kd.Q_drewN | apply Kd.Q_drew)); exact Kd.Q_mono (Kd.Q_far (p := ⟨gb1051, 1, none⟩) (Kd.Q_far (p := ⟨gb1051, 0, none⟩) (Kd.Q_types HO1048.out BK1051.out (by decide)) (fun _ hk => hk.2) (.slice Ao9 t1043.length co9)) (fun _ hk => hk.2) (.slice Ao13 t1046.length co13)) (fun _ hk => trivial)⟩
  have n2_ : Aside0 (((w8.setCell ⟨gb1051, 0, none⟩ (.slice Ao9 t1043.length co9)).setCell ⟨gb1051, 1, none⟩ (.slice Ao13 t1046.length co13)).heap[gb1038]? = some (.cells #[.slice none 0 0, .slice none 0 0] 33 (0, 0))) := ⟨by (with_reducible repeat (first | refine blk_drewN ?_ _ | refine blk_drew ?_ | refine blk_alloc ?_ _)); refine blk_far ?_ NB1038_1051.out _; (with_reducible repeat (first | refine blk_drewN ?_ _ | refine blk_drew ?_ | refine blk_alloc ?_ _)); refine blk_far ?_ NB1038_1051.out _; exact pkK BK1038.out⟩
  have n3_ : Aside0 (((w8.setCell ⟨gb1051, 0, none⟩ (.slice Ao9 t1043.length co9)).setCell ⟨gb1051, 1, none⟩ (.slice Ao13 t1046.length co13)).heap[gb1051]? = some (.cells #[.slice Ao9 t1043.length co9, .slice Ao13 t1046.length co13] 33 (0, 0))) := ⟨by (with_reducible repeat (first | refine blk_drewN ?_ _ | refine blk_drew ?_ | refine blk_alloc ?_ _)); refine blk_put (cs := #[.slice Ao9 t1043.length co9, .slice none 0 0]) ?_ 1 _ rfl; (with_reducible repeat (first | refine blk_drewN ?_ _ | refine blk_drew ?_ | refine blk_alloc ?_ _)); refine blk_put (cs := #[.slice none 0 0, .slice none 0 0]) ?_ 0 _ rfl; exact pkK BK1051.out⟩
  have n4_ : Aside0 (IsS70 w ((w8.setCell ⟨gb1051, 0, none⟩ (.slice Ao9 t1043.length co9)).setCell ⟨gb1051, 1, none⟩ (.slice Ao13 t1046.length co13)) g1042 t1039 t1049 t1050) := ⟨by repeat (first | (with_reducible first | exact HI1042.out | apply IsS70.alloc | apply IsS70.drewN | apply IsS70.drew | apply IsS70.set_1 | apply IsS70.set_2 | refine IsS70.far ?_ NB1042_1038.out _ | refine IsS70.far ?_ NB1042_1051.out _) | exact HI1042.out)⟩
  have n5_ : Aside0 (Below w.heap.size w ((w8.setCell ⟨gb1051, 0, none⟩ (.slice Ao9 t1043.length co9)).setCell ⟨gb1051, 1, none⟩ (.slice Ao13 t1046.length co13))) := ⟨by repeat (first | (with_reducible first | exact HB.out | apply below_alloc | apply pw_below_drewN | apply below_drew1 | refine below_set ?_ (IsS70.ge HI1042.out) | refine below_set ?_ GE1038.out | refine below_set ?_ GE1051.out) | exact HB.out)⟩
  (try clear HO1045); (try clear HO1048); (try clear BK1038); (try clear BK1051); (try clear HI1042); (try clear HB)
  generalize ((w8.setCell ⟨gb1051, 0, none⟩ (.slice Ao9 t1043.length co9)).setCell ⟨gb1051, 1, none⟩ (.slice Ao13 t1046.length co13)) = w14 at n0_ n1_ n2_ n3_ n4_ n5_ ⊢
  have HO1045 := n0_; have HO1048 := n1_; have BK1038 := n2_; have BK1051 := n3_; have HI1042 := n4_; have HB := n5_
  clear n0_ n1_ n2_ n3_ n4_ n5_
  have n0_ := am (Kd.R_drew HO1045.out)
  have n1_ := am (Kd.Q_drew HO1048.out)
  have n2_ := am (blk_drew BK1038.out)
  have n3_ := am (blk_drew BK1051.out)
  have n4_ := am (IsS70.drew HI1042.out)
  have n5_ := am (below_drew1 HB.out)
  clear HO1045 HO1048 BK1038 BK1051 HI1042 HB
  have HO1045 := n0_; have HO1048 := n1_; have BK1038 := n2_; have BK1051 := n3_; have HI1042 := n4_; have HB := n5_
  clear n0_ n1_ n2_ n3_ n4_ n5_
  refine start_ (n := 10) (S := fun w' => w'.cell? ⟨gb1051, 0, none⟩ = some (.slice Ao9 t1043.length co9) ∧ w'.cell? ⟨gb1051, 1, none⟩ = some (.slice Ao13 t1046.length co13)) (ds := []) #[false, false, false, false, false, false, false, false, false, false] (by kernel_rfl) rfl rfl ⟨(blk_cell BK1051.out 0).trans rfl, (blk_cell BK1051.out 1).trans rfl⟩ (fun hHeld => ?_); refine with_tabW spec_DrawCancel.tab3 spec_DrawCancel.bits3 (fun HT_ HW_ => ?_)
  generalize w14.drew = w15 at HO1045 HO1048 BK1038 BK1051 HI1042 HB hHeld ⊢
  refine pure_ (i := 1) (N := some 11) (v := ?_) (a' := ?_) #[false, true, false, false, false, false, false, false, false, false] rfl rfl (any_of HT_.out (by kernel_rfl)) (fun _ _ _ h => h) (Or.inl ⟨by rfl, ?_⟩) ?_ ?_
  rotate_left
  · intro w'
    go_simp
    with_reducible rfl
  rotate_left
  · simp only [Act.put, List.setIfInBounds_toArray, List.set_cons_zero, List.set_cons_succ, i64_w, i32_w]
    rfl
  refine pure_ (i := 2) (N := some 12) (v := ?_) (a' := ?_) #[false, true, true, false, false, false, false, false, false, false] rfl rfl (any_of HT_.out (by kernel_rfl)) (fun _ _ _ h => h) (Or.inl ⟨by rfl, ?_⟩) ?_ ?_
  rotate_left
  · intro w'
    go_simp
    with_reducible rfl
  rotate_left
  · simp only [Act.put, List.setIfInBounds_toArray, List.set_cons_zero, List.set_cons_succ, i64_w, i32_w]
    rfl
  refine take_ (i := 0) (N := some 10) (v := ?_) (a' := ?_) #[true, true, true, false, false, false, false, false, false, false] rfl rfl (take_ofW HT_.out HW_.out (by kernel_rfl)) (fun _ _ _ h => h) (Or.inl ⟨by rfl, ?_⟩) hHeld ?_ ?_
  rotate_left
  · rintro w' ⟨s0, s1⟩
    go_simp
    with_reducible rfl
  rotate_left
  · simp only [Act.put, List.setIfInBounds_toArray, List.set_cons_zero, List.set_cons_succ, i64_w, i32_w]
    rfl
  refine take_ (i := 3) (N := some 13) (v := ?_) (a' := ?_) #[true, true, true, true, false, false, false, false, false, false] rfl rfl (take_ofW HT_.out HW_.out (by kernel_rfl)) (fun _ _ _ h => h) (Or.inl ⟨by rfl, ?_⟩) hHeld ?_ ?_
  rotate_left
  · rintro w' ⟨s0, s1⟩
    go_simp
    with_reducible rfl
  rotate_left
  · simp only [Act.put, List.setIfInBounds_toArray, List.set_cons_zero, List.set_cons_succ, i64_w, i32_w]
    rfl
  refine pure_ (i := 4) (N := some 14) (v := ?_) (a' := ?_) #[true, true, true, true, true, false, false, false, false, false] rfl rfl (any_of HT_.out (by kernel_rfl)) (fun _ _ _ h => h) (Or.inl ⟨by rfl, ?_⟩) ?_ ?_
  rotate_left
  · intro w'
    go_simp
    with_reducible rfl
  rotate_left
  · simp only [Act.put, List.setIfInBounds_toArray, List.set_cons_zero, List.set_cons_succ, i64_w, i32_w]
    rfl
  refine pure_ (i := 5) (N := some 15) (v := ?_) (a' := ?_) #[true, true, true, true, true, true, false, false, false, false] rfl rfl (any_of HT_.out (by kernel_rfl)) (fun _ _ _ h => h) (Or.inl ⟨by rfl, ?_⟩) ?_ ?_
  rotate_left
  · intro w'
    go_simp
    with_reducible rfl
  rotate_left
  · simp only [Act.put, List.setIfInBounds_toArray, List.set_cons_zero, List.set_cons_succ, i64_w, i32_w]
    rfl
  refine one_ (i := 6) (N := some 16) #[true, true, true, true, true, true, true, false, false, false] rfl rfl (one_of HT_.out (by kernel_rfl)) (by decide) (fun K hK => ?_)
  refine goes_ Try.func77 (by kernel_rfl) rfl #[.pointer (some ⟨g1042, 0, none⟩), .int .i64 (wrap64 ((t1043.length : Int) + 2))] (by rfl) rfl rfl mpx ?_
  with_reducible refine (spec_l1Below.calls g1042 t1039 t1049 t1050 (wrap64 ((t1043.length : Int) + 2)) t1052 t1053 t1054 w _ ?side1 ?side2 A4.out).mono ?_
  (case side1 => repeat (first | (with_reducible first | exact HI1042.out | apply IsS70.alloc | apply IsS70.drewN | apply IsS70.drew | apply IsS70.set_1 | apply IsS70.set_2 | refine IsS70.far ?_ NB1042_1038.out _ | refine IsS70.far ?_ NB1042_1051.out _) | exact HI1042.out))
  (case side2 => repeat (first | (with_reducible first | exact HB.out | apply below_alloc | apply pw_below_drewN | apply below_drew1 | refine below_set ?_ (IsS70.ge HI1042.out) | refine below_set ?_ GE1038.out | refine below_set ?_ GE1051.out) | exact HB.out))
  rintro e w16 ⟨rfl, hi, hb, hk⟩
  refine ⟨_, rfl, ?_⟩
  have n0_ := am (KeepBut.blk hk (g' := gb1038) (o := .cells #[.slice none 0 0, .slice none 0 0] 33 (0, 0)) (pkK BK1038.out) NB1038_1042.out (by simp))
  have n1_ := am (Kd.R_mono (Kd.R_keep (IsS70.apart (show IsS70 w _ g1042 t1039 t1049 t1050 from IsS70.pk HI1042.out) (pkR HO1045.out) (by decide)) hk (fun _ h => h.2)) (fun _ h => h.1))
  have n2_ := am (Kd.Q_mono (Kd.Q_keep (IsS70.apartQ (show IsS70 w _ g1042 t1039 t1049 t1050 from IsS70.pk HI1042.out) (pkQ HO1048.out) (by decide)) hk (fun _ h => h.2)) (fun _ h => h.1))
  have n3_ := am (KeepBut.blk hk (g' := gb1051) (o := .cells #[.slice Ao9 t1043.length co9, .slice Ao13 t1046.length co13] 33 (0, 0)) (pkK BK1051.out) NB1051_1042.out (by simp))
  have n4_ := am (hb)
  have n5_ := am (hi)
  clear BK1038 HO1045 HO1048 BK1051 HB HI1042
  have BK1038 := n0_; have HO1045 := n1_; have HO1048 := n2_; have BK1051 := n3_; have HB := n4_; have HI1042 := n5_
  clear n0_ n1_ n2_ n3_ n4_ n5_
  (try clear hb); (try clear hb2); (try clear hk); (try clear hi)
  refine hK.out _ _ ⟨(blk_cell BK1051.out 0).trans rfl, (blk_cell BK1051.out 1).trans rfl⟩ (fun hHeld => ?_)
  clear hK K
  refine norm_ (a' := ?_) ?_ ?_
  rotate_left
  · show Act.put _ (some 16) _ = _
    simp only [Act.put, List.setIfInBounds_toArray, List.set_cons_zero, List.set_cons_succ, i64_w, i32_w]
    rfl
  refine pure_ (i := 7) (N := some 17) (v := ?_) (a' := ?_) #[true, true, true, true, true, true, true, true, false, false] rfl rfl (any_of HT_.out (by kernel_rfl)) (fun _ _ _ h => h) (Or.inl ⟨by rfl, ?_⟩) ?_ ?_
  rotate_left
  · intro w'
    go_simp
    with_reducible rfl
  rotate_left
  · simp only [Act.put, List.setIfInBounds_toArray, List.set_cons_zero, List.set_cons_succ, i64_w, i32_w]
    rfl
  refine one_ (i := 8) (N := none) #[true, true, true, true, true, true, true, true, true, false] rfl rfl (one_of HT_.out (by kernel_rfl)) (by decide) (fun K hK => ?_)
  have hs17 : w16.cell? ⟨gb1038, 0, none⟩ = some (.slice none 0 0) := (blk_cell BK1038.out 0).trans rfl
  have hfs17 := blk_frozen BK1038.out 0
  have hns17_1 := NB1051_1038.out
  have hms17_1 := NB1038_1051.out
  have hs18 : w16.cell? ⟨gb1038, 1, none⟩ = some (.slice none 0 0) := (blk_cell BK1038.out 1).trans rfl
  have hfs18 := blk_frozen BK1038.out 1
  have hns18_1 := NB1051_1038.out
  have hms18_1 := NB1038_1051.out
  refine skip_ (w1 := ?_) (by rfl) rfl ?_ ?_
  rotate_left
  · go_simp
    rfl
  refine hK.out _ _ ⟨((cell_far (p := ⟨gb1038, _, none⟩) NB1051_1038.out _).trans (((cell_far (p := ⟨gb1038, _, none⟩) NB1051_1038.out _).trans (hHeld.1)))), ((cell_far (p := ⟨gb1038, _, none⟩) NB1051_1038.out _).trans (((cell_far (p := ⟨gb1038, _, none⟩) NB1051_1038.out _).trans (hHeld.2))))⟩ (fun hHeld => ?_)
  clear hK K
  refine pure_ (i := 9) (N := some 3) (v := ?_) (a' := ?_) #[true, true, true, true, true, true, true, true, true, true] rfl rfl (any_of HT_.out (by kernel_rfl)) (fun _ _ _ h => h) (Or.inl ⟨by rfl, ?_⟩) ?_ ?_
  rotate_left
  · intro w'
    go_simp
    with_reducible rfl
  rotate_left
  · simp only [Act.put, List.setIfInBounds_toArray, List.set_cons_zero, List.set_cons_succ, i64_w, i32_w]
    rfl
  refine done_ (done_of HT_.out (by kernel_rfl)) ?_
  try go_wp2
  refine bodyPost_ret (results_ct rfl _ _ gb1038 33 #[.slice Ao9 t1043.length co9, .slice Ao13 t1046.length co13] (0, 0) _ rfl (by (with_reducible repeat (first | refine blk_drewN ?_ _ | refine blk_drew ?_ | refine blk_alloc ?_ _)); refine blk_put (cs := #[.slice Ao9 t1043.length co9, .slice none 0 0]) ?_ 1 _ rfl; (with_reducible repeat (first | refine blk_drewN ?_ _ | refine blk_drew ?_ | refine blk_alloc ?_ _)); refine blk_put (cs := #[.slice none 0 0, .slice none 0 0]) ?_ 0 _ rfl; exact pkK BK1038.out) Try.underlying33 rfl (by kernel_rfl)) rfl ?_
  exact ⟨_, _, rfe, by (with_reducible repeat (first | apply Kd.R_alloc | apply Kd.R_drewN | apply Kd.R_drew)); exact Kd.R_mono (Kd.R_far (p := ⟨gb1038, 1, none⟩) (Kd.R_far (p := ⟨gb1038, 0, none⟩) (Kd.R_types HO1045.out BK1038.out (by decide)) (fun _ hk => hk.2) (.slice Ao9 t1043.length co9)) (fun _ hk => hk.2) (.slice Ao13 t1046.length co13)) (fun _ hk => trivial), by (with_reducible repeat (first | apply Kd.Q_alloc | apply Kd.Q_drewN | apply Kd.Q_drew)); exact Kd.Q_mono (Kd.Q_far (p := ⟨gb1038, 1, none⟩) (Kd.Q_far (p := ⟨gb1038, 0, none⟩) (Kd.Q_types HO1048.out BK1038.out (by decide)) (fun _ hk => hk.2) (.slice Ao9 t1043.length co9)) (fun _ hk => hk.2) (.slice Ao13 t1046.length co13)) (fun _ hk => trivial), by repeat (first | (with_reducible first | exact HB.out | apply below_alloc | apply pw_below_drewN | apply below_drew1 | refine below_set ?_ (IsS70.ge HI1042.out) | refine below_set ?_ GE1038.out | refine below_set ?_ GE1051.out) | exact HB.out)⟩
end Go.Proofs.Ytghmhekjdjdleaa.Z
