/- The Go functions spec_l3Tokens as Lean functions, each with a proof that its code comes to just these answers; conditions: those of each theorem. -/
import Derived.Test.YtghmhekjdjdleaaZx0
import Derived.Test.YtghmhekjdjdleaaZx29
import Derived.Test.YtghmhekjdjdleaaZx33
import Derived.Test.YtghmhekjdjdleaaZx34
import Derived.Test.YtghmhekjdjdleaaZx35
import Derived.Test.YtghmhekjdjdleaaZx39
namespace Go.Proofs.Ytghmhekjdjdleaa.Z
open Go.RowKit Go.Proofs.YtghmhekjdjdleaaW.PrintWords Go.Proofs.YtghmhekjdjdleaaW.PrintLast Go.Proofs.YtghmhekjdjdleaaW.PrintMore
attribute [local go_sem] max2_int min2_int max_two min_two max_three min_three max_four min_four   -- for this text's walks alone
set_option linter.unusedVariables false
set_option linter.unusedSimpArgs false
def spec_l3Tokens.l0 : Nat → Int → Int → List Int → Int → Int → List Int → List Bool → Option (List Int × List Bool × Int × Int)
  | 0, _, _, _, _, _, _, _ => none
  | k + 1, x6, x7, x1000, x1001, x1002, x965000, x965001 => if x7 < x6 then ((spec_l1Below.f x1000 x1001 x1002 (wrap64 (x7 + 1))).bind fun bt968 => ((spec_NewToken.f k x965000 x965001 (wrap64 (bt968.1 - 1))).bind fun bt971 => ((spec_l1Once.f x1000 bt968.2.1 bt968.2.2 6).bind fun bt980 => (if bt980.1 = true then ((spec_l1Below.f x1000 bt980.2.1 bt980.2.2 (wrap64 (x7 + 1))).bind fun bt983 => ((spec_Cancel.f k bt971.1 bt971.2.1 bt983.1).bind fun bt986 => (spec_l3Tokens.l0 k x6 (wrap64 (x7 + 1)) x1000 bt983.2.1 bt983.2.2 bt986.1 bt986.2.1))) else (spec_l3Tokens.l0 k x6 (wrap64 (x7 + 1)) x1000 bt980.2.1 bt980.2.2 bt971.1 bt971.2.1))))) else (some (x965000, x965001, x1001, x1002))
def spec_l3Tokens.f (k : Nat) (s0_0 : List Int) (s0_1 : Int) (s0_2 : Int) (a1 : Int) : Option (List Int × List Bool × Int × Int) := (spec_l1Below.f s0_0 s0_1 s0_2 (wrap64 (a1 + 1))).bind fun bt965 => (spec_l3Tokens.l0 k bt965.1 0 s0_0 bt965.2.1 bt965.2.2 ([] : List Int) ([] : List Bool))
theorem spec_l3Tokens.mono_l : ∀ k, (∀ y0 y1 y2 y3 y4 y5 y6, LeO (spec_l3Tokens.l0 k y0 y1 y2 y3 y4 y5 y6) (spec_l3Tokens.l0 (k + 1) y0 y1 y2 y3 y4 y5 y6))
  | 0 => fun _ _ _ _ _ _ _ r h => by simp [spec_l3Tokens.l0] at h
  | k + 1 => by
    have ih0 := spec_l3Tokens.mono_l k
    · intro y0 y1 y2 y3 y4 y5 y6
      unfold spec_l3Tokens.l0
      repeat' first
      | (with_reducible exact ih0 _ _ _ _ _ _ _)
      | (with_reducible exact spec_Cancel.mono _ _ _ _)
      | (with_reducible exact spec_NewToken.mono _ _ _ _)
      | (with_reducible exact LeO.refl _)
      | (with_reducible exact LeO.none _)
      | (with_reducible refine LeO.ite ?_ ?_)
      | (with_reducible refine LeO.bind ?_ (fun _ => ?_))
theorem spec_l3Tokens.mono : ∀ a0 a1 a2 a3 k, LeO (spec_l3Tokens.f k a0 a1 a2 a3) (spec_l3Tokens.f (k + 1) a0 a1 a2 a3) := by
  intro a0 a1 a2 a3 k
  have ih0 := spec_l3Tokens.mono_l k
  unfold spec_l3Tokens.f
  repeat' first
      | (with_reducible exact ih0 _ _ _ _ _ _ _)
      | (with_reducible exact spec_Cancel.mono _ _ _ _)
      | (with_reducible exact spec_NewToken.mono _ _ _ _)
      | (with_reducible exact LeO.refl _)
      | (with_reducible exact LeO.none _)
      | (with_reducible refine LeO.ite ?_ ?_)
      | (with_reducible refine LeO.bind ?_ (fun _ => ?_))
def spec_l3Tokens.T6 : Bool × List (List Nat × List Nat) := (true, [([], []), ([], []), ([], []), ([2], [2]), ([1, 3], [1, 3]), ([4], [4]), ([0, 5, 4], [0, 5]), ([6], [6]), ([7], [7]), ([7], [7]), ([7], [7]), ([], []), ([11, 8, 6, 0, 1, 2, 3, 4, 5, 6, 7, 8, 11], [8, 11]), ([9, 12, 0, 1, 2, 3, 4, 5, 6, 7, 8, 9, 11, 12], [9]), ([10, 13, 0, 1, 2, 3, 4, 5, 6, 7, 8, 9, 10, 11, 12, 13], [10])])
def spec_l3Tokens.B6 : List Nat := [0, 0, 0, 4, 14, 30, 63, 127, 255, 255, 255, 0, 2559, 7167, 16383]
theorem spec_l3Tokens.tab6 : rtab .any (opsOf Try.f85 6) = spec_l3Tokens.T6 := by kernel_rfl
theorem spec_l3Tokens.bits6 : waitsOk spec_l3Tokens.T6.2 spec_l3Tokens.B6 = true := by kernel_rfl
def spec_l3Tokens.T9 : Bool × List (List Nat × List Nat) := (true, [([], []), ([], []), ([], []), ([2], [2]), ([1, 3], [1, 3]), ([0, 4, 4], [0, 4]), ([5], [5]), ([6], [6]), ([6], [6]), ([6], [6]), ([], []), ([10, 7, 5, 0, 1, 2, 3, 4, 5, 6, 7, 10], [7, 10]), ([8, 11, 0, 1, 2, 3, 4, 5, 6, 7, 8, 10, 11], [8]), ([9, 12, 0, 1, 2, 3, 4, 5, 6, 7, 8, 9, 10, 11, 12], [9])])
def spec_l3Tokens.B9 : List Nat := [0, 0, 0, 4, 14, 31, 63, 127, 127, 127, 0, 1279, 3583, 8191]
theorem spec_l3Tokens.tab9 : rtab .any (opsOf Try.f85 9) = spec_l3Tokens.T9 := by kernel_rfl
theorem spec_l3Tokens.bits9 : waitsOk spec_l3Tokens.T9.2 spec_l3Tokens.B9 = true := by kernel_rfl
set_option maxHeartbeats 8000000 in
set_option maxRecDepth 100000 in
theorem spec_l3Tokens.calls (k : Nat) (g : Nat) (s0_0 : List Int) (s0_1 : Int) (s0_2 : Int) (a1 : Int) (r1 : List Int) (r2 : List Bool) (r3 : Int) (r4 : Int) (w0 w : World) (hI : IsS70 w0 w g s0_0 s0_1 s0_2) (hB : Below w0.heap.size w0 w) (h : spec_l3Tokens.f k s0_0 s0_1 s0_2 a1 = some (r1, r2, r3, r4)) :
    Calls Try.prog 85 #[.pointer (some ⟨g, 0, none⟩), .int .i64 a1] w fun e w' => ∃ v0_ v1_ : Value, e = .returned (.agg #[v0_, v1_]) ∧ Kd.R (Kd.int .i64) 3 w' w.heap.size (fun _ => True) v0_ r1 ∧ Kd.R Kd.bool 4 w' w.heap.size (fun _ => True) v1_ r2 ∧ IsS70 w0 w' g s0_0 r3 r4 ∧ Below w0.heap.size w0 w' ∧ KeepBut w w' g none := by
  have hu33 := Try.underlying33
  have HI0 := am hI
  have HK := am (KeepBut.refl w g none)
  have HL := am hB.size
  clear hI
  have HW0 := am hB.size
  have HB := am hB
  clear hB
  have H : ((spec_l1Below.f s0_0 s0_1 s0_2 (wrap64 (a1 + 1))).bind fun bt965 => (spec_l3Tokens.l0 k bt965.1 0 s0_0 bt965.2.1 bt965.2.2 ([] : List Int) ([] : List Bool))) = some (r1, r2, r3, r4) := h
  clear h
  replace H := Option.bind_eq_some_iff.mp H
  obtain ⟨⟨t965, t966, t967⟩, A30, H⟩ := H
  replace H : (spec_l3Tokens.l0 k t965 0 s0_0 t966 t967 ([] : List Int) ([] : List Bool)) = some (r1, r2, r3, r4) := H
  have A3 := am A30
  clear A30
  have H' := am H
  clear H
  go_enter Try.func85, Try.ntmps85
  go_wp2_with (first | ((with_reducible refine gate_dst (N := 4) rfl ?_); refine box_event ?hg (N := 4) ?hd (cs := #[.slice none 0 0, .slice none 0 0]) (t := 33) ?hr ?_; (case hd => rfl); (case hg => rfl); (case hr => first | (go_simp; done) | (go_simp; rfl)); intro gb963 hg w4 hbox hb; have n0_ := am (IsS70.below (IsS70.pk HI0.out) hb); have n1_ := am (KeepBut.trans (pkH HK.out) (KeepBut.of_below hb g none) (.inl rfl)); have n2_ := am (below_step (by repeat (first | (with_reducible first | exact HB.out | apply below_alloc | apply pw_below_drewN | apply below_drew1 | refine below_set ?_ (IsS70.ge HI0.out)) | exact HB.out)) hb); have n3_ := am (hbox); have n4_ := am ((by rw [hg]; first | done | exact (keep_size (w := w) (g := g) (row := none) (pkH HK.out)) : w.heap.size ≤ gb963)); have n5_ := am ((Nat.le_trans HW0.out (by rw [hg]; first | done | exact (keep_size (w := w) (g := g) (row := none) (pkH HK.out)) : w.heap.size ≤ gb963) : w0.heap.size ≤ gb963)); have n6_ := am ((by rw [hg]; exact Nat.ne_of_lt (IsS70.lt (show IsS70 w0 _ g s0_0 s0_1 s0_2 from IsS70.pk HI0.out)) : g ≠ gb963)); have n7_ := am ((by rw [hg]; exact Nat.ne_of_gt (IsS70.lt (show IsS70 w0 _ g s0_0 s0_1 s0_2 from IsS70.pk HI0.out)) : gb963 ≠ g)); clear HI0 HK HB; have HI0 := n0_; have HK := n1_; have HB := n2_; have BK963 := n3_; have GW963 := n4_; have GE963 := n5_; have NB0_963 := n6_; have NB963_0 := n7_; clear n0_ n1_ n2_ n3_ n4_ n5_ n6_ n7_; clear hb hbox hg) | ((with_reducible refine gate_dst (N := 5) rfl ?_); refine box_event ?hg (N := 5) ?hd (cs := #[.slice none 0 0, .slice none 0 0]) (t := 33) ?hr ?_; (case hd => rfl); (case hg => rfl); (case hr => first | (go_simp; done) | (go_simp; rfl)); intro gb964 hg w5 hbox hb; have n0_ := am (IsS70.below (IsS70.pk HI0.out) hb); have n1_ := am (blk_below (pkK BK963.out) hb); have n2_ := am (KeepBut.trans (pkH HK.out) (KeepBut.of_below hb g none) (.inl rfl)); have n3_ := am (below_step (by repeat (first | (with_reducible first | exact HB.out | apply below_alloc | apply pw_below_drewN | apply below_drew1 | refine below_set ?_ (IsS70.ge HI0.out) | refine below_set ?_ GE963.out) | exact HB.out)) hb); have n4_ := am (hbox); have n5_ := am ((by rw [hg]; first | done | exact (keep_size (w := w) (g := g) (row := none) (pkH HK.out)) : w.heap.size ≤ gb964)); have n6_ := am ((Nat.le_trans HW0.out (by rw [hg]; first | done | exact (keep_size (w := w) (g := g) (row := none) (pkH HK.out)) : w.heap.size ≤ gb964) : w0.heap.size ≤ gb964)); have n7_ := am ((by rw [hg]; exact Nat.ne_of_lt (blk_lt (g := gb963) (o := .cells #[.slice none 0 0, .slice none 0 0] 33 (0, 0)) (pkK BK963.out)) : gb963 ≠ gb964)); have n8_ := am ((by rw [hg]; exact Nat.ne_of_gt (blk_lt (g := gb963) (o := .cells #[.slice none 0 0, .slice none 0 0] 33 (0, 0)) (pkK BK963.out)) : gb964 ≠ gb963)); have n9_ := am ((by rw [hg]; exact Nat.ne_of_lt (IsS70.lt (show IsS70 w0 _ g s0_0 s0_1 s0_2 from IsS70.pk HI0.out)) : g ≠ gb964)); have n10_ := am ((by rw [hg]; exact Nat.ne_of_gt (IsS70.lt (show IsS70 w0 _ g s0_0 s0_1 s0_2 from IsS70.pk HI0.out)) : gb964 ≠ g)); clear HI0 BK963 HK HB; have HI0 := n0_; have BK963 := n1_; have HK := n2_; have HB := n3_; have BK964 := n4_; have GW964 := n5_; have GE964 := n6_; have NB963_964 := n7_; have NB964_963 := n8_; have NB0_964 := n9_; have NB964_0 := n10_; clear n0_ n1_ n2_ n3_ n4_ n5_ n6_ n7_ n8_ n9_ n10_; clear hb hbox hg; have hnb6 := NB964_963.out; have hnc6 := NB963_964.out; have hnb7 := NB964_0.out; have hnc7 := NB0_964.out; have hcz8_0 : w5.cell? ⟨gb964, 0, none⟩ = some (.slice none 0 0) := (blk_cell BK964.out 0).trans rfl; have hcz8_1 : w5.cell? ⟨gb964, 1, none⟩ = some (.slice none 0 0) := (blk_cell BK964.out 1).trans rfl; have hfz8_0 := blk_frozen BK964.out 0; have hfz8_1 := blk_frozen BK964.out 1) | ((with_reducible refine gate_callee (f := 77) rfl ?_); refine goesL_ (some 18) rfl rfl Try.func77 (by kernel_rfl) rfl #[.pointer (some ⟨g, 0, none⟩), .int .i64 (wrap64 (a1 + 1))] rfl mpx ?_; (with_reducible refine (spec_l1Below.calls g s0_0 s0_1 s0_2 (wrap64 (a1 + 1)) t965 t966 t967 w0 _ ?side1 ?side2 A3.out).mono ?_); (case side1 => repeat (first | (with_reducible first | exact HI0.out | apply IsS70.alloc | apply IsS70.drewN | apply IsS70.drew | apply IsS70.set_1 | apply IsS70.set_2 | refine IsS70.far ?_ NB0_963.out _ | refine IsS70.far ?_ NB0_964.out _) | exact HI0.out)); (case side2 => repeat (first | (with_reducible first | exact HB.out | apply below_alloc | apply pw_below_drewN | apply below_drew1 | refine below_set ?_ (IsS70.ge HI0.out) | refine below_set ?_ GE963.out | refine below_set ?_ GE964.out) | exact HB.out)); rintro e w9 ⟨rfl, hi, hb, hk⟩; refine ⟨_, rfl, ?_⟩; have n0_ := am (KeepBut.blk hk (g' := gb963) (o := .cells #[.slice none 0 0, .slice none 0 0] 33 (0, 0)) (by (with_reducible repeat (first | refine blk_drewN ?_ _ | refine blk_drew ?_ | refine blk_alloc ?_ _)); refine blk_far ?_ NB963_964.out _; (with_reducible repeat (first | refine blk_drewN ?_ _ | refine blk_drew ?_ | refine blk_alloc ?_ _)); refine blk_far ?_ NB963_964.out _; exact pkK BK963.out) NB963_0.out (by simp)); have n1_ := am (KeepBut.blk hk (g' := gb964) (o := .cells #[.slice none 0 0, .slice none 0 0] 33 (0, 0)) (by (with_reducible repeat (first | refine blk_drewN ?_ _ | refine blk_drew ?_ | refine blk_alloc ?_ _)); refine blk_put (cs := #[.slice none 0 0, .slice none 0 0]) ?_ 1 _ rfl; (with_reducible repeat (first | refine blk_drewN ?_ _ | refine blk_drew ?_ | refine blk_alloc ?_ _)); refine blk_put (cs := #[.slice none 0 0, .slice none 0 0]) ?_ 0 _ rfl; exact pkK BK964.out) NB964_0.out (by simp)); have n2_ := am (KeepBut.trans (pkH HK.out) hk (.inl rfl)); have n3_ := am (hb); have n4_ := am (hi); clear BK963 BK964 HK HB HI0; have BK963 := n0_; have BK964 := n1_; have HK := n2_; have HB := n3_; have HI0 := n4_; clear n0_ n1_ n2_ n3_ n4_; (try clear hb); (try clear hb2); (try clear hk); (try clear hi)))
  go_loopg [7] k (fun kq v7 w' => ∃ (x7_1 : Int) (x1001_1 : Int) (x1002_1 : Int) (x965000_1 : List Int) (x965001_1 : List Bool) (u965000 : Value) (u965001 : Value), v7 = .int .i64 x7_1 ∧ Aside0 (spec_l3Tokens.l0 kq t965 x7_1 s0_0 x1001_1 x1002_1 x965000_1 x965001_1 = some (r1, r2, r3, r4)) ∧ Aside0 (kq ≤ k) ∧ Aside0 (Kd.R (Kd.int .i64) 3 w' w.heap.size (fun _ => True) u965000 x965000_1) ∧ Aside0 (Kd.R Kd.bool 4 w' w.heap.size (fun _ => True) u965001 x965001_1) ∧ Aside0 (w'.heap[gb963]? = some (.cells #[(.slice none 0 0), (.slice none 0 0)] 33 (0, 0))) ∧ Aside0 (w'.heap[gb964]? = some (.cells #[u965000, u965001] 33 (0, 0))) ∧ Aside0 (IsS70 w0 w' g s0_0 x1001_1 x1002_1) ∧ Aside0 (KeepBut w w' g none) ∧ Aside0 (Below w0.heap.size w0 w'))
  case atStart => exact ⟨(0), (t966), (t967), (([] : List Int)), (([] : List Bool)), (.slice none 0 0), (.slice none 0 0), rfx, H', ⟨Nat.le_refl _⟩, ⟨by first | exact Kd.R_nil _ _ _ _ _ | exact Kd.N_nil _ _ _ _ _ | exact Kd.V_nil _ _ _ _ _ | exact Kd.Q_nil _ _ _ _ _ | exact Kd.S_nil _ _ _ _ _⟩, ⟨by first | exact Kd.R_nil _ _ _ _ _ | exact Kd.N_nil _ _ _ _ _ | exact Kd.V_nil _ _ _ _ _ | exact Kd.Q_nil _ _ _ _ _ | exact Kd.S_nil _ _ _ _ _⟩, ⟨pkK BK963.out⟩, ⟨pkK BK964.out⟩, ⟨by repeat (first | (with_reducible first | exact HI0.out | apply IsS70.alloc | apply IsS70.drewN | apply IsS70.drew | apply IsS70.set_1 | apply IsS70.set_2 | refine IsS70.far ?_ NB0_963.out _ | refine IsS70.far ?_ NB0_964.out _) | exact HI0.out)⟩, ⟨pkH HK.out⟩, ⟨by repeat (first | (with_reducible first | exact HB.out | apply below_alloc | apply pw_below_drewN | apply below_drew1 | refine below_set ?_ (IsS70.ge HI0.out) | refine below_set ?_ GE963.out | refine below_set ?_ GE964.out) | exact HB.out)⟩⟩
  case round =>
    clear H'
    try clear p2
    try clear c6
    try clear p6
    try clear c7
    try clear c8
    try clear hcz8_0
    try clear hcz8_1
    try clear hfz8_0
    try clear hfz8_1
    obtain ⟨x7_1, x1001_1, x1002_1, x965000_1, x965001_1, u965000, u965001, rfl, HA, HK1, HO_965000, HO_965001, BK963, BK964, HI0, HK, HB⟩ := hrel
    cases gk with
    | zero => exact absurd HA.out (by simp [spec_l3Tokens.l0])
    | succ k1 =>
      have H := HA.out
      clear HA
      simp only [spec_l3Tokens.l0] at H
      by_cases c10 : x7_1 < t965
      · rw [if_pos c10] at H
        have c10b0 : decide (x7_1 < t965) = true := decide_eq_true c10
        clear c10
        replace H := Option.bind_eq_some_iff.mp H
        obtain ⟨⟨t968, t969, t970⟩, A110, H⟩ := H
        replace H : ((spec_NewToken.f k1 x965000_1 x965001_1 (wrap64 (t968 - 1))).bind fun bt971 => ((spec_l1Once.f s0_0 t969 t970 6).bind fun bt980 => (if bt980.1 = true then ((spec_l1Below.f s0_0 bt980.2.1 bt980.2.2 (wrap64 (x7_1 + 1))).bind fun bt983 => ((spec_Cancel.f k1 bt971.1 bt971.2.1 bt983.1).bind fun bt986 => (spec_l3Tokens.l0 k1 t965 (wrap64 (x7_1 + 1)) s0_0 bt983.2.1 bt983.2.2 bt986.1 bt986.2.1))) else (spec_l3Tokens.l0 k1 t965 (wrap64 (x7_1 + 1)) s0_0 bt980.2.1 bt980.2.2 bt971.1 bt971.2.1)))) = some (r1, r2, r3, r4) := H
        have A11 := am A110
        clear A110
        replace H := Option.bind_eq_some_iff.mp H
        obtain ⟨⟨t971, t974, t977, t978⟩, A120, H⟩ := H
        replace H : ((spec_l1Once.f s0_0 t969 t970 6).bind fun bt980 => (if bt980.1 = true then ((spec_l1Below.f s0_0 bt980.2.1 bt980.2.2 (wrap64 (x7_1 + 1))).bind fun bt983 => ((spec_Cancel.f k1 t971 t974 bt983.1).bind fun bt986 => (spec_l3Tokens.l0 k1 t965 (wrap64 (x7_1 + 1)) s0_0 bt983.2.1 bt983.2.2 bt986.1 bt986.2.1))) else (spec_l3Tokens.l0 k1 t965 (wrap64 (x7_1 + 1)) s0_0 bt980.2.1 bt980.2.2 t971 t974))) = some (r1, r2, r3, r4) := H
        have A12 := am A120
        clear A120
        replace H := Option.bind_eq_some_iff.mp H
        obtain ⟨⟨t980, t981, t982⟩, A130, H⟩ := H
        replace H : (if t980 = true then ((spec_l1Below.f s0_0 t981 t982 (wrap64 (x7_1 + 1))).bind fun bt983 => ((spec_Cancel.f k1 t971 t974 bt983.1).bind fun bt986 => (spec_l3Tokens.l0 k1 t965 (wrap64 (x7_1 + 1)) s0_0 bt983.2.1 bt983.2.2 bt986.1 bt986.2.1))) else (spec_l3Tokens.l0 k1 t965 (wrap64 (x7_1 + 1)) s0_0 t981 t982 t971 t974)) = some (r1, r2, r3, r4) := H
        have A13 := am A130
        clear A130
        by_cases c14 : t980 = true
        · subst c14
          replace H : ((spec_l1Below.f s0_0 t981 t982 (wrap64 (x7_1 + 1))).bind fun bt983 => ((spec_Cancel.f k1 t971 t974 bt983.1).bind fun bt986 => (spec_l3Tokens.l0 k1 t965 (wrap64 (x7_1 + 1)) s0_0 bt983.2.1 bt983.2.2 bt986.1 bt986.2.1))) = some (r1, r2, r3, r4) := by rw [if_pos rfl] at H; exact H
          replace H := Option.bind_eq_some_iff.mp H
          obtain ⟨⟨t983, t984, t985⟩, A150, H⟩ := H
          replace H : ((spec_Cancel.f k1 t971 t974 t983).bind fun bt986 => (spec_l3Tokens.l0 k1 t965 (wrap64 (x7_1 + 1)) s0_0 t984 t985 bt986.1 bt986.2.1)) = some (r1, r2, r3, r4) := H
          have A15 := am A150
          clear A150
          replace H := Option.bind_eq_some_iff.mp H
          obtain ⟨⟨t986, t989, t992, t995⟩, A160, H⟩ := H
          replace H : (spec_l3Tokens.l0 k1 t965 (wrap64 (x7_1 + 1)) s0_0 t984 t985 t986 t989) = some (r1, r2, r3, r4) := H
          have A16 := am A160
          clear A160
          have H' := am H
          clear H
          obtain ⟨Ao17, co17, eo17⟩ := Kd.R_slice HO_965000.out
          subst eo17
          obtain ⟨Ao18, co18, eo18⟩ := Kd.R_slice HO_965001.out
          subst eo18
          try go_wp2
          have n0_ := am (Kd.R_drew HO_965000.out)
          have n1_ := am (Kd.R_drew HO_965001.out)
          have n2_ := am (blk_drew BK963.out)
          have n3_ := am (blk_drew BK964.out)
          have n4_ := am (IsS70.drew HI0.out)
          have n5_ := am (keep_drew HK.out)
          have n6_ := am (below_drew1 HB.out)
          clear HO_965000 HO_965001 BK963 BK964 HI0 HK HB
          have HO_965000 := n0_; have HO_965001 := n1_; have BK963 := n2_; have BK964 := n3_; have HI0 := n4_; have HK := n5_; have HB := n6_
          clear n0_ n1_ n2_ n3_ n4_ n5_ n6_
          refine start_ (n := 15) (S := fun w' => w'.cell? ⟨gb964, 0, none⟩ = some (.slice Ao17 x965000_1.length co17) ∧ w'.cell? ⟨gb964, 1, none⟩ = some (.slice Ao18 x965001_1.length co18)) (ds := []) #[false, false, false, false, false, false, false, false, false, false, false, false, false, false, false] (by kernel_rfl) rfl rfl ⟨(blk_cell BK964.out 0).trans rfl, (blk_cell BK964.out 1).trans rfl⟩ (fun hHeld => ?_); refine with_tabW spec_l3Tokens.tab6 spec_l3Tokens.bits6 (fun HT_ HW_ => ?_)
          generalize wr.drew = w19 at HO_965000 HO_965001 BK963 BK964 HI0 HK HB hHeld ⊢
          refine pure_ (i := 1) (N := some 26) (v := ?_) (a' := ?_) #[false, true, false, false, false, false, false, false, false, false, false, false, false, false, false] rfl rfl (any_of HT_.out (by kernel_rfl)) (fun _ _ _ h => h) (Or.inl ⟨by rfl, ?_⟩) ?_ ?_
          rotate_left
          · intro w'
            go_simp
            with_reducible rfl
          rotate_left
          · simp only [Act.put, List.setIfInBounds_toArray, List.set_cons_zero, List.set_cons_succ, i64_w, i32_w]
            rfl
          refine pure_ (i := 2) (N := some 27) (v := ?_) (a' := ?_) #[false, true, true, false, false, false, false, false, false, false, false, false, false, false, false] rfl rfl (any_of HT_.out (by kernel_rfl)) (fun _ _ _ h => h) (Or.inl ⟨by rfl, ?_⟩) ?_ ?_
          rotate_left
          · intro w'
            go_simp
            with_reducible rfl
          rotate_left
          · simp only [Act.put, List.setIfInBounds_toArray, List.set_cons_zero, List.set_cons_succ, i64_w, i32_w]
            rfl
          refine pure_ (i := 3) (N := some 28) (v := ?_) (a' := ?_) #[false, true, true, true, false, false, false, false, false, false, false, false, false, false, false] rfl rfl (any_of HT_.out (by kernel_rfl)) (fun _ _ _ h => h) (Or.inl ⟨by rfl, ?_⟩) ?_ ?_
          rotate_left
          · intro w'
            go_simp
            with_reducible rfl
          rotate_left
          · simp only [Act.put, List.setIfInBounds_toArray, List.set_cons_zero, List.set_cons_succ, i64_w, i32_w]
            rfl
          refine take_ (i := 0) (N := some 25) (v := ?_) (a' := ?_) #[true, true, true, true, false, false, false, false, false, false, false, false, false, false, false] rfl rfl (take_ofW HT_.out HW_.out (by kernel_rfl)) (fun _ _ _ h => h) (Or.inl ⟨by rfl, ?_⟩) hHeld ?_ ?_
          rotate_left
          · rintro w' ⟨s0, s1⟩
            go_simp
            with_reducible rfl
          rotate_left
          · simp only [Act.put, List.setIfInBounds_toArray, List.set_cons_zero, List.set_cons_succ, i64_w, i32_w]
            rfl
          refine join_ (σ := Value × Value × Nat) 3 #[true, true, true, true, true, true, true, true, true, true, true, true, false, false, false] (fun s_ => [(29, .int .i64 t968), (31, .tuple #[.agg #[s_.1, s_.2.1], .int .i64 t977, .int .i64 t978]), (8, .pointer (some ⟨s_.2.2, 0, none⟩)), (30, .int .i64 (wrap64 (t968 - 1))), (24, .tuple #[.agg #[s_.1, s_.2.1], .int .i64 t977, .int .i64 t978]), (32, .agg #[s_.1, s_.2.1]), (33, .int .i64 t977), (34, .int .i64 t978)]) (fun s_ w' => (w'.cell? ⟨gb964, 0, none⟩ = some (.slice Ao17 x965000_1.length co17) ∧ w'.cell? ⟨gb964, 1, none⟩ = some (.slice Ao18 x965001_1.length co18)) ∧ (Kd.R (Kd.int .i64) 3 w' w.heap.size (fun k_ => some k_ ≠ (.slice Ao17 x965000_1.length co17 : Value).ownBlock) s_.1 t971) ∧ (Kd.R Kd.bool 4 w' w.heap.size (fun k_ => some k_ ≠ (.slice Ao18 x965001_1.length co18 : Value).ownBlock) s_.2.1 t974) ∧ (Kd.R (Kd.int .i64) 3 w' w.heap.size (fun k_ => some k_ ≠ (s_.1 : Value).ownBlock) (.slice Ao17 x965000_1.length co17) x965000_1) ∧ (Kd.R Kd.bool 4 w' w.heap.size (fun k_ => some k_ ≠ (s_.2.1 : Value).ownBlock) (.slice Ao18 x965001_1.length co18) x965001_1) ∧ (w'.heap[gb963]? = some (.cells #[.slice none 0 0, .slice none 0 0] 33 (0, 0))) ∧ (w'.heap[gb964]? = some (.cells #[.slice Ao17 x965000_1.length co17, .slice Ao18 x965001_1.length co18] 33 (0, 0))) ∧ (w'.heap[s_.2.2]? = some (.cells #[.slice none 0 0, .slice none 0 0] 33 (0, 0))) ∧ (w.heap.size ≤ s_.2.2) ∧ (w0.heap.size ≤ s_.2.2) ∧ (g ≠ s_.2.2) ∧ (s_.2.2 ≠ g) ∧ (gb963 ≠ s_.2.2) ∧ (s_.2.2 ≠ gb963) ∧ (gb964 ≠ s_.2.2) ∧ (s_.2.2 ≠ gb964) ∧ (IsS70 w0 w' g s0_0 t969 t970) ∧ (KeepBut w w' g none) ∧ (Below w0.heap.size w0 w')) ?_ ?_
          rotate_left
          · intro hCont
            refine two_ (i := 4) (j := 11) (Ni := some 29) (Nj := some 8) #[true, true, true, true, true, false, false, false, false, false, false, false, false, false, false] #[true, true, true, true, false, false, false, false, false, false, false, true, false, false, false] rfl rfl rfl rfl (two_of HT_.out (by kernel_rfl)) (by decide) (by decide) (fun K hK => ?_) (fun K hK => ?_)
            · skip
              refine goes_ Try.func77 (by kernel_rfl) rfl #[.pointer (some ⟨g, 0, none⟩), .int .i64 (wrap64 (x7_1 + 1))] (by rfl) rfl rfl mpx ?_
              with_reducible refine (spec_l1Below.calls g s0_0 x1001_1 x1002_1 (wrap64 (x7_1 + 1)) t968 t969 t970 w0 _ ?side1 ?side2 A11.out).mono ?_
              (case side1 => repeat (first | (with_reducible first | exact HI0.out | apply IsS70.alloc | apply IsS70.drewN | apply IsS70.drew | apply IsS70.set_1 | apply IsS70.set_2 | refine IsS70.far ?_ NB0_963.out _ | refine IsS70.far ?_ NB0_964.out _) | exact HI0.out))
              (case side2 => repeat (first | (with_reducible first | exact HB.out | apply below_alloc | apply pw_below_drewN | apply below_drew1 | refine below_set ?_ (IsS70.ge HI0.out) | refine below_set ?_ GE963.out | refine below_set ?_ GE964.out) | exact HB.out))
              rintro e w20 ⟨rfl, hi, hb, hk⟩
              refine ⟨_, rfl, ?_⟩
              have n0_ := am (Kd.R_mono (Kd.R_keep (IsS70.apart (show IsS70 w0 _ g s0_0 x1001_1 x1002_1 from IsS70.pk HI0.out) (pkR HO_965000.out) (by decide)) hk (fun _ h => h.2)) (fun _ h => h.1))
              have n1_ := am (Kd.R_mono (Kd.R_keep (IsS70.apart (show IsS70 w0 _ g s0_0 x1001_1 x1002_1 from IsS70.pk HI0.out) (pkR HO_965001.out) (by decide)) hk (fun _ h => h.2)) (fun _ h => h.1))
              have n2_ := am (KeepBut.blk hk (g' := gb963) (o := .cells #[.slice none 0 0, .slice none 0 0] 33 (0, 0)) (pkK BK963.out) NB963_0.out (by simp))
              have n3_ := am (KeepBut.blk hk (g' := gb964) (o := .cells #[.slice Ao17 x965000_1.length co17, .slice Ao18 x965001_1.length co18] 33 (0, 0)) (pkK BK964.out) NB964_0.out (by simp))
              have n4_ := am (KeepBut.trans (pkH HK.out) hk (.inl rfl))
              have n5_ := am (hb)
              have n6_ := am (hi)
              clear HO_965000 HO_965001 BK963 BK964 HK HB HI0
              have HO_965000 := n0_; have HO_965001 := n1_; have BK963 := n2_; have BK964 := n3_; have HK := n4_; have HB := n5_; have HI0 := n6_
              clear n0_ n1_ n2_ n3_ n4_ n5_ n6_
              (try clear hb); (try clear hb2); (try clear hk); (try clear hi)
              refine hK.out _ _ ⟨(blk_cell BK964.out 0).trans rfl, (blk_cell BK964.out 1).trans rfl⟩ (fun hHeld => ?_)
              clear hK K
              refine norm_ (a' := ?_) ?_ ?_
              rotate_left
              · show Act.put _ (some 29) _ = _
                simp only [Act.put, List.setIfInBounds_toArray, List.set_cons_zero, List.set_cons_succ, i64_w, i32_w]
                rfl
              refine pure_ (i := 5) (N := some 30) (v := ?_) (a' := ?_) #[true, true, true, true, true, true, false, false, false, false, false, false, false, false, false] rfl rfl (any_of HT_.out (by kernel_rfl)) (fun _ _ _ h => h) (Or.inl ⟨by rfl, ?_⟩) ?_ ?_
              rotate_left
              · intro w'
                go_simp
                with_reducible rfl
              rotate_left
              · simp only [Act.put, List.setIfInBounds_toArray, List.set_cons_zero, List.set_cons_succ, i64_w, i32_w]
                rfl
              refine two_ (i := 6) (j := 11) (Ni := some 31) (Nj := some 8) #[true, true, true, true, true, true, true, false, false, false, false, false, false, false, false] #[true, true, true, true, true, true, false, false, false, false, false, true, false, false, false] rfl rfl rfl rfl (two_of HT_.out (by kernel_rfl)) (by decide) (by decide) (fun K hK => ?_) (fun K hK => ?_)
              · skip
                refine goes_ Try.func39 (by kernel_rfl) rfl #[.agg #[.slice Ao17 x965000_1.length co17, .slice Ao18 x965001_1.length co18], .int .i64 (wrap64 (t968 - 1))] (by rfl) rfl rfl mpx ?_
                with_reducible refine (spec_NewToken.calls k1 _ _ x965000_1 _ _ x965001_1 (wrap64 (t968 - 1)) t971 t974 t977 t978 _ ?side1 ?side2 ?side3 ?side4 A12.out).mono ?_
                (case side1 => exact pkC (Kd.R_reads' HO_965000.out).2.2)
                (case side2 => exact (Kd.R_reads' HO_965000.out).2.1)
                (case side3 => exact pkC (Kd.R_reads' HO_965001.out).2.2)
                (case side4 => exact (Kd.R_reads' HO_965001.out).2.1)
                rintro e w21 ⟨v972, v975, rfl, ho0, ho1, hb⟩
                refine ⟨_, rfl, ?_⟩
                have n0_ := am (Kd.R_elder' (pkR HO_965000.out) (Kd.R_base ho0) hb)
                have n1_ := am (Kd.R_elder' (pkR HO_965001.out) (Kd.R_base ho1) hb)
                have n2_ := am (Kd.R_lower (Kd.R_new' ho0 (Kd.R_lt (pkR HO_965000.out))) (keep_size (w := w) (g := g) (row := none) (pkH HK.out)))
                have n3_ := am (Kd.R_lower (Kd.R_new' ho1 (Kd.R_lt (pkR HO_965001.out))) (keep_size (w := w) (g := g) (row := none) (pkH HK.out)))
                have n4_ := am (blk_below (pkK BK963.out) hb)
                have n5_ := am (blk_below (pkK BK964.out) hb)
                have n6_ := am (IsS70.below (IsS70.pk HI0.out) hb)
                have n7_ := am (KeepBut.trans (pkH HK.out) (KeepBut.of_below hb g none) (.inl rfl))
                have n8_ := am (below_step (by repeat (first | (with_reducible first | exact HB.out | apply below_alloc | apply pw_below_drewN | apply below_drew1 | refine below_set ?_ (IsS70.ge HI0.out) | refine below_set ?_ GE963.out | refine below_set ?_ GE964.out) | exact HB.out)) hb)
                clear HO_965000 HO_965001 BK963 BK964 HI0 HK HB
                have HO_965000 := n0_; have HO_965001 := n1_; have HO973 := n2_; have HO976 := n3_; have BK963 := n4_; have BK964 := n5_; have HI0 := n6_; have HK := n7_; have HB := n8_
                clear n0_ n1_ n2_ n3_ n4_ n5_ n6_ n7_ n8_
                (try clear hb); (try clear hb2); (try clear hk); (try clear hi); (try clear ho0); (try clear ho1)
                refine hK.out _ _ ⟨(blk_cell BK964.out 0).trans rfl, (blk_cell BK964.out 1).trans rfl⟩ (fun hHeld => ?_)
                clear hK K
                refine norm_ (a' := ?_) ?_ ?_
                rotate_left
                · show Act.put _ (some 31) _ = _
                  simp only [Act.put, List.setIfInBounds_toArray, List.set_cons_zero, List.set_cons_succ, i64_w, i32_w]
                  rfl
                refine pure_ (i := 7) (N := some 24) (v := ?_) (a' := ?_) #[true, true, true, true, true, true, true, true, false, false, false, false, false, false, false] rfl rfl (any_of HT_.out (by kernel_rfl)) (fun _ _ _ h => h) (Or.inl ⟨by rfl, ?_⟩) ?_ ?_
                rotate_left
                · intro w'
                  go_simp
                  with_reducible rfl
                rotate_left
                · simp only [Act.put, List.setIfInBounds_toArray, List.set_cons_zero, List.set_cons_succ, i64_w, i32_w]
                  rfl
                refine pure_ (i := 8) (N := some 32) (v := ?_) (a' := ?_) #[true, true, true, true, true, true, true, true, true, false, false, false, false, false, false] rfl rfl (any_of HT_.out (by kernel_rfl)) (fun _ _ _ h => h) (Or.inl ⟨by rfl, ?_⟩) ?_ ?_
                rotate_left
                · intro w'
                  go_simp
                  with_reducible rfl
                rotate_left
                · simp only [Act.put, List.setIfInBounds_toArray, List.set_cons_zero, List.set_cons_succ, i64_w, i32_w]
                  rfl
                refine pure_ (i := 9) (N := some 33) (v := ?_) (a' := ?_) #[true, true, true, true, true, true, true, true, true, true, false, false, false, false, false] rfl rfl (any_of HT_.out (by kernel_rfl)) (fun _ _ _ h => h) (Or.inl ⟨by rfl, ?_⟩) ?_ ?_
                rotate_left
                · intro w'
                  go_simp
                  with_reducible rfl
                rotate_left
                · simp only [Act.put, List.setIfInBounds_toArray, List.set_cons_zero, List.set_cons_succ, i64_w, i32_w]
                  rfl
                refine pure_ (i := 10) (N := some 34) (v := ?_) (a' := ?_) #[true, true, true, true, true, true, true, true, true, true, true, false, false, false, false] rfl rfl (any_of HT_.out (by kernel_rfl)) (fun _ _ _ h => h) (Or.inl ⟨by rfl, ?_⟩) ?_ ?_
                rotate_left
                · intro w'
                  go_simp
                  with_reducible rfl
                rotate_left
                · simp only [Act.put, List.setIfInBounds_toArray, List.set_cons_zero, List.set_cons_succ, i64_w, i32_w]
                  rfl
                refine one_ (i := 11) (N := some 8) #[true, true, true, true, true, true, true, true, true, true, true, true, false, false, false] rfl rfl (one_of HT_.out (by kernel_rfl)) (by decide) (fun K hK => ?_)
                refine box_step ?hg (N := 8) ?hd (cs := #[.slice none 0 0, .slice none 0 0]) (t := 33) ?hr ?_; (case hd => rfl); (case hg => rfl); (case hr => first | (go_simp; done) | (go_simp; rfl))
                intro gb979 hg w22 hbox hb
                have n0_ := am (Kd.R_below (pkR HO_965000.out) hb)
                have n1_ := am (Kd.R_below (pkR HO_965001.out) hb)
                have n2_ := am (Kd.R_below (pkR HO973.out) hb)
                have n3_ := am (Kd.R_below (pkR HO976.out) hb)
                have n4_ := am (blk_below (pkK BK963.out) hb)
                have n5_ := am (blk_below (pkK BK964.out) hb)
                have n6_ := am (IsS70.below (IsS70.pk HI0.out) hb)
                have n7_ := am (KeepBut.trans (pkH HK.out) (KeepBut.of_below hb g none) (.inl rfl))
                have n8_ := am (below_step (by repeat (first | (with_reducible first | exact HB.out | apply below_alloc | apply pw_below_drewN | apply below_drew1 | refine below_set ?_ (IsS70.ge HI0.out) | refine below_set ?_ GE963.out | refine below_set ?_ GE964.out) | exact HB.out)) hb)
                have n9_ := am (hbox)
                have n10_ := am ((by rw [hg]; first | done | exact (keep_size (w := w) (g := g) (row := none) (pkH HK.out)) : w.heap.size ≤ gb979))
                have n11_ := am ((Nat.le_trans HW0.out (by rw [hg]; first | done | exact (keep_size (w := w) (g := g) (row := none) (pkH HK.out)) : w.heap.size ≤ gb979) : w0.heap.size ≤ gb979))
                have n12_ := am ((by rw [hg]; exact Nat.ne_of_lt (blk_lt (g := gb963) (o := .cells #[.slice none 0 0, .slice none 0 0] 33 (0, 0)) (pkK BK963.out)) : gb963 ≠ gb979))
                have n13_ := am ((by rw [hg]; exact Nat.ne_of_gt (blk_lt (g := gb963) (o := .cells #[.slice none 0 0, .slice none 0 0] 33 (0, 0)) (pkK BK963.out)) : gb979 ≠ gb963))
                have n14_ := am ((by rw [hg]; exact Nat.ne_of_lt (blk_lt (g := gb964) (o := .cells #[.slice Ao17 x965000_1.length co17, .slice Ao18 x965001_1.length co18] 33 (0, 0)) (pkK BK964.out)) : gb964 ≠ gb979))
                have n15_ := am ((by rw [hg]; exact Nat.ne_of_gt (blk_lt (g := gb964) (o := .cells #[.slice Ao17 x965000_1.length co17, .slice Ao18 x965001_1.length co18] 33 (0, 0)) (pkK BK964.out)) : gb979 ≠ gb964))
                have n16_ := am ((by rw [hg]; exact Nat.ne_of_lt (IsS70.lt (show IsS70 w0 _ g s0_0 t969 t970 from IsS70.pk HI0.out)) : g ≠ gb979))
                have n17_ := am ((by rw [hg]; exact Nat.ne_of_gt (IsS70.lt (show IsS70 w0 _ g s0_0 t969 t970 from IsS70.pk HI0.out)) : gb979 ≠ g))
                clear HO_965000 HO_965001 HO973 HO976 BK963 BK964 HI0 HK HB
                have HO_965000 := n0_; have HO_965001 := n1_; have HO973 := n2_; have HO976 := n3_; have BK963 := n4_; have BK964 := n5_; have HI0 := n6_; have HK := n7_; have HB := n8_; have BK979 := n9_; have GW979 := n10_; have GE979 := n11_; have NB963_979 := n12_; have NB979_963 := n13_; have NB964_979 := n14_; have NB979_964 := n15_; have NB0_979 := n16_; have NB979_0 := n17_
                clear n0_ n1_ n2_ n3_ n4_ n5_ n6_ n7_ n8_ n9_ n10_ n11_ n12_ n13_ n14_ n15_ n16_ n17_ hb hbox hg
                refine hK.out _ _ ⟨(blk_cell BK964.out 0).trans rfl, (blk_cell BK964.out 1).trans rfl⟩ (fun hHeld => ?_)
                clear hK K
                refine norm_ (a' := ?_) ?_ ?_
                rotate_left
                · show Act.put _ (some 8) _ = _
                  simp only [Act.put, List.setIfInBounds_toArray, List.set_cons_zero, List.set_cons_succ, i64_w, i32_w]
                  rfl
                exact norm_ (by simp only [putAll, Act.put, List.setIfInBounds_toArray, List.set_cons_zero, List.set_cons_succ]) (hCont (v972, v975, gb979) _ ⟨hHeld, (by (with_reducible repeat (first | apply Kd.R_alloc | apply Kd.R_drewN | apply Kd.R_drew)); exact Kd.R_mono HO973.out (fun _ hk => hk.2)), (by (with_reducible repeat (first | apply Kd.R_alloc | apply Kd.R_drewN | apply Kd.R_drew)); exact Kd.R_mono HO976.out (fun _ hk => hk.2)), (by (with_reducible repeat (first | apply Kd.R_alloc | apply Kd.R_drewN | apply Kd.R_drew)); exact Kd.R_mono HO_965000.out (fun _ hk => hk.2)), (by (with_reducible repeat (first | apply Kd.R_alloc | apply Kd.R_drewN | apply Kd.R_drew)); exact Kd.R_mono HO_965001.out (fun _ hk => hk.2)), (pkK BK963.out), (pkK BK964.out), (pkK BK979.out), GW979.out, GE979.out, NB0_979.out, NB979_0.out, NB963_979.out, NB979_963.out, NB964_979.out, NB979_964.out, (IsS70.pk HI0.out), (pkH HK.out), (by repeat (first | (with_reducible first | exact HB.out | apply below_alloc | apply pw_below_drewN | apply below_drew1 | refine below_set ?_ (IsS70.ge HI0.out) | refine below_set ?_ GE963.out | refine below_set ?_ GE964.out | refine below_set ?_ GE979.out) | exact HB.out))⟩)
              · skip
                refine box_step ?hg (N := 8) ?hd (cs := #[.slice none 0 0, .slice none 0 0]) (t := 33) ?hr ?_; (case hd => rfl); (case hg => rfl); (case hr => first | (go_simp; done) | (go_simp; rfl))
                intro gb979 hg w21 hbox hb
                have n0_ := am (Kd.R_below (pkR HO_965000.out) hb)
                have n1_ := am (Kd.R_below (pkR HO_965001.out) hb)
                have n2_ := am (blk_below (pkK BK963.out) hb)
                have n3_ := am (blk_below (pkK BK964.out) hb)
                have n4_ := am (IsS70.below (IsS70.pk HI0.out) hb)
                have n5_ := am (KeepBut.trans (pkH HK.out) (KeepBut.of_below hb g none) (.inl rfl))
                have n6_ := am (below_step (by repeat (first | (with_reducible first | exact HB.out | apply below_alloc | apply pw_below_drewN | apply below_drew1 | refine below_set ?_ (IsS70.ge HI0.out) | refine below_set ?_ GE963.out | refine below_set ?_ GE964.out) | exact HB.out)) hb)
                have n7_ := am (hbox)
                have n8_ := am ((by rw [hg]; first | done | exact (keep_size (w := w) (g := g) (row := none) (pkH HK.out)) : w.heap.size ≤ gb979))
                have n9_ := am ((Nat.le_trans HW0.out (by rw [hg]; first | done | exact (keep_size (w := w) (g := g) (row := none) (pkH HK.out)) : w.heap.size ≤ gb979) : w0.heap.size ≤ gb979))
                have n10_ := am ((by rw [hg]; exact Nat.ne_of_lt (blk_lt (g := gb963) (o := .cells #[.slice none 0 0, .slice none 0 0] 33 (0, 0)) (pkK BK963.out)) : gb963 ≠ gb979))
                have n11_ := am ((by rw [hg]; exact Nat.ne_of_gt (blk_lt (g := gb963) (o := .cells #[.slice none 0 0, .slice none 0 0] 33 (0, 0)) (pkK BK963.out)) : gb979 ≠ gb963))
                have n12_ := am ((by rw [hg]; exact Nat.ne_of_lt (blk_lt (g := gb964) (o := .cells #[.slice Ao17 x965000_1.length co17, .slice Ao18 x965001_1.length co18] 33 (0, 0)) (pkK BK964.out)) : gb964 ≠ gb979))
                have n13_ := am ((by rw [hg]; exact Nat.ne_of_gt (blk_lt (g := gb964) (o := .cells #[.slice Ao17 x965000_1.length co17, .slice Ao18 x965001_1.length co18] 33 (0, 0)) (pkK BK964.out)) : gb979 ≠ gb964))
                have n14_ := am ((by rw [hg]; exact Nat.ne_of_lt (IsS70.lt (show IsS70 w0 _ g s0_0 t969 t970 from IsS70.pk HI0.out)) : g ≠ gb979))
                have n15_ := am ((by rw [hg]; exact Nat.ne_of_gt (IsS70.lt (show IsS70 w0 _ g s0_0 t969 t970 from IsS70.pk HI0.out)) : gb979 ≠ g))
                clear HO_965000 HO_965001 BK963 BK964 HI0 HK HB
                have HO_965000 := n0_; have HO_965001 := n1_; have BK963 := n2_; have BK964 := n3_; have HI0 := n4_; have HK := n5_; have HB := n6_; have BK979 := n7_; have GW979 := n8_; have GE979 := n9_; have NB963_979 := n10_; have NB979_963 := n11_; have NB964_979 := n12_; have NB979_964 := n13_; have NB0_979 := n14_; have NB979_0 := n15_
                clear n0_ n1_ n2_ n3_ n4_ n5_ n6_ n7_ n8_ n9_ n10_ n11_ n12_ n13_ n14_ n15_ hb hbox hg
                refine hK.out _ _ ⟨(blk_cell BK964.out 0).trans rfl, (blk_cell BK964.out 1).trans rfl⟩ (fun hHeld => ?_)
                clear hK K
                refine norm_ (a' := ?_) ?_ ?_
                rotate_left
                · show Act.put _ (some 8) _ = _
                  simp only [Act.put, List.setIfInBounds_toArray, List.set_cons_zero, List.set_cons_succ, i64_w, i32_w]
                  rfl
                refine one_ (i := 6) (N := some 31) #[true, true, true, true, true, true, true, false, false, false, false, true, false, false, false] rfl rfl (one_of HT_.out (by kernel_rfl)) (by decide) (fun K hK => ?_)
                refine goes_ Try.func39 (by kernel_rfl) rfl #[.agg #[.slice Ao17 x965000_1.length co17, .slice Ao18 x965001_1.length co18], .int .i64 (wrap64 (t968 - 1))] (by rfl) rfl rfl mpx ?_
                with_reducible refine (spec_NewToken.calls k1 _ _ x965000_1 _ _ x965001_1 (wrap64 (t968 - 1)) t971 t974 t977 t978 _ ?side1 ?side2 ?side3 ?side4 A12.out).mono ?_
                (case side1 => exact pkC (Kd.R_reads' HO_965000.out).2.2)
                (case side2 => exact (Kd.R_reads' HO_965000.out).2.1)
                (case side3 => exact pkC (Kd.R_reads' HO_965001.out).2.2)
                (case side4 => exact (Kd.R_reads' HO_965001.out).2.1)
                rintro e w22 ⟨v972, v975, rfl, ho0, ho1, hb⟩
                refine ⟨_, rfl, ?_⟩
                have n0_ := am (Kd.R_elder' (pkR HO_965000.out) (Kd.R_base ho0) hb)
                have n1_ := am (Kd.R_elder' (pkR HO_965001.out) (Kd.R_base ho1) hb)
                have n2_ := am (Kd.R_lower (Kd.R_new' ho0 (Kd.R_lt (pkR HO_965000.out))) (keep_size (w := w) (g := g) (row := none) (pkH HK.out)))
                have n3_ := am (Kd.R_lower (Kd.R_new' ho1 (Kd.R_lt (pkR HO_965001.out))) (keep_size (w := w) (g := g) (row := none) (pkH HK.out)))
                have n4_ := am (blk_below (pkK BK963.out) hb)
                have n5_ := am (blk_below (pkK BK964.out) hb)
                have n6_ := am (IsS70.below (IsS70.pk HI0.out) hb)
                have n7_ := am (blk_below (pkK BK979.out) hb)
                have n8_ := am (KeepBut.trans (pkH HK.out) (KeepBut.of_below hb g none) (.inl rfl))
                have n9_ := am (below_step (by repeat (first | (with_reducible first | exact HB.out | apply below_alloc | apply pw_below_drewN | apply below_drew1 | refine below_set ?_ (IsS70.ge HI0.out) | refine below_set ?_ GE963.out | refine below_set ?_ GE964.out | refine below_set ?_ GE979.out) | exact HB.out)) hb)
                clear HO_965000 HO_965001 BK963 BK964 HI0 BK979 HK HB
                have HO_965000 := n0_; have HO_965001 := n1_; have HO973 := n2_; have HO976 := n3_; have BK963 := n4_; have BK964 := n5_; have HI0 := n6_; have BK979 := n7_; have HK := n8_; have HB := n9_
                clear n0_ n1_ n2_ n3_ n4_ n5_ n6_ n7_ n8_ n9_
                (try clear hb); (try clear hb2); (try clear hk); (try clear hi); (try clear ho0); (try clear ho1)
                refine hK.out _ _ ⟨(blk_cell BK964.out 0).trans rfl, (blk_cell BK964.out 1).trans rfl⟩ (fun hHeld => ?_)
                clear hK K
                refine norm_ (a' := ?_) ?_ ?_
                rotate_left
                · show Act.put _ (some 31) _ = _
                  simp only [Act.put, List.setIfInBounds_toArray, List.set_cons_zero, List.set_cons_succ, i64_w, i32_w]
                  rfl
                refine pure_ (i := 7) (N := some 24) (v := ?_) (a' := ?_) #[true, true, true, true, true, true, true, true, false, false, false, true, false, false, false] rfl rfl (any_of HT_.out (by kernel_rfl)) (fun _ _ _ h => h) (Or.inl ⟨by rfl, ?_⟩) ?_ ?_
                rotate_left
                · intro w'
                  go_simp
                  with_reducible rfl
                rotate_left
                · simp only [Act.put, List.setIfInBounds_toArray, List.set_cons_zero, List.set_cons_succ, i64_w, i32_w]
                  rfl
                refine pure_ (i := 8) (N := some 32) (v := ?_) (a' := ?_) #[true, true, true, true, true, true, true, true, true, false, false, true, false, false, false] rfl rfl (any_of HT_.out (by kernel_rfl)) (fun _ _ _ h => h) (Or.inl ⟨by rfl, ?_⟩) ?_ ?_
                rotate_left
                · intro w'
                  go_simp
                  with_reducible rfl
                rotate_left
                · simp only [Act.put, List.setIfInBounds_toArray, List.set_cons_zero, List.set_cons_succ, i64_w, i32_w]
                  rfl
                refine pure_ (i := 9) (N := some 33) (v := ?_) (a' := ?_) #[true, true, true, true, true, true, true, true, true, true, false, true, false, false, false] rfl rfl (any_of HT_.out (by kernel_rfl)) (fun _ _ _ h => h) (Or.inl ⟨by rfl, ?_⟩) ?_ ?_
                rotate_left
                · intro w'
                  go_simp
                  with_reducible rfl
                rotate_left
                · simp only [Act.put, List.setIfInBounds_toArray, List.set_cons_zero, List.set_cons_succ, i64_w, i32_w]
                  rfl
                refine pure_ (i := 10) (N := some 34) (v := ?_) (a' := ?_) #[true, true, true, true, true, true, true, true, true, true, true, true, false, false, false] rfl rfl (any_of HT_.out (by kernel_rfl)) (fun _ _ _ h => h) (Or.inl ⟨by rfl, ?_⟩) ?_ ?_
                rotate_left
                · intro w'
                  go_simp
                  with_reducible rfl
                rotate_left
                · simp only [Act.put, List.setIfInBounds_toArray, List.set_cons_zero, List.set_cons_succ, i64_w, i32_w]
                  rfl
                exact norm_ (by simp only [putAll, Act.put, List.setIfInBounds_toArray, List.set_cons_zero, List.set_cons_succ]) (hCont (v972, v975, gb979) _ ⟨hHeld, (by (with_reducible repeat (first | apply Kd.R_alloc | apply Kd.R_drewN | apply Kd.R_drew)); exact Kd.R_mono HO973.out (fun _ hk => hk.2)), (by (with_reducible repeat (first | apply Kd.R_alloc | apply Kd.R_drewN | apply Kd.R_drew)); exact Kd.R_mono HO976.out (fun _ hk => hk.2)), (by (with_reducible repeat (first | apply Kd.R_alloc | apply Kd.R_drewN | apply Kd.R_drew)); exact Kd.R_mono HO_965000.out (fun _ hk => hk.2)), (by (with_reducible repeat (first | apply Kd.R_alloc | apply Kd.R_drewN | apply Kd.R_drew)); exact Kd.R_mono HO_965001.out (fun _ hk => hk.2)), (pkK BK963.out), (pkK BK964.out), (pkK BK979.out), GW979.out, GE979.out, NB0_979.out, NB979_0.out, NB963_979.out, NB979_963.out, NB964_979.out, NB979_964.out, (IsS70.pk HI0.out), (pkH HK.out), (by repeat (first | (with_reducible first | exact HB.out | apply below_alloc | apply pw_below_drewN | apply below_drew1 | refine below_set ?_ (IsS70.ge HI0.out) | refine below_set ?_ GE963.out | refine below_set ?_ GE964.out | refine below_set ?_ GE979.out) | exact HB.out))⟩)
            · skip
              refine box_step ?hg (N := 8) ?hd (cs := #[.slice none 0 0, .slice none 0 0]) (t := 33) ?hr ?_; (case hd => rfl); (case hg => rfl); (case hr => first | (go_simp; done) | (go_simp; rfl))
              intro gb979 hg w20 hbox hb
              have n0_ := am (Kd.R_below (pkR HO_965000.out) hb)
              have n1_ := am (Kd.R_below (pkR HO_965001.out) hb)
              have n2_ := am (blk_below (pkK BK963.out) hb)
              have n3_ := am (blk_below (pkK BK964.out) hb)
              have n4_ := am (IsS70.below (IsS70.pk HI0.out) hb)
              have n5_ := am (KeepBut.trans (pkH HK.out) (KeepBut.of_below hb g none) (.inl rfl))
              have n6_ := am (below_step (by repeat (first | (with_reducible first | exact HB.out | apply below_alloc | apply pw_below_drewN | apply below_drew1 | refine below_set ?_ (IsS70.ge HI0.out) | refine below_set ?_ GE963.out | refine below_set ?_ GE964.out) | exact HB.out)) hb)
              have n7_ := am (hbox)
              have n8_ := am ((by rw [hg]; first | done | exact (keep_size (w := w) (g := g) (row := none) (pkH HK.out)) : w.heap.size ≤ gb979))
              have n9_ := am ((Nat.le_trans HW0.out (by rw [hg]; first | done | exact (keep_size (w := w) (g := g) (row := none) (pkH HK.out)) : w.heap.size ≤ gb979) : w0.heap.size ≤ gb979))
              have n10_ := am ((by rw [hg]; exact Nat.ne_of_lt (blk_lt (g := gb963) (o := .cells #[.slice none 0 0, .slice none 0 0] 33 (0, 0)) (pkK BK963.out)) : gb963 ≠ gb979))
              have n11_ := am ((by rw [hg]; exact Nat.ne_of_gt (blk_lt (g := gb963) (o := .cells #[.slice none 0 0, .slice none 0 0] 33 (0, 0)) (pkK BK963.out)) : gb979 ≠ gb963))
              have n12_ := am ((by rw [hg]; exact Nat.ne_of_lt (blk_lt (g := gb964) (o := .cells #[.slice Ao17 x965000_1.length co17, .slice Ao18 x965001_1.length co18] 33 (0, 0)) (pkK BK964.out)) : gb964 ≠ gb979))
              have n13_ := am ((by rw [hg]; exact Nat.ne_of_gt (blk_lt (g := gb964) (o := .cells #[.slice Ao17 x965000_1.length co17, .slice Ao18 x965001_1.length co18] 33 (0, 0)) (pkK BK964.out)) : gb979 ≠ gb964))
              have n14_ := am ((by rw [hg]; exact Nat.ne_of_lt (IsS70.lt (show IsS70 w0 _ g s0_0 x1001_1 x1002_1 from IsS70.pk HI0.out)) : g ≠ gb979))
              have n15_ := am ((by rw [hg]; exact Nat.ne_of_gt (IsS70.lt (show IsS70 w0 _ g s0_0 x1001_1 x1002_1 from IsS70.pk HI0.out)) : gb979 ≠ g))
              clear HO_965000 HO_965001 BK963 BK964 HI0 HK HB
              have HO_965000 := n0_; have HO_965001 := n1_; have BK963 := n2_; have BK964 := n3_; have HI0 := n4_; have HK := n5_; have HB := n6_; have BK979 := n7_; have GW979 := n8_; have GE979 := n9_; have NB963_979 := n10_; have NB979_963 := n11_; have NB964_979 := n12_; have NB979_964 := n13_; have NB0_979 := n14_; have NB979_0 := n15_
              clear n0_ n1_ n2_ n3_ n4_ n5_ n6_ n7_ n8_ n9_ n10_ n11_ n12_ n13_ n14_ n15_ hb hbox hg
              refine hK.out _ _ ⟨(blk_cell BK964.out 0).trans rfl, (blk_cell BK964.out 1).trans rfl⟩ (fun hHeld => ?_)
              clear hK K
              refine norm_ (a' := ?_) ?_ ?_
              rotate_left
              · show Act.put _ (some 8) _ = _
                simp only [Act.put, List.setIfInBounds_toArray, List.set_cons_zero, List.set_cons_succ, i64_w, i32_w]
                rfl
              refine one_ (i := 4) (N := some 29) #[true, true, true, true, true, false, false, false, false, false, false, true, false, false, false] rfl rfl (one_of HT_.out (by kernel_rfl)) (by decide) (fun K hK => ?_)
              refine goes_ Try.func77 (by kernel_rfl) rfl #[.pointer (some ⟨g, 0, none⟩), .int .i64 (wrap64 (x7_1 + 1))] (by rfl) rfl rfl mpx ?_
              with_reducible refine (spec_l1Below.calls g s0_0 x1001_1 x1002_1 (wrap64 (x7_1 + 1)) t968 t969 t970 w0 _ ?side1 ?side2 A11.out).mono ?_
              (case side1 => repeat (first | (with_reducible first | exact HI0.out | apply IsS70.alloc | apply IsS70.drewN | apply IsS70.drew | apply IsS70.set_1 | apply IsS70.set_2 | refine IsS70.far ?_ NB0_963.out _ | refine IsS70.far ?_ NB0_964.out _ | refine IsS70.far ?_ NB0_979.out _) | exact HI0.out))
              (case side2 => repeat (first | (with_reducible first | exact HB.out | apply below_alloc | apply pw_below_drewN | apply below_drew1 | refine below_set ?_ (IsS70.ge HI0.out) | refine below_set ?_ GE963.out | refine below_set ?_ GE964.out | refine below_set ?_ GE979.out) | exact HB.out))
              rintro e w21 ⟨rfl, hi, hb, hk⟩
              refine ⟨_, rfl, ?_⟩
              have n0_ := am (Kd.R_mono (Kd.R_keep (IsS70.apart (show IsS70 w0 _ g s0_0 x1001_1 x1002_1 from IsS70.pk HI0.out) (pkR HO_965000.out) (by decide)) hk (fun _ h => h.2)) (fun _ h => h.1))
              have n1_ := am (Kd.R_mono (Kd.R_keep (IsS70.apart (show IsS70 w0 _ g s0_0 x1001_1 x1002_1 from IsS70.pk HI0.out) (pkR HO_965001.out) (by decide)) hk (fun _ h => h.2)) (fun _ h => h.1))
              have n2_ := am (KeepBut.blk hk (g' := gb963) (o := .cells #[.slice none 0 0, .slice none 0 0] 33 (0, 0)) (pkK BK963.out) NB963_0.out (by simp))
              have n3_ := am (KeepBut.blk hk (g' := gb964) (o := .cells #[.slice Ao17 x965000_1.length co17, .slice Ao18 x965001_1.length co18] 33 (0, 0)) (pkK BK964.out) NB964_0.out (by simp))
              have n4_ := am (KeepBut.blk hk (g' := gb979) (o := .cells #[.slice none 0 0, .slice none 0 0] 33 (0, 0)) (pkK BK979.out) NB979_0.out (by simp))
              have n5_ := am (KeepBut.trans (pkH HK.out) hk (.inl rfl))
              have n6_ := am (hb)
              have n7_ := am (hi)
              clear HO_965000 HO_965001 BK963 BK964 BK979 HK HB HI0
              have HO_965000 := n0_; have HO_965001 := n1_; have BK963 := n2_; have BK964 := n3_; have BK979 := n4_; have HK := n5_; have HB := n6_; have HI0 := n7_
              clear n0_ n1_ n2_ n3_ n4_ n5_ n6_ n7_
              (try clear hb); (try clear hb2); (try clear hk); (try clear hi)
              refine hK.out _ _ ⟨(blk_cell BK964.out 0).trans rfl, (blk_cell BK964.out 1).trans rfl⟩ (fun hHeld => ?_)
              clear hK K
              refine norm_ (a' := ?_) ?_ ?_
              rotate_left
              · show Act.put _ (some 29) _ = _
                simp only [Act.put, List.setIfInBounds_toArray, List.set_cons_zero, List.set_cons_succ, i64_w, i32_w]
                rfl
              refine pure_ (i := 5) (N := some 30) (v := ?_) (a' := ?_) #[true, true, true, true, true, true, false, false, false, false, false, true, false, false, false] rfl rfl (any_of HT_.out (by kernel_rfl)) (fun _ _ _ h => h) (Or.inl ⟨by rfl, ?_⟩) ?_ ?_
              rotate_left
              · intro w'
                go_simp
                with_reducible rfl
              rotate_left
              · simp only [Act.put, List.setIfInBounds_toArray, List.set_cons_zero, List.set_cons_succ, i64_w, i32_w]
                rfl
              refine one_ (i := 6) (N := some 31) #[true, true, true, true, true, true, true, false, false, false, false, true, false, false, false] rfl rfl (one_of HT_.out (by kernel_rfl)) (by decide) (fun K hK => ?_)
              refine goes_ Try.func39 (by kernel_rfl) rfl #[.agg #[.slice Ao17 x965000_1.length co17, .slice Ao18 x965001_1.length co18], .int .i64 (wrap64 (t968 - 1))] (by rfl) rfl rfl mpx ?_
              with_reducible refine (spec_NewToken.calls k1 _ _ x965000_1 _ _ x965001_1 (wrap64 (t968 - 1)) t971 t974 t977 t978 _ ?side1 ?side2 ?side3 ?side4 A12.out).mono ?_
              (case side1 => exact pkC (Kd.R_reads' HO_965000.out).2.2)
              (case side2 => exact (Kd.R_reads' HO_965000.out).2.1)
              (case side3 => exact pkC (Kd.R_reads' HO_965001.out).2.2)
              (case side4 => exact (Kd.R_reads' HO_965001.out).2.1)
              rintro e w22 ⟨v972, v975, rfl, ho0, ho1, hb⟩
              refine ⟨_, rfl, ?_⟩
              have n0_ := am (Kd.R_elder' (pkR HO_965000.out) (Kd.R_base ho0) hb)
              have n1_ := am (Kd.R_elder' (pkR HO_965001.out) (Kd.R_base ho1) hb)
              have n2_ := am (Kd.R_lower (Kd.R_new' ho0 (Kd.R_lt (pkR HO_965000.out))) (keep_size (w := w) (g := g) (row := none) (pkH HK.out)))
              have n3_ := am (Kd.R_lower (Kd.R_new' ho1 (Kd.R_lt (pkR HO_965001.out))) (keep_size (w := w) (g := g) (row := none) (pkH HK.out)))
              have n4_ := am (blk_below (pkK BK963.out) hb)
              have n5_ := am (blk_below (pkK BK964.out) hb)
              have n6_ := am (IsS70.below (IsS70.pk HI0.out) hb)
              have n7_ := am (blk_below (pkK BK979.out) hb)
              have n8_ := am (KeepBut.trans (pkH HK.out) (KeepBut.of_below hb g none) (.inl rfl))
              have n9_ := am (below_step (by repeat (first | (with_reducible first | exact HB.out | apply below_alloc | apply pw_below_drewN | apply below_drew1 | refine below_set ?_ (IsS70.ge HI0.out) | refine below_set ?_ GE963.out | refine below_set ?_ GE964.out | refine below_set ?_ GE979.out) | exact HB.out)) hb)
              clear HO_965000 HO_965001 BK963 BK964 HI0 BK979 HK HB
              have HO_965000 := n0_; have HO_965001 := n1_; have HO973 := n2_; have HO976 := n3_; have BK963 := n4_; have BK964 := n5_; have HI0 := n6_; have BK979 := n7_; have HK := n8_; have HB := n9_
              clear n0_ n1_ n2_ n3_ n4_ n5_ n6_ n7_ n8_ n9_
              (try clear hb); (try clear hb2); (try clear hk); (try clear hi); (try clear ho0); (try clear ho1)
              refine hK.out _ _ ⟨(blk_cell BK964.out 0).trans rfl, (blk_cell BK964.out 1).trans rfl⟩ (fun hHeld => ?_)
              clear hK K
              refine norm_ (a' := ?_) ?_ ?_
              rotate_left
              · show Act.put _ (some 31) _ = _
                simp only [Act.put, List.setIfInBounds_toArray, List.set_cons_zero, List.set_cons_succ, i64_w, i32_w]
                rfl
              refine pure_ (i := 7) (N := some 24) (v := ?_) (a' := ?_) #[true, true, true, true, true, true, true, true, false, false, false, true, false, false, false] rfl rfl (any_of HT_.out (by kernel_rfl)) (fun _ _ _ h => h) (Or.inl ⟨by rfl, ?_⟩) ?_ ?_
              rotate_left
              · intro w'
                go_simp
                with_reducible rfl
              rotate_left
              · simp only [Act.put, List.setIfInBounds_toArray, List.set_cons_zero, List.set_cons_succ, i64_w, i32_w]
                rfl
              refine pure_ (i := 8) (N := some 32) (v := ?_) (a' := ?_) #[true, true, true, true, true, true, true, true, true, false, false, true, false, false, false] rfl rfl (any_of HT_.out (by kernel_rfl)) (fun _ _ _ h => h) (Or.inl ⟨by rfl, ?_⟩) ?_ ?_
              rotate_left
              · intro w'
                go_simp
                with_reducible rfl
              rotate_left
              · simp only [Act.put, List.setIfInBounds_toArray, List.set_cons_zero, List.set_cons_succ, i64_w, i32_w]
                rfl
              refine pure_ (i := 9) (N := some 33) (v := ?_) (a' := ?_) #[true, true, true, true, true, true, true, true, true, true, false, true, false, false, false] rfl rfl (any_of HT_.out (by kernel_rfl)) (fun _ _ _ h => h) (Or.inl ⟨by rfl, ?_⟩) ?_ ?_
              rotate_left
              · intro w'
                go_simp
                with_reducible rfl
              rotate_left
              · simp only [Act.put, List.setIfInBounds_toArray, List.set_cons_zero, List.set_cons_succ, i64_w, i32_w]
                rfl
              refine pure_ (i := 10) (N := some 34) (v := ?_) (a' := ?_) #[true, true, true, true, true, true, true, true, true, true, true, true, false, false, false] rfl rfl (any_of HT_.out (by kernel_rfl)) (fun _ _ _ h => h) (Or.inl ⟨by rfl, ?_⟩) ?_ ?_
              rotate_left
              · intro w'
                go_simp
                with_reducible rfl
              rotate_left
              · simp only [Act.put, List.setIfInBounds_toArray, List.set_cons_zero, List.set_cons_succ, i64_w, i32_w]
                rfl
              exact norm_ (by simp only [putAll, Act.put, List.setIfInBounds_toArray, List.set_cons_zero, List.set_cons_succ]) (hCont (v972, v975, gb979) _ ⟨hHeld, (by (with_reducible repeat (first | apply Kd.R_alloc | apply Kd.R_drewN | apply Kd.R_drew)); exact Kd.R_mono HO973.out (fun _ hk => hk.2)), (by (with_reducible repeat (first | apply Kd.R_alloc | apply Kd.R_drewN | apply Kd.R_drew)); exact Kd.R_mono HO976.out (fun _ hk => hk.2)), (by (with_reducible repeat (first | apply Kd.R_alloc | apply Kd.R_drewN | apply Kd.R_drew)); exact Kd.R_mono HO_965000.out (fun _ hk => hk.2)), (by (with_reducible repeat (first | apply Kd.R_alloc | apply Kd.R_drewN | apply Kd.R_drew)); exact Kd.R_mono HO_965001.out (fun _ hk => hk.2)), (pkK BK963.out), (pkK BK964.out), (pkK BK979.out), GW979.out, GE979.out, NB0_979.out, NB979_0.out, NB963_979.out, NB979_963.out, NB964_979.out, NB979_964.out, (IsS70.pk HI0.out), (pkH HK.out), (by repeat (first | (with_reducible first | exact HB.out | apply below_alloc | apply pw_below_drewN | apply below_drew1 | refine below_set ?_ (IsS70.ge HI0.out) | refine below_set ?_ GE963.out | refine below_set ?_ GE964.out | refine below_set ?_ GE979.out) | exact HB.out))⟩)
          rintro ⟨v972, v975, gb979⟩ w23 ⟨hS_, h0_, h1_, h2_, h3_, h4_, h5_, h6_, h7_, h8_, h9_, h10_, h11_, h12_, h13_, h14_, h15_, h16_, h17_⟩
          have n0_ : Aside0 (Kd.R (Kd.int .i64) 3 w23 w.heap.size (fun k_ => some k_ ≠ (.slice Ao17 x965000_1.length co17 : Value).ownBlock) v972 t971) := ⟨h0_⟩
          have n1_ : Aside0 (Kd.R Kd.bool 4 w23 w.heap.size (fun k_ => some k_ ≠ (.slice Ao18 x965001_1.length co18 : Value).ownBlock) v975 t974) := ⟨h1_⟩
          have n2_ : Aside0 (Kd.R (Kd.int .i64) 3 w23 w.heap.size (fun k_ => some k_ ≠ (v972 : Value).ownBlock) (.slice Ao17 x965000_1.length co17) x965000_1) := ⟨h2_⟩
          have n3_ : Aside0 (Kd.R Kd.bool 4 w23 w.heap.size (fun k_ => some k_ ≠ (v975 : Value).ownBlock) (.slice Ao18 x965001_1.length co18) x965001_1) := ⟨h3_⟩
          have n4_ : Aside0 (w23.heap[gb963]? = some (.cells #[.slice none 0 0, .slice none 0 0] 33 (0, 0))) := ⟨h4_⟩
          have n5_ : Aside0 (w23.heap[gb964]? = some (.cells #[.slice Ao17 x965000_1.length co17, .slice Ao18 x965001_1.length co18] 33 (0, 0))) := ⟨h5_⟩
          have n6_ : Aside0 (w23.heap[gb979]? = some (.cells #[.slice none 0 0, .slice none 0 0] 33 (0, 0))) := ⟨h6_⟩
          have n7_ : Aside0 (w.heap.size ≤ gb979) := ⟨h7_⟩
          have n8_ : Aside0 (w0.heap.size ≤ gb979) := ⟨h8_⟩
          have n9_ : Aside0 (g ≠ gb979) := ⟨h9_⟩
          have n10_ : Aside0 (gb979 ≠ g) := ⟨h10_⟩
          have n11_ : Aside0 (gb963 ≠ gb979) := ⟨h11_⟩
          have n12_ : Aside0 (gb979 ≠ gb963) := ⟨h12_⟩
          have n13_ : Aside0 (gb964 ≠ gb979) := ⟨h13_⟩
          have n14_ : Aside0 (gb979 ≠ gb964) := ⟨h14_⟩
          have n15_ : Aside0 (IsS70 w0 w23 g s0_0 t969 t970) := ⟨h15_⟩
          have n16_ : Aside0 (KeepBut w w23 g none) := ⟨h16_⟩
          have n17_ : Aside0 (Below w0.heap.size w0 w23) := ⟨h17_⟩
          clear HO_965000 HO_965001 BK963 BK964 HI0 HK HB h0_ h1_ h2_ h3_ h4_ h5_ h6_ h7_ h8_ h9_ h10_ h11_ h12_ h13_ h14_ h15_ h16_ h17_
          have HO973 := n0_; have HO976 := n1_; have HO_965000 := n2_; have HO_965001 := n3_; have BK963 := n4_; have BK964 := n5_; have BK979 := n6_; have GW979 := n7_; have GE979 := n8_; have NB0_979 := n9_; have NB979_0 := n10_; have NB963_979 := n11_; have NB979_963 := n12_; have NB964_979 := n13_; have NB979_964 := n14_; have HI0 := n15_; have HK := n16_; have HB := n17_
          clear n0_ n1_ n2_ n3_ n4_ n5_ n6_ n7_ n8_ n9_ n10_ n11_ n12_ n13_ n14_ n15_ n16_ n17_
          have hHeld : w23.cell? ⟨gb964, 0, none⟩ = some (.slice Ao17 x965000_1.length co17) ∧ w23.cell? ⟨gb964, 1, none⟩ = some (.slice Ao18 x965001_1.length co18) := hS_
          obtain ⟨Ao24, co24, eo24⟩ := Kd.R_slice HO973.out
          (first | subst eo24 | (injection eo24 with f1_ f2_ f3_; have f4_ := f1_.symm; have f5_ := f3_.symm; clear f1_ f2_ f3_; subst f4_; subst f5_))
          obtain ⟨Ao26, co26, eo26⟩ := Kd.R_slice HO976.out
          (first | subst eo26 | (injection eo26 with f1_ f2_ f3_; have f4_ := f1_.symm; have f5_ := f3_.symm; clear f1_ f2_ f3_; subst f4_; subst f5_))
          refine norm_ (a' := ?_) ?_ ?_
          rotate_left
          · simp only [putAll, Act.put, List.setIfInBounds_toArray, List.set_cons_zero, List.set_cons_succ]
            rfl
          refine one_ (i := 12) (N := none) #[true, true, true, true, true, true, true, true, true, true, true, true, true, false, false] rfl rfl (one_of HT_.out (by kernel_rfl)) (by decide) (fun K hK => ?_)
          have hs25 : w23.cell? ⟨gb979, 0, none⟩ = some (.slice none 0 0) := (blk_cell BK979.out 0).trans rfl
          have hfs25 := blk_frozen BK979.out 0
          have hns25_0 := NB963_979.out
          have hns25_1 := NB964_979.out
          have hms25_0 := NB979_963.out
          have hms25_1 := NB979_964.out
          have hs27 : w23.cell? ⟨gb979, 1, none⟩ = some (.slice none 0 0) := (blk_cell BK979.out 1).trans rfl
          have hfs27 := blk_frozen BK979.out 1
          have hns27_0 := NB963_979.out
          have hns27_1 := NB964_979.out
          have hms27_0 := NB979_963.out
          have hms27_1 := NB979_964.out
          refine skip_ (w1 := ?_) (by rfl) rfl ?_ ?_
          rotate_left
          · go_simp
            rfl
          refine hK.out _ _ ⟨((cell_far (p := ⟨gb979, _, none⟩) NB964_979.out _).trans (((cell_far (p := ⟨gb979, _, none⟩) NB964_979.out _).trans (hHeld.1)))), ((cell_far (p := ⟨gb979, _, none⟩) NB964_979.out _).trans (((cell_far (p := ⟨gb979, _, none⟩) NB964_979.out _).trans (hHeld.2))))⟩ (fun hHeld => ?_)
          clear hK K
          refine pure_ (i := 13) (N := some 9) (v := ?_) (a' := ?_) #[true, true, true, true, true, true, true, true, true, true, true, true, true, true, false] rfl rfl (any_of HT_.out (by kernel_rfl)) (fun _ _ _ h => h) (Or.inl ⟨by rfl, ?_⟩) ?_ ?_
          rotate_left
          · intro w'
            go_simp
            with_reducible rfl
          rotate_left
          · simp only [Act.put, List.setIfInBounds_toArray, List.set_cons_zero, List.set_cons_succ, i64_w, i32_w]
            rfl
          refine pure_ (i := 14) (N := some 10) (v := ?_) (a' := ?_) #[true, true, true, true, true, true, true, true, true, true, true, true, true, true, true] rfl rfl (any_of HT_.out (by kernel_rfl)) (fun _ _ _ h => h) (Or.inl ⟨by rfl, ?_⟩) ?_ ?_
          rotate_left
          · intro w'
            go_simp
            with_reducible rfl
          rotate_left
          · simp only [Act.put, List.setIfInBounds_toArray, List.set_cons_zero, List.set_cons_succ, i64_w, i32_w]
            rfl
          refine done_ (done_of HT_.out (by kernel_rfl)) ?_
          have hnb28 := NB979_963.out
          have hnc28 := NB963_979.out
          have hnb29 := NB979_964.out
          have hnc29 := NB964_979.out
          have hnb30 := NB979_0.out
          have hnc30 := NB0_979.out
          have hcz31_0 : w23.cell? ⟨gb979, 0, none⟩ = some (.slice none 0 0) := (blk_cell BK979.out 0).trans rfl
          have hcz31_1 : w23.cell? ⟨gb979, 1, none⟩ = some (.slice none 0 0) := (blk_cell BK979.out 1).trans rfl
          have hfz31_0 := blk_frozen BK979.out 0
          have hfz31_1 := blk_frozen BK979.out 1
          have hnb32 := NB964_963.out
          have hnc32 := NB963_964.out
          have hnb33 := NB964_0.out
          have hnc33 := NB0_964.out
          have hcz34_0 : w23.cell? ⟨gb964, 0, none⟩ = some (.slice Ao17 x965000_1.length co17) := (blk_cell BK964.out 0).trans rfl
          have hcz34_1 : w23.cell? ⟨gb964, 1, none⟩ = some (.slice Ao18 x965001_1.length co18) := (blk_cell BK964.out 1).trans rfl
          have hfz34_0 := blk_frozen BK964.out 0
          have hfz34_1 := blk_frozen BK964.out 1
          try go_wp2_with (first | ((with_reducible refine gate_callee (f := 83) rfl ?_); refine goesL_ (some 37) rfl rfl Try.func83 (by kernel_rfl) rfl #[.pointer (some ⟨g, 0, none⟩), .int .i64 6] rfl mpx ?_; (with_reducible refine (spec_l1Once.calls g s0_0 t969 t970 6 true t981 t982 w0 _ ?side1 ?side2 A13.out).mono ?_); (case side1 => repeat (first | (with_reducible first | exact HI0.out | apply IsS70.alloc | apply IsS70.drewN | apply IsS70.drew | apply IsS70.set_1 | apply IsS70.set_2 | refine IsS70.far ?_ NB0_963.out _ | refine IsS70.far ?_ NB0_964.out _ | refine IsS70.far ?_ NB0_979.out _) | exact HI0.out)); (case side2 => repeat (first | (with_reducible first | exact HB.out | apply below_alloc | apply pw_below_drewN | apply below_drew1 | refine below_set ?_ (IsS70.ge HI0.out) | refine below_set ?_ GE963.out | refine below_set ?_ GE964.out | refine below_set ?_ GE979.out) | exact HB.out)); rintro e w35 ⟨rfl, hi, hb, hk⟩; refine ⟨_, rfl, ?_⟩; have n0_ := am (Kd.R_mono (Kd.R_keep (IsS70.apart (show IsS70 w0 _ g s0_0 t969 t970 from IsS70.pk HI0.out) (by (with_reducible repeat (first | apply Kd.R_alloc | apply Kd.R_drewN | apply Kd.R_drew)); exact (Kd.R_mono (Kd.R_mono (Kd.R_far (p := ⟨gb964, 1, none⟩) (Kd.R_far (p := ⟨gb964, 0, none⟩) (Kd.R_far (p := ⟨gb979, 1, none⟩) (Kd.R_far (p := ⟨gb979, 0, none⟩) (Kd.R_types (Kd.R_types HO_965000.out BK979.out (by decide)) BK964.out (by decide)) (fun _ hk => hk.1.2) (.slice Ao24 t971.length co24)) (fun _ hk => hk.1.2) (.slice Ao26 t974.length co26)) (fun _ hk => hk.2) (.slice Ao24 t971.length co24)) (fun _ hk => hk.2) (.slice Ao26 t974.length co26)) (fun _ h_ => h_.1)) (fun _ h_ => h_.1))) (by decide)) hk (fun _ h => h.2)) (fun _ h => h.1)); have n1_ := am (Kd.R_mono (Kd.R_keep (IsS70.apart (show IsS70 w0 _ g s0_0 t969 t970 from IsS70.pk HI0.out) (by (with_reducible repeat (first | apply Kd.R_alloc | apply Kd.R_drewN | apply Kd.R_drew)); exact (Kd.R_mono (Kd.R_mono (Kd.R_far (p := ⟨gb964, 1, none⟩) (Kd.R_far (p := ⟨gb964, 0, none⟩) (Kd.R_far (p := ⟨gb979, 1, none⟩) (Kd.R_far (p := ⟨gb979, 0, none⟩) (Kd.R_types (Kd.R_types HO_965001.out BK979.out (by decide)) BK964.out (by decide)) (fun _ hk => hk.1.2) (.slice Ao24 t971.length co24)) (fun _ hk => hk.1.2) (.slice Ao26 t974.length co26)) (fun _ hk => hk.2) (.slice Ao24 t971.length co24)) (fun _ hk => hk.2) (.slice Ao26 t974.length co26)) (fun _ h_ => h_.1)) (fun _ h_ => h_.1))) (by decide)) hk (fun _ h => h.2)) (fun _ h => h.1)); have n2_ := am (KeepBut.blk hk (g' := gb963) (o := .cells #[.slice none 0 0, .slice none 0 0] 33 (0, 0)) (by (with_reducible repeat (first | refine blk_drewN ?_ _ | refine blk_drew ?_ | refine blk_alloc ?_ _)); refine blk_far ?_ NB963_964.out _; (with_reducible repeat (first | refine blk_drewN ?_ _ | refine blk_drew ?_ | refine blk_alloc ?_ _)); refine blk_far ?_ NB963_964.out _; (with_reducible repeat (first | refine blk_drewN ?_ _ | refine blk_drew ?_ | refine blk_alloc ?_ _)); refine blk_far ?_ NB963_979.out _; (with_reducible repeat (first | refine blk_drewN ?_ _ | refine blk_drew ?_ | refine blk_alloc ?_ _)); refine blk_far ?_ NB963_979.out _; exact pkK BK963.out) NB963_0.out (by simp)); have n3_ := am (KeepBut.blk hk (g' := gb964) (o := .cells #[.slice Ao24 t971.length co24, .slice Ao26 t974.length co26] 33 (0, 0)) (by (with_reducible repeat (first | refine blk_drewN ?_ _ | refine blk_drew ?_ | refine blk_alloc ?_ _)); refine blk_put (cs := #[.slice Ao24 t971.length co24, .slice Ao18 x965001_1.length co18]) ?_ 1 _ rfl; (with_reducible repeat (first | refine blk_drewN ?_ _ | refine blk_drew ?_ | refine blk_alloc ?_ _)); refine blk_put (cs := #[.slice Ao17 x965000_1.length co17, .slice Ao18 x965001_1.length co18]) ?_ 0 _ rfl; (with_reducible repeat (first | refine blk_drewN ?_ _ | refine blk_drew ?_ | refine blk_alloc ?_ _)); refine blk_far ?_ NB964_979.out _; (with_reducible repeat (first | refine blk_drewN ?_ _ | refine blk_drew ?_ | refine blk_alloc ?_ _)); refine blk_far ?_ NB964_979.out _; exact pkK BK964.out) NB964_0.out (by simp)); have n4_ := am (Kd.R_mono (Kd.R_keep (IsS70.apart (show IsS70 w0 _ g s0_0 t969 t970 from IsS70.pk HI0.out) (by (with_reducible repeat (first | apply Kd.R_alloc | apply Kd.R_drewN | apply Kd.R_drew)); exact (Kd.R_mono (Kd.R_mono (Kd.R_far (p := ⟨gb964, 1, none⟩) (Kd.R_far (p := ⟨gb964, 0, none⟩) (Kd.R_far (p := ⟨gb979, 1, none⟩) (Kd.R_far (p := ⟨gb979, 0, none⟩) (Kd.R_types (Kd.R_types HO973.out BK979.out (by decide)) BK964.out (by decide)) (fun _ hk => hk.1.2) (.slice Ao24 t971.length co24)) (fun _ hk => hk.1.2) (.slice Ao26 t974.length co26)) (fun _ hk => hk.2) (.slice Ao24 t971.length co24)) (fun _ hk => hk.2) (.slice Ao26 t974.length co26)) (fun _ h_ => h_.1)) (fun _ h_ => h_.1))) (by decide)) hk (fun _ h => h.2)) (fun _ h => h.1)); have n5_ := am (Kd.R_mono (Kd.R_keep (IsS70.apart (show IsS70 w0 _ g s0_0 t969 t970 from IsS70.pk HI0.out) (by (with_reducible repeat (first | apply Kd.R_alloc | apply Kd.R_drewN | apply Kd.R_drew)); exact (Kd.R_mono (Kd.R_mono (Kd.R_far (p := ⟨gb964, 1, none⟩) (Kd.R_far (p := ⟨gb964, 0, none⟩) (Kd.R_far (p := ⟨gb979, 1, none⟩) (Kd.R_far (p := ⟨gb979, 0, none⟩) (Kd.R_types (Kd.R_types HO976.out BK979.out (by decide)) BK964.out (by decide)) (fun _ hk => hk.1.2) (.slice Ao24 t971.length co24)) (fun _ hk => hk.1.2) (.slice Ao26 t974.length co26)) (fun _ hk => hk.2) (.slice Ao24 t971.length co24)) (fun _ hk => hk.2) (.slice Ao26 t974.length co26)) (fun _ h_ => h_.1)) (fun _ h_ => h_.1))) (by decide)) hk (fun _ h => h.2)) (fun _ h => h.1)); have n6_ := am (KeepBut.blk hk (g' := gb979) (o := .cells #[.slice Ao24 t971.length co24, .slice Ao26 t974.length co26] 33 (0, 0)) (by (with_reducible repeat (first | refine blk_drewN ?_ _ | refine blk_drew ?_ | refine blk_alloc ?_ _)); refine blk_far ?_ NB979_964.out _; (with_reducible repeat (first | refine blk_drewN ?_ _ | refine blk_drew ?_ | refine blk_alloc ?_ _)); refine blk_far ?_ NB979_964.out _; (with_reducible repeat (first | refine blk_drewN ?_ _ | refine blk_drew ?_ | refine blk_alloc ?_ _)); refine blk_put (cs := #[.slice Ao24 t971.length co24, .slice none 0 0]) ?_ 1 _ rfl; (with_reducible repeat (first | refine blk_drewN ?_ _ | refine blk_drew ?_ | refine blk_alloc ?_ _)); refine blk_put (cs := #[.slice none 0 0, .slice none 0 0]) ?_ 0 _ rfl; exact pkK BK979.out) NB979_0.out (by simp)); have n7_ := am (KeepBut.trans (pkH HK.out) hk (.inl rfl)); have n8_ := am (hb); have n9_ := am (hi); clear HO_965000 HO_965001 BK963 BK964 HO973 HO976 BK979 HK HB HI0; have HO_965000 := n0_; have HO_965001 := n1_; have BK963 := n2_; have BK964 := n3_; have HO973 := n4_; have HO976 := n5_; have BK979 := n6_; have HK := n7_; have HB := n8_; have HI0 := n9_; clear n0_ n1_ n2_ n3_ n4_ n5_ n6_ n7_ n8_ n9_; (try clear hb); (try clear hb2); (try clear hk); (try clear hi)))
          have n0_ := am (Kd.R_drew HO_965000.out)
          have n1_ := am (Kd.R_drew HO_965001.out)
          have n2_ := am (Kd.R_drew HO973.out)
          have n3_ := am (Kd.R_drew HO976.out)
          have n4_ := am (blk_drew BK963.out)
          have n5_ := am (blk_drew BK964.out)
          have n6_ := am (blk_drew BK979.out)
          have n7_ := am (IsS70.drew HI0.out)
          have n8_ := am (keep_drew HK.out)
          have n9_ := am (below_drew1 HB.out)
          clear HO_965000 HO_965001 HO973 HO976 BK963 BK964 BK979 HI0 HK HB
          have HO_965000 := n0_; have HO_965001 := n1_; have HO973 := n2_; have HO976 := n3_; have BK963 := n4_; have BK964 := n5_; have BK979 := n6_; have HI0 := n7_; have HK := n8_; have HB := n9_
          clear n0_ n1_ n2_ n3_ n4_ n5_ n6_ n7_ n8_ n9_
          refine start_ (n := 14) (S := fun w' => w'.cell? ⟨gb964, 0, none⟩ = some (.slice Ao24 t971.length co24) ∧ w'.cell? ⟨gb964, 1, none⟩ = some (.slice Ao26 t974.length co26)) (ds := []) #[false, false, false, false, false, false, false, false, false, false, false, false, false, false] (by kernel_rfl) rfl rfl ⟨(blk_cell BK964.out 0).trans rfl, (blk_cell BK964.out 1).trans rfl⟩ (fun hHeld => ?_); refine with_tabW spec_l3Tokens.tab9 spec_l3Tokens.bits9 (fun HT_ HW_ => ?_)
          generalize w35.drew = w36 at HO_965000 HO_965001 HO973 HO976 BK963 BK964 BK979 HI0 HK HB hHeld ⊢
          refine pure_ (i := 1) (N := some 40) (v := ?_) (a' := ?_) #[false, true, false, false, false, false, false, false, false, false, false, false, false, false] rfl rfl (any_of HT_.out (by kernel_rfl)) (fun _ _ _ h => h) (Or.inl ⟨by rfl, ?_⟩) ?_ ?_
          rotate_left
          · intro w'
            go_simp
            with_reducible rfl
          rotate_left
          · simp only [Act.put, List.setIfInBounds_toArray, List.set_cons_zero, List.set_cons_succ, i64_w, i32_w]
            rfl
          refine pure_ (i := 2) (N := some 41) (v := ?_) (a' := ?_) #[false, true, true, false, false, false, false, false, false, false, false, false, false, false] rfl rfl (any_of HT_.out (by kernel_rfl)) (fun _ _ _ h => h) (Or.inl ⟨by rfl, ?_⟩) ?_ ?_
          rotate_left
          · intro w'
            go_simp
            with_reducible rfl
          rotate_left
          · simp only [Act.put, List.setIfInBounds_toArray, List.set_cons_zero, List.set_cons_succ, i64_w, i32_w]
            rfl
          refine pure_ (i := 3) (N := some 42) (v := ?_) (a' := ?_) #[false, true, true, true, false, false, false, false, false, false, false, false, false, false] rfl rfl (any_of HT_.out (by kernel_rfl)) (fun _ _ _ h => h) (Or.inl ⟨by rfl, ?_⟩) ?_ ?_
          rotate_left
          · intro w'
            go_simp
            with_reducible rfl
          rotate_left
          · simp only [Act.put, List.setIfInBounds_toArray, List.set_cons_zero, List.set_cons_succ, i64_w, i32_w]
            rfl
          refine take_ (i := 0) (N := some 39) (v := ?_) (a' := ?_) #[true, true, true, true, false, false, false, false, false, false, false, false, false, false] rfl rfl (take_ofW HT_.out HW_.out (by kernel_rfl)) (fun _ _ _ h => h) (Or.inl ⟨by rfl, ?_⟩) hHeld ?_ ?_
          rotate_left
          · rintro w' ⟨s0, s1⟩
            go_simp
            with_reducible rfl
          rotate_left
          · simp only [Act.put, List.setIfInBounds_toArray, List.set_cons_zero, List.set_cons_succ, i64_w, i32_w]
            rfl
          refine join_ (σ := Value × Value × Value × Nat) 3 #[true, true, true, true, true, true, true, true, true, true, true, false, false, false] (fun s_ => [(43, .int .i64 t983), (44, .tuple #[.agg #[s_.1, s_.2.1], s_.2.2.1, .int .i64 t995]), (11, .pointer (some ⟨s_.2.2.2, 0, none⟩)), (38, .tuple #[.agg #[s_.1, s_.2.1], s_.2.2.1, .int .i64 t995]), (45, .agg #[s_.1, s_.2.1]), (46, s_.2.2.1), (47, .int .i64 t995)]) (fun s_ w' => (w'.cell? ⟨gb964, 0, none⟩ = some (.slice Ao24 t971.length co24) ∧ w'.cell? ⟨gb964, 1, none⟩ = some (.slice Ao26 t974.length co26)) ∧ (Kd.R (Kd.int .i64) 3 w' w.heap.size (fun k_ => some k_ ≠ (s_.1 : Value).ownBlock ∧ some k_ ≠ (s_.2.2.1 : Value).ownBlock ∧ some k_ ≠ (.slice Ao17 x965000_1.length co17 : Value).ownBlock) (.slice Ao24 t971.length co24) t971) ∧ (Kd.R Kd.bool 4 w' w.heap.size (fun k_ => some k_ ≠ (s_.2.1 : Value).ownBlock ∧ some k_ ≠ (.slice Ao18 x965001_1.length co18 : Value).ownBlock) (.slice Ao26 t974.length co26) t974) ∧ (Kd.R (Kd.int .i64) 3 w' w.heap.size (fun k_ => some k_ ≠ (.slice Ao24 t971.length co24 : Value).ownBlock ∧ some k_ ≠ (s_.2.2.1 : Value).ownBlock ∧ some k_ ≠ (.slice Ao17 x965000_1.length co17 : Value).ownBlock) s_.1 t986) ∧ (Kd.R Kd.bool 4 w' w.heap.size (fun k_ => some k_ ≠ (.slice Ao26 t974.length co26 : Value).ownBlock ∧ some k_ ≠ (.slice Ao18 x965001_1.length co18 : Value).ownBlock) s_.2.1 t989) ∧ (Kd.R (Kd.int .i64) 3 w' w.heap.size (fun k_ => some k_ ≠ (.slice Ao24 t971.length co24 : Value).ownBlock ∧ some k_ ≠ (s_.1 : Value).ownBlock ∧ some k_ ≠ (.slice Ao17 x965000_1.length co17 : Value).ownBlock) s_.2.2.1 t992) ∧ (Kd.R (Kd.int .i64) 3 w' w.heap.size (fun k_ => some k_ ≠ (.slice Ao24 t971.length co24 : Value).ownBlock ∧ some k_ ≠ (s_.1 : Value).ownBlock ∧ some k_ ≠ (s_.2.2.1 : Value).ownBlock) (.slice Ao17 x965000_1.length co17) x965000_1) ∧ (Kd.R Kd.bool 4 w' w.heap.size (fun k_ => some k_ ≠ (.slice Ao26 t974.length co26 : Value).ownBlock ∧ some k_ ≠ (s_.2.1 : Value).ownBlock) (.slice Ao18 x965001_1.length co18) x965001_1) ∧ (w'.heap[gb963]? = some (.cells #[.slice none 0 0, .slice none 0 0] 33 (0, 0))) ∧ (w'.heap[gb964]? = some (.cells #[.slice Ao24 t971.length co24, .slice Ao26 t974.length co26] 33 (0, 0))) ∧ (w'.heap[gb979]? = some (.cells #[.slice Ao24 t971.length co24, .slice Ao26 t974.length co26] 33 (0, 0))) ∧ (w'.heap[s_.2.2.2]? = some (.cells #[.slice none 0 0, .slice none 0 0] 33 (0, 0))) ∧ (w.heap.size ≤ s_.2.2.2) ∧ (w0.heap.size ≤ s_.2.2.2) ∧ (g ≠ s_.2.2.2) ∧ (s_.2.2.2 ≠ g) ∧ (gb963 ≠ s_.2.2.2) ∧ (s_.2.2.2 ≠ gb963) ∧ (gb964 ≠ s_.2.2.2) ∧ (s_.2.2.2 ≠ gb964) ∧ (gb979 ≠ s_.2.2.2) ∧ (s_.2.2.2 ≠ gb979) ∧ (IsS70 w0 w' g s0_0 t984 t985) ∧ (KeepBut w w' g none) ∧ (Below w0.heap.size w0 w')) ?_ ?_
          rotate_left
          · intro hCont
            refine two_ (i := 4) (j := 10) (Ni := some 43) (Nj := some 11) #[true, true, true, true, true, false, false, false, false, false, false, false, false, false] #[true, true, true, true, false, false, false, false, false, false, true, false, false, false] rfl rfl rfl rfl (two_of HT_.out (by kernel_rfl)) (by decide) (by decide) (fun K hK => ?_) (fun K hK => ?_)
            · skip
              refine goes_ Try.func77 (by kernel_rfl) rfl #[.pointer (some ⟨g, 0, none⟩), .int .i64 (wrap64 (x7_1 + 1))] (by rfl) rfl rfl mpx ?_
              with_reducible refine (spec_l1Below.calls g s0_0 t981 t982 (wrap64 (x7_1 + 1)) t983 t984 t985 w0 _ ?side1 ?side2 A15.out).mono ?_
              (case side1 => repeat (first | (with_reducible first | exact HI0.out | apply IsS70.alloc | apply IsS70.drewN | apply IsS70.drew | apply IsS70.set_1 | apply IsS70.set_2 | refine IsS70.far ?_ NB0_963.out _ | refine IsS70.far ?_ NB0_964.out _ | refine IsS70.far ?_ NB0_979.out _) | exact HI0.out))
              (case side2 => repeat (first | (with_reducible first | exact HB.out | apply below_alloc | apply pw_below_drewN | apply below_drew1 | refine below_set ?_ (IsS70.ge HI0.out) | refine below_set ?_ GE963.out | refine below_set ?_ GE964.out | refine below_set ?_ GE979.out) | exact HB.out))
              rintro e w37 ⟨rfl, hi, hb, hk⟩
              refine ⟨_, rfl, ?_⟩
              have n0_ := am (Kd.R_mono (Kd.R_keep (IsS70.apart (show IsS70 w0 _ g s0_0 t981 t982 from IsS70.pk HI0.out) (pkR HO_965000.out) (by decide)) hk (fun _ h => h.2)) (fun _ h => h.1))
              have n1_ := am (Kd.R_mono (Kd.R_keep (IsS70.apart (show IsS70 w0 _ g s0_0 t981 t982 from IsS70.pk HI0.out) (pkR HO_965001.out) (by decide)) hk (fun _ h => h.2)) (fun _ h => h.1))
              have n2_ := am (KeepBut.blk hk (g' := gb963) (o := .cells #[.slice none 0 0, .slice none 0 0] 33 (0, 0)) (pkK BK963.out) NB963_0.out (by simp))
              have n3_ := am (KeepBut.blk hk (g' := gb964) (o := .cells #[.slice Ao24 t971.length co24, .slice Ao26 t974.length co26] 33 (0, 0)) (pkK BK964.out) NB964_0.out (by simp))
              have n4_ := am (Kd.R_mono (Kd.R_keep (IsS70.apart (show IsS70 w0 _ g s0_0 t981 t982 from IsS70.pk HI0.out) (pkR HO973.out) (by decide)) hk (fun _ h => h.2)) (fun _ h => h.1))
              have n5_ := am (Kd.R_mono (Kd.R_keep (IsS70.apart (show IsS70 w0 _ g s0_0 t981 t982 from IsS70.pk HI0.out) (pkR HO976.out) (by decide)) hk (fun _ h => h.2)) (fun _ h => h.1))
              have n6_ := am (KeepBut.blk hk (g' := gb979) (o := .cells #[.slice Ao24 t971.length co24, .slice Ao26 t974.length co26] 33 (0, 0)) (pkK BK979.out) NB979_0.out (by simp))
              have n7_ := am (KeepBut.trans (pkH HK.out) hk (.inl rfl))
              have n8_ := am (hb)
              have n9_ := am (hi)
              clear HO_965000 HO_965001 BK963 BK964 HO973 HO976 BK979 HK HB HI0
              have HO_965000 := n0_; have HO_965001 := n1_; have BK963 := n2_; have BK964 := n3_; have HO973 := n4_; have HO976 := n5_; have BK979 := n6_; have HK := n7_; have HB := n8_; have HI0 := n9_
              clear n0_ n1_ n2_ n3_ n4_ n5_ n6_ n7_ n8_ n9_
              (try clear hb); (try clear hb2); (try clear hk); (try clear hi)
              refine hK.out _ _ ⟨(blk_cell BK964.out 0).trans rfl, (blk_cell BK964.out 1).trans rfl⟩ (fun hHeld => ?_)
              clear hK K
              refine norm_ (a' := ?_) ?_ ?_
              rotate_left
              · show Act.put _ (some 43) _ = _
                simp only [Act.put, List.setIfInBounds_toArray, List.set_cons_zero, List.set_cons_succ, i64_w, i32_w]
                rfl
              refine two_ (i := 5) (j := 10) (Ni := some 44) (Nj := some 11) #[true, true, true, true, true, true, false, false, false, false, false, false, false, false] #[true, true, true, true, true, false, false, false, false, false, true, false, false, false] rfl rfl rfl rfl (two_of HT_.out (by kernel_rfl)) (by decide) (by decide) (fun K hK => ?_) (fun K hK => ?_)
              · skip
                refine goes_ Try.func46 (by kernel_rfl) rfl #[.agg #[.slice Ao24 t971.length co24, .slice Ao26 t974.length co26], .int .i64 t983] (by rfl) rfl rfl mpx ?_
                with_reducible refine (spec_Cancel.calls k1 _ _ t971 _ _ t974 t983 t986 t989 t992 t995 _ ?side1 ?side2 ?side3 ?side4 A16.out).mono ?_
                (case side1 => exact pkC (Kd.R_reads' HO973.out).2.2)
                (case side2 => exact (Kd.R_reads' HO973.out).2.1)
                (case side3 => exact pkC (Kd.R_reads' HO976.out).2.2)
                (case side4 => exact (Kd.R_reads' HO976.out).2.1)
                rintro e w38 ⟨v987, v990, v993, rfl, ho0, ho1, ho2, hb⟩
                refine ⟨_, rfl, ?_⟩
                have n0_ := am (Kd.R_mono (Kd.R_told (Kd.R_told (Kd.R_old (pkR HO_965000.out) hb) (Kd.R_base ho0)) (Kd.R_base ho2)) (fun _ h_ => h_.1))
                have n1_ := am (Kd.R_elder' (pkR HO_965001.out) (Kd.R_base ho1) hb)
                have n2_ := am (Kd.R_mono (Kd.R_told (Kd.R_told (Kd.R_old (pkR HO973.out) hb) (Kd.R_base ho0)) (Kd.R_base ho2)) (fun _ h_ => h_.1))
                have n3_ := am (Kd.R_elder' (pkR HO976.out) (Kd.R_base ho1) hb)
                have n4_ := am (Kd.R_lower (Kd.R_new' (Kd.R_new' ho0 (Kd.R_lt (pkR HO_965000.out))) (Kd.R_lt (pkR HO973.out))) (keep_size (w := w) (g := g) (row := none) (pkH HK.out)))
                have n5_ := am (Kd.R_lower (Kd.R_new' (Kd.R_new' ho1 (Kd.R_lt (pkR HO_965001.out))) (Kd.R_lt (pkR HO976.out))) (keep_size (w := w) (g := g) (row := none) (pkH HK.out)))
                have n6_ := am (Kd.R_lower (Kd.R_new' (Kd.R_new' ho2 (Kd.R_lt (pkR HO_965000.out))) (Kd.R_lt (pkR HO973.out))) (keep_size (w := w) (g := g) (row := none) (pkH HK.out)))
                have n7_ := am (blk_below (pkK BK963.out) hb)
                have n8_ := am (blk_below (pkK BK964.out) hb)
                have n9_ := am (IsS70.below (IsS70.pk HI0.out) hb)
                have n10_ := am (blk_below (pkK BK979.out) hb)
                have n11_ := am (KeepBut.trans (pkH HK.out) (KeepBut.of_below hb g none) (.inl rfl))
                have n12_ := am (below_step (by repeat (first | (with_reducible first | exact HB.out | apply below_alloc | apply pw_below_drewN | apply below_drew1 | refine below_set ?_ (IsS70.ge HI0.out) | refine below_set ?_ GE963.out | refine below_set ?_ GE964.out | refine below_set ?_ GE979.out) | exact HB.out)) hb)
                clear HO_965000 HO_965001 HO973 HO976 BK963 BK964 HI0 BK979 HK HB
                have HO_965000 := n0_; have HO_965001 := n1_; have HO973 := n2_; have HO976 := n3_; have HO988 := n4_; have HO991 := n5_; have HO994 := n6_; have BK963 := n7_; have BK964 := n8_; have HI0 := n9_; have BK979 := n10_; have HK := n11_; have HB := n12_
                clear n0_ n1_ n2_ n3_ n4_ n5_ n6_ n7_ n8_ n9_ n10_ n11_ n12_
                (try clear hb); (try clear hb2); (try clear hk); (try clear hi); (try clear ho0); (try clear ho1); (try clear ho2)
                refine hK.out _ _ ⟨(blk_cell BK964.out 0).trans rfl, (blk_cell BK964.out 1).trans rfl⟩ (fun hHeld => ?_)
                clear hK K
                refine norm_ (a' := ?_) ?_ ?_
                rotate_left
                · show Act.put _ (some 44) _ = _
                  simp only [Act.put, List.setIfInBounds_toArray, List.set_cons_zero, List.set_cons_succ, i64_w, i32_w]
                  rfl
                refine pure_ (i := 6) (N := some 38) (v := ?_) (a' := ?_) #[true, true, true, true, true, true, true, false, false, false, false, false, false, false] rfl rfl (any_of HT_.out (by kernel_rfl)) (fun _ _ _ h => h) (Or.inl ⟨by rfl, ?_⟩) ?_ ?_
                rotate_left
                · intro w'
                  go_simp
                  with_reducible rfl
                rotate_left
                · simp only [Act.put, List.setIfInBounds_toArray, List.set_cons_zero, List.set_cons_succ, i64_w, i32_w]
                  rfl
                refine pure_ (i := 7) (N := some 45) (v := ?_) (a' := ?_) #[true, true, true, true, true, true, true, true, false, false, false, false, false, false] rfl rfl (any_of HT_.out (by kernel_rfl)) (fun _ _ _ h => h) (Or.inl ⟨by rfl, ?_⟩) ?_ ?_
                rotate_left
                · intro w'
                  go_simp
                  with_reducible rfl
                rotate_left
                · simp only [Act.put, List.setIfInBounds_toArray, List.set_cons_zero, List.set_cons_succ, i64_w, i32_w]
                  rfl
                refine pure_ (i := 8) (N := some 46) (v := ?_) (a' := ?_) #[true, true, true, true, true, true, true, true, true, false, false, false, false, false] rfl rfl (any_of HT_.out (by kernel_rfl)) (fun _ _ _ h => h) (Or.inl ⟨by rfl, ?_⟩) ?_ ?_
                rotate_left
                · intro w'
                  go_simp
                  with_reducible rfl
                rotate_left
                · simp only [Act.put, List.setIfInBounds_toArray, List.set_cons_zero, List.set_cons_succ, i64_w, i32_w]
                  rfl
                refine pure_ (i := 9) (N := some 47) (v := ?_) (a' := ?_) #[true, true, true, true, true, true, true, true, true, true, false, false, false, false] rfl rfl (any_of HT_.out (by kernel_rfl)) (fun _ _ _ h => h) (Or.inl ⟨by rfl, ?_⟩) ?_ ?_
                rotate_left
                · intro w'
                  go_simp
                  with_reducible rfl
                rotate_left
                · simp only [Act.put, List.setIfInBounds_toArray, List.set_cons_zero, List.set_cons_succ, i64_w, i32_w]
                  rfl
                refine one_ (i := 10) (N := some 11) #[true, true, true, true, true, true, true, true, true, true, true, false, false, false] rfl rfl (one_of HT_.out (by kernel_rfl)) (by decide) (fun K hK => ?_)
                refine box_step ?hg (N := 11) ?hd (cs := #[.slice none 0 0, .slice none 0 0]) (t := 33) ?hr ?_; (case hd => rfl); (case hg => rfl); (case hr => first | (go_simp; done) | (go_simp; rfl))
                intro gb996 hg w39 hbox hb
                have n0_ := am (Kd.R_below (pkR HO_965000.out) hb)
                have n1_ := am (Kd.R_below (pkR HO_965001.out) hb)
                have n2_ := am (Kd.R_below (pkR HO973.out) hb)
                have n3_ := am (Kd.R_below (pkR HO976.out) hb)
                have n4_ := am (Kd.R_below (pkR HO988.out) hb)
                have n5_ := am (Kd.R_below (pkR HO991.out) hb)
                have n6_ := am (Kd.R_below (pkR HO994.out) hb)
                have n7_ := am (blk_below (pkK BK963.out) hb)
                have n8_ := am (blk_below (pkK BK964.out) hb)
                have n9_ := am (IsS70.below (IsS70.pk HI0.out) hb)
                have n10_ := am (blk_below (pkK BK979.out) hb)
                have n11_ := am (KeepBut.trans (pkH HK.out) (KeepBut.of_below hb g none) (.inl rfl))
                have n12_ := am (below_step (by repeat (first | (with_reducible first | exact HB.out | apply below_alloc | apply pw_below_drewN | apply below_drew1 | refine below_set ?_ (IsS70.ge HI0.out) | refine below_set ?_ GE963.out | refine below_set ?_ GE964.out | refine below_set ?_ GE979.out) | exact HB.out)) hb)
                have n13_ := am (hbox)
                have n14_ := am ((by rw [hg]; first | done | exact (keep_size (w := w) (g := g) (row := none) (pkH HK.out)) : w.heap.size ≤ gb996))
                have n15_ := am ((Nat.le_trans HW0.out (by rw [hg]; first | done | exact (keep_size (w := w) (g := g) (row := none) (pkH HK.out)) : w.heap.size ≤ gb996) : w0.heap.size ≤ gb996))
                have n16_ := am ((by rw [hg]; exact Nat.ne_of_lt (blk_lt (g := gb963) (o := .cells #[.slice none 0 0, .slice none 0 0] 33 (0, 0)) (pkK BK963.out)) : gb963 ≠ gb996))
                have n17_ := am ((by rw [hg]; exact Nat.ne_of_gt (blk_lt (g := gb963) (o := .cells #[.slice none 0 0, .slice none 0 0] 33 (0, 0)) (pkK BK963.out)) : gb996 ≠ gb963))
                have n18_ := am ((by rw [hg]; exact Nat.ne_of_lt (blk_lt (g := gb964) (o := .cells #[.slice Ao24 t971.length co24, .slice Ao26 t974.length co26] 33 (0, 0)) (pkK BK964.out)) : gb964 ≠ gb996))
                have n19_ := am ((by rw [hg]; exact Nat.ne_of_gt (blk_lt (g := gb964) (o := .cells #[.slice Ao24 t971.length co24, .slice Ao26 t974.length co26] 33 (0, 0)) (pkK BK964.out)) : gb996 ≠ gb964))
                have n20_ := am ((by rw [hg]; exact Nat.ne_of_lt (blk_lt (g := gb979) (o := .cells #[.slice Ao24 t971.length co24, .slice Ao26 t974.length co26] 33 (0, 0)) (pkK BK979.out)) : gb979 ≠ gb996))
                have n21_ := am ((by rw [hg]; exact Nat.ne_of_gt (blk_lt (g := gb979) (o := .cells #[.slice Ao24 t971.length co24, .slice Ao26 t974.length co26] 33 (0, 0)) (pkK BK979.out)) : gb996 ≠ gb979))
                have n22_ := am ((by rw [hg]; exact Nat.ne_of_lt (IsS70.lt (show IsS70 w0 _ g s0_0 t984 t985 from IsS70.pk HI0.out)) : g ≠ gb996))
                have n23_ := am ((by rw [hg]; exact Nat.ne_of_gt (IsS70.lt (show IsS70 w0 _ g s0_0 t984 t985 from IsS70.pk HI0.out)) : gb996 ≠ g))
                clear HO_965000 HO_965001 HO973 HO976 HO988 HO991 HO994 BK963 BK964 HI0 BK979 HK HB
                have HO_965000 := n0_; have HO_965001 := n1_; have HO973 := n2_; have HO976 := n3_; have HO988 := n4_; have HO991 := n5_; have HO994 := n6_; have BK963 := n7_; have BK964 := n8_; have HI0 := n9_; have BK979 := n10_; have HK := n11_; have HB := n12_; have BK996 := n13_; have GW996 := n14_; have GE996 := n15_; have NB963_996 := n16_; have NB996_963 := n17_; have NB964_996 := n18_; have NB996_964 := n19_; have NB979_996 := n20_; have NB996_979 := n21_; have NB0_996 := n22_; have NB996_0 := n23_
                clear n0_ n1_ n2_ n3_ n4_ n5_ n6_ n7_ n8_ n9_ n10_ n11_ n12_ n13_ n14_ n15_ n16_ n17_ n18_ n19_ n20_ n21_ n22_ n23_ hb hbox hg
                refine hK.out _ _ ⟨(blk_cell BK964.out 0).trans rfl, (blk_cell BK964.out 1).trans rfl⟩ (fun hHeld => ?_)
                clear hK K
                refine norm_ (a' := ?_) ?_ ?_
                rotate_left
                · show Act.put _ (some 11) _ = _
                  simp only [Act.put, List.setIfInBounds_toArray, List.set_cons_zero, List.set_cons_succ, i64_w, i32_w]
                  rfl
                exact norm_ (by simp only [putAll, Act.put, List.setIfInBounds_toArray, List.set_cons_zero, List.set_cons_succ]) (hCont (v987, v990, v993, gb996) _ ⟨hHeld, (by (with_reducible repeat (first | apply Kd.R_alloc | apply Kd.R_drewN | apply Kd.R_drew)); exact Kd.R_mono HO973.out (fun _ hk => ⟨hk.1.2, ⟨hk.2, hk.1.1⟩⟩)), (by (with_reducible repeat (first | apply Kd.R_alloc | apply Kd.R_drewN | apply Kd.R_drew)); exact Kd.R_mono HO976.out (fun _ hk => ⟨hk.2, hk.1⟩)), (by (with_reducible repeat (first | apply Kd.R_alloc | apply Kd.R_drewN | apply Kd.R_drew)); exact Kd.R_mono HO988.out (fun _ hk => ⟨hk.2, ⟨hk.1.1, hk.1.2⟩⟩)), (by (with_reducible repeat (first | apply Kd.R_alloc | apply Kd.R_drewN | apply Kd.R_drew)); exact Kd.R_mono HO991.out (fun _ hk => ⟨hk.2, hk.1.2⟩)), (by (with_reducible repeat (first | apply Kd.R_alloc | apply Kd.R_drewN | apply Kd.R_drew)); exact Kd.R_mono HO994.out (fun _ hk => ⟨hk.2, ⟨hk.1.1, hk.1.2⟩⟩)), (by (with_reducible repeat (first | apply Kd.R_alloc | apply Kd.R_drewN | apply Kd.R_drew)); exact Kd.R_mono HO_965000.out (fun _ hk => ⟨hk.1.1, ⟨hk.1.2, hk.2⟩⟩)), (pkR HO_965001.out), (pkK BK963.out), (pkK BK964.out), (pkK BK979.out), (pkK BK996.out), GW996.out, GE996.out, NB0_996.out, NB996_0.out, NB963_996.out, NB996_963.out, NB964_996.out, NB996_964.out, NB979_996.out, NB996_979.out, (IsS70.pk HI0.out), (pkH HK.out), (by repeat (first | (with_reducible first | exact HB.out | apply below_alloc | apply pw_below_drewN | apply below_drew1 | refine below_set ?_ (IsS70.ge HI0.out) | refine below_set ?_ GE963.out | refine below_set ?_ GE964.out | refine below_set ?_ GE979.out | refine below_set ?_ GE996.out) | exact HB.out))⟩)
              · skip
                refine box_step ?hg (N := 11) ?hd (cs := #[.slice none 0 0, .slice none 0 0]) (t := 33) ?hr ?_; (case hd => rfl); (case hg => rfl); (case hr => first | (go_simp; done) | (go_simp; rfl))
                intro gb996 hg w38 hbox hb
                have n0_ := am (Kd.R_below (pkR HO_965000.out) hb)
                have n1_ := am (Kd.R_below (pkR HO_965001.out) hb)
                have n2_ := am (Kd.R_below (pkR HO973.out) hb)
                have n3_ := am (Kd.R_below (pkR HO976.out) hb)
                have n4_ := am (blk_below (pkK BK963.out) hb)
                have n5_ := am (blk_below (pkK BK964.out) hb)
                have n6_ := am (IsS70.below (IsS70.pk HI0.out) hb)
                have n7_ := am (blk_below (pkK BK979.out) hb)
                have n8_ := am (KeepBut.trans (pkH HK.out) (KeepBut.of_below hb g none) (.inl rfl))
                have n9_ := am (below_step (by repeat (first | (with_reducible first | exact HB.out | apply below_alloc | apply pw_below_drewN | apply below_drew1 | refine below_set ?_ (IsS70.ge HI0.out) | refine below_set ?_ GE963.out | refine below_set ?_ GE964.out | refine below_set ?_ GE979.out) | exact HB.out)) hb)
                have n10_ := am (hbox)
                have n11_ := am ((by rw [hg]; first | done | exact (keep_size (w := w) (g := g) (row := none) (pkH HK.out)) : w.heap.size ≤ gb996))
                have n12_ := am ((Nat.le_trans HW0.out (by rw [hg]; first | done | exact (keep_size (w := w) (g := g) (row := none) (pkH HK.out)) : w.heap.size ≤ gb996) : w0.heap.size ≤ gb996))
                have n13_ := am ((by rw [hg]; exact Nat.ne_of_lt (blk_lt (g := gb963) (o := .cells #[.slice none 0 0, .slice none 0 0] 33 (0, 0)) (pkK BK963.out)) : gb963 ≠ gb996))
                have n14_ := am ((by rw [hg]; exact Nat.ne_of_gt (blk_lt (g := gb963) (o := .cells #[.slice none 0 0, .slice none 0 0] 33 (0, 0)) (pkK BK963.out)) : gb996 ≠ gb963))
                have n15_ := am ((by rw [hg]; exact Nat.ne_of_lt (blk_lt (g := gb964) (o := .cells #[.slice Ao24 t971.length co24, .slice Ao26 t974.length co26] 33 (0, 0)) (pkK BK964.out)) : gb964 ≠ gb996))
                have n16_ := am ((by rw [hg]; exact Nat.ne_of_gt (blk_lt (g := gb964) (o := .cells #[.slice Ao24 t971.length co24, .slice Ao26 t974.length co26] 33 (0, 0)) (pkK BK964.out)) : gb996 ≠ gb964))
                have n17_ := am ((by rw [hg]; exact Nat.ne_of_lt (blk_lt (g := gb979) (o := .cells #[.slice Ao24 t971.length co24, .slice Ao26 t974.length co26] 33 (0, 0)) (pkK BK979.out)) : gb979 ≠ gb996))
                have n18_ := am ((by rw [hg]; exact Nat.ne_of_gt (blk_lt (g := gb979) (o := .cells #[.slice Ao24 t971.length co24, .slice Ao26 t974.length co26] 33 (0, 0)) (pkK BK979.out)) : gb996 ≠ gb979))
                have n19_ := am ((by rw [hg]; exact Nat.ne_of_lt (IsS70.lt (show IsS70 w0 _ g s0_0 t984 t985 from IsS70.pk HI0.out)) : g ≠ gb996))
                have n20_ := am ((by rw [hg]; exact Nat.ne_of_gt (IsS70.lt (show IsS70 w0 _ g s0_0 t984 t985 from IsS70.pk HI0.out)) : gb996 ≠ g))
                clear HO_965000 HO_965001 HO973 HO976 BK963 BK964 HI0 BK979 HK HB
                have HO_965000 := n0_; have HO_965001 := n1_; have HO973 := n2_; have HO976 := n3_; have BK963 := n4_; have BK964 := n5_; have HI0 := n6_; have BK979 := n7_; have HK := n8_; have HB := n9_; have BK996 := n10_; have GW996 := n11_; have GE996 := n12_; have NB963_996 := n13_; have NB996_963 := n14_; have NB964_996 := n15_; have NB996_964 := n16_; have NB979_996 := n17_; have NB996_979 := n18_; have NB0_996 := n19_; have NB996_0 := n20_
                clear n0_ n1_ n2_ n3_ n4_ n5_ n6_ n7_ n8_ n9_ n10_ n11_ n12_ n13_ n14_ n15_ n16_ n17_ n18_ n19_ n20_ hb hbox hg
                refine hK.out _ _ ⟨(blk_cell BK964.out 0).trans rfl, (blk_cell BK964.out 1).trans rfl⟩ (fun hHeld => ?_)
                clear hK K
                refine norm_ (a' := ?_) ?_ ?_
                rotate_left
                · show Act.put _ (some 11) _ = _
                  simp only [Act.put, List.setIfInBounds_toArray, List.set_cons_zero, List.set_cons_succ, i64_w, i32_w]
                  rfl
                refine one_ (i := 5) (N := some 44) #[true, true, true, true, true, true, false, false, false, false, true, false, false, false] rfl rfl (one_of HT_.out (by kernel_rfl)) (by decide) (fun K hK => ?_)
                refine goes_ Try.func46 (by kernel_rfl) rfl #[.agg #[.slice Ao24 t971.length co24, .slice Ao26 t974.length co26], .int .i64 t983] (by rfl) rfl rfl mpx ?_
                with_reducible refine (spec_Cancel.calls k1 _ _ t971 _ _ t974 t983 t986 t989 t992 t995 _ ?side1 ?side2 ?side3 ?side4 A16.out).mono ?_
                (case side1 => exact pkC (Kd.R_reads' HO973.out).2.2)
                (case side2 => exact (Kd.R_reads' HO973.out).2.1)
                (case side3 => exact pkC (Kd.R_reads' HO976.out).2.2)
                (case side4 => exact (Kd.R_reads' HO976.out).2.1)
                rintro e w39 ⟨v987, v990, v993, rfl, ho0, ho1, ho2, hb⟩
                refine ⟨_, rfl, ?_⟩
                have n0_ := am (Kd.R_mono (Kd.R_told (Kd.R_told (Kd.R_old (pkR HO_965000.out) hb) (Kd.R_base ho0)) (Kd.R_base ho2)) (fun _ h_ => h_.1))
                have n1_ := am (Kd.R_elder' (pkR HO_965001.out) (Kd.R_base ho1) hb)
                have n2_ := am (Kd.R_mono (Kd.R_told (Kd.R_told (Kd.R_old (pkR HO973.out) hb) (Kd.R_base ho0)) (Kd.R_base ho2)) (fun _ h_ => h_.1))
                have n3_ := am (Kd.R_elder' (pkR HO976.out) (Kd.R_base ho1) hb)
                have n4_ := am (Kd.R_lower (Kd.R_new' (Kd.R_new' ho0 (Kd.R_lt (pkR HO_965000.out))) (Kd.R_lt (pkR HO973.out))) (keep_size (w := w) (g := g) (row := none) (pkH HK.out)))
                have n5_ := am (Kd.R_lower (Kd.R_new' (Kd.R_new' ho1 (Kd.R_lt (pkR HO_965001.out))) (Kd.R_lt (pkR HO976.out))) (keep_size (w := w) (g := g) (row := none) (pkH HK.out)))
                have n6_ := am (Kd.R_lower (Kd.R_new' (Kd.R_new' ho2 (Kd.R_lt (pkR HO_965000.out))) (Kd.R_lt (pkR HO973.out))) (keep_size (w := w) (g := g) (row := none) (pkH HK.out)))
                have n7_ := am (blk_below (pkK BK963.out) hb)
                have n8_ := am (blk_below (pkK BK964.out) hb)
                have n9_ := am (IsS70.below (IsS70.pk HI0.out) hb)
                have n10_ := am (blk_below (pkK BK979.out) hb)
                have n11_ := am (blk_below (pkK BK996.out) hb)
                have n12_ := am (KeepBut.trans (pkH HK.out) (KeepBut.of_below hb g none) (.inl rfl))
                have n13_ := am (below_step (by repeat (first | (with_reducible first | exact HB.out | apply below_alloc | apply pw_below_drewN | apply below_drew1 | refine below_set ?_ (IsS70.ge HI0.out) | refine below_set ?_ GE963.out | refine below_set ?_ GE964.out | refine below_set ?_ GE979.out | refine below_set ?_ GE996.out) | exact HB.out)) hb)
                clear HO_965000 HO_965001 HO973 HO976 BK963 BK964 HI0 BK979 BK996 HK HB
                have HO_965000 := n0_; have HO_965001 := n1_; have HO973 := n2_; have HO976 := n3_; have HO988 := n4_; have HO991 := n5_; have HO994 := n6_; have BK963 := n7_; have BK964 := n8_; have HI0 := n9_; have BK979 := n10_; have BK996 := n11_; have HK := n12_; have HB := n13_
                clear n0_ n1_ n2_ n3_ n4_ n5_ n6_ n7_ n8_ n9_ n10_ n11_ n12_ n13_
                (try clear hb); (try clear hb2); (try clear hk); (try clear hi); (try clear ho0); (try clear ho1); (try clear ho2)
                refine hK.out _ _ ⟨(blk_cell BK964.out 0).trans rfl, (blk_cell BK964.out 1).trans rfl⟩ (fun hHeld => ?_)
                clear hK K
                refine norm_ (a' := ?_) ?_ ?_
                rotate_left
                · show Act.put _ (some 44) _ = _
                  simp only [Act.put, List.setIfInBounds_toArray, List.set_cons_zero, List.set_cons_succ, i64_w, i32_w]
                  rfl
                refine pure_ (i := 6) (N := some 38) (v := ?_) (a' := ?_) #[true, true, true, true, true, true, true, false, false, false, true, false, false, false] rfl rfl (any_of HT_.out (by kernel_rfl)) (fun _ _ _ h => h) (Or.inl ⟨by rfl, ?_⟩) ?_ ?_
                rotate_left
                · intro w'
                  go_simp
                  with_reducible rfl
                rotate_left
                · simp only [Act.put, List.setIfInBounds_toArray, List.set_cons_zero, List.set_cons_succ, i64_w, i32_w]
                  rfl
                refine pure_ (i := 7) (N := some 45) (v := ?_) (a' := ?_) #[true, true, true, true, true, true, true, true, false, false, true, false, false, false] rfl rfl (any_of HT_.out (by kernel_rfl)) (fun _ _ _ h => h) (Or.inl ⟨by rfl, ?_⟩) ?_ ?_
                rotate_left
                · intro w'
                  go_simp
                  with_reducible rfl
                rotate_left
                · simp only [Act.put, List.setIfInBounds_toArray, List.set_cons_zero, List.set_cons_succ, i64_w, i32_w]
                  rfl
                refine pure_ (i := 8) (N := some 46) (v := ?_) (a' := ?_) #[true, true, true, true, true, true, true, true, true, false, true, false, false, false] rfl rfl (any_of HT_.out (by kernel_rfl)) (fun _ _ _ h => h) (Or.inl ⟨by rfl, ?_⟩) ?_ ?_
                rotate_left
                · intro w'
                  go_simp
                  with_reducible rfl
                rotate_left
                · simp only [Act.put, List.setIfInBounds_toArray, List.set_cons_zero, List.set_cons_succ, i64_w, i32_w]
                  rfl
                refine pure_ (i := 9) (N := some 47) (v := ?_) (a' := ?_) #[true, true, true, true, true, true, true, true, true, true, true, false, false, false] rfl rfl (any_of HT_.out (by kernel_rfl)) (fun _ _ _ h => h) (Or.inl ⟨by rfl, ?_⟩) ?_ ?_
                rotate_left
                · intro w'
                  go_simp
                  with_reducible rfl
                rotate_left
                · simp only [Act.put, List.setIfInBounds_toArray, List.set_cons_zero, List.set_cons_succ, i64_w, i32_w]
                  rfl
                exact norm_ (by simp only [putAll, Act.put, List.setIfInBounds_toArray, List.set_cons_zero, List.set_cons_succ]) (hCont (v987, v990, v993, gb996) _ ⟨hHeld, (by (with_reducible repeat (first | apply Kd.R_alloc | apply Kd.R_drewN | apply Kd.R_drew)); exact Kd.R_mono HO973.out (fun _ hk => ⟨hk.1.2, ⟨hk.2, hk.1.1⟩⟩)), (by (with_reducible repeat (first | apply Kd.R_alloc | apply Kd.R_drewN | apply Kd.R_drew)); exact Kd.R_mono HO976.out (fun _ hk => ⟨hk.2, hk.1⟩)), (by (with_reducible repeat (first | apply Kd.R_alloc | apply Kd.R_drewN | apply Kd.R_drew)); exact Kd.R_mono HO988.out (fun _ hk => ⟨hk.2, ⟨hk.1.1, hk.1.2⟩⟩)), (by (with_reducible repeat (first | apply Kd.R_alloc | apply Kd.R_drewN | apply Kd.R_drew)); exact Kd.R_mono HO991.out (fun _ hk => ⟨hk.2, hk.1.2⟩)), (by (with_reducible repeat (first | apply Kd.R_alloc | apply Kd.R_drewN | apply Kd.R_drew)); exact Kd.R_mono HO994.out (fun _ hk => ⟨hk.2, ⟨hk.1.1, hk.1.2⟩⟩)), (by (with_reducible repeat (first | apply Kd.R_alloc | apply Kd.R_drewN | apply Kd.R_drew)); exact Kd.R_mono HO_965000.out (fun _ hk => ⟨hk.1.1, ⟨hk.1.2, hk.2⟩⟩)), (pkR HO_965001.out), (pkK BK963.out), (pkK BK964.out), (pkK BK979.out), (pkK BK996.out), GW996.out, GE996.out, NB0_996.out, NB996_0.out, NB963_996.out, NB996_963.out, NB964_996.out, NB996_964.out, NB979_996.out, NB996_979.out, (IsS70.pk HI0.out), (pkH HK.out), (by repeat (first | (with_reducible first | exact HB.out | apply below_alloc | apply pw_below_drewN | apply below_drew1 | refine below_set ?_ (IsS70.ge HI0.out) | refine below_set ?_ GE963.out | refine below_set ?_ GE964.out | refine below_set ?_ GE979.out | refine below_set ?_ GE996.out) | exact HB.out))⟩)
            · skip
              refine box_step ?hg (N := 11) ?hd (cs := #[.slice none 0 0, .slice none 0 0]) (t := 33) ?hr ?_; (case hd => rfl); (case hg => rfl); (case hr => first | (go_simp; done) | (go_simp; rfl))
              intro gb996 hg w37 hbox hb
              have n0_ := am (Kd.R_below (pkR HO_965000.out) hb)
              have n1_ := am (Kd.R_below (pkR HO_965001.out) hb)
              have n2_ := am (Kd.R_below (pkR HO973.out) hb)
              have n3_ := am (Kd.R_below (pkR HO976.out) hb)
              have n4_ := am (blk_below (pkK BK963.out) hb)
              have n5_ := am (blk_below (pkK BK964.out) hb)
              have n6_ := am (IsS70.below (IsS70.pk HI0.out) hb)
              have n7_ := am (blk_below (pkK BK979.out) hb)
              have n8_ := am (KeepBut.trans (pkH HK.out) (KeepBut.of_below hb g none) (.inl rfl))
              have n9_ := am (below_step (by repeat (first | (with_reducible first | exact HB.out | apply below_alloc | apply pw_below_drewN | apply below_drew1 | refine below_set ?_ (IsS70.ge HI0.out) | refine below_set ?_ GE963.out | refine below_set ?_ GE964.out | refine below_set ?_ GE979.out) | exact HB.out)) hb)
              have n10_ := am (hbox)
              have n11_ := am ((by rw [hg]; first | done | exact (keep_size (w := w) (g := g) (row := none) (pkH HK.out)) : w.heap.size ≤ gb996))
              have n12_ := am ((Nat.le_trans HW0.out (by rw [hg]; first | done | exact (keep_size (w := w) (g := g) (row := none) (pkH HK.out)) : w.heap.size ≤ gb996) : w0.heap.size ≤ gb996))
              have n13_ := am ((by rw [hg]; exact Nat.ne_of_lt (blk_lt (g := gb963) (o := .cells #[.slice none 0 0, .slice none 0 0] 33 (0, 0)) (pkK BK963.out)) : gb963 ≠ gb996))
              have n14_ := am ((by rw [hg]; exact Nat.ne_of_gt (blk_lt (g := gb963) (o := .cells #[.slice none 0 0, .slice none 0 0] 33 (0, 0)) (pkK BK963.out)) : gb996 ≠ gb963))
              have n15_ := am ((by rw [hg]; exact Nat.ne_of_lt (blk_lt (g := gb964) (o := .cells #[.slice Ao24 t971.length co24, .slice Ao26 t974.length co26] 33 (0, 0)) (pkK BK964.out)) : gb964 ≠ gb996))
              have n16_ := am ((by rw [hg]; exact Nat.ne_of_gt (blk_lt (g := gb964) (o := .cells #[.slice Ao24 t971.length co24, .slice Ao26 t974.length co26] 33 (0, 0)) (pkK BK964.out)) : gb996 ≠ gb964))
              have n17_ := am ((by rw [hg]; exact Nat.ne_of_lt (blk_lt (g := gb979) (o := .cells #[.slice Ao24 t971.length co24, .slice Ao26 t974.length co26] 33 (0, 0)) (pkK BK979.out)) : gb979 ≠ gb996))
              have n18_ := am ((by rw [hg]; exact Nat.ne_of_gt (blk_lt (g := gb979) (o := .cells #[.slice Ao24 t971.length co24, .slice Ao26 t974.length co26] 33 (0, 0)) (pkK BK979.out)) : gb996 ≠ gb979))
              have n19_ := am ((by rw [hg]; exact Nat.ne_of_lt (IsS70.lt (show IsS70 w0 _ g s0_0 t981 t982 from IsS70.pk HI0.out)) : g ≠ gb996))
              have n20_ := am ((by rw [hg]; exact Nat.ne_of_gt (IsS70.lt (show IsS70 w0 _ g s0_0 t981 t982 from IsS70.pk HI0.out)) : gb996 ≠ g))
              clear HO_965000 HO_965001 HO973 HO976 BK963 BK964 HI0 BK979 HK HB
              have HO_965000 := n0_; have HO_965001 := n1_; have HO973 := n2_; have HO976 := n3_; have BK963 := n4_; have BK964 := n5_; have HI0 := n6_; have BK979 := n7_; have HK := n8_; have HB := n9_; have BK996 := n10_; have GW996 := n11_; have GE996 := n12_; have NB963_996 := n13_; have NB996_963 := n14_; have NB964_996 := n15_; have NB996_964 := n16_; have NB979_996 := n17_; have NB996_979 := n18_; have NB0_996 := n19_; have NB996_0 := n20_
              clear n0_ n1_ n2_ n3_ n4_ n5_ n6_ n7_ n8_ n9_ n10_ n11_ n12_ n13_ n14_ n15_ n16_ n17_ n18_ n19_ n20_ hb hbox hg
              refine hK.out _ _ ⟨(blk_cell BK964.out 0).trans rfl, (blk_cell BK964.out 1).trans rfl⟩ (fun hHeld => ?_)
              clear hK K
              refine norm_ (a' := ?_) ?_ ?_
              rotate_left
              · show Act.put _ (some 11) _ = _
                simp only [Act.put, List.setIfInBounds_toArray, List.set_cons_zero, List.set_cons_succ, i64_w, i32_w]
                rfl
              refine one_ (i := 4) (N := some 43) #[true, true, true, true, true, false, false, false, false, false, true, false, false, false] rfl rfl (one_of HT_.out (by kernel_rfl)) (by decide) (fun K hK => ?_)
              refine goes_ Try.func77 (by kernel_rfl) rfl #[.pointer (some ⟨g, 0, none⟩), .int .i64 (wrap64 (x7_1 + 1))] (by rfl) rfl rfl mpx ?_
              with_reducible refine (spec_l1Below.calls g s0_0 t981 t982 (wrap64 (x7_1 + 1)) t983 t984 t985 w0 _ ?side1 ?side2 A15.out).mono ?_
              (case side1 => repeat (first | (with_reducible first | exact HI0.out | apply IsS70.alloc | apply IsS70.drewN | apply IsS70.drew | apply IsS70.set_1 | apply IsS70.set_2 | refine IsS70.far ?_ NB0_963.out _ | refine IsS70.far ?_ NB0_964.out _ | refine IsS70.far ?_ NB0_979.out _ | refine IsS70.far ?_ NB0_996.out _) | exact HI0.out))
              (case side2 => repeat (first | (with_reducible first | exact HB.out | apply below_alloc | apply pw_below_drewN | apply below_drew1 | refine below_set ?_ (IsS70.ge HI0.out) | refine below_set ?_ GE963.out | refine below_set ?_ GE964.out | refine below_set ?_ GE979.out | refine below_set ?_ GE996.out) | exact HB.out))
              rintro e w38 ⟨rfl, hi, hb, hk⟩
              refine ⟨_, rfl, ?_⟩
              have n0_ := am (Kd.R_mono (Kd.R_keep (IsS70.apart (show IsS70 w0 _ g s0_0 t981 t982 from IsS70.pk HI0.out) (pkR HO_965000.out) (by decide)) hk (fun _ h => h.2)) (fun _ h => h.1))
              have n1_ := am (Kd.R_mono (Kd.R_keep (IsS70.apart (show IsS70 w0 _ g s0_0 t981 t982 from IsS70.pk HI0.out) (pkR HO_965001.out) (by decide)) hk (fun _ h => h.2)) (fun _ h => h.1))
              have n2_ := am (KeepBut.blk hk (g' := gb963) (o := .cells #[.slice none 0 0, .slice none 0 0] 33 (0, 0)) (pkK BK963.out) NB963_0.out (by simp))
              have n3_ := am (KeepBut.blk hk (g' := gb964) (o := .cells #[.slice Ao24 t971.length co24, .slice Ao26 t974.length co26] 33 (0, 0)) (pkK BK964.out) NB964_0.out (by simp))
              have n4_ := am (Kd.R_mono (Kd.R_keep (IsS70.apart (show IsS70 w0 _ g s0_0 t981 t982 from IsS70.pk HI0.out) (pkR HO973.out) (by decide)) hk (fun _ h => h.2)) (fun _ h => h.1))
              have n5_ := am (Kd.R_mono (Kd.R_keep (IsS70.apart (show IsS70 w0 _ g s0_0 t981 t982 from IsS70.pk HI0.out) (pkR HO976.out) (by decide)) hk (fun _ h => h.2)) (fun _ h => h.1))
              have n6_ := am (KeepBut.blk hk (g' := gb979) (o := .cells #[.slice Ao24 t971.length co24, .slice Ao26 t974.length co26] 33 (0, 0)) (pkK BK979.out) NB979_0.out (by simp))
              have n7_ := am (KeepBut.blk hk (g' := gb996) (o := .cells #[.slice none 0 0, .slice none 0 0] 33 (0, 0)) (pkK BK996.out) NB996_0.out (by simp))
              have n8_ := am (KeepBut.trans (pkH HK.out) hk (.inl rfl))
              have n9_ := am (hb)
              have n10_ := am (hi)
              clear HO_965000 HO_965001 BK963 BK964 HO973 HO976 BK979 BK996 HK HB HI0
              have HO_965000 := n0_; have HO_965001 := n1_; have BK963 := n2_; have BK964 := n3_; have HO973 := n4_; have HO976 := n5_; have BK979 := n6_; have BK996 := n7_; have HK := n8_; have HB := n9_; have HI0 := n10_
              clear n0_ n1_ n2_ n3_ n4_ n5_ n6_ n7_ n8_ n9_ n10_
              (try clear hb); (try clear hb2); (try clear hk); (try clear hi)
              refine hK.out _ _ ⟨(blk_cell BK964.out 0).trans rfl, (blk_cell BK964.out 1).trans rfl⟩ (fun hHeld => ?_)
              clear hK K
              refine norm_ (a' := ?_) ?_ ?_
              rotate_left
              · show Act.put _ (some 43) _ = _
                simp only [Act.put, List.setIfInBounds_toArray, List.set_cons_zero, List.set_cons_succ, i64_w, i32_w]
                rfl
              refine one_ (i := 5) (N := some 44) #[true, true, true, true, true, true, false, false, false, false, true, false, false, false] rfl rfl (one_of HT_.out (by kernel_rfl)) (by decide) (fun K hK => ?_)
              refine goes_ Try.func46 (by kernel_rfl) rfl #[.agg #[.slice Ao24 t971.length co24, .slice Ao26 t974.length co26], .int .i64 t983] (by rfl) rfl rfl mpx ?_
              with_reducible refine (spec_Cancel.calls k1 _ _ t971 _ _ t974 t983 t986 t989 t992 t995 _ ?side1 ?side2 ?side3 ?side4 A16.out).mono ?_
              (case side1 => exact pkC (Kd.R_reads' HO973.out).2.2)
              (case side2 => exact (Kd.R_reads' HO973.out).2.1)
              (case side3 => exact pkC (Kd.R_reads' HO976.out).2.2)
              (case side4 => exact (Kd.R_reads' HO976.out).2.1)
              rintro e w39 ⟨v987, v990, v993, rfl, ho0, ho1, ho2, hb⟩
              refine ⟨_, rfl, ?_⟩
              have n0_ := am (Kd.R_mono (Kd.R_told (Kd.R_told (Kd.R_old (pkR HO_965000.out) hb) (Kd.R_base ho0)) (Kd.R_base ho2)) (fun _ h_ => h_.1))
              have n1_ := am (Kd.R_elder' (pkR HO_965001.out) (Kd.R_base ho1) hb)
              have n2_ := am (Kd.R_mono (Kd.R_told (Kd.R_told (Kd.R_old (pkR HO973.out) hb) (Kd.R_base ho0)) (Kd.R_base ho2)) (fun _ h_ => h_.1))
              have n3_ := am (Kd.R_elder' (pkR HO976.out) (Kd.R_base ho1) hb)
              have n4_ := am (Kd.R_lower (Kd.R_new' (Kd.R_new' ho0 (Kd.R_lt (pkR HO_965000.out))) (Kd.R_lt (pkR HO973.out))) (keep_size (w := w) (g := g) (row := none) (pkH HK.out)))
              have n5_ := am (Kd.R_lower (Kd.R_new' (Kd.R_new' ho1 (Kd.R_lt (pkR HO_965001.out))) (Kd.R_lt (pkR HO976.out))) (keep_size (w := w) (g := g) (row := none) (pkH HK.out)))
              have n6_ := am (Kd.R_lower (Kd.R_new' (Kd.R_new' ho2 (Kd.R_lt (pkR HO_965000.out))) (Kd.R_lt (pkR HO973.out))) (keep_size (w := w) (g := g) (row := none) (pkH HK.out)))
              have n7_ := am (blk_below (pkK BK963.out) hb)
              have n8_ := am (blk_below (pkK BK964.out) hb)
              have n9_ := am (IsS70.below (IsS70.pk HI0.out) hb)
              have n10_ := am (blk_below (pkK BK979.out) hb)
              have n11_ := am (blk_below (pkK BK996.out) hb)
              have n12_ := am (KeepBut.trans (pkH HK.out) (KeepBut.of_below hb g none) (.inl rfl))
              have n13_ := am (below_step (by repeat (first | (with_reducible first | exact HB.out | apply below_alloc | apply pw_below_drewN | apply below_drew1 | refine below_set ?_ (IsS70.ge HI0.out) | refine below_set ?_ GE963.out | refine below_set ?_ GE964.out | refine below_set ?_ GE979.out | refine below_set ?_ GE996.out) | exact HB.out)) hb)
              clear HO_965000 HO_965001 HO973 HO976 BK963 BK964 HI0 BK979 BK996 HK HB
              have HO_965000 := n0_; have HO_965001 := n1_; have HO973 := n2_; have HO976 := n3_; have HO988 := n4_; have HO991 := n5_; have HO994 := n6_; have BK963 := n7_; have BK964 := n8_; have HI0 := n9_; have BK979 := n10_; have BK996 := n11_; have HK := n12_; have HB := n13_
              clear n0_ n1_ n2_ n3_ n4_ n5_ n6_ n7_ n8_ n9_ n10_ n11_ n12_ n13_
              (try clear hb); (try clear hb2); (try clear hk); (try clear hi); (try clear ho0); (try clear ho1); (try clear ho2)
              refine hK.out _ _ ⟨(blk_cell BK964.out 0).trans rfl, (blk_cell BK964.out 1).trans rfl⟩ (fun hHeld => ?_)
              clear hK K
              refine norm_ (a' := ?_) ?_ ?_
              rotate_left
              · show Act.put _ (some 44) _ = _
                simp only [Act.put, List.setIfInBounds_toArray, List.set_cons_zero, List.set_cons_succ, i64_w, i32_w]
                rfl
              refine pure_ (i := 6) (N := some 38) (v := ?_) (a' := ?_) #[true, true, true, true, true, true, true, false, false, false, true, false, false, false] rfl rfl (any_of HT_.out (by kernel_rfl)) (fun _ _ _ h => h) (Or.inl ⟨by rfl, ?_⟩) ?_ ?_
              rotate_left
              · intro w'
                go_simp
                with_reducible rfl
              rotate_left
              · simp only [Act.put, List.setIfInBounds_toArray, List.set_cons_zero, List.set_cons_succ, i64_w, i32_w]
                rfl
              refine pure_ (i := 7) (N := some 45) (v := ?_) (a' := ?_) #[true, true, true, true, true, true, true, true, false, false, true, false, false, false] rfl rfl (any_of HT_.out (by kernel_rfl)) (fun _ _ _ h => h) (Or.inl ⟨by rfl, ?_⟩) ?_ ?_
              rotate_left
              · intro w'
                go_simp
                with_reducible rfl
              rotate_left
              · simp only [Act.put, List.setIfInBounds_toArray, List.set_cons_zero, List.set_cons_succ, i64_w, i32_w]
                rfl
              refine pure_ (i := 8) (N := some 46) (v := ?_) (a' := ?_) #[true, true, true, true, true, true, true, true, true, false, true, false, false, false] rfl rfl (any_of HT_.out (by kernel_rfl)) (fun _ _ _ h => h) (Or.inl ⟨by rfl, ?_⟩) ?_ ?_
              rotate_left
              · intro w'
                go_simp
                with_reducible rfl
              rotate_left
              · simp only [Act.put, List.setIfInBounds_toArray, List.set_cons_zero, List.set_cons_succ, i64_w, i32_w]
                rfl
              refine pure_ (i := 9) (N := some 47) (v := ?_) (a' := ?_) #[true, true, true, true, true, true, true, true, true, true, true, false, false, false] rfl rfl (any_of HT_.out (by kernel_rfl)) (fun _ _ _ h => h) (Or.inl ⟨by rfl, ?_⟩) ?_ ?_
              rotate_left
              · intro w'
                go_simp
                with_reducible rfl
              rotate_left
              · simp only [Act.put, List.setIfInBounds_toArray, List.set_cons_zero, List.set_cons_succ, i64_w, i32_w]
                rfl
              exact norm_ (by simp only [putAll, Act.put, List.setIfInBounds_toArray, List.set_cons_zero, List.set_cons_succ]) (hCont (v987, v990, v993, gb996) _ ⟨hHeld, (by (with_reducible repeat (first | apply Kd.R_alloc | apply Kd.R_drewN | apply Kd.R_drew)); exact Kd.R_mono HO973.out (fun _ hk => ⟨hk.1.2, ⟨hk.2, hk.1.1⟩⟩)), (by (with_reducible repeat (first | apply Kd.R_alloc | apply Kd.R_drewN | apply Kd.R_drew)); exact Kd.R_mono HO976.out (fun _ hk => ⟨hk.2, hk.1⟩)), (by (with_reducible repeat (first | apply Kd.R_alloc | apply Kd.R_drewN | apply Kd.R_drew)); exact Kd.R_mono HO988.out (fun _ hk => ⟨hk.2, ⟨hk.1.1, hk.1.2⟩⟩)), (by (with_reducible repeat (first | apply Kd.R_alloc | apply Kd.R_drewN | apply Kd.R_drew)); exact Kd.R_mono HO991.out (fun _ hk => ⟨hk.2, hk.1.2⟩)), (by (with_reducible repeat (first | apply Kd.R_alloc | apply Kd.R_drewN | apply Kd.R_drew)); exact Kd.R_mono HO994.out (fun _ hk => ⟨hk.2, ⟨hk.1.1, hk.1.2⟩⟩)), (by (with_reducible repeat (first | apply Kd.R_alloc | apply Kd.R_drewN | apply Kd.R_drew)); exact Kd.R_mono HO_965000.out (fun _ hk => ⟨hk.1.1, ⟨hk.1.2, hk.2⟩⟩)), (pkR HO_965001.out), (pkK BK963.out), (pkK BK964.out), (pkK BK979.out), (pkK BK996.out), GW996.out, GE996.out, NB0_996.out, NB996_0.out, NB963_996.out, NB996_963.out, NB964_996.out, NB996_964.out, NB979_996.out, NB996_979.out, (IsS70.pk HI0.out), (pkH HK.out), (by repeat (first | (with_reducible first | exact HB.out | apply below_alloc | apply pw_below_drewN | apply below_drew1 | refine below_set ?_ (IsS70.ge HI0.out) | refine below_set ?_ GE963.out | refine below_set ?_ GE964.out | refine below_set ?_ GE979.out | refine below_set ?_ GE996.out) | exact HB.out))⟩)
          rintro ⟨v987, v990, v993, gb996⟩ w40 ⟨hS_, h0_, h1_, h2_, h3_, h4_, h5_, h6_, h7_, h8_, h9_, h10_, h11_, h12_, h13_, h14_, h15_, h16_, h17_, h18_, h19_, h20_, h21_, h22_, h23_⟩
          have n0_ : Aside0 (Kd.R (Kd.int .i64) 3 w40 w.heap.size (fun k_ => some k_ ≠ (v987 : Value).ownBlock ∧ some k_ ≠ (v993 : Value).ownBlock ∧ some k_ ≠ (.slice Ao17 x965000_1.length co17 : Value).ownBlock) (.slice Ao24 t971.length co24) t971) := ⟨h0_⟩
          have n1_ : Aside0 (Kd.R Kd.bool 4 w40 w.heap.size (fun k_ => some k_ ≠ (v990 : Value).ownBlock ∧ some k_ ≠ (.slice Ao18 x965001_1.length co18 : Value).ownBlock) (.slice Ao26 t974.length co26) t974) := ⟨h1_⟩
          have n2_ : Aside0 (Kd.R (Kd.int .i64) 3 w40 w.heap.size (fun k_ => some k_ ≠ (.slice Ao24 t971.length co24 : Value).ownBlock ∧ some k_ ≠ (v993 : Value).ownBlock ∧ some k_ ≠ (.slice Ao17 x965000_1.length co17 : Value).ownBlock) v987 t986) := ⟨h2_⟩
          have n3_ : Aside0 (Kd.R Kd.bool 4 w40 w.heap.size (fun k_ => some k_ ≠ (.slice Ao26 t974.length co26 : Value).ownBlock ∧ some k_ ≠ (.slice Ao18 x965001_1.length co18 : Value).ownBlock) v990 t989) := ⟨h3_⟩
          have n4_ : Aside0 (Kd.R (Kd.int .i64) 3 w40 w.heap.size (fun k_ => some k_ ≠ (.slice Ao24 t971.length co24 : Value).ownBlock ∧ some k_ ≠ (v987 : Value).ownBlock ∧ some k_ ≠ (.slice Ao17 x965000_1.length co17 : Value).ownBlock) v993 t992) := ⟨h4_⟩
          have n5_ : Aside0 (Kd.R (Kd.int .i64) 3 w40 w.heap.size (fun k_ => some k_ ≠ (.slice Ao24 t971.length co24 : Value).ownBlock ∧ some k_ ≠ (v987 : Value).ownBlock ∧ some k_ ≠ (v993 : Value).ownBlock) (.slice Ao17 x965000_1.length co17) x965000_1) := ⟨h5_⟩
          have n6_ : Aside0 (Kd.R Kd.bool 4 w40 w.heap.size (fun k_ => some k_ ≠ (.slice Ao26 t974.length co26 : Value).ownBlock ∧ some k_ ≠ (v990 : Value).ownBlock) (.slice Ao18 x965001_1.length co18) x965001_1) := ⟨h6_⟩
          have n7_ : Aside0 (w40.heap[gb963]? = some (.cells #[.slice none 0 0, .slice none 0 0] 33 (0, 0))) := ⟨h7_⟩
          have n8_ : Aside0 (w40.heap[gb964]? = some (.cells #[.slice Ao24 t971.length co24, .slice Ao26 t974.length co26] 33 (0, 0))) := ⟨h8_⟩
          have n9_ : Aside0 (w40.heap[gb979]? = some (.cells #[.slice Ao24 t971.length co24, .slice Ao26 t974.length co26] 33 (0, 0))) := ⟨h9_⟩
          have n10_ : Aside0 (w40.heap[gb996]? = some (.cells #[.slice none 0 0, .slice none 0 0] 33 (0, 0))) := ⟨h10_⟩
          have n11_ : Aside0 (w.heap.size ≤ gb996) := ⟨h11_⟩
          have n12_ : Aside0 (w0.heap.size ≤ gb996) := ⟨h12_⟩
          have n13_ : Aside0 (g ≠ gb996) := ⟨h13_⟩
          have n14_ : Aside0 (gb996 ≠ g) := ⟨h14_⟩
          have n15_ : Aside0 (gb963 ≠ gb996) := ⟨h15_⟩
          have n16_ : Aside0 (gb996 ≠ gb963) := ⟨h16_⟩
          have n17_ : Aside0 (gb964 ≠ gb996) := ⟨h17_⟩
          have n18_ : Aside0 (gb996 ≠ gb964) := ⟨h18_⟩
          have n19_ : Aside0 (gb979 ≠ gb996) := ⟨h19_⟩
          have n20_ : Aside0 (gb996 ≠ gb979) := ⟨h20_⟩
          have n21_ : Aside0 (IsS70 w0 w40 g s0_0 t984 t985) := ⟨h21_⟩
          have n22_ : Aside0 (KeepBut w w40 g none) := ⟨h22_⟩
          have n23_ : Aside0 (Below w0.heap.size w0 w40) := ⟨h23_⟩
          clear HO_965000 HO_965001 HO973 HO976 BK963 BK964 BK979 HI0 HK HB h0_ h1_ h2_ h3_ h4_ h5_ h6_ h7_ h8_ h9_ h10_ h11_ h12_ h13_ h14_ h15_ h16_ h17_ h18_ h19_ h20_ h21_ h22_ h23_
          have HO973 := n0_; have HO976 := n1_; have HO988 := n2_; have HO991 := n3_; have HO994 := n4_; have HO_965000 := n5_; have HO_965001 := n6_; have BK963 := n7_; have BK964 := n8_; have BK979 := n9_; have BK996 := n10_; have GW996 := n11_; have GE996 := n12_; have NB0_996 := n13_; have NB996_0 := n14_; have NB963_996 := n15_; have NB996_963 := n16_; have NB964_996 := n17_; have NB996_964 := n18_; have NB979_996 := n19_; have NB996_979 := n20_; have HI0 := n21_; have HK := n22_; have HB := n23_
          clear n0_ n1_ n2_ n3_ n4_ n5_ n6_ n7_ n8_ n9_ n10_ n11_ n12_ n13_ n14_ n15_ n16_ n17_ n18_ n19_ n20_ n21_ n22_ n23_
          have hHeld : w40.cell? ⟨gb964, 0, none⟩ = some (.slice Ao24 t971.length co24) ∧ w40.cell? ⟨gb964, 1, none⟩ = some (.slice Ao26 t974.length co26) := hS_
          obtain ⟨Ao41, co41, eo41⟩ := Kd.R_slice HO988.out
          (first | subst eo41 | (injection eo41 with f1_ f2_ f3_; have f4_ := f1_.symm; have f5_ := f3_.symm; clear f1_ f2_ f3_; subst f4_; subst f5_))
          obtain ⟨Ao43, co43, eo43⟩ := Kd.R_slice HO991.out
          (first | subst eo43 | (injection eo43 with f1_ f2_ f3_; have f4_ := f1_.symm; have f5_ := f3_.symm; clear f1_ f2_ f3_; subst f4_; subst f5_))
          refine norm_ (a' := ?_) ?_ ?_
          rotate_left
          · simp only [putAll, Act.put, List.setIfInBounds_toArray, List.set_cons_zero, List.set_cons_succ]
            rfl
          refine one_ (i := 11) (N := none) #[true, true, true, true, true, true, true, true, true, true, true, true, false, false] rfl rfl (one_of HT_.out (by kernel_rfl)) (by decide) (fun K hK => ?_)
          have hs42 : w40.cell? ⟨gb996, 0, none⟩ = some (.slice none 0 0) := (blk_cell BK996.out 0).trans rfl
          have hfs42 := blk_frozen BK996.out 0
          have hns42_0 := NB963_996.out
          have hns42_1 := NB964_996.out
          have hns42_2 := NB979_996.out
          have hms42_0 := NB996_963.out
          have hms42_1 := NB996_964.out
          have hms42_2 := NB996_979.out
          have hs44 : w40.cell? ⟨gb996, 1, none⟩ = some (.slice none 0 0) := (blk_cell BK996.out 1).trans rfl
          have hfs44 := blk_frozen BK996.out 1
          have hns44_0 := NB963_996.out
          have hns44_1 := NB964_996.out
          have hns44_2 := NB979_996.out
          have hms44_0 := NB996_963.out
          have hms44_1 := NB996_964.out
          have hms44_2 := NB996_979.out
          refine skip_ (w1 := ?_) (by rfl) rfl ?_ ?_
          rotate_left
          · go_simp
            rfl
          refine hK.out _ _ ⟨((cell_far (p := ⟨gb996, _, none⟩) NB964_996.out _).trans (((cell_far (p := ⟨gb996, _, none⟩) NB964_996.out _).trans (hHeld.1)))), ((cell_far (p := ⟨gb996, _, none⟩) NB964_996.out _).trans (((cell_far (p := ⟨gb996, _, none⟩) NB964_996.out _).trans (hHeld.2))))⟩ (fun hHeld => ?_)
          clear hK K
          refine pure_ (i := 12) (N := some 12) (v := ?_) (a' := ?_) #[true, true, true, true, true, true, true, true, true, true, true, true, true, false] rfl rfl (any_of HT_.out (by kernel_rfl)) (fun _ _ _ h => h) (Or.inl ⟨by rfl, ?_⟩) ?_ ?_
          rotate_left
          · intro w'
            go_simp
            with_reducible rfl
          rotate_left
          · simp only [Act.put, List.setIfInBounds_toArray, List.set_cons_zero, List.set_cons_succ, i64_w, i32_w]
            rfl
          refine pure_ (i := 13) (N := some 13) (v := ?_) (a' := ?_) #[true, true, true, true, true, true, true, true, true, true, true, true, true, true] rfl rfl (any_of HT_.out (by kernel_rfl)) (fun _ _ _ h => h) (Or.inl ⟨by rfl, ?_⟩) ?_ ?_
          rotate_left
          · intro w'
            go_simp
            with_reducible rfl
          rotate_left
          · simp only [Act.put, List.setIfInBounds_toArray, List.set_cons_zero, List.set_cons_succ, i64_w, i32_w]
            rfl
          refine done_ (done_of HT_.out (by kernel_rfl)) ?_
          have hnb45 := NB996_963.out
          have hnc45 := NB963_996.out
          have hnb46 := NB996_964.out
          have hnc46 := NB964_996.out
          have hnb47 := NB996_979.out
          have hnc47 := NB979_996.out
          have hnb48 := NB996_0.out
          have hnc48 := NB0_996.out
          have hcz49_0 : w40.cell? ⟨gb996, 0, none⟩ = some (.slice none 0 0) := (blk_cell BK996.out 0).trans rfl
          have hcz49_1 : w40.cell? ⟨gb996, 1, none⟩ = some (.slice none 0 0) := (blk_cell BK996.out 1).trans rfl
          have hfz49_0 := blk_frozen BK996.out 0
          have hfz49_1 := blk_frozen BK996.out 1
          have hcz50_0 : w40.cell? ⟨gb964, 0, none⟩ = some (.slice Ao24 t971.length co24) := (blk_cell BK964.out 0).trans rfl
          have hcz50_1 : w40.cell? ⟨gb964, 1, none⟩ = some (.slice Ao26 t974.length co26) := (blk_cell BK964.out 1).trans rfl
          have hfz50_0 := blk_frozen BK964.out 0
          have hfz50_1 := blk_frozen BK964.out 1
          try go_wp2
          go_roundg k1
          case measure => have := HK1.out; omega
          case rel => exact ⟨(wrap64 (x7_1 + 1)), (t984), (t985), (t986), (t989), (.slice Ao41 t986.length co41), (.slice Ao43 t989.length co43), rfx, H', ⟨by have := HK1.out; omega⟩, ⟨by (with_reducible repeat (first | apply Kd.R_alloc | apply Kd.R_drewN | apply Kd.R_drew)); exact Kd.R_mono (Kd.R_far (p := ⟨gb964, 1, none⟩) (Kd.R_far (p := ⟨gb964, 0, none⟩) (Kd.R_far (p := ⟨gb996, 1, none⟩) (Kd.R_far (p := ⟨gb996, 0, none⟩) (Kd.R_types (Kd.R_types HO988.out BK996.out (by decide)) BK964.out (by decide)) (fun _ hk => hk.1.2) (.slice Ao41 t986.length co41)) (fun _ hk => hk.1.2) (.slice Ao43 t989.length co43)) (fun _ hk => hk.2) (.slice Ao41 t986.length co41)) (fun _ hk => hk.2) (.slice Ao43 t989.length co43)) (fun _ hk => trivial)⟩, ⟨by (with_reducible repeat (first | apply Kd.R_alloc | apply Kd.R_drewN | apply Kd.R_drew)); exact Kd.R_mono (Kd.R_far (p := ⟨gb964, 1, none⟩) (Kd.R_far (p := ⟨gb964, 0, none⟩) (Kd.R_far (p := ⟨gb996, 1, none⟩) (Kd.R_far (p := ⟨gb996, 0, none⟩) (Kd.R_types (Kd.R_types HO991.out BK996.out (by decide)) BK964.out (by decide)) (fun _ hk => hk.1.2) (.slice Ao41 t986.length co41)) (fun _ hk => hk.1.2) (.slice Ao43 t989.length co43)) (fun _ hk => hk.2) (.slice Ao41 t986.length co41)) (fun _ hk => hk.2) (.slice Ao43 t989.length co43)) (fun _ hk => trivial)⟩, ⟨by (with_reducible repeat (first | refine blk_drewN ?_ _ | refine blk_drew ?_ | refine blk_alloc ?_ _)); refine blk_far ?_ NB963_964.out _; (with_reducible repeat (first | refine blk_drewN ?_ _ | refine blk_drew ?_ | refine blk_alloc ?_ _)); refine blk_far ?_ NB963_964.out _; (with_reducible repeat (first | refine blk_drewN ?_ _ | refine blk_drew ?_ | refine blk_alloc ?_ _)); refine blk_far ?_ NB963_996.out _; (with_reducible repeat (first | refine blk_drewN ?_ _ | refine blk_drew ?_ | refine blk_alloc ?_ _)); refine blk_far ?_ NB963_996.out _; exact pkK BK963.out⟩, ⟨by (with_reducible repeat (first | refine blk_drewN ?_ _ | refine blk_drew ?_ | refine blk_alloc ?_ _)); refine blk_put (cs := #[.slice Ao41 t986.length co41, .slice Ao26 t974.length co26]) ?_ 1 _ rfl; (with_reducible repeat (first | refine blk_drewN ?_ _ | refine blk_drew ?_ | refine blk_alloc ?_ _)); refine blk_put (cs := #[.slice Ao24 t971.length co24, .slice Ao26 t974.length co26]) ?_ 0 _ rfl; (with_reducible repeat (first | refine blk_drewN ?_ _ | refine blk_drew ?_ | refine blk_alloc ?_ _)); refine blk_far ?_ NB964_996.out _; (with_reducible repeat (first | refine blk_drewN ?_ _ | refine blk_drew ?_ | refine blk_alloc ?_ _)); refine blk_far ?_ NB964_996.out _; exact pkK BK964.out⟩, ⟨by repeat (first | (with_reducible first | exact HI0.out | apply IsS70.alloc | apply IsS70.drewN | apply IsS70.drew | apply IsS70.set_1 | apply IsS70.set_2 | refine IsS70.far ?_ NB0_963.out _ | refine IsS70.far ?_ NB0_964.out _ | refine IsS70.far ?_ NB0_979.out _ | refine IsS70.far ?_ NB0_996.out _) | exact HI0.out)⟩, ⟨pkH HK.out⟩, ⟨by repeat (first | (with_reducible first | exact HB.out | apply below_alloc | apply pw_below_drewN | apply below_drew1 | refine below_set ?_ (IsS70.ge HI0.out) | refine below_set ?_ GE963.out | refine below_set ?_ GE964.out | refine below_set ?_ GE979.out | refine below_set ?_ GE996.out) | exact HB.out)⟩⟩
        · replace c14 := Bool.eq_false_iff.mpr c14
          subst c14
          replace H : (spec_l3Tokens.l0 k1 t965 (wrap64 (x7_1 + 1)) s0_0 t981 t982 t971 t974) = some (r1, r2, r3, r4) := by rw [if_neg (show ¬ (false = true) by decide)] at H; exact H
          have H' := am H
          clear H
          obtain ⟨Ao51, co51, eo51⟩ := Kd.R_slice HO_965000.out
          subst eo51
          obtain ⟨Ao52, co52, eo52⟩ := Kd.R_slice HO_965001.out
          subst eo52
          try go_wp2
          have n0_ := am (Kd.R_drew HO_965000.out)
          have n1_ := am (Kd.R_drew HO_965001.out)
          have n2_ := am (blk_drew BK963.out)
          have n3_ := am (blk_drew BK964.out)
          have n4_ := am (IsS70.drew HI0.out)
          have n5_ := am (keep_drew HK.out)
          have n6_ := am (below_drew1 HB.out)
          clear HO_965000 HO_965001 BK963 BK964 HI0 HK HB
          have HO_965000 := n0_; have HO_965001 := n1_; have BK963 := n2_; have BK964 := n3_; have HI0 := n4_; have HK := n5_; have HB := n6_
          clear n0_ n1_ n2_ n3_ n4_ n5_ n6_
          refine start_ (n := 15) (S := fun w' => w'.cell? ⟨gb964, 0, none⟩ = some (.slice Ao51 x965000_1.length co51) ∧ w'.cell? ⟨gb964, 1, none⟩ = some (.slice Ao52 x965001_1.length co52)) (ds := []) #[false, false, false, false, false, false, false, false, false, false, false, false, false, false, false] (by kernel_rfl) rfl rfl ⟨(blk_cell BK964.out 0).trans rfl, (blk_cell BK964.out 1).trans rfl⟩ (fun hHeld => ?_); refine with_tabW spec_l3Tokens.tab6 spec_l3Tokens.bits6 (fun HT_ HW_ => ?_)
          generalize wr.drew = w53 at HO_965000 HO_965001 BK963 BK964 HI0 HK HB hHeld ⊢
          refine pure_ (i := 1) (N := some 26) (v := ?_) (a' := ?_) #[false, true, false, false, false, false, false, false, false, false, false, false, false, false, false] rfl rfl (any_of HT_.out (by kernel_rfl)) (fun _ _ _ h => h) (Or.inl ⟨by rfl, ?_⟩) ?_ ?_
          rotate_left
          · intro w'
            go_simp
            with_reducible rfl
          rotate_left
          · simp only [Act.put, List.setIfInBounds_toArray, List.set_cons_zero, List.set_cons_succ, i64_w, i32_w]
            rfl
          refine pure_ (i := 2) (N := some 27) (v := ?_) (a' := ?_) #[false, true, true, false, false, false, false, false, false, false, false, false, false, false, false] rfl rfl (any_of HT_.out (by kernel_rfl)) (fun _ _ _ h => h) (Or.inl ⟨by rfl, ?_⟩) ?_ ?_
          rotate_left
          · intro w'
            go_simp
            with_reducible rfl
          rotate_left
          · simp only [Act.put, List.setIfInBounds_toArray, List.set_cons_zero, List.set_cons_succ, i64_w, i32_w]
            rfl
          refine pure_ (i := 3) (N := some 28) (v := ?_) (a' := ?_) #[false, true, true, true, false, false, false, false, false, false, false, false, false, false, false] rfl rfl (any_of HT_.out (by kernel_rfl)) (fun _ _ _ h => h) (Or.inl ⟨by rfl, ?_⟩) ?_ ?_
          rotate_left
          · intro w'
            go_simp
            with_reducible rfl
          rotate_left
          · simp only [Act.put, List.setIfInBounds_toArray, List.set_cons_zero, List.set_cons_succ, i64_w, i32_w]
            rfl
          refine take_ (i := 0) (N := some 25) (v := ?_) (a' := ?_) #[true, true, true, true, false, false, false, false, false, false, false, false, false, false, false] rfl rfl (take_ofW HT_.out HW_.out (by kernel_rfl)) (fun _ _ _ h => h) (Or.inl ⟨by rfl, ?_⟩) hHeld ?_ ?_
          rotate_left
          · rintro w' ⟨s0, s1⟩
            go_simp
            with_reducible rfl
          rotate_left
          · simp only [Act.put, List.setIfInBounds_toArray, List.set_cons_zero, List.set_cons_succ, i64_w, i32_w]
            rfl
          refine join_ (σ := Value × Value × Nat) 3 #[true, true, true, true, true, true, true, true, true, true, true, true, false, false, false] (fun s_ => [(29, .int .i64 t968), (31, .tuple #[.agg #[s_.1, s_.2.1], .int .i64 t977, .int .i64 t978]), (8, .pointer (some ⟨s_.2.2, 0, none⟩)), (30, .int .i64 (wrap64 (t968 - 1))), (24, .tuple #[.agg #[s_.1, s_.2.1], .int .i64 t977, .int .i64 t978]), (32, .agg #[s_.1, s_.2.1]), (33, .int .i64 t977), (34, .int .i64 t978)]) (fun s_ w' => (w'.cell? ⟨gb964, 0, none⟩ = some (.slice Ao51 x965000_1.length co51) ∧ w'.cell? ⟨gb964, 1, none⟩ = some (.slice Ao52 x965001_1.length co52)) ∧ (Kd.R (Kd.int .i64) 3 w' w.heap.size (fun k_ => some k_ ≠ (.slice Ao51 x965000_1.length co51 : Value).ownBlock) s_.1 t971) ∧ (Kd.R Kd.bool 4 w' w.heap.size (fun k_ => some k_ ≠ (.slice Ao52 x965001_1.length co52 : Value).ownBlock) s_.2.1 t974) ∧ (Kd.R (Kd.int .i64) 3 w' w.heap.size (fun k_ => some k_ ≠ (s_.1 : Value).ownBlock) (.slice Ao51 x965000_1.length co51) x965000_1) ∧ (Kd.R Kd.bool 4 w' w.heap.size (fun k_ => some k_ ≠ (s_.2.1 : Value).ownBlock) (.slice Ao52 x965001_1.length co52) x965001_1) ∧ (w'.heap[gb963]? = some (.cells #[.slice none 0 0, .slice none 0 0] 33 (0, 0))) ∧ (w'.heap[gb964]? = some (.cells #[.slice Ao51 x965000_1.length co51, .slice Ao52 x965001_1.length co52] 33 (0, 0))) ∧ (w'.heap[s_.2.2]? = some (.cells #[.slice none 0 0, .slice none 0 0] 33 (0, 0))) ∧ (w.heap.size ≤ s_.2.2) ∧ (w0.heap.size ≤ s_.2.2) ∧ (g ≠ s_.2.2) ∧ (s_.2.2 ≠ g) ∧ (gb963 ≠ s_.2.2) ∧ (s_.2.2 ≠ gb963) ∧ (gb964 ≠ s_.2.2) ∧ (s_.2.2 ≠ gb964) ∧ (IsS70 w0 w' g s0_0 t969 t970) ∧ (KeepBut w w' g none) ∧ (Below w0.heap.size w0 w')) ?_ ?_
          rotate_left
          · intro hCont
            refine two_ (i := 4) (j := 11) (Ni := some 29) (Nj := some 8) #[true, true, true, true, true, false, false, false, false, false, false, false, false, false, false] #[true, true, true, true, false, false, false, false, false, false, false, true, false, false, false] rfl rfl rfl rfl (two_of HT_.out (by kernel_rfl)) (by decide) (by decide) (fun K hK => ?_) (fun K hK => ?_)
            · skip
              refine goes_ Try.func77 (by kernel_rfl) rfl #[.pointer (some ⟨g, 0, none⟩), .int .i64 (wrap64 (x7_1 + 1))] (by rfl) rfl rfl mpx ?_
              with_reducible refine (spec_l1Below.calls g s0_0 x1001_1 x1002_1 (wrap64 (x7_1 + 1)) t968 t969 t970 w0 _ ?side1 ?side2 A11.out).mono ?_
              (case side1 => repeat (first | (with_reducible first | exact HI0.out | apply IsS70.alloc | apply IsS70.drewN | apply IsS70.drew | apply IsS70.set_1 | apply IsS70.set_2 | refine IsS70.far ?_ NB0_963.out _ | refine IsS70.far ?_ NB0_964.out _) | exact HI0.out))
              (case side2 => repeat (first | (with_reducible first | exact HB.out | apply below_alloc | apply pw_below_drewN | apply below_drew1 | refine below_set ?_ (IsS70.ge HI0.out) | refine below_set ?_ GE963.out | refine below_set ?_ GE964.out) | exact HB.out))
              rintro e w54 ⟨rfl, hi, hb, hk⟩
              refine ⟨_, rfl, ?_⟩
              have n0_ := am (Kd.R_mono (Kd.R_keep (IsS70.apart (show IsS70 w0 _ g s0_0 x1001_1 x1002_1 from IsS70.pk HI0.out) (pkR HO_965000.out) (by decide)) hk (fun _ h => h.2)) (fun _ h => h.1))
              have n1_ := am (Kd.R_mono (Kd.R_keep (IsS70.apart (show IsS70 w0 _ g s0_0 x1001_1 x1002_1 from IsS70.pk HI0.out) (pkR HO_965001.out) (by decide)) hk (fun _ h => h.2)) (fun _ h => h.1))
              have n2_ := am (KeepBut.blk hk (g' := gb963) (o := .cells #[.slice none 0 0, .slice none 0 0] 33 (0, 0)) (pkK BK963.out) NB963_0.out (by simp))
              have n3_ := am (KeepBut.blk hk (g' := gb964) (o := .cells #[.slice Ao51 x965000_1.length co51, .slice Ao52 x965001_1.length co52] 33 (0, 0)) (pkK BK964.out) NB964_0.out (by simp))
              have n4_ := am (KeepBut.trans (pkH HK.out) hk (.inl rfl))
              have n5_ := am (hb)
              have n6_ := am (hi)
              clear HO_965000 HO_965001 BK963 BK964 HK HB HI0
              have HO_965000 := n0_; have HO_965001 := n1_; have BK963 := n2_; have BK964 := n3_; have HK := n4_; have HB := n5_; have HI0 := n6_
              clear n0_ n1_ n2_ n3_ n4_ n5_ n6_
              (try clear hb); (try clear hb2); (try clear hk); (try clear hi)
              refine hK.out _ _ ⟨(blk_cell BK964.out 0).trans rfl, (blk_cell BK964.out 1).trans rfl⟩ (fun hHeld => ?_)
              clear hK K
              refine norm_ (a' := ?_) ?_ ?_
              rotate_left
              · show Act.put _ (some 29) _ = _
                simp only [Act.put, List.setIfInBounds_toArray, List.set_cons_zero, List.set_cons_succ, i64_w, i32_w]
                rfl
              refine pure_ (i := 5) (N := some 30) (v := ?_) (a' := ?_) #[true, true, true, true, true, true, false, false, false, false, false, false, false, false, false] rfl rfl (any_of HT_.out (by kernel_rfl)) (fun _ _ _ h => h) (Or.inl ⟨by rfl, ?_⟩) ?_ ?_
              rotate_left
              · intro w'
                go_simp
                with_reducible rfl
              rotate_left
              · simp only [Act.put, List.setIfInBounds_toArray, List.set_cons_zero, List.set_cons_succ, i64_w, i32_w]
                rfl
              refine two_ (i := 6) (j := 11) (Ni := some 31) (Nj := some 8) #[true, true, true, true, true, true, true, false, false, false, false, false, false, false, false] #[true, true, true, true, true, true, false, false, false, false, false, true, false, false, false] rfl rfl rfl rfl (two_of HT_.out (by kernel_rfl)) (by decide) (by decide) (fun K hK => ?_) (fun K hK => ?_)
              · skip
                refine goes_ Try.func39 (by kernel_rfl) rfl #[.agg #[.slice Ao51 x965000_1.length co51, .slice Ao52 x965001_1.length co52], .int .i64 (wrap64 (t968 - 1))] (by rfl) rfl rfl mpx ?_
                with_reducible refine (spec_NewToken.calls k1 _ _ x965000_1 _ _ x965001_1 (wrap64 (t968 - 1)) t971 t974 t977 t978 _ ?side1 ?side2 ?side3 ?side4 A12.out).mono ?_
                (case side1 => exact pkC (Kd.R_reads' HO_965000.out).2.2)
                (case side2 => exact (Kd.R_reads' HO_965000.out).2.1)
                (case side3 => exact pkC (Kd.R_reads' HO_965001.out).2.2)
                (case side4 => exact (Kd.R_reads' HO_965001.out).2.1)
                rintro e w55 ⟨v972, v975, rfl, ho0, ho1, hb⟩
                refine ⟨_, rfl, ?_⟩
                have n0_ := am (Kd.R_elder' (pkR HO_965000.out) (Kd.R_base ho0) hb)
                have n1_ := am (Kd.R_elder' (pkR HO_965001.out) (Kd.R_base ho1) hb)
                have n2_ := am (Kd.R_lower (Kd.R_new' ho0 (Kd.R_lt (pkR HO_965000.out))) (keep_size (w := w) (g := g) (row := none) (pkH HK.out)))
                have n3_ := am (Kd.R_lower (Kd.R_new' ho1 (Kd.R_lt (pkR HO_965001.out))) (keep_size (w := w) (g := g) (row := none) (pkH HK.out)))
                have n4_ := am (blk_below (pkK BK963.out) hb)
                have n5_ := am (blk_below (pkK BK964.out) hb)
                have n6_ := am (IsS70.below (IsS70.pk HI0.out) hb)
                have n7_ := am (KeepBut.trans (pkH HK.out) (KeepBut.of_below hb g none) (.inl rfl))
                have n8_ := am (below_step (by repeat (first | (with_reducible first | exact HB.out | apply below_alloc | apply pw_below_drewN | apply below_drew1 | refine below_set ?_ (IsS70.ge HI0.out) | refine below_set ?_ GE963.out | refine below_set ?_ GE964.out) | exact HB.out)) hb)
                clear HO_965000 HO_965001 BK963 BK964 HI0 HK HB
                have HO_965000 := n0_; have HO_965001 := n1_; have HO973 := n2_; have HO976 := n3_; have BK963 := n4_; have BK964 := n5_; have HI0 := n6_; have HK := n7_; have HB := n8_
                clear n0_ n1_ n2_ n3_ n4_ n5_ n6_ n7_ n8_
                (try clear hb); (try clear hb2); (try clear hk); (try clear hi); (try clear ho0); (try clear ho1)
                refine hK.out _ _ ⟨(blk_cell BK964.out 0).trans rfl, (blk_cell BK964.out 1).trans rfl⟩ (fun hHeld => ?_)
                clear hK K
                refine norm_ (a' := ?_) ?_ ?_
                rotate_left
                · show Act.put _ (some 31) _ = _
                  simp only [Act.put, List.setIfInBounds_toArray, List.set_cons_zero, List.set_cons_succ, i64_w, i32_w]
                  rfl
                refine pure_ (i := 7) (N := some 24) (v := ?_) (a' := ?_) #[true, true, true, true, true, true, true, true, false, false, false, false, false, false, false] rfl rfl (any_of HT_.out (by kernel_rfl)) (fun _ _ _ h => h) (Or.inl ⟨by rfl, ?_⟩) ?_ ?_
                rotate_left
                · intro w'
                  go_simp
                  with_reducible rfl
                rotate_left
                · simp only [Act.put, List.setIfInBounds_toArray, List.set_cons_zero, List.set_cons_succ, i64_w, i32_w]
                  rfl
                refine pure_ (i := 8) (N := some 32) (v := ?_) (a' := ?_) #[true, true, true, true, true, true, true, true, true, false, false, false, false, false, false] rfl rfl (any_of HT_.out (by kernel_rfl)) (fun _ _ _ h => h) (Or.inl ⟨by rfl, ?_⟩) ?_ ?_
                rotate_left
                · intro w'
                  go_simp
                  with_reducible rfl
                rotate_left
                · simp only [Act.put, List.setIfInBounds_toArray, List.set_cons_zero, List.set_cons_succ, i64_w, i32_w]
                  rfl
                refine pure_ (i := 9) (N := some 33) (v := ?_) (a' := ?_) #[true, true, true, true, true, true, true, true, true, true, false, false, false, false, false] rfl rfl (any_of HT_.out (by kernel_rfl)) (fun _ _ _ h => h) (Or.inl ⟨by rfl, ?_⟩) ?_ ?_
                rotate_left
                · intro w'
                  go_simp
                  with_reducible rfl
                rotate_left
                · simp only [Act.put, List.setIfInBounds_toArray, List.set_cons_zero, List.set_cons_succ, i64_w, i32_w]
                  rfl
                refine pure_ (i := 10) (N := some 34) (v := ?_) (a' := ?_) #[true, true, true, true, true, true, true, true, true, true, true, false, false, false, false] rfl rfl (any_of HT_.out (by kernel_rfl)) (fun _ _ _ h => h) (Or.inl ⟨by rfl, ?_⟩) ?_ ?_
                rotate_left
                · intro w'
                  go_simp
                  with_reducible rfl
                rotate_left
                · simp only [Act.put, List.setIfInBounds_toArray, List.set_cons_zero, List.set_cons_succ, i64_w, i32_w]
                  rfl
                refine one_ (i := 11) (N := some 8) #[true, true, true, true, true, true, true, true, true, true, true, true, false, false, false] rfl rfl (one_of HT_.out (by kernel_rfl)) (by decide) (fun K hK => ?_)
                refine box_step ?hg (N := 8) ?hd (cs := #[.slice none 0 0, .slice none 0 0]) (t := 33) ?hr ?_; (case hd => rfl); (case hg => rfl); (case hr => first | (go_simp; done) | (go_simp; rfl))
                intro gb979 hg w56 hbox hb
                have n0_ := am (Kd.R_below (pkR HO_965000.out) hb)
                have n1_ := am (Kd.R_below (pkR HO_965001.out) hb)
                have n2_ := am (Kd.R_below (pkR HO973.out) hb)
                have n3_ := am (Kd.R_below (pkR HO976.out) hb)
                have n4_ := am (blk_below (pkK BK963.out) hb)
                have n5_ := am (blk_below (pkK BK964.out) hb)
                have n6_ := am (IsS70.below (IsS70.pk HI0.out) hb)
                have n7_ := am (KeepBut.trans (pkH HK.out) (KeepBut.of_below hb g none) (.inl rfl))
                have n8_ := am (below_step (by repeat (first | (with_reducible first | exact HB.out | apply below_alloc | apply pw_below_drewN | apply below_drew1 | refine below_set ?_ (IsS70.ge HI0.out) | refine below_set ?_ GE963.out | refine below_set ?_ GE964.out) | exact HB.out)) hb)
                have n9_ := am (hbox)
                have n10_ := am ((by rw [hg]; first | done | exact (keep_size (w := w) (g := g) (row := none) (pkH HK.out)) : w.heap.size ≤ gb979))
                have n11_ := am ((Nat.le_trans HW0.out (by rw [hg]; first | done | exact (keep_size (w := w) (g := g) (row := none) (pkH HK.out)) : w.heap.size ≤ gb979) : w0.heap.size ≤ gb979))
                have n12_ := am ((by rw [hg]; exact Nat.ne_of_lt (blk_lt (g := gb963) (o := .cells #[.slice none 0 0, .slice none 0 0] 33 (0, 0)) (pkK BK963.out)) : gb963 ≠ gb979))
                have n13_ := am ((by rw [hg]; exact Nat.ne_of_gt (blk_lt (g := gb963) (o := .cells #[.slice none 0 0, .slice none 0 0] 33 (0, 0)) (pkK BK963.out)) : gb979 ≠ gb963))
                have n14_ := am ((by rw [hg]; exact Nat.ne_of_lt (blk_lt (g := gb964) (o := .cells #[.slice Ao51 x965000_1.length co51, .slice Ao52 x965001_1.length co52] 33 (0, 0)) (pkK BK964.out)) : gb964 ≠ gb979))
                have n15_ := am ((by rw [hg]; exact Nat.ne_of_gt (blk_lt (g := gb964) (o := .cells #[.slice Ao51 x965000_1.length co51, .slice Ao52 x965001_1.length co52] 33 (0, 0)) (pkK BK964.out)) : gb979 ≠ gb964))
                have n16_ := am ((by rw [hg]; exact Nat.ne_of_lt (IsS70.lt (show IsS70 w0 _ g s0_0 t969 t970 from IsS70.pk HI0.out)) : g ≠ gb979))
                have n17_ := am ((by rw [hg]; exact Nat.ne_of_gt (IsS70.lt (show IsS70 w0 _ g s0_0 t969 t970 from IsS70.pk HI0.out)) : gb979 ≠ g))
                clear HO_965000 HO_965001 HO973 HO976 BK963 BK964 HI0 HK HB
                have HO_965000 := n0_; have HO_965001 := n1_; have HO973 := n2_; have HO976 := n3_; have BK963 := n4_; have BK964 := n5_; have HI0 := n6_; have HK := n7_; have HB := n8_; have BK979 := n9_; have GW979 := n10_; have GE979 := n11_; have NB963_979 := n12_; have NB979_963 := n13_; have NB964_979 := n14_; have NB979_964 := n15_; have NB0_979 := n16_; have NB979_0 := n17_
                clear n0_ n1_ n2_ n3_ n4_ n5_ n6_ n7_ n8_ n9_ n10_ n11_ n12_ n13_ n14_ n15_ n16_ n17_ hb hbox hg
                refine hK.out _ _ ⟨(blk_cell BK964.out 0).trans rfl, (blk_cell BK964.out 1).trans rfl⟩ (fun hHeld => ?_)
                clear hK K
                refine norm_ (a' := ?_) ?_ ?_
                rotate_left
                · show Act.put _ (some 8) _ = _
                  simp only [Act.put, List.setIfInBounds_toArray, List.set_cons_zero, List.set_cons_succ, i64_w, i32_w]
                  rfl
                exact norm_ (by simp only [putAll, Act.put, List.setIfInBounds_toArray, List.set_cons_zero, List.set_cons_succ]) (hCont (v972, v975, gb979) _ ⟨hHeld, (by (with_reducible repeat (first | apply Kd.R_alloc | apply Kd.R_drewN | apply Kd.R_drew)); exact Kd.R_mono HO973.out (fun _ hk => hk.2)), (by (with_reducible repeat (first | apply Kd.R_alloc | apply Kd.R_drewN | apply Kd.R_drew)); exact Kd.R_mono HO976.out (fun _ hk => hk.2)), (by (with_reducible repeat (first | apply Kd.R_alloc | apply Kd.R_drewN | apply Kd.R_drew)); exact Kd.R_mono HO_965000.out (fun _ hk => hk.2)), (by (with_reducible repeat (first | apply Kd.R_alloc | apply Kd.R_drewN | apply Kd.R_drew)); exact Kd.R_mono HO_965001.out (fun _ hk => hk.2)), (pkK BK963.out), (pkK BK964.out), (pkK BK979.out), GW979.out, GE979.out, NB0_979.out, NB979_0.out, NB963_979.out, NB979_963.out, NB964_979.out, NB979_964.out, (IsS70.pk HI0.out), (pkH HK.out), (by repeat (first | (with_reducible first | exact HB.out | apply below_alloc | apply pw_below_drewN | apply below_drew1 | refine below_set ?_ (IsS70.ge HI0.out) | refine below_set ?_ GE963.out | refine below_set ?_ GE964.out | refine below_set ?_ GE979.out) | exact HB.out))⟩)
              · skip
                refine box_step ?hg (N := 8) ?hd (cs := #[.slice none 0 0, .slice none 0 0]) (t := 33) ?hr ?_; (case hd => rfl); (case hg => rfl); (case hr => first | (go_simp; done) | (go_simp; rfl))
                intro gb979 hg w55 hbox hb
                have n0_ := am (Kd.R_below (pkR HO_965000.out) hb)
                have n1_ := am (Kd.R_below (pkR HO_965001.out) hb)
                have n2_ := am (blk_below (pkK BK963.out) hb)
                have n3_ := am (blk_below (pkK BK964.out) hb)
                have n4_ := am (IsS70.below (IsS70.pk HI0.out) hb)
                have n5_ := am (KeepBut.trans (pkH HK.out) (KeepBut.of_below hb g none) (.inl rfl))
                have n6_ := am (below_step (by repeat (first | (with_reducible first | exact HB.out | apply below_alloc | apply pw_below_drewN | apply below_drew1 | refine below_set ?_ (IsS70.ge HI0.out) | refine below_set ?_ GE963.out | refine below_set ?_ GE964.out) | exact HB.out)) hb)
                have n7_ := am (hbox)
                have n8_ := am ((by rw [hg]; first | done | exact (keep_size (w := w) (g := g) (row := none) (pkH HK.out)) : w.heap.size ≤ gb979))
                have n9_ := am ((Nat.le_trans HW0.out (by rw [hg]; first | done | exact (keep_size (w := w) (g := g) (row := none) (pkH HK.out)) : w.heap.size ≤ gb979) : w0.heap.size ≤ gb979))
                have n10_ := am ((by rw [hg]; exact Nat.ne_of_lt (blk_lt (g := gb963) (o := .cells #[.slice none 0 0, .slice none 0 0] 33 (0, 0)) (pkK BK963.out)) : gb963 ≠ gb979))
                have n11_ := am ((by rw [hg]; exact Nat.ne_of_gt (blk_lt (g := gb963) (o := .cells #[.slice none 0 0, .slice none 0 0] 33 (0, 0)) (pkK BK963.out)) : gb979 ≠ gb963))
                have n12_ := am ((by rw [hg]; exact Nat.ne_of_lt (blk_lt (g := gb964) (o := .cells #[.slice Ao51 x965000_1.length co51, .slice Ao52 x965001_1.length co52] 33 (0, 0)) (pkK BK964.out)) : gb964 ≠ gb979))
                have n13_ := am ((by rw [hg]; exact Nat.ne_of_gt (blk_lt (g := gb964) (o := .cells #[.slice Ao51 x965000_1.length co51, .slice Ao52 x965001_1.length co52] 33 (0, 0)) (pkK BK964.out)) : gb979 ≠ gb964))
                have n14_ := am ((by rw [hg]; exact Nat.ne_of_lt (IsS70.lt (show IsS70 w0 _ g s0_0 t969 t970 from IsS70.pk HI0.out)) : g ≠ gb979))
                have n15_ := am ((by rw [hg]; exact Nat.ne_of_gt (IsS70.lt (show IsS70 w0 _ g s0_0 t969 t970 from IsS70.pk HI0.out)) : gb979 ≠ g))
                clear HO_965000 HO_965001 BK963 BK964 HI0 HK HB
                have HO_965000 := n0_; have HO_965001 := n1_; have BK963 := n2_; have BK964 := n3_; have HI0 := n4_; have HK := n5_; have HB := n6_; have BK979 := n7_; have GW979 := n8_; have GE979 := n9_; have NB963_979 := n10_; have NB979_963 := n11_; have NB964_979 := n12_; have NB979_964 := n13_; have NB0_979 := n14_; have NB979_0 := n15_
                clear n0_ n1_ n2_ n3_ n4_ n5_ n6_ n7_ n8_ n9_ n10_ n11_ n12_ n13_ n14_ n15_ hb hbox hg
                refine hK.out _ _ ⟨(blk_cell BK964.out 0).trans rfl, (blk_cell BK964.out 1).trans rfl⟩ (fun hHeld => ?_)
                clear hK K
                refine norm_ (a' := ?_) ?_ ?_
                rotate_left
                · show Act.put _ (some 8) _ = _
                  simp only [Act.put, List.setIfInBounds_toArray, List.set_cons_zero, List.set_cons_succ, i64_w, i32_w]
                  rfl
                refine one_ (i := 6) (N := some 31) #[true, true, true, true, true, true, true, false, false, false, false, true, false, false, false] rfl rfl (one_of HT_.out (by kernel_rfl)) (by decide) (fun K hK => ?_)
                refine goes_ Try.func39 (by kernel_rfl) rfl #[.agg #[.slice Ao51 x965000_1.length co51, .slice Ao52 x965001_1.length co52], .int .i64 (wrap64 (t968 - 1))] (by rfl) rfl rfl mpx ?_
                with_reducible refine (spec_NewToken.calls k1 _ _ x965000_1 _ _ x965001_1 (wrap64 (t968 - 1)) t971 t974 t977 t978 _ ?side1 ?side2 ?side3 ?side4 A12.out).mono ?_
                (case side1 => exact pkC (Kd.R_reads' HO_965000.out).2.2)
                (case side2 => exact (Kd.R_reads' HO_965000.out).2.1)
                (case side3 => exact pkC (Kd.R_reads' HO_965001.out).2.2)
                (case side4 => exact (Kd.R_reads' HO_965001.out).2.1)
                rintro e w56 ⟨v972, v975, rfl, ho0, ho1, hb⟩
                refine ⟨_, rfl, ?_⟩
                have n0_ := am (Kd.R_elder' (pkR HO_965000.out) (Kd.R_base ho0) hb)
                have n1_ := am (Kd.R_elder' (pkR HO_965001.out) (Kd.R_base ho1) hb)
                have n2_ := am (Kd.R_lower (Kd.R_new' ho0 (Kd.R_lt (pkR HO_965000.out))) (keep_size (w := w) (g := g) (row := none) (pkH HK.out)))
                have n3_ := am (Kd.R_lower (Kd.R_new' ho1 (Kd.R_lt (pkR HO_965001.out))) (keep_size (w := w) (g := g) (row := none) (pkH HK.out)))
                have n4_ := am (blk_below (pkK BK963.out) hb)
                have n5_ := am (blk_below (pkK BK964.out) hb)
                have n6_ := am (IsS70.below (IsS70.pk HI0.out) hb)
                have n7_ := am (blk_below (pkK BK979.out) hb)
                have n8_ := am (KeepBut.trans (pkH HK.out) (KeepBut.of_below hb g none) (.inl rfl))
                have n9_ := am (below_step (by repeat (first | (with_reducible first | exact HB.out | apply below_alloc | apply pw_below_drewN | apply below_drew1 | refine below_set ?_ (IsS70.ge HI0.out) | refine below_set ?_ GE963.out | refine below_set ?_ GE964.out | refine below_set ?_ GE979.out) | exact HB.out)) hb)
                clear HO_965000 HO_965001 BK963 BK964 HI0 BK979 HK HB
                have HO_965000 := n0_; have HO_965001 := n1_; have HO973 := n2_; have HO976 := n3_; have BK963 := n4_; have BK964 := n5_; have HI0 := n6_; have BK979 := n7_; have HK := n8_; have HB := n9_
                clear n0_ n1_ n2_ n3_ n4_ n5_ n6_ n7_ n8_ n9_
                (try clear hb); (try clear hb2); (try clear hk); (try clear hi); (try clear ho0); (try clear ho1)
                refine hK.out _ _ ⟨(blk_cell BK964.out 0).trans rfl, (blk_cell BK964.out 1).trans rfl⟩ (fun hHeld => ?_)
                clear hK K
                refine norm_ (a' := ?_) ?_ ?_
                rotate_left
                · show Act.put _ (some 31) _ = _
                  simp only [Act.put, List.setIfInBounds_toArray, List.set_cons_zero, List.set_cons_succ, i64_w, i32_w]
                  rfl
                refine pure_ (i := 7) (N := some 24) (v := ?_) (a' := ?_) #[true, true, true, true, true, true, true, true, false, false, false, true, false, false, false] rfl rfl (any_of HT_.out (by kernel_rfl)) (fun _ _ _ h => h) (Or.inl ⟨by rfl, ?_⟩) ?_ ?_
                rotate_left
                · intro w'
                  go_simp
                  with_reducible rfl
                rotate_left
                · simp only [Act.put, List.setIfInBounds_toArray, List.set_cons_zero, List.set_cons_succ, i64_w, i32_w]
                  rfl
                refine pure_ (i := 8) (N := some 32) (v := ?_) (a' := ?_) #[true, true, true, true, true, true, true, true, true, false, false, true, false, false, false] rfl rfl (any_of HT_.out (by kernel_rfl)) (fun _ _ _ h => h) (Or.inl ⟨by rfl, ?_⟩) ?_ ?_
                rotate_left
                · intro w'
                  go_simp
                  with_reducible rfl
                rotate_left
                · simp only [Act.put, List.setIfInBounds_toArray, List.set_cons_zero, List.set_cons_succ, i64_w, i32_w]
                  rfl
                refine pure_ (i := 9) (N := some 33) (v := ?_) (a' := ?_) #[true, true, true, true, true, true, true, true, true, true, false, true, false, false, false] rfl rfl (any_of HT_.out (by kernel_rfl)) (fun _ _ _ h => h) (Or.inl ⟨by rfl, ?_⟩) ?_ ?_
                rotate_left
                · intro w'
                  go_simp
                  with_reducible rfl
                rotate_left
                · simp only [Act.put, List.setIfInBounds_toArray, List.set_cons_zero, List.set_cons_succ, i64_w, i32_w]
                  rfl
                refine pure_ (i := 10) (N := some 34) (v := ?_) (a' := ?_) #[true, true, true, true, true, true, true, true, true, true, true, true, false, false, false] rfl rfl (any_of HT_.out (by kernel_rfl)) (fun _ _ _ h => h) (Or.inl ⟨by rfl, ?_⟩) ?_ ?_
                rotate_left
                · intro w'
                  go_simp
                  with_reducible rfl
                rotate_left
                · simp only [Act.put, List.setIfInBounds_toArray, List.set_cons_zero, List.set_cons_succ, i64_w, i32_w]
                  rfl
                exact norm_ (by simp only [putAll, Act.put, List.setIfInBounds_toArray, List.set_cons_zero, List.set_cons_succ]) (hCont (v972, v975, gb979) _ ⟨hHeld, (by (with_reducible repeat (first | apply Kd.R_alloc | apply Kd.R_drewN | apply Kd.R_drew)); exact Kd.R_mono HO973.out (fun _ hk => hk.2)), (by (with_reducible repeat (first | apply Kd.R_alloc | apply Kd.R_drewN | apply Kd.R_drew)); exact Kd.R_mono HO976.out (fun _ hk => hk.2)), (by (with_reducible repeat (first | apply Kd.R_alloc | apply Kd.R_drewN | apply Kd.R_drew)); exact Kd.R_mono HO_965000.out (fun _ hk => hk.2)), (by (with_reducible repeat (first | apply Kd.R_alloc | apply Kd.R_drewN | apply Kd.R_drew)); exact Kd.R_mono HO_965001.out (fun _ hk => hk.2)), (pkK BK963.out), (pkK BK964.out), (pkK BK979.out), GW979.out, GE979.out, NB0_979.out, NB979_0.out, NB963_979.out, NB979_963.out, NB964_979.out, NB979_964.out, (IsS70.pk HI0.out), (pkH HK.out), (by repeat (first | (with_reducible first | exact HB.out | apply below_alloc | apply pw_below_drewN | apply below_drew1 | refine below_set ?_ (IsS70.ge HI0.out) | refine below_set ?_ GE963.out | refine below_set ?_ GE964.out | refine below_set ?_ GE979.out) | exact HB.out))⟩)
            · skip
              refine box_step ?hg (N := 8) ?hd (cs := #[.slice none 0 0, .slice none 0 0]) (t := 33) ?hr ?_; (case hd => rfl); (case hg => rfl); (case hr => first | (go_simp; done) | (go_simp; rfl))
              intro gb979 hg w54 hbox hb
              have n0_ := am (Kd.R_below (pkR HO_965000.out) hb)
              have n1_ := am (Kd.R_below (pkR HO_965001.out) hb)
              have n2_ := am (blk_below (pkK BK963.out) hb)
              have n3_ := am (blk_below (pkK BK964.out) hb)
              have n4_ := am (IsS70.below (IsS70.pk HI0.out) hb)
              have n5_ := am (KeepBut.trans (pkH HK.out) (KeepBut.of_below hb g none) (.inl rfl))
              have n6_ := am (below_step (by repeat (first | (with_reducible first | exact HB.out | apply below_alloc | apply pw_below_drewN | apply below_drew1 | refine below_set ?_ (IsS70.ge HI0.out) | refine below_set ?_ GE963.out | refine below_set ?_ GE964.out) | exact HB.out)) hb)
              have n7_ := am (hbox)
              have n8_ := am ((by rw [hg]; first | done | exact (keep_size (w := w) (g := g) (row := none) (pkH HK.out)) : w.heap.size ≤ gb979))
              have n9_ := am ((Nat.le_trans HW0.out (by rw [hg]; first | done | exact (keep_size (w := w) (g := g) (row := none) (pkH HK.out)) : w.heap.size ≤ gb979) : w0.heap.size ≤ gb979))
              have n10_ := am ((by rw [hg]; exact Nat.ne_of_lt (blk_lt (g := gb963) (o := .cells #[.slice none 0 0, .slice none 0 0] 33 (0, 0)) (pkK BK963.out)) : gb963 ≠ gb979))
              have n11_ := am ((by rw [hg]; exact Nat.ne_of_gt (blk_lt (g := gb963) (o := .cells #[.slice none 0 0, .slice none 0 0] 33 (0, 0)) (pkK BK963.out)) : gb979 ≠ gb963))
              have n12_ := am ((by rw [hg]; exact Nat.ne_of_lt (blk_lt (g := gb964) (o := .cells #[.slice Ao51 x965000_1.length co51, .slice Ao52 x965001_1.length co52] 33 (0, 0)) (pkK BK964.out)) : gb964 ≠ gb979))
              have n13_ := am ((by rw [hg]; exact Nat.ne_of_gt (blk_lt (g := gb964) (o := .cells #[.slice Ao51 x965000_1.length co51, .slice Ao52 x965001_1.length co52] 33 (0, 0)) (pkK BK964.out)) : gb979 ≠ gb964))
              have n14_ := am ((by rw [hg]; exact Nat.ne_of_lt (IsS70.lt (show IsS70 w0 _ g s0_0 x1001_1 x1002_1 from IsS70.pk HI0.out)) : g ≠ gb979))
              have n15_ := am ((by rw [hg]; exact Nat.ne_of_gt (IsS70.lt (show IsS70 w0 _ g s0_0 x1001_1 x1002_1 from IsS70.pk HI0.out)) : gb979 ≠ g))
              clear HO_965000 HO_965001 BK963 BK964 HI0 HK HB
              have HO_965000 := n0_; have HO_965001 := n1_; have BK963 := n2_; have BK964 := n3_; have HI0 := n4_; have HK := n5_; have HB := n6_; have BK979 := n7_; have GW979 := n8_; have GE979 := n9_; have NB963_979 := n10_; have NB979_963 := n11_; have NB964_979 := n12_; have NB979_964 := n13_; have NB0_979 := n14_; have NB979_0 := n15_
              clear n0_ n1_ n2_ n3_ n4_ n5_ n6_ n7_ n8_ n9_ n10_ n11_ n12_ n13_ n14_ n15_ hb hbox hg
              refine hK.out _ _ ⟨(blk_cell BK964.out 0).trans rfl, (blk_cell BK964.out 1).trans rfl⟩ (fun hHeld => ?_)
              clear hK K
              refine norm_ (a' := ?_) ?_ ?_
              rotate_left
              · show Act.put _ (some 8) _ = _
                simp only [Act.put, List.setIfInBounds_toArray, List.set_cons_zero, List.set_cons_succ, i64_w, i32_w]
                rfl
              refine one_ (i := 4) (N := some 29) #[true, true, true, true, true, false, false, false, false, false, false, true, false, false, false] rfl rfl (one_of HT_.out (by kernel_rfl)) (by decide) (fun K hK => ?_)
              refine goes_ Try.func77 (by kernel_rfl) rfl #[.pointer (some ⟨g, 0, none⟩), .int .i64 (wrap64 (x7_1 + 1))] (by rfl) rfl rfl mpx ?_
              with_reducible refine (spec_l1Below.calls g s0_0 x1001_1 x1002_1 (wrap64 (x7_1 + 1)) t968 t969 t970 w0 _ ?side1 ?side2 A11.out).mono ?_
              (case side1 => repeat (first | (with_reducible first | exact HI0.out | apply IsS70.alloc | apply IsS70.drewN | apply IsS70.drew | apply IsS70.set_1 | apply IsS70.set_2 | refine IsS70.far ?_ NB0_963.out _ | refine IsS70.far ?_ NB0_964.out _ | refine IsS70.far ?_ NB0_979.out _) | exact HI0.out))
              (case side2 => repeat (first | (with_reducible first | exact HB.out | apply below_alloc | apply pw_below_drewN | apply below_drew1 | refine below_set ?_ (IsS70.ge HI0.out) | refine below_set ?_ GE963.out | refine below_set ?_ GE964.out | refine below_set ?_ GE979.out) | exact HB.out))
              rintro e w55 ⟨rfl, hi, hb, hk⟩
              refine ⟨_, rfl, ?_⟩
              have n0_ := am (Kd.R_mono (Kd.R_keep (IsS70.apart (show IsS70 w0 _ g s0_0 x1001_1 x1002_1 from IsS70.pk HI0.out) (pkR HO_965000.out) (by decide)) hk (fun _ h => h.2)) (fun _ h => h.1))
              have n1_ := am (Kd.R_mono (Kd.R_keep (IsS70.apart (show IsS70 w0 _ g s0_0 x1001_1 x1002_1 from IsS70.pk HI0.out) (pkR HO_965001.out) (by decide)) hk (fun _ h => h.2)) (fun _ h => h.1))
              have n2_ := am (KeepBut.blk hk (g' := gb963) (o := .cells #[.slice none 0 0, .slice none 0 0] 33 (0, 0)) (pkK BK963.out) NB963_0.out (by simp))
              have n3_ := am (KeepBut.blk hk (g' := gb964) (o := .cells #[.slice Ao51 x965000_1.length co51, .slice Ao52 x965001_1.length co52] 33 (0, 0)) (pkK BK964.out) NB964_0.out (by simp))
              have n4_ := am (KeepBut.blk hk (g' := gb979) (o := .cells #[.slice none 0 0, .slice none 0 0] 33 (0, 0)) (pkK BK979.out) NB979_0.out (by simp))
              have n5_ := am (KeepBut.trans (pkH HK.out) hk (.inl rfl))
              have n6_ := am (hb)
              have n7_ := am (hi)
              clear HO_965000 HO_965001 BK963 BK964 BK979 HK HB HI0
              have HO_965000 := n0_; have HO_965001 := n1_; have BK963 := n2_; have BK964 := n3_; have BK979 := n4_; have HK := n5_; have HB := n6_; have HI0 := n7_
              clear n0_ n1_ n2_ n3_ n4_ n5_ n6_ n7_
              (try clear hb); (try clear hb2); (try clear hk); (try clear hi)
              refine hK.out _ _ ⟨(blk_cell BK964.out 0).trans rfl, (blk_cell BK964.out 1).trans rfl⟩ (fun hHeld => ?_)
              clear hK K
              refine norm_ (a' := ?_) ?_ ?_
              rotate_left
              · show Act.put _ (some 29) _ = _
                simp only [Act.put, List.setIfInBounds_toArray, List.set_cons_zero, List.set_cons_succ, i64_w, i32_w]
                rfl
              refine pure_ (i := 5) (N := some 30) (v := ?_) (a' := ?_) #[true, true, true, true, true, true, false, false, false, false, false, true, false, false, false] rfl rfl (any_of HT_.out (by kernel_rfl)) (fun _ _ _ h => h) (Or.inl ⟨by rfl, ?_⟩) ?_ ?_
              rotate_left
              · intro w'
                go_simp
                with_reducible rfl
              rotate_left
              · simp only [Act.put, List.setIfInBounds_toArray, List.set_cons_zero, List.set_cons_succ, i64_w, i32_w]
                rfl
              refine one_ (i := 6) (N := some 31) #[true, true, true, true, true, true, true, false, false, false, false, true, false, false, false] rfl rfl (one_of HT_.out (by kernel_rfl)) (by decide) (fun K hK => ?_)
              refine goes_ Try.func39 (by kernel_rfl) rfl #[.agg #[.slice Ao51 x965000_1.length co51, .slice Ao52 x965001_1.length co52], .int .i64 (wrap64 (t968 - 1))] (by rfl) rfl rfl mpx ?_
              with_reducible refine (spec_NewToken.calls k1 _ _ x965000_1 _ _ x965001_1 (wrap64 (t968 - 1)) t971 t974 t977 t978 _ ?side1 ?side2 ?side3 ?side4 A12.out).mono ?_
              (case side1 => exact pkC (Kd.R_reads' HO_965000.out).2.2)
              (case side2 => exact (Kd.R_reads' HO_965000.out).2.1)
              (case side3 => exact pkC (Kd.R_reads' HO_965001.out).2.2)
              (case side4 => exact (Kd.R_reads' HO_965001.out).2.1)
              rintro e w56 ⟨v972, v975, rfl, ho0, ho1, hb⟩
              refine ⟨_, rfl, ?_⟩
              have n0_ := am (Kd.R_elder' (pkR HO_965000.out) (Kd.R_base ho0) hb)
              have n1_ := am (Kd.R_elder' (pkR HO_965001.out) (Kd.R_base ho1) hb)
              have n2_ := am (Kd.R_lower (Kd.R_new' ho0 (Kd.R_lt (pkR HO_965000.out))) (keep_size (w := w) (g := g) (row := none) (pkH HK.out)))
              have n3_ := am (Kd.R_lower (Kd.R_new' ho1 (Kd.R_lt (pkR HO_965001.out))) (keep_size (w := w) (g := g) (row := none) (pkH HK.out)))
              have n4_ := am (blk_below (pkK BK963.out) hb)
              have n5_ := am (blk_below (pkK BK964.out) hb)
              have n6_ := am (IsS70.below (IsS70.pk HI0.out) hb)
              have n7_ := am (blk_below (pkK BK979.out) hb)
              have n8_ := am (KeepBut.trans (pkH HK.out) (KeepBut.of_below hb g none) (.inl rfl))
              have n9_ := am (below_step (by repeat (first | (with_reducible first | exact HB.out | apply below_alloc | apply pw_below_drewN | apply below_drew1 | refine below_set ?_ (IsS70.ge HI0.out) | refine below_set ?_ GE963.out | refine below_set ?_ GE964.out | refine below_set ?_ GE979.out) | exact HB.out)) hb)
              clear HO_965000 HO_965001 BK963 BK964 HI0 BK979 HK HB
              have HO_965000 := n0_; have HO_965001 := n1_; have HO973 := n2_; have HO976 := n3_; have BK963 := n4_; have BK964 := n5_; have HI0 := n6_; have BK979 := n7_; have HK := n8_; have HB := n9_
              clear n0_ n1_ n2_ n3_ n4_ n5_ n6_ n7_ n8_ n9_
              (try clear hb); (try clear hb2); (try clear hk); (try clear hi); (try clear ho0); (try clear ho1)
              refine hK.out _ _ ⟨(blk_cell BK964.out 0).trans rfl, (blk_cell BK964.out 1).trans rfl⟩ (fun hHeld => ?_)
              clear hK K
              refine norm_ (a' := ?_) ?_ ?_
              rotate_left
              · show Act.put _ (some 31) _ = _
                simp only [Act.put, List.setIfInBounds_toArray, List.set_cons_zero, List.set_cons_succ, i64_w, i32_w]
                rfl
              refine pure_ (i := 7) (N := some 24) (v := ?_) (a' := ?_) #[true, true, true, true, true, true, true, true, false, false, false, true, false, false, false] rfl rfl (any_of HT_.out (by kernel_rfl)) (fun _ _ _ h => h) (Or.inl ⟨by rfl, ?_⟩) ?_ ?_
              rotate_left
              · intro w'
                go_simp
                with_reducible rfl
              rotate_left
              · simp only [Act.put, List.setIfInBounds_toArray, List.set_cons_zero, List.set_cons_succ, i64_w, i32_w]
                rfl
              refine pure_ (i := 8) (N := some 32) (v := ?_) (a' := ?_) #[true, true, true, true, true, true, true, true, true, false, false, true, false, false, false] rfl rfl (any_of HT_.out (by kernel_rfl)) (fun _ _ _ h => h) (Or.inl ⟨by rfl, ?_⟩) ?_ ?_
              rotate_left
              · intro w'
                go_simp
                with_reducible rfl
              rotate_left
              · simp only [Act.put, List.setIfInBounds_toArray, List.set_cons_zero, List.set_cons_succ, i64_w, i32_w]
                rfl
              refine pure_ (i := 9) (N := some 33) (v := ?_) (a' := ?_) #[true, true, true, true, true, true, true, true, true, true, false, true, false, false, false] rfl rfl (any_of HT_.out (by kernel_rfl)) (fun _ _ _ h => h) (Or.inl ⟨by rfl, ?_⟩) ?_ ?_
              rotate_left
              · intro w'
                go_simp
                with_reducible rfl
              rotate_left
              · simp only [Act.put, List.setIfInBounds_toArray, List.set_cons_zero, List.set_cons_succ, i64_w, i32_w]
                rfl
              refine pure_ (i := 10) (N := some 34) (v := ?_) (a' := ?_) #[true, true, true, true, true, true, true, true, true, true, true, true, false, false, false] rfl rfl (any_of HT_.out (by kernel_rfl)) (fun _ _ _ h => h) (Or.inl ⟨by rfl, ?_⟩) ?_ ?_
              rotate_left
              · intro w'
                go_simp
                with_reducible rfl
              rotate_left
              · simp only [Act.put, List.setIfInBounds_toArray, List.set_cons_zero, List.set_cons_succ, i64_w, i32_w]
                rfl
              exact norm_ (by simp only [putAll, Act.put, List.setIfInBounds_toArray, List.set_cons_zero, List.set_cons_succ]) (hCont (v972, v975, gb979) _ ⟨hHeld, (by (with_reducible repeat (first | apply Kd.R_alloc | apply Kd.R_drewN | apply Kd.R_drew)); exact Kd.R_mono HO973.out (fun _ hk => hk.2)), (by (with_reducible repeat (first | apply Kd.R_alloc | apply Kd.R_drewN | apply Kd.R_drew)); exact Kd.R_mono HO976.out (fun _ hk => hk.2)), (by (with_reducible repeat (first | apply Kd.R_alloc | apply Kd.R_drewN | apply Kd.R_drew)); exact Kd.R_mono HO_965000.out (fun _ hk => hk.2)), (by (with_reducible repeat (first | apply Kd.R_alloc | apply Kd.R_drewN | apply Kd.R_drew)); exact Kd.R_mono HO_965001.out (fun _ hk => hk.2)), (pkK BK963.out), (pkK BK964.out), (pkK BK979.out), GW979.out, GE979.out, NB0_979.out, NB979_0.out, NB963_979.out, NB979_963.out, NB964_979.out, NB979_964.out, (IsS70.pk HI0.out), (pkH HK.out), (by repeat (first | (with_reducible first | exact HB.out | apply below_alloc | apply pw_below_drewN | apply below_drew1 | refine below_set ?_ (IsS70.ge HI0.out) | refine below_set ?_ GE963.out | refine below_set ?_ GE964.out | refine below_set ?_ GE979.out) | exact HB.out))⟩)
          rintro ⟨v972, v975, gb979⟩ w57 ⟨hS_, h0_, h1_, h2_, h3_, h4_, h5_, h6_, h7_, h8_, h9_, h10_, h11_, h12_, h13_, h14_, h15_, h16_, h17_⟩
          have n0_ : Aside0 (Kd.R (Kd.int .i64) 3 w57 w.heap.size (fun k_ => some k_ ≠ (.slice Ao51 x965000_1.length co51 : Value).ownBlock) v972 t971) := ⟨h0_⟩
          have n1_ : Aside0 (Kd.R Kd.bool 4 w57 w.heap.size (fun k_ => some k_ ≠ (.slice Ao52 x965001_1.length co52 : Value).ownBlock) v975 t974) := ⟨h1_⟩
          have n2_ : Aside0 (Kd.R (Kd.int .i64) 3 w57 w.heap.size (fun k_ => some k_ ≠ (v972 : Value).ownBlock) (.slice Ao51 x965000_1.length co51) x965000_1) := ⟨h2_⟩
          have n3_ : Aside0 (Kd.R Kd.bool 4 w57 w.heap.size (fun k_ => some k_ ≠ (v975 : Value).ownBlock) (.slice Ao52 x965001_1.length co52) x965001_1) := ⟨h3_⟩
          have n4_ : Aside0 (w57.heap[gb963]? = some (.cells #[.slice none 0 0, .slice none 0 0] 33 (0, 0))) := ⟨h4_⟩
          have n5_ : Aside0 (w57.heap[gb964]? = some (.cells #[.slice Ao51 x965000_1.length co51, .slice Ao52 x965001_1.length co52] 33 (0, 0))) := ⟨h5_⟩
          have n6_ : Aside0 (w57.heap[gb979]? = some (.cells #[.slice none 0 0, .slice none 0 0] 33 (0, 0))) := ⟨h6_⟩
          have n7_ : Aside0 (w.heap.size ≤ gb979) := ⟨h7_⟩
          have n8_ : Aside0 (w0.heap.size ≤ gb979) := ⟨h8_⟩
          have n9_ : Aside0 (g ≠ gb979) := ⟨h9_⟩
          have n10_ : Aside0 (gb979 ≠ g) := ⟨h10_⟩
          have n11_ : Aside0 (gb963 ≠ gb979) := ⟨h11_⟩
          have n12_ : Aside0 (gb979 ≠ gb963) := ⟨h12_⟩
          have n13_ : Aside0 (gb964 ≠ gb979) := ⟨h13_⟩
          have n14_ : Aside0 (gb979 ≠ gb964) := ⟨h14_⟩
          have n15_ : Aside0 (IsS70 w0 w57 g s0_0 t969 t970) := ⟨h15_⟩
          have n16_ : Aside0 (KeepBut w w57 g none) := ⟨h16_⟩
          have n17_ : Aside0 (Below w0.heap.size w0 w57) := ⟨h17_⟩
          clear HO_965000 HO_965001 BK963 BK964 HI0 HK HB h0_ h1_ h2_ h3_ h4_ h5_ h6_ h7_ h8_ h9_ h10_ h11_ h12_ h13_ h14_ h15_ h16_ h17_
          have HO973 := n0_; have HO976 := n1_; have HO_965000 := n2_; have HO_965001 := n3_; have BK963 := n4_; have BK964 := n5_; have BK979 := n6_; have GW979 := n7_; have GE979 := n8_; have NB0_979 := n9_; have NB979_0 := n10_; have NB963_979 := n11_; have NB979_963 := n12_; have NB964_979 := n13_; have NB979_964 := n14_; have HI0 := n15_; have HK := n16_; have HB := n17_
          clear n0_ n1_ n2_ n3_ n4_ n5_ n6_ n7_ n8_ n9_ n10_ n11_ n12_ n13_ n14_ n15_ n16_ n17_
          have hHeld : w57.cell? ⟨gb964, 0, none⟩ = some (.slice Ao51 x965000_1.length co51) ∧ w57.cell? ⟨gb964, 1, none⟩ = some (.slice Ao52 x965001_1.length co52) := hS_
          obtain ⟨Ao58, co58, eo58⟩ := Kd.R_slice HO973.out
          (first | subst eo58 | (injection eo58 with f1_ f2_ f3_; have f4_ := f1_.symm; have f5_ := f3_.symm; clear f1_ f2_ f3_; subst f4_; subst f5_))
          obtain ⟨Ao60, co60, eo60⟩ := Kd.R_slice HO976.out
          (first | subst eo60 | (injection eo60 with f1_ f2_ f3_; have f4_ := f1_.symm; have f5_ := f3_.symm; clear f1_ f2_ f3_; subst f4_; subst f5_))
          refine norm_ (a' := ?_) ?_ ?_
          rotate_left
          · simp only [putAll, Act.put, List.setIfInBounds_toArray, List.set_cons_zero, List.set_cons_succ]
            rfl
          refine one_ (i := 12) (N := none) #[true, true, true, true, true, true, true, true, true, true, true, true, true, false, false] rfl rfl (one_of HT_.out (by kernel_rfl)) (by decide) (fun K hK => ?_)
          have hs59 : w57.cell? ⟨gb979, 0, none⟩ = some (.slice none 0 0) := (blk_cell BK979.out 0).trans rfl
          have hfs59 := blk_frozen BK979.out 0
          have hns59_0 := NB963_979.out
          have hns59_1 := NB964_979.out
          have hms59_0 := NB979_963.out
          have hms59_1 := NB979_964.out
          have hs61 : w57.cell? ⟨gb979, 1, none⟩ = some (.slice none 0 0) := (blk_cell BK979.out 1).trans rfl
          have hfs61 := blk_frozen BK979.out 1
          have hns61_0 := NB963_979.out
          have hns61_1 := NB964_979.out
          have hms61_0 := NB979_963.out
          have hms61_1 := NB979_964.out
          refine skip_ (w1 := ?_) (by rfl) rfl ?_ ?_
          rotate_left
          · go_simp
            rfl
          refine hK.out _ _ ⟨((cell_far (p := ⟨gb979, _, none⟩) NB964_979.out _).trans (((cell_far (p := ⟨gb979, _, none⟩) NB964_979.out _).trans (hHeld.1)))), ((cell_far (p := ⟨gb979, _, none⟩) NB964_979.out _).trans (((cell_far (p := ⟨gb979, _, none⟩) NB964_979.out _).trans (hHeld.2))))⟩ (fun hHeld => ?_)
          clear hK K
          refine pure_ (i := 13) (N := some 9) (v := ?_) (a' := ?_) #[true, true, true, true, true, true, true, true, true, true, true, true, true, true, false] rfl rfl (any_of HT_.out (by kernel_rfl)) (fun _ _ _ h => h) (Or.inl ⟨by rfl, ?_⟩) ?_ ?_
          rotate_left
          · intro w'
            go_simp
            with_reducible rfl
          rotate_left
          · simp only [Act.put, List.setIfInBounds_toArray, List.set_cons_zero, List.set_cons_succ, i64_w, i32_w]
            rfl
          refine pure_ (i := 14) (N := some 10) (v := ?_) (a' := ?_) #[true, true, true, true, true, true, true, true, true, true, true, true, true, true, true] rfl rfl (any_of HT_.out (by kernel_rfl)) (fun _ _ _ h => h) (Or.inl ⟨by rfl, ?_⟩) ?_ ?_
          rotate_left
          · intro w'
            go_simp
            with_reducible rfl
          rotate_left
          · simp only [Act.put, List.setIfInBounds_toArray, List.set_cons_zero, List.set_cons_succ, i64_w, i32_w]
            rfl
          refine done_ (done_of HT_.out (by kernel_rfl)) ?_
          have hnb62 := NB979_963.out
          have hnc62 := NB963_979.out
          have hnb63 := NB979_964.out
          have hnc63 := NB964_979.out
          have hnb64 := NB979_0.out
          have hnc64 := NB0_979.out
          have hcz65_0 : w57.cell? ⟨gb979, 0, none⟩ = some (.slice none 0 0) := (blk_cell BK979.out 0).trans rfl
          have hcz65_1 : w57.cell? ⟨gb979, 1, none⟩ = some (.slice none 0 0) := (blk_cell BK979.out 1).trans rfl
          have hfz65_0 := blk_frozen BK979.out 0
          have hfz65_1 := blk_frozen BK979.out 1
          have hnb66 := NB964_963.out
          have hnc66 := NB963_964.out
          have hnb67 := NB964_0.out
          have hnc67 := NB0_964.out
          have hcz68_0 : w57.cell? ⟨gb964, 0, none⟩ = some (.slice Ao51 x965000_1.length co51) := (blk_cell BK964.out 0).trans rfl
          have hcz68_1 : w57.cell? ⟨gb964, 1, none⟩ = some (.slice Ao52 x965001_1.length co52) := (blk_cell BK964.out 1).trans rfl
          have hfz68_0 := blk_frozen BK964.out 0
          have hfz68_1 := blk_frozen BK964.out 1
          try go_wp2_with (first | ((with_reducible refine gate_callee (f := 83) rfl ?_); refine goesL_ (some 37) rfl rfl Try.func83 (by kernel_rfl) rfl #[.pointer (some ⟨g, 0, none⟩), .int .i64 6] rfl mpx ?_; (with_reducible refine (spec_l1Once.calls g s0_0 t969 t970 6 false t981 t982 w0 _ ?side1 ?side2 A13.out).mono ?_); (case side1 => repeat (first | (with_reducible first | exact HI0.out | apply IsS70.alloc | apply IsS70.drewN | apply IsS70.drew | apply IsS70.set_1 | apply IsS70.set_2 | refine IsS70.far ?_ NB0_963.out _ | refine IsS70.far ?_ NB0_964.out _ | refine IsS70.far ?_ NB0_979.out _) | exact HI0.out)); (case side2 => repeat (first | (with_reducible first | exact HB.out | apply below_alloc | apply pw_below_drewN | apply below_drew1 | refine below_set ?_ (IsS70.ge HI0.out) | refine below_set ?_ GE963.out | refine below_set ?_ GE964.out | refine below_set ?_ GE979.out) | exact HB.out)); rintro e w69 ⟨rfl, hi, hb, hk⟩; refine ⟨_, rfl, ?_⟩; have n0_ := am (Kd.R_mono (Kd.R_keep (IsS70.apart (show IsS70 w0 _ g s0_0 t969 t970 from IsS70.pk HI0.out) (by (with_reducible repeat (first | apply Kd.R_alloc | apply Kd.R_drewN | apply Kd.R_drew)); exact (Kd.R_mono (Kd.R_mono (Kd.R_far (p := ⟨gb964, 1, none⟩) (Kd.R_far (p := ⟨gb964, 0, none⟩) (Kd.R_far (p := ⟨gb979, 1, none⟩) (Kd.R_far (p := ⟨gb979, 0, none⟩) (Kd.R_types (Kd.R_types HO_965000.out BK979.out (by decide)) BK964.out (by decide)) (fun _ hk => hk.1.2) (.slice Ao58 t971.length co58)) (fun _ hk => hk.1.2) (.slice Ao60 t974.length co60)) (fun _ hk => hk.2) (.slice Ao58 t971.length co58)) (fun _ hk => hk.2) (.slice Ao60 t974.length co60)) (fun _ h_ => h_.1)) (fun _ h_ => h_.1))) (by decide)) hk (fun _ h => h.2)) (fun _ h => h.1)); have n1_ := am (Kd.R_mono (Kd.R_keep (IsS70.apart (show IsS70 w0 _ g s0_0 t969 t970 from IsS70.pk HI0.out) (by (with_reducible repeat (first | apply Kd.R_alloc | apply Kd.R_drewN | apply Kd.R_drew)); exact (Kd.R_mono (Kd.R_mono (Kd.R_far (p := ⟨gb964, 1, none⟩) (Kd.R_far (p := ⟨gb964, 0, none⟩) (Kd.R_far (p := ⟨gb979, 1, none⟩) (Kd.R_far (p := ⟨gb979, 0, none⟩) (Kd.R_types (Kd.R_types HO_965001.out BK979.out (by decide)) BK964.out (by decide)) (fun _ hk => hk.1.2) (.slice Ao58 t971.length co58)) (fun _ hk => hk.1.2) (.slice Ao60 t974.length co60)) (fun _ hk => hk.2) (.slice Ao58 t971.length co58)) (fun _ hk => hk.2) (.slice Ao60 t974.length co60)) (fun _ h_ => h_.1)) (fun _ h_ => h_.1))) (by decide)) hk (fun _ h => h.2)) (fun _ h => h.1)); have n2_ := am (KeepBut.blk hk (g' := gb963) (o := .cells #[.slice none 0 0, .slice none 0 0] 33 (0, 0)) (by (with_reducible repeat (first | refine blk_drewN ?_ _ | refine blk_drew ?_ | refine blk_alloc ?_ _)); refine blk_far ?_ NB963_964.out _; (with_reducible repeat (first | refine blk_drewN ?_ _ | refine blk_drew ?_ | refine blk_alloc ?_ _)); refine blk_far ?_ NB963_964.out _; (with_reducible repeat (first | refine blk_drewN ?_ _ | refine blk_drew ?_ | refine blk_alloc ?_ _)); refine blk_far ?_ NB963_979.out _; (with_reducible repeat (first | refine blk_drewN ?_ _ | refine blk_drew ?_ | refine blk_alloc ?_ _)); refine blk_far ?_ NB963_979.out _; exact pkK BK963.out) NB963_0.out (by simp)); have n3_ := am (KeepBut.blk hk (g' := gb964) (o := .cells #[.slice Ao58 t971.length co58, .slice Ao60 t974.length co60] 33 (0, 0)) (by (with_reducible repeat (first | refine blk_drewN ?_ _ | refine blk_drew ?_ | refine blk_alloc ?_ _)); refine blk_put (cs := #[.slice Ao58 t971.length co58, .slice Ao52 x965001_1.length co52]) ?_ 1 _ rfl; (with_reducible repeat (first | refine blk_drewN ?_ _ | refine blk_drew ?_ | refine blk_alloc ?_ _)); refine blk_put (cs := #[.slice Ao51 x965000_1.length co51, .slice Ao52 x965001_1.length co52]) ?_ 0 _ rfl; (with_reducible repeat (first | refine blk_drewN ?_ _ | refine blk_drew ?_ | refine blk_alloc ?_ _)); refine blk_far ?_ NB964_979.out _; (with_reducible repeat (first | refine blk_drewN ?_ _ | refine blk_drew ?_ | refine blk_alloc ?_ _)); refine blk_far ?_ NB964_979.out _; exact pkK BK964.out) NB964_0.out (by simp)); have n4_ := am (Kd.R_mono (Kd.R_keep (IsS70.apart (show IsS70 w0 _ g s0_0 t969 t970 from IsS70.pk HI0.out) (by (with_reducible repeat (first | apply Kd.R_alloc | apply Kd.R_drewN | apply Kd.R_drew)); exact (Kd.R_mono (Kd.R_mono (Kd.R_far (p := ⟨gb964, 1, none⟩) (Kd.R_far (p := ⟨gb964, 0, none⟩) (Kd.R_far (p := ⟨gb979, 1, none⟩) (Kd.R_far (p := ⟨gb979, 0, none⟩) (Kd.R_types (Kd.R_types HO973.out BK979.out (by decide)) BK964.out (by decide)) (fun _ hk => hk.1.2) (.slice Ao58 t971.length co58)) (fun _ hk => hk.1.2) (.slice Ao60 t974.length co60)) (fun _ hk => hk.2) (.slice Ao58 t971.length co58)) (fun _ hk => hk.2) (.slice Ao60 t974.length co60)) (fun _ h_ => h_.1)) (fun _ h_ => h_.1))) (by decide)) hk (fun _ h => h.2)) (fun _ h => h.1)); have n5_ := am (Kd.R_mono (Kd.R_keep (IsS70.apart (show IsS70 w0 _ g s0_0 t969 t970 from IsS70.pk HI0.out) (by (with_reducible repeat (first | apply Kd.R_alloc | apply Kd.R_drewN | apply Kd.R_drew)); exact (Kd.R_mono (Kd.R_mono (Kd.R_far (p := ⟨gb964, 1, none⟩) (Kd.R_far (p := ⟨gb964, 0, none⟩) (Kd.R_far (p := ⟨gb979, 1, none⟩) (Kd.R_far (p := ⟨gb979, 0, none⟩) (Kd.R_types (Kd.R_types HO976.out BK979.out (by decide)) BK964.out (by decide)) (fun _ hk => hk.1.2) (.slice Ao58 t971.length co58)) (fun _ hk => hk.1.2) (.slice Ao60 t974.length co60)) (fun _ hk => hk.2) (.slice Ao58 t971.length co58)) (fun _ hk => hk.2) (.slice Ao60 t974.length co60)) (fun _ h_ => h_.1)) (fun _ h_ => h_.1))) (by decide)) hk (fun _ h => h.2)) (fun _ h => h.1)); have n6_ := am (KeepBut.blk hk (g' := gb979) (o := .cells #[.slice Ao58 t971.length co58, .slice Ao60 t974.length co60] 33 (0, 0)) (by (with_reducible repeat (first | refine blk_drewN ?_ _ | refine blk_drew ?_ | refine blk_alloc ?_ _)); refine blk_far ?_ NB979_964.out _; (with_reducible repeat (first | refine blk_drewN ?_ _ | refine blk_drew ?_ | refine blk_alloc ?_ _)); refine blk_far ?_ NB979_964.out _; (with_reducible repeat (first | refine blk_drewN ?_ _ | refine blk_drew ?_ | refine blk_alloc ?_ _)); refine blk_put (cs := #[.slice Ao58 t971.length co58, .slice none 0 0]) ?_ 1 _ rfl; (with_reducible repeat (first | refine blk_drewN ?_ _ | refine blk_drew ?_ | refine blk_alloc ?_ _)); refine blk_put (cs := #[.slice none 0 0, .slice none 0 0]) ?_ 0 _ rfl; exact pkK BK979.out) NB979_0.out (by simp)); have n7_ := am (KeepBut.trans (pkH HK.out) hk (.inl rfl)); have n8_ := am (hb); have n9_ := am (hi); clear HO_965000 HO_965001 BK963 BK964 HO973 HO976 BK979 HK HB HI0; have HO_965000 := n0_; have HO_965001 := n1_; have BK963 := n2_; have BK964 := n3_; have HO973 := n4_; have HO976 := n5_; have BK979 := n6_; have HK := n7_; have HB := n8_; have HI0 := n9_; clear n0_ n1_ n2_ n3_ n4_ n5_ n6_ n7_ n8_ n9_; (try clear hb); (try clear hb2); (try clear hk); (try clear hi)))
          go_roundg k1
          case measure => have := HK1.out; omega
          case rel => exact ⟨(wrap64 (x7_1 + 1)), (t981), (t982), (t971), (t974), (.slice Ao58 t971.length co58), (.slice Ao60 t974.length co60), rfx, H', ⟨by have := HK1.out; omega⟩, ⟨by (with_reducible repeat (first | apply Kd.R_alloc | apply Kd.R_drewN | apply Kd.R_drew)); exact Kd.R_mono HO973.out (fun _ hk => trivial)⟩, ⟨by (with_reducible repeat (first | apply Kd.R_alloc | apply Kd.R_drewN | apply Kd.R_drew)); exact Kd.R_mono HO976.out (fun _ hk => trivial)⟩, ⟨pkK BK963.out⟩, ⟨pkK BK964.out⟩, ⟨by repeat (first | (with_reducible first | exact HI0.out | apply IsS70.alloc | apply IsS70.drewN | apply IsS70.drew | apply IsS70.set_1 | apply IsS70.set_2 | refine IsS70.far ?_ NB0_963.out _ | refine IsS70.far ?_ NB0_964.out _ | refine IsS70.far ?_ NB0_979.out _) | exact HI0.out)⟩, ⟨pkH HK.out⟩, ⟨by repeat (first | (with_reducible first | exact HB.out | apply below_alloc | apply pw_below_drewN | apply below_drew1 | refine below_set ?_ (IsS70.ge HI0.out) | refine below_set ?_ GE963.out | refine below_set ?_ GE964.out | refine below_set ?_ GE979.out) | exact HB.out)⟩⟩
      · rw [if_neg c10] at H
        have c10b0 : decide (x7_1 < t965) = false := decide_eq_false c10
        clear c10
        simp only [Option.some.injEq, Prod.mk.injEq] at H
        obtain ⟨rfl, rfl, rfl, rfl⟩ := H
        have hnb70 := NB964_963.out
        have hnc70 := NB963_964.out
        have hnb71 := NB964_0.out
        have hnc71 := NB0_964.out
        have hcz72_0 : wr.cell? ⟨gb964, 0, none⟩ = some (u965000) := (blk_cell BK964.out 0).trans rfl
        have hcz72_1 : wr.cell? ⟨gb964, 1, none⟩ = some (u965001) := (blk_cell BK964.out 1).trans rfl
        have hfz72_0 := blk_frozen BK964.out 0
        have hfz72_1 := blk_frozen BK964.out 1
        obtain ⟨Ao73, co73, eo73⟩ := Kd.R_slice HO_965000.out
        subst eo73
        have hnb74 := NB963_0.out
        have hnc74 := NB0_963.out
        have hcz75_0 : wr.cell? ⟨gb963, 0, none⟩ = some (.slice none 0 0) := (blk_cell BK963.out 0).trans rfl
        have hcz75_1 : wr.cell? ⟨gb963, 1, none⟩ = some (.slice none 0 0) := (blk_cell BK963.out 1).trans rfl
        have hfz75_0 := blk_frozen BK963.out 0
        have hfz75_1 := blk_frozen BK963.out 1
        obtain ⟨Ao76, co76, eo76⟩ := Kd.R_slice HO_965001.out
        subst eo76
        go_wp2
        refine bodyPost_ret (results_cell_row rfl _ _ gb963 33 #[.slice Ao73 x965000_1.length co73, .slice Ao76 x965001_1.length co76] (0, 0) _ rfl (by (with_reducible repeat (first | refine blk_drewN ?_ _ | refine blk_drew ?_ | refine blk_alloc ?_ _)); refine blk_put (cs := #[.slice Ao73 x965000_1.length co73, .slice none 0 0]) ?_ 1 _ rfl; (with_reducible repeat (first | refine blk_drewN ?_ _ | refine blk_drew ?_ | refine blk_alloc ?_ _)); refine blk_put (cs := #[.slice none 0 0, .slice none 0 0]) ?_ 0 _ rfl; exact pkK BK963.out) Try.underlying33 rfl (by kernel_rfl)) rfl ?_
        exact ⟨_, _, rfe, by (with_reducible repeat (first | apply Kd.R_alloc | apply Kd.R_drewN | apply Kd.R_drew)); exact Kd.R_mono (Kd.R_far (p := ⟨gb963, 1, none⟩) (Kd.R_far (p := ⟨gb963, 0, none⟩) (Kd.R_types HO_965000.out BK963.out (by decide)) (fun _ hk => hk.2) (.slice Ao73 x965000_1.length co73)) (fun _ hk => hk.2) (.slice Ao76 x965001_1.length co76)) (fun _ hk => trivial), by (with_reducible repeat (first | apply Kd.R_alloc | apply Kd.R_drewN | apply Kd.R_drew)); exact Kd.R_mono (Kd.R_far (p := ⟨gb963, 1, none⟩) (Kd.R_far (p := ⟨gb963, 0, none⟩) (Kd.R_types HO_965001.out BK963.out (by decide)) (fun _ hk => hk.2) (.slice Ao73 x965000_1.length co73)) (fun _ hk => hk.2) (.slice Ao76 x965001_1.length co76)) (fun _ hk => trivial), by repeat (first | (with_reducible first | exact HI0.out | apply IsS70.alloc | apply IsS70.drewN | apply IsS70.drew | apply IsS70.set_1 | apply IsS70.set_2 | refine IsS70.far ?_ NB0_963.out _ | refine IsS70.far ?_ NB0_964.out _) | exact HI0.out), by repeat (first | (with_reducible first | exact HB.out | apply below_alloc | apply pw_below_drewN | apply below_drew1 | refine below_set ?_ (IsS70.ge HI0.out) | refine below_set ?_ GE963.out | refine below_set ?_ GE964.out) | exact HB.out), pkH HK.out⟩
end Go.Proofs.Ytghmhekjdjdleaa.Z
