/- The Go functions spec_l4Clock as Lean functions, each with a proof that its code comes to just these answers; conditions: those of each theorem. -/
import Derived.Test.YtfgjfheiekhmlaaZx0
import Derived.Test.YtfgjfheiekhmlaaZx14
import Derived.Test.YtfgjfheiekhmlaaZx15
import Derived.Test.YtfgjfheiekhmlaaZx16
namespace Go.Proofs.Ytfgjfheiekhmlaa.Z
open Go.RowKit Go.Proofs.YtfgjfheiekhmlaaW.PrintWords Go.Proofs.YtfgjfheiekhmlaaW.PrintLast Go.Proofs.YtfgjfheiekhmlaaW.PrintMore
attribute [local go_sem] max2_int min2_int max_two min_two max_three min_three max_four min_four   -- for this text's walks alone
set_option linter.unusedVariables false
set_option linter.unusedSimpArgs false
def spec_l4Clock.l0 : Nat → Int → Int → List Int → Int → Int → Int → List (S46) → Option (Int × (List (S46)) × Int × Int)
 | 0, _, _, _, _, _, _, _ => none
 | k + 1, x6, x7, x1000, x1001, x1002, x334000, x334001 => if x7 < x6 then ((spec_l1Below.f x1000 x1001 x1002 15).bind fun bt337 => ((spec_l1Below.f x1000 bt337.2.1 bt337.2.2 6).bind fun bt340 => ((spec_SetTimer.f k x334000 x334001 (wrap64 (1 + bt337.1)) bt340.1).bind fun bt343 => (spec_l4Clock.l0 k x6 (wrap64 (x7 + 1)) x1000 bt340.2.1 bt340.2.2 bt343.1 bt343.2.1)))) else (some (x334000, x334001, x1001, x1002))
def spec_l4Clock.f (k : Nat) (s0_0 : List Int) (s0_1 : Int) (s0_2 : Int) (a1 : Int) : Option (Int × (List (S46)) × Int × Int) := (spec_l1PickInt.f s0_0 s0_1 s0_2 (([0, 5, 100, 999999980] : List Int))).bind fun bt330 => ((spec_l1Below.f s0_0 bt330.2.1 bt330.2.2 (wrap64 (a1 + 1))).bind fun bt334 => (spec_l4Clock.l0 k bt334.1 0 s0_0 bt334.2.1 bt334.2.2 bt330.1 ([] : List (S46))))
theorem spec_l4Clock.mono_l : ∀ k, (∀ y0 y1 y2 y3 y4 y5 y6, LeO (spec_l4Clock.l0 k y0 y1 y2 y3 y4 y5 y6) (spec_l4Clock.l0 (k + 1) y0 y1 y2 y3 y4 y5 y6))
 | 0 => fun _ _ _ _ _ _ _ r h => by simp [spec_l4Clock.l0] at h
 | k + 1 => by
  have ih0 := spec_l4Clock.mono_l k
  ·intro y0 y1 y2 y3 y4 y5 y6
   unfold spec_l4Clock.l0
   repeat' first
   | (with_reducible exact ih0 _ _ _ _ _ _ _)
   | (with_reducible exact spec_SetTimer.mono _ _ _ _ _)
   | (with_reducible exact LeO.refl _)
   | (with_reducible exact LeO.none _)
   | (with_reducible refine LeO.ite ?_ ?_)
   | (with_reducible refine LeO.bind ?_ (fun _ => ?_))
theorem spec_l4Clock.mono : ∀ a0 a1 a2 a3 k, LeO (spec_l4Clock.f k a0 a1 a2 a3) (spec_l4Clock.f (k + 1) a0 a1 a2 a3) := by
 intro a0 a1 a2 a3 k
 have ih0 := spec_l4Clock.mono_l k
 unfold spec_l4Clock.f
 repeat' first
   | (with_reducible exact ih0 _ _ _ _ _ _ _)
   | (with_reducible exact spec_SetTimer.mono _ _ _ _ _)
   | (with_reducible exact LeO.refl _)
   | (with_reducible exact LeO.none _)
   | (with_reducible refine LeO.ite ?_ ?_)
   | (with_reducible refine LeO.bind ?_ (fun _ => ?_))
def spec_l4Clock.T6 : Bool × List (List Nat × List Nat) := (true, [([], []), ([], []), ([1], [1]), ([2], [2]), ([], []), ([4, 2], [4]), ([0, 3, 5, 5], [0, 3, 5]), ([6], [6]), ([7], [7]), ([7], [7]), ([], []), ([10, 8, 6, 0, 1, 2, 3, 4, 5, 6, 7, 8, 10], [8, 10]), ([9, 11, 0, 1, 2, 3, 4, 5, 6, 7, 8, 9, 10, 11], [9])])
def spec_l4Clock.B6 : List Nat := [0, 0, 2, 6, 0, 22, 63, 127, 255, 255, 0, 1535, 4095]
theorem spec_l4Clock.tab6 : rtab .any (opsOf Try.f53 6) = spec_l4Clock.T6 := by kernel_rfl
theorem spec_l4Clock.bits6 : waitsOk spec_l4Clock.T6.2 spec_l4Clock.B6 = true := by kernel_rfl
set_option maxHeartbeats 8000000 in
set_option maxRecDepth 100000 in
theorem spec_l4Clock.calls (k : Nat) (g : Nat) (s0_0 : List Int) (s0_1 : Int) (s0_2 : Int) (a1 : Int) (r1 : Int) (r2 : List (S46)) (r3 : Int) (r4 : Int) (w0 w : World) (hI : IsS72 w0 w g s0_0 s0_1 s0_2) (hB : Below w0.heap.size w0 w) (h : spec_l4Clock.f k s0_0 s0_1 s0_2 a1 = some (r1, r2, r3, r4)) :
  Calls Try.prog 53 #[.pointer (some ⟨g, 0, none⟩), .int .i64 a1] w fun e w' => ∃ v1_ : Value, e = .returned (.agg #[.int .i64 r1, v1_]) ∧ Kd.R k46 46 w' w.heap.size (fun _ => True) v1_ r2 ∧ IsS72 w0 w' g s0_0 r3 r4 ∧ Below w0.heap.size w0 w' ∧ KeepBut w w' g none := by
 have hu29 := Try.underlying29
 have HI0 := am hI
 have HK := am (KeepBut.refl w g none)
 have HL := am hB.size
 clear hI
 have HW0 := am hB.size
 have HB := am hB
 clear hB
 have H : ((spec_l1PickInt.f s0_0 s0_1 s0_2 (([0, 5, 100, 999999980] : List Int))).bind fun bt330 => ((spec_l1Below.f s0_0 bt330.2.1 bt330.2.2 (wrap64 (a1 + 1))).bind fun bt334 => (spec_l4Clock.l0 k bt334.1 0 s0_0 bt334.2.1 bt334.2.2 bt330.1 ([] : List (S46))))) = some (r1, r2, r3, r4) := h
 clear h
 obtain ⟨y327, hy327⟩ : ∃ y_ : List Int, y_ = (([0, 5, 100, 999999980] : List Int)) := ⟨_, rfl⟩
 replace H : ((spec_l1PickInt.f s0_0 s0_1 s0_2 y327).bind fun bt330 => ((spec_l1Below.f s0_0 bt330.2.1 bt330.2.2 (wrap64 (a1 + 1))).bind fun bt334 => (spec_l4Clock.l0 k bt334.1 0 s0_0 bt334.2.1 bt334.2.2 bt330.1 ([] : List (S46))))) = some (r1, r2, r3, r4) := by first | (rw [hy327]; with_reducible exact H) | (have H2_ := (Option.bind_some _ _).symm.trans H; rw [hy327]; with_reducible exact H2_) | (have H2_ := (Option.bind_some _ _).symm.trans H; with_reducible exact H2_) | with_reducible exact H | (rw [hy327]; exact H) | exact H
 have Ny327 := am hy327
 clear hy327
 replace H := Option.bind_eq_some_iff.mp H
 obtain ⟨⟨t330, t331, t332⟩, A30, H⟩ := H
 replace H : ((spec_l1Below.f s0_0 t331 t332 (wrap64 (a1 + 1))).bind fun bt334 => (spec_l4Clock.l0 k bt334.1 0 s0_0 bt334.2.1 bt334.2.2 t330 ([] : List (S46)))) = some (r1, r2, r3, r4) := H
 have A3 := am A30
 clear A30
 replace H := Option.bind_eq_some_iff.mp H
 obtain ⟨⟨t334, t335, t336⟩, A40, H⟩ := H
 replace H : (spec_l4Clock.l0 k t334 0 s0_0 t335 t336 t330 ([] : List (S46))) = some (r1, r2, r3, r4) := H
 have A4 := am A40
 clear A40
 have H' := am H
 clear H
 go_enter Try.func53, Try.ntmps53
 go_wp2_with (first | ((with_reducible refine gate_dst (N := 4) rfl ?_); refine box_event ?hg (N := 4) ?hd (cs := #[.int .i64 0, .slice none 0 0]) (t := 29) ?hr ?_; (case hd => rfl); (case hg => rfl); (case hr => first | (go_simp; done) | (go_simp; rfl)); intro gb326 hg w5 hbox hb; replace HB := am (below_step (by repeat (first | (with_reducible first | exact HB.out | apply below_alloc | apply pw_below_drewN | apply below_drew1 | refine below_set ?_ (IsS72.ge HI0.out)) | exact HB.out)) hb); have BK326 := am (hbox); have GW326 := am ((by rw [hg]; first | done | exact (keep_size (w := w) (g := g) (row := none) (pkH HK.out)) : w.heap.size ≤ gb326)); have GE326 := am ((Nat.le_trans HW0.out (by rw [hg]; first | done | exact (keep_size (w := w) (g := g) (row := none) (pkH HK.out)) : w.heap.size ≤ gb326) : w0.heap.size ≤ gb326)); replace HK := am (KeepBut.trans (pkH HK.out) (KeepBut.of_below hb g none) (.inl rfl)); have NB0_326 := am ((by rw [hg]; exact Nat.ne_of_lt (IsS72.lt (show IsS72 w0 _ g s0_0 s0_1 s0_2 from IsS72.pk HI0.out)) : g ≠ gb326)); have NB326_0 := am ((by rw [hg]; exact Nat.ne_of_gt (IsS72.lt (show IsS72 w0 _ g s0_0 s0_1 s0_2 from IsS72.pk HI0.out)) : gb326 ≠ g)); replace HI0 := am (IsS72.below (IsS72.pk HI0.out) hb); clear hb hbox hg) | ((with_reducible refine gate_dst (N := 11) rfl ?_); refine Kd.R_lit (Kd.int .i64) _ 3 ?hg (N := 11) ?hd (xs := ([0, 5, 100, 999999980] : List Int)) (inner := [.int .i64 0, .int .i64 5, .int .i64 100, .int .i64 999999980]) (ok := fun _ => True) (okp := fun _ => True) ?hr ?hp (fun _ hk => hk) trivial (Below.refl _ _) (Nat.le_refl _) (by simp) ?_; (case hd => rfl); (case hg => rfl); (case hr => first | (go_simp; done) | (go_simp; rfl)); (case hp => exact (Reps.one (show Kd.M (Kd.int .i64) _ _ _ 0 [.int .i64 0] from rfl) (Reps.one (show Kd.M (Kd.int .i64) _ _ _ 5 [.int .i64 5] from rfl) (Reps.one (show Kd.M (Kd.int .i64) _ _ _ 100 [.int .i64 100] from rfl) (Reps.one (show Kd.M (Kd.int .i64) _ _ _ 999999980 [.int .i64 999999980] from rfl) (Reps.none _ _)))))); intro v328 w6 ho7 hb hg_ hnew_; clear hg_ hnew_; (first | rw [← Ny327.out] at ho7 | (simp only [Int.reduceToNat] at ho7; rw [← Ny327.out] at ho7)); have HO329 := am (Kd.R_lower ho7 (keep_size (w := w) (g := g) (row := none) (pkH HK.out))); replace BK326 := am (blk_below (pkK BK326.out) hb); replace HK := am (KeepBut.trans (pkH HK.out) (KeepBut.of_below hb g none) (.inl rfl)); replace HB := am (below_step (by repeat (first | (with_reducible first | exact HB.out | apply below_alloc | apply pw_below_drewN | apply below_drew1 | refine below_set ?_ (IsS72.ge HI0.out) | refine below_set ?_ GE326.out) | exact HB.out)) hb); replace HI0 := am (IsS72.below (IsS72.pk HI0.out) hb); clear hb ho7; obtain ⟨Ao8, co8, eo8⟩ := Kd.R_slice HO329.out; subst eo8) | ((with_reducible refine gate_callee (f := 45) rfl ?_); refine goesL_ (some 12) rfl rfl Try.func45 (by kernel_rfl) rfl #[.pointer (some ⟨g, 0, none⟩), .slice Ao8 y327.length co8] rfl mpx ?_; (with_reducible refine (spec_l1PickInt.calls g s0_0 s0_1 s0_2 _ _ y327 t330 t331 t332 w0 _ ?side1 ?side2 ?side3 ?side4 ?side5 A3.out).mono ?_); (case side1 => repeat (first | (with_reducible first | exact HI0.out | apply IsS72.alloc | apply IsS72.drewN | apply IsS72.drew | apply IsS72.set_1 | apply IsS72.set_2 | refine IsS72.far ?_ NB0_326.out _) | exact HI0.out)); (case side2 => repeat (first | (with_reducible first | exact HB.out | apply below_alloc | apply pw_below_drewN | apply below_drew1 | refine below_set ?_ (IsS72.ge HI0.out) | refine below_set ?_ GE326.out) | exact HB.out)); (case side3 => exact pkC (Kd.R_reads' HO329.out).2.2); (case side4 => exact (Kd.R_reads' HO329.out).2.1); (case side5 => exact far_slice (IsS72.own_ne HI0.out HO329.out (by decide))); rintro e w9 ⟨rfl, hi, hb, hk⟩; refine ⟨_, rfl, ?_⟩; replace BK326 := am (KeepBut.blk hk (g' := gb326) (o := .cells #[.int .i64 0, .slice none 0 0] 29 (0, 0)) (pkK BK326.out) NB326_0.out (by simp)); replace HO329 := am (Kd.R_mono (Kd.R_keep (IsS72.apart (show IsS72 w0 _ g s0_0 s0_1 s0_2 from IsS72.pk HI0.out) (pkR HO329.out) (by decide)) hk (fun _ h => h.2)) (fun _ h => h.1)); replace HK := am (KeepBut.trans (pkH HK.out) hk (.inl rfl)); replace HB := am (hb); replace HI0 := am (hi); (try clear hb hk hi)) | ((with_reducible refine gate_dst (N := 5) rfl ?_); refine box_event ?hg (N := 5) ?hd (cs := #[.int .i64 0, .slice none 0 0]) (t := 29) ?hr ?_; (case hd => rfl); (case hg => rfl); (case hr => first | (go_simp; done) | (go_simp; rfl)); intro gb333 hg w10 hbox hb; replace HO329 := am (Kd.R_below (pkR HO329.out) hb); replace HB := am (below_step (by repeat (first | (with_reducible first | exact HB.out | apply below_alloc | apply pw_below_drewN | apply below_drew1 | refine below_set ?_ (IsS72.ge HI0.out) | refine below_set ?_ GE326.out) | exact HB.out)) hb); have BK333 := am (hbox); have GW333 := am ((by rw [hg]; first | done | exact (keep_size (w := w) (g := g) (row := none) (pkH HK.out)) : w.heap.size ≤ gb333)); have GE333 := am ((Nat.le_trans HW0.out (by rw [hg]; first | done | exact (keep_size (w := w) (g := g) (row := none) (pkH HK.out)) : w.heap.size ≤ gb333) : w0.heap.size ≤ gb333)); replace HK := am (KeepBut.trans (pkH HK.out) (KeepBut.of_below hb g none) (.inl rfl)); have NB326_333 := am ((by rw [hg]; exact Nat.ne_of_lt (blk_lt (g := gb326) (o := .cells #[.int .i64 0, .slice none 0 0] 29 (0, 0)) (pkK BK326.out)) : gb326 ≠ gb333)); have NB333_326 := am ((by rw [hg]; exact Nat.ne_of_gt (blk_lt (g := gb326) (o := .cells #[.int .i64 0, .slice none 0 0] 29 (0, 0)) (pkK BK326.out)) : gb333 ≠ gb326)); replace BK326 := am (blk_below (pkK BK326.out) hb); have NB0_333 := am ((by rw [hg]; exact Nat.ne_of_lt (IsS72.lt (show IsS72 w0 _ g s0_0 t331 t332 from IsS72.pk HI0.out)) : g ≠ gb333)); have NB333_0 := am ((by rw [hg]; exact Nat.ne_of_gt (IsS72.lt (show IsS72 w0 _ g s0_0 t331 t332 from IsS72.pk HI0.out)) : gb333 ≠ g)); replace HI0 := am (IsS72.below (IsS72.pk HI0.out) hb); clear hb hbox hg; have hnb11 := NB333_326.out; have hnc11 := NB326_333.out; have hnb12 := NB333_0.out; have hnc12 := NB0_333.out; obtain ⟨hcz13_0, hcz13_1, hfz13_0, hfz13_1⟩ := bk2 BK333.out) | ((with_reducible refine gate_callee (f := 55) rfl ?_); refine goesL_ (some 17) rfl rfl Try.func55 (by kernel_rfl) rfl #[.pointer (some ⟨g, 0, none⟩), .int .i64 (wrap64 (a1 + 1))] rfl mpx ?_; (with_reducible refine (spec_l1Below.calls g s0_0 t331 t332 (wrap64 (a1 + 1)) t334 t335 t336 w0 _ ?side1 ?side2 A4.out).mono ?_); (case side1 => repeat (first | (with_reducible first | exact HI0.out | apply IsS72.alloc | apply IsS72.drewN | apply IsS72.drew | apply IsS72.set_1 | apply IsS72.set_2 | refine IsS72.far ?_ NB0_326.out _ | refine IsS72.far ?_ NB0_333.out _) | exact HI0.out)); (case side2 => repeat (first | (with_reducible first | exact HB.out | apply below_alloc | apply pw_below_drewN | apply below_drew1 | refine below_set ?_ (IsS72.ge HI0.out) | refine below_set ?_ GE326.out | refine below_set ?_ GE333.out) | exact HB.out)); rintro e w14 ⟨rfl, hi, hb, hk⟩; refine ⟨_, rfl, ?_⟩; replace BK326 := am (KeepBut.blk hk (g' := gb326) (o := .cells #[.int .i64 0, .slice none 0 0] 29 (0, 0)) (by (with_reducible repeat (first | refine blk_drewN ?_ _ | refine blk_drew ?_ | refine blk_alloc ?_ _)); refine blk_far ?_ NB326_333.out _; (with_reducible repeat (first | refine blk_drewN ?_ _ | refine blk_drew ?_ | refine blk_alloc ?_ _)); refine blk_far ?_ NB326_333.out _; exact pkK BK326.out) NB326_0.out (by simp)); replace HO329 := am (Kd.R_mono (Kd.R_keep (IsS72.apart (show IsS72 w0 _ g s0_0 t331 t332 from IsS72.pk HI0.out) (by (with_reducible repeat (first | apply Kd.R_alloc | apply Kd.R_drewN | apply Kd.R_drew)); exact (Kd.R_mono (Kd.R_far (p := ⟨gb333, 1, none⟩) (Kd.R_far (p := ⟨gb333, 0, none⟩) (Kd.R_types HO329.out BK333.out (by decide)) (fun _ hk => hk.2) (.int .i64 t330)) (fun _ hk => hk.2) (.slice none 0 0)) (fun _ h_ => h_.1))) (by decide)) hk (fun _ h => h.2)) (fun _ h => h.1)); replace BK333 := am (KeepBut.blk hk (g' := gb333) (o := .cells #[.int .i64 t330, .slice none 0 0] 29 (0, 0)) (by (with_reducible repeat (first | refine blk_drewN ?_ _ | refine blk_drew ?_ | refine blk_alloc ?_ _)); refine blk_put (cs := #[.int .i64 t330, .slice none 0 0]) ?_ 1 _ rfl; (with_reducible repeat (first | refine blk_drewN ?_ _ | refine blk_drew ?_ | refine blk_alloc ?_ _)); refine blk_put (cs := #[.int .i64 0, .slice none 0 0]) ?_ 0 _ rfl; exact pkK BK333.out) NB333_0.out (by simp)); replace HK := am (KeepBut.trans (pkH HK.out) hk (.inl rfl)); replace HB := am (hb); replace HI0 := am (hi); (try clear hb hk hi)))
 go_loopg [7] k (fun kq v7 w' => ∃ (x7_1 : Int) (x1001_1 : Int) (x1002_1 : Int) (x334000_1 : Int) (x334001_1 : List (S46)) (u334001 : Value), v7 = .int .i64 x7_1 ∧ Aside0 (spec_l4Clock.l0 kq t334 x7_1 s0_0 x1001_1 x1002_1 x334000_1 x334001_1 = some (r1, r2, r3, r4)) ∧ Aside0 (kq ≤ k) ∧ Aside0 (Kd.R k46 46 w' w.heap.size (fun _ => True) u334001 x334001_1) ∧ Aside0 (w'.heap[gb326]? = some (.cells #[.int .i64 0, (.slice none 0 0)] 29 (0, 0))) ∧ Aside0 (w'.heap[gb333]? = some (.cells #[.int .i64 x334000_1, u334001] 29 (0, 0))) ∧ Aside0 (IsS72 w0 w' g s0_0 x1001_1 x1002_1) ∧ Aside0 (KeepBut w w' g none) ∧ Aside0 (Below w0.heap.size w0 w'))
 case atStart => exact ⟨(0), (t335), (t336), (t330), (([] : List (S46))), (.slice none 0 0), rfx, H', ⟨Nat.le_refl _⟩, ⟨by first | exact Kd.R_nil _ _ _ _ _ | exact Kd.N_nil _ _ _ _ _ | exact Kd.V_nil _ _ _ _ _ | exact Kd.Q_nil _ _ _ _ _ | exact Kd.S_nil _ _ _ _ _⟩, ⟨pkK BK326.out⟩, ⟨pkK BK333.out⟩, ⟨by repeat (first | (with_reducible first | exact HI0.out | apply IsS72.alloc | apply IsS72.drewN | apply IsS72.drew | apply IsS72.set_1 | apply IsS72.set_2 | refine IsS72.far ?_ NB0_326.out _ | refine IsS72.far ?_ NB0_333.out _) | exact HI0.out)⟩, ⟨pkH HK.out⟩, ⟨by repeat (first | (with_reducible first | exact HB.out | apply below_alloc | apply pw_below_drewN | apply below_drew1 | refine below_set ?_ (IsS72.ge HI0.out) | refine below_set ?_ GE326.out | refine below_set ?_ GE333.out) | exact HB.out)⟩⟩
 case round =>
  clear H'
  try clear c1
  try clear p2
  try clear c4
  try clear c5
  try clear p6
  try clear c11
  try clear c12
  try clear hcz13_0
  try clear hcz13_1
  try clear hfz13_0
  try clear hfz13_1
  obtain ⟨x7_1, x1001_1, x1002_1, x334000_1, x334001_1, u334001, rfl, HA, HK1, HO_334001, BK326, BK333, HI0, HK, HB⟩ := hrel
  cases gk with
  | zero => exact absurd HA.out (by simp [spec_l4Clock.l0])
  | succ k1 =>
   have H := HA.out
   clear HA
   simp only [spec_l4Clock.l0] at H
   by_cases c15 : x7_1 < t334
   ·rw [if_pos c15] at H
    have c15b0 : decide (x7_1 < t334) = true := decide_eq_true c15
    clear c15
    replace H := Option.bind_eq_some_iff.mp H
    obtain ⟨⟨t337, t338, t339⟩, A160, H⟩ := H
    replace H : ((spec_l1Below.f s0_0 t338 t339 6).bind fun bt340 => ((spec_SetTimer.f k1 x334000_1 x334001_1 (wrap64 (1 + t337)) bt340.1).bind fun bt343 => (spec_l4Clock.l0 k1 t334 (wrap64 (x7_1 + 1)) s0_0 bt340.2.1 bt340.2.2 bt343.1 bt343.2.1))) = some (r1, r2, r3, r4) := H
    have A16 := am A160
    clear A160
    replace H := Option.bind_eq_some_iff.mp H
    obtain ⟨⟨t340, t341, t342⟩, A170, H⟩ := H
    replace H : ((spec_SetTimer.f k1 x334000_1 x334001_1 (wrap64 (1 + t337)) t340).bind fun bt343 => (spec_l4Clock.l0 k1 t334 (wrap64 (x7_1 + 1)) s0_0 t341 t342 bt343.1 bt343.2.1)) = some (r1, r2, r3, r4) := H
    have A17 := am A170
    clear A170
    replace H := Option.bind_eq_some_iff.mp H
    obtain ⟨⟨t343, t344, t347⟩, A180, H⟩ := H
    replace H : (spec_l4Clock.l0 k1 t334 (wrap64 (x7_1 + 1)) s0_0 t341 t342 t343 t344) = some (r1, r2, r3, r4) := H
    have A18 := am A180
    clear A180
    have H' := am H
    clear H
    obtain ⟨Ao19, co19, eo19⟩ := Kd.R_slice HO_334001.out
    subst eo19
    try go_wp2
    replace HO_334001 := am (Kd.R_drew HO_334001.out)
    replace BK326 := am (blk_drew BK326.out)
    replace BK333 := am (blk_drew BK333.out)
    replace HI0 := am (IsS72.drew HI0.out)
    replace HK := am (keep_drew HK.out)
    replace HB := am (below_drew1 HB.out)
    refine start_ (n := 13) (S := fun w' => w'.cell? ⟨gb333, 0, none⟩ = some (.int .i64 x334000_1) ∧ w'.cell? ⟨gb333, 1, none⟩ = some (.slice Ao19 x334001_1.length co19)) (ds := []) #[false, false, false, false, false, false, false, false, false, false, false, false, false] (by kernel_rfl) rfl rfl ⟨(blk_cell BK333.out 0).trans rfl, (blk_cell BK333.out 1).trans rfl⟩ (fun hHeld => ?_); refine with_tabW spec_l4Clock.tab6 spec_l4Clock.bits6 (fun HT_ HW_ => ?_)
    generalize wr.drew = w20 at HO_334001 BK326 BK333 HI0 HK HB hHeld ⊢
    refine pure_ (i := 1) (N := some 25) (v := ?_) (a' := ?_) #[false, true, false, false, false, false, false, false, false, false, false, false, false] rfl rfl (any_of HT_.out (by kernel_rfl)) (fun _ _ _ h => h) (Or.inl ⟨by rfl, ?_⟩) ?_ ?_
    rotate_left
    ·intro w'
     go_simp
     with_reducible rfl
    rotate_left
    ·simp only [Act.put, List.setIfInBounds_toArray, List.set_cons_zero, List.set_cons_succ, i64_w, i32_w]
     rfl
    refine pure_ (i := 4) (N := some 28) (v := ?_) (a' := ?_) #[false, true, false, false, true, false, false, false, false, false, false, false, false] rfl rfl (any_of HT_.out (by kernel_rfl)) (fun _ _ _ h => h) (Or.inl ⟨by rfl, ?_⟩) ?_ ?_
    rotate_left
    ·intro w'
     go_simp
     with_reducible rfl
    rotate_left
    ·simp only [Act.put, List.setIfInBounds_toArray, List.set_cons_zero, List.set_cons_succ, i64_w, i32_w]
     rfl
    refine take_ (i := 0) (N := some 24) (v := ?_) (a' := ?_) #[true, true, false, false, true, false, false, false, false, false, false, false, false] rfl rfl (take_ofW HT_.out HW_.out (by kernel_rfl)) (fun _ _ _ h => h) (Or.inl ⟨by rfl, ?_⟩) hHeld ?_ ?_
    rotate_left
    ·rintro w' ⟨s0, s1⟩
     go_simp
     with_reducible rfl
    rotate_left
    ·simp only [Act.put, List.setIfInBounds_toArray, List.set_cons_zero, List.set_cons_succ, i64_w, i32_w]
     rfl
    refine join_ (σ := Value × Nat) 2 #[true, true, true, true, true, true, true, true, true, true, true, false, false] (fun s_ => [(26, .int .i64 t337), (29, .int .i64 t340), (30, .tuple #[.agg #[.int .i64 t343, s_.1], .int .i64 t347]), (8, .pointer (some ⟨s_.2, 0, none⟩)), (27, .int .i64 (wrap64 (1 + t337))), (23, .tuple #[.agg #[.int .i64 t343, s_.1], .int .i64 t347]), (31, .agg #[.int .i64 t343, s_.1]), (32, .int .i64 t347)]) (fun s_ w' => (w'.cell? ⟨gb333, 0, none⟩ = some (.int .i64 x334000_1) ∧ w'.cell? ⟨gb333, 1, none⟩ = some (.slice Ao19 x334001_1.length co19)) ∧ (Kd.R k46 46 w' w.heap.size (fun k_ => some k_ ≠ (.slice Ao19 x334001_1.length co19 : Value).ownBlock) s_.1 t344) ∧ (Kd.R k46 46 w' w.heap.size (fun k_ => some k_ ≠ (s_.1 : Value).ownBlock) (.slice Ao19 x334001_1.length co19) x334001_1) ∧ (w'.heap[gb326]? = some (.cells #[.int .i64 0, .slice none 0 0] 29 (0, 0))) ∧ (w'.heap[gb333]? = some (.cells #[.int .i64 x334000_1, .slice Ao19 x334001_1.length co19] 29 (0, 0))) ∧ (w'.heap[s_.2]? = some (.cells #[.int .i64 0, .slice none 0 0] 29 (0, 0))) ∧ (w.heap.size ≤ s_.2) ∧ (w0.heap.size ≤ s_.2) ∧ (g ≠ s_.2) ∧ (s_.2 ≠ g) ∧ (gb326 ≠ s_.2) ∧ (s_.2 ≠ gb326) ∧ (gb333 ≠ s_.2) ∧ (s_.2 ≠ gb333) ∧ (IsS72 w0 w' g s0_0 t341 t342) ∧ (KeepBut w w' g none) ∧ (Below w0.heap.size w0 w')) ?_ ?_
    rotate_left
    ·intro hCont
     refine two_ (i := 2) (j := 10) (Ni := some 26) (Nj := some 8) #[true, true, true, false, true, false, false, false, false, false, false, false, false] #[true, true, false, false, true, false, false, false, false, false, true, false, false] rfl rfl rfl rfl (two_of HT_.out (by kernel_rfl)) (by decide) (by decide) (fun K hK => ?_) (fun K hK => ?_)
     ·skip
      refine goes_ Try.func55 (by kernel_rfl) rfl #[.pointer (some ⟨g, 0, none⟩), .int .i64 15] (by rfl) rfl rfl mpx ?_
      with_reducible refine (spec_l1Below.calls g s0_0 x1001_1 x1002_1 15 t337 t338 t339 w0 _ ?side1 ?side2 A16.out).mono ?_
      (case side1 => repeat (first | (with_reducible first | exact HI0.out | apply IsS72.alloc | apply IsS72.drewN | apply IsS72.drew | apply IsS72.set_1 | apply IsS72.set_2 | refine IsS72.far ?_ NB0_326.out _ | refine IsS72.far ?_ NB0_333.out _) | exact HI0.out))
      (case side2 => repeat (first | (with_reducible first | exact HB.out | apply below_alloc | apply pw_below_drewN | apply below_drew1 | refine below_set ?_ (IsS72.ge HI0.out) | refine below_set ?_ GE326.out | refine below_set ?_ GE333.out) | exact HB.out))
      rintro e w21 ⟨rfl, hi, hb, hk⟩
      refine ⟨_, rfl, ?_⟩
      replace HO_334001 := am (Kd.R_mono (Kd.R_keep (IsS72.apart (show IsS72 w0 _ g s0_0 x1001_1 x1002_1 from IsS72.pk HI0.out) (pkR HO_334001.out) (by decide)) hk (fun _ h => h.2)) (fun _ h => h.1))
      replace BK326 := am (KeepBut.blk hk (g' := gb326) (o := .cells #[.int .i64 0, .slice none 0 0] 29 (0, 0)) (pkK BK326.out) NB326_0.out (by simp))
      replace BK333 := am (KeepBut.blk hk (g' := gb333) (o := .cells #[.int .i64 x334000_1, .slice Ao19 x334001_1.length co19] 29 (0, 0)) (pkK BK333.out) NB333_0.out (by simp))
      replace HK := am (KeepBut.trans (pkH HK.out) hk (.inl rfl))
      replace HB := am (hb)
      replace HI0 := am (hi)
      (try clear hb); (try clear hk hi)
      refine hK.out _ _ ⟨(blk_cell BK333.out 0).trans rfl, (blk_cell BK333.out 1).trans rfl⟩ (fun hHeld => ?_)
      clear hK K
      refine norm_ (a' := ?_) ?_ ?_
      rotate_left
      ·show Act.put _ (some 26) _ = _
       simp only [Act.put, List.setIfInBounds_toArray, List.set_cons_zero, List.set_cons_succ, i64_w, i32_w]
       rfl
      refine pure_ (i := 3) (N := some 27) (v := ?_) (a' := ?_) #[true, true, true, true, true, false, false, false, false, false, false, false, false] rfl rfl (any_of HT_.out (by kernel_rfl)) (fun _ _ _ h => h) (Or.inl ⟨by rfl, ?_⟩) ?_ ?_
      rotate_left
      ·intro w'
       go_simp
       with_reducible rfl
      rotate_left
      ·simp only [Act.put, List.setIfInBounds_toArray, List.set_cons_zero, List.set_cons_succ, i64_w, i32_w]
       rfl
      refine two_ (i := 5) (j := 10) (Ni := some 29) (Nj := some 8) #[true, true, true, true, true, true, false, false, false, false, false, false, false] #[true, true, true, true, true, false, false, false, false, false, true, false, false] rfl rfl rfl rfl (two_of HT_.out (by kernel_rfl)) (by decide) (by decide) (fun K hK => ?_) (fun K hK => ?_)
      ·skip
       refine goes_ Try.func55 (by kernel_rfl) rfl #[.pointer (some ⟨g, 0, none⟩), .int .i64 6] (by rfl) rfl rfl mpx ?_
       with_reducible refine (spec_l1Below.calls g s0_0 t338 t339 6 t340 t341 t342 w0 _ ?side1 ?side2 A17.out).mono ?_
       (case side1 => repeat (first | (with_reducible first | exact HI0.out | apply IsS72.alloc | apply IsS72.drewN | apply IsS72.drew | apply IsS72.set_1 | apply IsS72.set_2 | refine IsS72.far ?_ NB0_326.out _ | refine IsS72.far ?_ NB0_333.out _) | exact HI0.out))
       (case side2 => repeat (first | (with_reducible first | exact HB.out | apply below_alloc | apply pw_below_drewN | apply below_drew1 | refine below_set ?_ (IsS72.ge HI0.out) | refine below_set ?_ GE326.out | refine below_set ?_ GE333.out) | exact HB.out))
       rintro e w22 ⟨rfl, hi, hb, hk⟩
       refine ⟨_, rfl, ?_⟩
       replace HO_334001 := am (Kd.R_mono (Kd.R_keep (IsS72.apart (show IsS72 w0 _ g s0_0 t338 t339 from IsS72.pk HI0.out) (pkR HO_334001.out) (by decide)) hk (fun _ h => h.2)) (fun _ h => h.1))
       replace BK326 := am (KeepBut.blk hk (g' := gb326) (o := .cells #[.int .i64 0, .slice none 0 0] 29 (0, 0)) (pkK BK326.out) NB326_0.out (by simp))
       replace BK333 := am (KeepBut.blk hk (g' := gb333) (o := .cells #[.int .i64 x334000_1, .slice Ao19 x334001_1.length co19] 29 (0, 0)) (pkK BK333.out) NB333_0.out (by simp))
       replace HK := am (KeepBut.trans (pkH HK.out) hk (.inl rfl))
       replace HB := am (hb)
       replace HI0 := am (hi)
       (try clear hb); (try clear hk hi)
       refine hK.out _ _ ⟨(blk_cell BK333.out 0).trans rfl, (blk_cell BK333.out 1).trans rfl⟩ (fun hHeld => ?_)
       clear hK K
       refine norm_ (a' := ?_) ?_ ?_
       rotate_left
       ·show Act.put _ (some 29) _ = _
        simp only [Act.put, List.setIfInBounds_toArray, List.set_cons_zero, List.set_cons_succ, i64_w, i32_w]
        rfl
       refine two_ (i := 6) (j := 10) (Ni := some 30) (Nj := some 8) #[true, true, true, true, true, true, true, false, false, false, false, false, false] #[true, true, true, true, true, true, false, false, false, false, true, false, false] rfl rfl rfl rfl (two_of HT_.out (by kernel_rfl)) (by decide) (by decide) (fun K hK => ?_) (fun K hK => ?_)
       ·skip
        refine goes_ Try.func28 (by kernel_rfl) rfl #[.agg #[.int .i64 x334000_1, .slice Ao19 x334001_1.length co19], .int .i64 (wrap64 (1 + t337)), .int .i64 t340] (by rfl) rfl rfl mpx ?_
        with_reducible refine (spec_SetTimer.calls k1 x334000_1 _ _ x334001_1 (wrap64 (1 + t337)) t340 t343 t344 t347 _ ?side1 ?side2 A18.out).mono ?_
        (case side1 => exact pkC (Kd.R_reads' HO_334001.out).2.2)
        (case side2 => exact (Kd.R_reads' HO_334001.out).2.1)
        rintro e w23 ⟨v345, rfl, ho0, hb⟩
        refine ⟨_, rfl, ?_⟩
        have HO346 := am (Kd.R_lower (Kd.R_new' ho0 (Kd.R_lt (pkR HO_334001.out))) (keep_size (w := w) (g := g) (row := none) (pkH HK.out)))
        replace HO_334001 := am (Kd.R_elder' (pkR HO_334001.out) (Kd.R_base ho0) hb)
        replace BK326 := am (blk_below (pkK BK326.out) hb)
        replace BK333 := am (blk_below (pkK BK333.out) hb)
        replace HK := am (KeepBut.trans (pkH HK.out) (KeepBut.of_below hb g none) (.inl rfl))
        replace HB := am (below_step (by repeat (first | (with_reducible first | exact HB.out | apply below_alloc | apply pw_below_drewN | apply below_drew1 | refine below_set ?_ (IsS72.ge HI0.out) | refine below_set ?_ GE326.out | refine below_set ?_ GE333.out) | exact HB.out)) hb)
        replace HI0 := am (IsS72.below (IsS72.pk HI0.out) hb)
        (try clear hb); (try clear ho0)
        refine hK.out _ _ ⟨(blk_cell BK333.out 0).trans rfl, (blk_cell BK333.out 1).trans rfl⟩ (fun hHeld => ?_)
        clear hK K
        refine norm_ (a' := ?_) ?_ ?_
        rotate_left
        ·show Act.put _ (some 30) _ = _
         simp only [Act.put, List.setIfInBounds_toArray, List.set_cons_zero, List.set_cons_succ, i64_w, i32_w]
         rfl
        refine pure_ (i := 7) (N := some 23) (v := ?_) (a' := ?_) #[true, true, true, true, true, true, true, true, false, false, false, false, false] rfl rfl (any_of HT_.out (by kernel_rfl)) (fun _ _ _ h => h) (Or.inl ⟨by rfl, ?_⟩) ?_ ?_
        rotate_left
        ·intro w'
         go_simp
         with_reducible rfl
        rotate_left
        ·simp only [Act.put, List.setIfInBounds_toArray, List.set_cons_zero, List.set_cons_succ, i64_w, i32_w]
         rfl
        refine pure_ (i := 8) (N := some 31) (v := ?_) (a' := ?_) #[true, true, true, true, true, true, true, true, true, false, false, false, false] rfl rfl (any_of HT_.out (by kernel_rfl)) (fun _ _ _ h => h) (Or.inl ⟨by rfl, ?_⟩) ?_ ?_
        rotate_left
        ·intro w'
         go_simp
         with_reducible rfl
        rotate_left
        ·simp only [Act.put, List.setIfInBounds_toArray, List.set_cons_zero, List.set_cons_succ, i64_w, i32_w]
         rfl
        refine pure_ (i := 9) (N := some 32) (v := ?_) (a' := ?_) #[true, true, true, true, true, true, true, true, true, true, false, false, false] rfl rfl (any_of HT_.out (by kernel_rfl)) (fun _ _ _ h => h) (Or.inl ⟨by rfl, ?_⟩) ?_ ?_
        rotate_left
        ·intro w'
         go_simp
         with_reducible rfl
        rotate_left
        ·simp only [Act.put, List.setIfInBounds_toArray, List.set_cons_zero, List.set_cons_succ, i64_w, i32_w]
         rfl
        refine one_ (i := 10) (N := some 8) #[true, true, true, true, true, true, true, true, true, true, true, false, false] rfl rfl (one_of HT_.out (by kernel_rfl)) (by decide) (fun K hK => ?_)
        refine box_step ?hg (N := 8) ?hd (cs := #[.int .i64 0, .slice none 0 0]) (t := 29) ?hr ?_; (case hd => rfl); (case hg => rfl); (case hr => first | (go_simp; done) | (go_simp; rfl))
        intro gb348 hg w24 hbox hb
        replace HO_334001 := am (Kd.R_below (pkR HO_334001.out) hb)
        replace HO346 := am (Kd.R_below (pkR HO346.out) hb)
        replace HB := am (below_step (by repeat (first | (with_reducible first | exact HB.out | apply below_alloc | apply pw_below_drewN | apply below_drew1 | refine below_set ?_ (IsS72.ge HI0.out) | refine below_set ?_ GE326.out | refine below_set ?_ GE333.out) | exact HB.out)) hb)
        have BK348 := am (hbox)
        have GW348 := am ((by rw [hg]; first | done | exact (keep_size (w := w) (g := g) (row := none) (pkH HK.out)) : w.heap.size ≤ gb348))
        have GE348 := am ((Nat.le_trans HW0.out (by rw [hg]; first | done | exact (keep_size (w := w) (g := g) (row := none) (pkH HK.out)) : w.heap.size ≤ gb348) : w0.heap.size ≤ gb348))
        replace HK := am (KeepBut.trans (pkH HK.out) (KeepBut.of_below hb g none) (.inl rfl))
        have NB326_348 := am ((by rw [hg]; exact Nat.ne_of_lt (blk_lt (g := gb326) (o := .cells #[.int .i64 0, .slice none 0 0] 29 (0, 0)) (pkK BK326.out)) : gb326 ≠ gb348))
        have NB348_326 := am ((by rw [hg]; exact Nat.ne_of_gt (blk_lt (g := gb326) (o := .cells #[.int .i64 0, .slice none 0 0] 29 (0, 0)) (pkK BK326.out)) : gb348 ≠ gb326))
        replace BK326 := am (blk_below (pkK BK326.out) hb)
        have NB333_348 := am ((by rw [hg]; exact Nat.ne_of_lt (blk_lt (g := gb333) (o := .cells #[.int .i64 x334000_1, .slice Ao19 x334001_1.length co19] 29 (0, 0)) (pkK BK333.out)) : gb333 ≠ gb348))
        have NB348_333 := am ((by rw [hg]; exact Nat.ne_of_gt (blk_lt (g := gb333) (o := .cells #[.int .i64 x334000_1, .slice Ao19 x334001_1.length co19] 29 (0, 0)) (pkK BK333.out)) : gb348 ≠ gb333))
        replace BK333 := am (blk_below (pkK BK333.out) hb)
        have NB0_348 := am ((by rw [hg]; exact Nat.ne_of_lt (IsS72.lt (show IsS72 w0 _ g s0_0 t341 t342 from IsS72.pk HI0.out)) : g ≠ gb348))
        have NB348_0 := am ((by rw [hg]; exact Nat.ne_of_gt (IsS72.lt (show IsS72 w0 _ g s0_0 t341 t342 from IsS72.pk HI0.out)) : gb348 ≠ g))
        replace HI0 := am (IsS72.below (IsS72.pk HI0.out) hb)
        clear hb hbox hg
        refine hK.out _ _ ⟨(blk_cell BK333.out 0).trans rfl, (blk_cell BK333.out 1).trans rfl⟩ (fun hHeld => ?_)
        clear hK K
        refine norm_ (a' := ?_) ?_ ?_
        rotate_left
        ·show Act.put _ (some 8) _ = _
         simp only [Act.put, List.setIfInBounds_toArray, List.set_cons_zero, List.set_cons_succ, i64_w, i32_w]
         rfl
        exact norm_ (by simp only [putAll, Act.put, List.setIfInBounds_toArray, List.set_cons_zero, List.set_cons_succ]) (hCont (v345, gb348) _ ⟨hHeld, (by (with_reducible repeat (first | apply Kd.R_alloc | apply Kd.R_drewN | apply Kd.R_drew)); exact Kd.R_mono HO346.out (fun _ hk => hk.2)), (by (with_reducible repeat (first | apply Kd.R_alloc | apply Kd.R_drewN | apply Kd.R_drew)); exact Kd.R_mono HO_334001.out (fun _ hk => hk.2)), (pkK BK326.out), (pkK BK333.out), (pkK BK348.out), GW348.out, GE348.out, NB0_348.out, NB348_0.out, NB326_348.out, NB348_326.out, NB333_348.out, NB348_333.out, (IsS72.pk HI0.out), (pkH HK.out), (by repeat (first | (with_reducible first | exact HB.out | apply below_alloc | apply pw_below_drewN | apply below_drew1 | refine below_set ?_ (IsS72.ge HI0.out) | refine below_set ?_ GE326.out | refine below_set ?_ GE333.out | refine below_set ?_ GE348.out) | exact HB.out))⟩)
       ·skip
        refine box_step ?hg (N := 8) ?hd (cs := #[.int .i64 0, .slice none 0 0]) (t := 29) ?hr ?_; (case hd => rfl); (case hg => rfl); (case hr => first | (go_simp; done) | (go_simp; rfl))
        intro gb348 hg w23 hbox hb
        replace HO_334001 := am (Kd.R_below (pkR HO_334001.out) hb)
        replace HB := am (below_step (by repeat (first | (with_reducible first | exact HB.out | apply below_alloc | apply pw_below_drewN | apply below_drew1 | refine below_set ?_ (IsS72.ge HI0.out) | refine below_set ?_ GE326.out | refine below_set ?_ GE333.out) | exact HB.out)) hb)
        have BK348 := am (hbox)
        have GW348 := am ((by rw [hg]; first | done | exact (keep_size (w := w) (g := g) (row := none) (pkH HK.out)) : w.heap.size ≤ gb348))
        have GE348 := am ((Nat.le_trans HW0.out (by rw [hg]; first | done | exact (keep_size (w := w) (g := g) (row := none) (pkH HK.out)) : w.heap.size ≤ gb348) : w0.heap.size ≤ gb348))
        replace HK := am (KeepBut.trans (pkH HK.out) (KeepBut.of_below hb g none) (.inl rfl))
        have NB326_348 := am ((by rw [hg]; exact Nat.ne_of_lt (blk_lt (g := gb326) (o := .cells #[.int .i64 0, .slice none 0 0] 29 (0, 0)) (pkK BK326.out)) : gb326 ≠ gb348))
        have NB348_326 := am ((by rw [hg]; exact Nat.ne_of_gt (blk_lt (g := gb326) (o := .cells #[.int .i64 0, .slice none 0 0] 29 (0, 0)) (pkK BK326.out)) : gb348 ≠ gb326))
        replace BK326 := am (blk_below (pkK BK326.out) hb)
        have NB333_348 := am ((by rw [hg]; exact Nat.ne_of_lt (blk_lt (g := gb333) (o := .cells #[.int .i64 x334000_1, .slice Ao19 x334001_1.length co19] 29 (0, 0)) (pkK BK333.out)) : gb333 ≠ gb348))
        have NB348_333 := am ((by rw [hg]; exact Nat.ne_of_gt (blk_lt (g := gb333) (o := .cells #[.int .i64 x334000_1, .slice Ao19 x334001_1.length co19] 29 (0, 0)) (pkK BK333.out)) : gb348 ≠ gb333))
        replace BK333 := am (blk_below (pkK BK333.out) hb)
        have NB0_348 := am ((by rw [hg]; exact Nat.ne_of_lt (IsS72.lt (show IsS72 w0 _ g s0_0 t341 t342 from IsS72.pk HI0.out)) : g ≠ gb348))
        have NB348_0 := am ((by rw [hg]; exact Nat.ne_of_gt (IsS72.lt (show IsS72 w0 _ g s0_0 t341 t342 from IsS72.pk HI0.out)) : gb348 ≠ g))
        replace HI0 := am (IsS72.below (IsS72.pk HI0.out) hb)
        clear hb hbox hg
        refine hK.out _ _ ⟨(blk_cell BK333.out 0).trans rfl, (blk_cell BK333.out 1).trans rfl⟩ (fun hHeld => ?_)
        clear hK K
        refine norm_ (a' := ?_) ?_ ?_
        rotate_left
        ·show Act.put _ (some 8) _ = _
         simp only [Act.put, List.setIfInBounds_toArray, List.set_cons_zero, List.set_cons_succ, i64_w, i32_w]
         rfl
        refine one_ (i := 6) (N := some 30) #[true, true, true, true, true, true, true, false, false, false, true, false, false] rfl rfl (one_of HT_.out (by kernel_rfl)) (by decide) (fun K hK => ?_)
        refine goes_ Try.func28 (by kernel_rfl) rfl #[.agg #[.int .i64 x334000_1, .slice Ao19 x334001_1.length co19], .int .i64 (wrap64 (1 + t337)), .int .i64 t340] (by rfl) rfl rfl mpx ?_
        with_reducible refine (spec_SetTimer.calls k1 x334000_1 _ _ x334001_1 (wrap64 (1 + t337)) t340 t343 t344 t347 _ ?side1 ?side2 A18.out).mono ?_
        (case side1 => exact pkC (Kd.R_reads' HO_334001.out).2.2)
        (case side2 => exact (Kd.R_reads' HO_334001.out).2.1)
        rintro e w24 ⟨v345, rfl, ho0, hb⟩
        refine ⟨_, rfl, ?_⟩
        have HO346 := am (Kd.R_lower (Kd.R_new' ho0 (Kd.R_lt (pkR HO_334001.out))) (keep_size (w := w) (g := g) (row := none) (pkH HK.out)))
        replace HO_334001 := am (Kd.R_elder' (pkR HO_334001.out) (Kd.R_base ho0) hb)
        replace BK326 := am (blk_below (pkK BK326.out) hb)
        replace BK333 := am (blk_below (pkK BK333.out) hb)
        replace BK348 := am (blk_below (pkK BK348.out) hb)
        replace HK := am (KeepBut.trans (pkH HK.out) (KeepBut.of_below hb g none) (.inl rfl))
        replace HB := am (below_step (by repeat (first | (with_reducible first | exact HB.out | apply below_alloc | apply pw_below_drewN | apply below_drew1 | refine below_set ?_ (IsS72.ge HI0.out) | refine below_set ?_ GE326.out | refine below_set ?_ GE333.out | refine below_set ?_ GE348.out) | exact HB.out)) hb)
        replace HI0 := am (IsS72.below (IsS72.pk HI0.out) hb)
        (try clear hb); (try clear ho0)
        refine hK.out _ _ ⟨(blk_cell BK333.out 0).trans rfl, (blk_cell BK333.out 1).trans rfl⟩ (fun hHeld => ?_)
        clear hK K
        refine norm_ (a' := ?_) ?_ ?_
        rotate_left
        ·show Act.put _ (some 30) _ = _
         simp only [Act.put, List.setIfInBounds_toArray, List.set_cons_zero, List.set_cons_succ, i64_w, i32_w]
         rfl
        refine pure_ (i := 7) (N := some 23) (v := ?_) (a' := ?_) #[true, true, true, true, true, true, true, true, false, false, true, false, false] rfl rfl (any_of HT_.out (by kernel_rfl)) (fun _ _ _ h => h) (Or.inl ⟨by rfl, ?_⟩) ?_ ?_
        rotate_left
        ·intro w'
         go_simp
         with_reducible rfl
        rotate_left
        ·simp only [Act.put, List.setIfInBounds_toArray, List.set_cons_zero, List.set_cons_succ, i64_w, i32_w]
         rfl
        refine pure_ (i := 8) (N := some 31) (v := ?_) (a' := ?_) #[true, true, true, true, true, true, true, true, true, false, true, false, false] rfl rfl (any_of HT_.out (by kernel_rfl)) (fun _ _ _ h => h) (Or.inl ⟨by rfl, ?_⟩) ?_ ?_
        rotate_left
        ·intro w'
         go_simp
         with_reducible rfl
        rotate_left
        ·simp only [Act.put, List.setIfInBounds_toArray, List.set_cons_zero, List.set_cons_succ, i64_w, i32_w]
         rfl
        refine pure_ (i := 9) (N := some 32) (v := ?_) (a' := ?_) #[true, true, true, true, true, true, true, true, true, true, true, false, false] rfl rfl (any_of HT_.out (by kernel_rfl)) (fun _ _ _ h => h) (Or.inl ⟨by rfl, ?_⟩) ?_ ?_
        rotate_left
        ·intro w'
         go_simp
         with_reducible rfl
        rotate_left
        ·simp only [Act.put, List.setIfInBounds_toArray, List.set_cons_zero, List.set_cons_succ, i64_w, i32_w]
         rfl
        exact norm_ (by simp only [putAll, Act.put, List.setIfInBounds_toArray, List.set_cons_zero, List.set_cons_succ]) (hCont (v345, gb348) _ ⟨hHeld, (by (with_reducible repeat (first | apply Kd.R_alloc | apply Kd.R_drewN | apply Kd.R_drew)); exact Kd.R_mono HO346.out (fun _ hk => hk.2)), (by (with_reducible repeat (first | apply Kd.R_alloc | apply Kd.R_drewN | apply Kd.R_drew)); exact Kd.R_mono HO_334001.out (fun _ hk => hk.2)), (pkK BK326.out), (pkK BK333.out), (pkK BK348.out), GW348.out, GE348.out, NB0_348.out, NB348_0.out, NB326_348.out, NB348_326.out, NB333_348.out, NB348_333.out, (IsS72.pk HI0.out), (pkH HK.out), (by repeat (first | (with_reducible first | exact HB.out | apply below_alloc | apply pw_below_drewN | apply below_drew1 | refine below_set ?_ (IsS72.ge HI0.out) | refine below_set ?_ GE326.out | refine below_set ?_ GE333.out | refine below_set ?_ GE348.out) | exact HB.out))⟩)
      ·skip
       refine box_step ?hg (N := 8) ?hd (cs := #[.int .i64 0, .slice none 0 0]) (t := 29) ?hr ?_; (case hd => rfl); (case hg => rfl); (case hr => first | (go_simp; done) | (go_simp; rfl))
       intro gb348 hg w22 hbox hb
       replace HO_334001 := am (Kd.R_below (pkR HO_334001.out) hb)
       replace HB := am (below_step (by repeat (first | (with_reducible first | exact HB.out | apply below_alloc | apply pw_below_drewN | apply below_drew1 | refine below_set ?_ (IsS72.ge HI0.out) | refine below_set ?_ GE326.out | refine below_set ?_ GE333.out) | exact HB.out)) hb)
       have BK348 := am (hbox)
       have GW348 := am ((by rw [hg]; first | done | exact (keep_size (w := w) (g := g) (row := none) (pkH HK.out)) : w.heap.size ≤ gb348))
       have GE348 := am ((Nat.le_trans HW0.out (by rw [hg]; first | done | exact (keep_size (w := w) (g := g) (row := none) (pkH HK.out)) : w.heap.size ≤ gb348) : w0.heap.size ≤ gb348))
       replace HK := am (KeepBut.trans (pkH HK.out) (KeepBut.of_below hb g none) (.inl rfl))
       have NB326_348 := am ((by rw [hg]; exact Nat.ne_of_lt (blk_lt (g := gb326) (o := .cells #[.int .i64 0, .slice none 0 0] 29 (0, 0)) (pkK BK326.out)) : gb326 ≠ gb348))
       have NB348_326 := am ((by rw [hg]; exact Nat.ne_of_gt (blk_lt (g := gb326) (o := .cells #[.int .i64 0, .slice none 0 0] 29 (0, 0)) (pkK BK326.out)) : gb348 ≠ gb326))
       replace BK326 := am (blk_below (pkK BK326.out) hb)
       have NB333_348 := am ((by rw [hg]; exact Nat.ne_of_lt (blk_lt (g := gb333) (o := .cells #[.int .i64 x334000_1, .slice Ao19 x334001_1.length co19] 29 (0, 0)) (pkK BK333.out)) : gb333 ≠ gb348))
       have NB348_333 := am ((by rw [hg]; exact Nat.ne_of_gt (blk_lt (g := gb333) (o := .cells #[.int .i64 x334000_1, .slice Ao19 x334001_1.length co19] 29 (0, 0)) (pkK BK333.out)) : gb348 ≠ gb333))
       replace BK333 := am (blk_below (pkK BK333.out) hb)
       have NB0_348 := am ((by rw [hg]; exact Nat.ne_of_lt (IsS72.lt (show IsS72 w0 _ g s0_0 t338 t339 from IsS72.pk HI0.out)) : g ≠ gb348))
       have NB348_0 := am ((by rw [hg]; exact Nat.ne_of_gt (IsS72.lt (show IsS72 w0 _ g s0_0 t338 t339 from IsS72.pk HI0.out)) : gb348 ≠ g))
       replace HI0 := am (IsS72.below (IsS72.pk HI0.out) hb)
       clear hb hbox hg
       refine hK.out _ _ ⟨(blk_cell BK333.out 0).trans rfl, (blk_cell BK333.out 1).trans rfl⟩ (fun hHeld => ?_)
       clear hK K
       refine norm_ (a' := ?_) ?_ ?_
       rotate_left
       ·show Act.put _ (some 8) _ = _
        simp only [Act.put, List.setIfInBounds_toArray, List.set_cons_zero, List.set_cons_succ, i64_w, i32_w]
        rfl
       refine one_ (i := 5) (N := some 29) #[true, true, true, true, true, true, false, false, false, false, true, false, false] rfl rfl (one_of HT_.out (by kernel_rfl)) (by decide) (fun K hK => ?_)
       refine goes_ Try.func55 (by kernel_rfl) rfl #[.pointer (some ⟨g, 0, none⟩), .int .i64 6] (by rfl) rfl rfl mpx ?_
       with_reducible refine (spec_l1Below.calls g s0_0 t338 t339 6 t340 t341 t342 w0 _ ?side1 ?side2 A17.out).mono ?_
       (case side1 => repeat (first | (with_reducible first | exact HI0.out | apply IsS72.alloc | apply IsS72.drewN | apply IsS72.drew | apply IsS72.set_1 | apply IsS72.set_2 | refine IsS72.far ?_ NB0_326.out _ | refine IsS72.far ?_ NB0_333.out _ | refine IsS72.far ?_ NB0_348.out _) | exact HI0.out))
       (case side2 => repeat (first | (with_reducible first | exact HB.out | apply below_alloc | apply pw_below_drewN | apply below_drew1 | refine below_set ?_ (IsS72.ge HI0.out) | refine below_set ?_ GE326.out | refine below_set ?_ GE333.out | refine below_set ?_ GE348.out) | exact HB.out))
       rintro e w23 ⟨rfl, hi, hb, hk⟩
       refine ⟨_, rfl, ?_⟩
       replace HO_334001 := am (Kd.R_mono (Kd.R_keep (IsS72.apart (show IsS72 w0 _ g s0_0 t338 t339 from IsS72.pk HI0.out) (pkR HO_334001.out) (by decide)) hk (fun _ h => h.2)) (fun _ h => h.1))
       replace BK326 := am (KeepBut.blk hk (g' := gb326) (o := .cells #[.int .i64 0, .slice none 0 0] 29 (0, 0)) (pkK BK326.out) NB326_0.out (by simp))
       replace BK333 := am (KeepBut.blk hk (g' := gb333) (o := .cells #[.int .i64 x334000_1, .slice Ao19 x334001_1.length co19] 29 (0, 0)) (pkK BK333.out) NB333_0.out (by simp))
       replace BK348 := am (KeepBut.blk hk (g' := gb348) (o := .cells #[.int .i64 0, .slice none 0 0] 29 (0, 0)) (pkK BK348.out) NB348_0.out (by simp))
       replace HK := am (KeepBut.trans (pkH HK.out) hk (.inl rfl))
       replace HB := am (hb)
       replace HI0 := am (hi)
       (try clear hb); (try clear hk hi)
       refine hK.out _ _ ⟨(blk_cell BK333.out 0).trans rfl, (blk_cell BK333.out 1).trans rfl⟩ (fun hHeld => ?_)
       clear hK K
       refine norm_ (a' := ?_) ?_ ?_
       rotate_left
       ·show Act.put _ (some 29) _ = _
        simp only [Act.put, List.setIfInBounds_toArray, List.set_cons_zero, List.set_cons_succ, i64_w, i32_w]
        rfl
       refine one_ (i := 6) (N := some 30) #[true, true, true, true, true, true, true, false, false, false, true, false, false] rfl rfl (one_of HT_.out (by kernel_rfl)) (by decide) (fun K hK => ?_)
       refine goes_ Try.func28 (by kernel_rfl) rfl #[.agg #[.int .i64 x334000_1, .slice Ao19 x334001_1.length co19], .int .i64 (wrap64 (1 + t337)), .int .i64 t340] (by rfl) rfl rfl mpx ?_
       with_reducible refine (spec_SetTimer.calls k1 x334000_1 _ _ x334001_1 (wrap64 (1 + t337)) t340 t343 t344 t347 _ ?side1 ?side2 A18.out).mono ?_
       (case side1 => exact pkC (Kd.R_reads' HO_334001.out).2.2)
       (case side2 => exact (Kd.R_reads' HO_334001.out).2.1)
       rintro e w24 ⟨v345, rfl, ho0, hb⟩
       refine ⟨_, rfl, ?_⟩
       have HO346 := am (Kd.R_lower (Kd.R_new' ho0 (Kd.R_lt (pkR HO_334001.out))) (keep_size (w := w) (g := g) (row := none) (pkH HK.out)))
       replace HO_334001 := am (Kd.R_elder' (pkR HO_334001.out) (Kd.R_base ho0) hb)
       replace BK326 := am (blk_below (pkK BK326.out) hb)
       replace BK333 := am (blk_below (pkK BK333.out) hb)
       replace BK348 := am (blk_below (pkK BK348.out) hb)
       replace HK := am (KeepBut.trans (pkH HK.out) (KeepBut.of_below hb g none) (.inl rfl))
       replace HB := am (below_step (by repeat (first | (with_reducible first | exact HB.out | apply below_alloc | apply pw_below_drewN | apply below_drew1 | refine below_set ?_ (IsS72.ge HI0.out) | refine below_set ?_ GE326.out | refine below_set ?_ GE333.out | refine below_set ?_ GE348.out) | exact HB.out)) hb)
       replace HI0 := am (IsS72.below (IsS72.pk HI0.out) hb)
       (try clear hb); (try clear ho0)
       refine hK.out _ _ ⟨(blk_cell BK333.out 0).trans rfl, (blk_cell BK333.out 1).trans rfl⟩ (fun hHeld => ?_)
       clear hK K
       refine norm_ (a' := ?_) ?_ ?_
       rotate_left
       ·show Act.put _ (some 30) _ = _
        simp only [Act.put, List.setIfInBounds_toArray, List.set_cons_zero, List.set_cons_succ, i64_w, i32_w]
        rfl
       refine pure_ (i := 7) (N := some 23) (v := ?_) (a' := ?_) #[true, true, true, true, true, true, true, true, false, false, true, false, false] rfl rfl (any_of HT_.out (by kernel_rfl)) (fun _ _ _ h => h) (Or.inl ⟨by rfl, ?_⟩) ?_ ?_
       rotate_left
       ·intro w'
        go_simp
        with_reducible rfl
       rotate_left
       ·simp only [Act.put, List.setIfInBounds_toArray, List.set_cons_zero, List.set_cons_succ, i64_w, i32_w]
        rfl
       refine pure_ (i := 8) (N := some 31) (v := ?_) (a' := ?_) #[true, true, true, true, true, true, true, true, true, false, true, false, false] rfl rfl (any_of HT_.out (by kernel_rfl)) (fun _ _ _ h => h) (Or.inl ⟨by rfl, ?_⟩) ?_ ?_
       rotate_left
       ·intro w'
        go_simp
        with_reducible rfl
       rotate_left
       ·simp only [Act.put, List.setIfInBounds_toArray, List.set_cons_zero, List.set_cons_succ, i64_w, i32_w]
        rfl
       refine pure_ (i := 9) (N := some 32) (v := ?_) (a' := ?_) #[true, true, true, true, true, true, true, true, true, true, true, false, false] rfl rfl (any_of HT_.out (by kernel_rfl)) (fun _ _ _ h => h) (Or.inl ⟨by rfl, ?_⟩) ?_ ?_
       rotate_left
       ·intro w'
        go_simp
        with_reducible rfl
       rotate_left
       ·simp only [Act.put, List.setIfInBounds_toArray, List.set_cons_zero, List.set_cons_succ, i64_w, i32_w]
        rfl
       exact norm_ (by simp only [putAll, Act.put, List.setIfInBounds_toArray, List.set_cons_zero, List.set_cons_succ]) (hCont (v345, gb348) _ ⟨hHeld, (by (with_reducible repeat (first | apply Kd.R_alloc | apply Kd.R_drewN | apply Kd.R_drew)); exact Kd.R_mono HO346.out (fun _ hk => hk.2)), (by (with_reducible repeat (first | apply Kd.R_alloc | apply Kd.R_drewN | apply Kd.R_drew)); exact Kd.R_mono HO_334001.out (fun _ hk => hk.2)), (pkK BK326.out), (pkK BK333.out), (pkK BK348.out), GW348.out, GE348.out, NB0_348.out, NB348_0.out, NB326_348.out, NB348_326.out, NB333_348.out, NB348_333.out, (IsS72.pk HI0.out), (pkH HK.out), (by repeat (first | (with_reducible first | exact HB.out | apply below_alloc | apply pw_below_drewN | apply below_drew1 | refine below_set ?_ (IsS72.ge HI0.out) | refine below_set ?_ GE326.out | refine below_set ?_ GE333.out | refine below_set ?_ GE348.out) | exact HB.out))⟩)
     ·skip
      refine box_step ?hg (N := 8) ?hd (cs := #[.int .i64 0, .slice none 0 0]) (t := 29) ?hr ?_; (case hd => rfl); (case hg => rfl); (case hr => first | (go_simp; done) | (go_simp; rfl))
      intro gb348 hg w21 hbox hb
      replace HO_334001 := am (Kd.R_below (pkR HO_334001.out) hb)
      replace HB := am (below_step (by repeat (first | (with_reducible first | exact HB.out | apply below_alloc | apply pw_below_drewN | apply below_drew1 | refine below_set ?_ (IsS72.ge HI0.out) | refine below_set ?_ GE326.out | refine below_set ?_ GE333.out) | exact HB.out)) hb)
      have BK348 := am (hbox)
      have GW348 := am ((by rw [hg]; first | done | exact (keep_size (w := w) (g := g) (row := none) (pkH HK.out)) : w.heap.size ≤ gb348))
      have GE348 := am ((Nat.le_trans HW0.out (by rw [hg]; first | done | exact (keep_size (w := w) (g := g) (row := none) (pkH HK.out)) : w.heap.size ≤ gb348) : w0.heap.size ≤ gb348))
      replace HK := am (KeepBut.trans (pkH HK.out) (KeepBut.of_below hb g none) (.inl rfl))
      have NB326_348 := am ((by rw [hg]; exact Nat.ne_of_lt (blk_lt (g := gb326) (o := .cells #[.int .i64 0, .slice none 0 0] 29 (0, 0)) (pkK BK326.out)) : gb326 ≠ gb348))
      have NB348_326 := am ((by rw [hg]; exact Nat.ne_of_gt (blk_lt (g := gb326) (o := .cells #[.int .i64 0, .slice none 0 0] 29 (0, 0)) (pkK BK326.out)) : gb348 ≠ gb326))
      replace BK326 := am (blk_below (pkK BK326.out) hb)
      have NB333_348 := am ((by rw [hg]; exact Nat.ne_of_lt (blk_lt (g := gb333) (o := .cells #[.int .i64 x334000_1, .slice Ao19 x334001_1.length co19] 29 (0, 0)) (pkK BK333.out)) : gb333 ≠ gb348))
      have NB348_333 := am ((by rw [hg]; exact Nat.ne_of_gt (blk_lt (g := gb333) (o := .cells #[.int .i64 x334000_1, .slice Ao19 x334001_1.length co19] 29 (0, 0)) (pkK BK333.out)) : gb348 ≠ gb333))
      replace BK333 := am (blk_below (pkK BK333.out) hb)
      have NB0_348 := am ((by rw [hg]; exact Nat.ne_of_lt (IsS72.lt (show IsS72 w0 _ g s0_0 x1001_1 x1002_1 from IsS72.pk HI0.out)) : g ≠ gb348))
      have NB348_0 := am ((by rw [hg]; exact Nat.ne_of_gt (IsS72.lt (show IsS72 w0 _ g s0_0 x1001_1 x1002_1 from IsS72.pk HI0.out)) : gb348 ≠ g))
      replace HI0 := am (IsS72.below (IsS72.pk HI0.out) hb)
      clear hb hbox hg
      refine hK.out _ _ ⟨(blk_cell BK333.out 0).trans rfl, (blk_cell BK333.out 1).trans rfl⟩ (fun hHeld => ?_)
      clear hK K
      refine norm_ (a' := ?_) ?_ ?_
      rotate_left
      ·show Act.put _ (some 8) _ = _
       simp only [Act.put, List.setIfInBounds_toArray, List.set_cons_zero, List.set_cons_succ, i64_w, i32_w]
       rfl
      refine one_ (i := 2) (N := some 26) #[true, true, true, false, true, false, false, false, false, false, true, false, false] rfl rfl (one_of HT_.out (by kernel_rfl)) (by decide) (fun K hK => ?_)
      refine goes_ Try.func55 (by kernel_rfl) rfl #[.pointer (some ⟨g, 0, none⟩), .int .i64 15] (by rfl) rfl rfl mpx ?_
      with_reducible refine (spec_l1Below.calls g s0_0 x1001_1 x1002_1 15 t337 t338 t339 w0 _ ?side1 ?side2 A16.out).mono ?_
      (case side1 => repeat (first | (with_reducible first | exact HI0.out | apply IsS72.alloc | apply IsS72.drewN | apply IsS72.drew | apply IsS72.set_1 | apply IsS72.set_2 | refine IsS72.far ?_ NB0_326.out _ | refine IsS72.far ?_ NB0_333.out _ | refine IsS72.far ?_ NB0_348.out _) | exact HI0.out))
      (case side2 => repeat (first | (with_reducible first | exact HB.out | apply below_alloc | apply pw_below_drewN | apply below_drew1 | refine below_set ?_ (IsS72.ge HI0.out) | refine below_set ?_ GE326.out | refine below_set ?_ GE333.out | refine below_set ?_ GE348.out) | exact HB.out))
      rintro e w22 ⟨rfl, hi, hb, hk⟩
      refine ⟨_, rfl, ?_⟩
      replace HO_334001 := am (Kd.R_mono (Kd.R_keep (IsS72.apart (show IsS72 w0 _ g s0_0 x1001_1 x1002_1 from IsS72.pk HI0.out) (pkR HO_334001.out) (by decide)) hk (fun _ h => h.2)) (fun _ h => h.1))
      replace BK326 := am (KeepBut.blk hk (g' := gb326) (o := .cells #[.int .i64 0, .slice none 0 0] 29 (0, 0)) (pkK BK326.out) NB326_0.out (by simp))
      replace BK333 := am (KeepBut.blk hk (g' := gb333) (o := .cells #[.int .i64 x334000_1, .slice Ao19 x334001_1.length co19] 29 (0, 0)) (pkK BK333.out) NB333_0.out (by simp))
      replace BK348 := am (KeepBut.blk hk (g' := gb348) (o := .cells #[.int .i64 0, .slice none 0 0] 29 (0, 0)) (pkK BK348.out) NB348_0.out (by simp))
      replace HK := am (KeepBut.trans (pkH HK.out) hk (.inl rfl))
      replace HB := am (hb)
      replace HI0 := am (hi)
      (try clear hb); (try clear hk hi)
      refine hK.out _ _ ⟨(blk_cell BK333.out 0).trans rfl, (blk_cell BK333.out 1).trans rfl⟩ (fun hHeld => ?_)
      clear hK K
      refine norm_ (a' := ?_) ?_ ?_
      rotate_left
      ·show Act.put _ (some 26) _ = _
       simp only [Act.put, List.setIfInBounds_toArray, List.set_cons_zero, List.set_cons_succ, i64_w, i32_w]
       rfl
      refine pure_ (i := 3) (N := some 27) (v := ?_) (a' := ?_) #[true, true, true, true, true, false, false, false, false, false, true, false, false] rfl rfl (any_of HT_.out (by kernel_rfl)) (fun _ _ _ h => h) (Or.inl ⟨by rfl, ?_⟩) ?_ ?_
      rotate_left
      ·intro w'
       go_simp
       with_reducible rfl
      rotate_left
      ·simp only [Act.put, List.setIfInBounds_toArray, List.set_cons_zero, List.set_cons_succ, i64_w, i32_w]
       rfl
      refine one_ (i := 5) (N := some 29) #[true, true, true, true, true, true, false, false, false, false, true, false, false] rfl rfl (one_of HT_.out (by kernel_rfl)) (by decide) (fun K hK => ?_)
      refine goes_ Try.func55 (by kernel_rfl) rfl #[.pointer (some ⟨g, 0, none⟩), .int .i64 6] (by rfl) rfl rfl mpx ?_
      with_reducible refine (spec_l1Below.calls g s0_0 t338 t339 6 t340 t341 t342 w0 _ ?side1 ?side2 A17.out).mono ?_
      (case side1 => repeat (first | (with_reducible first | exact HI0.out | apply IsS72.alloc | apply IsS72.drewN | apply IsS72.drew | apply IsS72.set_1 | apply IsS72.set_2 | refine IsS72.far ?_ NB0_326.out _ | refine IsS72.far ?_ NB0_333.out _ | refine IsS72.far ?_ NB0_348.out _) | exact HI0.out))
      (case side2 => repeat (first | (with_reducible first | exact HB.out | apply below_alloc | apply pw_below_drewN | apply below_drew1 | refine below_set ?_ (IsS72.ge HI0.out) | refine below_set ?_ GE326.out | refine below_set ?_ GE333.out | refine below_set ?_ GE348.out) | exact HB.out))
      rintro e w23 ⟨rfl, hi, hb, hk⟩
      refine ⟨_, rfl, ?_⟩
      replace HO_334001 := am (Kd.R_mono (Kd.R_keep (IsS72.apart (show IsS72 w0 _ g s0_0 t338 t339 from IsS72.pk HI0.out) (pkR HO_334001.out) (by decide)) hk (fun _ h => h.2)) (fun _ h => h.1))
      replace BK326 := am (KeepBut.blk hk (g' := gb326) (o := .cells #[.int .i64 0, .slice none 0 0] 29 (0, 0)) (pkK BK326.out) NB326_0.out (by simp))
      replace BK333 := am (KeepBut.blk hk (g' := gb333) (o := .cells #[.int .i64 x334000_1, .slice Ao19 x334001_1.length co19] 29 (0, 0)) (pkK BK333.out) NB333_0.out (by simp))
      replace BK348 := am (KeepBut.blk hk (g' := gb348) (o := .cells #[.int .i64 0, .slice none 0 0] 29 (0, 0)) (pkK BK348.out) NB348_0.out (by simp))
      replace HK := am (KeepBut.trans (pkH HK.out) hk (.inl rfl))
      replace HB := am (hb)
      replace HI0 := am (hi)
      (try clear hb); (try clear hk hi)
      refine hK.out _ _ ⟨(blk_cell BK333.out 0).trans rfl, (blk_cell BK333.out 1).trans rfl⟩ (fun hHeld => ?_)
      clear hK K
      refine norm_ (a' := ?_) ?_ ?_
      rotate_left
      ·show Act.put _ (some 29) _ = _
       simp only [Act.put, List.setIfInBounds_toArray, List.set_cons_zero, List.set_cons_succ, i64_w, i32_w]
       rfl
      refine one_ (i := 6) (N := some 30) #[true, true, true, true, true, true, true, false, false, false, true, false, false] rfl rfl (one_of HT_.out (by kernel_rfl)) (by decide) (fun K hK => ?_)
      refine goes_ Try.func28 (by kernel_rfl) rfl #[.agg #[.int .i64 x334000_1, .slice Ao19 x334001_1.length co19], .int .i64 (wrap64 (1 + t337)), .int .i64 t340] (by rfl) rfl rfl mpx ?_
      with_reducible refine (spec_SetTimer.calls k1 x334000_1 _ _ x334001_1 (wrap64 (1 + t337)) t340 t343 t344 t347 _ ?side1 ?side2 A18.out).mono ?_
      (case side1 => exact pkC (Kd.R_reads' HO_334001.out).2.2)
      (case side2 => exact (Kd.R_reads' HO_334001.out).2.1)
      rintro e w24 ⟨v345, rfl, ho0, hb⟩
      refine ⟨_, rfl, ?_⟩
      have HO346 := am (Kd.R_lower (Kd.R_new' ho0 (Kd.R_lt (pkR HO_334001.out))) (keep_size (w := w) (g := g) (row := none) (pkH HK.out)))
      replace HO_334001 := am (Kd.R_elder' (pkR HO_334001.out) (Kd.R_base ho0) hb)
      replace BK326 := am (blk_below (pkK BK326.out) hb)
      replace BK333 := am (blk_below (pkK BK333.out) hb)
      replace BK348 := am (blk_below (pkK BK348.out) hb)
      replace HK := am (KeepBut.trans (pkH HK.out) (KeepBut.of_below hb g none) (.inl rfl))
      replace HB := am (below_step (by repeat (first | (with_reducible first | exact HB.out | apply below_alloc | apply pw_below_drewN | apply below_drew1 | refine below_set ?_ (IsS72.ge HI0.out) | refine below_set ?_ GE326.out | refine below_set ?_ GE333.out | refine below_set ?_ GE348.out) | exact HB.out)) hb)
      replace HI0 := am (IsS72.below (IsS72.pk HI0.out) hb)
      (try clear hb); (try clear ho0)
      refine hK.out _ _ ⟨(blk_cell BK333.out 0).trans rfl, (blk_cell BK333.out 1).trans rfl⟩ (fun hHeld => ?_)
      clear hK K
      refine norm_ (a' := ?_) ?_ ?_
      rotate_left
      ·show Act.put _ (some 30) _ = _
       simp only [Act.put, List.setIfInBounds_toArray, List.set_cons_zero, List.set_cons_succ, i64_w, i32_w]
       rfl
      refine pure_ (i := 7) (N := some 23) (v := ?_) (a' := ?_) #[true, true, true, true, true, true, true, true, false, false, true, false, false] rfl rfl (any_of HT_.out (by kernel_rfl)) (fun _ _ _ h => h) (Or.inl ⟨by rfl, ?_⟩) ?_ ?_
      rotate_left
      ·intro w'
       go_simp
       with_reducible rfl
      rotate_left
      ·simp only [Act.put, List.setIfInBounds_toArray, List.set_cons_zero, List.set_cons_succ, i64_w, i32_w]
       rfl
      refine pure_ (i := 8) (N := some 31) (v := ?_) (a' := ?_) #[true, true, true, true, true, true, true, true, true, false, true, false, false] rfl rfl (any_of HT_.out (by kernel_rfl)) (fun _ _ _ h => h) (Or.inl ⟨by rfl, ?_⟩) ?_ ?_
      rotate_left
      ·intro w'
       go_simp
       with_reducible rfl
      rotate_left
      ·simp only [Act.put, List.setIfInBounds_toArray, List.set_cons_zero, List.set_cons_succ, i64_w, i32_w]
       rfl
      refine pure_ (i := 9) (N := some 32) (v := ?_) (a' := ?_) #[true, true, true, true, true, true, true, true, true, true, true, false, false] rfl rfl (any_of HT_.out (by kernel_rfl)) (fun _ _ _ h => h) (Or.inl ⟨by rfl, ?_⟩) ?_ ?_
      rotate_left
      ·intro w'
       go_simp
       with_reducible rfl
      rotate_left
      ·simp only [Act.put, List.setIfInBounds_toArray, List.set_cons_zero, List.set_cons_succ, i64_w, i32_w]
       rfl
      exact norm_ (by simp only [putAll, Act.put, List.setIfInBounds_toArray, List.set_cons_zero, List.set_cons_succ]) (hCont (v345, gb348) _ ⟨hHeld, (by (with_reducible repeat (first | apply Kd.R_alloc | apply Kd.R_drewN | apply Kd.R_drew)); exact Kd.R_mono HO346.out (fun _ hk => hk.2)), (by (with_reducible repeat (first | apply Kd.R_alloc | apply Kd.R_drewN | apply Kd.R_drew)); exact Kd.R_mono HO_334001.out (fun _ hk => hk.2)), (pkK BK326.out), (pkK BK333.out), (pkK BK348.out), GW348.out, GE348.out, NB0_348.out, NB348_0.out, NB326_348.out, NB348_326.out, NB333_348.out, NB348_333.out, (IsS72.pk HI0.out), (pkH HK.out), (by repeat (first | (with_reducible first | exact HB.out | apply below_alloc | apply pw_below_drewN | apply below_drew1 | refine below_set ?_ (IsS72.ge HI0.out) | refine below_set ?_ GE326.out | refine below_set ?_ GE333.out | refine below_set ?_ GE348.out) | exact HB.out))⟩)
    rintro ⟨v345, gb348⟩ w25 ⟨hS_, h0_, h1_, h2_, h3_, h4_, h5_, h6_, h7_, h8_, h9_, h10_, h11_, h12_, h13_, h14_, h15_⟩
    have HO346 : Aside0 (Kd.R k46 46 w25 w.heap.size (fun k_ => some k_ ≠ (.slice Ao19 x334001_1.length co19 : Value).ownBlock) v345 t344) := ⟨h0_⟩
    replace HO_334001 : Aside0 (Kd.R k46 46 w25 w.heap.size (fun k_ => some k_ ≠ (v345 : Value).ownBlock) (.slice Ao19 x334001_1.length co19) x334001_1) := ⟨h1_⟩
    replace BK326 : Aside0 (w25.heap[gb326]? = some (.cells #[.int .i64 0, .slice none 0 0] 29 (0, 0))) := ⟨h2_⟩
    replace BK333 : Aside0 (w25.heap[gb333]? = some (.cells #[.int .i64 x334000_1, .slice Ao19 x334001_1.length co19] 29 (0, 0))) := ⟨h3_⟩
    have BK348 : Aside0 (w25.heap[gb348]? = some (.cells #[.int .i64 0, .slice none 0 0] 29 (0, 0))) := ⟨h4_⟩
    have GW348 : Aside0 (w.heap.size ≤ gb348) := ⟨h5_⟩
    have GE348 : Aside0 (w0.heap.size ≤ gb348) := ⟨h6_⟩
    have NB0_348 : Aside0 (g ≠ gb348) := ⟨h7_⟩
    have NB348_0 : Aside0 (gb348 ≠ g) := ⟨h8_⟩
    have NB326_348 : Aside0 (gb326 ≠ gb348) := ⟨h9_⟩
    have NB348_326 : Aside0 (gb348 ≠ gb326) := ⟨h10_⟩
    have NB333_348 : Aside0 (gb333 ≠ gb348) := ⟨h11_⟩
    have NB348_333 : Aside0 (gb348 ≠ gb333) := ⟨h12_⟩
    replace HI0 : Aside0 (IsS72 w0 w25 g s0_0 t341 t342) := ⟨h13_⟩
    replace HK : Aside0 (KeepBut w w25 g none) := ⟨h14_⟩
    replace HB : Aside0 (Below w0.heap.size w0 w25) := ⟨h15_⟩
    clear h0_ h1_ h2_ h3_ h4_ h5_ h6_ h7_ h8_ h9_ h10_ h11_ h12_ h13_ h14_ h15_
    have hHeld : w25.cell? ⟨gb333, 0, none⟩ = some (.int .i64 x334000_1) ∧ w25.cell? ⟨gb333, 1, none⟩ = some (.slice Ao19 x334001_1.length co19) := hS_
    obtain ⟨Ao27, co27, eo27⟩ := Kd.R_slice HO346.out
    (first | subst eo27 | (injection eo27 with f1_ f2_ f3_; have f4_ := f1_.symm; have f5_ := f3_.symm; clear f1_ f2_ f3_; subst f4_; subst f5_))
    refine norm_ (a' := ?_) ?_ ?_
    rotate_left
    ·simp only [putAll, Act.put, List.setIfInBounds_toArray, List.set_cons_zero, List.set_cons_succ]
     rfl
    refine one_ (i := 11) (N := none) #[true, true, true, true, true, true, true, true, true, true, true, true, false] rfl rfl (one_of HT_.out (by kernel_rfl)) (by decide) (fun K hK => ?_)
    have hs26 : w25.cell? ⟨gb348, 0, none⟩ = some (.int .i64 0) := (blk_cell BK348.out 0).trans rfl
    have hfs26 := blk_frozen BK348.out 0
    have hns26_0 := NB326_348.out
    have hns26_1 := NB333_348.out
    have hms26_0 := NB348_326.out
    have hms26_1 := NB348_333.out
    have hs28 : w25.cell? ⟨gb348, 1, none⟩ = some (.slice none 0 0) := (blk_cell BK348.out 1).trans rfl
    have hfs28 := blk_frozen BK348.out 1
    have hns28_0 := NB326_348.out
    have hns28_1 := NB333_348.out
    have hms28_0 := NB348_326.out
    have hms28_1 := NB348_333.out
    refine skip_ (w1 := ?_) (by rfl) rfl ?_ ?_
    rotate_left
    ·go_simp
     rfl
    refine hK.out _ _ ⟨((cell_far (p := ⟨gb348, _, none⟩) NB333_348.out _).trans (((cell_far (p := ⟨gb348, _, none⟩) NB333_348.out _).trans (hHeld.1)))), ((cell_far (p := ⟨gb348, _, none⟩) NB333_348.out _).trans (((cell_far (p := ⟨gb348, _, none⟩) NB333_348.out _).trans (hHeld.2))))⟩ (fun hHeld => ?_)
    clear hK K
    refine pure_ (i := 12) (N := some 9) (v := ?_) (a' := ?_) #[true, true, true, true, true, true, true, true, true, true, true, true, true] rfl rfl (any_of HT_.out (by kernel_rfl)) (fun _ _ _ h => h) (Or.inl ⟨by rfl, ?_⟩) ?_ ?_
    rotate_left
    ·intro w'
     go_simp
     with_reducible rfl
    rotate_left
    ·simp only [Act.put, List.setIfInBounds_toArray, List.set_cons_zero, List.set_cons_succ, i64_w, i32_w]
     rfl
    refine done_ (done_of HT_.out (by kernel_rfl)) ?_
    have hnb29 := NB348_326.out
    have hnc29 := NB326_348.out
    have hnb30 := NB348_333.out
    have hnc30 := NB333_348.out
    have hnb31 := NB348_0.out
    have hnc31 := NB0_348.out
    obtain ⟨hcz32_0, hcz32_1, hfz32_0, hfz32_1⟩ := bk2 BK348.out
    have hnb33 := NB333_326.out
    have hnc33 := NB326_333.out
    have hnb34 := NB333_0.out
    have hnc34 := NB0_333.out
    obtain ⟨hcz35_0, hcz35_1, hfz35_0, hfz35_1⟩ := bk2 BK333.out
    try go_wp2
    go_roundg k1
    case measure => have := HK1.out; omega
    case rel => exact ⟨(wrap64 (x7_1 + 1)), (t341), (t342), (t343), (t344), (.slice Ao27 t344.length co27), rfx, H', ⟨by have := HK1.out; omega⟩, ⟨by (with_reducible repeat (first | apply Kd.R_alloc | apply Kd.R_drewN | apply Kd.R_drew)); exact Kd.R_mono (Kd.R_far (p := ⟨gb333, 1, none⟩) (Kd.R_far (p := ⟨gb333, 0, none⟩) (Kd.R_far (p := ⟨gb348, 1, none⟩) (Kd.R_far (p := ⟨gb348, 0, none⟩) (Kd.R_types (Kd.R_types HO346.out BK348.out (by decide)) BK333.out (by decide)) (fun _ hk => hk.1.2) (.int .i64 t343)) (fun _ hk => hk.1.2) (.slice Ao27 t344.length co27)) (fun _ hk => hk.2) (.int .i64 t343)) (fun _ hk => hk.2) (.slice Ao27 t344.length co27)) (fun _ hk => trivial)⟩, ⟨by (with_reducible repeat (first | refine blk_drewN ?_ _ | refine blk_drew ?_ | refine blk_alloc ?_ _)); refine blk_far ?_ NB326_333.out _; (with_reducible repeat (first | refine blk_drewN ?_ _ | refine blk_drew ?_ | refine blk_alloc ?_ _)); refine blk_far ?_ NB326_333.out _; (with_reducible repeat (first | refine blk_drewN ?_ _ | refine blk_drew ?_ | refine blk_alloc ?_ _)); refine blk_far ?_ NB326_348.out _; (with_reducible repeat (first | refine blk_drewN ?_ _ | refine blk_drew ?_ | refine blk_alloc ?_ _)); refine blk_far ?_ NB326_348.out _; exact pkK BK326.out⟩, ⟨by (with_reducible repeat (first | refine blk_drewN ?_ _ | refine blk_drew ?_ | refine blk_alloc ?_ _)); refine blk_put (cs := #[.int .i64 t343, .slice Ao19 x334001_1.length co19]) ?_ 1 _ rfl; (with_reducible repeat (first | refine blk_drewN ?_ _ | refine blk_drew ?_ | refine blk_alloc ?_ _)); refine blk_put (cs := #[.int .i64 x334000_1, .slice Ao19 x334001_1.length co19]) ?_ 0 _ rfl; (with_reducible repeat (first | refine blk_drewN ?_ _ | refine blk_drew ?_ | refine blk_alloc ?_ _)); refine blk_far ?_ NB333_348.out _; (with_reducible repeat (first | refine blk_drewN ?_ _ | refine blk_drew ?_ | refine blk_alloc ?_ _)); refine blk_far ?_ NB333_348.out _; exact pkK BK333.out⟩, ⟨by repeat (first | (with_reducible first | exact HI0.out | apply IsS72.alloc | apply IsS72.drewN | apply IsS72.drew | apply IsS72.set_1 | apply IsS72.set_2 | refine IsS72.far ?_ NB0_326.out _ | refine IsS72.far ?_ NB0_333.out _ | refine IsS72.far ?_ NB0_348.out _) | exact HI0.out)⟩, ⟨pkH HK.out⟩, ⟨by repeat (first | (with_reducible first | exact HB.out | apply below_alloc | apply pw_below_drewN | apply below_drew1 | refine below_set ?_ (IsS72.ge HI0.out) | refine below_set ?_ GE326.out | refine below_set ?_ GE333.out | refine below_set ?_ GE348.out) | exact HB.out)⟩⟩
   ·rw [if_neg c15] at H
    have c15b0 : decide (x7_1 < t334) = false := decide_eq_false c15
    clear c15
    simp only [Option.some.injEq, Prod.mk.injEq] at H
    obtain ⟨rfl, rfl, rfl, rfl⟩ := H
    have hnb36 := NB333_326.out
    have hnc36 := NB326_333.out
    have hnb37 := NB333_0.out
    have hnc37 := NB0_333.out
    obtain ⟨hcz38_0, hcz38_1, hfz38_0, hfz38_1⟩ := bk2 BK333.out
    have hnb39 := NB326_0.out
    have hnc39 := NB0_326.out
    obtain ⟨hcz40_0, hcz40_1, hfz40_0, hfz40_1⟩ := bk2 BK326.out
    obtain ⟨Ao41, co41, eo41⟩ := Kd.R_slice HO_334001.out
    subst eo41
    go_wp2
    refine bodyPost_ret (results_cell_row rfl _ _ gb326 29 #[.int .i64 x334000_1, .slice Ao41 x334001_1.length co41] (0, 0) _ rfl (by (with_reducible repeat (first | refine blk_drewN ?_ _ | refine blk_drew ?_ | refine blk_alloc ?_ _)); refine blk_put (cs := #[.int .i64 x334000_1, .slice none 0 0]) ?_ 1 _ rfl; (with_reducible repeat (first | refine blk_drewN ?_ _ | refine blk_drew ?_ | refine blk_alloc ?_ _)); refine blk_put (cs := #[.int .i64 0, .slice none 0 0]) ?_ 0 _ rfl; exact pkK BK326.out) Try.underlying29 rfl (by kernel_rfl)) rfl ?_
    exact ⟨_, rfe, by (with_reducible repeat (first | apply Kd.R_alloc | apply Kd.R_drewN | apply Kd.R_drew)); exact Kd.R_mono (Kd.R_far (p := ⟨gb326, 1, none⟩) (Kd.R_far (p := ⟨gb326, 0, none⟩) (Kd.R_types HO_334001.out BK326.out (by decide)) (fun _ hk => hk.2) (.int .i64 x334000_1)) (fun _ hk => hk.2) (.slice Ao41 x334001_1.length co41)) (fun _ hk => trivial), by repeat (first | (with_reducible first | exact HI0.out | apply IsS72.alloc | apply IsS72.drewN | apply IsS72.drew | apply IsS72.set_1 | apply IsS72.set_2 | refine IsS72.far ?_ NB0_326.out _ | refine IsS72.far ?_ NB0_333.out _) | exact HI0.out), by repeat (first | (with_reducible first | exact HB.out | apply below_alloc | apply pw_below_drewN | apply below_drew1 | refine below_set ?_ (IsS72.ge HI0.out) | refine below_set ?_ GE326.out | refine below_set ?_ GE333.out) | exact HB.out), pkH HK.out⟩
end Go.Proofs.Ytfgjfheiekhmlaa.Z
