import Derived.Test.YtalehmhjddnmoaaZx0
import Derived.Test.YtalehmhjddnmoaaZx17
import Derived.Test.YtalehmhjddnmoaaZx19
import Derived.Test.YtalehmhjddnmoaaZx21
import Derived.Test.YtalehmhjddnmoaaZx22
namespace Go.Proofs.Ytalehmhjddnmoaa.Z
open Go.RowKit Go.Proofs.YtalehmhjddnmoaaW.PrintWords Go.Proofs.YtalehmhjddnmoaaW.PrintLast Go.Proofs.YtalehmhjddnmoaaW.PrintMore
attribute [local go_sem] max2_int min2_int max_two min_two max_three min_three max_four min_four   -- for this text's walks alone
set_option linter.unusedVariables false
set_option linter.unusedSimpArgs false
def spec_l7Change.j0 : Nat → List Int → Int → Int → Int → Int → Int → ByteArray → Option (Int × Int × Int × ByteArray × Int × Int)
 | 0, _, _, _, _, _, _, _ => none
 | k + 1, x1000, x1001, x1002, x425000, x425001, x425002, x425003 => (spec_l1Once.f x1000 x1001 x1002 12).bind fun bt433 => (if bt433.1 = true then ((spec_l1Below.f x1000 bt433.2.1 bt433.2.2 7).bind fun bt436 => (some (wrap64 (bt436.1 - 1), x425001, x425002, x425003, bt436.2.1, bt436.2.2))) else (some (x425000, x425001, x425002, x425003, bt433.2.1, bt433.2.2)))
def spec_l7Change.f (k : Nat) (s0_0 : List Int) (s0_1 : Int) (s0_2 : Int) : Option (Int × Int × Int × ByteArray × Int × Int) := (spec_l1Below.f s0_0 s0_1 s0_2 4).bind fun bt416 => ((spec_l1Msg.f s0_0 bt416.2.1 bt416.2.2).bind fun bt419 => ((spec_l1Once.f s0_0 bt419.2.2.2.1 bt419.2.2.2.2 10).bind fun bt425 => (if bt425.1 = true then ((spec_l1AnyMsg.f s0_0 bt425.2.1 bt425.2.2).bind fun bt428 => (spec_l7Change.j0 k s0_0 bt428.2.2.2.1 bt428.2.2.2.2 (wrap64 (1 + bt416.1)) bt428.1 bt428.2.1 bt428.2.2.1)) else (spec_l7Change.j0 k s0_0 bt425.2.1 bt425.2.2 (wrap64 (1 + bt416.1)) bt419.1 bt419.2.1 bt419.2.2.1))))
theorem spec_l7Change.mono_l : ∀ k, (∀ y0 y1 y2 y3 y4 y5 y6, LeO (spec_l7Change.j0 k y0 y1 y2 y3 y4 y5 y6) (spec_l7Change.j0 (k + 1) y0 y1 y2 y3 y4 y5 y6))
 | 0 => fun _ _ _ _ _ _ _ r h => by simp [spec_l7Change.j0] at h
 | k + 1 => by
  have ih0 := spec_l7Change.mono_l k
  ·intro y0 y1 y2 y3 y4 y5 y6
   unfold spec_l7Change.j0
   repeat' first
   | (with_reducible exact ih0 _ _ _ _ _ _ _)
   | (with_reducible exact LeO.refl _)
   | (with_reducible exact LeO.none _)
   | (with_reducible refine LeO.ite ?_ ?_)
   | (with_reducible refine LeO.bind ?_ (fun _ => ?_))
theorem spec_l7Change.mono : ∀ a0 a1 a2 k, LeO (spec_l7Change.f k a0 a1 a2) (spec_l7Change.f (k + 1) a0 a1 a2) := by
 intro a0 a1 a2 k
 have ih0 := spec_l7Change.mono_l k
 unfold spec_l7Change.f
 repeat' first
   | (with_reducible exact ih0 _ _ _ _ _ _ _)
   | (with_reducible exact LeO.refl _)
   | (with_reducible exact LeO.none _)
   | (with_reducible refine LeO.ite ?_ ?_)
   | (with_reducible refine LeO.bind ?_ (fun _ => ?_))
set_option maxHeartbeats 8000000 in
set_option maxRecDepth 100000 in
theorem spec_l7Change.calls (k : Nat) (g : Nat) (s0_0 : List Int) (s0_1 : Int) (s0_2 : Int) (r1 : Int) (r2 : Int) (r3 : Int) (r4 : ByteArray) (r5 : Int) (r6 : Int) (w0 w : World) (hI : IsS68 w0 w g s0_0 s0_1 s0_2) (hB : Below w0.heap.size w0 w) (h : spec_l7Change.f k s0_0 s0_1 s0_2 = some (r1, r2, r3, r4, r5, r6)) :
  Calls Try.prog 46 #[.pointer (some ⟨g, 0, none⟩)] w fun e w' => e = .returned (.agg #[.int .i64 r1, .int .i64 r2, .int .i64 r3, .string r4]) ∧ IsS68 w0 w' g s0_0 r5 r6 ∧ Below w0.heap.size w0 w' ∧ KeepBut w w' g none := by
 have hu45 := Try.underlying45
 have hu27 := Try.underlying27
 have HI0 := am hI
 have HK := am (KeepBut.refl w g none)
 have HL := am hB.size
 clear hI
 have HW0 := am hB.size
 have HB := am hB
 clear hB
 have H : ((spec_l1Below.f s0_0 s0_1 s0_2 4).bind fun bt416 => ((spec_l1Msg.f s0_0 bt416.2.1 bt416.2.2).bind fun bt419 => ((spec_l1Once.f s0_0 bt419.2.2.2.1 bt419.2.2.2.2 10).bind fun bt425 => (if bt425.1 = true then ((spec_l1AnyMsg.f s0_0 bt425.2.1 bt425.2.2).bind fun bt428 => (spec_l7Change.j0 k s0_0 bt428.2.2.2.1 bt428.2.2.2.2 (wrap64 (1 + bt416.1)) bt428.1 bt428.2.1 bt428.2.2.1)) else (spec_l7Change.j0 k s0_0 bt425.2.1 bt425.2.2 (wrap64 (1 + bt416.1)) bt419.1 bt419.2.1 bt419.2.2.1))))) = some (r1, r2, r3, r4, r5, r6) := h
 clear h
 replace H := Option.bind_eq_some_iff.mp H
 obtain ⟨⟨t416, t417, t418⟩, A20, H⟩ := H
 replace H : ((spec_l1Msg.f s0_0 t417 t418).bind fun bt419 => ((spec_l1Once.f s0_0 bt419.2.2.2.1 bt419.2.2.2.2 10).bind fun bt425 => (if bt425.1 = true then ((spec_l1AnyMsg.f s0_0 bt425.2.1 bt425.2.2).bind fun bt428 => (spec_l7Change.j0 k s0_0 bt428.2.2.2.1 bt428.2.2.2.2 (wrap64 (1 + t416)) bt428.1 bt428.2.1 bt428.2.2.1)) else (spec_l7Change.j0 k s0_0 bt425.2.1 bt425.2.2 (wrap64 (1 + t416)) bt419.1 bt419.2.1 bt419.2.2.1)))) = some (r1, r2, r3, r4, r5, r6) := H
 have A2 := am A20
 clear A20
 replace H := Option.bind_eq_some_iff.mp H
 obtain ⟨⟨t419, t420, t421, t422, t423⟩, A30, H⟩ := H
 replace H : ((spec_l1Once.f s0_0 t422 t423 10).bind fun bt425 => (if bt425.1 = true then ((spec_l1AnyMsg.f s0_0 bt425.2.1 bt425.2.2).bind fun bt428 => (spec_l7Change.j0 k s0_0 bt428.2.2.2.1 bt428.2.2.2.2 (wrap64 (1 + t416)) bt428.1 bt428.2.1 bt428.2.2.1)) else (spec_l7Change.j0 k s0_0 bt425.2.1 bt425.2.2 (wrap64 (1 + t416)) t419 t420 t421))) = some (r1, r2, r3, r4, r5, r6) := H
 have A3 := am A30
 clear A30
 replace H := Option.bind_eq_some_iff.mp H
 obtain ⟨⟨t425, t426, t427⟩, A40, H⟩ := H
 replace H : (if t425 = true then ((spec_l1AnyMsg.f s0_0 t426 t427).bind fun bt428 => (spec_l7Change.j0 k s0_0 bt428.2.2.2.1 bt428.2.2.2.2 (wrap64 (1 + t416)) bt428.1 bt428.2.1 bt428.2.2.1)) else (spec_l7Change.j0 k s0_0 t426 t427 (wrap64 (1 + t416)) t419 t420 t421)) = some (r1, r2, r3, r4, r5, r6) := H
 have A4 := am A40
 clear A40
 have HC5 := am H
 clear H
 go_enter Try.func46, Try.ntmps46
 go_upto_if 11 with (first | ((with_reducible refine gate_dst (N := 2) rfl ?_); refine box_event ?hg (N := 2) ?hd (cs := #[.int .i64 0, .int .i64 0, .int .i64 0, .string (⟨#[]⟩ : ByteArray)]) (t := 45) ?hr ?_; (case hd => rfl); (case hg => rfl); (case hr => first | (go_simp; done) | (go_simp; rfl)); intro gb415 hg w6 hbox hb; replace HB := am (below_step (by repeat (first | (with_reducible first | exact HB.out | apply below_alloc | apply pw_below_drewN | apply below_drew1 | refine below_set ?_ (IsS68.ge HI0.out)) | exact HB.out)) hb); have BK415 := am (hbox); have GW415 := am ((by rw [hg]; first | done | exact (keep_size (w := w) (g := g) (row := none) (pkH HK.out)) : w.heap.size ≤ gb415)); have GE415 := am ((Nat.le_trans HW0.out (by rw [hg]; first | done | exact (keep_size (w := w) (g := g) (row := none) (pkH HK.out)) : w.heap.size ≤ gb415) : w0.heap.size ≤ gb415)); replace HK := am (KeepBut.trans (pkH HK.out) (KeepBut.of_below hb g none) (.inl rfl)); have NB0_415 := am ((by rw [hg]; exact Nat.ne_of_lt (IsS68.lt (show IsS68 w0 _ g s0_0 s0_1 s0_2 from IsS68.pk HI0.out)) : g ≠ gb415)); have NB415_0 := am ((by rw [hg]; exact Nat.ne_of_gt (IsS68.lt (show IsS68 w0 _ g s0_0 s0_1 s0_2 from IsS68.pk HI0.out)) : gb415 ≠ g)); replace HI0 := am (IsS68.below (IsS68.pk HI0.out) hb); clear hb hbox hg) | ((with_reducible refine gate_callee (f := 50) rfl ?_); refine goesL_ (some 5) rfl rfl Try.func50 (by kernel_rfl) rfl #[.pointer (some ⟨g, 0, none⟩), .int .i64 4] rfl mpx ?_; (with_reducible refine (spec_l1Below.calls g s0_0 s0_1 s0_2 4 t416 t417 t418 w0 _ ?side1 ?side2 A2.out).mono ?_); (case side1 => repeat (first | (with_reducible first | exact HI0.out | apply IsS68.alloc | apply IsS68.drewN | apply IsS68.drew | apply IsS68.set_1 | apply IsS68.set_2 | refine IsS68.far ?_ NB0_415.out _) | exact HI0.out)); (case side2 => repeat (first | (with_reducible first | exact HB.out | apply below_alloc | apply pw_below_drewN | apply below_drew1 | refine below_set ?_ (IsS68.ge HI0.out) | refine below_set ?_ GE415.out) | exact HB.out)); rintro e w7 ⟨rfl, hi, hb, hk⟩; refine ⟨_, rfl, ?_⟩; replace BK415 := am (KeepBut.blk hk (g' := gb415) (o := .cells #[.int .i64 0, .int .i64 0, .int .i64 0, .string (⟨#[]⟩ : ByteArray)] 45 (0, 0)) (pkK BK415.out) NB415_0.out (by simp)); replace HK := am (KeepBut.trans (pkH HK.out) hk (.inl rfl)); replace HB := am (hb); replace HI0 := am (hi); (try clear hb hk hi)) | ((with_reducible refine gate_callee (f := 45) rfl ?_); refine goesL_ (some 8) rfl rfl Try.func45 (by kernel_rfl) rfl #[.pointer (some ⟨g, 0, none⟩)] rfl mpx ?_; (with_reducible refine (spec_l1Msg.calls g s0_0 t417 t418 t419 t420 t421 t422 t423 w0 _ ?side1 ?side2 A3.out).mono ?_); (case side1 => repeat (first | (with_reducible first | exact HI0.out | apply IsS68.alloc | apply IsS68.drewN | apply IsS68.drew | apply IsS68.set_1 | apply IsS68.set_2 | refine IsS68.far ?_ NB0_415.out _) | exact HI0.out)); (case side2 => repeat (first | (with_reducible first | exact HB.out | apply below_alloc | apply pw_below_drewN | apply below_drew1 | refine below_set ?_ (IsS68.ge HI0.out) | refine below_set ?_ GE415.out) | exact HB.out)); rintro e w8 ⟨rfl, hi, hb, hk⟩; refine ⟨_, rfl, ?_⟩; replace BK415 := am (KeepBut.blk hk (g' := gb415) (o := .cells #[.int .i64 0, .int .i64 0, .int .i64 0, .string (⟨#[]⟩ : ByteArray)] 45 (0, 0)) (pkK BK415.out) NB415_0.out (by simp)); replace HK := am (KeepBut.trans (pkH HK.out) hk (.inl rfl)); replace HB := am (hb); replace HI0 := am (hi); (try clear hb hk hi)) | ((with_reducible refine gate_dst (N := 3) rfl ?_); refine box_event ?hg (N := 3) ?hd (cs := #[.int .i64 0, .int .i64 0, .int .i64 0, .string (⟨#[]⟩ : ByteArray)]) (t := 45) ?hr ?_; (case hd => rfl); (case hg => rfl); (case hr => first | (go_simp; done) | (go_simp; rfl)); intro gb424 hg w9 hbox hb; replace HB := am (below_step (by repeat (first | (with_reducible first | exact HB.out | apply below_alloc | apply pw_below_drewN | apply below_drew1 | refine below_set ?_ (IsS68.ge HI0.out) | refine below_set ?_ GE415.out) | exact HB.out)) hb); have BK424 := am (hbox); have GW424 := am ((by rw [hg]; first | done | exact (keep_size (w := w) (g := g) (row := none) (pkH HK.out)) : w.heap.size ≤ gb424)); have GE424 := am ((Nat.le_trans HW0.out (by rw [hg]; first | done | exact (keep_size (w := w) (g := g) (row := none) (pkH HK.out)) : w.heap.size ≤ gb424) : w0.heap.size ≤ gb424)); replace HK := am (KeepBut.trans (pkH HK.out) (KeepBut.of_below hb g none) (.inl rfl)); have NB415_424 := am ((by rw [hg]; exact Nat.ne_of_lt (blk_lt (g := gb415) (o := .cells #[.int .i64 0, .int .i64 0, .int .i64 0, .string (⟨#[]⟩ : ByteArray)] 45 (0, 0)) (pkK BK415.out)) : gb415 ≠ gb424)); have NB424_415 := am ((by rw [hg]; exact Nat.ne_of_gt (blk_lt (g := gb415) (o := .cells #[.int .i64 0, .int .i64 0, .int .i64 0, .string (⟨#[]⟩ : ByteArray)] 45 (0, 0)) (pkK BK415.out)) : gb424 ≠ gb415)); replace BK415 := am (blk_below (pkK BK415.out) hb); have NB0_424 := am ((by rw [hg]; exact Nat.ne_of_lt (IsS68.lt (show IsS68 w0 _ g s0_0 t422 t423 from IsS68.pk HI0.out)) : g ≠ gb424)); have NB424_0 := am ((by rw [hg]; exact Nat.ne_of_gt (IsS68.lt (show IsS68 w0 _ g s0_0 t422 t423 from IsS68.pk HI0.out)) : gb424 ≠ g)); replace HI0 := am (IsS68.below (IsS68.pk HI0.out) hb); clear hb hbox hg; have hnb10 := NB424_415.out; have hnc10 := NB415_424.out; have hnb11 := NB424_0.out; have hnc11 := NB0_424.out; obtain ⟨hcz12_0, hcz12_1, hcz12_2, hcz12_3, hfz12_0, hfz12_1, hfz12_2, hfz12_3⟩ := bk4 BK424.out) | ((with_reducible refine gate_callee (f := 43) rfl ?_); refine goesL_ (some 11) rfl rfl Try.func43 (by kernel_rfl) rfl #[.pointer (some ⟨g, 0, none⟩), .int .i64 10] rfl mpx ?_; (with_reducible refine (spec_l1Once.calls g s0_0 t422 t423 10 t425 t426 t427 w0 _ ?side1 ?side2 A4.out).mono ?_); (case side1 => repeat (first | (with_reducible first | exact HI0.out | apply IsS68.alloc | apply IsS68.drewN | apply IsS68.drew | apply IsS68.set_1 | apply IsS68.set_2 | refine IsS68.far ?_ NB0_415.out _ | refine IsS68.far ?_ NB0_424.out _) | exact HI0.out)); (case side2 => repeat (first | (with_reducible first | exact HB.out | apply below_alloc | apply pw_below_drewN | apply below_drew1 | refine below_set ?_ (IsS68.ge HI0.out) | refine below_set ?_ GE415.out | refine below_set ?_ GE424.out) | exact HB.out)); rintro e w13 ⟨rfl, hi, hb, hk⟩; refine ⟨_, rfl, ?_⟩; replace BK415 := am (KeepBut.blk hk (g' := gb415) (o := .cells #[.int .i64 0, .int .i64 0, .int .i64 0, .string (⟨#[]⟩ : ByteArray)] 45 (0, 0)) (by (with_reducible repeat (first | refine blk_drewN ?_ _ | refine blk_drew ?_ | refine blk_alloc ?_ _)); refine blk_far ?_ NB415_424.out _; (with_reducible repeat (first | refine blk_drewN ?_ _ | refine blk_drew ?_ | refine blk_alloc ?_ _)); refine blk_far ?_ NB415_424.out _; (with_reducible repeat (first | refine blk_drewN ?_ _ | refine blk_drew ?_ | refine blk_alloc ?_ _)); refine blk_far ?_ NB415_424.out _; (with_reducible repeat (first | refine blk_drewN ?_ _ | refine blk_drew ?_ | refine blk_alloc ?_ _)); refine blk_far ?_ NB415_424.out _; exact pkK BK415.out) NB415_0.out (by simp)); replace BK424 := am (KeepBut.blk hk (g' := gb424) (o := .cells #[.int .i64 (wrap64 (1 + t416)), .int .i64 t419, .int .i64 t420, .string t421] 45 (0, 0)) (by (with_reducible repeat (first | refine blk_drewN ?_ _ | refine blk_drew ?_ | refine blk_alloc ?_ _)); refine blk_put (cs := #[.int .i64 (wrap64 (1 + t416)), .int .i64 t419, .int .i64 t420, .string (⟨#[]⟩ : ByteArray)]) ?_ 3 _ rfl; (with_reducible repeat (first | refine blk_drewN ?_ _ | refine blk_drew ?_ | refine blk_alloc ?_ _)); refine blk_put (cs := #[.int .i64 (wrap64 (1 + t416)), .int .i64 t419, .int .i64 0, .string (⟨#[]⟩ : ByteArray)]) ?_ 2 _ rfl; (with_reducible repeat (first | refine blk_drewN ?_ _ | refine blk_drew ?_ | refine blk_alloc ?_ _)); refine blk_put (cs := #[.int .i64 (wrap64 (1 + t416)), .int .i64 0, .int .i64 0, .string (⟨#[]⟩ : ByteArray)]) ?_ 1 _ rfl; (with_reducible repeat (first | refine blk_drewN ?_ _ | refine blk_drew ?_ | refine blk_alloc ?_ _)); refine blk_put (cs := #[.int .i64 0, .int .i64 0, .int .i64 0, .string (⟨#[]⟩ : ByteArray)]) ?_ 0 _ rfl; exact pkK BK424.out) NB424_0.out (by simp)); replace HK := am (KeepBut.trans (pkH HK.out) hk (.inl rfl)); replace HB := am (hb); replace HI0 := am (hi); (try clear hb hk hi)))
 (try simp only [Act.put, List.setIfInBounds_toArray, List.set_cons_zero, List.set_cons_succ])
 go_cut [] (fun wc => ∃ (kq : Nat) (x1001_4 : Int) (x1002_4 : Int) (x425001_4 : Int) (x425002_4 : Int) (x425003_4 : ByteArray), Aside0 (spec_l7Change.j0 kq s0_0 x1001_4 x1002_4 (wrap64 (1 + t416)) x425001_4 x425002_4 x425003_4 = some (r1, r2, r3, r4, r5, r6)) ∧ Aside0 (kq ≤ k) ∧ Aside0 (wc.heap[gb415]? = some (.cells #[.int .i64 0, .int .i64 0, .int .i64 0, .string (⟨#[]⟩ : ByteArray)] 45 (0, 0))) ∧ Aside0 (wc.heap[gb424]? = some (.cells #[.int .i64 (wrap64 (1 + t416)), .int .i64 x425001_4, .int .i64 x425002_4, .string x425003_4] 45 (0, 0))) ∧ Aside0 (IsS68 w0 wc g s0_0 x1001_4 x1002_4) ∧ Aside0 (KeepBut w wc g none) ∧ Aside0 (Below w0.heap.size w0 wc))
 case first =>
  have H := HC5.out
  clear HC5
  by_cases c14 : t425 = true
  ·subst c14
   replace H : ((spec_l1AnyMsg.f s0_0 t426 t427).bind fun bt428 => (spec_l7Change.j0 k s0_0 bt428.2.2.2.1 bt428.2.2.2.2 (wrap64 (1 + t416)) bt428.1 bt428.2.1 bt428.2.2.1)) = some (r1, r2, r3, r4, r5, r6) := by rw [if_pos rfl] at H; exact H
   replace H := Option.bind_eq_some_iff.mp H
   obtain ⟨⟨t428, t429, t430, t431, t432⟩, A150, H⟩ := H
   replace H : (spec_l7Change.j0 k s0_0 t431 t432 (wrap64 (1 + t416)) t428 t429 t430) = some (r1, r2, r3, r4, r5, r6) := H
   have A15 := am A150
   clear A150
   have H' := am H
   clear H
   go_wp2_with (first | ((with_reducible refine gate_callee (f := 42) rfl ?_); refine goesL_ (some 13) rfl rfl Try.func42 (by kernel_rfl) rfl #[.pointer (some ⟨g, 0, none⟩)] rfl mpx ?_; (with_reducible refine (spec_l1AnyMsg.calls g s0_0 t426 t427 t428 t429 t430 t431 t432 w0 _ ?side1 ?side2 A15.out).mono ?_); (case side1 => repeat (first | (with_reducible first | exact HI0.out | apply IsS68.alloc | apply IsS68.drewN | apply IsS68.drew | apply IsS68.set_1 | apply IsS68.set_2 | refine IsS68.far ?_ NB0_415.out _ | refine IsS68.far ?_ NB0_424.out _) | exact HI0.out)); (case side2 => repeat (first | (with_reducible first | exact HB.out | apply below_alloc | apply pw_below_drewN | apply below_drew1 | refine below_set ?_ (IsS68.ge HI0.out) | refine below_set ?_ GE415.out | refine below_set ?_ GE424.out) | exact HB.out)); rintro e w16 ⟨rfl, hi, hb, hk⟩; refine ⟨_, rfl, ?_⟩; replace BK415 := am (KeepBut.blk hk (g' := gb415) (o := .cells #[.int .i64 0, .int .i64 0, .int .i64 0, .string (⟨#[]⟩ : ByteArray)] 45 (0, 0)) (pkK BK415.out) NB415_0.out (by simp)); replace BK424 := am (KeepBut.blk hk (g' := gb424) (o := .cells #[.int .i64 (wrap64 (1 + t416)), .int .i64 t419, .int .i64 t420, .string t421] 45 (0, 0)) (pkK BK424.out) NB424_0.out (by simp)); replace HK := am (KeepBut.trans (pkH HK.out) hk (.inl rfl)); replace HB := am (hb); replace HI0 := am (hi); (try clear hb hk hi); have hnb17 := NB424_415.out; have hnc17 := NB415_424.out; have hnb18 := NB424_0.out; have hnc18 := NB0_424.out; obtain ⟨hcz19_0, hcz19_1, hcz19_2, hcz19_3, hfz19_0, hfz19_1, hfz19_2, hfz19_3⟩ := bk4 BK424.out))
   go_meet
   case rel => exact ⟨_, (t431), (t432), (t428), (t429), (t430), H', ⟨by first | omega | exact Nat.le_refl _⟩, ⟨by (with_reducible repeat (first | refine blk_drewN ?_ _ | refine blk_drew ?_ | refine blk_alloc ?_ _)); refine blk_far ?_ NB415_424.out _; (with_reducible repeat (first | refine blk_drewN ?_ _ | refine blk_drew ?_ | refine blk_alloc ?_ _)); refine blk_far ?_ NB415_424.out _; (with_reducible repeat (first | refine blk_drewN ?_ _ | refine blk_drew ?_ | refine blk_alloc ?_ _)); refine blk_far ?_ NB415_424.out _; exact pkK BK415.out⟩, ⟨by (with_reducible repeat (first | refine blk_drewN ?_ _ | refine blk_drew ?_ | refine blk_alloc ?_ _)); refine blk_put (cs := #[.int .i64 (wrap64 (1 + t416)), .int .i64 t428, .int .i64 t429, .string t421]) ?_ 3 _ rfl; (with_reducible repeat (first | refine blk_drewN ?_ _ | refine blk_drew ?_ | refine blk_alloc ?_ _)); refine blk_put (cs := #[.int .i64 (wrap64 (1 + t416)), .int .i64 t428, .int .i64 t420, .string t421]) ?_ 2 _ rfl; (with_reducible repeat (first | refine blk_drewN ?_ _ | refine blk_drew ?_ | refine blk_alloc ?_ _)); refine blk_put (cs := #[.int .i64 (wrap64 (1 + t416)), .int .i64 t419, .int .i64 t420, .string t421]) ?_ 1 _ rfl; exact pkK BK424.out⟩, ⟨by repeat (first | (with_reducible first | exact HI0.out | apply IsS68.alloc | apply IsS68.drewN | apply IsS68.drew | apply IsS68.set_1 | apply IsS68.set_2 | refine IsS68.far ?_ NB0_415.out _ | refine IsS68.far ?_ NB0_424.out _) | exact HI0.out)⟩, ⟨pkH HK.out⟩, ⟨by repeat (first | (with_reducible first | exact HB.out | apply below_alloc | apply pw_below_drewN | apply below_drew1 | refine below_set ?_ (IsS68.ge HI0.out) | refine below_set ?_ GE415.out | refine below_set ?_ GE424.out) | exact HB.out)⟩⟩
  ·replace c14 := Bool.eq_false_iff.mpr c14
   subst c14
   replace H : (spec_l7Change.j0 k s0_0 t426 t427 (wrap64 (1 + t416)) t419 t420 t421) = some (r1, r2, r3, r4, r5, r6) := by rw [if_neg (show ¬ (false = true) by decide)] at H; exact H
   have H' := am H
   clear H
   go_wp2
   go_meet
   case rel => exact ⟨_, (t426), (t427), (t419), (t420), (t421), H', ⟨by first | omega | exact Nat.le_refl _⟩, ⟨pkK BK415.out⟩, ⟨pkK BK424.out⟩, ⟨by repeat (first | (with_reducible first | exact HI0.out | apply IsS68.alloc | apply IsS68.drewN | apply IsS68.drew | apply IsS68.set_1 | apply IsS68.set_2 | refine IsS68.far ?_ NB0_415.out _ | refine IsS68.far ?_ NB0_424.out _) | exact HI0.out)⟩, ⟨pkH HK.out⟩, ⟨by repeat (first | (with_reducible first | exact HB.out | apply below_alloc | apply pw_below_drewN | apply below_drew1 | refine below_set ?_ (IsS68.ge HI0.out) | refine below_set ?_ GE415.out | refine below_set ?_ GE424.out) | exact HB.out)⟩⟩
 case rest =>
  clear HC5
  try clear c1
  try clear p2
  try clear c4
  try clear c5
  try clear p6
  try clear c10
  try clear c11
  try clear c14
  try clear c17
  try clear c18
  try clear hcz12_0
  try clear hcz12_1
  try clear hcz12_2
  try clear hcz12_3
  try clear hcz19_0
  try clear hcz19_1
  try clear hcz19_2
  try clear hcz19_3
  try clear hfz12_0
  try clear hfz12_1
  try clear hfz12_2
  try clear hfz12_3
  try clear hfz19_0
  try clear hfz19_1
  try clear hfz19_2
  try clear hfz19_3
  obtain ⟨kq, x1001_4, x1002_4, x425001_4, x425002_4, x425003_4, HA, HJ4, BK415, BK424, HI0, HK, HB⟩ := hcut
  cases kq with
  | zero => exact absurd HA.out (by simp [spec_l7Change.j0])
  | succ kj4 =>
   have H := HA.out
   clear HA
   simp only [spec_l7Change.j0] at H
   replace H := Option.bind_eq_some_iff.mp H
   obtain ⟨⟨t433, t434, t435⟩, A200, H⟩ := H
   replace H : (if t433 = true then ((spec_l1Below.f s0_0 t434 t435 7).bind fun bt436 => (some (wrap64 (bt436.1 - 1), x425001_4, x425002_4, x425003_4, bt436.2.1, bt436.2.2))) else (some ((wrap64 (1 + t416)), x425001_4, x425002_4, x425003_4, t434, t435))) = some (r1, r2, r3, r4, r5, r6) := H
   have A20 := am A200
   clear A200
   by_cases c21 : t433 = true
   ·subst c21
    replace H : ((spec_l1Below.f s0_0 t434 t435 7).bind fun bt436 => (some (wrap64 (bt436.1 - 1), x425001_4, x425002_4, x425003_4, bt436.2.1, bt436.2.2))) = some (r1, r2, r3, r4, r5, r6) := by rw [if_pos rfl] at H; exact H
    replace H := Option.bind_eq_some_iff.mp H
    obtain ⟨⟨t436, t437, t438⟩, A220, H⟩ := H
    replace H : (some (wrap64 (t436 - 1), x425001_4, x425002_4, x425003_4, t437, t438)) = some (r1, r2, r3, r4, r5, r6) := H
    have A22 := am A220
    clear A220
    simp only [Option.some.injEq, Prod.mk.injEq] at H
    obtain ⟨rfl, rfl, rfl, rfl, rfl, rfl⟩ := H
    go_wp2_with (first | ((with_reducible refine gate_callee (f := 43) rfl ?_); refine goesL_ (some 16) rfl rfl Try.func43 (by kernel_rfl) rfl #[.pointer (some ⟨g, 0, none⟩), .int .i64 12] rfl mpx ?_; (with_reducible refine (spec_l1Once.calls g s0_0 x1001_4 x1002_4 12 true t434 t435 w0 _ ?side1 ?side2 A20.out).mono ?_); (case side1 => repeat (first | (with_reducible first | exact HI0.out | apply IsS68.alloc | apply IsS68.drewN | apply IsS68.drew | apply IsS68.set_1 | apply IsS68.set_2 | refine IsS68.far ?_ NB0_415.out _ | refine IsS68.far ?_ NB0_424.out _) | exact HI0.out)); (case side2 => repeat (first | (with_reducible first | exact HB.out | apply below_alloc | apply pw_below_drewN | apply below_drew1 | refine below_set ?_ (IsS68.ge HI0.out) | refine below_set ?_ GE415.out | refine below_set ?_ GE424.out) | exact HB.out)); rintro e w23 ⟨rfl, hi, hb, hk⟩; refine ⟨_, rfl, ?_⟩; replace BK415 := am (KeepBut.blk hk (g' := gb415) (o := .cells #[.int .i64 0, .int .i64 0, .int .i64 0, .string (⟨#[]⟩ : ByteArray)] 45 (0, 0)) (pkK BK415.out) NB415_0.out (by simp)); replace BK424 := am (KeepBut.blk hk (g' := gb424) (o := .cells #[.int .i64 (wrap64 (1 + t416)), .int .i64 x425001_4, .int .i64 x425002_4, .string x425003_4] 45 (0, 0)) (pkK BK424.out) NB424_0.out (by simp)); replace HK := am (KeepBut.trans (pkH HK.out) hk (.inl rfl)); replace HB := am (hb); replace HI0 := am (hi); (try clear hb hk hi)) | ((with_reducible refine gate_callee (f := 50) rfl ?_); refine goesL_ (some 18) rfl rfl Try.func50 (by kernel_rfl) rfl #[.pointer (some ⟨g, 0, none⟩), .int .i64 7] rfl mpx ?_; (with_reducible refine (spec_l1Below.calls g s0_0 t434 t435 7 t436 t437 t438 w0 _ ?side1 ?side2 A22.out).mono ?_); (case side1 => repeat (first | (with_reducible first | exact HI0.out | apply IsS68.alloc | apply IsS68.drewN | apply IsS68.drew | apply IsS68.set_1 | apply IsS68.set_2 | refine IsS68.far ?_ NB0_415.out _ | refine IsS68.far ?_ NB0_424.out _) | exact HI0.out)); (case side2 => repeat (first | (with_reducible first | exact HB.out | apply below_alloc | apply pw_below_drewN | apply below_drew1 | refine below_set ?_ (IsS68.ge HI0.out) | refine below_set ?_ GE415.out | refine below_set ?_ GE424.out) | exact HB.out)); rintro e w24 ⟨rfl, hi, hb, hk⟩; refine ⟨_, rfl, ?_⟩; replace BK415 := am (KeepBut.blk hk (g' := gb415) (o := .cells #[.int .i64 0, .int .i64 0, .int .i64 0, .string (⟨#[]⟩ : ByteArray)] 45 (0, 0)) (pkK BK415.out) NB415_0.out (by simp)); replace BK424 := am (KeepBut.blk hk (g' := gb424) (o := .cells #[.int .i64 (wrap64 (1 + t416)), .int .i64 x425001_4, .int .i64 x425002_4, .string x425003_4] 45 (0, 0)) (pkK BK424.out) NB424_0.out (by simp)); replace HK := am (KeepBut.trans (pkH HK.out) hk (.inl rfl)); replace HB := am (hb); replace HI0 := am (hi); (try clear hb hk hi); have hnb25 := NB424_415.out; have hnc25 := NB415_424.out; have hnb26 := NB424_0.out; have hnc26 := NB0_424.out; obtain ⟨hcz27_0, hcz27_1, hcz27_2, hcz27_3, hfz27_0, hfz27_1, hfz27_2, hfz27_3⟩ := bk4 BK424.out; have hnb28 := NB415_0.out; have hnc28 := NB0_415.out; obtain ⟨hcz29_0, hcz29_1, hcz29_2, hcz29_3, hfz29_0, hfz29_1, hfz29_2, hfz29_3⟩ := bk4 BK415.out))
    refine bodyPost_ret (results_cell_row rfl _ _ gb415 45 #[.int .i64 (wrap64 (t436 - 1)), .int .i64 x425001_4, .int .i64 x425002_4, .string x425003_4] (0, 0) _ rfl (by (with_reducible repeat (first | refine blk_drewN ?_ _ | refine blk_drew ?_ | refine blk_alloc ?_ _)); refine blk_put (cs := #[.int .i64 (wrap64 (t436 - 1)), .int .i64 x425001_4, .int .i64 x425002_4, .string (⟨#[]⟩ : ByteArray)]) ?_ 3 _ rfl; (with_reducible repeat (first | refine blk_drewN ?_ _ | refine blk_drew ?_ | refine blk_alloc ?_ _)); refine blk_put (cs := #[.int .i64 (wrap64 (t436 - 1)), .int .i64 x425001_4, .int .i64 0, .string (⟨#[]⟩ : ByteArray)]) ?_ 2 _ rfl; (with_reducible repeat (first | refine blk_drewN ?_ _ | refine blk_drew ?_ | refine blk_alloc ?_ _)); refine blk_put (cs := #[.int .i64 (wrap64 (t436 - 1)), .int .i64 0, .int .i64 0, .string (⟨#[]⟩ : ByteArray)]) ?_ 1 _ rfl; (with_reducible repeat (first | refine blk_drewN ?_ _ | refine blk_drew ?_ | refine blk_alloc ?_ _)); refine blk_put (cs := #[.int .i64 0, .int .i64 0, .int .i64 0, .string (⟨#[]⟩ : ByteArray)]) ?_ 0 _ rfl; (with_reducible repeat (first | refine blk_drewN ?_ _ | refine blk_drew ?_ | refine blk_alloc ?_ _)); refine blk_far ?_ NB415_424.out _; exact pkK BK415.out) Try.underlying45 rfl (by kernel_rfl)) rfl ?_
    exact ⟨rfe, by repeat (first | (with_reducible first | exact HI0.out | apply IsS68.alloc | apply IsS68.drewN | apply IsS68.drew | apply IsS68.set_1 | apply IsS68.set_2 | refine IsS68.far ?_ NB0_415.out _ | refine IsS68.far ?_ NB0_424.out _) | exact HI0.out), by repeat (first | (with_reducible first | exact HB.out | apply below_alloc | apply pw_below_drewN | apply below_drew1 | refine below_set ?_ (IsS68.ge HI0.out) | refine below_set ?_ GE415.out | refine below_set ?_ GE424.out) | exact HB.out), pkH HK.out⟩
   ·replace c21 := Bool.eq_false_iff.mpr c21
    subst c21
    replace H : (some ((wrap64 (1 + t416)), x425001_4, x425002_4, x425003_4, t434, t435)) = some (r1, r2, r3, r4, r5, r6) := by rw [if_neg (show ¬ (false = true) by decide)] at H; exact H
    simp only [Option.some.injEq, Prod.mk.injEq] at H
    obtain ⟨rfl, rfl, rfl, rfl, rfl, rfl⟩ := H
    go_wp2_with (first | ((with_reducible refine gate_callee (f := 43) rfl ?_); refine goesL_ (some 16) rfl rfl Try.func43 (by kernel_rfl) rfl #[.pointer (some ⟨g, 0, none⟩), .int .i64 12] rfl mpx ?_; (with_reducible refine (spec_l1Once.calls g s0_0 x1001_4 x1002_4 12 false t434 t435 w0 _ ?side1 ?side2 A20.out).mono ?_); (case side1 => repeat (first | (with_reducible first | exact HI0.out | apply IsS68.alloc | apply IsS68.drewN | apply IsS68.drew | apply IsS68.set_1 | apply IsS68.set_2 | refine IsS68.far ?_ NB0_415.out _ | refine IsS68.far ?_ NB0_424.out _) | exact HI0.out)); (case side2 => repeat (first | (with_reducible first | exact HB.out | apply below_alloc | apply pw_below_drewN | apply below_drew1 | refine below_set ?_ (IsS68.ge HI0.out) | refine below_set ?_ GE415.out | refine below_set ?_ GE424.out) | exact HB.out)); rintro e w30 ⟨rfl, hi, hb, hk⟩; refine ⟨_, rfl, ?_⟩; replace BK415 := am (KeepBut.blk hk (g' := gb415) (o := .cells #[.int .i64 0, .int .i64 0, .int .i64 0, .string (⟨#[]⟩ : ByteArray)] 45 (0, 0)) (pkK BK415.out) NB415_0.out (by simp)); replace BK424 := am (KeepBut.blk hk (g' := gb424) (o := .cells #[.int .i64 (wrap64 (1 + t416)), .int .i64 x425001_4, .int .i64 x425002_4, .string x425003_4] 45 (0, 0)) (pkK BK424.out) NB424_0.out (by simp)); replace HK := am (KeepBut.trans (pkH HK.out) hk (.inl rfl)); replace HB := am (hb); replace HI0 := am (hi); (try clear hb hk hi); have hnb31 := NB424_415.out; have hnc31 := NB415_424.out; have hnb32 := NB424_0.out; have hnc32 := NB0_424.out; obtain ⟨hcz33_0, hcz33_1, hcz33_2, hcz33_3, hfz33_0, hfz33_1, hfz33_2, hfz33_3⟩ := bk4 BK424.out; have hnb34 := NB415_0.out; have hnc34 := NB0_415.out; obtain ⟨hcz35_0, hcz35_1, hcz35_2, hcz35_3, hfz35_0, hfz35_1, hfz35_2, hfz35_3⟩ := bk4 BK415.out))
    refine bodyPost_ret (results_cell_row rfl _ _ gb415 45 #[.int .i64 (wrap64 (1 + t416)), .int .i64 x425001_4, .int .i64 x425002_4, .string x425003_4] (0, 0) _ rfl (by (with_reducible repeat (first | refine blk_drewN ?_ _ | refine blk_drew ?_ | refine blk_alloc ?_ _)); refine blk_put (cs := #[.int .i64 (wrap64 (1 + t416)), .int .i64 x425001_4, .int .i64 x425002_4, .string (⟨#[]⟩ : ByteArray)]) ?_ 3 _ rfl; (with_reducible repeat (first | refine blk_drewN ?_ _ | refine blk_drew ?_ | refine blk_alloc ?_ _)); refine blk_put (cs := #[.int .i64 (wrap64 (1 + t416)), .int .i64 x425001_4, .int .i64 0, .string (⟨#[]⟩ : ByteArray)]) ?_ 2 _ rfl; (with_reducible repeat (first | refine blk_drewN ?_ _ | refine blk_drew ?_ | refine blk_alloc ?_ _)); refine blk_put (cs := #[.int .i64 (wrap64 (1 + t416)), .int .i64 0, .int .i64 0, .string (⟨#[]⟩ : ByteArray)]) ?_ 1 _ rfl; (with_reducible repeat (first | refine blk_drewN ?_ _ | refine blk_drew ?_ | refine blk_alloc ?_ _)); refine blk_put (cs := #[.int .i64 0, .int .i64 0, .int .i64 0, .string (⟨#[]⟩ : ByteArray)]) ?_ 0 _ rfl; exact pkK BK415.out) Try.underlying45 rfl (by kernel_rfl)) rfl ?_
    exact ⟨rfe, by repeat (first | (with_reducible first | exact HI0.out | apply IsS68.alloc | apply IsS68.drewN | apply IsS68.drew | apply IsS68.set_1 | apply IsS68.set_2 | refine IsS68.far ?_ NB0_415.out _ | refine IsS68.far ?_ NB0_424.out _) | exact HI0.out), by repeat (first | (with_reducible first | exact HB.out | apply below_alloc | apply pw_below_drewN | apply below_drew1 | refine below_set ?_ (IsS68.ge HI0.out) | refine below_set ?_ GE415.out | refine below_set ?_ GE424.out) | exact HB.out), pkH HK.out⟩
end Go.Proofs.Ytalehmhjddnmoaa.Z
