/- The Go functions spec_l7Change as Lean functions, each with a proof that its code comes to just these answers; conditions: those of each theorem. -/
import Derived.Test.YtalehmhjddnmoaaZx0
import Derived.Test.YtalehmhjddnmoaaZx21
import Derived.Test.YtalehmhjddnmoaaZx23
import Derived.Test.YtalehmhjddnmoaaZx25
import Derived.Test.YtalehmhjddnmoaaZx26
namespace Go.Proofs.Ytalehmhjddnmoaa.Z
open Go.RowKit Go.Proofs.YtalehmhjddnmoaaW.PrintWords Go.Proofs.YtalehmhjddnmoaaW.PrintLast Go.Proofs.YtalehmhjddnmoaaW.PrintMore
attribute [local go_sem] max2_int min2_int max_two min_two max_three min_three max_four min_four   -- for this text's walks alone
set_option linter.unusedVariables false
set_option linter.unusedSimpArgs false
def spec_l7Change.j0 : Nat → List Int → Int → Int → Int → Int → Int → ByteArray → Option (Int × Int × Int × ByteArray × Int × Int)
 | 0, _, _, _, _, _, _, _ => none
 | k + 1, x1000, x1001, x1002, x463000, x463001, x463002, x463003 => (spec_l1Once.f x1000 x1001 x1002 12).bind fun bt471 => (if bt471.1 = true then ((spec_l1Below.f x1000 bt471.2.1 bt471.2.2 7).bind fun bt474 => (some (wrap64 (bt474.1 - 1), x463001, x463002, x463003, bt474.2.1, bt474.2.2))) else (some (x463000, x463001, x463002, x463003, bt471.2.1, bt471.2.2)))
def spec_l7Change.f (k : Nat) (s0_0 : List Int) (s0_1 : Int) (s0_2 : Int) : Option (Int × Int × Int × ByteArray × Int × Int) := (spec_l1Below.f s0_0 s0_1 s0_2 4).bind fun bt454 => ((spec_l1Msg.f s0_0 bt454.2.1 bt454.2.2).bind fun bt457 => ((spec_l1Once.f s0_0 bt457.2.2.2.1 bt457.2.2.2.2 10).bind fun bt463 => (if bt463.1 = true then ((spec_l1AnyMsg.f s0_0 bt463.2.1 bt463.2.2).bind fun bt466 => (spec_l7Change.j0 k s0_0 bt466.2.2.2.1 bt466.2.2.2.2 (wrap64 (1 + bt454.1)) bt466.1 bt466.2.1 bt466.2.2.1)) else (spec_l7Change.j0 k s0_0 bt463.2.1 bt463.2.2 (wrap64 (1 + bt454.1)) bt457.1 bt457.2.1 bt457.2.2.1))))
theorem spec_l7Change.mono_l : ∀ k, (∀ y0 y1 y2 y3 y4 y5 y6, LeO (spec_l7Change.j0 k y0 y1 y2 y3 y4 y5 y6) (spec_l7Change.j0 (k + 1) y0 y1 y2 y3 y4 y5 y6))
 | 0 => fun _ _ _ _ _ _ _ r h => by simp [spec_l7Change.j0] at h
 | k + 1 => by
  have ih0 := spec_l7Change.mono_l k
  ·intro y0 y1 y2 y3 y4 y5 y6
   unfold spec_l7Change.j0
   repeat' first
   | (with_reducible exact ih0 _ _ _ _ _ _ _)
   | (with_reducible exact LeO.refl _)
   | (with_reducible exact LeO.none _)
   | (with_reducible refine LeO.ite ?_ ?_)
   | (with_reducible refine LeO.bind ?_ (fun _ => ?_))
theorem spec_l7Change.mono : ∀ a0 a1 a2 k, LeO (spec_l7Change.f k a0 a1 a2) (spec_l7Change.f (k + 1) a0 a1 a2) := by
 intro a0 a1 a2 k
 have ih0 := spec_l7Change.mono_l k
 unfold spec_l7Change.f
 repeat' first
   | (with_reducible exact ih0 _ _ _ _ _ _ _)
   | (with_reducible exact LeO.refl _)
   | (with_reducible exact LeO.none _)
   | (with_reducible refine LeO.ite ?_ ?_)
   | (with_reducible refine LeO.bind ?_ (fun _ => ?_))
set_option maxHeartbeats 8000000 in
set_option maxRecDepth 100000 in
theorem spec_l7Change.calls (k : Nat) (g : Nat) (s0_0 : List Int) (s0_1 : Int) (s0_2 : Int) (r1 : Int) (r2 : Int) (r3 : Int) (r4 : ByteArray) (r5 : Int) (r6 : Int) (w0 w : World) (hI : IsS68 w0 w g s0_0 s0_1 s0_2) (hB : Below w0.heap.size w0 w) (h : spec_l7Change.f k s0_0 s0_1 s0_2 = some (r1, r2, r3, r4, r5, r6)) :
  Calls Try.prog 46 #[.pointer (some ⟨g, 0, none⟩)] w fun e w' => e = .returned (.agg #[.int .i64 r1, .int .i64 r2, .int .i64 r3, .string r4]) ∧ IsS68 w0 w' g s0_0 r5 r6 ∧ Below w0.heap.size w0 w' ∧ KeepBut w w' g none := by
 have hu45 := Try.underlying45
 have hu27 := Try.underlying27
 have HI0 := am hI
 have HK := am (KeepBut.refl w g none)
 have HL := am hB.size
 clear hI
 have HW0 := am hB.size
 have HB := am hB
 clear hB
 have H : ((spec_l1Below.f s0_0 s0_1 s0_2 4).bind fun bt454 => ((spec_l1Msg.f s0_0 bt454.2.1 bt454.2.2).bind fun bt457 => ((spec_l1Once.f s0_0 bt457.2.2.2.1 bt457.2.2.2.2 10).bind fun bt463 => (if bt463.1 = true then ((spec_l1AnyMsg.f s0_0 bt463.2.1 bt463.2.2).bind fun bt466 => (spec_l7Change.j0 k s0_0 bt466.2.2.2.1 bt466.2.2.2.2 (wrap64 (1 + bt454.1)) bt466.1 bt466.2.1 bt466.2.2.1)) else (spec_l7Change.j0 k s0_0 bt463.2.1 bt463.2.2 (wrap64 (1 + bt454.1)) bt457.1 bt457.2.1 bt457.2.2.1))))) = some (r1, r2, r3, r4, r5, r6) := h
 clear h
 replace H := Option.bind_eq_some_iff.mp H
 obtain ⟨⟨t454, t455, t456⟩, A20, H⟩ := H
 replace H : ((spec_l1Msg.f s0_0 t455 t456).bind fun bt457 => ((spec_l1Once.f s0_0 bt457.2.2.2.1 bt457.2.2.2.2 10).bind fun bt463 => (if bt463.1 = true then ((spec_l1AnyMsg.f s0_0 bt463.2.1 bt463.2.2).bind fun bt466 => (spec_l7Change.j0 k s0_0 bt466.2.2.2.1 bt466.2.2.2.2 (wrap64 (1 + t454)) bt466.1 bt466.2.1 bt466.2.2.1)) else (spec_l7Change.j0 k s0_0 bt463.2.1 bt463.2.2 (wrap64 (1 + t454)) bt457.1 bt457.2.1 bt457.2.2.1)))) = some (r1, r2, r3, r4, r5, r6) := H
 have A2 := am A20
 clear A20
 replace H := Option.bind_eq_some_iff.mp H
 obtain ⟨⟨t457, t458, t459, t460, t461⟩, A30, H⟩ := H
 replace H : ((spec_l1Once.f s0_0 t460 t461 10).bind fun bt463 => (if bt463.1 = true then ((spec_l1AnyMsg.f s0_0 bt463.2.1 bt463.2.2).bind fun bt466 => (spec_l7Change.j0 k s0_0 bt466.2.2.2.1 bt466.2.2.2.2 (wrap64 (1 + t454)) bt466.1 bt466.2.1 bt466.2.2.1)) else (spec_l7Change.j0 k s0_0 bt463.2.1 bt463.2.2 (wrap64 (1 + t454)) t457 t458 t459))) = some (r1, r2, r3, r4, r5, r6) := H
 have A3 := am A30
 clear A30
 replace H := Option.bind_eq_some_iff.mp H
 obtain ⟨⟨t463, t464, t465⟩, A40, H⟩ := H
 replace H : (if t463 = true then ((spec_l1AnyMsg.f s0_0 t464 t465).bind fun bt466 => (spec_l7Change.j0 k s0_0 bt466.2.2.2.1 bt466.2.2.2.2 (wrap64 (1 + t454)) bt466.1 bt466.2.1 bt466.2.2.1)) else (spec_l7Change.j0 k s0_0 t464 t465 (wrap64 (1 + t454)) t457 t458 t459)) = some (r1, r2, r3, r4, r5, r6) := H
 have A4 := am A40
 clear A40
 have HC5 := am H
 clear H
 go_enter Try.func46, Try.ntmps46
 go_upto_if 11 with (first | ((with_reducible refine gate_dst (N := 2) rfl ?_); refine box_event ?hg (N := 2) ?hd (cs := #[.int .i64 0, .int .i64 0, .int .i64 0, .string (⟨#[]⟩ : ByteArray)]) (t := 45) ?hr ?_; (case hd => rfl); (case hg => rfl); (case hr => first | (go_simp; done) | (go_simp; rfl)); intro gb453 hg w6 hbox hb; replace HB := am (below_step (by repeat (first | (with_reducible first | exact HB.out | apply below_alloc | apply pw_below_drewN | apply below_drew1 | refine below_set ?_ (IsS68.ge HI0.out)) | exact HB.out)) hb); have BK453 := am (hbox); have GW453 := am ((by rw [hg]; first | done | exact (keep_size (w := w) (g := g) (row := none) (pkH HK.out)) : w.heap.size ≤ gb453)); have GE453 := am ((Nat.le_trans HW0.out (by rw [hg]; first | done | exact (keep_size (w := w) (g := g) (row := none) (pkH HK.out)) : w.heap.size ≤ gb453) : w0.heap.size ≤ gb453)); replace HK := am (KeepBut.trans (pkH HK.out) (KeepBut.of_below hb g none) (.inl rfl)); have NB0_453 := am ((by rw [hg]; exact Nat.ne_of_lt (IsS68.lt (show IsS68 w0 _ g s0_0 s0_1 s0_2 from IsS68.pk HI0.out)) : g ≠ gb453)); have NB453_0 := am ((by rw [hg]; exact Nat.ne_of_gt (IsS68.lt (show IsS68 w0 _ g s0_0 s0_1 s0_2 from IsS68.pk HI0.out)) : gb453 ≠ g)); replace HI0 := am (IsS68.below (IsS68.pk HI0.out) hb); clear hb hbox hg) | ((with_reducible refine gate_callee (f := 50) rfl ?_); refine goesL_ (some 5) rfl rfl Try.func50 (by kernel_rfl) rfl #[.pointer (some ⟨g, 0, none⟩), .int .i64 4] rfl mpx ?_; (with_reducible refine (spec_l1Below.calls g s0_0 s0_1 s0_2 4 t454 t455 t456 w0 _ ?side1 ?side2 A2.out).mono ?_); (case side1 => repeat (first | (with_reducible first | exact HI0.out | apply IsS68.alloc | apply IsS68.drewN | apply IsS68.drew | apply IsS68.set_1 | apply IsS68.set_2 | refine IsS68.far ?_ NB0_453.out _) | exact HI0.out)); (case side2 => repeat (first | (with_reducible first | exact HB.out | apply below_alloc | apply pw_below_drewN | apply below_drew1 | refine below_set ?_ (IsS68.ge HI0.out) | refine below_set ?_ GE453.out) | exact HB.out)); rintro e w7 ⟨rfl, hi, hb, hk⟩; refine ⟨_, rfl, ?_⟩; replace BK453 := am (KeepBut.blk hk (g' := gb453) (o := .cells #[.int .i64 0, .int .i64 0, .int .i64 0, .string (⟨#[]⟩ : ByteArray)] 45 (0, 0)) (pkK BK453.out) NB453_0.out (by simp)); replace HK := am (KeepBut.trans (pkH HK.out) hk (.inl rfl)); replace HB := am (hb); replace HI0 := am (hi); (try clear hb hk hi)) | ((with_reducible refine gate_callee (f := 45) rfl ?_); refine goesL_ (some 8) rfl rfl Try.func45 (by kernel_rfl) rfl #[.pointer (some ⟨g, 0, none⟩)] rfl mpx ?_; (with_reducible refine (spec_l1Msg.calls g s0_0 t455 t456 t457 t458 t459 t460 t461 w0 _ ?side1 ?side2 A3.out).mono ?_); (case side1 => repeat (first | (with_reducible first | exact HI0.out | apply IsS68.alloc | apply IsS68.drewN | apply IsS68.drew | apply IsS68.set_1 | apply IsS68.set_2 | refine IsS68.far ?_ NB0_453.out _) | exact HI0.out)); (case side2 => repeat (first | (with_reducible first | exact HB.out | apply below_alloc | apply pw_below_drewN | apply below_drew1 | refine below_set ?_ (IsS68.ge HI0.out) | refine below_set ?_ GE453.out) | exact HB.out)); rintro e w8 ⟨rfl, hi, hb, hk⟩; refine ⟨_, rfl, ?_⟩; replace BK453 := am (KeepBut.blk hk (g' := gb453) (o := .cells #[.int .i64 0, .int .i64 0, .int .i64 0, .string (⟨#[]⟩ : ByteArray)] 45 (0, 0)) (pkK BK453.out) NB453_0.out (by simp)); replace HK := am (KeepBut.trans (pkH HK.out) hk (.inl rfl)); replace HB := am (hb); replace HI0 := am (hi); (try clear hb hk hi)) | ((with_reducible refine gate_dst (N := 3) rfl ?_); refine box_event ?hg (N := 3) ?hd (cs := #[.int .i64 0, .int .i64 0, .int .i64 0, .string (⟨#[]⟩ : ByteArray)]) (t := 45) ?hr ?_; (case hd => rfl); (case hg => rfl); (case hr => first | (go_simp; done) | (go_simp; rfl)); intro gb462 hg w9 hbox hb; replace HB := am (below_step (by repeat (first | (with_reducible first | exact HB.out | apply below_alloc | apply pw_below_drewN | apply below_drew1 | refine below_set ?_ (IsS68.ge HI0.out) | refine below_set ?_ GE453.out) | exact HB.out)) hb); have BK462 := am (hbox); have GW462 := am ((by rw [hg]; first | done | exact (keep_size (w := w) (g := g) (row := none) (pkH HK.out)) : w.heap.size ≤ gb462)); have GE462 := am ((Nat.le_trans HW0.out (by rw [hg]; first | done | exact (keep_size (w := w) (g := g) (row := none) (pkH HK.out)) : w.heap.size ≤ gb462) : w0.heap.size ≤ gb462)); replace HK := am (KeepBut.trans (pkH HK.out) (KeepBut.of_below hb g none) (.inl rfl)); have NB453_462 := am ((by rw [hg]; exact Nat.ne_of_lt (blk_lt (g := gb453) (o := .cells #[.int .i64 0, .int .i64 0, .int .i64 0, .string (⟨#[]⟩ : ByteArray)] 45 (0, 0)) (pkK BK453.out)) : gb453 ≠ gb462)); have NB462_453 := am ((by rw [hg]; exact Nat.ne_of_gt (blk_lt (g := gb453) (o := .cells #[.int .i64 0, .int .i64 0, .int .i64 0, .string (⟨#[]⟩ : ByteArray)] 45 (0, 0)) (pkK BK453.out)) : gb462 ≠ gb453)); replace BK453 := am (blk_below (pkK BK453.out) hb); have NB0_462 := am ((by rw [hg]; exact Nat.ne_of_lt (IsS68.lt (show IsS68 w0 _ g s0_0 t460 t461 from IsS68.pk HI0.out)) : g ≠ gb462)); have NB462_0 := am ((by rw [hg]; exact Nat.ne_of_gt (IsS68.lt (show IsS68 w0 _ g s0_0 t460 t461 from IsS68.pk HI0.out)) : gb462 ≠ g)); replace HI0 := am (IsS68.below (IsS68.pk HI0.out) hb); clear hb hbox hg; have hnb10 := NB462_453.out; have hnc10 := NB453_462.out; have hnb11 := NB462_0.out; have hnc11 := NB0_462.out; obtain ⟨hcz12_0, hcz12_1, hcz12_2, hcz12_3, hfz12_0, hfz12_1, hfz12_2, hfz12_3⟩ := bk4 BK462.out) | ((with_reducible refine gate_callee (f := 43) rfl ?_); refine goesL_ (some 11) rfl rfl Try.func43 (by kernel_rfl) rfl #[.pointer (some ⟨g, 0, none⟩), .int .i64 10] rfl mpx ?_; (with_reducible refine (spec_l1Once.calls g s0_0 t460 t461 10 t463 t464 t465 w0 _ ?side1 ?side2 A4.out).mono ?_); (case side1 => repeat (first | (with_reducible first | exact HI0.out | apply IsS68.alloc | apply IsS68.drewN | apply IsS68.drew | apply IsS68.set_1 | apply IsS68.set_2 | refine IsS68.far ?_ NB0_453.out _ | refine IsS68.far ?_ NB0_462.out _) | exact HI0.out)); (case side2 => repeat (first | (with_reducible first | exact HB.out | apply below_alloc | apply pw_below_drewN | apply below_drew1 | refine below_set ?_ (IsS68.ge HI0.out) | refine below_set ?_ GE453.out | refine below_set ?_ GE462.out) | exact HB.out)); rintro e w13 ⟨rfl, hi, hb, hk⟩; refine ⟨_, rfl, ?_⟩; replace BK453 := am (KeepBut.blk hk (g' := gb453) (o := .cells #[.int .i64 0, .int .i64 0, .int .i64 0, .string (⟨#[]⟩ : ByteArray)] 45 (0, 0)) (by (with_reducible repeat (first | refine blk_drewN ?_ _ | refine blk_drew ?_ | refine blk_alloc ?_ _)); refine blk_far ?_ NB453_462.out _; (with_reducible repeat (first | refine blk_drewN ?_ _ | refine blk_drew ?_ | refine blk_alloc ?_ _)); refine blk_far ?_ NB453_462.out _; (with_reducible repeat (first | refine blk_drewN ?_ _ | refine blk_drew ?_ | refine blk_alloc ?_ _)); refine blk_far ?_ NB453_462.out _; (with_reducible repeat (first | refine blk_drewN ?_ _ | refine blk_drew ?_ | refine blk_alloc ?_ _)); refine blk_far ?_ NB453_462.out _; exact pkK BK453.out) NB453_0.out (by simp)); replace BK462 := am (KeepBut.blk hk (g' := gb462) (o := .cells #[.int .i64 (wrap64 (1 + t454)), .int .i64 t457, .int .i64 t458, .string t459] 45 (0, 0)) (by (with_reducible repeat (first | refine blk_drewN ?_ _ | refine blk_drew ?_ | refine blk_alloc ?_ _)); refine blk_put (cs := #[.int .i64 (wrap64 (1 + t454)), .int .i64 t457, .int .i64 t458, .string (⟨#[]⟩ : ByteArray)]) ?_ 3 _ rfl; (with_reducible repeat (first | refine blk_drewN ?_ _ | refine blk_drew ?_ | refine blk_alloc ?_ _)); refine blk_put (cs := #[.int .i64 (wrap64 (1 + t454)), .int .i64 t457, .int .i64 0, .string (⟨#[]⟩ : ByteArray)]) ?_ 2 _ rfl; (with_reducible repeat (first | refine blk_drewN ?_ _ | refine blk_drew ?_ | refine blk_alloc ?_ _)); refine blk_put (cs := #[.int .i64 (wrap64 (1 + t454)), .int .i64 0, .int .i64 0, .string (⟨#[]⟩ : ByteArray)]) ?_ 1 _ rfl; (with_reducible repeat (first | refine blk_drewN ?_ _ | refine blk_drew ?_ | refine blk_alloc ?_ _)); refine blk_put (cs := #[.int .i64 0, .int .i64 0, .int .i64 0, .string (⟨#[]⟩ : ByteArray)]) ?_ 0 _ rfl; exact pkK BK462.out) NB462_0.out (by simp)); replace HK := am (KeepBut.trans (pkH HK.out) hk (.inl rfl)); replace HB := am (hb); replace HI0 := am (hi); (try clear hb hk hi)))
 (try simp only [Act.put, List.setIfInBounds_toArray, List.set_cons_zero, List.set_cons_succ])
 go_cut [] (fun wc => ∃ (kq : Nat) (x1001_4 : Int) (x1002_4 : Int) (x463001_4 : Int) (x463002_4 : Int) (x463003_4 : ByteArray), Aside0 (spec_l7Change.j0 kq s0_0 x1001_4 x1002_4 (wrap64 (1 + t454)) x463001_4 x463002_4 x463003_4 = some (r1, r2, r3, r4, r5, r6)) ∧ Aside0 (kq ≤ k) ∧ Aside0 (wc.heap[gb453]? = some (.cells #[.int .i64 0, .int .i64 0, .int .i64 0, .string (⟨#[]⟩ : ByteArray)] 45 (0, 0))) ∧ Aside0 (wc.heap[gb462]? = some (.cells #[.int .i64 (wrap64 (1 + t454)), .int .i64 x463001_4, .int .i64 x463002_4, .string x463003_4] 45 (0, 0))) ∧ Aside0 (IsS68 w0 wc g s0_0 x1001_4 x1002_4) ∧ Aside0 (KeepBut w wc g none) ∧ Aside0 (Below w0.heap.size w0 wc))
 case first =>
  have H := HC5.out
  clear HC5
  by_cases c14 : t463 = true
  ·subst c14
   replace H : ((spec_l1AnyMsg.f s0_0 t464 t465).bind fun bt466 => (spec_l7Change.j0 k s0_0 bt466.2.2.2.1 bt466.2.2.2.2 (wrap64 (1 + t454)) bt466.1 bt466.2.1 bt466.2.2.1)) = some (r1, r2, r3, r4, r5, r6) := by rw [if_pos rfl] at H; exact H
   replace H := Option.bind_eq_some_iff.mp H
   obtain ⟨⟨t466, t467, t468, t469, t470⟩, A150, H⟩ := H
   replace H : (spec_l7Change.j0 k s0_0 t469 t470 (wrap64 (1 + t454)) t466 t467 t468) = some (r1, r2, r3, r4, r5, r6) := H
   have A15 := am A150
   clear A150
   have H' := am H
   clear H
   go_wp2_with (first | ((with_reducible refine gate_callee (f := 42) rfl ?_); refine goesL_ (some 13) rfl rfl Try.func42 (by kernel_rfl) rfl #[.pointer (some ⟨g, 0, none⟩)] rfl mpx ?_; (with_reducible refine (spec_l1AnyMsg.calls g s0_0 t464 t465 t466 t467 t468 t469 t470 w0 _ ?side1 ?side2 A15.out).mono ?_); (case side1 => repeat (first | (with_reducible first | exact HI0.out | apply IsS68.alloc | apply IsS68.drewN | apply IsS68.drew | apply IsS68.set_1 | apply IsS68.set_2 | refine IsS68.far ?_ NB0_453.out _ | refine IsS68.far ?_ NB0_462.out _) | exact HI0.out)); (case side2 => repeat (first | (with_reducible first | exact HB.out | apply below_alloc | apply pw_below_drewN | apply below_drew1 | refine below_set ?_ (IsS68.ge HI0.out) | refine below_set ?_ GE453.out | refine below_set ?_ GE462.out) | exact HB.out)); rintro e w16 ⟨rfl, hi, hb, hk⟩; refine ⟨_, rfl, ?_⟩; replace BK453 := am (KeepBut.blk hk (g' := gb453) (o := .cells #[.int .i64 0, .int .i64 0, .int .i64 0, .string (⟨#[]⟩ : ByteArray)] 45 (0, 0)) (pkK BK453.out) NB453_0.out (by simp)); replace BK462 := am (KeepBut.blk hk (g' := gb462) (o := .cells #[.int .i64 (wrap64 (1 + t454)), .int .i64 t457, .int .i64 t458, .string t459] 45 (0, 0)) (pkK BK462.out) NB462_0.out (by simp)); replace HK := am (KeepBut.trans (pkH HK.out) hk (.inl rfl)); replace HB := am (hb); replace HI0 := am (hi); (try clear hb hk hi); have hnb17 := NB462_453.out; have hnc17 := NB453_462.out; have hnb18 := NB462_0.out; have hnc18 := NB0_462.out; obtain ⟨hcz19_0, hcz19_1, hcz19_2, hcz19_3, hfz19_0, hfz19_1, hfz19_2, hfz19_3⟩ := bk4 BK462.out))
   go_meet
   case rel => exact ⟨_, (t469), (t470), (t466), (t467), (t468), H', ⟨by first | omega | exact Nat.le_refl _⟩, ⟨by (with_reducible repeat (first | refine blk_drewN ?_ _ | refine blk_drew ?_ | refine blk_alloc ?_ _)); refine blk_far ?_ NB453_462.out _; (with_reducible repeat (first | refine blk_drewN ?_ _ | refine blk_drew ?_ | refine blk_alloc ?_ _)); refine blk_far ?_ NB453_462.out _; (with_reducible repeat (first | refine blk_drewN ?_ _ | refine blk_drew ?_ | refine blk_alloc ?_ _)); refine blk_far ?_ NB453_462.out _; exact pkK BK453.out⟩, ⟨by (with_reducible repeat (first | refine blk_drewN ?_ _ | refine blk_drew ?_ | refine blk_alloc ?_ _)); refine blk_put (cs := #[.int .i64 (wrap64 (1 + t454)), .int .i64 t466, .int .i64 t467, .string t459]) ?_ 3 _ rfl; (with_reducible repeat (first | refine blk_drewN ?_ _ | refine blk_drew ?_ | refine blk_alloc ?_ _)); refine blk_put (cs := #[.int .i64 (wrap64 (1 + t454)), .int .i64 t466, .int .i64 t458, .string t459]) ?_ 2 _ rfl; (with_reducible repeat (first | refine blk_drewN ?_ _ | refine blk_drew ?_ | refine blk_alloc ?_ _)); refine blk_put (cs := #[.int .i64 (wrap64 (1 + t454)), .int .i64 t457, .int .i64 t458, .string t459]) ?_ 1 _ rfl; exact pkK BK462.out⟩, ⟨by repeat (first | (with_reducible first | exact HI0.out | apply IsS68.alloc | apply IsS68.drewN | apply IsS68.drew | apply IsS68.set_1 | apply IsS68.set_2 | refine IsS68.far ?_ NB0_453.out _ | refine IsS68.far ?_ NB0_462.out _) | exact HI0.out)⟩, ⟨pkH HK.out⟩, ⟨by repeat (first | (with_reducible first | exact HB.out | apply below_alloc | apply pw_below_drewN | apply below_drew1 | refine below_set ?_ (IsS68.ge HI0.out) | refine below_set ?_ GE453.out | refine below_set ?_ GE462.out) | exact HB.out)⟩⟩
  ·replace c14 := Bool.eq_false_iff.mpr c14
   subst c14
   replace H : (spec_l7Change.j0 k s0_0 t464 t465 (wrap64 (1 + t454)) t457 t458 t459) = some (r1, r2, r3, r4, r5, r6) := by rw [if_neg (show ¬ (false = true) by decide)] at H; exact H
   have H' := am H
   clear H
   go_wp2
   go_meet
   case rel => exact ⟨_, (t464), (t465), (t457), (t458), (t459), H', ⟨by first | omega | exact Nat.le_refl _⟩, ⟨pkK BK453.out⟩, ⟨pkK BK462.out⟩, ⟨by repeat (first | (with_reducible first | exact HI0.out | apply IsS68.alloc | apply IsS68.drewN | apply IsS68.drew | apply IsS68.set_1 | apply IsS68.set_2 | refine IsS68.far ?_ NB0_453.out _ | refine IsS68.far ?_ NB0_462.out _) | exact HI0.out)⟩, ⟨pkH HK.out⟩, ⟨by repeat (first | (with_reducible first | exact HB.out | apply below_alloc | apply pw_below_drewN | apply below_drew1 | refine below_set ?_ (IsS68.ge HI0.out) | refine below_set ?_ GE453.out | refine below_set ?_ GE462.out) | exact HB.out)⟩⟩
 case rest =>
  clear HC5
  try clear c1
  try clear p2
  try clear c4
  try clear c5
  try clear p6
  try clear c10
  try clear c11
  try clear c14
  try clear c17
  try clear c18
  try clear hcz12_0
  try clear hcz12_1
  try clear hcz12_2
  try clear hcz12_3
  try clear hcz19_0
  try clear hcz19_1
  try clear hcz19_2
  try clear hcz19_3
  try clear hfz12_0
  try clear hfz12_1
  try clear hfz12_2
  try clear hfz12_3
  try clear hfz19_0
  try clear hfz19_1
  try clear hfz19_2
  try clear hfz19_3
  obtain ⟨kq, x1001_4, x1002_4, x463001_4, x463002_4, x463003_4, HA, HJ4, BK453, BK462, HI0, HK, HB⟩ := hcut
  cases kq with
  | zero => exact absurd HA.out (by simp [spec_l7Change.j0])
  | succ kj4 =>
   have H := HA.out
   clear HA
   simp only [spec_l7Change.j0] at H
   replace H := Option.bind_eq_some_iff.mp H
   obtain ⟨⟨t471, t472, t473⟩, A200, H⟩ := H
   replace H : (if t471 = true then ((spec_l1Below.f s0_0 t472 t473 7).bind fun bt474 => (some (wrap64 (bt474.1 - 1), x463001_4, x463002_4, x463003_4, bt474.2.1, bt474.2.2))) else (some ((wrap64 (1 + t454)), x463001_4, x463002_4, x463003_4, t472, t473))) = some (r1, r2, r3, r4, r5, r6) := H
   have A20 := am A200
   clear A200
   by_cases c21 : t471 = true
   ·subst c21
    replace H : ((spec_l1Below.f s0_0 t472 t473 7).bind fun bt474 => (some (wrap64 (bt474.1 - 1), x463001_4, x463002_4, x463003_4, bt474.2.1, bt474.2.2))) = some (r1, r2, r3, r4, r5, r6) := by rw [if_pos rfl] at H; exact H
    replace H := Option.bind_eq_some_iff.mp H
    obtain ⟨⟨t474, t475, t476⟩, A220, H⟩ := H
    replace H : (some (wrap64 (t474 - 1), x463001_4, x463002_4, x463003_4, t475, t476)) = some (r1, r2, r3, r4, r5, r6) := H
    have A22 := am A220
    clear A220
    simp only [Option.some.injEq, Prod.mk.injEq] at H
    obtain ⟨rfl, rfl, rfl, rfl, rfl, rfl⟩ := H
    go_wp2_with (first | ((with_reducible refine gate_callee (f := 43) rfl ?_); refine goesL_ (some 16) rfl rfl Try.func43 (by kernel_rfl) rfl #[.pointer (some ⟨g, 0, none⟩), .int .i64 12] rfl mpx ?_; (with_reducible refine (spec_l1Once.calls g s0_0 x1001_4 x1002_4 12 true t472 t473 w0 _ ?side1 ?side2 A20.out).mono ?_); (case side1 => repeat (first | (with_reducible first | exact HI0.out | apply IsS68.alloc | apply IsS68.drewN | apply IsS68.drew | apply IsS68.set_1 | apply IsS68.set_2 | refine IsS68.far ?_ NB0_453.out _ | refine IsS68.far ?_ NB0_462.out _) | exact HI0.out)); (case side2 => repeat (first | (with_reducible first | exact HB.out | apply below_alloc | apply pw_below_drewN | apply below_drew1 | refine below_set ?_ (IsS68.ge HI0.out) | refine below_set ?_ GE453.out | refine below_set ?_ GE462.out) | exact HB.out)); rintro e w23 ⟨rfl, hi, hb, hk⟩; refine ⟨_, rfl, ?_⟩; replace BK453 := am (KeepBut.blk hk (g' := gb453) (o := .cells #[.int .i64 0, .int .i64 0, .int .i64 0, .string (⟨#[]⟩ : ByteArray)] 45 (0, 0)) (pkK BK453.out) NB453_0.out (by simp)); replace BK462 := am (KeepBut.blk hk (g' := gb462) (o := .cells #[.int .i64 (wrap64 (1 + t454)), .int .i64 x463001_4, .int .i64 x463002_4, .string x463003_4] 45 (0, 0)) (pkK BK462.out) NB462_0.out (by simp)); replace HK := am (KeepBut.trans (pkH HK.out) hk (.inl rfl)); replace HB := am (hb); replace HI0 := am (hi); (try clear hb hk hi)) | ((with_reducible refine gate_callee (f := 50) rfl ?_); refine goesL_ (some 18) rfl rfl Try.func50 (by kernel_rfl) rfl #[.pointer (some ⟨g, 0, none⟩), .int .i64 7] rfl mpx ?_; (with_reducible refine (spec_l1Below.calls g s0_0 t472 t473 7 t474 t475 t476 w0 _ ?side1 ?side2 A22.out).mono ?_); (case side1 => repeat (first | (with_reducible first | exact HI0.out | apply IsS68.alloc | apply IsS68.drewN | apply IsS68.drew | apply IsS68.set_1 | apply IsS68.set_2 | refine IsS68.far ?_ NB0_453.out _ | refine IsS68.far ?_ NB0_462.out _) | exact HI0.out)); (case side2 => repeat (first | (with_reducible first | exact HB.out | apply below_alloc | apply pw_below_drewN | apply below_drew1 | refine below_set ?_ (IsS68.ge HI0.out) | refine below_set ?_ GE453.out | refine below_set ?_ GE462.out) | exact HB.out)); rintro e w24 ⟨rfl, hi, hb, hk⟩; refine ⟨_, rfl, ?_⟩; replace BK453 := am (KeepBut.blk hk (g' := gb453) (o := .cells #[.int .i64 0, .int .i64 0, .int .i64 0, .string (⟨#[]⟩ : ByteArray)] 45 (0, 0)) (pkK BK453.out) NB453_0.out (by simp)); replace BK462 := am (KeepBut.blk hk (g' := gb462) (o := .cells #[.int .i64 (wrap64 (1 + t454)), .int .i64 x463001_4, .int .i64 x463002_4, .string x463003_4] 45 (0, 0)) (pkK BK462.out) NB462_0.out (by simp)); replace HK := am (KeepBut.trans (pkH HK.out) hk (.inl rfl)); replace HB := am (hb); replace HI0 := am (hi); (try clear hb hk hi); have hnb25 := NB462_453.out; have hnc25 := NB453_462.out; have hnb26 := NB462_0.out; have hnc26 := NB0_462.out; obtain ⟨hcz27_0, hcz27_1, hcz27_2, hcz27_3, hfz27_0, hfz27_1, hfz27_2, hfz27_3⟩ := bk4 BK462.out; have hnb28 := NB453_0.out; have hnc28 := NB0_453.out; obtain ⟨hcz29_0, hcz29_1, hcz29_2, hcz29_3, hfz29_0, hfz29_1, hfz29_2, hfz29_3⟩ := bk4 BK453.out))
    refine bodyPost_ret (results_cell_row rfl _ _ gb453 45 #[.int .i64 (wrap64 (t474 - 1)), .int .i64 x463001_4, .int .i64 x463002_4, .string x463003_4] (0, 0) _ rfl (by (with_reducible repeat (first | refine blk_drewN ?_ _ | refine blk_drew ?_ | refine blk_alloc ?_ _)); refine blk_put (cs := #[.int .i64 (wrap64 (t474 - 1)), .int .i64 x463001_4, .int .i64 x463002_4, .string (⟨#[]⟩ : ByteArray)]) ?_ 3 _ rfl; (with_reducible repeat (first | refine blk_drewN ?_ _ | refine blk_drew ?_ | refine blk_alloc ?_ _)); refine blk_put (cs := #[.int .i64 (wrap64 (t474 - 1)), .int .i64 x463001_4, .int .i64 0, .string (⟨#[]⟩ : ByteArray)]) ?_ 2 _ rfl; (with_reducible repeat (first | refine blk_drewN ?_ _ | refine blk_drew ?_ | refine blk_alloc ?_ _)); refine blk_put (cs := #[.int .i64 (wrap64 (t474 - 1)), .int .i64 0, .int .i64 0, .string (⟨#[]⟩ : ByteArray)]) ?_ 1 _ rfl; (with_reducible repeat (first | refine blk_drewN ?_ _ | refine blk_drew ?_ | refine blk_alloc ?_ _)); refine blk_put (cs := #[.int .i64 0, .int .i64 0, .int .i64 0, .string (⟨#[]⟩ : ByteArray)]) ?_ 0 _ rfl; (with_reducible repeat (first | refine blk_drewN ?_ _ | refine blk_drew ?_ | refine blk_alloc ?_ _)); refine blk_far ?_ NB453_462.out _; exact pkK BK453.out) Try.underlying45 rfl (by kernel_rfl)) rfl ?_
    exact ⟨rfe, by repeat (first | (with_reducible first | exact HI0.out | apply IsS68.alloc | apply IsS68.drewN | apply IsS68.drew | apply IsS68.set_1 | apply IsS68.set_2 | refine IsS68.far ?_ NB0_453.out _ | refine IsS68.far ?_ NB0_462.out _) | exact HI0.out), by repeat (first | (with_reducible first | exact HB.out | apply below_alloc | apply pw_below_drewN | apply below_drew1 | refine below_set ?_ (IsS68.ge HI0.out) | refine below_set ?_ GE453.out | refine below_set ?_ GE462.out) | exact HB.out), pkH HK.out⟩
   ·replace c21 := Bool.eq_false_iff.mpr c21
    subst c21
    replace H : (some ((wrap64 (1 + t454)), x463001_4, x463002_4, x463003_4, t472, t473)) = some (r1, r2, r3, r4, r5, r6) := by rw [if_neg (show ¬ (false = true) by decide)] at H; exact H
    simp only [Option.some.injEq, Prod.mk.injEq] at H
    obtain ⟨rfl, rfl, rfl, rfl, rfl, rfl⟩ := H
    go_wp2_with (first | ((with_reducible refine gate_callee (f := 43) rfl ?_); refine goesL_ (some 16) rfl rfl Try.func43 (by kernel_rfl) rfl #[.pointer (some ⟨g, 0, none⟩), .int .i64 12] rfl mpx ?_; (with_reducible refine (spec_l1Once.calls g s0_0 x1001_4 x1002_4 12 false t472 t473 w0 _ ?side1 ?side2 A20.out).mono ?_); (case side1 => repeat (first | (with_reducible first | exact HI0.out | apply IsS68.alloc | apply IsS68.drewN | apply IsS68.drew | apply IsS68.set_1 | apply IsS68.set_2 | refine IsS68.far ?_ NB0_453.out _ | refine IsS68.far ?_ NB0_462.out _) | exact HI0.out)); (case side2 => repeat (first | (with_reducible first | exact HB.out | apply below_alloc | apply pw_below_drewN | apply below_drew1 | refine below_set ?_ (IsS68.ge HI0.out) | refine below_set ?_ GE453.out | refine below_set ?_ GE462.out) | exact HB.out)); rintro e w30 ⟨rfl, hi, hb, hk⟩; refine ⟨_, rfl, ?_⟩; replace BK453 := am (KeepBut.blk hk (g' := gb453) (o := .cells #[.int .i64 0, .int .i64 0, .int .i64 0, .string (⟨#[]⟩ : ByteArray)] 45 (0, 0)) (pkK BK453.out) NB453_0.out (by simp)); replace BK462 := am (KeepBut.blk hk (g' := gb462) (o := .cells #[.int .i64 (wrap64 (1 + t454)), .int .i64 x463001_4, .int .i64 x463002_4, .string x463003_4] 45 (0, 0)) (pkK BK462.out) NB462_0.out (by simp)); replace HK := am (KeepBut.trans (pkH HK.out) hk (.inl rfl)); replace HB := am (hb); replace HI0 := am (hi); (try clear hb hk hi); have hnb31 := NB462_453.out; have hnc31 := NB453_462.out; have hnb32 := NB462_0.out; have hnc32 := NB0_462.out; obtain ⟨hcz33_0, hcz33_1, hcz33_2, hcz33_3, hfz33_0, hfz33_1, hfz33_2, hfz33_3⟩ := bk4 BK462.out; have hnb34 := NB453_0.out; have hnc34 := NB0_453.out; obtain ⟨hcz35_0, hcz35_1, hcz35_2, hcz35_3, hfz35_0, hfz35_1, hfz35_2, hfz35_3⟩ := bk4 BK453.out))
    refine bodyPost_ret (results_cell_row rfl _ _ gb453 45 #[.int .i64 (wrap64 (1 + t454)), .int .i64 x463001_4, .int .i64 x463002_4, .string x463003_4] (0, 0) _ rfl (by (with_reducible repeat (first | refine blk_drewN ?_ _ | refine blk_drew ?_ | refine blk_alloc ?_ _)); refine blk_put (cs := #[.int .i64 (wrap64 (1 + t454)), .int .i64 x463001_4, .int .i64 x463002_4, .string (⟨#[]⟩ : ByteArray)]) ?_ 3 _ rfl; (with_reducible repeat (first | refine blk_drewN ?_ _ | refine blk_drew ?_ | refine blk_alloc ?_ _)); refine blk_put (cs := #[.int .i64 (wrap64 (1 + t454)), .int .i64 x463001_4, .int .i64 0, .string (⟨#[]⟩ : ByteArray)]) ?_ 2 _ rfl; (with_reducible repeat (first | refine blk_drewN ?_ _ | refine blk_drew ?_ | refine blk_alloc ?_ _)); refine blk_put (cs := #[.int .i64 (wrap64 (1 + t454)), .int .i64 0, .int .i64 0, .string (⟨#[]⟩ : ByteArray)]) ?_ 1 _ rfl; (with_reducible repeat (first | refine blk_drewN ?_ _ | refine blk_drew ?_ | refine blk_alloc ?_ _)); refine blk_put (cs := #[.int .i64 0, .int .i64 0, .int .i64 0, .string (⟨#[]⟩ : ByteArray)]) ?_ 0 _ rfl; exact pkK BK453.out) Try.underlying45 rfl (by kernel_rfl)) rfl ?_
    exact ⟨rfe, by repeat (first | (with_reducible first | exact HI0.out | apply IsS68.alloc | apply IsS68.drewN | apply IsS68.drew | apply IsS68.set_1 | apply IsS68.set_2 | refine IsS68.far ?_ NB0_453.out _ | refine IsS68.far ?_ NB0_462.out _) | exact HI0.out), by repeat (first | (with_reducible first | exact HB.out | apply below_alloc | apply pw_below_drewN | apply below_drew1 | refine below_set ?_ (IsS68.ge HI0.out) | refine below_set ?_ GE453.out | refine below_set ?_ GE462.out) | exact HB.out), pkH HK.out⟩
end Go.Proofs.Ytalehmhjddnmoaa.Z
