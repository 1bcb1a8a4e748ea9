/- The Go functions spec_DrawMsgLess as Lean functions, each with a proof that its code comes to just these answers; conditions: those of each theorem. -/
import Derived.Test.YtalehmhjddnmoaaZx0
import Derived.Test.YtalehmhjddnmoaaZx21
import Derived.Test.YtalehmhjddnmoaaZx23
import Derived.Test.YtalehmhjddnmoaaZx26
namespace Go.Proofs.Ytalehmhjddnmoaa.Z
open Go.RowKit Go.Proofs.YtalehmhjddnmoaaW.PrintWords Go.Proofs.YtalehmhjddnmoaaW.PrintLast Go.Proofs.YtalehmhjddnmoaaW.PrintMore
attribute [local go_sem] max2_int min2_int max_two min_two max_three min_three max_four min_four   -- for this text's walks alone
set_option linter.unusedVariables false
set_option linter.unusedSimpArgs false
def spec_DrawMsgLess.f (k : Nat) (l0 : List Int) : Option (Int × Int × ByteArray × Int × Int × ByteArray) := (spec_l1New.f k l0).bind fun bt284 => ((spec_l1AnyMsg.f bt284.1 bt284.2.1 bt284.2.2).bind fun bt288 => ((spec_l1Once.f bt284.1 bt288.2.2.2.1 bt288.2.2.2.2 4).bind fun bt294 => (if bt294.1 = true then (some (bt288.1, bt288.2.1, bt288.2.2.1, bt288.1, bt288.2.1, bt288.2.2.1)) else ((spec_l1AnyMsg.f bt284.1 bt294.2.1 bt294.2.2).bind fun bt297 => (some (bt288.1, bt288.2.1, bt288.2.2.1, bt297.1, bt297.2.1, bt297.2.2.1))))))
theorem spec_DrawMsgLess.mono : ∀ a0 k, LeO (spec_DrawMsgLess.f k a0) (spec_DrawMsgLess.f (k + 1) a0) := by
 intro a0 k
 unfold spec_DrawMsgLess.f
 repeat' first
   | (with_reducible exact spec_l1New.mono _ _)
   | (with_reducible exact LeO.refl _)
   | (with_reducible exact LeO.none _)
   | (with_reducible refine LeO.ite ?_ ?_)
   | (with_reducible refine LeO.bind ?_ (fun _ => ?_))
set_option maxHeartbeats 8000000 in
set_option maxRecDepth 100000 in
theorem spec_DrawMsgLess.calls (k : Nat) (A0 : Option Addr) (c0 : Nat) (l0 : List Int) (r1 : Int) (r2 : Int) (r3 : ByteArray) (r4 : Int) (r5 : Int) (r6 : ByteArray) (w : World) (hr0 : Kd.C (Kd.int .u8) w A0 l0.length l0) (hc0 : l0.length ≤ c0) (h : spec_DrawMsgLess.f k l0 = some (r1, r2, r3, r4, r5, r6)) :
  Calls Try.prog 24 #[.slice A0 l0.length c0] w fun e w' => e = .returned (.tuple #[.agg #[.int .i64 r1, .int .i64 r2, .string r3], .agg #[.int .i64 r4, .int .i64 r5, .string r6]]) ∧ Below w.heap.size w w' := by
 have hu27 := Try.underlying27
 have HR0 := am hr0
 have HC0 := am hc0
 clear hr0 hc0
 have HB := am (Below.refl w.heap.size w)
 have H : ((spec_l1New.f k l0).bind fun bt284 => ((spec_l1AnyMsg.f bt284.1 bt284.2.1 bt284.2.2).bind fun bt288 => ((spec_l1Once.f bt284.1 bt288.2.2.2.1 bt288.2.2.2.2 4).bind fun bt294 => (if bt294.1 = true then (some (bt288.1, bt288.2.1, bt288.2.2.1, bt288.1, bt288.2.1, bt288.2.2.1)) else ((spec_l1AnyMsg.f bt284.1 bt294.2.1 bt294.2.2).bind fun bt297 => (some (bt288.1, bt288.2.1, bt288.2.2.1, bt297.1, bt297.2.1, bt297.2.2.1))))))) = some (r1, r2, r3, r4, r5, r6) := h
 clear h
 replace H := Option.bind_eq_some_iff.mp H
 obtain ⟨⟨t284, t285, t286⟩, A20, H⟩ := H
 replace H : ((spec_l1AnyMsg.f t284 t285 t286).bind fun bt288 => ((spec_l1Once.f t284 bt288.2.2.2.1 bt288.2.2.2.2 4).bind fun bt294 => (if bt294.1 = true then (some (bt288.1, bt288.2.1, bt288.2.2.1, bt288.1, bt288.2.1, bt288.2.2.1)) else ((spec_l1AnyMsg.f t284 bt294.2.1 bt294.2.2).bind fun bt297 => (some (bt288.1, bt288.2.1, bt288.2.2.1, bt297.1, bt297.2.1, bt297.2.2.1)))))) = some (r1, r2, r3, r4, r5, r6) := H
 have A2 := am A20
 clear A20
 replace H := Option.bind_eq_some_iff.mp H
 obtain ⟨⟨t288, t289, t290, t291, t292⟩, A30, H⟩ := H
 replace H : ((spec_l1Once.f t284 t291 t292 4).bind fun bt294 => (if bt294.1 = true then (some (t288, t289, t290, t288, t289, t290)) else ((spec_l1AnyMsg.f t284 bt294.2.1 bt294.2.2).bind fun bt297 => (some (t288, t289, t290, bt297.1, bt297.2.1, bt297.2.2.1))))) = some (r1, r2, r3, r4, r5, r6) := H
 have A3 := am A30
 clear A30
 replace H := Option.bind_eq_some_iff.mp H
 obtain ⟨⟨t294, t295, t296⟩, A40, H⟩ := H
 replace H : (if t294 = true then (some (t288, t289, t290, t288, t289, t290)) else ((spec_l1AnyMsg.f t284 t295 t296).bind fun bt297 => (some (t288, t289, t290, bt297.1, bt297.2.1, bt297.2.2.1)))) = some (r1, r2, r3, r4, r5, r6) := H
 have A4 := am A40
 clear A40
 by_cases c5 : t294 = true
 ·subst c5
  replace H : (some (t288, t289, t290, t288, t289, t290)) = some (r1, r2, r3, r4, r5, r6) := by rw [if_pos rfl] at H; exact H
  simp only [Option.some.injEq, Prod.mk.injEq] at H
  obtain ⟨rfl, rfl, rfl, rfl, rfl, rfl⟩ := H
  go_enter Try.func24, Try.ntmps24
  try go_wp2_with (first | ((with_reducible refine gate_dst (N := 2) rfl ?_); refine box_event ?hg (N := 2) ?hd (cs := #[.int .i64 0, .int .i64 0, .string (⟨#[]⟩ : ByteArray)]) (t := 27) ?hr ?_; (case hd => rfl); (case hg => rfl); (case hr => first | (go_simp; done) | (go_simp; rfl)); intro gb282 hg w6 hbox hb; have BK282 := am (hbox); have GW282 := am ((by rw [hg]; exact (below_size (pkB HB.out)) : w.heap.size ≤ gb282)); have GE282 := am ((by rw [hg]; exact (below_size (pkB HB.out)) : w.heap.size ≤ gb282)); replace HB := am (below_step (pkB HB.out) hb); clear hb hbox hg) | ((with_reducible refine gate_dst (N := 3) rfl ?_); refine box_event ?hg (N := 3) ?hd (cs := #[.int .i64 0, .int .i64 0, .string (⟨#[]⟩ : ByteArray)]) (t := 27) ?hr ?_; (case hd => rfl); (case hg => rfl); (case hr => first | (go_simp; done) | (go_simp; rfl)); intro gb283 hg w7 hbox hb; have BK283 := am (hbox); have GW283 := am ((by rw [hg]; exact (below_size (pkW HB.out)) : w.heap.size ≤ gb283)); have GE283 := am ((by rw [hg]; exact (below_size (pkW HB.out)) : w.heap.size ≤ gb283)); replace HB := am (below_step (pkW HB.out) hb); have NB282_283 := am ((by rw [hg]; exact Nat.ne_of_lt (blk_lt (g := gb282) (o := .cells #[.int .i64 0, .int .i64 0, .string (⟨#[]⟩ : ByteArray)] 27 (0, 0)) (pkK BK282.out)) : gb282 ≠ gb283)); have NB283_282 := am ((by rw [hg]; exact Nat.ne_of_gt (blk_lt (g := gb282) (o := .cells #[.int .i64 0, .int .i64 0, .string (⟨#[]⟩ : ByteArray)] 27 (0, 0)) (pkK BK282.out)) : gb283 ≠ gb282)); replace BK282 := am (blk_below (pkK BK282.out) hb); clear hb hbox hg) | ((with_reducible refine gate_callee (f := 41) rfl ?_); refine goesL_ (some 7) rfl rfl Try.func41 (by kernel_rfl) rfl #[.slice A0 l0.length c0] rfl mpx ?_; (with_reducible refine (spec_l1New.calls k _ _ l0 t284 t285 t286 w _ ?side1 ?side2 ?side3 A2.out).mono ?_); (case side1 => repeat (first | (with_reducible first | exact HB.out | apply below_alloc | apply pw_below_drewN | apply below_drew1 | refine below_set ?_ GE282.out | refine below_set ?_ GE283.out) | exact HB.out)); (case side2 => exact HR0.out); (case side3 => exact HC0.out); rintro e w8 ⟨g287, rfl, hi, hb, hb2⟩; refine ⟨_, rfl, ?_⟩; replace HB := am (hb); have HI287 := am (hi); have NB287_282 := am (IsS68.ne_blk hi (blk_below (pkK BK282.out) hb2) (by decide)); have NB282_287 := am (Ne.symm (IsS68.ne_blk hi (blk_below (pkK BK282.out) hb2) (by decide))); replace BK282 := am (blk_below (pkK BK282.out) hb2); have NB287_283 := am (IsS68.ne_blk hi (blk_below (pkK BK283.out) hb2) (by decide)); have NB283_287 := am (Ne.symm (IsS68.ne_blk hi (blk_below (pkK BK283.out) hb2) (by decide))); replace BK283 := am (blk_below (pkK BK283.out) hb2); (try clear hb hb2 hi)) | ((with_reducible refine gate_callee (f := 42) rfl ?_); refine goesL_ (some 9) rfl rfl Try.func42 (by kernel_rfl) rfl #[.pointer (some ⟨g287, 0, none⟩)] rfl mpx ?_; (with_reducible refine (spec_l1AnyMsg.calls g287 t284 t285 t286 t288 t289 t290 t291 t292 w _ ?side1 ?side2 A3.out).mono ?_); (case side1 => repeat (first | (with_reducible first | exact HI287.out | apply IsS68.alloc | apply IsS68.drewN | apply IsS68.drew | apply IsS68.set_1 | apply IsS68.set_2 | refine IsS68.far ?_ NB287_282.out _ | refine IsS68.far ?_ NB287_283.out _) | exact HI287.out)); (case side2 => repeat (first | (with_reducible first | exact HB.out | apply below_alloc | apply pw_below_drewN | apply below_drew1 | refine below_set ?_ (IsS68.ge HI287.out) | refine below_set ?_ GE282.out | refine below_set ?_ GE283.out) | exact HB.out)); rintro e w9 ⟨rfl, hi, hb, hk⟩; refine ⟨_, rfl, ?_⟩; replace BK282 := am (KeepBut.blk hk (g' := gb282) (o := .cells #[.int .i64 0, .int .i64 0, .string (⟨#[]⟩ : ByteArray)] 27 (0, 0)) (pkK BK282.out) NB282_287.out (by simp)); replace BK283 := am (KeepBut.blk hk (g' := gb283) (o := .cells #[.int .i64 0, .int .i64 0, .string (⟨#[]⟩ : ByteArray)] 27 (0, 0)) (pkK BK283.out) NB283_287.out (by simp)); replace HB := am (hb); replace HI287 := am (hi); (try clear hb hk hi)) | ((with_reducible refine gate_dst (N := 5) rfl ?_); refine box_event ?hg (N := 5) ?hd (cs := #[.int .i64 0, .int .i64 0, .string (⟨#[]⟩ : ByteArray)]) (t := 27) ?hr ?_; (case hd => rfl); (case hg => rfl); (case hr => first | (go_simp; done) | (go_simp; rfl)); intro gb293 hg w10 hbox hb; have BK293 := am (hbox); have GW293 := am ((by rw [hg]; exact (below_size (by repeat (first | (with_reducible first | exact HB.out | apply below_alloc | apply pw_below_drewN | apply below_drew1 | refine below_set ?_ (IsS68.ge HI287.out) | refine below_set ?_ GE282.out | refine below_set ?_ GE283.out) | exact HB.out))) : w.heap.size ≤ gb293)); have GE293 := am ((by rw [hg]; exact (below_size (by repeat (first | (with_reducible first | exact HB.out | apply below_alloc | apply pw_below_drewN | apply below_drew1 | refine below_set ?_ (IsS68.ge HI287.out) | refine below_set ?_ GE282.out | refine below_set ?_ GE283.out) | exact HB.out))) : w.heap.size ≤ gb293)); replace HB := am (below_step (by repeat (first | (with_reducible first | exact HB.out | apply below_alloc | apply pw_below_drewN | apply below_drew1 | refine below_set ?_ (IsS68.ge HI287.out) | refine below_set ?_ GE282.out | refine below_set ?_ GE283.out) | exact HB.out)) hb); have NB282_293 := am ((by rw [hg]; exact Nat.ne_of_lt (blk_lt (g := gb282) (o := .cells #[.int .i64 0, .int .i64 0, .string (⟨#[]⟩ : ByteArray)] 27 (0, 0)) (pkK BK282.out)) : gb282 ≠ gb293)); have NB293_282 := am ((by rw [hg]; exact Nat.ne_of_gt (blk_lt (g := gb282) (o := .cells #[.int .i64 0, .int .i64 0, .string (⟨#[]⟩ : ByteArray)] 27 (0, 0)) (pkK BK282.out)) : gb293 ≠ gb282)); replace BK282 := am (blk_below (pkK BK282.out) hb); have NB283_293 := am ((by rw [hg]; exact Nat.ne_of_lt (blk_lt (g := gb283) (o := .cells #[.int .i64 0, .int .i64 0, .string (⟨#[]⟩ : ByteArray)] 27 (0, 0)) (pkK BK283.out)) : gb283 ≠ gb293)); have NB293_283 := am ((by rw [hg]; exact Nat.ne_of_gt (blk_lt (g := gb283) (o := .cells #[.int .i64 0, .int .i64 0, .string (⟨#[]⟩ : ByteArray)] 27 (0, 0)) (pkK BK283.out)) : gb293 ≠ gb283)); replace BK283 := am (blk_below (pkK BK283.out) hb); have NB287_293 := am ((by rw [hg]; exact Nat.ne_of_lt (IsS68.lt (show IsS68 w _ g287 t284 t291 t292 from IsS68.pk HI287.out)) : g287 ≠ gb293)); have NB293_287 := am ((by rw [hg]; exact Nat.ne_of_gt (IsS68.lt (show IsS68 w _ g287 t284 t291 t292 from IsS68.pk HI287.out)) : gb293 ≠ g287)); replace HI287 := am (IsS68.below (IsS68.pk HI287.out) hb); clear hb hbox hg; have hnb11 := NB293_282.out; have hnc11 := NB282_293.out; have hnb12 := NB293_283.out; have hnc12 := NB283_293.out; have hnb13 := NB293_287.out; have hnc13 := NB287_293.out; obtain ⟨hcz14_0, hcz14_1, hcz14_2, hfz14_0, hfz14_1, hfz14_2⟩ := bk3 BK293.out) | ((with_reducible refine gate_callee (f := 43) rfl ?_); refine goesL_ (some 11) rfl rfl Try.func43 (by kernel_rfl) rfl #[.pointer (some ⟨g287, 0, none⟩), .int .i64 4] rfl mpx ?_; (with_reducible refine (spec_l1Once.calls g287 t284 t291 t292 4 true t295 t296 w _ ?side1 ?side2 A4.out).mono ?_); (case side1 => repeat (first | (with_reducible first | exact HI287.out | apply IsS68.alloc | apply IsS68.drewN | apply IsS68.drew | apply IsS68.set_1 | apply IsS68.set_2 | refine IsS68.far ?_ NB287_282.out _ | refine IsS68.far ?_ NB287_283.out _ | refine IsS68.far ?_ NB287_293.out _) | exact HI287.out)); (case side2 => repeat (first | (with_reducible first | exact HB.out | apply below_alloc | apply pw_below_drewN | apply below_drew1 | refine below_set ?_ (IsS68.ge HI287.out) | refine below_set ?_ GE282.out | refine below_set ?_ GE283.out | refine below_set ?_ GE293.out) | exact HB.out)); rintro e w15 ⟨rfl, hi, hb, hk⟩; refine ⟨_, rfl, ?_⟩; replace BK282 := am (KeepBut.blk hk (g' := gb282) (o := .cells #[.int .i64 0, .int .i64 0, .string (⟨#[]⟩ : ByteArray)] 27 (0, 0)) (by (with_reducible repeat (first | refine blk_drewN ?_ _ | refine blk_drew ?_ | refine blk_alloc ?_ _)); refine blk_far ?_ NB282_293.out _; (with_reducible repeat (first | refine blk_drewN ?_ _ | refine blk_drew ?_ | refine blk_alloc ?_ _)); refine blk_far ?_ NB282_293.out _; (with_reducible repeat (first | refine blk_drewN ?_ _ | refine blk_drew ?_ | refine blk_alloc ?_ _)); refine blk_far ?_ NB282_293.out _; exact pkK BK282.out) NB282_287.out (by simp)); replace BK283 := am (KeepBut.blk hk (g' := gb283) (o := .cells #[.int .i64 0, .int .i64 0, .string (⟨#[]⟩ : ByteArray)] 27 (0, 0)) (by (with_reducible repeat (first | refine blk_drewN ?_ _ | refine blk_drew ?_ | refine blk_alloc ?_ _)); refine blk_far ?_ NB283_293.out _; (with_reducible repeat (first | refine blk_drewN ?_ _ | refine blk_drew ?_ | refine blk_alloc ?_ _)); refine blk_far ?_ NB283_293.out _; (with_reducible repeat (first | refine blk_drewN ?_ _ | refine blk_drew ?_ | refine blk_alloc ?_ _)); refine blk_far ?_ NB283_293.out _; exact pkK BK283.out) NB283_287.out (by simp)); replace BK293 := am (KeepBut.blk hk (g' := gb293) (o := .cells #[.int .i64 t288, .int .i64 t289, .string t290] 27 (0, 0)) (by (with_reducible repeat (first | refine blk_drewN ?_ _ | refine blk_drew ?_ | refine blk_alloc ?_ _)); refine blk_put (cs := #[.int .i64 t288, .int .i64 t289, .string (⟨#[]⟩ : ByteArray)]) ?_ 2 _ rfl; (with_reducible repeat (first | refine blk_drewN ?_ _ | refine blk_drew ?_ | refine blk_alloc ?_ _)); refine blk_put (cs := #[.int .i64 t288, .int .i64 0, .string (⟨#[]⟩ : ByteArray)]) ?_ 1 _ rfl; (with_reducible repeat (first | refine blk_drewN ?_ _ | refine blk_drew ?_ | refine blk_alloc ?_ _)); refine blk_put (cs := #[.int .i64 0, .int .i64 0, .string (⟨#[]⟩ : ByteArray)]) ?_ 0 _ rfl; exact pkK BK293.out) NB293_287.out (by simp)); replace HB := am (hb); replace HI287 := am (hi); (try clear hb hk hi)))
  replace BK282 := am (blk_drew BK282.out)
  replace BK283 := am (blk_drew BK283.out)
  replace BK293 := am (blk_drew BK293.out)
  replace HI287 := am (IsS68.drew HI287.out)
  replace HB := am (below_drew1 HB.out)
  refine start_ (n := 4) (S := fun w' => w'.cell? ⟨gb293, 0, none⟩ = some (.int .i64 t288) ∧ w'.cell? ⟨gb293, 1, none⟩ = some (.int .i64 t289) ∧ w'.cell? ⟨gb293, 2, none⟩ = some (.string t290)) (ds := []) #[false, false, false, false] (by kernel_rfl) rfl rfl ⟨(blk_cell BK293.out 0).trans rfl, (blk_cell BK293.out 1).trans rfl, (blk_cell BK293.out 2).trans rfl⟩ (fun hHeld => ?_)
  generalize w15.drew = w16 at BK282 BK283 BK293 HI287 HB hHeld ⊢
  refine take_ (i := 0) (N := some 12) (v := ?_) (a' := ?_) #[true, false, false, false] rfl rfl (by kernel_rfl) (fun _ _ _ h => h) (Or.inl ⟨by rfl, ?_⟩) hHeld ?_ ?_
  rotate_left
  ·rintro w' ⟨s0, s1, s2⟩
   go_simp
   with_reducible rfl
  rotate_left
  ·simp only [Act.put, List.setIfInBounds_toArray, List.set_cons_zero, List.set_cons_succ, i64_w, i32_w]
   rfl
  refine take_ (i := 1) (N := some 13) (v := ?_) (a' := ?_) #[true, true, false, false] rfl rfl (by kernel_rfl) (fun _ _ _ h => h) (Or.inl ⟨by rfl, ?_⟩) hHeld ?_ ?_
  rotate_left
  ·rintro w' ⟨s0, s1, s2⟩
   go_simp
   with_reducible rfl
  rotate_left
  ·simp only [Act.put, List.setIfInBounds_toArray, List.set_cons_zero, List.set_cons_succ, i64_w, i32_w]
   rfl
  refine one_ (i := 2) (N := none) #[true, true, true, false] rfl rfl (by kernel_rfl) (by decide) (fun K hK => ?_)
  have hs17 : w16.cell? ⟨gb282, 0, none⟩ = some (.int .i64 0) := (blk_cell BK282.out 0).trans rfl
  have hfs17 := blk_frozen BK282.out 0
  have hns17_1 := NB283_282.out
  have hns17_2 := NB293_282.out
  have hms17_1 := NB282_283.out
  have hms17_2 := NB282_293.out
  have hs18 : w16.cell? ⟨gb282, 1, none⟩ = some (.int .i64 0) := (blk_cell BK282.out 1).trans rfl
  have hfs18 := blk_frozen BK282.out 1
  have hns18_1 := NB283_282.out
  have hns18_2 := NB293_282.out
  have hms18_1 := NB282_283.out
  have hms18_2 := NB282_293.out
  have hs19 : w16.cell? ⟨gb282, 2, none⟩ = some (.string (⟨#[]⟩ : ByteArray)) := (blk_cell BK282.out 2).trans rfl
  have hfs19 := blk_frozen BK282.out 2
  have hns19_1 := NB283_282.out
  have hns19_2 := NB293_282.out
  have hms19_1 := NB282_283.out
  have hms19_2 := NB282_293.out
  refine skip_ (w1 := ?_) (by rfl) rfl ?_ ?_
  rotate_left
  ·go_simp
   rfl
  refine hK.out _ _ ⟨((cell_far (p := ⟨gb282, _, none⟩) NB293_282.out _).trans (((cell_far (p := ⟨gb282, _, none⟩) NB293_282.out _).trans (((cell_far (p := ⟨gb282, _, none⟩) NB293_282.out _).trans (hHeld.1)))))), ((cell_far (p := ⟨gb282, _, none⟩) NB293_282.out _).trans (((cell_far (p := ⟨gb282, _, none⟩) NB293_282.out _).trans (((cell_far (p := ⟨gb282, _, none⟩) NB293_282.out _).trans (hHeld.2.1)))))), ((cell_far (p := ⟨gb282, _, none⟩) NB293_282.out _).trans (((cell_far (p := ⟨gb282, _, none⟩) NB293_282.out _).trans (((cell_far (p := ⟨gb282, _, none⟩) NB293_282.out _).trans (hHeld.2.2))))))⟩ (fun hHeld => ?_)
  clear hK K
  refine one_ (i := 3) (N := none) #[true, true, true, true] rfl rfl (by kernel_rfl) (by decide) (fun K hK => ?_)
  have hs20 : w16.cell? ⟨gb283, 0, none⟩ = some (.int .i64 0) := (blk_cell BK283.out 0).trans rfl
  have hfs20 := blk_frozen BK283.out 0
  have hns20_0 := NB282_283.out
  have hns20_2 := NB293_283.out
  have hms20_0 := NB283_282.out
  have hms20_2 := NB283_293.out
  have hs21 : w16.cell? ⟨gb283, 1, none⟩ = some (.int .i64 0) := (blk_cell BK283.out 1).trans rfl
  have hfs21 := blk_frozen BK283.out 1
  have hns21_0 := NB282_283.out
  have hns21_2 := NB293_283.out
  have hms21_0 := NB283_282.out
  have hms21_2 := NB283_293.out
  have hs22 : w16.cell? ⟨gb283, 2, none⟩ = some (.string (⟨#[]⟩ : ByteArray)) := (blk_cell BK283.out 2).trans rfl
  have hfs22 := blk_frozen BK283.out 2
  have hns22_0 := NB282_283.out
  have hns22_2 := NB293_283.out
  have hms22_0 := NB283_282.out
  have hms22_2 := NB283_293.out
  refine skip_ (w1 := ?_) (by rfl) rfl ?_ ?_
  rotate_left
  ·go_simp
   rfl
  refine hK.out _ _ ⟨((cell_far (p := ⟨gb283, _, none⟩) NB293_283.out _).trans (((cell_far (p := ⟨gb283, _, none⟩) NB293_283.out _).trans (((cell_far (p := ⟨gb283, _, none⟩) NB293_283.out _).trans (hHeld.1)))))), ((cell_far (p := ⟨gb283, _, none⟩) NB293_283.out _).trans (((cell_far (p := ⟨gb283, _, none⟩) NB293_283.out _).trans (((cell_far (p := ⟨gb283, _, none⟩) NB293_283.out _).trans (hHeld.2.1)))))), ((cell_far (p := ⟨gb283, _, none⟩) NB293_283.out _).trans (((cell_far (p := ⟨gb283, _, none⟩) NB293_283.out _).trans (((cell_far (p := ⟨gb283, _, none⟩) NB293_283.out _).trans (hHeld.2.2))))))⟩ (fun hHeld => ?_)
  clear hK K
  refine done_ (by kernel_rfl) ?_
  try go_wp2
  refine bodyPost_ret (results_cc rfl _ _ gb282 gb283 27 27 #[.int .i64 t288, .int .i64 t289, .string t290] #[.int .i64 t288, .int .i64 t289, .string t290] (0, 0) (0, 0) _ _ rfl (by (with_reducible repeat (first | refine blk_drewN ?_ _ | refine blk_drew ?_ | refine blk_alloc ?_ _)); refine blk_far ?_ NB282_283.out _; (with_reducible repeat (first | refine blk_drewN ?_ _ | refine blk_drew ?_ | refine blk_alloc ?_ _)); refine blk_far ?_ NB282_283.out _; (with_reducible repeat (first | refine blk_drewN ?_ _ | refine blk_drew ?_ | refine blk_alloc ?_ _)); refine blk_far ?_ NB282_283.out _; (with_reducible repeat (first | refine blk_drewN ?_ _ | refine blk_drew ?_ | refine blk_alloc ?_ _)); refine blk_put (cs := #[.int .i64 t288, .int .i64 t289, .string (⟨#[]⟩ : ByteArray)]) ?_ 2 _ rfl; (with_reducible repeat (first | refine blk_drewN ?_ _ | refine blk_drew ?_ | refine blk_alloc ?_ _)); refine blk_put (cs := #[.int .i64 t288, .int .i64 0, .string (⟨#[]⟩ : ByteArray)]) ?_ 1 _ rfl; (with_reducible repeat (first | refine blk_drewN ?_ _ | refine blk_drew ?_ | refine blk_alloc ?_ _)); refine blk_put (cs := #[.int .i64 0, .int .i64 0, .string (⟨#[]⟩ : ByteArray)]) ?_ 0 _ rfl; exact pkK BK282.out) Try.underlying27 rfl (by kernel_rfl) rfl (by (with_reducible repeat (first | refine blk_drewN ?_ _ | refine blk_drew ?_ | refine blk_alloc ?_ _)); refine blk_put (cs := #[.int .i64 t288, .int .i64 t289, .string (⟨#[]⟩ : ByteArray)]) ?_ 2 _ rfl; (with_reducible repeat (first | refine blk_drewN ?_ _ | refine blk_drew ?_ | refine blk_alloc ?_ _)); refine blk_put (cs := #[.int .i64 t288, .int .i64 0, .string (⟨#[]⟩ : ByteArray)]) ?_ 1 _ rfl; (with_reducible repeat (first | refine blk_drewN ?_ _ | refine blk_drew ?_ | refine blk_alloc ?_ _)); refine blk_put (cs := #[.int .i64 0, .int .i64 0, .string (⟨#[]⟩ : ByteArray)]) ?_ 0 _ rfl; (with_reducible repeat (first | refine blk_drewN ?_ _ | refine blk_drew ?_ | refine blk_alloc ?_ _)); refine blk_far ?_ NB283_282.out _; (with_reducible repeat (first | refine blk_drewN ?_ _ | refine blk_drew ?_ | refine blk_alloc ?_ _)); refine blk_far ?_ NB283_282.out _; (with_reducible repeat (first | refine blk_drewN ?_ _ | refine blk_drew ?_ | refine blk_alloc ?_ _)); refine blk_far ?_ NB283_282.out _; exact pkK BK283.out) Try.underlying27 rfl (by kernel_rfl)) rfl ?_
  exact ⟨rfe, by repeat (first | (with_reducible first | exact HB.out | apply below_alloc | apply pw_below_drewN | apply below_drew1 | refine below_set ?_ (IsS68.ge HI287.out) | refine below_set ?_ GE282.out | refine below_set ?_ GE283.out | refine below_set ?_ GE293.out) | exact HB.out)⟩
 ·replace c5 := Bool.eq_false_iff.mpr c5
  subst c5
  replace H : ((spec_l1AnyMsg.f t284 t295 t296).bind fun bt297 => (some (t288, t289, t290, bt297.1, bt297.2.1, bt297.2.2.1))) = some (r1, r2, r3, r4, r5, r6) := by rw [if_neg (show ¬ (false = true) by decide)] at H; exact H
  replace H := Option.bind_eq_some_iff.mp H
  obtain ⟨⟨t297, t298, t299, t300, t301⟩, A230, H⟩ := H
  replace H : (some (t288, t289, t290, t297, t298, t299)) = some (r1, r2, r3, r4, r5, r6) := H
  have A23 := am A230
  clear A230
  simp only [Option.some.injEq, Prod.mk.injEq] at H
  obtain ⟨rfl, rfl, rfl, rfl, rfl, rfl⟩ := H
  go_enter Try.func24, Try.ntmps24
  try go_wp2_with (first | ((with_reducible refine gate_dst (N := 2) rfl ?_); refine box_event ?hg (N := 2) ?hd (cs := #[.int .i64 0, .int .i64 0, .string (⟨#[]⟩ : ByteArray)]) (t := 27) ?hr ?_; (case hd => rfl); (case hg => rfl); (case hr => first | (go_simp; done) | (go_simp; rfl)); intro gb282 hg w24 hbox hb; have BK282 := am (hbox); have GW282 := am ((by rw [hg]; exact (below_size (pkB HB.out)) : w.heap.size ≤ gb282)); have GE282 := am ((by rw [hg]; exact (below_size (pkB HB.out)) : w.heap.size ≤ gb282)); replace HB := am (below_step (pkB HB.out) hb); clear hb hbox hg) | ((with_reducible refine gate_dst (N := 3) rfl ?_); refine box_event ?hg (N := 3) ?hd (cs := #[.int .i64 0, .int .i64 0, .string (⟨#[]⟩ : ByteArray)]) (t := 27) ?hr ?_; (case hd => rfl); (case hg => rfl); (case hr => first | (go_simp; done) | (go_simp; rfl)); intro gb283 hg w25 hbox hb; have BK283 := am (hbox); have GW283 := am ((by rw [hg]; exact (below_size (pkW HB.out)) : w.heap.size ≤ gb283)); have GE283 := am ((by rw [hg]; exact (below_size (pkW HB.out)) : w.heap.size ≤ gb283)); replace HB := am (below_step (pkW HB.out) hb); have NB282_283 := am ((by rw [hg]; exact Nat.ne_of_lt (blk_lt (g := gb282) (o := .cells #[.int .i64 0, .int .i64 0, .string (⟨#[]⟩ : ByteArray)] 27 (0, 0)) (pkK BK282.out)) : gb282 ≠ gb283)); have NB283_282 := am ((by rw [hg]; exact Nat.ne_of_gt (blk_lt (g := gb282) (o := .cells #[.int .i64 0, .int .i64 0, .string (⟨#[]⟩ : ByteArray)] 27 (0, 0)) (pkK BK282.out)) : gb283 ≠ gb282)); replace BK282 := am (blk_below (pkK BK282.out) hb); clear hb hbox hg) | ((with_reducible refine gate_callee (f := 41) rfl ?_); refine goesL_ (some 7) rfl rfl Try.func41 (by kernel_rfl) rfl #[.slice A0 l0.length c0] rfl mpx ?_; (with_reducible refine (spec_l1New.calls k _ _ l0 t284 t285 t286 w _ ?side1 ?side2 ?side3 A2.out).mono ?_); (case side1 => repeat (first | (with_reducible first | exact HB.out | apply below_alloc | apply pw_below_drewN | apply below_drew1 | refine below_set ?_ GE282.out | refine below_set ?_ GE283.out) | exact HB.out)); (case side2 => exact HR0.out); (case side3 => exact HC0.out); rintro e w26 ⟨g287, rfl, hi, hb, hb2⟩; refine ⟨_, rfl, ?_⟩; replace HB := am (hb); have HI287 := am (hi); have NB287_282 := am (IsS68.ne_blk hi (blk_below (pkK BK282.out) hb2) (by decide)); have NB282_287 := am (Ne.symm (IsS68.ne_blk hi (blk_below (pkK BK282.out) hb2) (by decide))); replace BK282 := am (blk_below (pkK BK282.out) hb2); have NB287_283 := am (IsS68.ne_blk hi (blk_below (pkK BK283.out) hb2) (by decide)); have NB283_287 := am (Ne.symm (IsS68.ne_blk hi (blk_below (pkK BK283.out) hb2) (by decide))); replace BK283 := am (blk_below (pkK BK283.out) hb2); (try clear hb hb2 hi)) | ((with_reducible refine gate_callee (f := 42) rfl ?_); refine goesL_ (some 9) rfl rfl Try.func42 (by kernel_rfl) rfl #[.pointer (some ⟨g287, 0, none⟩)] rfl mpx ?_; (with_reducible refine (spec_l1AnyMsg.calls g287 t284 t285 t286 t288 t289 t290 t291 t292 w _ ?side1 ?side2 A3.out).mono ?_); (case side1 => repeat (first | (with_reducible first | exact HI287.out | apply IsS68.alloc | apply IsS68.drewN | apply IsS68.drew | apply IsS68.set_1 | apply IsS68.set_2 | refine IsS68.far ?_ NB287_282.out _ | refine IsS68.far ?_ NB287_283.out _) | exact HI287.out)); (case side2 => repeat (first | (with_reducible first | exact HB.out | apply below_alloc | apply pw_below_drewN | apply below_drew1 | refine below_set ?_ (IsS68.ge HI287.out) | refine below_set ?_ GE282.out | refine below_set ?_ GE283.out) | exact HB.out)); rintro e w27 ⟨rfl, hi, hb, hk⟩; refine ⟨_, rfl, ?_⟩; replace BK282 := am (KeepBut.blk hk (g' := gb282) (o := .cells #[.int .i64 0, .int .i64 0, .string (⟨#[]⟩ : ByteArray)] 27 (0, 0)) (pkK BK282.out) NB282_287.out (by simp)); replace BK283 := am (KeepBut.blk hk (g' := gb283) (o := .cells #[.int .i64 0, .int .i64 0, .string (⟨#[]⟩ : ByteArray)] 27 (0, 0)) (pkK BK283.out) NB283_287.out (by simp)); replace HB := am (hb); replace HI287 := am (hi); (try clear hb hk hi)) | ((with_reducible refine gate_dst (N := 5) rfl ?_); refine box_event ?hg (N := 5) ?hd (cs := #[.int .i64 0, .int .i64 0, .string (⟨#[]⟩ : ByteArray)]) (t := 27) ?hr ?_; (case hd => rfl); (case hg => rfl); (case hr => first | (go_simp; done) | (go_simp; rfl)); intro gb293 hg w28 hbox hb; have BK293 := am (hbox); have GW293 := am ((by rw [hg]; exact (below_size (by repeat (first | (with_reducible first | exact HB.out | apply below_alloc | apply pw_below_drewN | apply below_drew1 | refine below_set ?_ (IsS68.ge HI287.out) | refine below_set ?_ GE282.out | refine below_set ?_ GE283.out) | exact HB.out))) : w.heap.size ≤ gb293)); have GE293 := am ((by rw [hg]; exact (below_size (by repeat (first | (with_reducible first | exact HB.out | apply below_alloc | apply pw_below_drewN | apply below_drew1 | refine below_set ?_ (IsS68.ge HI287.out) | refine below_set ?_ GE282.out | refine below_set ?_ GE283.out) | exact HB.out))) : w.heap.size ≤ gb293)); replace HB := am (below_step (by repeat (first | (with_reducible first | exact HB.out | apply below_alloc | apply pw_below_drewN | apply below_drew1 | refine below_set ?_ (IsS68.ge HI287.out) | refine below_set ?_ GE282.out | refine below_set ?_ GE283.out) | exact HB.out)) hb); have NB282_293 := am ((by rw [hg]; exact Nat.ne_of_lt (blk_lt (g := gb282) (o := .cells #[.int .i64 0, .int .i64 0, .string (⟨#[]⟩ : ByteArray)] 27 (0, 0)) (pkK BK282.out)) : gb282 ≠ gb293)); have NB293_282 := am ((by rw [hg]; exact Nat.ne_of_gt (blk_lt (g := gb282) (o := .cells #[.int .i64 0, .int .i64 0, .string (⟨#[]⟩ : ByteArray)] 27 (0, 0)) (pkK BK282.out)) : gb293 ≠ gb282)); replace BK282 := am (blk_below (pkK BK282.out) hb); have NB283_293 := am ((by rw [hg]; exact Nat.ne_of_lt (blk_lt (g := gb283) (o := .cells #[.int .i64 0, .int .i64 0, .string (⟨#[]⟩ : ByteArray)] 27 (0, 0)) (pkK BK283.out)) : gb283 ≠ gb293)); have NB293_283 := am ((by rw [hg]; exact Nat.ne_of_gt (blk_lt (g := gb283) (o := .cells #[.int .i64 0, .int .i64 0, .string (⟨#[]⟩ : ByteArray)] 27 (0, 0)) (pkK BK283.out)) : gb293 ≠ gb283)); replace BK283 := am (blk_below (pkK BK283.out) hb); have NB287_293 := am ((by rw [hg]; exact Nat.ne_of_lt (IsS68.lt (show IsS68 w _ g287 t284 t291 t292 from IsS68.pk HI287.out)) : g287 ≠ gb293)); have NB293_287 := am ((by rw [hg]; exact Nat.ne_of_gt (IsS68.lt (show IsS68 w _ g287 t284 t291 t292 from IsS68.pk HI287.out)) : gb293 ≠ g287)); replace HI287 := am (IsS68.below (IsS68.pk HI287.out) hb); clear hb hbox hg; have hnb29 := NB293_282.out; have hnc29 := NB282_293.out; have hnb30 := NB293_283.out; have hnc30 := NB283_293.out; have hnb31 := NB293_287.out; have hnc31 := NB287_293.out; obtain ⟨hcz32_0, hcz32_1, hcz32_2, hfz32_0, hfz32_1, hfz32_2⟩ := bk3 BK293.out) | ((with_reducible refine gate_callee (f := 43) rfl ?_); refine goesL_ (some 11) rfl rfl Try.func43 (by kernel_rfl) rfl #[.pointer (some ⟨g287, 0, none⟩), .int .i64 4] rfl mpx ?_; (with_reducible refine (spec_l1Once.calls g287 t284 t291 t292 4 false t295 t296 w _ ?side1 ?side2 A4.out).mono ?_); (case side1 => repeat (first | (with_reducible first | exact HI287.out | apply IsS68.alloc | apply IsS68.drewN | apply IsS68.drew | apply IsS68.set_1 | apply IsS68.set_2 | refine IsS68.far ?_ NB287_282.out _ | refine IsS68.far ?_ NB287_283.out _ | refine IsS68.far ?_ NB287_293.out _) | exact HI287.out)); (case side2 => repeat (first | (with_reducible first | exact HB.out | apply below_alloc | apply pw_below_drewN | apply below_drew1 | refine below_set ?_ (IsS68.ge HI287.out) | refine below_set ?_ GE282.out | refine below_set ?_ GE283.out | refine below_set ?_ GE293.out) | exact HB.out)); rintro e w33 ⟨rfl, hi, hb, hk⟩; refine ⟨_, rfl, ?_⟩; replace BK282 := am (KeepBut.blk hk (g' := gb282) (o := .cells #[.int .i64 0, .int .i64 0, .string (⟨#[]⟩ : ByteArray)] 27 (0, 0)) (by (with_reducible repeat (first | refine blk_drewN ?_ _ | refine blk_drew ?_ | refine blk_alloc ?_ _)); refine blk_far ?_ NB282_293.out _; (with_reducible repeat (first | refine blk_drewN ?_ _ | refine blk_drew ?_ | refine blk_alloc ?_ _)); refine blk_far ?_ NB282_293.out _; (with_reducible repeat (first | refine blk_drewN ?_ _ | refine blk_drew ?_ | refine blk_alloc ?_ _)); refine blk_far ?_ NB282_293.out _; exact pkK BK282.out) NB282_287.out (by simp)); replace BK283 := am (KeepBut.blk hk (g' := gb283) (o := .cells #[.int .i64 0, .int .i64 0, .string (⟨#[]⟩ : ByteArray)] 27 (0, 0)) (by (with_reducible repeat (first | refine blk_drewN ?_ _ | refine blk_drew ?_ | refine blk_alloc ?_ _)); refine blk_far ?_ NB283_293.out _; (with_reducible repeat (first | refine blk_drewN ?_ _ | refine blk_drew ?_ | refine blk_alloc ?_ _)); refine blk_far ?_ NB283_293.out _; (with_reducible repeat (first | refine blk_drewN ?_ _ | refine blk_drew ?_ | refine blk_alloc ?_ _)); refine blk_far ?_ NB283_293.out _; exact pkK BK283.out) NB283_287.out (by simp)); replace BK293 := am (KeepBut.blk hk (g' := gb293) (o := .cells #[.int .i64 t288, .int .i64 t289, .string t290] 27 (0, 0)) (by (with_reducible repeat (first | refine blk_drewN ?_ _ | refine blk_drew ?_ | refine blk_alloc ?_ _)); refine blk_put (cs := #[.int .i64 t288, .int .i64 t289, .string (⟨#[]⟩ : ByteArray)]) ?_ 2 _ rfl; (with_reducible repeat (first | refine blk_drewN ?_ _ | refine blk_drew ?_ | refine blk_alloc ?_ _)); refine blk_put (cs := #[.int .i64 t288, .int .i64 0, .string (⟨#[]⟩ : ByteArray)]) ?_ 1 _ rfl; (with_reducible repeat (first | refine blk_drewN ?_ _ | refine blk_drew ?_ | refine blk_alloc ?_ _)); refine blk_put (cs := #[.int .i64 0, .int .i64 0, .string (⟨#[]⟩ : ByteArray)]) ?_ 0 _ rfl; exact pkK BK293.out) NB293_287.out (by simp)); replace HB := am (hb); replace HI287 := am (hi); (try clear hb hk hi)))
  replace BK282 := am (blk_drew BK282.out)
  replace BK283 := am (blk_drew BK283.out)
  replace BK293 := am (blk_drew BK293.out)
  replace HI287 := am (IsS68.drew HI287.out)
  replace HB := am (below_drew1 HB.out)
  refine start_ (n := 5) (S := fun w' => w'.cell? ⟨gb293, 0, none⟩ = some (.int .i64 t288) ∧ w'.cell? ⟨gb293, 1, none⟩ = some (.int .i64 t289) ∧ w'.cell? ⟨gb293, 2, none⟩ = some (.string t290)) (ds := []) #[false, false, false, false, false] (by kernel_rfl) rfl rfl ⟨(blk_cell BK293.out 0).trans rfl, (blk_cell BK293.out 1).trans rfl, (blk_cell BK293.out 2).trans rfl⟩ (fun hHeld => ?_)
  generalize w33.drew = w34 at BK282 BK283 BK293 HI287 HB hHeld ⊢
  refine pure_ (i := 1) (N := some 15) (v := ?_) (a' := ?_) #[false, true, false, false, false] rfl rfl (by kernel_rfl) (fun _ _ _ h => h) (Or.inl ⟨by rfl, ?_⟩) ?_ ?_
  rotate_left
  ·intro w'
   go_simp
   with_reducible rfl
  rotate_left
  ·simp only [Act.put, List.setIfInBounds_toArray, List.set_cons_zero, List.set_cons_succ, i64_w, i32_w]
   rfl
  refine take_ (i := 0) (N := some 14) (v := ?_) (a' := ?_) #[true, true, false, false, false] rfl rfl (by kernel_rfl) (fun _ _ _ h => h) (Or.inl ⟨by rfl, ?_⟩) hHeld ?_ ?_
  rotate_left
  ·rintro w' ⟨s0, s1, s2⟩
   go_simp
   with_reducible rfl
  rotate_left
  ·simp only [Act.put, List.setIfInBounds_toArray, List.set_cons_zero, List.set_cons_succ, i64_w, i32_w]
   rfl
  refine one_ (i := 2) (N := some 16) #[true, true, true, false, false] rfl rfl (by kernel_rfl) (by decide) (fun K hK => ?_)
  refine goes_ Try.func42 (by kernel_rfl) rfl #[.pointer (some ⟨g287, 0, none⟩)] (by rfl) rfl rfl mpx ?_
  with_reducible refine (spec_l1AnyMsg.calls g287 t284 t295 t296 t297 t298 t299 t300 t301 w _ ?side1 ?side2 A23.out).mono ?_
  (case side1 => repeat (first | (with_reducible first | exact HI287.out | apply IsS68.alloc | apply IsS68.drewN | apply IsS68.drew | apply IsS68.set_1 | apply IsS68.set_2 | refine IsS68.far ?_ NB287_282.out _ | refine IsS68.far ?_ NB287_283.out _ | refine IsS68.far ?_ NB287_293.out _) | exact HI287.out))
  (case side2 => repeat (first | (with_reducible first | exact HB.out | apply below_alloc | apply pw_below_drewN | apply below_drew1 | refine below_set ?_ (IsS68.ge HI287.out) | refine below_set ?_ GE282.out | refine below_set ?_ GE283.out | refine below_set ?_ GE293.out) | exact HB.out))
  rintro e w35 ⟨rfl, hi, hb, hk⟩
  refine ⟨_, rfl, ?_⟩
  replace BK282 := am (KeepBut.blk hk (g' := gb282) (o := .cells #[.int .i64 0, .int .i64 0, .string (⟨#[]⟩ : ByteArray)] 27 (0, 0)) (pkK BK282.out) NB282_287.out (by simp))
  replace BK283 := am (KeepBut.blk hk (g' := gb283) (o := .cells #[.int .i64 0, .int .i64 0, .string (⟨#[]⟩ : ByteArray)] 27 (0, 0)) (pkK BK283.out) NB283_287.out (by simp))
  replace BK293 := am (KeepBut.blk hk (g' := gb293) (o := .cells #[.int .i64 t288, .int .i64 t289, .string t290] 27 (0, 0)) (pkK BK293.out) NB293_287.out (by simp))
  replace HB := am (hb)
  replace HI287 := am (hi)
  (try clear hb); (try clear hk hi)
  refine hK.out _ _ ⟨(blk_cell BK293.out 0).trans rfl, (blk_cell BK293.out 1).trans rfl, (blk_cell BK293.out 2).trans rfl⟩ (fun hHeld => ?_)
  clear hK K
  refine norm_ (a' := ?_) ?_ ?_
  rotate_left
  ·show Act.put _ (some 16) _ = _
   simp only [Act.put, List.setIfInBounds_toArray, List.set_cons_zero, List.set_cons_succ, i64_w, i32_w]
   rfl
  refine one_ (i := 3) (N := none) #[true, true, true, true, false] rfl rfl (by kernel_rfl) (by decide) (fun K hK => ?_)
  have hs36 : w35.cell? ⟨gb282, 0, none⟩ = some (.int .i64 0) := (blk_cell BK282.out 0).trans rfl
  have hfs36 := blk_frozen BK282.out 0
  have hns36_1 := NB283_282.out
  have hns36_2 := NB293_282.out
  have hms36_1 := NB282_283.out
  have hms36_2 := NB282_293.out
  have hs37 : w35.cell? ⟨gb282, 1, none⟩ = some (.int .i64 0) := (blk_cell BK282.out 1).trans rfl
  have hfs37 := blk_frozen BK282.out 1
  have hns37_1 := NB283_282.out
  have hns37_2 := NB293_282.out
  have hms37_1 := NB282_283.out
  have hms37_2 := NB282_293.out
  have hs38 : w35.cell? ⟨gb282, 2, none⟩ = some (.string (⟨#[]⟩ : ByteArray)) := (blk_cell BK282.out 2).trans rfl
  have hfs38 := blk_frozen BK282.out 2
  have hns38_1 := NB283_282.out
  have hns38_2 := NB293_282.out
  have hms38_1 := NB282_283.out
  have hms38_2 := NB282_293.out
  refine skip_ (w1 := ?_) (by rfl) rfl ?_ ?_
  rotate_left
  ·go_simp
   rfl
  refine hK.out _ _ ⟨((cell_far (p := ⟨gb282, _, none⟩) NB293_282.out _).trans (((cell_far (p := ⟨gb282, _, none⟩) NB293_282.out _).trans (((cell_far (p := ⟨gb282, _, none⟩) NB293_282.out _).trans (hHeld.1)))))), ((cell_far (p := ⟨gb282, _, none⟩) NB293_282.out _).trans (((cell_far (p := ⟨gb282, _, none⟩) NB293_282.out _).trans (((cell_far (p := ⟨gb282, _, none⟩) NB293_282.out _).trans (hHeld.2.1)))))), ((cell_far (p := ⟨gb282, _, none⟩) NB293_282.out _).trans (((cell_far (p := ⟨gb282, _, none⟩) NB293_282.out _).trans (((cell_far (p := ⟨gb282, _, none⟩) NB293_282.out _).trans (hHeld.2.2))))))⟩ (fun hHeld => ?_)
  clear hK K
  refine one_ (i := 4) (N := none) #[true, true, true, true, true] rfl rfl (by kernel_rfl) (by decide) (fun K hK => ?_)
  have hs39 : w35.cell? ⟨gb283, 0, none⟩ = some (.int .i64 0) := (blk_cell BK283.out 0).trans rfl
  have hfs39 := blk_frozen BK283.out 0
  have hns39_0 := NB282_283.out
  have hns39_2 := NB293_283.out
  have hms39_0 := NB283_282.out
  have hms39_2 := NB283_293.out
  have hs40 : w35.cell? ⟨gb283, 1, none⟩ = some (.int .i64 0) := (blk_cell BK283.out 1).trans rfl
  have hfs40 := blk_frozen BK283.out 1
  have hns40_0 := NB282_283.out
  have hns40_2 := NB293_283.out
  have hms40_0 := NB283_282.out
  have hms40_2 := NB283_293.out
  have hs41 : w35.cell? ⟨gb283, 2, none⟩ = some (.string (⟨#[]⟩ : ByteArray)) := (blk_cell BK283.out 2).trans rfl
  have hfs41 := blk_frozen BK283.out 2
  have hns41_0 := NB282_283.out
  have hns41_2 := NB293_283.out
  have hms41_0 := NB283_282.out
  have hms41_2 := NB283_293.out
  refine skip_ (w1 := ?_) (by rfl) rfl ?_ ?_
  rotate_left
  ·go_simp
   rfl
  refine hK.out _ _ ⟨((cell_far (p := ⟨gb283, _, none⟩) NB293_283.out _).trans (((cell_far (p := ⟨gb283, _, none⟩) NB293_283.out _).trans (((cell_far (p := ⟨gb283, _, none⟩) NB293_283.out _).trans (hHeld.1)))))), ((cell_far (p := ⟨gb283, _, none⟩) NB293_283.out _).trans (((cell_far (p := ⟨gb283, _, none⟩) NB293_283.out _).trans (((cell_far (p := ⟨gb283, _, none⟩) NB293_283.out _).trans (hHeld.2.1)))))), ((cell_far (p := ⟨gb283, _, none⟩) NB293_283.out _).trans (((cell_far (p := ⟨gb283, _, none⟩) NB293_283.out _).trans (((cell_far (p := ⟨gb283, _, none⟩) NB293_283.out _).trans (hHeld.2.2))))))⟩ (fun hHeld => ?_)
  clear hK K
  refine done_ (by kernel_rfl) ?_
  try go_wp2
  refine bodyPost_ret (results_cc rfl _ _ gb282 gb283 27 27 #[.int .i64 t288, .int .i64 t289, .string t290] #[.int .i64 t297, .int .i64 t298, .string t299] (0, 0) (0, 0) _ _ rfl (by (with_reducible repeat (first | refine blk_drewN ?_ _ | refine blk_drew ?_ | refine blk_alloc ?_ _)); refine blk_far ?_ NB282_283.out _; (with_reducible repeat (first | refine blk_drewN ?_ _ | refine blk_drew ?_ | refine blk_alloc ?_ _)); refine blk_far ?_ NB282_283.out _; (with_reducible repeat (first | refine blk_drewN ?_ _ | refine blk_drew ?_ | refine blk_alloc ?_ _)); refine blk_far ?_ NB282_283.out _; (with_reducible repeat (first | refine blk_drewN ?_ _ | refine blk_drew ?_ | refine blk_alloc ?_ _)); refine blk_put (cs := #[.int .i64 t288, .int .i64 t289, .string (⟨#[]⟩ : ByteArray)]) ?_ 2 _ rfl; (with_reducible repeat (first | refine blk_drewN ?_ _ | refine blk_drew ?_ | refine blk_alloc ?_ _)); refine blk_put (cs := #[.int .i64 t288, .int .i64 0, .string (⟨#[]⟩ : ByteArray)]) ?_ 1 _ rfl; (with_reducible repeat (first | refine blk_drewN ?_ _ | refine blk_drew ?_ | refine blk_alloc ?_ _)); refine blk_put (cs := #[.int .i64 0, .int .i64 0, .string (⟨#[]⟩ : ByteArray)]) ?_ 0 _ rfl; exact pkK BK282.out) Try.underlying27 rfl (by kernel_rfl) rfl (by (with_reducible repeat (first | refine blk_drewN ?_ _ | refine blk_drew ?_ | refine blk_alloc ?_ _)); refine blk_put (cs := #[.int .i64 t297, .int .i64 t298, .string (⟨#[]⟩ : ByteArray)]) ?_ 2 _ rfl; (with_reducible repeat (first | refine blk_drewN ?_ _ | refine blk_drew ?_ | refine blk_alloc ?_ _)); refine blk_put (cs := #[.int .i64 t297, .int .i64 0, .string (⟨#[]⟩ : ByteArray)]) ?_ 1 _ rfl; (with_reducible repeat (first | refine blk_drewN ?_ _ | refine blk_drew ?_ | refine blk_alloc ?_ _)); refine blk_put (cs := #[.int .i64 0, .int .i64 0, .string (⟨#[]⟩ : ByteArray)]) ?_ 0 _ rfl; (with_reducible repeat (first | refine blk_drewN ?_ _ | refine blk_drew ?_ | refine blk_alloc ?_ _)); refine blk_far ?_ NB283_282.out _; (with_reducible repeat (first | refine blk_drewN ?_ _ | refine blk_drew ?_ | refine blk_alloc ?_ _)); refine blk_far ?_ NB283_282.out _; (with_reducible repeat (first | refine blk_drewN ?_ _ | refine blk_drew ?_ | refine blk_alloc ?_ _)); refine blk_far ?_ NB283_282.out _; exact pkK BK283.out) Try.underlying27 rfl (by kernel_rfl)) rfl ?_
  exact ⟨rfe, by repeat (first | (with_reducible first | exact HB.out | apply below_alloc | apply pw_below_drewN | apply below_drew1 | refine below_set ?_ (IsS68.ge HI287.out) | refine below_set ?_ GE282.out | refine below_set ?_ GE283.out | refine below_set ?_ GE293.out) | exact HB.out)⟩
end Go.Proofs.Ytalehmhjddnmoaa.Z
