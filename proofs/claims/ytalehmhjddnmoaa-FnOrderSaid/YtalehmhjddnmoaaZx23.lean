import Derived.Test.YtalehmhjddnmoaaZx0
import Derived.Test.YtalehmhjddnmoaaZx17
import Derived.Test.YtalehmhjddnmoaaZx19
import Derived.Test.YtalehmhjddnmoaaZx22
namespace Go.Proofs.Ytalehmhjddnmoaa.Z
open Go.RowKit Go.Proofs.YtalehmhjddnmoaaW.PrintWords Go.Proofs.YtalehmhjddnmoaaW.PrintLast Go.Proofs.YtalehmhjddnmoaaW.PrintMore
attribute [local go_sem] max2_int min2_int max_two min_two max_three min_three max_four min_four   -- for this text's walks alone
set_option linter.unusedVariables false
set_option linter.unusedSimpArgs false
def spec_DrawMsgLess.f (k : Nat) (l0 : List Int) : Option (Int × Int × ByteArray × Int × Int × ByteArray) := (spec_l1New.f k l0).bind fun bt268 => ((spec_l1AnyMsg.f bt268.1 bt268.2.1 bt268.2.2).bind fun bt272 => ((spec_l1Once.f bt268.1 bt272.2.2.2.1 bt272.2.2.2.2 4).bind fun bt278 => (if bt278.1 = true then (some (bt272.1, bt272.2.1, bt272.2.2.1, bt272.1, bt272.2.1, bt272.2.2.1)) else ((spec_l1AnyMsg.f bt268.1 bt278.2.1 bt278.2.2).bind fun bt281 => (some (bt272.1, bt272.2.1, bt272.2.2.1, bt281.1, bt281.2.1, bt281.2.2.1))))))
theorem spec_DrawMsgLess.mono : ∀ a0 k, LeO (spec_DrawMsgLess.f k a0) (spec_DrawMsgLess.f (k + 1) a0) := by
 intro a0 k
 unfold spec_DrawMsgLess.f
 repeat' first
   | (with_reducible exact spec_l1New.mono _ _)
   | (with_reducible exact LeO.refl _)
   | (with_reducible exact LeO.none _)
   | (with_reducible refine LeO.ite ?_ ?_)
   | (with_reducible refine LeO.bind ?_ (fun _ => ?_))
set_option maxHeartbeats 8000000 in
set_option maxRecDepth 100000 in
theorem spec_DrawMsgLess.calls (k : Nat) (A0 : Option Addr) (c0 : Nat) (l0 : List Int) (r1 : Int) (r2 : Int) (r3 : ByteArray) (r4 : Int) (r5 : Int) (r6 : ByteArray) (w : World) (hr0 : Kd.C (Kd.int .u8) w A0 l0.length l0) (hc0 : l0.length ≤ c0) (h : spec_DrawMsgLess.f k l0 = some (r1, r2, r3, r4, r5, r6)) :
  Calls Try.prog 24 #[.slice A0 l0.length c0] w fun e w' => e = .returned (.tuple #[.agg #[.int .i64 r1, .int .i64 r2, .string r3], .agg #[.int .i64 r4, .int .i64 r5, .string r6]]) ∧ Below w.heap.size w w' := by
 have hu27 := Try.underlying27
 have HR0 := am hr0
 have HC0 := am hc0
 clear hr0 hc0
 have HB := am (Below.refl w.heap.size w)
 have H : ((spec_l1New.f k l0).bind fun bt268 => ((spec_l1AnyMsg.f bt268.1 bt268.2.1 bt268.2.2).bind fun bt272 => ((spec_l1Once.f bt268.1 bt272.2.2.2.1 bt272.2.2.2.2 4).bind fun bt278 => (if bt278.1 = true then (some (bt272.1, bt272.2.1, bt272.2.2.1, bt272.1, bt272.2.1, bt272.2.2.1)) else ((spec_l1AnyMsg.f bt268.1 bt278.2.1 bt278.2.2).bind fun bt281 => (some (bt272.1, bt272.2.1, bt272.2.2.1, bt281.1, bt281.2.1, bt281.2.2.1))))))) = some (r1, r2, r3, r4, r5, r6) := h
 clear h
 replace H := Option.bind_eq_some_iff.mp H
 obtain ⟨⟨t268, t269, t270⟩, A20, H⟩ := H
 replace H : ((spec_l1AnyMsg.f t268 t269 t270).bind fun bt272 => ((spec_l1Once.f t268 bt272.2.2.2.1 bt272.2.2.2.2 4).bind fun bt278 => (if bt278.1 = true then (some (bt272.1, bt272.2.1, bt272.2.2.1, bt272.1, bt272.2.1, bt272.2.2.1)) else ((spec_l1AnyMsg.f t268 bt278.2.1 bt278.2.2).bind fun bt281 => (some (bt272.1, bt272.2.1, bt272.2.2.1, bt281.1, bt281.2.1, bt281.2.2.1)))))) = some (r1, r2, r3, r4, r5, r6) := H
 have A2 := am A20
 clear A20
 replace H := Option.bind_eq_some_iff.mp H
 obtain ⟨⟨t272, t273, t274, t275, t276⟩, A30, H⟩ := H
 replace H : ((spec_l1Once.f t268 t275 t276 4).bind fun bt278 => (if bt278.1 = true then (some (t272, t273, t274, t272, t273, t274)) else ((spec_l1AnyMsg.f t268 bt278.2.1 bt278.2.2).bind fun bt281 => (some (t272, t273, t274, bt281.1, bt281.2.1, bt281.2.2.1))))) = some (r1, r2, r3, r4, r5, r6) := H
 have A3 := am A30
 clear A30
 replace H := Option.bind_eq_some_iff.mp H
 obtain ⟨⟨t278, t279, t280⟩, A40, H⟩ := H
 replace H : (if t278 = true then (some (t272, t273, t274, t272, t273, t274)) else ((spec_l1AnyMsg.f t268 t279 t280).bind fun bt281 => (some (t272, t273, t274, bt281.1, bt281.2.1, bt281.2.2.1)))) = some (r1, r2, r3, r4, r5, r6) := H
 have A4 := am A40
 clear A40
 by_cases c5 : t278 = true
 ·subst c5
  replace H : (some (t272, t273, t274, t272, t273, t274)) = some (r1, r2, r3, r4, r5, r6) := by rw [if_pos rfl] at H; exact H
  simp only [Option.some.injEq, Prod.mk.injEq] at H
  obtain ⟨rfl, rfl, rfl, rfl, rfl, rfl⟩ := H
  go_enter Try.func24, Try.ntmps24
  try go_wp2_with (first | ((with_reducible refine gate_dst (N := 2) rfl ?_); refine box_event ?hg (N := 2) ?hd (cs := #[.int .i64 0, .int .i64 0, .string (⟨#[]⟩ : ByteArray)]) (t := 27) ?hr ?_; (case hd => rfl); (case hg => rfl); (case hr => first | (go_simp; done) | (go_simp; rfl)); intro gb266 hg w6 hbox hb; have BK266 := am (hbox); have GW266 := am ((by rw [hg]; exact (below_size (pkB HB.out)) : w.heap.size ≤ gb266)); have GE266 := am ((by rw [hg]; exact (below_size (pkB HB.out)) : w.heap.size ≤ gb266)); replace HB := am (below_step (pkB HB.out) hb); clear hb hbox hg) | ((with_reducible refine gate_dst (N := 3) rfl ?_); refine box_event ?hg (N := 3) ?hd (cs := #[.int .i64 0, .int .i64 0, .string (⟨#[]⟩ : ByteArray)]) (t := 27) ?hr ?_; (case hd => rfl); (case hg => rfl); (case hr => first | (go_simp; done) | (go_simp; rfl)); intro gb267 hg w7 hbox hb; have BK267 := am (hbox); have GW267 := am ((by rw [hg]; exact (below_size (pkW HB.out)) : w.heap.size ≤ gb267)); have GE267 := am ((by rw [hg]; exact (below_size (pkW HB.out)) : w.heap.size ≤ gb267)); replace HB := am (below_step (pkW HB.out) hb); have NB266_267 := am ((by rw [hg]; exact Nat.ne_of_lt (blk_lt (g := gb266) (o := .cells #[.int .i64 0, .int .i64 0, .string (⟨#[]⟩ : ByteArray)] 27 (0, 0)) (pkK BK266.out)) : gb266 ≠ gb267)); have NB267_266 := am ((by rw [hg]; exact Nat.ne_of_gt (blk_lt (g := gb266) (o := .cells #[.int .i64 0, .int .i64 0, .string (⟨#[]⟩ : ByteArray)] 27 (0, 0)) (pkK BK266.out)) : gb267 ≠ gb266)); replace BK266 := am (blk_below (pkK BK266.out) hb); clear hb hbox hg) | ((with_reducible refine gate_callee (f := 41) rfl ?_); refine goesL_ (some 7) rfl rfl Try.func41 (by kernel_rfl) rfl #[.slice A0 l0.length c0] rfl mpx ?_; (with_reducible refine (spec_l1New.calls k _ _ l0 t268 t269 t270 w _ ?side1 ?side2 ?side3 A2.out).mono ?_); (case side1 => repeat (first | (with_reducible first | exact HB.out | apply below_alloc | apply pw_below_drewN | apply below_drew1 | refine below_set ?_ GE266.out | refine below_set ?_ GE267.out) | exact HB.out)); (case side2 => exact HR0.out); (case side3 => exact HC0.out); rintro e w8 ⟨g271, rfl, hi, hb, hb2⟩; refine ⟨_, rfl, ?_⟩; replace HB := am (hb); have HI271 := am (hi); have NB271_266 := am (IsS68.ne_blk hi (blk_below (pkK BK266.out) hb2) (by decide)); have NB266_271 := am (Ne.symm (IsS68.ne_blk hi (blk_below (pkK BK266.out) hb2) (by decide))); replace BK266 := am (blk_below (pkK BK266.out) hb2); have NB271_267 := am (IsS68.ne_blk hi (blk_below (pkK BK267.out) hb2) (by decide)); have NB267_271 := am (Ne.symm (IsS68.ne_blk hi (blk_below (pkK BK267.out) hb2) (by decide))); replace BK267 := am (blk_below (pkK BK267.out) hb2); (try clear hb hb2 hi)) | ((with_reducible refine gate_callee (f := 42) rfl ?_); refine goesL_ (some 9) rfl rfl Try.func42 (by kernel_rfl) rfl #[.pointer (some ⟨g271, 0, none⟩)] rfl mpx ?_; (with_reducible refine (spec_l1AnyMsg.calls g271 t268 t269 t270 t272 t273 t274 t275 t276 w _ ?side1 ?side2 A3.out).mono ?_); (case side1 => repeat (first | (with_reducible first | exact HI271.out | apply IsS68.alloc | apply IsS68.drewN | apply IsS68.drew | apply IsS68.set_1 | apply IsS68.set_2 | refine IsS68.far ?_ NB271_266.out _ | refine IsS68.far ?_ NB271_267.out _) | exact HI271.out)); (case side2 => repeat (first | (with_reducible first | exact HB.out | apply below_alloc | apply pw_below_drewN | apply below_drew1 | refine below_set ?_ (IsS68.ge HI271.out) | refine below_set ?_ GE266.out | refine below_set ?_ GE267.out) | exact HB.out)); rintro e w9 ⟨rfl, hi, hb, hk⟩; refine ⟨_, rfl, ?_⟩; replace BK266 := am (KeepBut.blk hk (g' := gb266) (o := .cells #[.int .i64 0, .int .i64 0, .string (⟨#[]⟩ : ByteArray)] 27 (0, 0)) (pkK BK266.out) NB266_271.out (by simp)); replace BK267 := am (KeepBut.blk hk (g' := gb267) (o := .cells #[.int .i64 0, .int .i64 0, .string (⟨#[]⟩ : ByteArray)] 27 (0, 0)) (pkK BK267.out) NB267_271.out (by simp)); replace HB := am (hb); replace HI271 := am (hi); (try clear hb hk hi)) | ((with_reducible refine gate_dst (N := 5) rfl ?_); refine box_event ?hg (N := 5) ?hd (cs := #[.int .i64 0, .int .i64 0, .string (⟨#[]⟩ : ByteArray)]) (t := 27) ?hr ?_; (case hd => rfl); (case hg => rfl); (case hr => first | (go_simp; done) | (go_simp; rfl)); intro gb277 hg w10 hbox hb; have BK277 := am (hbox); have GW277 := am ((by rw [hg]; exact (below_size (by repeat (first | (with_reducible first | exact HB.out | apply below_alloc | apply pw_below_drewN | apply below_drew1 | refine below_set ?_ (IsS68.ge HI271.out) | refine below_set ?_ GE266.out | refine below_set ?_ GE267.out) | exact HB.out))) : w.heap.size ≤ gb277)); have GE277 := am ((by rw [hg]; exact (below_size (by repeat (first | (with_reducible first | exact HB.out | apply below_alloc | apply pw_below_drewN | apply below_drew1 | refine below_set ?_ (IsS68.ge HI271.out) | refine below_set ?_ GE266.out | refine below_set ?_ GE267.out) | exact HB.out))) : w.heap.size ≤ gb277)); replace HB := am (below_step (by repeat (first | (with_reducible first | exact HB.out | apply below_alloc | apply pw_below_drewN | apply below_drew1 | refine below_set ?_ (IsS68.ge HI271.out) | refine below_set ?_ GE266.out | refine below_set ?_ GE267.out) | exact HB.out)) hb); have NB266_277 := am ((by rw [hg]; exact Nat.ne_of_lt (blk_lt (g := gb266) (o := .cells #[.int .i64 0, .int .i64 0, .string (⟨#[]⟩ : ByteArray)] 27 (0, 0)) (pkK BK266.out)) : gb266 ≠ gb277)); have NB277_266 := am ((by rw [hg]; exact Nat.ne_of_gt (blk_lt (g := gb266) (o := .cells #[.int .i64 0, .int .i64 0, .string (⟨#[]⟩ : ByteArray)] 27 (0, 0)) (pkK BK266.out)) : gb277 ≠ gb266)); replace BK266 := am (blk_below (pkK BK266.out) hb); have NB267_277 := am ((by rw [hg]; exact Nat.ne_of_lt (blk_lt (g := gb267) (o := .cells #[.int .i64 0, .int .i64 0, .string (⟨#[]⟩ : ByteArray)] 27 (0, 0)) (pkK BK267.out)) : gb267 ≠ gb277)); have NB277_267 := am ((by rw [hg]; exact Nat.ne_of_gt (blk_lt (g := gb267) (o := .cells #[.int .i64 0, .int .i64 0, .string (⟨#[]⟩ : ByteArray)] 27 (0, 0)) (pkK BK267.out)) : gb277 ≠ gb267)); replace BK267 := am (blk_below (pkK BK267.out) hb); have NB271_277 := am ((by rw [hg]; exact Nat.ne_of_lt (IsS68.lt (show IsS68 w _ g271 t268 t275 t276 from IsS68.pk HI271.out)) : g271 ≠ gb277)); have NB277_271 := am ((by rw [hg]; exact Nat.ne_of_gt (IsS68.lt (show IsS68 w _ g271 t268 t275 t276 from IsS68.pk HI271.out)) : gb277 ≠ g271)); replace HI271 := am (IsS68.below (IsS68.pk HI271.out) hb); clear hb hbox hg; have hnb11 := NB277_266.out; have hnc11 := NB266_277.out; have hnb12 := NB277_267.out; have hnc12 := NB267_277.out; have hnb13 := NB277_271.out; have hnc13 := NB271_277.out; obtain ⟨hcz14_0, hcz14_1, hcz14_2, hfz14_0, hfz14_1, hfz14_2⟩ := bk3 BK277.out) | ((with_reducible refine gate_callee (f := 43) rfl ?_); refine goesL_ (some 11) rfl rfl Try.func43 (by kernel_rfl) rfl #[.pointer (some ⟨g271, 0, none⟩), .int .i64 4] rfl mpx ?_; (with_reducible refine (spec_l1Once.calls g271 t268 t275 t276 4 true t279 t280 w _ ?side1 ?side2 A4.out).mono ?_); (case side1 => repeat (first | (with_reducible first | exact HI271.out | apply IsS68.alloc | apply IsS68.drewN | apply IsS68.drew | apply IsS68.set_1 | apply IsS68.set_2 | refine IsS68.far ?_ NB271_266.out _ | refine IsS68.far ?_ NB271_267.out _ | refine IsS68.far ?_ NB271_277.out _) | exact HI271.out)); (case side2 => repeat (first | (with_reducible first | exact HB.out | apply below_alloc | apply pw_below_drewN | apply below_drew1 | refine below_set ?_ (IsS68.ge HI271.out) | refine below_set ?_ GE266.out | refine below_set ?_ GE267.out | refine below_set ?_ GE277.out) | exact HB.out)); rintro e w15 ⟨rfl, hi, hb, hk⟩; refine ⟨_, rfl, ?_⟩; replace BK266 := am (KeepBut.blk hk (g' := gb266) (o := .cells #[.int .i64 0, .int .i64 0, .string (⟨#[]⟩ : ByteArray)] 27 (0, 0)) (by (with_reducible repeat (first | refine blk_drewN ?_ _ | refine blk_drew ?_ | refine blk_alloc ?_ _)); refine blk_far ?_ NB266_277.out _; (with_reducible repeat (first | refine blk_drewN ?_ _ | refine blk_drew ?_ | refine blk_alloc ?_ _)); refine blk_far ?_ NB266_277.out _; (with_reducible repeat (first | refine blk_drewN ?_ _ | refine blk_drew ?_ | refine blk_alloc ?_ _)); refine blk_far ?_ NB266_277.out _; exact pkK BK266.out) NB266_271.out (by simp)); replace BK267 := am (KeepBut.blk hk (g' := gb267) (o := .cells #[.int .i64 0, .int .i64 0, .string (⟨#[]⟩ : ByteArray)] 27 (0, 0)) (by (with_reducible repeat (first | refine blk_drewN ?_ _ | refine blk_drew ?_ | refine blk_alloc ?_ _)); refine blk_far ?_ NB267_277.out _; (with_reducible repeat (first | refine blk_drewN ?_ _ | refine blk_drew ?_ | refine blk_alloc ?_ _)); refine blk_far ?_ NB267_277.out _; (with_reducible repeat (first | refine blk_drewN ?_ _ | refine blk_drew ?_ | refine blk_alloc ?_ _)); refine blk_far ?_ NB267_277.out _; exact pkK BK267.out) NB267_271.out (by simp)); replace BK277 := am (KeepBut.blk hk (g' := gb277) (o := .cells #[.int .i64 t272, .int .i64 t273, .string t274] 27 (0, 0)) (by (with_reducible repeat (first | refine blk_drewN ?_ _ | refine blk_drew ?_ | refine blk_alloc ?_ _)); refine blk_put (cs := #[.int .i64 t272, .int .i64 t273, .string (⟨#[]⟩ : ByteArray)]) ?_ 2 _ rfl; (with_reducible repeat (first | refine blk_drewN ?_ _ | refine blk_drew ?_ | refine blk_alloc ?_ _)); refine blk_put (cs := #[.int .i64 t272, .int .i64 0, .string (⟨#[]⟩ : ByteArray)]) ?_ 1 _ rfl; (with_reducible repeat (first | refine blk_drewN ?_ _ | refine blk_drew ?_ | refine blk_alloc ?_ _)); refine blk_put (cs := #[.int .i64 0, .int .i64 0, .string (⟨#[]⟩ : ByteArray)]) ?_ 0 _ rfl; exact pkK BK277.out) NB277_271.out (by simp)); replace HB := am (hb); replace HI271 := am (hi); (try clear hb hk hi)))
  replace BK266 := am (blk_drew BK266.out)
  replace BK267 := am (blk_drew BK267.out)
  replace BK277 := am (blk_drew BK277.out)
  replace HI271 := am (IsS68.drew HI271.out)
  replace HB := am (below_drew1 HB.out)
  refine start_ (n := 4) (S := fun w' => w'.cell? ⟨gb277, 0, none⟩ = some (.int .i64 t272) ∧ w'.cell? ⟨gb277, 1, none⟩ = some (.int .i64 t273) ∧ w'.cell? ⟨gb277, 2, none⟩ = some (.string t274)) (ds := []) #[false, false, false, false] (by kernel_rfl) rfl rfl ⟨(blk_cell BK277.out 0).trans rfl, (blk_cell BK277.out 1).trans rfl, (blk_cell BK277.out 2).trans rfl⟩ (fun hHeld => ?_)
  generalize w15.drew = w16 at BK266 BK267 BK277 HI271 HB hHeld ⊢
  refine take_ (i := 0) (N := some 12) (v := ?_) (a' := ?_) #[true, false, false, false] rfl rfl (by kernel_rfl) (fun _ _ _ h => h) (Or.inl ⟨by rfl, ?_⟩) hHeld ?_ ?_
  rotate_left
  ·rintro w' ⟨s0, s1, s2⟩
   go_simp
   with_reducible rfl
  rotate_left
  ·simp only [Act.put, List.setIfInBounds_toArray, List.set_cons_zero, List.set_cons_succ, i64_w, i32_w]
   rfl
  refine take_ (i := 1) (N := some 13) (v := ?_) (a' := ?_) #[true, true, false, false] rfl rfl (by kernel_rfl) (fun _ _ _ h => h) (Or.inl ⟨by rfl, ?_⟩) hHeld ?_ ?_
  rotate_left
  ·rintro w' ⟨s0, s1, s2⟩
   go_simp
   with_reducible rfl
  rotate_left
  ·simp only [Act.put, List.setIfInBounds_toArray, List.set_cons_zero, List.set_cons_succ, i64_w, i32_w]
   rfl
  refine one_ (i := 2) (N := none) #[true, true, true, false] rfl rfl (by kernel_rfl) (by decide) (fun K hK => ?_)
  have hs17 : w16.cell? ⟨gb266, 0, none⟩ = some (.int .i64 0) := (blk_cell BK266.out 0).trans rfl
  have hfs17 := blk_frozen BK266.out 0
  have hns17_1 := NB267_266.out
  have hns17_2 := NB277_266.out
  have hms17_1 := NB266_267.out
  have hms17_2 := NB266_277.out
  have hs18 : w16.cell? ⟨gb266, 1, none⟩ = some (.int .i64 0) := (blk_cell BK266.out 1).trans rfl
  have hfs18 := blk_frozen BK266.out 1
  have hns18_1 := NB267_266.out
  have hns18_2 := NB277_266.out
  have hms18_1 := NB266_267.out
  have hms18_2 := NB266_277.out
  have hs19 : w16.cell? ⟨gb266, 2, none⟩ = some (.string (⟨#[]⟩ : ByteArray)) := (blk_cell BK266.out 2).trans rfl
  have hfs19 := blk_frozen BK266.out 2
  have hns19_1 := NB267_266.out
  have hns19_2 := NB277_266.out
  have hms19_1 := NB266_267.out
  have hms19_2 := NB266_277.out
  refine skip_ (w1 := ?_) (by rfl) rfl ?_ ?_
  rotate_left
  ·go_simp
   rfl
  refine hK.out _ _ ⟨((cell_far (p := ⟨gb266, _, none⟩) NB277_266.out _).trans (((cell_far (p := ⟨gb266, _, none⟩) NB277_266.out _).trans (((cell_far (p := ⟨gb266, _, none⟩) NB277_266.out _).trans (hHeld.1)))))), ((cell_far (p := ⟨gb266, _, none⟩) NB277_266.out _).trans (((cell_far (p := ⟨gb266, _, none⟩) NB277_266.out _).trans (((cell_far (p := ⟨gb266, _, none⟩) NB277_266.out _).trans (hHeld.2.1)))))), ((cell_far (p := ⟨gb266, _, none⟩) NB277_266.out _).trans (((cell_far (p := ⟨gb266, _, none⟩) NB277_266.out _).trans (((cell_far (p := ⟨gb266, _, none⟩) NB277_266.out _).trans (hHeld.2.2))))))⟩ (fun hHeld => ?_)
  clear hK K
  refine one_ (i := 3) (N := none) #[true, true, true, true] rfl rfl (by kernel_rfl) (by decide) (fun K hK => ?_)
  have hs20 : w16.cell? ⟨gb267, 0, none⟩ = some (.int .i64 0) := (blk_cell BK267.out 0).trans rfl
  have hfs20 := blk_frozen BK267.out 0
  have hns20_0 := NB266_267.out
  have hns20_2 := NB277_267.out
  have hms20_0 := NB267_266.out
  have hms20_2 := NB267_277.out
  have hs21 : w16.cell? ⟨gb267, 1, none⟩ = some (.int .i64 0) := (blk_cell BK267.out 1).trans rfl
  have hfs21 := blk_frozen BK267.out 1
  have hns21_0 := NB266_267.out
  have hns21_2 := NB277_267.out
  have hms21_0 := NB267_266.out
  have hms21_2 := NB267_277.out
  have hs22 : w16.cell? ⟨gb267, 2, none⟩ = some (.string (⟨#[]⟩ : ByteArray)) := (blk_cell BK267.out 2).trans rfl
  have hfs22 := blk_frozen BK267.out 2
  have hns22_0 := NB266_267.out
  have hns22_2 := NB277_267.out
  have hms22_0 := NB267_266.out
  have hms22_2 := NB267_277.out
  refine skip_ (w1 := ?_) (by rfl) rfl ?_ ?_
  rotate_left
  ·go_simp
   rfl
  refine hK.out _ _ ⟨((cell_far (p := ⟨gb267, _, none⟩) NB277_267.out _).trans (((cell_far (p := ⟨gb267, _, none⟩) NB277_267.out _).trans (((cell_far (p := ⟨gb267, _, none⟩) NB277_267.out _).trans (hHeld.1)))))), ((cell_far (p := ⟨gb267, _, none⟩) NB277_267.out _).trans (((cell_far (p := ⟨gb267, _, none⟩) NB277_267.out _).trans (((cell_far (p := ⟨gb267, _, none⟩) NB277_267.out _).trans (hHeld.2.1)))))), ((cell_far (p := ⟨gb267, _, none⟩) NB277_267.out _).trans (((cell_far (p := ⟨gb267, _, none⟩) NB277_267.out _).trans (((cell_far (p := ⟨gb267, _, none⟩) NB277_267.out _).trans (hHeld.2.2))))))⟩ (fun hHeld => ?_)
  clear hK K
  refine done_ (by kernel_rfl) ?_
  try go_wp2
  refine bodyPost_ret (results_cc rfl _ _ gb266 gb267 27 27 #[.int .i64 t272, .int .i64 t273, .string t274] #[.int .i64 t272, .int .i64 t273, .string t274] (0, 0) (0, 0) _ _ rfl (by (with_reducible repeat (first | refine blk_drewN ?_ _ | refine blk_drew ?_ | refine blk_alloc ?_ _)); refine blk_far ?_ NB266_267.out _; (with_reducible repeat (first | refine blk_drewN ?_ _ | refine blk_drew ?_ | refine blk_alloc ?_ _)); refine blk_far ?_ NB266_267.out _; (with_reducible repeat (first | refine blk_drewN ?_ _ | refine blk_drew ?_ | refine blk_alloc ?_ _)); refine blk_far ?_ NB266_267.out _; (with_reducible repeat (first | refine blk_drewN ?_ _ | refine blk_drew ?_ | refine blk_alloc ?_ _)); refine blk_put (cs := #[.int .i64 t272, .int .i64 t273, .string (⟨#[]⟩ : ByteArray)]) ?_ 2 _ rfl; (with_reducible repeat (first | refine blk_drewN ?_ _ | refine blk_drew ?_ | refine blk_alloc ?_ _)); refine blk_put (cs := #[.int .i64 t272, .int .i64 0, .string (⟨#[]⟩ : ByteArray)]) ?_ 1 _ rfl; (with_reducible repeat (first | refine blk_drewN ?_ _ | refine blk_drew ?_ | refine blk_alloc ?_ _)); refine blk_put (cs := #[.int .i64 0, .int .i64 0, .string (⟨#[]⟩ : ByteArray)]) ?_ 0 _ rfl; exact pkK BK266.out) Try.underlying27 rfl (by kernel_rfl) rfl (by (with_reducible repeat (first | refine blk_drewN ?_ _ | refine blk_drew ?_ | refine blk_alloc ?_ _)); refine blk_put (cs := #[.int .i64 t272, .int .i64 t273, .string (⟨#[]⟩ : ByteArray)]) ?_ 2 _ rfl; (with_reducible repeat (first | refine blk_drewN ?_ _ | refine blk_drew ?_ | refine blk_alloc ?_ _)); refine blk_put (cs := #[.int .i64 t272, .int .i64 0, .string (⟨#[]⟩ : ByteArray)]) ?_ 1 _ rfl; (with_reducible repeat (first | refine blk_drewN ?_ _ | refine blk_drew ?_ | refine blk_alloc ?_ _)); refine blk_put (cs := #[.int .i64 0, .int .i64 0, .string (⟨#[]⟩ : ByteArray)]) ?_ 0 _ rfl; (with_reducible repeat (first | refine blk_drewN ?_ _ | refine blk_drew ?_ | refine blk_alloc ?_ _)); refine blk_far ?_ NB267_266.out _; (with_reducible repeat (first | refine blk_drewN ?_ _ | refine blk_drew ?_ | refine blk_alloc ?_ _)); refine blk_far ?_ NB267_266.out _; (with_reducible repeat (first | refine blk_drewN ?_ _ | refine blk_drew ?_ | refine blk_alloc ?_ _)); refine blk_far ?_ NB267_266.out _; exact pkK BK267.out) Try.underlying27 rfl (by kernel_rfl)) rfl ?_
  exact ⟨rfe, by repeat (first | (with_reducible first | exact HB.out | apply below_alloc | apply pw_below_drewN | apply below_drew1 | refine below_set ?_ (IsS68.ge HI271.out) | refine below_set ?_ GE266.out | refine below_set ?_ GE267.out | refine below_set ?_ GE277.out) | exact HB.out)⟩
 ·replace c5 := Bool.eq_false_iff.mpr c5
  subst c5
  replace H : ((spec_l1AnyMsg.f t268 t279 t280).bind fun bt281 => (some (t272, t273, t274, bt281.1, bt281.2.1, bt281.2.2.1))) = some (r1, r2, r3, r4, r5, r6) := by rw [if_neg (show ¬ (false = true) by decide)] at H; exact H
  replace H := Option.bind_eq_some_iff.mp H
  obtain ⟨⟨t281, t282, t283, t284, t285⟩, A230, H⟩ := H
  replace H : (some (t272, t273, t274, t281, t282, t283)) = some (r1, r2, r3, r4, r5, r6) := H
  have A23 := am A230
  clear A230
  simp only [Option.some.injEq, Prod.mk.injEq] at H
  obtain ⟨rfl, rfl, rfl, rfl, rfl, rfl⟩ := H
  go_enter Try.func24, Try.ntmps24
  try go_wp2_with (first | ((with_reducible refine gate_dst (N := 2) rfl ?_); refine box_event ?hg (N := 2) ?hd (cs := #[.int .i64 0, .int .i64 0, .string (⟨#[]⟩ : ByteArray)]) (t := 27) ?hr ?_; (case hd => rfl); (case hg => rfl); (case hr => first | (go_simp; done) | (go_simp; rfl)); intro gb266 hg w24 hbox hb; have BK266 := am (hbox); have GW266 := am ((by rw [hg]; exact (below_size (pkB HB.out)) : w.heap.size ≤ gb266)); have GE266 := am ((by rw [hg]; exact (below_size (pkB HB.out)) : w.heap.size ≤ gb266)); replace HB := am (below_step (pkB HB.out) hb); clear hb hbox hg) | ((with_reducible refine gate_dst (N := 3) rfl ?_); refine box_event ?hg (N := 3) ?hd (cs := #[.int .i64 0, .int .i64 0, .string (⟨#[]⟩ : ByteArray)]) (t := 27) ?hr ?_; (case hd => rfl); (case hg => rfl); (case hr => first | (go_simp; done) | (go_simp; rfl)); intro gb267 hg w25 hbox hb; have BK267 := am (hbox); have GW267 := am ((by rw [hg]; exact (below_size (pkW HB.out)) : w.heap.size ≤ gb267)); have GE267 := am ((by rw [hg]; exact (below_size (pkW HB.out)) : w.heap.size ≤ gb267)); replace HB := am (below_step (pkW HB.out) hb); have NB266_267 := am ((by rw [hg]; exact Nat.ne_of_lt (blk_lt (g := gb266) (o := .cells #[.int .i64 0, .int .i64 0, .string (⟨#[]⟩ : ByteArray)] 27 (0, 0)) (pkK BK266.out)) : gb266 ≠ gb267)); have NB267_266 := am ((by rw [hg]; exact Nat.ne_of_gt (blk_lt (g := gb266) (o := .cells #[.int .i64 0, .int .i64 0, .string (⟨#[]⟩ : ByteArray)] 27 (0, 0)) (pkK BK266.out)) : gb267 ≠ gb266)); replace BK266 := am (blk_below (pkK BK266.out) hb); clear hb hbox hg) | ((with_reducible refine gate_callee (f := 41) rfl ?_); refine goesL_ (some 7) rfl rfl Try.func41 (by kernel_rfl) rfl #[.slice A0 l0.length c0] rfl mpx ?_; (with_reducible refine (spec_l1New.calls k _ _ l0 t268 t269 t270 w _ ?side1 ?side2 ?side3 A2.out).mono ?_); (case side1 => repeat (first | (with_reducible first | exact HB.out | apply below_alloc | apply pw_below_drewN | apply below_drew1 | refine below_set ?_ GE266.out | refine below_set ?_ GE267.out) | exact HB.out)); (case side2 => exact HR0.out); (case side3 => exact HC0.out); rintro e w26 ⟨g271, rfl, hi, hb, hb2⟩; refine ⟨_, rfl, ?_⟩; replace HB := am (hb); have HI271 := am (hi); have NB271_266 := am (IsS68.ne_blk hi (blk_below (pkK BK266.out) hb2) (by decide)); have NB266_271 := am (Ne.symm (IsS68.ne_blk hi (blk_below (pkK BK266.out) hb2) (by decide))); replace BK266 := am (blk_below (pkK BK266.out) hb2); have NB271_267 := am (IsS68.ne_blk hi (blk_below (pkK BK267.out) hb2) (by decide)); have NB267_271 := am (Ne.symm (IsS68.ne_blk hi (blk_below (pkK BK267.out) hb2) (by decide))); replace BK267 := am (blk_below (pkK BK267.out) hb2); (try clear hb hb2 hi)) | ((with_reducible refine gate_callee (f := 42) rfl ?_); refine goesL_ (some 9) rfl rfl Try.func42 (by kernel_rfl) rfl #[.pointer (some ⟨g271, 0, none⟩)] rfl mpx ?_; (with_reducible refine (spec_l1AnyMsg.calls g271 t268 t269 t270 t272 t273 t274 t275 t276 w _ ?side1 ?side2 A3.out).mono ?_); (case side1 => repeat (first | (with_reducible first | exact HI271.out | apply IsS68.alloc | apply IsS68.drewN | apply IsS68.drew | apply IsS68.set_1 | apply IsS68.set_2 | refine IsS68.far ?_ NB271_266.out _ | refine IsS68.far ?_ NB271_267.out _) | exact HI271.out)); (case side2 => repeat (first | (with_reducible first | exact HB.out | apply below_alloc | apply pw_below_drewN | apply below_drew1 | refine below_set ?_ (IsS68.ge HI271.out) | refine below_set ?_ GE266.out | refine below_set ?_ GE267.out) | exact HB.out)); rintro e w27 ⟨rfl, hi, hb, hk⟩; refine ⟨_, rfl, ?_⟩; replace BK266 := am (KeepBut.blk hk (g' := gb266) (o := .cells #[.int .i64 0, .int .i64 0, .string (⟨#[]⟩ : ByteArray)] 27 (0, 0)) (pkK BK266.out) NB266_271.out (by simp)); replace BK267 := am (KeepBut.blk hk (g' := gb267) (o := .cells #[.int .i64 0, .int .i64 0, .string (⟨#[]⟩ : ByteArray)] 27 (0, 0)) (pkK BK267.out) NB267_271.out (by simp)); replace HB := am (hb); replace HI271 := am (hi); (try clear hb hk hi)) | ((with_reducible refine gate_dst (N := 5) rfl ?_); refine box_event ?hg (N := 5) ?hd (cs := #[.int .i64 0, .int .i64 0, .string (⟨#[]⟩ : ByteArray)]) (t := 27) ?hr ?_; (case hd => rfl); (case hg => rfl); (case hr => first | (go_simp; done) | (go_simp; rfl)); intro gb277 hg w28 hbox hb; have BK277 := am (hbox); have GW277 := am ((by rw [hg]; exact (below_size (by repeat (first | (with_reducible first | exact HB.out | apply below_alloc | apply pw_below_drewN | apply below_drew1 | refine below_set ?_ (IsS68.ge HI271.out) | refine below_set ?_ GE266.out | refine below_set ?_ GE267.out) | exact HB.out))) : w.heap.size ≤ gb277)); have GE277 := am ((by rw [hg]; exact (below_size (by repeat (first | (with_reducible first | exact HB.out | apply below_alloc | apply pw_below_drewN | apply below_drew1 | refine below_set ?_ (IsS68.ge HI271.out) | refine below_set ?_ GE266.out | refine below_set ?_ GE267.out) | exact HB.out))) : w.heap.size ≤ gb277)); replace HB := am (below_step (by repeat (first | (with_reducible first | exact HB.out | apply below_alloc | apply pw_below_drewN | apply below_drew1 | refine below_set ?_ (IsS68.ge HI271.out) | refine below_set ?_ GE266.out | refine below_set ?_ GE267.out) | exact HB.out)) hb); have NB266_277 := am ((by rw [hg]; exact Nat.ne_of_lt (blk_lt (g := gb266) (o := .cells #[.int .i64 0, .int .i64 0, .string (⟨#[]⟩ : ByteArray)] 27 (0, 0)) (pkK BK266.out)) : gb266 ≠ gb277)); have NB277_266 := am ((by rw [hg]; exact Nat.ne_of_gt (blk_lt (g := gb266) (o := .cells #[.int .i64 0, .int .i64 0, .string (⟨#[]⟩ : ByteArray)] 27 (0, 0)) (pkK BK266.out)) : gb277 ≠ gb266)); replace BK266 := am (blk_below (pkK BK266.out) hb); have NB267_277 := am ((by rw [hg]; exact Nat.ne_of_lt (blk_lt (g := gb267) (o := .cells #[.int .i64 0, .int .i64 0, .string (⟨#[]⟩ : ByteArray)] 27 (0, 0)) (pkK BK267.out)) : gb267 ≠ gb277)); have NB277_267 := am ((by rw [hg]; exact Nat.ne_of_gt (blk_lt (g := gb267) (o := .cells #[.int .i64 0, .int .i64 0, .string (⟨#[]⟩ : ByteArray)] 27 (0, 0)) (pkK BK267.out)) : gb277 ≠ gb267)); replace BK267 := am (blk_below (pkK BK267.out) hb); have NB271_277 := am ((by rw [hg]; exact Nat.ne_of_lt (IsS68.lt (show IsS68 w _ g271 t268 t275 t276 from IsS68.pk HI271.out)) : g271 ≠ gb277)); have NB277_271 := am ((by rw [hg]; exact Nat.ne_of_gt (IsS68.lt (show IsS68 w _ g271 t268 t275 t276 from IsS68.pk HI271.out)) : gb277 ≠ g271)); replace HI271 := am (IsS68.below (IsS68.pk HI271.out) hb); clear hb hbox hg; have hnb29 := NB277_266.out; have hnc29 := NB266_277.out; have hnb30 := NB277_267.out; have hnc30 := NB267_277.out; have hnb31 := NB277_271.out; have hnc31 := NB271_277.out; obtain ⟨hcz32_0, hcz32_1, hcz32_2, hfz32_0, hfz32_1, hfz32_2⟩ := bk3 BK277.out) | ((with_reducible refine gate_callee (f := 43) rfl ?_); refine goesL_ (some 11) rfl rfl Try.func43 (by kernel_rfl) rfl #[.pointer (some ⟨g271, 0, none⟩), .int .i64 4] rfl mpx ?_; (with_reducible refine (spec_l1Once.calls g271 t268 t275 t276 4 false t279 t280 w _ ?side1 ?side2 A4.out).mono ?_); (case side1 => repeat (first | (with_reducible first | exact HI271.out | apply IsS68.alloc | apply IsS68.drewN | apply IsS68.drew | apply IsS68.set_1 | apply IsS68.set_2 | refine IsS68.far ?_ NB271_266.out _ | refine IsS68.far ?_ NB271_267.out _ | refine IsS68.far ?_ NB271_277.out _) | exact HI271.out)); (case side2 => repeat (first | (with_reducible first | exact HB.out | apply below_alloc | apply pw_below_drewN | apply below_drew1 | refine below_set ?_ (IsS68.ge HI271.out) | refine below_set ?_ GE266.out | refine below_set ?_ GE267.out | refine below_set ?_ GE277.out) | exact HB.out)); rintro e w33 ⟨rfl, hi, hb, hk⟩; refine ⟨_, rfl, ?_⟩; replace BK266 := am (KeepBut.blk hk (g' := gb266) (o := .cells #[.int .i64 0, .int .i64 0, .string (⟨#[]⟩ : ByteArray)] 27 (0, 0)) (by (with_reducible repeat (first | refine blk_drewN ?_ _ | refine blk_drew ?_ | refine blk_alloc ?_ _)); refine blk_far ?_ NB266_277.out _; (with_reducible repeat (first | refine blk_drewN ?_ _ | refine blk_drew ?_ | refine blk_alloc ?_ _)); refine blk_far ?_ NB266_277.out _; (with_reducible repeat (first | refine blk_drewN ?_ _ | refine blk_drew ?_ | refine blk_alloc ?_ _)); refine blk_far ?_ NB266_277.out _; exact pkK BK266.out) NB266_271.out (by simp)); replace BK267 := am (KeepBut.blk hk (g' := gb267) (o := .cells #[.int .i64 0, .int .i64 0, .string (⟨#[]⟩ : ByteArray)] 27 (0, 0)) (by (with_reducible repeat (first | refine blk_drewN ?_ _ | refine blk_drew ?_ | refine blk_alloc ?_ _)); refine blk_far ?_ NB267_277.out _; (with_reducible repeat (first | refine blk_drewN ?_ _ | refine blk_drew ?_ | refine blk_alloc ?_ _)); refine blk_far ?_ NB267_277.out _; (with_reducible repeat (first | refine blk_drewN ?_ _ | refine blk_drew ?_ | refine blk_alloc ?_ _)); refine blk_far ?_ NB267_277.out _; exact pkK BK267.out) NB267_271.out (by simp)); replace BK277 := am (KeepBut.blk hk (g' := gb277) (o := .cells #[.int .i64 t272, .int .i64 t273, .string t274] 27 (0, 0)) (by (with_reducible repeat (first | refine blk_drewN ?_ _ | refine blk_drew ?_ | refine blk_alloc ?_ _)); refine blk_put (cs := #[.int .i64 t272, .int .i64 t273, .string (⟨#[]⟩ : ByteArray)]) ?_ 2 _ rfl; (with_reducible repeat (first | refine blk_drewN ?_ _ | refine blk_drew ?_ | refine blk_alloc ?_ _)); refine blk_put (cs := #[.int .i64 t272, .int .i64 0, .string (⟨#[]⟩ : ByteArray)]) ?_ 1 _ rfl; (with_reducible repeat (first | refine blk_drewN ?_ _ | refine blk_drew ?_ | refine blk_alloc ?_ _)); refine blk_put (cs := #[.int .i64 0, .int .i64 0, .string (⟨#[]⟩ : ByteArray)]) ?_ 0 _ rfl; exact pkK BK277.out) NB277_271.out (by simp)); replace HB := am (hb); replace HI271 := am (hi); (try clear hb hk hi)))
  replace BK266 := am (blk_drew BK266.out)
  replace BK267 := am (blk_drew BK267.out)
  replace BK277 := am (blk_drew BK277.out)
  replace HI271 := am (IsS68.drew HI271.out)
  replace HB := am (below_drew1 HB.out)
  refine start_ (n := 5) (S := fun w' => w'.cell? ⟨gb277, 0, none⟩ = some (.int .i64 t272) ∧ w'.cell? ⟨gb277, 1, none⟩ = some (.int .i64 t273) ∧ w'.cell? ⟨gb277, 2, none⟩ = some (.string t274)) (ds := []) #[false, false, false, false, false] (by kernel_rfl) rfl rfl ⟨(blk_cell BK277.out 0).trans rfl, (blk_cell BK277.out 1).trans rfl, (blk_cell BK277.out 2).trans rfl⟩ (fun hHeld => ?_)
  generalize w33.drew = w34 at BK266 BK267 BK277 HI271 HB hHeld ⊢
  refine pure_ (i := 1) (N := some 15) (v := ?_) (a' := ?_) #[false, true, false, false, false] rfl rfl (by kernel_rfl) (fun _ _ _ h => h) (Or.inl ⟨by rfl, ?_⟩) ?_ ?_
  rotate_left
  ·intro w'
   go_simp
   with_reducible rfl
  rotate_left
  ·simp only [Act.put, List.setIfInBounds_toArray, List.set_cons_zero, List.set_cons_succ, i64_w, i32_w]
   rfl
  refine take_ (i := 0) (N := some 14) (v := ?_) (a' := ?_) #[true, true, false, false, false] rfl rfl (by kernel_rfl) (fun _ _ _ h => h) (Or.inl ⟨by rfl, ?_⟩) hHeld ?_ ?_
  rotate_left
  ·rintro w' ⟨s0, s1, s2⟩
   go_simp
   with_reducible rfl
  rotate_left
  ·simp only [Act.put, List.setIfInBounds_toArray, List.set_cons_zero, List.set_cons_succ, i64_w, i32_w]
   rfl
  refine one_ (i := 2) (N := some 16) #[true, true, true, false, false] rfl rfl (by kernel_rfl) (by decide) (fun K hK => ?_)
  refine goes_ Try.func42 (by kernel_rfl) rfl #[.pointer (some ⟨g271, 0, none⟩)] (by rfl) rfl rfl mpx ?_
  with_reducible refine (spec_l1AnyMsg.calls g271 t268 t279 t280 t281 t282 t283 t284 t285 w _ ?side1 ?side2 A23.out).mono ?_
  (case side1 => repeat (first | (with_reducible first | exact HI271.out | apply IsS68.alloc | apply IsS68.drewN | apply IsS68.drew | apply IsS68.set_1 | apply IsS68.set_2 | refine IsS68.far ?_ NB271_266.out _ | refine IsS68.far ?_ NB271_267.out _ | refine IsS68.far ?_ NB271_277.out _) | exact HI271.out))
  (case side2 => repeat (first | (with_reducible first | exact HB.out | apply below_alloc | apply pw_below_drewN | apply below_drew1 | refine below_set ?_ (IsS68.ge HI271.out) | refine below_set ?_ GE266.out | refine below_set ?_ GE267.out | refine below_set ?_ GE277.out) | exact HB.out))
  rintro e w35 ⟨rfl, hi, hb, hk⟩
  refine ⟨_, rfl, ?_⟩
  replace BK266 := am (KeepBut.blk hk (g' := gb266) (o := .cells #[.int .i64 0, .int .i64 0, .string (⟨#[]⟩ : ByteArray)] 27 (0, 0)) (pkK BK266.out) NB266_271.out (by simp))
  replace BK267 := am (KeepBut.blk hk (g' := gb267) (o := .cells #[.int .i64 0, .int .i64 0, .string (⟨#[]⟩ : ByteArray)] 27 (0, 0)) (pkK BK267.out) NB267_271.out (by simp))
  replace BK277 := am (KeepBut.blk hk (g' := gb277) (o := .cells #[.int .i64 t272, .int .i64 t273, .string t274] 27 (0, 0)) (pkK BK277.out) NB277_271.out (by simp))
  replace HB := am (hb)
  replace HI271 := am (hi)
  (try clear hb); (try clear hk hi)
  refine hK.out _ _ ⟨(blk_cell BK277.out 0).trans rfl, (blk_cell BK277.out 1).trans rfl, (blk_cell BK277.out 2).trans rfl⟩ (fun hHeld => ?_)
  clear hK K
  refine norm_ (a' := ?_) ?_ ?_
  rotate_left
  ·show Act.put _ (some 16) _ = _
   simp only [Act.put, List.setIfInBounds_toArray, List.set_cons_zero, List.set_cons_succ, i64_w, i32_w]
   rfl
  refine one_ (i := 3) (N := none) #[true, true, true, true, false] rfl rfl (by kernel_rfl) (by decide) (fun K hK => ?_)
  have hs36 : w35.cell? ⟨gb266, 0, none⟩ = some (.int .i64 0) := (blk_cell BK266.out 0).trans rfl
  have hfs36 := blk_frozen BK266.out 0
  have hns36_1 := NB267_266.out
  have hns36_2 := NB277_266.out
  have hms36_1 := NB266_267.out
  have hms36_2 := NB266_277.out
  have hs37 : w35.cell? ⟨gb266, 1, none⟩ = some (.int .i64 0) := (blk_cell BK266.out 1).trans rfl
  have hfs37 := blk_frozen BK266.out 1
  have hns37_1 := NB267_266.out
  have hns37_2 := NB277_266.out
  have hms37_1 := NB266_267.out
  have hms37_2 := NB266_277.out
  have hs38 : w35.cell? ⟨gb266, 2, none⟩ = some (.string (⟨#[]⟩ : ByteArray)) := (blk_cell BK266.out 2).trans rfl
  have hfs38 := blk_frozen BK266.out 2
  have hns38_1 := NB267_266.out
  have hns38_2 := NB277_266.out
  have hms38_1 := NB266_267.out
  have hms38_2 := NB266_277.out
  refine skip_ (w1 := ?_) (by rfl) rfl ?_ ?_
  rotate_left
  ·go_simp
   rfl
  refine hK.out _ _ ⟨((cell_far (p := ⟨gb266, _, none⟩) NB277_266.out _).trans (((cell_far (p := ⟨gb266, _, none⟩) NB277_266.out _).trans (((cell_far (p := ⟨gb266, _, none⟩) NB277_266.out _).trans (hHeld.1)))))), ((cell_far (p := ⟨gb266, _, none⟩) NB277_266.out _).trans (((cell_far (p := ⟨gb266, _, none⟩) NB277_266.out _).trans (((cell_far (p := ⟨gb266, _, none⟩) NB277_266.out _).trans (hHeld.2.1)))))), ((cell_far (p := ⟨gb266, _, none⟩) NB277_266.out _).trans (((cell_far (p := ⟨gb266, _, none⟩) NB277_266.out _).trans (((cell_far (p := ⟨gb266, _, none⟩) NB277_266.out _).trans (hHeld.2.2))))))⟩ (fun hHeld => ?_)
  clear hK K
  refine one_ (i := 4) (N := none) #[true, true, true, true, true] rfl rfl (by kernel_rfl) (by decide) (fun K hK => ?_)
  have hs39 : w35.cell? ⟨gb267, 0, none⟩ = some (.int .i64 0) := (blk_cell BK267.out 0).trans rfl
  have hfs39 := blk_frozen BK267.out 0
  have hns39_0 := NB266_267.out
  have hns39_2 := NB277_267.out
  have hms39_0 := NB267_266.out
  have hms39_2 := NB267_277.out
  have hs40 : w35.cell? ⟨gb267, 1, none⟩ = some (.int .i64 0) := (blk_cell BK267.out 1).trans rfl
  have hfs40 := blk_frozen BK267.out 1
  have hns40_0 := NB266_267.out
  have hns40_2 := NB277_267.out
  have hms40_0 := NB267_266.out
  have hms40_2 := NB267_277.out
  have hs41 : w35.cell? ⟨gb267, 2, none⟩ = some (.string (⟨#[]⟩ : ByteArray)) := (blk_cell BK267.out 2).trans rfl
  have hfs41 := blk_frozen BK267.out 2
  have hns41_0 := NB266_267.out
  have hns41_2 := NB277_267.out
  have hms41_0 := NB267_266.out
  have hms41_2 := NB267_277.out
  refine skip_ (w1 := ?_) (by rfl) rfl ?_ ?_
  rotate_left
  ·go_simp
   rfl
  refine hK.out _ _ ⟨((cell_far (p := ⟨gb267, _, none⟩) NB277_267.out _).trans (((cell_far (p := ⟨gb267, _, none⟩) NB277_267.out _).trans (((cell_far (p := ⟨gb267, _, none⟩) NB277_267.out _).trans (hHeld.1)))))), ((cell_far (p := ⟨gb267, _, none⟩) NB277_267.out _).trans (((cell_far (p := ⟨gb267, _, none⟩) NB277_267.out _).trans (((cell_far (p := ⟨gb267, _, none⟩) NB277_267.out _).trans (hHeld.2.1)))))), ((cell_far (p := ⟨gb267, _, none⟩) NB277_267.out _).trans (((cell_far (p := ⟨gb267, _, none⟩) NB277_267.out _).trans (((cell_far (p := ⟨gb267, _, none⟩) NB277_267.out _).trans (hHeld.2.2))))))⟩ (fun hHeld => ?_)
  clear hK K
  refine done_ (by kernel_rfl) ?_
  try go_wp2
  refine bodyPost_ret (results_cc rfl _ _ gb266 gb267 27 27 #[.int .i64 t272, .int .i64 t273, .string t274] #[.int .i64 t281, .int .i64 t282, .string t283] (0, 0) (0, 0) _ _ rfl (by (with_reducible repeat (first | refine blk_drewN ?_ _ | refine blk_drew ?_ | refine blk_alloc ?_ _)); refine blk_far ?_ NB266_267.out _; (with_reducible repeat (first | refine blk_drewN ?_ _ | refine blk_drew ?_ | refine blk_alloc ?_ _)); refine blk_far ?_ NB266_267.out _; (with_reducible repeat (first | refine blk_drewN ?_ _ | refine blk_drew ?_ | refine blk_alloc ?_ _)); refine blk_far ?_ NB266_267.out _; (with_reducible repeat (first | refine blk_drewN ?_ _ | refine blk_drew ?_ | refine blk_alloc ?_ _)); refine blk_put (cs := #[.int .i64 t272, .int .i64 t273, .string (⟨#[]⟩ : ByteArray)]) ?_ 2 _ rfl; (with_reducible repeat (first | refine blk_drewN ?_ _ | refine blk_drew ?_ | refine blk_alloc ?_ _)); refine blk_put (cs := #[.int .i64 t272, .int .i64 0, .string (⟨#[]⟩ : ByteArray)]) ?_ 1 _ rfl; (with_reducible repeat (first | refine blk_drewN ?_ _ | refine blk_drew ?_ | refine blk_alloc ?_ _)); refine blk_put (cs := #[.int .i64 0, .int .i64 0, .string (⟨#[]⟩ : ByteArray)]) ?_ 0 _ rfl; exact pkK BK266.out) Try.underlying27 rfl (by kernel_rfl) rfl (by (with_reducible repeat (first | refine blk_drewN ?_ _ | refine blk_drew ?_ | refine blk_alloc ?_ _)); refine blk_put (cs := #[.int .i64 t281, .int .i64 t282, .string (⟨#[]⟩ : ByteArray)]) ?_ 2 _ rfl; (with_reducible repeat (first | refine blk_drewN ?_ _ | refine blk_drew ?_ | refine blk_alloc ?_ _)); refine blk_put (cs := #[.int .i64 t281, .int .i64 0, .string (⟨#[]⟩ : ByteArray)]) ?_ 1 _ rfl; (with_reducible repeat (first | refine blk_drewN ?_ _ | refine blk_drew ?_ | refine blk_alloc ?_ _)); refine blk_put (cs := #[.int .i64 0, .int .i64 0, .string (⟨#[]⟩ : ByteArray)]) ?_ 0 _ rfl; (with_reducible repeat (first | refine blk_drewN ?_ _ | refine blk_drew ?_ | refine blk_alloc ?_ _)); refine blk_far ?_ NB267_266.out _; (with_reducible repeat (first | refine blk_drewN ?_ _ | refine blk_drew ?_ | refine blk_alloc ?_ _)); refine blk_far ?_ NB267_266.out _; (with_reducible repeat (first | refine blk_drewN ?_ _ | refine blk_drew ?_ | refine blk_alloc ?_ _)); refine blk_far ?_ NB267_266.out _; exact pkK BK267.out) Try.underlying27 rfl (by kernel_rfl)) rfl ?_
  exact ⟨rfe, by repeat (first | (with_reducible first | exact HB.out | apply below_alloc | apply pw_below_drewN | apply below_drew1 | refine below_set ?_ (IsS68.ge HI271.out) | refine below_set ?_ GE266.out | refine below_set ?_ GE267.out | refine below_set ?_ GE277.out) | exact HB.out)⟩
end Go.Proofs.Ytalehmhjddnmoaa.Z
