/- The Go functions spec_DrawAdvance as Lean functions, each with a proof that its code comes to just these answers; conditions: those of each theorem. -/
import Derived.Test.YtfgjfheiekhmlaaZx0
import Derived.Test.YtfgjfheiekhmlaaZx14
import Derived.Test.YtfgjfheiekhmlaaZx16
import Derived.Test.YtfgjfheiekhmlaaZx19
namespace Go.Proofs.Ytfgjfheiekhmlaa.Z
open Go.RowKit Go.Proofs.YtfgjfheiekhmlaaW.PrintWords Go.Proofs.YtfgjfheiekhmlaaW.PrintLast Go.Proofs.YtfgjfheiekhmlaaW.PrintMore
attribute [local go_sem] max2_int min2_int max_two min_two max_three min_three max_four min_four   -- for this text's walks alone
set_option linter.unusedVariables false
set_option linter.unusedSimpArgs false
def spec_DrawAdvance.f (k : Nat) (l0 : List Int) : Option (Int × (List (S46)) × Int) := (spec_l1New.f k l0).bind fun bt392 => ((spec_l4Some.f k bt392.1 bt392.2.1 bt392.2.2).bind fun bt396 => ((spec_l1PickInt.f bt392.1 bt396.2.2.1 bt396.2.2.2 (([0, 1, 2, 3, 5, 8, 15, 20, 21, (-1), 9223372036854775807, 1000000000] : List Int))).bind fun bt406 => (some (bt396.1, bt396.2.1, bt406.1))))
theorem spec_DrawAdvance.mono : ∀ a0 k, LeO (spec_DrawAdvance.f k a0) (spec_DrawAdvance.f (k + 1) a0) := by
 intro a0 k
 unfold spec_DrawAdvance.f
 repeat' first
   | (with_reducible exact spec_l1New.mono _ _)
   | (with_reducible exact spec_l4Some.mono _ _ _ _)
   | (with_reducible exact LeO.refl _)
   | (with_reducible exact LeO.none _)
   | (with_reducible refine LeO.ite ?_ ?_)
   | (with_reducible refine LeO.bind ?_ (fun _ => ?_))
set_option maxHeartbeats 8000000 in
set_option maxRecDepth 100000 in
theorem spec_DrawAdvance.calls (k : Nat) (A0 : Option Addr) (c0 : Nat) (l0 : List Int) (r1 : Int) (r2 : List (S46)) (r3 : Int) (w : World) (hr0 : Kd.C (Kd.int .u8) w A0 l0.length l0) (hc0 : l0.length ≤ c0) (h : spec_DrawAdvance.f k l0 = some (r1, r2, r3)) :
  Calls Try.prog 19 #[.slice A0 l0.length c0] w fun e w' => ∃ v1_ : Value, e = .returned (.tuple #[.agg #[.int .i64 r1, v1_], .int .i64 r3]) ∧ Kd.R k46 46 w' w.heap.size (fun _ => True) v1_ r2 ∧ Below w.heap.size w w' := by
 have hu29 := Try.underlying29
 have HR0 := am hr0
 have HC0 := am hc0
 clear hr0 hc0
 have HB := am (Below.refl w.heap.size w)
 have H : ((spec_l1New.f k l0).bind fun bt392 => ((spec_l4Some.f k bt392.1 bt392.2.1 bt392.2.2).bind fun bt396 => ((spec_l1PickInt.f bt392.1 bt396.2.2.1 bt396.2.2.2 (([0, 1, 2, 3, 5, 8, 15, 20, 21, (-1), 9223372036854775807, 1000000000] : List Int))).bind fun bt406 => (some (bt396.1, bt396.2.1, bt406.1))))) = some (r1, r2, r3) := h
 clear h
 replace H := Option.bind_eq_some_iff.mp H
 obtain ⟨⟨t392, t393, t394⟩, A20, H⟩ := H
 replace H : ((spec_l4Some.f k t392 t393 t394).bind fun bt396 => ((spec_l1PickInt.f t392 bt396.2.2.1 bt396.2.2.2 (([0, 1, 2, 3, 5, 8, 15, 20, 21, (-1), 9223372036854775807, 1000000000] : List Int))).bind fun bt406 => (some (bt396.1, bt396.2.1, bt406.1)))) = some (r1, r2, r3) := H
 have A2 := am A20
 clear A20
 replace H := Option.bind_eq_some_iff.mp H
 obtain ⟨⟨t396, t397, t400, t401⟩, A30, H⟩ := H
 replace H : ((spec_l1PickInt.f t392 t400 t401 (([0, 1, 2, 3, 5, 8, 15, 20, 21, (-1), 9223372036854775807, 1000000000] : List Int))).bind fun bt406 => (some (t396, t397, bt406.1))) = some (r1, r2, r3) := H
 have A3 := am A30
 clear A30
 obtain ⟨y403, hy403⟩ : ∃ y_ : List Int, y_ = (([0, 1, 2, 3, 5, 8, 15, 20, 21, (-1), 9223372036854775807, 1000000000] : List Int)) := ⟨_, rfl⟩
 replace H : ((spec_l1PickInt.f t392 t400 t401 y403).bind fun bt406 => (some (t396, t397, bt406.1))) = some (r1, r2, r3) := by first | (rw [hy403]; with_reducible exact H) | (have H2_ := (Option.bind_some _ _).symm.trans H; rw [hy403]; with_reducible exact H2_) | (have H2_ := (Option.bind_some _ _).symm.trans H; with_reducible exact H2_) | with_reducible exact H | (rw [hy403]; exact H) | exact H
 have Ny403 := am hy403
 clear hy403
 replace H := Option.bind_eq_some_iff.mp H
 obtain ⟨⟨t406, t407, t408⟩, A40, H⟩ := H
 replace H : (some (t396, t397, t406)) = some (r1, r2, r3) := H
 have A4 := am A40
 clear A40
 simp only [Option.some.injEq, Prod.mk.injEq] at H
 obtain ⟨rfl, rfl, rfl⟩ := H
 go_enter Try.func19, Try.ntmps19
 try go_wp2_with (first | ((with_reducible refine gate_dst (N := 2) rfl ?_); refine box_event ?hg (N := 2) ?hd (cs := #[.int .i64 0, .slice none 0 0]) (t := 29) ?hr ?_; (case hd => rfl); (case hg => rfl); (case hr => first | (go_simp; done) | (go_simp; rfl)); intro gb391 hg w5 hbox hb; have BK391 := am (hbox); have GW391 := am ((by rw [hg]; exact (below_size (pkB HB.out)) : w.heap.size ≤ gb391)); have GE391 := am ((by rw [hg]; exact (below_size (pkB HB.out)) : w.heap.size ≤ gb391)); replace HB := am (below_step (pkB HB.out) hb); clear hb hbox hg) | ((with_reducible refine gate_callee (f := 43) rfl ?_); refine goesL_ (some 7) rfl rfl Try.func43 (by kernel_rfl) rfl #[.slice A0 l0.length c0] rfl mpx ?_; (with_reducible refine (spec_l1New.calls k _ _ l0 t392 t393 t394 w _ ?side1 ?side2 ?side3 A2.out).mono ?_); (case side1 => repeat (first | (with_reducible first | exact HB.out | apply below_alloc | apply pw_below_drewN | apply below_drew1 | refine below_set ?_ GE391.out) | exact HB.out)); (case side2 => exact HR0.out); (case side3 => exact HC0.out); rintro e w6 ⟨g395, rfl, hi, hb, hb2⟩; refine ⟨_, rfl, ?_⟩; replace HB := am (hb); have HI395 := am (hi); have NB395_391 := am (IsS72.ne_blk hi (blk_below (pkK BK391.out) hb2) (by decide)); have NB391_395 := am (Ne.symm (IsS72.ne_blk hi (blk_below (pkK BK391.out) hb2) (by decide))); replace BK391 := am (blk_below (pkK BK391.out) hb2); (try clear hb hb2 hi)) | ((with_reducible refine gate_callee (f := 44) rfl ?_); refine goesL_ (some 9) rfl rfl Try.func44 (by kernel_rfl) rfl #[.pointer (some ⟨g395, 0, none⟩)] rfl mpx ?_; (with_reducible refine (spec_l4Some.calls k g395 t392 t393 t394 t396 t397 t400 t401 w _ ?side1 ?side2 A3.out).mono ?_); (case side1 => repeat (first | (with_reducible first | exact HI395.out | apply IsS72.alloc | apply IsS72.drewN | apply IsS72.drew | apply IsS72.set_1 | apply IsS72.set_2 | refine IsS72.far ?_ NB395_391.out _) | exact HI395.out)); (case side2 => repeat (first | (with_reducible first | exact HB.out | apply below_alloc | apply pw_below_drewN | apply below_drew1 | refine below_set ?_ (IsS72.ge HI395.out) | refine below_set ?_ GE391.out) | exact HB.out)); rintro e w7 ⟨v398, rfl, ho0, hi, hb, hk⟩; refine ⟨_, rfl, ?_⟩; replace BK391 := am (KeepBut.blk hk (g' := gb391) (o := .cells #[.int .i64 0, .slice none 0 0] 29 (0, 0)) (pkK BK391.out) NB391_395.out (by simp)); have HO399 := am (Kd.R_lower ho0 (below_size (by repeat (first | (with_reducible first | exact HB.out | apply below_alloc | apply pw_below_drewN | apply below_drew1 | refine below_set ?_ (IsS72.ge HI395.out) | refine below_set ?_ GE391.out) | exact HB.out)))); replace HB := am (hb); replace HI395 := am (hi); (try clear hb hk hi ho0)) | ((with_reducible refine gate_dst (N := 5) rfl ?_); refine box_event ?hg (N := 5) ?hd (cs := #[.int .i64 0, .slice none 0 0]) (t := 29) ?hr ?_; (case hd => rfl); (case hg => rfl); (case hr => first | (go_simp; done) | (go_simp; rfl)); intro gb402 hg w8 hbox hb; replace HO399 := am (Kd.R_below (pkR HO399.out) hb); have BK402 := am (hbox); have GW402 := am ((by rw [hg]; exact (below_size (by repeat (first | (with_reducible first | exact HB.out | apply below_alloc | apply pw_below_drewN | apply below_drew1 | refine below_set ?_ (IsS72.ge HI395.out) | refine below_set ?_ GE391.out) | exact HB.out))) : w.heap.size ≤ gb402)); have GE402 := am ((by rw [hg]; exact (below_size (by repeat (first | (with_reducible first | exact HB.out | apply below_alloc | apply pw_below_drewN | apply below_drew1 | refine below_set ?_ (IsS72.ge HI395.out) | refine below_set ?_ GE391.out) | exact HB.out))) : w.heap.size ≤ gb402)); replace HB := am (below_step (by repeat (first | (with_reducible first | exact HB.out | apply below_alloc | apply pw_below_drewN | apply below_drew1 | refine below_set ?_ (IsS72.ge HI395.out) | refine below_set ?_ GE391.out) | exact HB.out)) hb); have NB391_402 := am ((by rw [hg]; exact Nat.ne_of_lt (blk_lt (g := gb391) (o := .cells #[.int .i64 0, .slice none 0 0] 29 (0, 0)) (pkK BK391.out)) : gb391 ≠ gb402)); have NB402_391 := am ((by rw [hg]; exact Nat.ne_of_gt (blk_lt (g := gb391) (o := .cells #[.int .i64 0, .slice none 0 0] 29 (0, 0)) (pkK BK391.out)) : gb402 ≠ gb391)); replace BK391 := am (blk_below (pkK BK391.out) hb); have NB395_402 := am ((by rw [hg]; exact Nat.ne_of_lt (IsS72.lt (show IsS72 w _ g395 t392 t400 t401 from IsS72.pk HI395.out)) : g395 ≠ gb402)); have NB402_395 := am ((by rw [hg]; exact Nat.ne_of_gt (IsS72.lt (show IsS72 w _ g395 t392 t400 t401 from IsS72.pk HI395.out)) : gb402 ≠ g395)); replace HI395 := am (IsS72.below (IsS72.pk HI395.out) hb); clear hb hbox hg; have hnb9 := NB402_391.out; have hnc9 := NB391_402.out; have hnb10 := NB402_395.out; have hnc10 := NB395_402.out; obtain ⟨hcz11_0, hcz11_1, hfz11_0, hfz11_1⟩ := bk2 BK402.out; obtain ⟨Ao12, co12, eo12⟩ := Kd.R_slice HO399.out; subst eo12))
 have n0_ : Aside0 (Kd.R k46 46 ((w8.setCell ⟨gb402, 0, none⟩ (.int .i64 t396)).setCell ⟨gb402, 1, none⟩ (.slice Ao12 t397.length co12)) w.heap.size (fun _ => True) (.slice Ao12 t397.length co12) t397) := ⟨by (with_reducible repeat (first | apply Kd.R_alloc | apply Kd.R_drewN | apply Kd.R_drew)); exact Kd.R_mono (Kd.R_far (p := ⟨gb402, 1, none⟩) (Kd.R_far (p := ⟨gb402, 0, none⟩) (Kd.R_types HO399.out BK402.out (by decide)) (fun _ hk => hk.2) (.int .i64 t396)) (fun _ hk => hk.2) (.slice Ao12 t397.length co12)) (fun _ hk => trivial)⟩
 have n1_ : Aside0 (((w8.setCell ⟨gb402, 0, none⟩ (.int .i64 t396)).setCell ⟨gb402, 1, none⟩ (.slice Ao12 t397.length co12)).heap[gb391]? = some (.cells #[.int .i64 0, .slice none 0 0] 29 (0, 0))) := ⟨by (with_reducible repeat (first | refine blk_drewN ?_ _ | refine blk_drew ?_ | refine blk_alloc ?_ _)); refine blk_far ?_ NB391_402.out _; (with_reducible repeat (first | refine blk_drewN ?_ _ | refine blk_drew ?_ | refine blk_alloc ?_ _)); refine blk_far ?_ NB391_402.out _; exact pkK BK391.out⟩
 have n2_ : Aside0 (((w8.setCell ⟨gb402, 0, none⟩ (.int .i64 t396)).setCell ⟨gb402, 1, none⟩ (.slice Ao12 t397.length co12)).heap[gb402]? = some (.cells #[.int .i64 t396, .slice Ao12 t397.length co12] 29 (0, 0))) := ⟨by (with_reducible repeat (first | refine blk_drewN ?_ _ | refine blk_drew ?_ | refine blk_alloc ?_ _)); refine blk_put (cs := #[.int .i64 t396, .slice none 0 0]) ?_ 1 _ rfl; (with_reducible repeat (first | refine blk_drewN ?_ _ | refine blk_drew ?_ | refine blk_alloc ?_ _)); refine blk_put (cs := #[.int .i64 0, .slice none 0 0]) ?_ 0 _ rfl; exact pkK BK402.out⟩
 have n3_ : Aside0 (IsS72 w ((w8.setCell ⟨gb402, 0, none⟩ (.int .i64 t396)).setCell ⟨gb402, 1, none⟩ (.slice Ao12 t397.length co12)) g395 t392 t400 t401) := ⟨by repeat (first | (with_reducible first | exact HI395.out | apply IsS72.alloc | apply IsS72.drewN | apply IsS72.drew | apply IsS72.set_1 | apply IsS72.set_2 | refine IsS72.far ?_ NB395_391.out _ | refine IsS72.far ?_ NB395_402.out _) | exact HI395.out)⟩
 have n4_ : Aside0 (Below w.heap.size w ((w8.setCell ⟨gb402, 0, none⟩ (.int .i64 t396)).setCell ⟨gb402, 1, none⟩ (.slice Ao12 t397.length co12))) := ⟨by repeat (first | (with_reducible first | exact HB.out | apply below_alloc | apply pw_below_drewN | apply below_drew1 | refine below_set ?_ (IsS72.ge HI395.out) | refine below_set ?_ GE391.out | refine below_set ?_ GE402.out) | exact HB.out)⟩
 (try clear HO399); (try clear BK391); (try clear BK402); (try clear HI395); (try clear HB)
 generalize ((w8.setCell ⟨gb402, 0, none⟩ (.int .i64 t396)).setCell ⟨gb402, 1, none⟩ (.slice Ao12 t397.length co12)) = w13 at n0_ n1_ n2_ n3_ n4_ ⊢
 have HO399 := n0_; have BK391 := n1_; have BK402 := n2_; have HI395 := n3_; have HB := n4_
 clear n0_ n1_ n2_ n3_ n4_
 replace HO399 := am (Kd.R_drew HO399.out)
 replace BK391 := am (blk_drew BK391.out)
 replace BK402 := am (blk_drew BK402.out)
 replace HI395 := am (IsS72.drew HI395.out)
 replace HB := am (below_drew1 HB.out)
 refine start_ (n := 6) (S := fun w' => w'.cell? ⟨gb402, 0, none⟩ = some (.int .i64 t396) ∧ w'.cell? ⟨gb402, 1, none⟩ = some (.slice Ao12 t397.length co12)) (ds := []) #[false, false, false, false, false, false] (by kernel_rfl) rfl rfl ⟨(blk_cell BK402.out 0).trans rfl, (blk_cell BK402.out 1).trans rfl⟩ (fun hHeld => ?_)
 generalize w13.drew = w14 at HO399 BK391 BK402 HI395 HB hHeld ⊢
 refine pure_ (i := 1) (N := some 11) (v := ?_) (a' := ?_) #[false, true, false, false, false, false] rfl rfl (by kernel_rfl) (fun _ _ _ h => h) (Or.inl ⟨by rfl, ?_⟩) ?_ ?_
 rotate_left
 ·intro w'
  go_simp
  with_reducible rfl
 rotate_left
 ·simp only [Act.put, List.setIfInBounds_toArray, List.set_cons_zero, List.set_cons_succ, i64_w, i32_w]
  rfl
 refine take_ (i := 0) (N := some 10) (v := ?_) (a' := ?_) #[true, true, false, false, false, false] rfl rfl (by kernel_rfl) (fun _ _ _ h => h) (Or.inl ⟨by rfl, ?_⟩) hHeld ?_ ?_
 rotate_left
 ·rintro w' ⟨s0, s1⟩
  go_simp
  with_reducible rfl
 rotate_left
 ·simp only [Act.put, List.setIfInBounds_toArray, List.set_cons_zero, List.set_cons_succ, i64_w, i32_w]
  rfl
 refine one_ (i := 2) (N := some 12) #[true, true, true, false, false, false] rfl rfl (by kernel_rfl) (by decide) (fun K hK => ?_)
 refine Kd.R_lit_step (Kd.int .i64) _ 3 ?hg (N := 12) ?hd (xs := ([0, 1, 2, 3, 5, 8, 15, 20, 21, (-1), 9223372036854775807, 1000000000] : List Int)) (inner := [.int .i64 0, .int .i64 1, .int .i64 2, .int .i64 3, .int .i64 5, .int .i64 8, .int .i64 15, .int .i64 20, .int .i64 21, .int .i64 (-1), .int .i64 9223372036854775807, .int .i64 1000000000]) (ok := fun _ => True) (okp := fun _ => True) ?hr ?hp (fun _ hk => hk) trivial (Below.refl _ _) (Nat.le_refl _) (by simp) ?_; (case hd => rfl); (case hg => rfl); (case hr => first | (go_simp; done) | (go_simp; rfl)); (case hp => exact (Reps.one (show Kd.M (Kd.int .i64) _ _ _ 0 [.int .i64 0] from rfl) (Reps.one (show Kd.M (Kd.int .i64) _ _ _ 1 [.int .i64 1] from rfl) (Reps.one (show Kd.M (Kd.int .i64) _ _ _ 2 [.int .i64 2] from rfl) (Reps.one (show Kd.M (Kd.int .i64) _ _ _ 3 [.int .i64 3] from rfl) (Reps.one (show Kd.M (Kd.int .i64) _ _ _ 5 [.int .i64 5] from rfl) (Reps.one (show Kd.M (Kd.int .i64) _ _ _ 8 [.int .i64 8] from rfl) (Reps.one (show Kd.M (Kd.int .i64) _ _ _ 15 [.int .i64 15] from rfl) (Reps.one (show Kd.M (Kd.int .i64) _ _ _ 20 [.int .i64 20] from rfl) (Reps.one (show Kd.M (Kd.int .i64) _ _ _ 21 [.int .i64 21] from rfl) (Reps.one (show Kd.M (Kd.int .i64) _ _ _ (-1) [.int .i64 (-1)] from rfl) (Reps.one (show Kd.M (Kd.int .i64) _ _ _ 9223372036854775807 [.int .i64 9223372036854775807] from rfl) (Reps.one (show Kd.M (Kd.int .i64) _ _ _ 1000000000 [.int .i64 1000000000] from rfl) (Reps.none _ _))))))))))))))
 intro v404 w15 ho16 hb hg_ hnew_
 clear hg_ hnew_
 (first | rw [← Ny403.out] at ho16 | (simp only [Int.reduceToNat] at ho16; rw [← Ny403.out] at ho16))
 replace HO399 := am (Kd.R_below (pkR HO399.out) hb)
 have HO405 := am (Kd.R_lower ho16 (below_size (by repeat (first | (with_reducible first | exact HB.out | apply below_alloc | apply pw_below_drewN | apply below_drew1 | refine below_set ?_ (IsS72.ge HI395.out) | refine below_set ?_ GE391.out | refine below_set ?_ GE402.out) | exact HB.out))))
 replace BK391 := am (blk_below (pkK BK391.out) hb)
 replace BK402 := am (blk_below (pkK BK402.out) hb)
 replace HB := am (below_step (by repeat (first | (with_reducible first | exact HB.out | apply below_alloc | apply pw_below_drewN | apply below_drew1 | refine below_set ?_ (IsS72.ge HI395.out) | refine below_set ?_ GE391.out | refine below_set ?_ GE402.out) | exact HB.out)) hb)
 replace HI395 := am (IsS72.below (IsS72.pk HI395.out) hb)
 clear hb ho16
 obtain ⟨Ao17, co17, eo17⟩ := Kd.R_slice HO405.out
 (first | subst eo17 | (injection eo17 with f1_ f2_ f3_; have f4_ := f1_.symm; have f5_ := f3_.symm; clear f1_ f2_ f3_; subst f4_; subst f5_))
 refine hK.out _ _ ⟨(blk_cell BK402.out 0).trans rfl, (blk_cell BK402.out 1).trans rfl⟩ (fun hHeld => ?_)
 clear hK K
 refine norm_ (a' := ?_) ?_ ?_
 rotate_left
 ·show Act.put _ (some 12) _ = _
  simp only [Act.put, List.setIfInBounds_toArray, List.set_cons_zero, List.set_cons_succ, i64_w, i32_w]
  rfl
 refine one_ (i := 3) (N := some 13) #[true, true, true, true, false, false] rfl rfl (by kernel_rfl) (by decide) (fun K hK => ?_)
 refine goes_ Try.func45 (by kernel_rfl) rfl #[.pointer (some ⟨g395, 0, none⟩), .slice Ao17 y403.length co17] (by rfl) rfl rfl mpx ?_
 with_reducible refine (spec_l1PickInt.calls g395 t392 t400 t401 _ _ y403 t406 t407 t408 w _ ?side1 ?side2 ?side3 ?side4 ?side5 A4.out).mono ?_
 (case side1 => repeat (first | (with_reducible first | exact HI395.out | apply IsS72.alloc | apply IsS72.drewN | apply IsS72.drew | apply IsS72.set_1 | apply IsS72.set_2 | refine IsS72.far ?_ NB395_391.out _ | refine IsS72.far ?_ NB395_402.out _) | exact HI395.out))
 (case side2 => repeat (first | (with_reducible first | exact HB.out | apply below_alloc | apply pw_below_drewN | apply below_drew1 | refine below_set ?_ (IsS72.ge HI395.out) | refine below_set ?_ GE391.out | refine below_set ?_ GE402.out) | exact HB.out))
 (case side3 => exact pkC (Kd.R_reads' HO405.out).2.2)
 (case side4 => exact (Kd.R_reads' HO405.out).2.1)
 (case side5 => exact far_slice (IsS72.own_ne HI395.out HO405.out (by decide)))
 rintro e w18 ⟨rfl, hi, hb, hk⟩
 refine ⟨_, rfl, ?_⟩
 replace BK391 := am (KeepBut.blk hk (g' := gb391) (o := .cells #[.int .i64 0, .slice none 0 0] 29 (0, 0)) (pkK BK391.out) NB391_395.out (by simp))
 replace HO399 := am (Kd.R_mono (Kd.R_keep (IsS72.apart (show IsS72 w _ g395 t392 t400 t401 from IsS72.pk HI395.out) (pkR HO399.out) (by decide)) hk (fun _ h => h.2)) (fun _ h => h.1))
 replace BK402 := am (KeepBut.blk hk (g' := gb402) (o := .cells #[.int .i64 t396, .slice Ao12 t397.length co12] 29 (0, 0)) (pkK BK402.out) NB402_395.out (by simp))
 replace HO405 := am (Kd.R_mono (Kd.R_keep (IsS72.apart (show IsS72 w _ g395 t392 t400 t401 from IsS72.pk HI395.out) (pkR HO405.out) (by decide)) hk (fun _ h => h.2)) (fun _ h => h.1))
 replace HB := am (hb)
 replace HI395 := am (hi)
 (try clear hb); (try clear hk hi)
 refine hK.out _ _ ⟨(blk_cell BK402.out 0).trans rfl, (blk_cell BK402.out 1).trans rfl⟩ (fun hHeld => ?_)
 clear hK K
 refine norm_ (a' := ?_) ?_ ?_
 rotate_left
 ·show Act.put _ (some 13) _ = _
  simp only [Act.put, List.setIfInBounds_toArray, List.set_cons_zero, List.set_cons_succ, i64_w, i32_w]
  rfl
 refine one_ (i := 4) (N := none) #[true, true, true, true, true, false] rfl rfl (by kernel_rfl) (by decide) (fun K hK => ?_)
 have hs19 : w18.cell? ⟨gb391, 0, none⟩ = some (.int .i64 0) := (blk_cell BK391.out 0).trans rfl
 have hfs19 := blk_frozen BK391.out 0
 have hns19_1 := NB402_391.out
 have hms19_1 := NB391_402.out
 have hs20 : w18.cell? ⟨gb391, 1, none⟩ = some (.slice none 0 0) := (blk_cell BK391.out 1).trans rfl
 have hfs20 := blk_frozen BK391.out 1
 have hns20_1 := NB402_391.out
 have hms20_1 := NB391_402.out
 refine skip_ (w1 := ?_) (by rfl) rfl ?_ ?_
 rotate_left
 ·go_simp
  rfl
 refine hK.out _ _ ⟨((cell_far (p := ⟨gb391, _, none⟩) NB402_391.out _).trans (((cell_far (p := ⟨gb391, _, none⟩) NB402_391.out _).trans (hHeld.1)))), ((cell_far (p := ⟨gb391, _, none⟩) NB402_391.out _).trans (((cell_far (p := ⟨gb391, _, none⟩) NB402_391.out _).trans (hHeld.2))))⟩ (fun hHeld => ?_)
 clear hK K
 refine pure_ (i := 5) (N := some 3) (v := ?_) (a' := ?_) #[true, true, true, true, true, true] rfl rfl (by kernel_rfl) (fun _ _ _ h => h) (Or.inl ⟨by rfl, ?_⟩) ?_ ?_
 rotate_left
 ·intro w'
  go_simp
  with_reducible rfl
 rotate_left
 ·simp only [Act.put, List.setIfInBounds_toArray, List.set_cons_zero, List.set_cons_succ, i64_w, i32_w]
  rfl
 refine done_ (by kernel_rfl) ?_
 try go_wp2
 refine bodyPost_ret (results_ct rfl _ _ gb391 29 #[.int .i64 t396, .slice Ao12 t397.length co12] (0, 0) _ rfl (by (with_reducible repeat (first | refine blk_drewN ?_ _ | refine blk_drew ?_ | refine blk_alloc ?_ _)); refine blk_put (cs := #[.int .i64 t396, .slice none 0 0]) ?_ 1 _ rfl; (with_reducible repeat (first | refine blk_drewN ?_ _ | refine blk_drew ?_ | refine blk_alloc ?_ _)); refine blk_put (cs := #[.int .i64 0, .slice none 0 0]) ?_ 0 _ rfl; exact pkK BK391.out) Try.underlying29 rfl (by kernel_rfl)) rfl ?_
 exact ⟨_, rfe, by (with_reducible repeat (first | apply Kd.R_alloc | apply Kd.R_drewN | apply Kd.R_drew)); exact Kd.R_mono (Kd.R_far (p := ⟨gb391, 1, none⟩) (Kd.R_far (p := ⟨gb391, 0, none⟩) (Kd.R_types HO399.out BK391.out (by decide)) (fun _ hk => hk.2) (.int .i64 t396)) (fun _ hk => hk.2) (.slice Ao12 t397.length co12)) (fun _ hk => trivial), by repeat (first | (with_reducible first | exact HB.out | apply below_alloc | apply pw_below_drewN | apply below_drew1 | refine below_set ?_ (IsS72.ge HI395.out) | refine below_set ?_ GE391.out | refine below_set ?_ GE402.out) | exact HB.out)⟩
end Go.Proofs.Ytfgjfheiekhmlaa.Z
