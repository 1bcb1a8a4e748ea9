/- The Go functions spec_l4Some as Lean functions, each with a proof that its code comes to just these answers; conditions: those of each theorem. -/
import Derived.Test.YtfgjfheiekhmlaaZx0
import Derived.Test.YtfgjfheiekhmlaaZx14
import Derived.Test.YtfgjfheiekhmlaaZx15
import Derived.Test.YtfgjfheiekhmlaaZx16
import Derived.Test.YtfgjfheiekhmlaaZx17
import Derived.Test.YtfgjfheiekhmlaaZx18
namespace Go.Proofs.Ytfgjfheiekhmlaa.Z
open Go.RowKit Go.Proofs.YtfgjfheiekhmlaaW.PrintWords Go.Proofs.YtfgjfheiekhmlaaW.PrintLast Go.Proofs.YtfgjfheiekhmlaaW.PrintMore
attribute [local go_sem] max2_int min2_int max_two min_two max_three min_three max_four min_four   -- for this text's walks alone
set_option linter.unusedVariables false
set_option linter.unusedSimpArgs false
mutual
def spec_l4Some.j1 : Nat → List Int → Int → Int → Int → List (S46) → Option (Int × (List (S46)) × Int × Int)
 | 0, _, _, _, _, _ => none
 | k + 1, x1000, x1001, x1002, x360000, x360001 => (spec_l1Once.f x1000 x1001 x1002 8).bind fun bt378 => (if bt378.1 = true then (spec_l4Some.j2 k (decide ((x360001.length : Int) > 0)) x1000 bt378.2.1 bt378.2.2 x360000 x360001) else (spec_l4Some.j2 k false x1000 bt378.2.1 bt378.2.2 x360000 x360001))
def spec_l4Some.j2 : Nat → Bool → List Int → Int → Int → Int → List (S46) → Option (Int × (List (S46)) × Int × Int)
 | 0, _, _, _, _, _, _ => none
 | k + 1, x39, x1000, x1001, x1002, x360000, x360001 => if x39 = true then ((spec_l1Below.f x1000 x1001 x1002 (x360001.length : Int)).bind fun bt381 => ((spec_l1PickInt.f x1000 bt381.2.1 bt381.2.2 (([0, x360000, 1000000001] : List Int))).bind fun bt387 => (if 0 ≤ bt381.1 then (if bt381.1 < (x360001.length : Int) then (some (x360000, (x360001.set (bt381.1 : Int).toNat (⟨bt387.1, (rd_T46 x360001 bt381.1).f1⟩ : S46)), bt387.2.1, bt387.2.2)) else (none)) else (none)))) else (some (x360000, x360001, x1001, x1002))
def spec_l4Some.l0 : Nat → Int → List Int → Int → Int → Int → List (S46) → Option (Int × (List (S46)) × Int × Int)
 | 0, _, _, _, _, _, _ => none
 | k + 1, x4, x1000, x1001, x1002, x360000, x360001 => (spec_l1Below.f x1000 x1001 x1002 2).bind fun bt369 => (if x4 < (wrap64 (40 - bt369.1)) then ((spec_SetTimer.f k x360000 x360001 (wrap64 (1 + (Int.tmod x4 9))) (Int.tmod x4 5)).bind fun bt372 => (spec_l4Some.l0 k (wrap64 (x4 + 1)) x1000 bt369.2.1 bt369.2.2 bt372.1 bt372.2.1)) else (spec_l4Some.j1 k x1000 bt369.2.1 bt369.2.2 x360000 x360001))
end
def spec_l4Some.f (k : Nat) (s0_0 : List Int) (s0_1 : Int) (s0_2 : Int) : Option (Int × (List (S46)) × Int × Int) := (spec_l4Clock.f k s0_0 s0_1 s0_2 6).bind fun bt353 => ((spec_l1Once.f s0_0 bt353.2.2.1 bt353.2.2.2 12).bind fun bt360 => (if bt360.1 = true then ((spec_l4Clock.f k s0_0 bt360.2.1 bt360.2.2 0).bind fun bt363 => (spec_l4Some.l0 k 0 s0_0 bt363.2.2.1 bt363.2.2.2 bt363.1 bt363.2.1)) else (spec_l4Some.j1 k s0_0 bt360.2.1 bt360.2.2 bt353.1 bt353.2.1)))
theorem spec_l4Some.mono_l : ∀ k, (∀ y0 y1 y2 y3 y4, LeO (spec_l4Some.j1 k y0 y1 y2 y3 y4) (spec_l4Some.j1 (k + 1) y0 y1 y2 y3 y4)) ∧ (∀ y0 y1 y2 y3 y4 y5, LeO (spec_l4Some.j2 k y0 y1 y2 y3 y4 y5) (spec_l4Some.j2 (k + 1) y0 y1 y2 y3 y4 y5)) ∧ (∀ y0 y1 y2 y3 y4 y5, LeO (spec_l4Some.l0 k y0 y1 y2 y3 y4 y5) (spec_l4Some.l0 (k + 1) y0 y1 y2 y3 y4 y5))
 | 0 => ⟨fun _ _ _ _ _ r h => by simp [spec_l4Some.j1] at h, fun _ _ _ _ _ _ r h => by simp [spec_l4Some.j2] at h, fun _ _ _ _ _ _ r h => by simp [spec_l4Some.l0] at h⟩
 | k + 1 => by
  obtain ⟨ih0, ih1, ih2⟩ := spec_l4Some.mono_l k
  refine ⟨?_, ?_, ?_⟩
  ·intro y0 y1 y2 y3 y4
   unfold spec_l4Some.j1
   repeat' first
   | (with_reducible exact ih0 _ _ _ _ _)
   | (with_reducible exact ih1 _ _ _ _ _ _)
   | (with_reducible exact ih2 _ _ _ _ _ _)
   | (with_reducible exact spec_SetTimer.mono _ _ _ _ _)
   | (with_reducible exact spec_l4Clock.mono _ _ _ _ _)
   | (with_reducible exact LeO.refl _)
   | (with_reducible exact LeO.none _)
   | (with_reducible refine LeO.ite ?_ ?_)
   | (with_reducible refine LeO.bind ?_ (fun _ => ?_))
  ·intro y0 y1 y2 y3 y4 y5
   unfold spec_l4Some.j2
   repeat' first
   | (with_reducible exact ih0 _ _ _ _ _)
   | (with_reducible exact ih1 _ _ _ _ _ _)
   | (with_reducible exact ih2 _ _ _ _ _ _)
   | (with_reducible exact spec_SetTimer.mono _ _ _ _ _)
   | (with_reducible exact spec_l4Clock.mono _ _ _ _ _)
   | (with_reducible exact LeO.refl _)
   | (with_reducible exact LeO.none _)
   | (with_reducible refine LeO.ite ?_ ?_)
   | (with_reducible refine LeO.bind ?_ (fun _ => ?_))
  ·intro y0 y1 y2 y3 y4 y5
   unfold spec_l4Some.l0
   repeat' first
   | (with_reducible exact ih0 _ _ _ _ _)
   | (with_reducible exact ih1 _ _ _ _ _ _)
   | (with_reducible exact ih2 _ _ _ _ _ _)
   | (with_reducible exact spec_SetTimer.mono _ _ _ _ _)
   | (with_reducible exact spec_l4Clock.mono _ _ _ _ _)
   | (with_reducible exact LeO.refl _)
   | (with_reducible exact LeO.none _)
   | (with_reducible refine LeO.ite ?_ ?_)
   | (with_reducible refine LeO.bind ?_ (fun _ => ?_))
theorem spec_l4Some.mono : ∀ a0 a1 a2 k, LeO (spec_l4Some.f k a0 a1 a2) (spec_l4Some.f (k + 1) a0 a1 a2) := by
 intro a0 a1 a2 k
 obtain ⟨ih0, ih1, ih2⟩ := spec_l4Some.mono_l k
 unfold spec_l4Some.f
 repeat' first
   | (with_reducible exact ih0 _ _ _ _ _)
   | (with_reducible exact ih1 _ _ _ _ _ _)
   | (with_reducible exact ih2 _ _ _ _ _ _)
   | (with_reducible exact spec_SetTimer.mono _ _ _ _ _)
   | (with_reducible exact spec_l4Clock.mono _ _ _ _ _)
   | (with_reducible exact LeO.refl _)
   | (with_reducible exact LeO.none _)
   | (with_reducible refine LeO.ite ?_ ?_)
   | (with_reducible refine LeO.bind ?_ (fun _ => ?_))
def spec_l4Some.T11 : Bool × List (List Nat × List Nat) := (true, [([], []), ([0], [0]), ([], []), ([], []), ([], []), ([4], [4]), ([5], [5]), ([3, 6], [3, 6]), ([1, 2, 0, 1, 2, 3, 4, 5, 6, 7], [1, 2]), ([8, 0, 1, 2, 3, 4, 5, 6, 7], [8]), ([9, 7, 7, 0, 1, 2, 3, 4, 5, 6, 7], [7, 9])])
def spec_l4Some.B11 : List Nat := [0, 1, 0, 0, 0, 16, 48, 120, 255, 511, 1023]
theorem spec_l4Some.tab11 : rtab .any (opsOf Try.f44 11) = spec_l4Some.T11 := by kernel_rfl
theorem spec_l4Some.bits11 : waitsOk spec_l4Some.T11.2 spec_l4Some.B11 = true := by kernel_rfl
set_option maxHeartbeats 8000000 in
set_option maxRecDepth 100000 in
theorem spec_l4Some.calls (k : Nat) (g : Nat) (s0_0 : List Int) (s0_1 : Int) (s0_2 : Int) (r1 : Int) (r2 : List (S46)) (r3 : Int) (r4 : Int) (w0 w : World) (hI : IsS72 w0 w g s0_0 s0_1 s0_2) (hB : Below w0.heap.size w0 w) (h : spec_l4Some.f k s0_0 s0_1 s0_2 = some (r1, r2, r3, r4)) :
  Calls Try.prog 44 #[.pointer (some ⟨g, 0, none⟩)] w fun e w' => ∃ v1_ : Value, e = .returned (.agg #[.int .i64 r1, v1_]) ∧ Kd.R k46 46 w' w.heap.size (fun _ => True) v1_ r2 ∧ IsS72 w0 w' g s0_0 r3 r4 ∧ Below w0.heap.size w0 w' ∧ KeepBut w w' g none := by
 have hu29 := Try.underlying29
 have HI0 := am hI
 have HK := am (KeepBut.refl w g none)
 have HL := am hB.size
 clear hI
 have HW0 := am hB.size
 have HB := am hB
 clear hB
 have H : ((spec_l4Clock.f k s0_0 s0_1 s0_2 6).bind fun bt353 => ((spec_l1Once.f s0_0 bt353.2.2.1 bt353.2.2.2 12).bind fun bt360 => (if bt360.1 = true then ((spec_l4Clock.f k s0_0 bt360.2.1 bt360.2.2 0).bind fun bt363 => (spec_l4Some.l0 k 0 s0_0 bt363.2.2.1 bt363.2.2.2 bt363.1 bt363.2.1)) else (spec_l4Some.j1 k s0_0 bt360.2.1 bt360.2.2 bt353.1 bt353.2.1)))) = some (r1, r2, r3, r4) := h
 clear h
 replace H := Option.bind_eq_some_iff.mp H
 obtain ⟨⟨t353, t354, t357, t358⟩, A20, H⟩ := H
 replace H : ((spec_l1Once.f s0_0 t357 t358 12).bind fun bt360 => (if bt360.1 = true then ((spec_l4Clock.f k s0_0 bt360.2.1 bt360.2.2 0).bind fun bt363 => (spec_l4Some.l0 k 0 s0_0 bt363.2.2.1 bt363.2.2.2 bt363.1 bt363.2.1)) else (spec_l4Some.j1 k s0_0 bt360.2.1 bt360.2.2 t353 t354))) = some (r1, r2, r3, r4) := H
 have A2 := am A20
 clear A20
 replace H := Option.bind_eq_some_iff.mp H
 obtain ⟨⟨t360, t361, t362⟩, A30, H⟩ := H
 replace H : (if t360 = true then ((spec_l4Clock.f k s0_0 t361 t362 0).bind fun bt363 => (spec_l4Some.l0 k 0 s0_0 bt363.2.2.1 bt363.2.2.2 bt363.1 bt363.2.1)) else (spec_l4Some.j1 k s0_0 t361 t362 t353 t354)) = some (r1, r2, r3, r4) := H
 have A3 := am A30
 clear A30
 have HC4 := am H
 clear H
 go_enter Try.func44, Try.ntmps44
 go_upto_if 11 with (first | ((with_reducible refine gate_dst (N := 2) rfl ?_); (try (refine gate_guard (by rfl) ?_; dsimp only)); refine box_event ?hg (N := 2) ?hd (cs := #[.int .i64 0, .slice none 0 0]) (t := 29) ?hr ?_; (case hd => rfl); (case hg => rfl); (case hr => first | (go_simp; done) | (go_simp; rfl)); intro gb352 hg w5 hbox hb; replace HB := am (below_step (by repeat (first | (with_reducible first | exact HB.out | apply below_alloc | apply pw_below_drewN | apply below_drew1 | refine below_set ?_ (IsS72.ge HI0.out)) | exact HB.out)) hb); have BK352 := am (hbox); have GW352 := am ((by rw [hg]; first | done | exact (keep_size (w := w) (g := g) (row := none) (pkH HK.out)) : w.heap.size ≤ gb352)); have GE352 := am ((Nat.le_trans HW0.out (by rw [hg]; first | done | exact (keep_size (w := w) (g := g) (row := none) (pkH HK.out)) : w.heap.size ≤ gb352) : w0.heap.size ≤ gb352)); replace HK := am (KeepBut.trans (pkH HK.out) (KeepBut.of_below hb g none) (.inl rfl)); have NB0_352 := am ((by rw [hg]; exact Nat.ne_of_lt (IsS72.lt (show IsS72 w0 _ g s0_0 s0_1 s0_2 from IsS72.pk HI0.out)) : g ≠ gb352)); have NB352_0 := am ((by rw [hg]; exact Nat.ne_of_gt (IsS72.lt (show IsS72 w0 _ g s0_0 s0_1 s0_2 from IsS72.pk HI0.out)) : gb352 ≠ g)); replace HI0 := am (IsS72.below (IsS72.pk HI0.out) hb); clear hb hbox hg) | ((with_reducible refine gate_callee (f := 53) rfl ?_); refine goesL_ (some 9) rfl rfl Try.func53 (by kernel_rfl) rfl #[.pointer (some ⟨g, 0, none⟩), .int .i64 6] rfl mpx ?_; (with_reducible refine (spec_l4Clock.calls k g s0_0 s0_1 s0_2 6 t353 t354 t357 t358 w0 _ ?side1 ?side2 A2.out).mono ?_); (case side1 => repeat (first | (with_reducible first | exact HI0.out | apply IsS72.alloc | apply IsS72.drewN | apply IsS72.drew | apply IsS72.set_1 | apply IsS72.set_2 | refine IsS72.far ?_ NB0_352.out _) | exact HI0.out)); (case side2 => repeat (first | (with_reducible first | exact HB.out | apply below_alloc | apply pw_below_drewN | apply below_drew1 | refine below_set ?_ (IsS72.ge HI0.out) | refine below_set ?_ GE352.out) | exact HB.out)); rintro e w6 ⟨v355, rfl, ho0, hi, hb, hk⟩; refine ⟨_, rfl, ?_⟩; replace BK352 := am (KeepBut.blk hk (g' := gb352) (o := .cells #[.int .i64 0, .slice none 0 0] 29 (0, 0)) (pkK BK352.out) NB352_0.out (by simp)); have HO356 := am (Kd.R_lower ho0 (keep_size (w := w) (g := g) (row := none) (pkH HK.out))); replace HK := am (KeepBut.trans (pkH HK.out) hk (.inl rfl)); replace HB := am (hb); replace HI0 := am (hi); (try clear hb hk hi ho0)) | ((with_reducible refine gate_dst (N := 3) rfl ?_); (try (refine gate_guard (by rfl) ?_; dsimp only)); refine box_event ?hg (N := 3) ?hd (cs := #[.int .i64 0, .slice none 0 0]) (t := 29) ?hr ?_; (case hd => rfl); (case hg => rfl); (case hr => first | (go_simp; done) | (go_simp; rfl)); intro gb359 hg w7 hbox hb; replace HO356 := am (Kd.R_below (pkR HO356.out) hb); replace HB := am (below_step (by repeat (first | (with_reducible first | exact HB.out | apply below_alloc | apply pw_below_drewN | apply below_drew1 | refine below_set ?_ (IsS72.ge HI0.out) | refine below_set ?_ GE352.out) | exact HB.out)) hb); have BK359 := am (hbox); have GW359 := am ((by rw [hg]; first | done | exact (keep_size (w := w) (g := g) (row := none) (pkH HK.out)) : w.heap.size ≤ gb359)); have GE359 := am ((Nat.le_trans HW0.out (by rw [hg]; first | done | exact (keep_size (w := w) (g := g) (row := none) (pkH HK.out)) : w.heap.size ≤ gb359) : w0.heap.size ≤ gb359)); replace HK := am (KeepBut.trans (pkH HK.out) (KeepBut.of_below hb g none) (.inl rfl)); have NB352_359 := am ((by rw [hg]; exact Nat.ne_of_lt (blk_lt (g := gb352) (o := .cells #[.int .i64 0, .slice none 0 0] 29 (0, 0)) (pkK BK352.out)) : gb352 ≠ gb359)); have NB359_352 := am ((by rw [hg]; exact Nat.ne_of_gt (blk_lt (g := gb352) (o := .cells #[.int .i64 0, .slice none 0 0] 29 (0, 0)) (pkK BK352.out)) : gb359 ≠ gb352)); replace BK352 := am (blk_below (pkK BK352.out) hb); have NB0_359 := am ((by rw [hg]; exact Nat.ne_of_lt (IsS72.lt (show IsS72 w0 _ g s0_0 t357 t358 from IsS72.pk HI0.out)) : g ≠ gb359)); have NB359_0 := am ((by rw [hg]; exact Nat.ne_of_gt (IsS72.lt (show IsS72 w0 _ g s0_0 t357 t358 from IsS72.pk HI0.out)) : gb359 ≠ g)); replace HI0 := am (IsS72.below (IsS72.pk HI0.out) hb); clear hb hbox hg; have hnb8 := NB359_352.out; have hnc8 := NB352_359.out; have hnb9 := NB359_0.out; have hnc9 := NB0_359.out; obtain ⟨hcz10_0, hcz10_1, hfz10_0, hfz10_1⟩ := bk2 BK359.out; obtain ⟨Ao11, co11, eo11⟩ := Kd.R_slice HO356.out; subst eo11) | ((with_reducible refine gate_callee (f := 54) rfl ?_); refine goesL_ (some 11) rfl rfl Try.func54 (by kernel_rfl) rfl #[.pointer (some ⟨g, 0, none⟩), .int .i64 12] rfl mpx ?_; (with_reducible refine (spec_l1Once.calls g s0_0 t357 t358 12 t360 t361 t362 w0 _ ?side1 ?side2 A3.out).mono ?_); (case side1 => repeat (first | (with_reducible first | exact HI0.out | apply IsS72.alloc | apply IsS72.drewN | apply IsS72.drew | apply IsS72.set_1 | apply IsS72.set_2 | refine IsS72.far ?_ NB0_352.out _ | refine IsS72.far ?_ NB0_359.out _) | exact HI0.out)); (case side2 => repeat (first | (with_reducible first | exact HB.out | apply below_alloc | apply pw_below_drewN | apply below_drew1 | refine below_set ?_ (IsS72.ge HI0.out) | refine below_set ?_ GE352.out | refine below_set ?_ GE359.out) | exact HB.out)); rintro e w12 ⟨rfl, hi, hb, hk⟩; refine ⟨_, rfl, ?_⟩; replace BK352 := am (KeepBut.blk hk (g' := gb352) (o := .cells #[.int .i64 0, .slice none 0 0] 29 (0, 0)) (by (with_reducible repeat (first | refine blk_drewN ?_ _ | refine blk_drew ?_ | refine blk_alloc ?_ _)); refine blk_far ?_ NB352_359.out _; (with_reducible repeat (first | refine blk_drewN ?_ _ | refine blk_drew ?_ | refine blk_alloc ?_ _)); refine blk_far ?_ NB352_359.out _; exact pkK BK352.out) NB352_0.out (by simp)); replace HO356 := am (Kd.R_mono (Kd.R_keep (IsS72.apart (show IsS72 w0 _ g s0_0 t357 t358 from IsS72.pk HI0.out) (by (with_reducible repeat (first | apply Kd.R_alloc | apply Kd.R_drewN | apply Kd.R_drew)); exact (Kd.R_mono (Kd.R_far (p := ⟨gb359, 1, none⟩) (Kd.R_far (p := ⟨gb359, 0, none⟩) (Kd.R_types HO356.out BK359.out (by decide)) (fun _ hk => hk.2) (.int .i64 t353)) (fun _ hk => hk.2) (.slice Ao11 t354.length co11)) (fun _ h_ => h_.1))) (by decide)) hk (fun _ h => h.2)) (fun _ h => h.1)); replace BK359 := am (KeepBut.blk hk (g' := gb359) (o := .cells #[.int .i64 t353, .slice Ao11 t354.length co11] 29 (0, 0)) (by (with_reducible repeat (first | refine blk_drewN ?_ _ | refine blk_drew ?_ | refine blk_alloc ?_ _)); refine blk_put (cs := #[.int .i64 t353, .slice none 0 0]) ?_ 1 _ rfl; (with_reducible repeat (first | refine blk_drewN ?_ _ | refine blk_drew ?_ | refine blk_alloc ?_ _)); refine blk_put (cs := #[.int .i64 0, .slice none 0 0]) ?_ 0 _ rfl; exact pkK BK359.out) NB359_0.out (by simp)); replace HK := am (KeepBut.trans (pkH HK.out) hk (.inl rfl)); replace HB := am (hb); replace HI0 := am (hi); (try clear hb hk hi)))
 (try simp only [Act.put, List.setIfInBounds_toArray, List.set_cons_zero, List.set_cons_succ])
 go_cut [] (fun wc => ∃ (kq : Nat) (x1001_3 : Int) (x1002_3 : Int) (x360000_3 : Int) (x360001_3 : List (S46)) (u360001 : Value), Aside0 (spec_l4Some.j1 kq s0_0 x1001_3 x1002_3 x360000_3 x360001_3 = some (r1, r2, r3, r4)) ∧ Aside0 (kq ≤ k) ∧ Aside0 (Kd.R k46 46 wc w.heap.size (fun _ => True) u360001 x360001_3) ∧ Aside0 (wc.heap[gb352]? = some (.cells #[.int .i64 0, (.slice none 0 0)] 29 (0, 0))) ∧ Aside0 (wc.heap[gb359]? = some (.cells #[.int .i64 x360000_3, u360001] 29 (0, 0))) ∧ Aside0 (IsS72 w0 wc g s0_0 x1001_3 x1002_3) ∧ Aside0 (KeepBut w wc g none) ∧ Aside0 (Below w0.heap.size w0 wc))
 case first =>
  have H := HC4.out
  clear HC4
  by_cases c13 : t360 = true
  ·subst c13
   replace H : ((spec_l4Clock.f k s0_0 t361 t362 0).bind fun bt363 => (spec_l4Some.l0 k 0 s0_0 bt363.2.2.1 bt363.2.2.2 bt363.1 bt363.2.1)) = some (r1, r2, r3, r4) := by rw [if_pos rfl] at H; exact H
   replace H := Option.bind_eq_some_iff.mp H
   obtain ⟨⟨t363, t364, t367, t368⟩, A140, H⟩ := H
   replace H : (spec_l4Some.l0 k 0 s0_0 t367 t368 t363 t364) = some (r1, r2, r3, r4) := H
   have A14 := am A140
   clear A140
   have H' := am H
   clear H
   go_wp2_with (first | ((with_reducible refine gate_callee (f := 53) rfl ?_); refine goesL_ (some 13) rfl rfl Try.func53 (by kernel_rfl) rfl #[.pointer (some ⟨g, 0, none⟩), .int .i64 0] rfl mpx ?_; (with_reducible refine (spec_l4Clock.calls k g s0_0 t361 t362 0 t363 t364 t367 t368 w0 _ ?side1 ?side2 A14.out).mono ?_); (case side1 => repeat (first | (with_reducible first | exact HI0.out | apply IsS72.alloc | apply IsS72.drewN | apply IsS72.drew | apply IsS72.set_1 | apply IsS72.set_2 | refine IsS72.far ?_ NB0_352.out _ | refine IsS72.far ?_ NB0_359.out _) | exact HI0.out)); (case side2 => repeat (first | (with_reducible first | exact HB.out | apply below_alloc | apply pw_below_drewN | apply below_drew1 | refine below_set ?_ (IsS72.ge HI0.out) | refine below_set ?_ GE352.out | refine below_set ?_ GE359.out) | exact HB.out)); rintro e w15 ⟨v365, rfl, ho0, hi, hb, hk⟩; refine ⟨_, rfl, ?_⟩; replace BK352 := am (KeepBut.blk hk (g' := gb352) (o := .cells #[.int .i64 0, .slice none 0 0] 29 (0, 0)) (pkK BK352.out) NB352_0.out (by simp)); replace BK359 := am (KeepBut.blk hk (g' := gb359) (o := .cells #[.int .i64 t353, .slice Ao11 t354.length co11] 29 (0, 0)) (pkK BK359.out) NB359_0.out (by simp)); have HO366 := am (Kd.R_lower (Kd.R_new' ho0 (Kd.R_lt (pkR HO356.out))) (keep_size (w := w) (g := g) (row := none) (pkH HK.out))); replace HO356 := am (Kd.R_mono (Kd.R_told (Kd.R_oldK (IsS72.apart (show IsS72 w0 _ g s0_0 t361 t362 from IsS72.pk HI0.out) (pkR HO356.out) (by decide)) hk) (Kd.R_base ho0)) (fun _ h_ => h_.1)); replace HK := am (KeepBut.trans (pkH HK.out) hk (.inl rfl)); replace HB := am (hb); replace HI0 := am (hi); (try clear hb hk hi ho0); have hnb16 := NB359_352.out; have hnc16 := NB352_359.out; have hnb17 := NB359_0.out; have hnc17 := NB0_359.out; obtain ⟨hcz18_0, hcz18_1, hfz18_0, hfz18_1⟩ := bk2 BK359.out; obtain ⟨Ao19, co19, eo19⟩ := Kd.R_slice HO366.out; subst eo19))
   go_loopg [4] k (fun kq v4 w' => ∃ (x4_1 : Int) (x1001_1 : Int) (x1002_1 : Int) (x360000_1 : Int) (x360001_1 : List (S46)) (u360001 : Value), v4 = .int .i64 x4_1 ∧ Aside0 (spec_l4Some.l0 kq x4_1 s0_0 x1001_1 x1002_1 x360000_1 x360001_1 = some (r1, r2, r3, r4)) ∧ Aside0 (kq ≤ k) ∧ Aside0 (Kd.R k46 46 w' w.heap.size (fun _ => True) u360001 x360001_1) ∧ Aside0 (w'.heap[gb352]? = some (.cells #[.int .i64 0, (.slice none 0 0)] 29 (0, 0))) ∧ Aside0 (w'.heap[gb359]? = some (.cells #[.int .i64 x360000_1, u360001] 29 (0, 0))) ∧ Aside0 (IsS72 w0 w' g s0_0 x1001_1 x1002_1) ∧ Aside0 (KeepBut w w' g none) ∧ Aside0 (Below w0.heap.size w0 w'))
   case atStart => exact ⟨(0), (t367), (t368), (t363), (t364), (.slice Ao19 t364.length co19), rfx, H', ⟨Nat.le_refl _⟩, ⟨by (with_reducible repeat (first | apply Kd.R_alloc | apply Kd.R_drewN | apply Kd.R_drew)); exact Kd.R_mono (Kd.R_far (p := ⟨gb359, 1, none⟩) (Kd.R_far (p := ⟨gb359, 0, none⟩) (Kd.R_types HO366.out BK359.out (by decide)) (fun _ hk => hk.2) (.int .i64 t363)) (fun _ hk => hk.2) (.slice Ao19 t364.length co19)) (fun _ hk => trivial)⟩, ⟨by (with_reducible repeat (first | refine blk_drewN ?_ _ | refine blk_drew ?_ | refine blk_alloc ?_ _)); refine blk_far ?_ NB352_359.out _; (with_reducible repeat (first | refine blk_drewN ?_ _ | refine blk_drew ?_ | refine blk_alloc ?_ _)); refine blk_far ?_ NB352_359.out _; exact pkK BK352.out⟩, ⟨by (with_reducible repeat (first | refine blk_drewN ?_ _ | refine blk_drew ?_ | refine blk_alloc ?_ _)); refine blk_put (cs := #[.int .i64 t363, .slice Ao11 t354.length co11]) ?_ 1 _ rfl; (with_reducible repeat (first | refine blk_drewN ?_ _ | refine blk_drew ?_ | refine blk_alloc ?_ _)); refine blk_put (cs := #[.int .i64 t353, .slice Ao11 t354.length co11]) ?_ 0 _ rfl; exact pkK BK359.out⟩, ⟨by repeat (first | (with_reducible first | exact HI0.out | apply IsS72.alloc | apply IsS72.drewN | apply IsS72.drew | apply IsS72.set_1 | apply IsS72.set_2 | refine IsS72.far ?_ NB0_352.out _ | refine IsS72.far ?_ NB0_359.out _) | exact HI0.out)⟩, ⟨pkH HK.out⟩, ⟨by repeat (first | (with_reducible first | exact HB.out | apply below_alloc | apply pw_below_drewN | apply below_drew1 | refine below_set ?_ (IsS72.ge HI0.out) | refine below_set ?_ GE352.out | refine below_set ?_ GE359.out) | exact HB.out)⟩⟩
   case round =>
    clear H'
    try clear c1
    try clear p2
    try clear c4
    try clear c5
    try clear c8
    try clear c9
    try clear c13
    try clear c16
    try clear c17
    try clear hcz10_0
    try clear hcz10_1
    try clear hcz18_0
    try clear hcz18_1
    try clear hfz10_0
    try clear hfz10_1
    try clear hfz18_0
    try clear hfz18_1
    obtain ⟨x4_1, x1001_1, x1002_1, x360000_1, x360001_1, u360001, rfl, HA, HK1, HO_360001, BK352, BK359, HI0, HK, HB⟩ := hrel
    cases gk with
    | zero => exact absurd HA.out (by simp [spec_l4Some.l0])
    | succ k1 =>
     have H := HA.out
     clear HA
     simp only [spec_l4Some.l0] at H
     replace H := Option.bind_eq_some_iff.mp H
     obtain ⟨⟨t369, t370, t371⟩, A200, H⟩ := H
     replace H : (if x4_1 < (wrap64 (40 - t369)) then ((spec_SetTimer.f k1 x360000_1 x360001_1 (wrap64 (1 + (Int.tmod x4_1 9))) (Int.tmod x4_1 5)).bind fun bt372 => (spec_l4Some.l0 k1 (wrap64 (x4_1 + 1)) s0_0 t370 t371 bt372.1 bt372.2.1)) else (spec_l4Some.j1 k1 s0_0 t370 t371 x360000_1 x360001_1)) = some (r1, r2, r3, r4) := H
     have A20 := am A200
     clear A200
     by_cases c21 : x4_1 < (wrap64 (40 - t369))
     ·rw [if_pos c21] at H
      have c21b0 : decide (x4_1 < (wrap64 (40 - t369))) = true := decide_eq_true c21
      clear c21
      (first | rw [c21b0] | (simp only [i64_w, i32_w]; rw [c21b0]) | skip)
      replace H := Option.bind_eq_some_iff.mp H
      obtain ⟨⟨t372, t373, t376⟩, A220, H⟩ := H
      replace H : (spec_l4Some.l0 k1 (wrap64 (x4_1 + 1)) s0_0 t370 t371 t372 t373) = some (r1, r2, r3, r4) := H
      have A22 := am A220
      clear A220
      have H' := am H
      clear H
      go_wp2_with (first | ((with_reducible refine gate_callee (f := 55) rfl ?_); refine goesL_ (some 16) rfl rfl Try.func55 (by kernel_rfl) rfl #[.pointer (some ⟨g, 0, none⟩), .int .i64 2] rfl mpx ?_; (with_reducible refine (spec_l1Below.calls g s0_0 x1001_1 x1002_1 2 t369 t370 t371 w0 _ ?side1 ?side2 A20.out).mono ?_); (case side1 => repeat (first | (with_reducible first | exact HI0.out | apply IsS72.alloc | apply IsS72.drewN | apply IsS72.drew | apply IsS72.set_1 | apply IsS72.set_2 | refine IsS72.far ?_ NB0_352.out _ | refine IsS72.far ?_ NB0_359.out _) | exact HI0.out)); (case side2 => repeat (first | (with_reducible first | exact HB.out | apply below_alloc | apply pw_below_drewN | apply below_drew1 | refine below_set ?_ (IsS72.ge HI0.out) | refine below_set ?_ GE352.out | refine below_set ?_ GE359.out) | exact HB.out)); rintro e w23 ⟨rfl, hi, hb, hk⟩; refine ⟨_, rfl, ?_⟩; replace HO_360001 := am (Kd.R_mono (Kd.R_keep (IsS72.apart (show IsS72 w0 _ g s0_0 x1001_1 x1002_1 from IsS72.pk HI0.out) (pkR HO_360001.out) (by decide)) hk (fun _ h => h.2)) (fun _ h => h.1)); replace BK352 := am (KeepBut.blk hk (g' := gb352) (o := .cells #[.int .i64 0, .slice none 0 0] 29 (0, 0)) (pkK BK352.out) NB352_0.out (by simp)); replace BK359 := am (KeepBut.blk hk (g' := gb359) (o := .cells #[.int .i64 x360000_1, u360001] 29 (0, 0)) (pkK BK359.out) NB359_0.out (by simp)); replace HK := am (KeepBut.trans (pkH HK.out) hk (.inl rfl)); replace HB := am (hb); replace HI0 := am (hi); (try clear hb hk hi); have hnb24 := NB359_352.out; have hnc24 := NB352_359.out; have hnb25 := NB359_0.out; have hnc25 := NB0_359.out; obtain ⟨hcz26_0, hcz26_1, hfz26_0, hfz26_1⟩ := bk2 BK359.out; obtain ⟨Ao27, co27, eo27⟩ := Kd.R_slice HO_360001.out; subst eo27) | ((with_reducible refine gate_callee (f := 28) rfl ?_); refine goesL_ (some 28) rfl rfl Try.func28 (by kernel_rfl) rfl #[.agg #[.int .i64 x360000_1, .slice Ao27 x360001_1.length co27], .int .i64 (wrap64 (1 + (Int.tmod x4_1 9))), .int .i64 (Int.tmod x4_1 5)] rfl mpx ?_; (with_reducible refine (spec_SetTimer.calls k1 x360000_1 _ _ x360001_1 (wrap64 (1 + (Int.tmod x4_1 9))) (Int.tmod x4_1 5) t372 t373 t376 _ ?side1 ?side2 A22.out).mono ?_); (case side1 => exact pkC (Kd.R_reads' HO_360001.out).2.2); (case side2 => exact (Kd.R_reads' HO_360001.out).2.1); rintro e w28 ⟨v374, rfl, ho0, hb⟩; refine ⟨_, rfl, ?_⟩; have HO375 := am (Kd.R_lower (Kd.R_new' ho0 (Kd.R_lt (pkR HO_360001.out))) (keep_size (w := w) (g := g) (row := none) (pkH HK.out))); replace HO_360001 := am (Kd.R_elder' (pkR HO_360001.out) (Kd.R_base ho0) hb); replace BK352 := am (blk_below (pkK BK352.out) hb); replace BK359 := am (blk_below (pkK BK359.out) hb); replace HK := am (KeepBut.trans (pkH HK.out) (KeepBut.of_below hb g none) (.inl rfl)); replace HB := am (below_step (by repeat (first | (with_reducible first | exact HB.out | apply below_alloc | apply pw_below_drewN | apply below_drew1 | refine below_set ?_ (IsS72.ge HI0.out) | refine below_set ?_ GE352.out | refine below_set ?_ GE359.out) | exact HB.out)) hb); replace HI0 := am (IsS72.below (IsS72.pk HI0.out) hb); (try clear hb ho0)) | ((with_reducible refine gate_dst (N := 5) rfl ?_); (try (refine gate_guard (by rfl) ?_; dsimp only)); refine box_event ?hg (N := 5) ?hd (cs := #[.int .i64 0, .slice none 0 0]) (t := 29) ?hr ?_; (case hd => rfl); (case hg => rfl); (case hr => first | (go_simp; done) | (go_simp; rfl)); intro gb377 hg w29 hbox hb; replace HO_360001 := am (Kd.R_below (pkR HO_360001.out) hb); replace HO375 := am (Kd.R_below (pkR HO375.out) hb); replace HB := am (below_step (by repeat (first | (with_reducible first | exact HB.out | apply below_alloc | apply pw_below_drewN | apply below_drew1 | refine below_set ?_ (IsS72.ge HI0.out) | refine below_set ?_ GE352.out | refine below_set ?_ GE359.out) | exact HB.out)) hb); have BK377 := am (hbox); have GW377 := am ((by rw [hg]; first | done | exact (keep_size (w := w) (g := g) (row := none) (pkH HK.out)) : w.heap.size ≤ gb377)); have GE377 := am ((Nat.le_trans HW0.out (by rw [hg]; first | done | exact (keep_size (w := w) (g := g) (row := none) (pkH HK.out)) : w.heap.size ≤ gb377) : w0.heap.size ≤ gb377)); replace HK := am (KeepBut.trans (pkH HK.out) (KeepBut.of_below hb g none) (.inl rfl)); have NB352_377 := am ((by rw [hg]; exact Nat.ne_of_lt (blk_lt (g := gb352) (o := .cells #[.int .i64 0, .slice none 0 0] 29 (0, 0)) (pkK BK352.out)) : gb352 ≠ gb377)); have NB377_352 := am ((by rw [hg]; exact Nat.ne_of_gt (blk_lt (g := gb352) (o := .cells #[.int .i64 0, .slice none 0 0] 29 (0, 0)) (pkK BK352.out)) : gb377 ≠ gb352)); replace BK352 := am (blk_below (pkK BK352.out) hb); have NB359_377 := am ((by rw [hg]; exact Nat.ne_of_lt (blk_lt (g := gb359) (o := .cells #[.int .i64 x360000_1, .slice Ao27 x360001_1.length co27] 29 (0, 0)) (pkK BK359.out)) : gb359 ≠ gb377)); have NB377_359 := am ((by rw [hg]; exact Nat.ne_of_gt (blk_lt (g := gb359) (o := .cells #[.int .i64 x360000_1, .slice Ao27 x360001_1.length co27] 29 (0, 0)) (pkK BK359.out)) : gb377 ≠ gb359)); replace BK359 := am (blk_below (pkK BK359.out) hb); have NB0_377 := am ((by rw [hg]; exact Nat.ne_of_lt (IsS72.lt (show IsS72 w0 _ g s0_0 t370 t371 from IsS72.pk HI0.out)) : g ≠ gb377)); have NB377_0 := am ((by rw [hg]; exact Nat.ne_of_gt (IsS72.lt (show IsS72 w0 _ g s0_0 t370 t371 from IsS72.pk HI0.out)) : gb377 ≠ g)); replace HI0 := am (IsS72.below (IsS72.pk HI0.out) hb); clear hb hbox hg; have hnb30 := NB377_352.out; have hnc30 := NB352_377.out; have hnb31 := NB377_359.out; have hnc31 := NB359_377.out; have hnb32 := NB377_0.out; have hnc32 := NB0_377.out; obtain ⟨hcz33_0, hcz33_1, hfz33_0, hfz33_1⟩ := bk2 BK377.out; obtain ⟨Ao34, co34, eo34⟩ := Kd.R_slice HO375.out; subst eo34; obtain ⟨hcz35_0, hcz35_1, hfz35_0, hfz35_1⟩ := bk2 BK359.out))
      go_roundg k1
      case measure => have := HK1.out; omega
      case rel => exact ⟨(wrap64 (x4_1 + 1)), (t370), (t371), (t372), (t373), (.slice Ao34 t373.length co34), rfx, H', ⟨by have := HK1.out; omega⟩, ⟨by (with_reducible repeat (first | apply Kd.R_alloc | apply Kd.R_drewN | apply Kd.R_drew)); exact Kd.R_mono (Kd.R_far (p := ⟨gb359, 1, none⟩) (Kd.R_far (p := ⟨gb359, 0, none⟩) (Kd.R_far (p := ⟨gb377, 1, none⟩) (Kd.R_far (p := ⟨gb377, 0, none⟩) (Kd.R_types (Kd.R_types HO375.out BK377.out (by decide)) BK359.out (by decide)) (fun _ hk => hk.1.2) (.int .i64 t372)) (fun _ hk => hk.1.2) (.slice Ao34 t373.length co34)) (fun _ hk => hk.2) (.int .i64 t372)) (fun _ hk => hk.2) (.slice Ao34 t373.length co34)) (fun _ hk => trivial)⟩, ⟨by (with_reducible repeat (first | refine blk_drewN ?_ _ | refine blk_drew ?_ | refine blk_alloc ?_ _)); refine blk_far ?_ NB352_359.out _; (with_reducible repeat (first | refine blk_drewN ?_ _ | refine blk_drew ?_ | refine blk_alloc ?_ _)); refine blk_far ?_ NB352_359.out _; (with_reducible repeat (first | refine blk_drewN ?_ _ | refine blk_drew ?_ | refine blk_alloc ?_ _)); refine blk_far ?_ NB352_377.out _; (with_reducible repeat (first | refine blk_drewN ?_ _ | refine blk_drew ?_ | refine blk_alloc ?_ _)); refine blk_far ?_ NB352_377.out _; exact pkK BK352.out⟩, ⟨by (with_reducible repeat (first | refine blk_drewN ?_ _ | refine blk_drew ?_ | refine blk_alloc ?_ _)); refine blk_put (cs := #[.int .i64 t372, .slice Ao27 x360001_1.length co27]) ?_ 1 _ rfl; (with_reducible repeat (first | refine blk_drewN ?_ _ | refine blk_drew ?_ | refine blk_alloc ?_ _)); refine blk_put (cs := #[.int .i64 x360000_1, .slice Ao27 x360001_1.length co27]) ?_ 0 _ rfl; (with_reducible repeat (first | refine blk_drewN ?_ _ | refine blk_drew ?_ | refine blk_alloc ?_ _)); refine blk_far ?_ NB359_377.out _; (with_reducible repeat (first | refine blk_drewN ?_ _ | refine blk_drew ?_ | refine blk_alloc ?_ _)); refine blk_far ?_ NB359_377.out _; exact pkK BK359.out⟩, ⟨by repeat (first | (with_reducible first | exact HI0.out | apply IsS72.alloc | apply IsS72.drewN | apply IsS72.drew | apply IsS72.set_1 | apply IsS72.set_2 | refine IsS72.far ?_ NB0_352.out _ | refine IsS72.far ?_ NB0_359.out _ | refine IsS72.far ?_ NB0_377.out _) | exact HI0.out)⟩, ⟨pkH HK.out⟩, ⟨by repeat (first | (with_reducible first | exact HB.out | apply below_alloc | apply pw_below_drewN | apply below_drew1 | refine below_set ?_ (IsS72.ge HI0.out) | refine below_set ?_ GE352.out | refine below_set ?_ GE359.out | refine below_set ?_ GE377.out) | exact HB.out)⟩⟩
     ·rw [if_neg c21] at H
      have c21b0 : decide (x4_1 < (wrap64 (40 - t369))) = false := decide_eq_false c21
      clear c21
      (first | rw [c21b0] | (simp only [i64_w, i32_w]; rw [c21b0]) | skip)
      have H' := am H
      clear H
      go_wp2_with (first | ((with_reducible refine gate_callee (f := 55) rfl ?_); refine goesL_ (some 16) rfl rfl Try.func55 (by kernel_rfl) rfl #[.pointer (some ⟨g, 0, none⟩), .int .i64 2] rfl mpx ?_; (with_reducible refine (spec_l1Below.calls g s0_0 x1001_1 x1002_1 2 t369 t370 t371 w0 _ ?side1 ?side2 A20.out).mono ?_); (case side1 => repeat (first | (with_reducible first | exact HI0.out | apply IsS72.alloc | apply IsS72.drewN | apply IsS72.drew | apply IsS72.set_1 | apply IsS72.set_2 | refine IsS72.far ?_ NB0_352.out _ | refine IsS72.far ?_ NB0_359.out _) | exact HI0.out)); (case side2 => repeat (first | (with_reducible first | exact HB.out | apply below_alloc | apply pw_below_drewN | apply below_drew1 | refine below_set ?_ (IsS72.ge HI0.out) | refine below_set ?_ GE352.out | refine below_set ?_ GE359.out) | exact HB.out)); rintro e w36 ⟨rfl, hi, hb, hk⟩; refine ⟨_, rfl, ?_⟩; replace HO_360001 := am (Kd.R_mono (Kd.R_keep (IsS72.apart (show IsS72 w0 _ g s0_0 x1001_1 x1002_1 from IsS72.pk HI0.out) (pkR HO_360001.out) (by decide)) hk (fun _ h => h.2)) (fun _ h => h.1)); replace BK352 := am (KeepBut.blk hk (g' := gb352) (o := .cells #[.int .i64 0, .slice none 0 0] 29 (0, 0)) (pkK BK352.out) NB352_0.out (by simp)); replace BK359 := am (KeepBut.blk hk (g' := gb359) (o := .cells #[.int .i64 x360000_1, u360001] 29 (0, 0)) (pkK BK359.out) NB359_0.out (by simp)); replace HK := am (KeepBut.trans (pkH HK.out) hk (.inl rfl)); replace HB := am (hb); replace HI0 := am (hi); (try clear hb hk hi)))
      go_meet
      case rel => exact ⟨_, (t370), (t371), (x360000_1), (x360001_1), (u360001), H', ⟨by have := HK1.out; first | omega | exact Nat.le_refl _⟩, ⟨pkR HO_360001.out⟩, ⟨pkK BK352.out⟩, ⟨pkK BK359.out⟩, ⟨by repeat (first | (with_reducible first | exact HI0.out | apply IsS72.alloc | apply IsS72.drewN | apply IsS72.drew | apply IsS72.set_1 | apply IsS72.set_2 | refine IsS72.far ?_ NB0_352.out _ | refine IsS72.far ?_ NB0_359.out _) | exact HI0.out)⟩, ⟨pkH HK.out⟩, ⟨by repeat (first | (with_reducible first | exact HB.out | apply below_alloc | apply pw_below_drewN | apply below_drew1 | refine below_set ?_ (IsS72.ge HI0.out) | refine below_set ?_ GE352.out | refine below_set ?_ GE359.out) | exact HB.out)⟩⟩
  ·replace c13 := Bool.eq_false_iff.mpr c13
   subst c13
   replace H : (spec_l4Some.j1 k s0_0 t361 t362 t353 t354) = some (r1, r2, r3, r4) := by rw [if_neg (show ¬ (false = true) by decide)] at H; exact H
   have H' := am H
   clear H
   go_wp2
   go_meet
   case rel => exact ⟨_, (t361), (t362), (t353), (t354), (.slice Ao11 t354.length co11), H', ⟨by first | omega | exact Nat.le_refl _⟩, ⟨pkR HO356.out⟩, ⟨pkK BK352.out⟩, ⟨pkK BK359.out⟩, ⟨by repeat (first | (with_reducible first | exact HI0.out | apply IsS72.alloc | apply IsS72.drewN | apply IsS72.drew | apply IsS72.set_1 | apply IsS72.set_2 | refine IsS72.far ?_ NB0_352.out _ | refine IsS72.far ?_ NB0_359.out _) | exact HI0.out)⟩, ⟨pkH HK.out⟩, ⟨by repeat (first | (with_reducible first | exact HB.out | apply below_alloc | apply pw_below_drewN | apply below_drew1 | refine below_set ?_ (IsS72.ge HI0.out) | refine below_set ?_ GE352.out | refine below_set ?_ GE359.out) | exact HB.out)⟩⟩
 case rest =>
  clear HC4
  try clear c1
  try clear c2
  try clear p2
  try clear c3
  try clear c4
  try clear c5
  try clear p6
  try clear c8
  try clear c9
  try clear c13
  try clear c16
  try clear c17
  try clear c21
  try clear c21b0
  try clear c24
  try clear c25
  try clear c28
  try clear c30
  try clear c31
  try clear c32
  try clear hcz10_0
  try clear hcz10_1
  try clear hcz18_0
  try clear hcz18_1
  try clear hcz26_0
  try clear hcz26_1
  try clear hcz33_0
  try clear hcz33_1
  try clear hcz35_0
  try clear hcz35_1
  try clear hfz10_0
  try clear hfz10_1
  try clear hfz18_0
  try clear hfz18_1
  try clear hfz26_0
  try clear hfz26_1
  try clear hfz33_0
  try clear hfz33_1
  try clear hfz35_0
  try clear hfz35_1
  try clear p2
  obtain ⟨kq, x1001_3, x1002_3, x360000_3, x360001_3, u360001, HA, HJ3, HO_360001, BK352, BK359, HI0, HK, HB⟩ := hcut
  cases kq with
  | zero => exact absurd HA.out (by simp [spec_l4Some.j1])
  | succ kj3 =>
   have H := HA.out
   clear HA
   simp only [spec_l4Some.j1] at H
   have HC37 := am H
   clear H
   go_upto_region 9 with (fail)
   go_cut [39] (fun v39 wc => ∃ (kq : Nat) (x39_36 : Bool) (x1001_36 : Int) (x1002_36 : Int), v39 = .bool x39_36 ∧ Aside0 (spec_l4Some.j2 kq x39_36 s0_0 x1001_36 x1002_36 x360000_3 x360001_3 = some (r1, r2, r3, r4)) ∧ Aside0 (kq ≤ kj3) ∧ Aside0 (Kd.R k46 46 wc w.heap.size (fun _ => True) u360001 x360001_3) ∧ Aside0 (wc.heap[gb352]? = some (.cells #[.int .i64 0, (.slice none 0 0)] 29 (0, 0))) ∧ Aside0 (wc.heap[gb359]? = some (.cells #[.int .i64 x360000_3, u360001] 29 (0, 0))) ∧ Aside0 (IsS72 w0 wc g s0_0 x1001_36 x1002_36) ∧ Aside0 (KeepBut w wc g none) ∧ Aside0 (Below w0.heap.size w0 wc))
   case first =>
    have H := HC37.out
    clear HC37
    replace H := Option.bind_eq_some_iff.mp H
    obtain ⟨⟨t378, t379, t380⟩, A380, H⟩ := H
    replace H : (if t378 = true then (spec_l4Some.j2 kj3 (decide ((x360001_3.length : Int) > 0)) s0_0 t379 t380 x360000_3 x360001_3) else (spec_l4Some.j2 kj3 false s0_0 t379 t380 x360000_3 x360001_3)) = some (r1, r2, r3, r4) := H
    have A38 := am A380
    clear A380
    by_cases c39 : t378 = true
    ·subst c39
     replace H : (spec_l4Some.j2 kj3 (decide ((x360001_3.length : Int) > 0)) s0_0 t379 t380 x360000_3 x360001_3) = some (r1, r2, r3, r4) := by rw [if_pos rfl] at H; exact H
     have H' := am H
     clear H
     go_wp2_with (first | ((with_reducible refine gate_callee (f := 54) rfl ?_); refine goesL_ (some 33) rfl rfl Try.func54 (by kernel_rfl) rfl #[.pointer (some ⟨g, 0, none⟩), .int .i64 8] rfl mpx ?_; (with_reducible refine (spec_l1Once.calls g s0_0 x1001_3 x1002_3 8 true t379 t380 w0 _ ?side1 ?side2 A38.out).mono ?_); (case side1 => repeat (first | (with_reducible first | exact HI0.out | apply IsS72.alloc | apply IsS72.drewN | apply IsS72.drew | apply IsS72.set_1 | apply IsS72.set_2 | refine IsS72.far ?_ NB0_352.out _ | refine IsS72.far ?_ NB0_359.out _) | exact HI0.out)); (case side2 => repeat (first | (with_reducible first | exact HB.out | apply below_alloc | apply pw_below_drewN | apply below_drew1 | refine below_set ?_ (IsS72.ge HI0.out) | refine below_set ?_ GE352.out | refine below_set ?_ GE359.out) | exact HB.out)); rintro e w40 ⟨rfl, hi, hb, hk⟩; refine ⟨_, rfl, ?_⟩; replace HO_360001 := am (Kd.R_mono (Kd.R_keep (IsS72.apart (show IsS72 w0 _ g s0_0 x1001_3 x1002_3 from IsS72.pk HI0.out) (pkR HO_360001.out) (by decide)) hk (fun _ h => h.2)) (fun _ h => h.1)); replace BK352 := am (KeepBut.blk hk (g' := gb352) (o := .cells #[.int .i64 0, .slice none 0 0] 29 (0, 0)) (pkK BK352.out) NB352_0.out (by simp)); replace BK359 := am (KeepBut.blk hk (g' := gb359) (o := .cells #[.int .i64 x360000_3, u360001] 29 (0, 0)) (pkK BK359.out) NB359_0.out (by simp)); replace HK := am (KeepBut.trans (pkH HK.out) hk (.inl rfl)); replace HB := am (hb); replace HI0 := am (hi); (try clear hb hk hi); have hnb41 := NB359_352.out; have hnc41 := NB352_359.out; have hnb42 := NB359_0.out; have hnc42 := NB0_359.out; obtain ⟨hcz43_0, hcz43_1, hfz43_0, hfz43_1⟩ := bk2 BK359.out; obtain ⟨Ao44, co44, eo44⟩ := Kd.R_slice HO_360001.out; subst eo44))
     go_meet
     case rel => exact ⟨_, (decide ((x360001_3.length : Int) > 0)), (t379), (t380), rfx, H', ⟨by have := HJ3.out; first | omega | exact Nat.le_refl _⟩, ⟨pkR HO_360001.out⟩, ⟨pkK BK352.out⟩, ⟨pkK BK359.out⟩, ⟨by repeat (first | (with_reducible first | exact HI0.out | apply IsS72.alloc | apply IsS72.drewN | apply IsS72.drew | apply IsS72.set_1 | apply IsS72.set_2 | refine IsS72.far ?_ NB0_352.out _ | refine IsS72.far ?_ NB0_359.out _) | exact HI0.out)⟩, ⟨pkH HK.out⟩, ⟨by repeat (first | (with_reducible first | exact HB.out | apply below_alloc | apply pw_below_drewN | apply below_drew1 | refine below_set ?_ (IsS72.ge HI0.out) | refine below_set ?_ GE352.out | refine below_set ?_ GE359.out) | exact HB.out)⟩⟩
    ·replace c39 := Bool.eq_false_iff.mpr c39
     subst c39
     replace H : (spec_l4Some.j2 kj3 false s0_0 t379 t380 x360000_3 x360001_3) = some (r1, r2, r3, r4) := by rw [if_neg (show ¬ (false = true) by decide)] at H; exact H
     have H' := am H
     clear H
     go_wp2_with (first | ((with_reducible refine gate_callee (f := 54) rfl ?_); refine goesL_ (some 33) rfl rfl Try.func54 (by kernel_rfl) rfl #[.pointer (some ⟨g, 0, none⟩), .int .i64 8] rfl mpx ?_; (with_reducible refine (spec_l1Once.calls g s0_0 x1001_3 x1002_3 8 false t379 t380 w0 _ ?side1 ?side2 A38.out).mono ?_); (case side1 => repeat (first | (with_reducible first | exact HI0.out | apply IsS72.alloc | apply IsS72.drewN | apply IsS72.drew | apply IsS72.set_1 | apply IsS72.set_2 | refine IsS72.far ?_ NB0_352.out _ | refine IsS72.far ?_ NB0_359.out _) | exact HI0.out)); (case side2 => repeat (first | (with_reducible first | exact HB.out | apply below_alloc | apply pw_below_drewN | apply below_drew1 | refine below_set ?_ (IsS72.ge HI0.out) | refine below_set ?_ GE352.out | refine below_set ?_ GE359.out) | exact HB.out)); rintro e w45 ⟨rfl, hi, hb, hk⟩; refine ⟨_, rfl, ?_⟩; replace HO_360001 := am (Kd.R_mono (Kd.R_keep (IsS72.apart (show IsS72 w0 _ g s0_0 x1001_3 x1002_3 from IsS72.pk HI0.out) (pkR HO_360001.out) (by decide)) hk (fun _ h => h.2)) (fun _ h => h.1)); replace BK352 := am (KeepBut.blk hk (g' := gb352) (o := .cells #[.int .i64 0, .slice none 0 0] 29 (0, 0)) (pkK BK352.out) NB352_0.out (by simp)); replace BK359 := am (KeepBut.blk hk (g' := gb359) (o := .cells #[.int .i64 x360000_3, u360001] 29 (0, 0)) (pkK BK359.out) NB359_0.out (by simp)); replace HK := am (KeepBut.trans (pkH HK.out) hk (.inl rfl)); replace HB := am (hb); replace HI0 := am (hi); (try clear hb hk hi)))
     go_meet
     case rel => exact ⟨_, (false), (t379), (t380), rfx, H', ⟨by have := HJ3.out; first | omega | exact Nat.le_refl _⟩, ⟨pkR HO_360001.out⟩, ⟨pkK BK352.out⟩, ⟨pkK BK359.out⟩, ⟨by repeat (first | (with_reducible first | exact HI0.out | apply IsS72.alloc | apply IsS72.drewN | apply IsS72.drew | apply IsS72.set_1 | apply IsS72.set_2 | refine IsS72.far ?_ NB0_352.out _ | refine IsS72.far ?_ NB0_359.out _) | exact HI0.out)⟩, ⟨pkH HK.out⟩, ⟨by repeat (first | (with_reducible first | exact HB.out | apply below_alloc | apply pw_below_drewN | apply below_drew1 | refine below_set ?_ (IsS72.ge HI0.out) | refine below_set ?_ GE352.out | refine below_set ?_ GE359.out) | exact HB.out)⟩⟩
   case rest =>
    clear HC37
    try clear c1
    try clear c2
    try clear p2
    try clear c3
    try clear c4
    try clear c5
    try clear p6
    try clear c8
    try clear c9
    try clear c13
    try clear c16
    try clear c17
    try clear c21
    try clear c21b0
    try clear c24
    try clear c25
    try clear c28
    try clear c30
    try clear c31
    try clear c32
    try clear c39
    try clear c41
    try clear c42
    try clear c44
    try clear hcz10_0
    try clear hcz10_1
    try clear hcz18_0
    try clear hcz18_1
    try clear hcz26_0
    try clear hcz26_1
    try clear hcz33_0
    try clear hcz33_1
    try clear hcz35_0
    try clear hcz35_1
    try clear hcz43_0
    try clear hcz43_1
    try clear hfz10_0
    try clear hfz10_1
    try clear hfz18_0
    try clear hfz18_1
    try clear hfz26_0
    try clear hfz26_1
    try clear hfz33_0
    try clear hfz33_1
    try clear hfz35_0
    try clear hfz35_1
    try clear hfz43_0
    try clear hfz43_1
    try clear p2
    try clear p6
    obtain ⟨kq, x39_36, x1001_36, x1002_36, rfl, HA, HJ36, HO_360001, BK352, BK359, HI0, HK, HB⟩ := hcut
    cases kq with
    | zero => exact absurd HA.out (by simp [spec_l4Some.j2])
    | succ kj36 =>
     have H := HA.out
     clear HA
     simp only [spec_l4Some.j2] at H
     by_cases c46 : x39_36 = true
     ·subst c46
      replace H : ((spec_l1Below.f s0_0 x1001_36 x1002_36 (x360001_3.length : Int)).bind fun bt381 => ((spec_l1PickInt.f s0_0 bt381.2.1 bt381.2.2 (([0, x360000_3, 1000000001] : List Int))).bind fun bt387 => (if 0 ≤ bt381.1 then (if bt381.1 < (x360001_3.length : Int) then (some (x360000_3, (x360001_3.set (bt381.1 : Int).toNat (⟨bt387.1, (rd_T46 x360001_3 bt381.1).f1⟩ : S46)), bt387.2.1, bt387.2.2)) else (none)) else (none)))) = some (r1, r2, r3, r4) := by rw [if_pos rfl] at H; exact H
      replace H := Option.bind_eq_some_iff.mp H
      obtain ⟨⟨t381, t382, t383⟩, A470, H⟩ := H
      replace H : ((spec_l1PickInt.f s0_0 t382 t383 (([0, x360000_3, 1000000001] : List Int))).bind fun bt387 => (if 0 ≤ t381 then (if t381 < (x360001_3.length : Int) then (some (x360000_3, (x360001_3.set (t381 : Int).toNat (⟨bt387.1, (rd_T46 x360001_3 t381).f1⟩ : S46)), bt387.2.1, bt387.2.2)) else (none)) else (none))) = some (r1, r2, r3, r4) := H
      have A47 := am A470
      clear A470
      obtain ⟨y384, hy384⟩ : ∃ y_ : List Int, y_ = (([0, x360000_3, 1000000001] : List Int)) := ⟨_, rfl⟩
      replace H : ((spec_l1PickInt.f s0_0 t382 t383 y384).bind fun bt387 => (if 0 ≤ t381 then (if t381 < (x360001_3.length : Int) then (some (x360000_3, (x360001_3.set (t381 : Int).toNat (⟨bt387.1, (rd_T46 x360001_3 t381).f1⟩ : S46)), bt387.2.1, bt387.2.2)) else (none)) else (none))) = some (r1, r2, r3, r4) := by first | (rw [hy384]; with_reducible exact H) | (have H2_ := (Option.bind_some _ _).symm.trans H; rw [hy384]; with_reducible exact H2_) | (have H2_ := (Option.bind_some _ _).symm.trans H; with_reducible exact H2_) | with_reducible exact H | (rw [hy384]; exact H) | exact H
      have Ny384 := am hy384
      clear hy384
      replace H := Option.bind_eq_some_iff.mp H
      obtain ⟨⟨t387, t388, t389⟩, A480, H⟩ := H
      replace H : (if 0 ≤ t381 then (if t381 < (x360001_3.length : Int) then (some (x360000_3, (x360001_3.set (t381 : Int).toNat (⟨t387, (rd_T46 x360001_3 t381).f1⟩ : S46)), t388, t389)) else (none)) else (none)) = some (r1, r2, r3, r4) := H
      have A48 := am A480
      clear A480
      by_cases c49 : 0 ≤ t381
      ·rw [if_pos c49] at H
       have c49b0 : decide (0 ≤ t381) = true := decide_eq_true c49
       clear c49
       by_cases c50 : t381 < (x360001_3.length : Int)
       ·rw [if_pos c50] at H
        have c50b0 : decide (t381 < (x360001_3.length : Int)) = true := decide_eq_true c50
        clear c50
        obtain ⟨y390, hy390⟩ : ∃ y_ : List (S46), y_ = (x360001_3.set (t381 : Int).toNat (⟨t387, (rd_T46 x360001_3 t381).f1⟩ : S46)) := ⟨_, rfl⟩
        replace H : (some (x360000_3, y390, t388, t389)) = some (r1, r2, r3, r4) := by first | (rw [hy390]; with_reducible exact H) | (have H2_ := (Option.bind_some _ _).symm.trans H; rw [hy390]; with_reducible exact H2_) | (have H2_ := (Option.bind_some _ _).symm.trans H; with_reducible exact H2_) | with_reducible exact H | (rw [hy390]; exact H) | exact H
        have Ny390 := am hy390
        clear hy390
        simp only [Option.some.injEq, Prod.mk.injEq] at H
        obtain ⟨rfl, rfl, rfl, rfl⟩ := H
        have hnb52 := NB359_352.out
        have hnc52 := NB352_359.out
        have hnb53 := NB359_0.out
        have hnc53 := NB0_359.out
        obtain ⟨hcz54_0, hcz54_1, hfz54_0, hfz54_1⟩ := bk2 BK359.out
        obtain ⟨Ao55, co55, eo55⟩ := Kd.R_slice HO_360001.out
        subst eo55
        try go_wp2_with (first | ((with_reducible refine gate_callee (f := 55) rfl ?_); refine goesL_ (some 44) rfl rfl Try.func55 (by kernel_rfl) rfl #[.pointer (some ⟨g, 0, none⟩), .int .i64 (x360001_3.length : Int)] rfl mpx ?_; (with_reducible refine (spec_l1Below.calls g s0_0 x1001_36 x1002_36 (x360001_3.length : Int) t381 t382 t383 w0 _ ?side1 ?side2 A47.out).mono ?_); (case side1 => repeat (first | (with_reducible first | exact HI0.out | apply IsS72.alloc | apply IsS72.drewN | apply IsS72.drew | apply IsS72.set_1 | apply IsS72.set_2 | refine IsS72.far ?_ NB0_352.out _ | refine IsS72.far ?_ NB0_359.out _) | exact HI0.out)); (case side2 => repeat (first | (with_reducible first | exact HB.out | apply below_alloc | apply pw_below_drewN | apply below_drew1 | refine below_set ?_ (IsS72.ge HI0.out) | refine below_set ?_ GE352.out | refine below_set ?_ GE359.out) | exact HB.out)); rintro e w56 ⟨rfl, hi, hb, hk⟩; refine ⟨_, rfl, ?_⟩; replace HO_360001 := am (Kd.R_mono (Kd.R_keep (IsS72.apart (show IsS72 w0 _ g s0_0 x1001_36 x1002_36 from IsS72.pk HI0.out) (pkR HO_360001.out) (by decide)) hk (fun _ h => h.2)) (fun _ h => h.1)); replace BK352 := am (KeepBut.blk hk (g' := gb352) (o := .cells #[.int .i64 0, .slice none 0 0] 29 (0, 0)) (pkK BK352.out) NB352_0.out (by simp)); replace BK359 := am (KeepBut.blk hk (g' := gb359) (o := .cells #[.int .i64 x360000_3, .slice Ao55 x360001_3.length co55] 29 (0, 0)) (pkK BK359.out) NB359_0.out (by simp)); replace HK := am (KeepBut.trans (pkH HK.out) hk (.inl rfl)); replace HB := am (hb); replace HI0 := am (hi); (try clear hb hk hi)))
        replace HO_360001 := am (Kd.R_drew HO_360001.out)
        replace BK352 := am (blk_drew BK352.out)
        replace BK359 := am (blk_drew BK359.out)
        replace HI0 := am (IsS72.drew HI0.out)
        replace HK := am (keep_drew HK.out)
        replace HB := am (below_drew1 HB.out)
        refine start_ (n := 11) (S := fun w' => w'.cell? ⟨gb359, 0, none⟩ = some (.int .i64 x360000_3) ∧ w'.cell? ⟨gb359, 1, none⟩ = some (.slice Ao55 x360001_3.length co55)) (ds := [10]) #[false, false, false, false, false, false, false, false, false, false, false] (by kernel_rfl) rfl rfl ⟨(blk_cell BK359.out 0).trans rfl, (blk_cell BK359.out 1).trans rfl⟩ (fun hHeld => ?_); refine with_tabW spec_l4Some.tab11 spec_l4Some.bits11 (fun HT_ HW_ => ?_)
        generalize w56.drew = w57 at HO_360001 BK352 BK359 HI0 HK HB hHeld ⊢
        refine pure_ (i := 0) (N := some 45) (v := ?_) (a' := ?_) #[true, false, false, false, false, false, false, false, false, false, false] rfl rfl (any_of HT_.out (by kernel_rfl)) (fun _ _ _ h => h) (Or.inl ⟨by rfl, ?_⟩) ?_ ?_
        rotate_left
        ·intro w'
         go_simp
         with_reducible rfl
        rotate_left
        ·simp only [Act.put, List.setIfInBounds_toArray, List.set_cons_zero, List.set_cons_succ, i64_w, i32_w]
         rfl
        refine pure_ (i := 2) (N := some 47) (v := ?_) (a' := ?_) #[true, false, true, false, false, false, false, false, false, false, false] rfl rfl (any_of HT_.out (by kernel_rfl)) (fun _ _ _ h => h) (Or.inl ⟨by rfl, ?_⟩) ?_ ?_
        rotate_left
        ·intro w'
         go_simp
         with_reducible rfl
        rotate_left
        ·simp only [Act.put, List.setIfInBounds_toArray, List.set_cons_zero, List.set_cons_succ, i64_w, i32_w]
         rfl
        refine pure_ (i := 3) (N := some 48) (v := ?_) (a' := ?_) #[true, false, true, true, false, false, false, false, false, false, false] rfl rfl (any_of HT_.out (by kernel_rfl)) (fun _ _ _ h => h) (Or.inl ⟨by rfl, ?_⟩) ?_ ?_
        rotate_left
        ·intro w'
         go_simp
         with_reducible rfl
        rotate_left
        ·simp only [Act.put, List.setIfInBounds_toArray, List.set_cons_zero, List.set_cons_succ, i64_w, i32_w]
         rfl
        refine pure_ (i := 4) (N := some 49) (v := ?_) (a' := ?_) #[true, false, true, true, true, false, false, false, false, false, false] rfl rfl (any_of HT_.out (by kernel_rfl)) (fun _ _ _ h => h) (Or.inl ⟨by rfl, ?_⟩) ?_ ?_
        rotate_left
        ·intro w'
         go_simp
         with_reducible rfl
        rotate_left
        ·simp only [Act.put, List.setIfInBounds_toArray, List.set_cons_zero, List.set_cons_succ, i64_w, i32_w]
         rfl
        refine take_ (i := 1) (N := some 46) (v := ?_) (a' := ?_) #[true, true, true, true, true, false, false, false, false, false, false] rfl rfl (take_ofW HT_.out HW_.out (by kernel_rfl)) (fun _ _ _ h => h) (Or.inl ⟨by rfl, ?_⟩) hHeld ?_ ?_
        rotate_left
        ·rintro w' ⟨s0, s1⟩
         go_simp
         with_reducible rfl
        rotate_left
        ·simp only [Act.put, List.setIfInBounds_toArray, List.set_cons_zero, List.set_cons_succ, i64_w, i32_w]
         rfl
        refine take_ (i := 5) (N := some 50) (v := ?_) (a' := ?_) #[true, true, true, true, true, true, false, false, false, false, false] rfl rfl (take_ofW HT_.out HW_.out (by kernel_rfl)) (fun _ _ _ h => h) (Or.inl ⟨by rfl, ?_⟩) hHeld ?_ ?_
        rotate_left
        ·rintro w' ⟨s0, s1⟩
         go_simp
         with_reducible rfl
        rotate_left
        ·simp only [Act.put, List.setIfInBounds_toArray, List.set_cons_zero, List.set_cons_succ, i64_w, i32_w]
         rfl
        refine one_ (i := 6) (N := some 51) #[true, true, true, true, true, true, true, false, false, false, false] rfl rfl (one_of HT_.out (by kernel_rfl)) (by decide) (fun K hK => ?_)
        refine Kd.R_lit_step (Kd.int .i64) _ 3 ?hg (N := 51) ?hd (xs := ([0, x360000_3, 1000000001] : List Int)) (inner := [.int .i64 0, .int .i64 x360000_3, .int .i64 1000000001]) (ok := fun _ => True) (okp := fun _ => True) ?hr ?hp (fun _ hk => hk) trivial (Below.refl _ _) (Nat.le_refl _) (by simp) ?_; (case hd => rfl); (case hg => rfl); (case hr => first | (go_simp; done) | (go_simp; rfl)); (case hp => exact (Reps.one (show Kd.M (Kd.int .i64) _ _ _ 0 [.int .i64 0] from rfl) (Reps.one (show Kd.M (Kd.int .i64) _ _ _ x360000_3 [.int .i64 x360000_3] from rfl) (Reps.one (show Kd.M (Kd.int .i64) _ _ _ 1000000001 [.int .i64 1000000001] from rfl) (Reps.none _ _)))))
        intro v385 w58 ho59 hb hg_ hnew_
        clear hg_ hnew_
        (first | rw [← Ny384.out] at ho59 | (simp only [Int.reduceToNat] at ho59; rw [← Ny384.out] at ho59))
        replace HO_360001 := am (Kd.R_below (pkR HO_360001.out) hb)
        have HO386 := am (Kd.R_lower ho59 (keep_size (w := w) (g := g) (row := none) (pkH HK.out)))
        replace BK352 := am (blk_below (pkK BK352.out) hb)
        replace BK359 := am (blk_below (pkK BK359.out) hb)
        replace HK := am (KeepBut.trans (pkH HK.out) (KeepBut.of_below hb g none) (.inl rfl))
        replace HB := am (below_step (by repeat (first | (with_reducible first | exact HB.out | apply below_alloc | apply pw_below_drewN | apply below_drew1 | refine below_set ?_ (IsS72.ge HI0.out) | refine below_set ?_ GE352.out | refine below_set ?_ GE359.out) | exact HB.out)) hb)
        replace HI0 := am (IsS72.below (IsS72.pk HI0.out) hb)
        clear hb ho59
        obtain ⟨Ao60, co60, eo60⟩ := Kd.R_slice HO386.out
        (first | subst eo60 | (injection eo60 with f1_ f2_ f3_; have f4_ := f1_.symm; have f5_ := f3_.symm; clear f1_ f2_ f3_; subst f4_; subst f5_))
        refine hK.out _ _ ⟨(blk_cell BK359.out 0).trans rfl, (blk_cell BK359.out 1).trans rfl⟩ (fun hHeld => ?_)
        clear hK K
        refine norm_ (a' := ?_) ?_ ?_
        rotate_left
        ·show Act.put _ (some 51) _ = _
         simp only [Act.put, List.setIfInBounds_toArray, List.set_cons_zero, List.set_cons_succ, i64_w, i32_w]
         rfl
        refine one_ (i := 7) (N := some 52) #[true, true, true, true, true, true, true, true, false, false, false] rfl rfl (one_of HT_.out (by kernel_rfl)) (by decide) (fun K hK => ?_)
        refine goes_ Try.func45 (by kernel_rfl) rfl #[.pointer (some ⟨g, 0, none⟩), .slice Ao60 y384.length co60] (by rfl) rfl rfl mpx ?_
        with_reducible refine (spec_l1PickInt.calls g s0_0 t382 t383 _ _ y384 t387 t388 t389 w0 _ ?side1 ?side2 ?side3 ?side4 ?side5 A48.out).mono ?_
        (case side1 => repeat (first | (with_reducible first | exact HI0.out | apply IsS72.alloc | apply IsS72.drewN | apply IsS72.drew | apply IsS72.set_1 | apply IsS72.set_2 | refine IsS72.far ?_ NB0_352.out _ | refine IsS72.far ?_ NB0_359.out _) | exact HI0.out))
        (case side2 => repeat (first | (with_reducible first | exact HB.out | apply below_alloc | apply pw_below_drewN | apply below_drew1 | refine below_set ?_ (IsS72.ge HI0.out) | refine below_set ?_ GE352.out | refine below_set ?_ GE359.out) | exact HB.out))
        (case side3 => exact pkC (Kd.R_reads' HO386.out).2.2)
        (case side4 => exact (Kd.R_reads' HO386.out).2.1)
        (case side5 => exact far_slice (IsS72.own_ne HI0.out HO386.out (by decide)))
        rintro e w61 ⟨rfl, hi, hb, hk⟩
        refine ⟨_, rfl, ?_⟩
        replace HO_360001 := am (Kd.R_mono (Kd.R_keep (IsS72.apart (show IsS72 w0 _ g s0_0 t382 t383 from IsS72.pk HI0.out) (pkR HO_360001.out) (by decide)) hk (fun _ h => h.2)) (fun _ h => h.1))
        replace BK352 := am (KeepBut.blk hk (g' := gb352) (o := .cells #[.int .i64 0, .slice none 0 0] 29 (0, 0)) (pkK BK352.out) NB352_0.out (by simp))
        replace BK359 := am (KeepBut.blk hk (g' := gb359) (o := .cells #[.int .i64 x360000_3, .slice Ao55 x360001_3.length co55] 29 (0, 0)) (pkK BK359.out) NB359_0.out (by simp))
        replace HO386 := am (Kd.R_mono (Kd.R_keep (IsS72.apart (show IsS72 w0 _ g s0_0 t382 t383 from IsS72.pk HI0.out) (pkR HO386.out) (by decide)) hk (fun _ h => h.2)) (fun _ h => h.1))
        replace HK := am (KeepBut.trans (pkH HK.out) hk (.inl rfl))
        replace HB := am (hb)
        replace HI0 := am (hi)
        (try clear hb); (try clear hk hi)
        have p51 : 0 ≤ (t381 : Int) := ofd
        have q51 : (t381 : Int) < ((x360001_3.length : Int) : Int) := ofd
        obtain ⟨go51, co51, eo51, gb51, gl51, cl51, HG51⟩ := Kd.R_form HO_360001.out (by omega)
        (first | cases eo51 | (injection eo51 with ea_ en_ ec_; (first | subst ea_ | (injection ea_ with ea_; subst ea_)); subst ec_; clear en_))
        have GB51 := am gb51
        have GG51 := am HG51
        clear gb51 gl51 HG51
        obtain ⟨ce51, hcl51, hM51, hcc51, hfr51⟩ := Kd.R_elem HO_360001.out z46 (t381 : Int) p51 q51
        obtain rfl := k46_openM hM51
        have hx51_0 : World.cell? _ ⟨go51, (t381 : Int).toNat * 2, none⟩ = some (.int .i64 ((rd_T46 x360001_3 t381).f0)) := hcc51 0 _ rfl
        have hx51_1 : World.cell? _ ⟨go51, (t381 : Int).toNat * 2 + 1, none⟩ = some (.int .i64 ((rd_T46 x360001_3 t381).f1)) := hcc51 1 _ rfl
        have hf51_0 : World.frozen? _ ⟨go51, (t381 : Int).toNat * 2, none⟩ = false := hfr51 0
        have hf51_1 : World.frozen? _ ⟨go51, (t381 : Int).toNat * 2 + 1, none⟩ = false := hfr51 1
        clear hcl51 hcc51 hfr51 hM51
        replace p51 := eq_true p51
        replace q51 := eq_true q51
        have HN0_go51 := am (show g ≠ go51 from by have h_ := IsS72.own_ne HI0.out HO_360001.out (by decide); intro e_; exact h_ (by rw [e_]; rfl))
        obtain ⟨ce62, hcl62, hM62, hcc62, hfr62⟩ := Kd.R_elem HO_360001.out z46 (t381 : Int) (ofd) (by have h_ : (t381 : Int) < ((x360001_3.length : Int) : Int) := ofd; first | exact h_ | (have e_ := (Kd.R_reads' HO_360001.out).1; omega) | simpa using h_)
        obtain rfl := k46_openM hM62
        have HP62 := (Kd.R_seg HO_360001.out (t381 : Int) (ofd) (by have h_ : (t381 : Int) < ((x360001_3.length : Int) : Int) := ofd; first | exact h_ | (have e_ := (Kd.R_reads' HO_360001.out).1; omega) | simpa using h_) (seg := [.int .i64 t387]) (j := 0) hcl62 hcc62 (show 1 ≤ 2 from by decide) (x' := (⟨t387, (rd_T46 x360001_3 t381).f1⟩ : S46)) (k46_mkM _ _ _ (⟨t387, (rd_T46 x360001_3 t381).f1⟩ : S46) ) (fun _ hk => hk)).1
        rw [← Ny390.out] at HP62
        have HQ62 := am HP62
        clear hcl62 hcc62 hfr62 hM62 HP62
        refine hK.out _ _ ⟨(blk_cell BK359.out 0).trans rfl, (blk_cell BK359.out 1).trans rfl⟩ (fun hHeld => ?_)
        clear hK K
        refine norm_ (a' := ?_) ?_ ?_
        rotate_left
        ·show Act.put _ (some 52) _ = _
         simp only [Act.put, List.setIfInBounds_toArray, List.set_cons_zero, List.set_cons_succ, i64_w, i32_w]
         rfl
        refine pure_ (i := 8) (N := some 53) (v := ?_) (a' := ?_) #[true, true, true, true, true, true, true, true, true, false, false] rfl rfl (any_of HT_.out (by kernel_rfl)) (fun _ _ _ h => h) (Or.inl ⟨by rfl, ?_⟩) ?_ ?_
        rotate_left
        ·intro w'
         go_simp
         with_reducible rfl
        rotate_left
        ·simp only [Act.put, List.setIfInBounds_toArray, List.set_cons_zero, List.set_cons_succ, i64_w, i32_w]
         rfl
        refine pure_ (i := 9) (N := some 54) (v := ?_) (a' := ?_) #[true, true, true, true, true, true, true, true, true, true, false] rfl rfl (any_of HT_.out (by kernel_rfl)) (fun _ _ _ h => h) (Or.inl ⟨by rfl, ?_⟩) ?_ ?_
        rotate_left
        ·intro w'
         go_simp
         with_reducible rfl
        rotate_left
        ·simp only [Act.put, List.setIfInBounds_toArray, List.set_cons_zero, List.set_cons_succ, i64_w, i32_w]
         rfl
        refine last_ (i := 10) (N := none) #[true, true, true, true, true, true, true, true, true, true, true] rfl rfl (one_of HT_.out (by kernel_rfl)) (by decide) (fun K hK => ?_)
        refine skip_ (w1 := ?_) (by rfl) rfl ?_ ?_
        rotate_left
        ·go_simp
         rfl
        refine hK.out _ _ ?_
        clear hK K
        refine done_ (done_of HT_.out (by kernel_rfl)) ?_
        have n0_ : Aside0 (Kd.R k46 46 (w61.setCell ⟨go51, (t381 : Int).toNat * 2, none⟩ (.int .i64 t387)) w.heap.size (fun _ => True) (.slice (some ⟨go51, 0, none⟩) x360001_3.length co55) y390) := ⟨HQ62.out⟩
        have n1_ : Aside0 (Kd.R (Kd.int .i64) 3 (w61.setCell ⟨go51, (t381 : Int).toNat * 2, none⟩ (.int .i64 t387)) w.heap.size (fun _ => True) (.slice Ao60 y384.length co60) y384) := ⟨by (with_reducible repeat (first | apply Kd.R_alloc | apply Kd.R_drewN | apply Kd.R_drew)); exact Kd.R_mono (Kd.R_far (p := ⟨go51, (t381 : Int).toNat * 2, none⟩) (Kd.R_types HO386.out GG51.out (by decide)) (fun _ hk => hk.2) (.int .i64 t387)) (fun _ hk => trivial)⟩
        have n2_ : Aside0 ((w61.setCell ⟨go51, (t381 : Int).toNat * 2, none⟩ (.int .i64 t387)).heap[gb352]? = some (.cells #[.int .i64 0, .slice none 0 0] 29 (0, 0))) := ⟨by (with_reducible repeat (first | refine blk_drewN ?_ _ | refine blk_drew ?_ | refine blk_alloc ?_ _)); refine blk_far ?_ (by have h_ := Kd.R_ne HO_360001.out BK352.out (by decide); intro e_; exact h_ (by rw [e_]; rfl)) _; exact pkK BK352.out⟩
        have n3_ : Aside0 ((w61.setCell ⟨go51, (t381 : Int).toNat * 2, none⟩ (.int .i64 t387)).heap[gb359]? = some (.cells #[.int .i64 x360000_3, .slice (some ⟨go51, 0, none⟩) x360001_3.length co55] 29 (0, 0))) := ⟨by (with_reducible repeat (first | refine blk_drewN ?_ _ | refine blk_drew ?_ | refine blk_alloc ?_ _)); refine blk_far ?_ (by have h_ := Kd.R_ne HO_360001.out BK359.out (by decide); intro e_; exact h_ (by rw [e_]; rfl)) _; exact pkK BK359.out⟩
        have n4_ : Aside0 (IsS72 w0 (w61.setCell ⟨go51, (t381 : Int).toNat * 2, none⟩ (.int .i64 t387)) g s0_0 t388 t389) := ⟨by repeat (first | (with_reducible first | exact HI0.out | apply IsS72.alloc | apply IsS72.drewN | apply IsS72.drew | apply IsS72.set_1 | apply IsS72.set_2 | refine IsS72.far ?_ HN0_go51.out _ | refine IsS72.far ?_ NB0_352.out _ | refine IsS72.far ?_ NB0_359.out _) | exact HI0.out)⟩
        have n5_ : Aside0 (KeepBut w (w61.setCell ⟨go51, (t381 : Int).toNat * 2, none⟩ (.int .i64 t387)) g none) := ⟨pkH HK.out⟩
        have n6_ : Aside0 (Below w0.heap.size w0 (w61.setCell ⟨go51, (t381 : Int).toNat * 2, none⟩ (.int .i64 t387))) := ⟨by repeat (first | (with_reducible first | exact HB.out | apply below_alloc | apply pw_below_drewN | apply below_drew1 | refine below_set ?_ (Nat.le_trans HL.out GB51.out) | refine below_set ?_ (IsS72.ge HI0.out) | refine below_set ?_ GE352.out | refine below_set ?_ GE359.out) | exact HB.out)⟩
        (try clear HO_360001); (try clear HO386); (try clear BK352); (try clear BK359); (try clear HI0); (try clear HK); (try clear HB)
        generalize (w61.setCell ⟨go51, (t381 : Int).toNat * 2, none⟩ (.int .i64 t387)) = w63 at n0_ n1_ n2_ n3_ n4_ n5_ n6_ ⊢
        have HO_360001 := n0_; have HO386 := n1_; have BK352 := n2_; have BK359 := n3_; have HI0 := n4_; have HK := n5_; have HB := n6_
        clear n0_ n1_ n2_ n3_ n4_ n5_ n6_
        obtain ⟨hcz64_0, hcz64_1, hfz64_0, hfz64_1⟩ := bk2 BK359.out
        have hnb65 := NB352_0.out
        have hnc65 := NB0_352.out
        obtain ⟨hcz66_0, hcz66_1, hfz66_0, hfz66_1⟩ := bk2 BK352.out
        try go_wp2
        refine bodyPost_ret (results_cell_row rfl _ _ gb352 29 #[.int .i64 x360000_3, .slice (some ⟨go51, 0, none⟩) x360001_3.length co55] (0, 0) _ rfl (by (with_reducible repeat (first | refine blk_drewN ?_ _ | refine blk_drew ?_ | refine blk_alloc ?_ _)); refine blk_put (cs := #[.int .i64 x360000_3, .slice none 0 0]) ?_ 1 _ rfl; (with_reducible repeat (first | refine blk_drewN ?_ _ | refine blk_drew ?_ | refine blk_alloc ?_ _)); refine blk_put (cs := #[.int .i64 0, .slice none 0 0]) ?_ 0 _ rfl; exact pkK BK352.out) Try.underlying29 rfl (by kernel_rfl)) rfl ?_
        exact ⟨_, rfe, by (with_reducible repeat (first | apply Kd.R_alloc | apply Kd.R_drewN | apply Kd.R_drew)); exact Kd.R_mono (Kd.R_far (p := ⟨gb352, 1, none⟩) (Kd.R_far (p := ⟨gb352, 0, none⟩) (Kd.R_types HO_360001.out BK352.out (by decide)) (fun _ hk => hk.2) (.int .i64 x360000_3)) (fun _ hk => hk.2) (.slice (some ⟨go51, 0, none⟩) x360001_3.length co55)) (fun _ hk => trivial), by repeat (first | (with_reducible first | exact HI0.out | apply IsS72.alloc | apply IsS72.drewN | apply IsS72.drew | apply IsS72.set_1 | apply IsS72.set_2 | refine IsS72.far ?_ NB0_352.out _ | refine IsS72.far ?_ NB0_359.out _) | exact HI0.out), by repeat (first | (with_reducible first | exact HB.out | apply below_alloc | apply pw_below_drewN | apply below_drew1 | refine below_set ?_ (IsS72.ge HI0.out) | refine below_set ?_ GE352.out | refine below_set ?_ GE359.out) | exact HB.out), pkH HK.out⟩
       ·rw [if_neg c50] at H
        exact absurd H (by simp)
      ·rw [if_neg c49] at H
       exact absurd H (by simp)
     ·replace c46 := Bool.eq_false_iff.mpr c46
      subst c46
      replace H : (some (x360000_3, x360001_3, x1001_36, x1002_36)) = some (r1, r2, r3, r4) := by rw [if_neg (show ¬ (false = true) by decide)] at H; exact H
      simp only [Option.some.injEq, Prod.mk.injEq] at H
      obtain ⟨rfl, rfl, rfl, rfl⟩ := H
      have hnb67 := NB359_352.out
      have hnc67 := NB352_359.out
      have hnb68 := NB359_0.out
      have hnc68 := NB0_359.out
      obtain ⟨hcz69_0, hcz69_1, hfz69_0, hfz69_1⟩ := bk2 BK359.out
      have hnb70 := NB352_0.out
      have hnc70 := NB0_352.out
      obtain ⟨hcz71_0, hcz71_1, hfz71_0, hfz71_1⟩ := bk2 BK352.out
      obtain ⟨Ao72, co72, eo72⟩ := Kd.R_slice HO_360001.out
      subst eo72
      go_wp2
      refine bodyPost_ret (results_cell_row rfl _ _ gb352 29 #[.int .i64 x360000_3, .slice Ao72 x360001_3.length co72] (0, 0) _ rfl (by (with_reducible repeat (first | refine blk_drewN ?_ _ | refine blk_drew ?_ | refine blk_alloc ?_ _)); refine blk_put (cs := #[.int .i64 x360000_3, .slice none 0 0]) ?_ 1 _ rfl; (with_reducible repeat (first | refine blk_drewN ?_ _ | refine blk_drew ?_ | refine blk_alloc ?_ _)); refine blk_put (cs := #[.int .i64 0, .slice none 0 0]) ?_ 0 _ rfl; exact pkK BK352.out) Try.underlying29 rfl (by kernel_rfl)) rfl ?_
      exact ⟨_, rfe, by (with_reducible repeat (first | apply Kd.R_alloc | apply Kd.R_drewN | apply Kd.R_drew)); exact Kd.R_mono (Kd.R_far (p := ⟨gb352, 1, none⟩) (Kd.R_far (p := ⟨gb352, 0, none⟩) (Kd.R_types HO_360001.out BK352.out (by decide)) (fun _ hk => hk.2) (.int .i64 x360000_3)) (fun _ hk => hk.2) (.slice Ao72 x360001_3.length co72)) (fun _ hk => trivial), by repeat (first | (with_reducible first | exact HI0.out | apply IsS72.alloc | apply IsS72.drewN | apply IsS72.drew | apply IsS72.set_1 | apply IsS72.set_2 | refine IsS72.far ?_ NB0_352.out _ | refine IsS72.far ?_ NB0_359.out _) | exact HI0.out), by repeat (first | (with_reducible first | exact HB.out | apply below_alloc | apply pw_below_drewN | apply below_drew1 | refine below_set ?_ (IsS72.ge HI0.out) | refine below_set ?_ GE352.out | refine below_set ?_ GE359.out) | exact HB.out), pkH HK.out⟩
end Go.Proofs.Ytfgjfheiekhmlaa.Z
