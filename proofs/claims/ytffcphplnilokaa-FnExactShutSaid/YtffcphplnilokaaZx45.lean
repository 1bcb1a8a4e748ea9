/- The Go functions spec_l7Free as Lean functions, each with a proof that its code comes to just these answers; conditions: those of each theorem. -/
import Derived.Test.YtffcphplnilokaaZx0
import Derived.Test.YtffcphplnilokaaZx30
namespace Go.Proofs.Ytffcphplnilokaa.Z
open Go.RowKit Go.Proofs.YtffcphplnilokaaW.PrintWords Go.Proofs.YtffcphplnilokaaW.PrintLast Go.Proofs.YtffcphplnilokaaW.PrintMore
attribute [local go_sem] max2_int min2_int max_two min_two max_three min_three max_four min_four   -- for this text's walks alone
set_option linter.unusedVariables false
set_option linter.unusedSimpArgs false
def spec_l7Free.f (a0_0 : Int) (a0_1 : Int) (a0_2 : ByteArray) (a0_3 : Int) (a0_4 : Bool) (l0_5 : List Int) (l0_6 : List Int) : Option (Int × Int × ByteArray × Int × Bool × List Int × List Int × List Int) := (spec_l2Copy.f l0_5).bind fun t1359 => ((spec_l2Copy.f l0_6).bind fun t1362 => (if t1362.length + l0_5.length < 17592186044416 then (some (a0_0, a0_1, a0_2, a0_3, a0_4, ([] : List Int), (t1362 ++ l0_5), t1359)) else (none)))
def spec_l7Free.T2 : Bool × List (List Nat × List Nat) := (true, [([], []), ([0], [0]), ([1], [1]), ([], []), ([3], [3]), ([2, 4, 2], [2, 4]), ([0, 1, 2, 3, 4, 5], []), ([6, 5, 5, 0, 1, 2, 3, 4, 5], [5, 6])])
def spec_l7Free.B2 : List Nat := [0, 1, 3, 0, 8, 31, 63, 127]
theorem spec_l7Free.tab2 : rtab .any (opsOf Try.f80 2) = spec_l7Free.T2 := by kernel_rfl
theorem spec_l7Free.bits2 : waitsOk spec_l7Free.T2.2 spec_l7Free.B2 = true := by kernel_rfl
set_option maxHeartbeats 8000000 in
set_option maxRecDepth 100000 in
theorem spec_l7Free.calls (a0_0 : Int) (a0_1 : Int) (a0_2 : ByteArray) (a0_3 : Int) (a0_4 : Bool) (A0_5 : Option Addr) (c0_5 : Nat) (l0_5 : List Int) (A0_6 : Option Addr) (c0_6 : Nat) (l0_6 : List Int) (r1 : Int) (r2 : Int) (r3 : ByteArray) (r4 : Int) (r5 : Bool) (r6 : List Int) (r7 : List Int) (r8 : List Int) (w : World) (hr0_5 : Kd.C (Kd.int .i64) w A0_5 l0_5.length l0_5) (hc0_5 : l0_5.length ≤ c0_5) (hr0_6 : Kd.C (Kd.int .i64) w A0_6 l0_6.length l0_6) (hc0_6 : l0_6.length ≤ c0_6) (h : spec_l7Free.f a0_0 a0_1 a0_2 a0_3 a0_4 l0_5 l0_6 = some (r1, r2, r3, r4, r5, r6, r7, r8)) :
  Calls Try.prog 80 #[.agg #[.int .i64 a0_0, .int .i64 a0_1, .string a0_2, .int .i64 a0_3, .bool a0_4, .slice A0_5 l0_5.length c0_5, .slice A0_6 l0_6.length c0_6]] w fun e w' => ∃ v5_ v6_ v7_ : Value, e = .returned (.tuple #[.agg #[.int .i64 r1, .int .i64 r2, .string r3, .int .i64 r4, .bool r5, v5_, v6_], v7_]) ∧ Kd.R (Kd.int .i64) 3 w' w.heap.size (fun k_ => some k_ ≠ (v6_ : Value).ownBlock ∧ some k_ ≠ (v7_ : Value).ownBlock) v5_ r6 ∧ Kd.R (Kd.int .i64) 3 w' w.heap.size (fun k_ => some k_ ≠ (v5_ : Value).ownBlock ∧ some k_ ≠ (v7_ : Value).ownBlock) v6_ r7 ∧ Kd.R (Kd.int .i64) 3 w' w.heap.size (fun k_ => some k_ ≠ (v5_ : Value).ownBlock ∧ some k_ ≠ (v6_ : Value).ownBlock) v7_ r8 ∧ Below w.heap.size w w' := by
 have hu29 := Try.underlying29
 have HR0_5 := am hr0_5
 have HC0_5 := am hc0_5
 clear hr0_5 hc0_5
 have HR0_6 := am hr0_6
 have HC0_6 := am hc0_6
 clear hr0_6 hc0_6
 have HB := am (Below.refl w.heap.size w)
 have H : ((spec_l2Copy.f l0_5).bind fun t1359 => ((spec_l2Copy.f l0_6).bind fun t1362 => (if t1362.length + l0_5.length < 17592186044416 then (some (a0_0, a0_1, a0_2, a0_3, a0_4, ([] : List Int), (t1362 ++ l0_5), t1359)) else (none)))) = some (r1, r2, r3, r4, r5, r6, r7, r8) := h
 clear h
 replace H := Option.bind_eq_some_iff.mp H
 obtain ⟨t1359, A20, H⟩ := H
 replace H : ((spec_l2Copy.f l0_6).bind fun t1362 => (if t1362.length + l0_5.length < 17592186044416 then (some (a0_0, a0_1, a0_2, a0_3, a0_4, ([] : List Int), (t1362 ++ l0_5), t1359)) else (none))) = some (r1, r2, r3, r4, r5, r6, r7, r8) := H
 have A2 := am A20
 clear A20
 replace H := Option.bind_eq_some_iff.mp H
 obtain ⟨t1362, A30, H⟩ := H
 replace H : (if t1362.length + l0_5.length < 17592186044416 then (some (a0_0, a0_1, a0_2, a0_3, a0_4, ([] : List Int), (t1362 ++ l0_5), t1359)) else (none)) = some (r1, r2, r3, r4, r5, r6, r7, r8) := H
 have A3 := am A30
 clear A30
 by_cases c4 : t1362.length + l0_5.length < 17592186044416
 ·rw [if_pos c4] at H
  have LMc4 := am c4
  clear c4
  obtain ⟨y1365, hy1365⟩ : ∃ y_ : List Int, y_ = (t1362 ++ l0_5) := ⟨_, rfl⟩
  replace H : (some (a0_0, a0_1, a0_2, a0_3, a0_4, ([] : List Int), y1365, t1359)) = some (r1, r2, r3, r4, r5, r6, r7, r8) := by first | (rw [hy1365]; with_reducible exact H) | (have H2_ := (Option.bind_some _ _).symm.trans H; rw [hy1365]; with_reducible exact H2_) | (have H2_ := (Option.bind_some _ _).symm.trans H; with_reducible exact H2_) | with_reducible exact H | (rw [hy1365]; exact H) | exact H
  have Ny1365 := am hy1365
  clear hy1365
  simp only [Option.some.injEq, Prod.mk.injEq] at H
  obtain ⟨rfl, rfl, rfl, rfl, rfl, rfl, rfl, rfl⟩ := H
  go_enter Try.func80, Try.ntmps80
  try go_wp2_with (first | ((with_reducible refine gate_dst (N := 1) rfl ?_); refine box_event ?hg (N := 1) ?hd (cs := #[.int .i64 a0_0, .int .i64 a0_1, .string a0_2, .int .i64 a0_3, .bool a0_4, .slice A0_5 l0_5.length c0_5, .slice A0_6 l0_6.length c0_6]) (t := 29) ?hr ?_; (case hd => rfl); (case hg => rfl); (case hr => first | (go_simp; done) | (go_simp; rfl)); intro gb1357 hg w5 hbox hb; have BK1357 := am (hbox); have GW1357 := am ((by rw [hg]; exact (below_size (pkB HB.out)) : w.heap.size ≤ gb1357)); have GE1357 := am ((by rw [hg]; exact (below_size (pkB HB.out)) : w.heap.size ≤ gb1357)); replace HB := am (below_step (pkB HB.out) hb); clear hb hbox hg) | ((with_reducible refine gate_dst (N := 2) rfl ?_); refine box_event ?hg (N := 2) ?hd (cs := #[.int .i64 0, .int .i64 0, .string (⟨#[]⟩ : ByteArray), .int .i64 0, .bool false, .slice none 0 0, .slice none 0 0]) (t := 29) ?hr ?_; (case hd => rfl); (case hg => rfl); (case hr => first | (go_simp; done) | (go_simp; rfl)); intro gb1358 hg w6 hbox hb; have BK1358 := am (hbox); have GW1358 := am ((by rw [hg]; exact (below_size (pkW HB.out)) : w.heap.size ≤ gb1358)); have GE1358 := am ((by rw [hg]; exact (below_size (pkW HB.out)) : w.heap.size ≤ gb1358)); replace HB := am (below_step (pkW HB.out) hb); have NB1357_1358 := am ((by rw [hg]; exact Nat.ne_of_lt (blk_lt (g := gb1357) (o := .cells #[.int .i64 a0_0, .int .i64 a0_1, .string a0_2, .int .i64 a0_3, .bool a0_4, .slice A0_5 l0_5.length c0_5, .slice A0_6 l0_6.length c0_6] 29 (0, 0)) (pkK BK1357.out)) : gb1357 ≠ gb1358)); have NB1358_1357 := am ((by rw [hg]; exact Nat.ne_of_gt (blk_lt (g := gb1357) (o := .cells #[.int .i64 a0_0, .int .i64 a0_1, .string a0_2, .int .i64 a0_3, .bool a0_4, .slice A0_5 l0_5.length c0_5, .slice A0_6 l0_6.length c0_6] 29 (0, 0)) (pkK BK1357.out)) : gb1358 ≠ gb1357)); replace BK1357 := am (blk_below (pkK BK1357.out) hb); clear hb hbox hg; have hnb7 := NB1357_1358.out; have hnc7 := NB1358_1357.out; obtain ⟨hcz8_0, hcz8_1, hcz8_2, hcz8_3, hcz8_4, hcz8_5, hcz8_6, hfz8_0, hfz8_1, hfz8_2, hfz8_3, hfz8_4, hfz8_5, hfz8_6⟩ := bk7 BK1357.out) | ((with_reducible refine gate_callee (f := 78) rfl ?_); refine goesL_ (some 7) rfl rfl Try.func78 (by kernel_rfl) rfl #[.slice A0_5 l0_5.length c0_5] rfl mpx ?_; (with_reducible refine (spec_l2Copy.calls _ _ l0_5 t1359 _ ?side1 ?side2 A2.out).mono ?_); (case side1 => exact pkC (Kd.C_below HR0_5.out HB.out)); (case side2 => exact HC0_5.out); rintro e w9 ⟨v1360, rfl, ho0, hb⟩; refine ⟨_, rfl, ?_⟩; have HO1361 := am (Kd.R_lower ho0 (below_size (pkW HB.out))); replace BK1357 := am (blk_below (pkK BK1357.out) hb); replace BK1358 := am (blk_below (pkK BK1358.out) hb); replace HB := am (below_step (pkW HB.out) hb); (try clear hb ho0)))
  replace HO1361 := am (Kd.R_drew HO1361.out)
  replace BK1357 := am (blk_drew BK1357.out)
  replace BK1358 := am (blk_drew BK1358.out)
  replace HB := am (below_drew1 HB.out)
  refine start_ (n := 8) (S := fun w' => w'.cell? ⟨gb1357, 0, none⟩ = some (.int .i64 a0_0) ∧ w'.cell? ⟨gb1357, 1, none⟩ = some (.int .i64 a0_1) ∧ w'.cell? ⟨gb1357, 2, none⟩ = some (.string a0_2) ∧ w'.cell? ⟨gb1357, 3, none⟩ = some (.int .i64 a0_3) ∧ w'.cell? ⟨gb1357, 4, none⟩ = some (.bool a0_4) ∧ w'.cell? ⟨gb1357, 5, none⟩ = some (.slice A0_5 l0_5.length c0_5) ∧ w'.cell? ⟨gb1357, 6, none⟩ = some (.slice A0_6 l0_6.length c0_6)) (ds := [7]) #[false, false, false, false, false, false, false, false] (by kernel_rfl) rfl rfl ⟨(blk_cell BK1357.out 0).trans rfl, (blk_cell BK1357.out 1).trans rfl, (blk_cell BK1357.out 2).trans rfl, (blk_cell BK1357.out 3).trans rfl, (blk_cell BK1357.out 4).trans rfl, (blk_cell BK1357.out 5).trans rfl, (blk_cell BK1357.out 6).trans rfl⟩ (fun hHeld => ?_); refine with_tabW spec_l7Free.tab2 spec_l7Free.bits2 (fun HT_ HW_ => ?_)
  generalize w9.drew = w10 at HO1361 BK1357 BK1358 HB hHeld ⊢
  refine pure_ (i := 0) (N := some 8) (v := ?_) (a' := ?_) #[true, false, false, false, false, false, false, false] rfl rfl (any_of HT_.out (by kernel_rfl)) (fun _ _ _ h => h) (Or.inl ⟨by rfl, ?_⟩) ?_ ?_
  rotate_left
  ·intro w'
   go_simp
   with_reducible rfl
  rotate_left
  ·simp only [Act.put, List.setIfInBounds_toArray, List.set_cons_zero, List.set_cons_succ, i64_w, i32_w]
   rfl
  refine pure_ (i := 3) (N := some 11) (v := ?_) (a' := ?_) #[true, false, false, true, false, false, false, false] rfl rfl (any_of HT_.out (by kernel_rfl)) (fun _ _ _ h => h) (Or.inl ⟨by rfl, ?_⟩) ?_ ?_
  rotate_left
  ·intro w'
   go_simp
   with_reducible rfl
  rotate_left
  ·simp only [Act.put, List.setIfInBounds_toArray, List.set_cons_zero, List.set_cons_succ, i64_w, i32_w]
   rfl
  refine take_ (i := 1) (N := some 9) (v := ?_) (a' := ?_) #[true, true, false, true, false, false, false, false] rfl rfl (take_ofW HT_.out HW_.out (by kernel_rfl)) (fun _ _ _ h => h) (Or.inl ⟨by rfl, ?_⟩) hHeld ?_ ?_
  rotate_left
  ·rintro w' ⟨s0, s1, s2, s3, s4, s5, s6⟩
   go_simp
   with_reducible rfl
  rotate_left
  ·simp only [Act.put, List.setIfInBounds_toArray, List.set_cons_zero, List.set_cons_succ, i64_w, i32_w]
   rfl
  refine take_ (i := 4) (N := some 12) (v := ?_) (a' := ?_) #[true, true, false, true, true, false, false, false] rfl rfl (take_ofW HT_.out HW_.out (by kernel_rfl)) (fun _ _ _ h => h) (Or.inl ⟨by rfl, ?_⟩) hHeld ?_ ?_
  rotate_left
  ·rintro w' ⟨s0, s1, s2, s3, s4, s5, s6⟩
   go_simp
   with_reducible rfl
  rotate_left
  ·simp only [Act.put, List.setIfInBounds_toArray, List.set_cons_zero, List.set_cons_succ, i64_w, i32_w]
   rfl
  refine one_ (i := 2) (N := some 10) #[true, true, true, true, true, false, false, false] rfl rfl (one_of HT_.out (by kernel_rfl)) (by decide) (fun K hK => ?_)
  refine goes_ Try.func78 (by kernel_rfl) rfl #[.slice A0_6 l0_6.length c0_6] (by rfl) rfl rfl mpx ?_
  with_reducible refine (spec_l2Copy.calls _ _ l0_6 t1362 _ ?side1 ?side2 A3.out).mono ?_
  (case side1 => exact pkC (Kd.C_below HR0_6.out HB.out))
  (case side2 => exact HC0_6.out)
  rintro e w11 ⟨v1363, rfl, ho0, hb⟩
  refine ⟨_, rfl, ?_⟩
  have HO1364 := am (Kd.R_lower (Kd.R_new' ho0 (Kd.R_lt (pkR HO1361.out))) (below_size (pkW HB.out)))
  replace HO1361 := am (Kd.R_elder' (pkR HO1361.out) (Kd.R_base ho0) hb)
  replace BK1357 := am (blk_below (pkK BK1357.out) hb)
  replace BK1358 := am (blk_below (pkK BK1358.out) hb)
  replace HB := am (below_step (pkW HB.out) hb)
  (try clear hb); (try clear ho0)
  refine hK.out _ _ ⟨(blk_cell BK1357.out 0).trans rfl, (blk_cell BK1357.out 1).trans rfl, (blk_cell BK1357.out 2).trans rfl, (blk_cell BK1357.out 3).trans rfl, (blk_cell BK1357.out 4).trans rfl, (blk_cell BK1357.out 5).trans rfl, (blk_cell BK1357.out 6).trans rfl⟩ (fun hHeld => ?_)
  clear hK K
  refine norm_ (a' := ?_) ?_ ?_
  rotate_left
  ·show Act.put _ (some 10) _ = _
   simp only [Act.put, List.setIfInBounds_toArray, List.set_cons_zero, List.set_cons_succ, i64_w, i32_w]
   rfl
  refine one_ (i := 5) (N := some 13) #[true, true, true, true, true, true, false, false] rfl rfl (one_of HT_.out (by kernel_rfl)) (by decide) (fun K hK => ?_)
  refine Kd.R_append_rows_step (Kd.int .i64) (w0 := w) w.heap.size (by rfl) (.tmp 10) (.tmp 12) 27 3 (.int .i64 0) 8 rfl Try.underlying27 info3 rfl (by decide) (by omega) v1363 t1362 l0_5 _ _ _ (fun k_ => some k_ ≠ (v1360 : Value).ownBlock) (fun _ => False) rfl rfl ?aO ?aR (fun _ _ h => h) (fun _ h => h.elim) ?aF ?aB ?aS ?aL ?_
  (case aR => repeat (first | exact (Kd.C_below HR0_5.out HB.out) | (with_reducible refine Kd.C_alloc ?_ _) | (with_reducible refine Kd.C_drewN ?_ _) | (with_reducible refine Kd.C_drew ?_)))
  (case aB => exact (pkW HB.out))
  (case aF => exact (fun k_ hk => Kd.fresh' (Kd.R_lt (pkR HO1361.out)) k_ hk))
  (case aO => exact (by (with_reducible repeat (first | apply Kd.R_alloc | apply Kd.R_drewN | apply Kd.R_drew)); exact Kd.R_mono HO1364.out (fun _ hk => hk.2)))
  (case aS => exact (below_size (pkW HB.out)))
  (case aL => have := LMc4.out; omega)
  intro v1366 w12 ho hb hg hat
  rw [← Ny1365.out] at ho
  replace BK1357 := am (blk_grown (g := gb1357) (o := .cells #[.int .i64 a0_0, .int .i64 a0_1, .string a0_2, .int .i64 a0_3, .bool a0_4, .slice A0_5 l0_5.length c0_5, .slice A0_6 l0_6.length c0_6] 29 (0, 0)) (pkK BK1357.out) hg (Kd.R_ne HO1364.out BK1357.out (by decide)))
  replace BK1358 := am (blk_grown (g := gb1358) (o := .cells #[.int .i64 0, .int .i64 0, .string (⟨#[]⟩ : ByteArray), .int .i64 0, .bool false, .slice none 0 0, .slice none 0 0] 29 (0, 0)) (pkK BK1358.out) hg (Kd.R_ne HO1364.out BK1358.out (by decide)))
  replace HO1361 := am (Kd.R_after (ok := (fun _ => True)) (pkR HO1361.out) hg hat)
  replace HB := am (hb)
  have HO1367 := am (ho)
  clear HO1364 ho hb hg hat
  obtain ⟨Ao13, co13, eo13⟩ := Kd.R_slice HO1367.out
  (first | subst eo13 | (injection eo13 with f1_ f2_ f3_; have f4_ := f1_.symm; have f5_ := f3_.symm; clear f1_ f2_ f3_; subst f4_; subst f5_))
  refine hK.out _ _ ⟨(blk_cell BK1357.out 0).trans rfl, (blk_cell BK1357.out 1).trans rfl, (blk_cell BK1357.out 2).trans rfl, (blk_cell BK1357.out 3).trans rfl, (blk_cell BK1357.out 4).trans rfl, (blk_cell BK1357.out 5).trans rfl, (blk_cell BK1357.out 6).trans rfl⟩ (fun hHeld => ?_)
  clear hK K
  refine norm_ (a' := ?_) ?_ ?_
  rotate_left
  ·show Act.put _ (some 13) _ = _
   simp only [Act.put, List.setIfInBounds_toArray, List.set_cons_zero, List.set_cons_succ, i64_w, i32_w]
   rfl
  refine pure_ (i := 6) (N := some 14) (v := ?_) (a' := ?_) #[true, true, true, true, true, true, true, false] rfl rfl (any_of HT_.out (by kernel_rfl)) (fun _ _ _ h => h) (Or.inl ⟨by rfl, ?_⟩) ?_ ?_
  rotate_left
  ·intro w'
   go_simp
   with_reducible rfl
  rotate_left
  ·simp only [Act.put, List.setIfInBounds_toArray, List.set_cons_zero, List.set_cons_succ, i64_w, i32_w]
   rfl
  refine last_ (i := 7) (N := none) #[true, true, true, true, true, true, true, true] rfl rfl (one_of HT_.out (by kernel_rfl)) (by decide) (fun K hK => ?_)
  have hs14 : w12.cell? ⟨gb1357, 6, none⟩ = some (.slice A0_6 l0_6.length c0_6) := (blk_cell BK1357.out 6).trans rfl
  have hfs14 := blk_frozen BK1357.out 6
  have hns14_1 := NB1358_1357.out
  have hms14_1 := NB1357_1358.out
  refine skip_ (w1 := ?_) (by rfl) rfl ?_ ?_
  rotate_left
  ·go_simp
   rfl
  refine hK.out _ _ ?_
  clear hK K
  refine done_ (done_of HT_.out (by kernel_rfl)) ?_
  obtain ⟨hcz15_0, hcz15_1, hcz15_2, hcz15_3, hcz15_4, hcz15_5, hcz15_6, hfz15_0, hfz15_1, hfz15_2, hfz15_3, hfz15_4, hfz15_5, hfz15_6⟩ := bk7 BK1357.out
  obtain ⟨hcz16_0, hcz16_1, hcz16_2, hcz16_3, hcz16_4, hcz16_5, hcz16_6, hfz16_0, hfz16_1, hfz16_2, hfz16_3, hfz16_4, hfz16_5, hfz16_6⟩ := bk7 BK1358.out
  try go_wp2
  refine bodyPost_ret (results_ct rfl _ _ gb1358 29 #[.int .i64 a0_0, .int .i64 a0_1, .string a0_2, .int .i64 a0_3, .bool a0_4, .slice none 0 0, .slice Ao13 y1365.length co13] (0, 0) _ rfl (by (with_reducible repeat (first | refine blk_drewN ?_ _ | refine blk_drew ?_ | refine blk_alloc ?_ _)); refine blk_put (cs := #[.int .i64 a0_0, .int .i64 a0_1, .string a0_2, .int .i64 a0_3, .bool a0_4, .slice none 0 0, .slice none 0 0]) ?_ 6 _ rfl; (with_reducible repeat (first | refine blk_drewN ?_ _ | refine blk_drew ?_ | refine blk_alloc ?_ _)); refine blk_put (cs := #[.int .i64 a0_0, .int .i64 a0_1, .string a0_2, .int .i64 a0_3, .bool a0_4, .slice none 0 0, .slice none 0 0]) ?_ 5 _ rfl; (with_reducible repeat (first | refine blk_drewN ?_ _ | refine blk_drew ?_ | refine blk_alloc ?_ _)); refine blk_put (cs := #[.int .i64 a0_0, .int .i64 a0_1, .string a0_2, .int .i64 a0_3, .bool false, .slice none 0 0, .slice none 0 0]) ?_ 4 _ rfl; (with_reducible repeat (first | refine blk_drewN ?_ _ | refine blk_drew ?_ | refine blk_alloc ?_ _)); refine blk_put (cs := #[.int .i64 a0_0, .int .i64 a0_1, .string a0_2, .int .i64 0, .bool false, .slice none 0 0, .slice none 0 0]) ?_ 3 _ rfl; (with_reducible repeat (first | refine blk_drewN ?_ _ | refine blk_drew ?_ | refine blk_alloc ?_ _)); refine blk_put (cs := #[.int .i64 a0_0, .int .i64 a0_1, .string (⟨#[]⟩ : ByteArray), .int .i64 0, .bool false, .slice none 0 0, .slice none 0 0]) ?_ 2 _ rfl; (with_reducible repeat (first | refine blk_drewN ?_ _ | refine blk_drew ?_ | refine blk_alloc ?_ _)); refine blk_put (cs := #[.int .i64 a0_0, .int .i64 0, .string (⟨#[]⟩ : ByteArray), .int .i64 0, .bool false, .slice none 0 0, .slice none 0 0]) ?_ 1 _ rfl; (with_reducible repeat (first | refine blk_drewN ?_ _ | refine blk_drew ?_ | refine blk_alloc ?_ _)); refine blk_put (cs := #[.int .i64 0, .int .i64 0, .string (⟨#[]⟩ : ByteArray), .int .i64 0, .bool false, .slice none 0 0, .slice none 0 0]) ?_ 0 _ rfl; (with_reducible repeat (first | refine blk_drewN ?_ _ | refine blk_drew ?_ | refine blk_alloc ?_ _)); refine blk_far ?_ NB1358_1357.out _; (with_reducible repeat (first | refine blk_drewN ?_ _ | refine blk_drew ?_ | refine blk_alloc ?_ _)); refine blk_far ?_ NB1358_1357.out _; exact pkK BK1358.out) Try.underlying29 rfl (by kernel_rfl)) rfl ?_
  exact ⟨_, _, _, rfe, by first | exact Kd.R_nil _ _ _ _ _ | exact Kd.N_nil _ _ _ _ _ | exact Kd.V_nil _ _ _ _ _ | exact Kd.Q_nil _ _ _ _ _ | exact Kd.S_nil _ _ _ _ _, by (with_reducible repeat (first | apply Kd.R_alloc | apply Kd.R_drewN | apply Kd.R_drew)); exact Kd.R_mono (Kd.R_far (p := ⟨gb1358, 6, none⟩) (Kd.R_far (p := ⟨gb1358, 5, none⟩) (Kd.R_far (p := ⟨gb1358, 4, none⟩) (Kd.R_far (p := ⟨gb1358, 3, none⟩) (Kd.R_far (p := ⟨gb1358, 2, none⟩) (Kd.R_far (p := ⟨gb1358, 1, none⟩) (Kd.R_far (p := ⟨gb1358, 0, none⟩) (Kd.R_far (p := ⟨gb1357, 5, none⟩) (Kd.R_far (p := ⟨gb1357, 6, none⟩) (Kd.R_types (Kd.R_types HO1367.out BK1357.out (by decide)) BK1358.out (by decide)) (fun _ hk => hk.1.2) (.slice Ao13 y1365.length co13)) (fun _ hk => hk.1.2) (.slice none 0 0)) (fun _ hk => hk.2) (.int .i64 a0_0)) (fun _ hk => hk.2) (.int .i64 a0_1)) (fun _ hk => hk.2) (.string a0_2)) (fun _ hk => hk.2) (.int .i64 a0_3)) (fun _ hk => hk.2) (.bool a0_4)) (fun _ hk => hk.2) (.slice none 0 0)) (fun _ hk => hk.2) (.slice Ao13 y1365.length co13)) (fun _ hk => ⟨(by simp [Value.ownBlock]), hk.1.1⟩), by (with_reducible repeat (first | apply Kd.R_alloc | apply Kd.R_drewN | apply Kd.R_drew)); exact Kd.R_mono (Kd.R_far (p := ⟨gb1358, 6, none⟩) (Kd.R_far (p := ⟨gb1358, 5, none⟩) (Kd.R_far (p := ⟨gb1358, 4, none⟩) (Kd.R_far (p := ⟨gb1358, 3, none⟩) (Kd.R_far (p := ⟨gb1358, 2, none⟩) (Kd.R_far (p := ⟨gb1358, 1, none⟩) (Kd.R_far (p := ⟨gb1358, 0, none⟩) (Kd.R_far (p := ⟨gb1357, 5, none⟩) (Kd.R_far (p := ⟨gb1357, 6, none⟩) (Kd.R_types (Kd.R_types HO1361.out BK1357.out (by decide)) BK1358.out (by decide)) (fun _ hk => hk.1.2) (.slice Ao13 y1365.length co13)) (fun _ hk => hk.1.2) (.slice none 0 0)) (fun _ hk => hk.2) (.int .i64 a0_0)) (fun _ hk => hk.2) (.int .i64 a0_1)) (fun _ hk => hk.2) (.string a0_2)) (fun _ hk => hk.2) (.int .i64 a0_3)) (fun _ hk => hk.2) (.bool a0_4)) (fun _ hk => hk.2) (.slice none 0 0)) (fun _ hk => hk.2) (.slice Ao13 y1365.length co13)) (fun _ hk => ⟨(by simp [Value.ownBlock]), hk.1.1.2⟩), pkW HB.out⟩
 ·rw [if_neg c4] at H
  exact absurd H (by simp)
end Go.Proofs.Ytffcphplnilokaa.Z
