/- The Go functions spec_Look as Lean functions, each with a proof that its code comes to just these answers; conditions: those of each theorem. -/
import Derived.Test.YtffcphplnilokaaZx0
import Derived.Test.YtffcphplnilokaaZx20
namespace Go.Proofs.Ytffcphplnilokaa.Z
open Go.RowKit Go.Proofs.YtffcphplnilokaaW.PrintWords Go.Proofs.YtffcphplnilokaaW.PrintLast Go.Proofs.YtffcphplnilokaaW.PrintMore
attribute [local go_sem] max2_int min2_int max_two min_two max_three min_three max_four min_four   -- for this text's walks alone
set_option linter.unusedVariables false
set_option linter.unusedSimpArgs false
def spec_Look.f (k : Nat) (a0_0 : Int) (a0_1 : Int) (a0_2 : ByteArray) (a0_3 : Int) (a0_4 : Bool) (l0_5 : List Int) (l0_6 : List Int) : Option (Int × Int × ByteArray × Int × Int) := (spec_CellOk.f k a0_0 a0_1 a0_2 a0_3 a0_4 l0_5 l0_6).bind fun t718 => (if t718 = true then (if a0_4 = true then (some (a0_0, a0_1, a0_2, a0_3, 6)) else (some (a0_0, a0_1, a0_2, a0_3, 0))) else (some (0, 0, (⟨#[]⟩ : ByteArray), 0, 1)))
theorem spec_Look.mono : ∀ a0 a1 a2 a3 a4 a5 a6 k, LeO (spec_Look.f k a0 a1 a2 a3 a4 a5 a6) (spec_Look.f (k + 1) a0 a1 a2 a3 a4 a5 a6) := by
 intro a0 a1 a2 a3 a4 a5 a6 k
 unfold spec_Look.f
 repeat' first
   | (with_reducible exact spec_CellOk.mono _ _ _ _ _ _ _ _)
   | (with_reducible exact LeO.refl _)
   | (with_reducible exact LeO.none _)
   | (with_reducible refine LeO.ite ?_ ?_)
   | (with_reducible refine LeO.bind ?_ (fun _ => ?_))
set_option maxHeartbeats 8000000 in
set_option maxRecDepth 100000 in
theorem spec_Look.calls (k : Nat) (a0_0 : Int) (a0_1 : Int) (a0_2 : ByteArray) (a0_3 : Int) (a0_4 : Bool) (A0_5 : Option Addr) (c0_5 : Nat) (l0_5 : List Int) (A0_6 : Option Addr) (c0_6 : Nat) (l0_6 : List Int) (r1 : Int) (r2 : Int) (r3 : ByteArray) (r4 : Int) (r5 : Int) (w : World) (hr0_5 : Kd.C (Kd.int .i64) w A0_5 l0_5.length l0_5) (hc0_5 : l0_5.length ≤ c0_5) (hr0_6 : Kd.C (Kd.int .i64) w A0_6 l0_6.length l0_6) (hc0_6 : l0_6.length ≤ c0_6) (h : spec_Look.f k a0_0 a0_1 a0_2 a0_3 a0_4 l0_5 l0_6 = some (r1, r2, r3, r4, r5)) :
  Calls Try.prog 38 #[.agg #[.int .i64 a0_0, .int .i64 a0_1, .string a0_2, .int .i64 a0_3, .bool a0_4, .slice A0_5 l0_5.length c0_5, .slice A0_6 l0_6.length c0_6]] w fun e w' => e = .returned (.tuple #[.agg #[.int .i64 r1, .int .i64 r2, .string r3], .int .i64 r4, .int .i64 r5]) ∧ Below w.heap.size w w' := by
 have hu29 := Try.underlying29
 have hu25 := Try.underlying25
 have HR0_5 := am hr0_5
 have HC0_5 := am hc0_5
 clear hr0_5 hc0_5
 have HR0_6 := am hr0_6
 have HC0_6 := am hc0_6
 clear hr0_6 hc0_6
 have HB := am (Below.refl w.heap.size w)
 have H : ((spec_CellOk.f k a0_0 a0_1 a0_2 a0_3 a0_4 l0_5 l0_6).bind fun t718 => (if t718 = true then (if a0_4 = true then (some (a0_0, a0_1, a0_2, a0_3, 6)) else (some (a0_0, a0_1, a0_2, a0_3, 0))) else (some (0, 0, (⟨#[]⟩ : ByteArray), 0, 1)))) = some (r1, r2, r3, r4, r5) := h
 clear h
 replace H := Option.bind_eq_some_iff.mp H
 obtain ⟨t718, A20, H⟩ := H
 replace H : (if t718 = true then (if a0_4 = true then (some (a0_0, a0_1, a0_2, a0_3, 6)) else (some (a0_0, a0_1, a0_2, a0_3, 0))) else (some (0, 0, (⟨#[]⟩ : ByteArray), 0, 1))) = some (r1, r2, r3, r4, r5) := H
 have A2 := am A20
 clear A20
 by_cases c3 : t718 = true
 ·subst c3
  replace H : (if a0_4 = true then (some (a0_0, a0_1, a0_2, a0_3, 6)) else (some (a0_0, a0_1, a0_2, a0_3, 0))) = some (r1, r2, r3, r4, r5) := by rw [if_pos rfl] at H; exact H
  by_cases c4 : a0_4 = true
  ·subst c4
   replace H : (some (a0_0, a0_1, a0_2, a0_3, 6)) = some (r1, r2, r3, r4, r5) := by rw [if_pos rfl] at H; exact H
   simp only [Option.some.injEq, Prod.mk.injEq] at H
   obtain ⟨rfl, rfl, rfl, rfl, rfl⟩ := H
   go_enter Try.func38, Try.ntmps38
   try go_wp2_with (first | ((with_reducible refine gate_dst (N := 1) rfl ?_); refine box_event ?hg (N := 1) ?hd (cs := #[.int .i64 a0_0, .int .i64 a0_1, .string a0_2, .int .i64 a0_3, .bool true, .slice A0_5 l0_5.length c0_5, .slice A0_6 l0_6.length c0_6]) (t := 29) ?hr ?_; (case hd => rfl); (case hg => rfl); (case hr => first | (go_simp; done) | (go_simp; rfl)); intro gb716 hg w5 hbox hb; have BK716 := am (hbox); have GW716 := am ((by rw [hg]; exact (below_size (pkB HB.out)) : w.heap.size ≤ gb716)); have GE716 := am ((by rw [hg]; exact (below_size (pkB HB.out)) : w.heap.size ≤ gb716)); replace HB := am (below_step (pkB HB.out) hb); clear hb hbox hg) | ((with_reducible refine gate_dst (N := 2) rfl ?_); refine box_event ?hg (N := 2) ?hd (cs := #[.int .i64 0, .int .i64 0, .string (⟨#[]⟩ : ByteArray)]) (t := 25) ?hr ?_; (case hd => rfl); (case hg => rfl); (case hr => first | (go_simp; done) | (go_simp; rfl)); intro gb717 hg w6 hbox hb; have BK717 := am (hbox); have GW717 := am ((by rw [hg]; exact (below_size (pkW HB.out)) : w.heap.size ≤ gb717)); have GE717 := am ((by rw [hg]; exact (below_size (pkW HB.out)) : w.heap.size ≤ gb717)); replace HB := am (below_step (pkW HB.out) hb); have NB716_717 := am ((by rw [hg]; exact Nat.ne_of_lt (blk_lt (g := gb716) (o := .cells #[.int .i64 a0_0, .int .i64 a0_1, .string a0_2, .int .i64 a0_3, .bool true, .slice A0_5 l0_5.length c0_5, .slice A0_6 l0_6.length c0_6] 29 (0, 0)) (pkK BK716.out)) : gb716 ≠ gb717)); have NB717_716 := am ((by rw [hg]; exact Nat.ne_of_gt (blk_lt (g := gb716) (o := .cells #[.int .i64 a0_0, .int .i64 a0_1, .string a0_2, .int .i64 a0_3, .bool true, .slice A0_5 l0_5.length c0_5, .slice A0_6 l0_6.length c0_6] 29 (0, 0)) (pkK BK716.out)) : gb717 ≠ gb716)); replace BK716 := am (blk_below (pkK BK716.out) hb); clear hb hbox hg; have hnb7 := NB716_717.out; have hnc7 := NB717_716.out; obtain ⟨hcz8_0, hcz8_1, hcz8_2, hcz8_3, hcz8_4, hcz8_5, hcz8_6, hfz8_0, hfz8_1, hfz8_2, hfz8_3, hfz8_4, hfz8_5, hfz8_6⟩ := bk7 BK716.out) | ((with_reducible refine gate_callee (f := 22) rfl ?_); refine goesL_ (some 7) rfl rfl Try.func22 (by kernel_rfl) rfl #[.agg #[.int .i64 a0_0, .int .i64 a0_1, .string a0_2, .int .i64 a0_3, .bool true, .slice A0_5 l0_5.length c0_5, .slice A0_6 l0_6.length c0_6]] rfl mpx ?_; (with_reducible refine (spec_CellOk.calls k a0_0 a0_1 a0_2 a0_3 true _ _ l0_5 _ _ l0_6 true _ ?side1 ?side2 ?side3 ?side4 A2.out).mono ?_); (case side1 => exact pkC (Kd.C_below HR0_5.out HB.out)); (case side2 => exact HC0_5.out); (case side3 => exact pkC (Kd.C_below HR0_6.out HB.out)); (case side4 => exact HC0_6.out); rintro e w9 ⟨rfl, hb⟩; refine ⟨_, rfl, ?_⟩; replace BK716 := am (blk_below (pkK BK716.out) hb); replace BK717 := am (blk_below (pkK BK717.out) hb); replace HB := am (below_step (pkW HB.out) hb); (try clear hb); obtain ⟨hcz10_0, hcz10_1, hcz10_2, hcz10_3, hcz10_4, hcz10_5, hcz10_6, hfz10_0, hfz10_1, hfz10_2, hfz10_3, hfz10_4, hfz10_5, hfz10_6⟩ := bk7 BK716.out))
   replace BK716 := am (blk_drew BK716.out)
   replace BK717 := am (blk_drew BK717.out)
   replace HB := am (below_drew1 HB.out)
   refine start_ (n := 7) (S := fun w' => w'.cell? ⟨gb716, 0, none⟩ = some (.int .i64 a0_0) ∧ w'.cell? ⟨gb716, 1, none⟩ = some (.int .i64 a0_1) ∧ w'.cell? ⟨gb716, 2, none⟩ = some (.string a0_2) ∧ w'.cell? ⟨gb716, 3, none⟩ = some (.int .i64 a0_3) ∧ w'.cell? ⟨gb716, 4, none⟩ = some (.bool true) ∧ w'.cell? ⟨gb716, 5, none⟩ = some (.slice A0_5 l0_5.length c0_5) ∧ w'.cell? ⟨gb716, 6, none⟩ = some (.slice A0_6 l0_6.length c0_6)) (ds := []) #[false, false, false, false, false, false, false] (by kernel_rfl) rfl rfl ⟨(blk_cell BK716.out 0).trans rfl, (blk_cell BK716.out 1).trans rfl, (blk_cell BK716.out 2).trans rfl, (blk_cell BK716.out 3).trans rfl, (blk_cell BK716.out 4).trans rfl, (blk_cell BK716.out 5).trans rfl, (blk_cell BK716.out 6).trans rfl⟩ (fun hHeld => ?_)
   generalize w9.drew = w11 at BK716 BK717 HB hHeld ⊢
   refine pure_ (i := 0) (N := some 13) (v := ?_) (a' := ?_) #[true, false, false, false, false, false, false] rfl rfl (by kernel_rfl) (fun _ _ _ h => h) (Or.inl ⟨by rfl, ?_⟩) ?_ ?_
   rotate_left
   ·intro w'
    go_simp
    with_reducible rfl
   rotate_left
   ·simp only [Act.put, List.setIfInBounds_toArray, List.set_cons_zero, List.set_cons_succ, i64_w, i32_w]
    rfl
   refine pure_ (i := 2) (N := some 15) (v := ?_) (a' := ?_) #[true, false, true, false, false, false, false] rfl rfl (by kernel_rfl) (fun _ _ _ h => h) (Or.inl ⟨by rfl, ?_⟩) ?_ ?_
   rotate_left
   ·intro w'
    go_simp
    with_reducible rfl
   rotate_left
   ·simp only [Act.put, List.setIfInBounds_toArray, List.set_cons_zero, List.set_cons_succ, i64_w, i32_w]
    rfl
   refine take_ (i := 1) (N := some 14) (v := ?_) (a' := ?_) #[true, true, true, false, false, false, false] rfl rfl (by kernel_rfl) (fun _ _ _ h => h) (Or.inl ⟨by rfl, ?_⟩) hHeld ?_ ?_
   rotate_left
   ·rintro w' ⟨s0, s1, s2, s3, s4, s5, s6⟩
    go_simp
    with_reducible rfl
   rotate_left
   ·simp only [Act.put, List.setIfInBounds_toArray, List.set_cons_zero, List.set_cons_succ, i64_w, i32_w]
    rfl
   refine take_ (i := 3) (N := some 16) (v := ?_) (a' := ?_) #[true, true, true, true, false, false, false] rfl rfl (by kernel_rfl) (fun _ _ _ h => h) (Or.inl ⟨by rfl, ?_⟩) hHeld ?_ ?_
   rotate_left
   ·rintro w' ⟨s0, s1, s2, s3, s4, s5, s6⟩
    go_simp
    with_reducible rfl
   rotate_left
   ·simp only [Act.put, List.setIfInBounds_toArray, List.set_cons_zero, List.set_cons_succ, i64_w, i32_w]
    rfl
   refine one_ (i := 4) (N := none) #[true, true, true, true, true, false, false] rfl rfl (by kernel_rfl) (by decide) (fun K hK => ?_)
   have hs12 : w11.cell? ⟨gb717, 0, none⟩ = some (.int .i64 0) := (blk_cell BK717.out 0).trans rfl
   have hfs12 := blk_frozen BK717.out 0
   have hns12_0 := NB716_717.out
   have hms12_0 := NB717_716.out
   have hs13 : w11.cell? ⟨gb717, 1, none⟩ = some (.int .i64 0) := (blk_cell BK717.out 1).trans rfl
   have hfs13 := blk_frozen BK717.out 1
   have hns13_0 := NB716_717.out
   have hms13_0 := NB717_716.out
   have hs14 : w11.cell? ⟨gb717, 2, none⟩ = some (.string (⟨#[]⟩ : ByteArray)) := (blk_cell BK717.out 2).trans rfl
   have hfs14 := blk_frozen BK717.out 2
   have hns14_0 := NB716_717.out
   have hms14_0 := NB717_716.out
   refine skip_ (w1 := ?_) (by rfl) rfl ?_ ?_
   rotate_left
   ·go_simp
    rfl
   refine hK.out _ _ ⟨((cell_far (p := ⟨gb717, _, none⟩) NB716_717.out _).trans (((cell_far (p := ⟨gb717, _, none⟩) NB716_717.out _).trans (((cell_far (p := ⟨gb717, _, none⟩) NB716_717.out _).trans (hHeld.1)))))), ((cell_far (p := ⟨gb717, _, none⟩) NB716_717.out _).trans (((cell_far (p := ⟨gb717, _, none⟩) NB716_717.out _).trans (((cell_far (p := ⟨gb717, _, none⟩) NB716_717.out _).trans (hHeld.2.1)))))), ((cell_far (p := ⟨gb717, _, none⟩) NB716_717.out _).trans (((cell_far (p := ⟨gb717, _, none⟩) NB716_717.out _).trans (((cell_far (p := ⟨gb717, _, none⟩) NB716_717.out _).trans (hHeld.2.2.1)))))), ((cell_far (p := ⟨gb717, _, none⟩) NB716_717.out _).trans (((cell_far (p := ⟨gb717, _, none⟩) NB716_717.out _).trans (((cell_far (p := ⟨gb717, _, none⟩) NB716_717.out _).trans (hHeld.2.2.2.1)))))), ((cell_far (p := ⟨gb717, _, none⟩) NB716_717.out _).trans (((cell_far (p := ⟨gb717, _, none⟩) NB716_717.out _).trans (((cell_far (p := ⟨gb717, _, none⟩) NB716_717.out _).trans (hHeld.2.2.2.2.1)))))), ((cell_far (p := ⟨gb717, _, none⟩) NB716_717.out _).trans (((cell_far (p := ⟨gb717, _, none⟩) NB716_717.out _).trans (((cell_far (p := ⟨gb717, _, none⟩) NB716_717.out _).trans (hHeld.2.2.2.2.2.1)))))), ((cell_far (p := ⟨gb717, _, none⟩) NB716_717.out _).trans (((cell_far (p := ⟨gb717, _, none⟩) NB716_717.out _).trans (((cell_far (p := ⟨gb717, _, none⟩) NB716_717.out _).trans (hHeld.2.2.2.2.2.2))))))⟩ (fun hHeld => ?_)
   clear hK K
   refine pure_ (i := 5) (N := some 3) (v := ?_) (a' := ?_) #[true, true, true, true, true, true, false] rfl rfl (by kernel_rfl) (fun _ _ _ h => h) (Or.inl ⟨by rfl, ?_⟩) ?_ ?_
   rotate_left
   ·intro w'
    go_simp
    with_reducible rfl
   rotate_left
   ·simp only [Act.put, List.setIfInBounds_toArray, List.set_cons_zero, List.set_cons_succ, i64_w, i32_w]
    rfl
   refine pure_ (i := 6) (N := some 4) (v := ?_) (a' := ?_) #[true, true, true, true, true, true, true] rfl rfl (by kernel_rfl) (fun _ _ _ h => h) (Or.inl ⟨by rfl, ?_⟩) ?_ ?_
   rotate_left
   ·intro w'
    go_simp
    with_reducible rfl
   rotate_left
   ·simp only [Act.put, List.setIfInBounds_toArray, List.set_cons_zero, List.set_cons_succ, i64_w, i32_w]
    rfl
   refine done_ (by kernel_rfl) ?_
   try go_wp2
   refine bodyPost_ret (results_ctt rfl _ _ gb717 25 #[.int .i64 a0_0, .int .i64 a0_1, .string a0_2] (0, 0) _ rfl (by (with_reducible repeat (first | refine blk_drewN ?_ _ | refine blk_drew ?_ | refine blk_alloc ?_ _)); refine blk_put (cs := #[.int .i64 a0_0, .int .i64 a0_1, .string (⟨#[]⟩ : ByteArray)]) ?_ 2 _ rfl; (with_reducible repeat (first | refine blk_drewN ?_ _ | refine blk_drew ?_ | refine blk_alloc ?_ _)); refine blk_put (cs := #[.int .i64 a0_0, .int .i64 0, .string (⟨#[]⟩ : ByteArray)]) ?_ 1 _ rfl; (with_reducible repeat (first | refine blk_drewN ?_ _ | refine blk_drew ?_ | refine blk_alloc ?_ _)); refine blk_put (cs := #[.int .i64 0, .int .i64 0, .string (⟨#[]⟩ : ByteArray)]) ?_ 0 _ rfl; exact pkK BK717.out) Try.underlying25 rfl (by kernel_rfl)) rfl ?_
   exact ⟨rfe, pkW HB.out⟩
  ·replace c4 := Bool.eq_false_iff.mpr c4
   subst c4
   replace H : (some (a0_0, a0_1, a0_2, a0_3, 0)) = some (r1, r2, r3, r4, r5) := by rw [if_neg (show ¬ (false = true) by decide)] at H; exact H
   simp only [Option.some.injEq, Prod.mk.injEq] at H
   obtain ⟨rfl, rfl, rfl, rfl, rfl⟩ := H
   go_enter Try.func38, Try.ntmps38
   try go_wp2_with (first | ((with_reducible refine gate_dst (N := 1) rfl ?_); refine box_event ?hg (N := 1) ?hd (cs := #[.int .i64 a0_0, .int .i64 a0_1, .string a0_2, .int .i64 a0_3, .bool false, .slice A0_5 l0_5.length c0_5, .slice A0_6 l0_6.length c0_6]) (t := 29) ?hr ?_; (case hd => rfl); (case hg => rfl); (case hr => first | (go_simp; done) | (go_simp; rfl)); intro gb716 hg w15 hbox hb; have BK716 := am (hbox); have GW716 := am ((by rw [hg]; exact (below_size (pkB HB.out)) : w.heap.size ≤ gb716)); have GE716 := am ((by rw [hg]; exact (below_size (pkB HB.out)) : w.heap.size ≤ gb716)); replace HB := am (below_step (pkB HB.out) hb); clear hb hbox hg) | ((with_reducible refine gate_dst (N := 2) rfl ?_); refine box_event ?hg (N := 2) ?hd (cs := #[.int .i64 0, .int .i64 0, .string (⟨#[]⟩ : ByteArray)]) (t := 25) ?hr ?_; (case hd => rfl); (case hg => rfl); (case hr => first | (go_simp; done) | (go_simp; rfl)); intro gb717 hg w16 hbox hb; have BK717 := am (hbox); have GW717 := am ((by rw [hg]; exact (below_size (pkW HB.out)) : w.heap.size ≤ gb717)); have GE717 := am ((by rw [hg]; exact (below_size (pkW HB.out)) : w.heap.size ≤ gb717)); replace HB := am (below_step (pkW HB.out) hb); have NB716_717 := am ((by rw [hg]; exact Nat.ne_of_lt (blk_lt (g := gb716) (o := .cells #[.int .i64 a0_0, .int .i64 a0_1, .string a0_2, .int .i64 a0_3, .bool false, .slice A0_5 l0_5.length c0_5, .slice A0_6 l0_6.length c0_6] 29 (0, 0)) (pkK BK716.out)) : gb716 ≠ gb717)); have NB717_716 := am ((by rw [hg]; exact Nat.ne_of_gt (blk_lt (g := gb716) (o := .cells #[.int .i64 a0_0, .int .i64 a0_1, .string a0_2, .int .i64 a0_3, .bool false, .slice A0_5 l0_5.length c0_5, .slice A0_6 l0_6.length c0_6] 29 (0, 0)) (pkK BK716.out)) : gb717 ≠ gb716)); replace BK716 := am (blk_below (pkK BK716.out) hb); clear hb hbox hg; have hnb17 := NB716_717.out; have hnc17 := NB717_716.out; obtain ⟨hcz18_0, hcz18_1, hcz18_2, hcz18_3, hcz18_4, hcz18_5, hcz18_6, hfz18_0, hfz18_1, hfz18_2, hfz18_3, hfz18_4, hfz18_5, hfz18_6⟩ := bk7 BK716.out) | ((with_reducible refine gate_callee (f := 22) rfl ?_); refine goesL_ (some 7) rfl rfl Try.func22 (by kernel_rfl) rfl #[.agg #[.int .i64 a0_0, .int .i64 a0_1, .string a0_2, .int .i64 a0_3, .bool false, .slice A0_5 l0_5.length c0_5, .slice A0_6 l0_6.length c0_6]] rfl mpx ?_; (with_reducible refine (spec_CellOk.calls k a0_0 a0_1 a0_2 a0_3 false _ _ l0_5 _ _ l0_6 true _ ?side1 ?side2 ?side3 ?side4 A2.out).mono ?_); (case side1 => exact pkC (Kd.C_below HR0_5.out HB.out)); (case side2 => exact HC0_5.out); (case side3 => exact pkC (Kd.C_below HR0_6.out HB.out)); (case side4 => exact HC0_6.out); rintro e w19 ⟨rfl, hb⟩; refine ⟨_, rfl, ?_⟩; replace BK716 := am (blk_below (pkK BK716.out) hb); replace BK717 := am (blk_below (pkK BK717.out) hb); replace HB := am (below_step (pkW HB.out) hb); (try clear hb); obtain ⟨hcz20_0, hcz20_1, hcz20_2, hcz20_3, hcz20_4, hcz20_5, hcz20_6, hfz20_0, hfz20_1, hfz20_2, hfz20_3, hfz20_4, hfz20_5, hfz20_6⟩ := bk7 BK716.out))
   replace BK716 := am (blk_drew BK716.out)
   replace BK717 := am (blk_drew BK717.out)
   replace HB := am (below_drew1 HB.out)
   refine start_ (n := 7) (S := fun w' => w'.cell? ⟨gb716, 0, none⟩ = some (.int .i64 a0_0) ∧ w'.cell? ⟨gb716, 1, none⟩ = some (.int .i64 a0_1) ∧ w'.cell? ⟨gb716, 2, none⟩ = some (.string a0_2) ∧ w'.cell? ⟨gb716, 3, none⟩ = some (.int .i64 a0_3) ∧ w'.cell? ⟨gb716, 4, none⟩ = some (.bool false) ∧ w'.cell? ⟨gb716, 5, none⟩ = some (.slice A0_5 l0_5.length c0_5) ∧ w'.cell? ⟨gb716, 6, none⟩ = some (.slice A0_6 l0_6.length c0_6)) (ds := []) #[false, false, false, false, false, false, false] (by kernel_rfl) rfl rfl ⟨(blk_cell BK716.out 0).trans rfl, (blk_cell BK716.out 1).trans rfl, (blk_cell BK716.out 2).trans rfl, (blk_cell BK716.out 3).trans rfl, (blk_cell BK716.out 4).trans rfl, (blk_cell BK716.out 5).trans rfl, (blk_cell BK716.out 6).trans rfl⟩ (fun hHeld => ?_)
   generalize w19.drew = w21 at BK716 BK717 HB hHeld ⊢
   refine pure_ (i := 0) (N := some 17) (v := ?_) (a' := ?_) #[true, false, false, false, false, false, false] rfl rfl (by kernel_rfl) (fun _ _ _ h => h) (Or.inl ⟨by rfl, ?_⟩) ?_ ?_
   rotate_left
   ·intro w'
    go_simp
    with_reducible rfl
   rotate_left
   ·simp only [Act.put, List.setIfInBounds_toArray, List.set_cons_zero, List.set_cons_succ, i64_w, i32_w]
    rfl
   refine pure_ (i := 2) (N := some 19) (v := ?_) (a' := ?_) #[true, false, true, false, false, false, false] rfl rfl (by kernel_rfl) (fun _ _ _ h => h) (Or.inl ⟨by rfl, ?_⟩) ?_ ?_
   rotate_left
   ·intro w'
    go_simp
    with_reducible rfl
   rotate_left
   ·simp only [Act.put, List.setIfInBounds_toArray, List.set_cons_zero, List.set_cons_succ, i64_w, i32_w]
    rfl
   refine take_ (i := 1) (N := some 18) (v := ?_) (a' := ?_) #[true, true, true, false, false, false, false] rfl rfl (by kernel_rfl) (fun _ _ _ h => h) (Or.inl ⟨by rfl, ?_⟩) hHeld ?_ ?_
   rotate_left
   ·rintro w' ⟨s0, s1, s2, s3, s4, s5, s6⟩
    go_simp
    with_reducible rfl
   rotate_left
   ·simp only [Act.put, List.setIfInBounds_toArray, List.set_cons_zero, List.set_cons_succ, i64_w, i32_w]
    rfl
   refine take_ (i := 3) (N := some 20) (v := ?_) (a' := ?_) #[true, true, true, true, false, false, false] rfl rfl (by kernel_rfl) (fun _ _ _ h => h) (Or.inl ⟨by rfl, ?_⟩) hHeld ?_ ?_
   rotate_left
   ·rintro w' ⟨s0, s1, s2, s3, s4, s5, s6⟩
    go_simp
    with_reducible rfl
   rotate_left
   ·simp only [Act.put, List.setIfInBounds_toArray, List.set_cons_zero, List.set_cons_succ, i64_w, i32_w]
    rfl
   refine one_ (i := 4) (N := none) #[true, true, true, true, true, false, false] rfl rfl (by kernel_rfl) (by decide) (fun K hK => ?_)
   have hs22 : w21.cell? ⟨gb717, 0, none⟩ = some (.int .i64 0) := (blk_cell BK717.out 0).trans rfl
   have hfs22 := blk_frozen BK717.out 0
   have hns22_0 := NB716_717.out
   have hms22_0 := NB717_716.out
   have hs23 : w21.cell? ⟨gb717, 1, none⟩ = some (.int .i64 0) := (blk_cell BK717.out 1).trans rfl
   have hfs23 := blk_frozen BK717.out 1
   have hns23_0 := NB716_717.out
   have hms23_0 := NB717_716.out
   have hs24 : w21.cell? ⟨gb717, 2, none⟩ = some (.string (⟨#[]⟩ : ByteArray)) := (blk_cell BK717.out 2).trans rfl
   have hfs24 := blk_frozen BK717.out 2
   have hns24_0 := NB716_717.out
   have hms24_0 := NB717_716.out
   refine skip_ (w1 := ?_) (by rfl) rfl ?_ ?_
   rotate_left
   ·go_simp
    rfl
   refine hK.out _ _ ⟨((cell_far (p := ⟨gb717, _, none⟩) NB716_717.out _).trans (((cell_far (p := ⟨gb717, _, none⟩) NB716_717.out _).trans (((cell_far (p := ⟨gb717, _, none⟩) NB716_717.out _).trans (hHeld.1)))))), ((cell_far (p := ⟨gb717, _, none⟩) NB716_717.out _).trans (((cell_far (p := ⟨gb717, _, none⟩) NB716_717.out _).trans (((cell_far (p := ⟨gb717, _, none⟩) NB716_717.out _).trans (hHeld.2.1)))))), ((cell_far (p := ⟨gb717, _, none⟩) NB716_717.out _).trans (((cell_far (p := ⟨gb717, _, none⟩) NB716_717.out _).trans (((cell_far (p := ⟨gb717, _, none⟩) NB716_717.out _).trans (hHeld.2.2.1)))))), ((cell_far (p := ⟨gb717, _, none⟩) NB716_717.out _).trans (((cell_far (p := ⟨gb717, _, none⟩) NB716_717.out _).trans (((cell_far (p := ⟨gb717, _, none⟩) NB716_717.out _).trans (hHeld.2.2.2.1)))))), ((cell_far (p := ⟨gb717, _, none⟩) NB716_717.out _).trans (((cell_far (p := ⟨gb717, _, none⟩) NB716_717.out _).trans (((cell_far (p := ⟨gb717, _, none⟩) NB716_717.out _).trans (hHeld.2.2.2.2.1)))))), ((cell_far (p := ⟨gb717, _, none⟩) NB716_717.out _).trans (((cell_far (p := ⟨gb717, _, none⟩) NB716_717.out _).trans (((cell_far (p := ⟨gb717, _, none⟩) NB716_717.out _).trans (hHeld.2.2.2.2.2.1)))))), ((cell_far (p := ⟨gb717, _, none⟩) NB716_717.out _).trans (((cell_far (p := ⟨gb717, _, none⟩) NB716_717.out _).trans (((cell_far (p := ⟨gb717, _, none⟩) NB716_717.out _).trans (hHeld.2.2.2.2.2.2))))))⟩ (fun hHeld => ?_)
   clear hK K
   refine pure_ (i := 5) (N := some 3) (v := ?_) (a' := ?_) #[true, true, true, true, true, true, false] rfl rfl (by kernel_rfl) (fun _ _ _ h => h) (Or.inl ⟨by rfl, ?_⟩) ?_ ?_
   rotate_left
   ·intro w'
    go_simp
    with_reducible rfl
   rotate_left
   ·simp only [Act.put, List.setIfInBounds_toArray, List.set_cons_zero, List.set_cons_succ, i64_w, i32_w]
    rfl
   refine pure_ (i := 6) (N := some 4) (v := ?_) (a' := ?_) #[true, true, true, true, true, true, true] rfl rfl (by kernel_rfl) (fun _ _ _ h => h) (Or.inl ⟨by rfl, ?_⟩) ?_ ?_
   rotate_left
   ·intro w'
    go_simp
    with_reducible rfl
   rotate_left
   ·simp only [Act.put, List.setIfInBounds_toArray, List.set_cons_zero, List.set_cons_succ, i64_w, i32_w]
    rfl
   refine done_ (by kernel_rfl) ?_
   try go_wp2
   refine bodyPost_ret (results_ctt rfl _ _ gb717 25 #[.int .i64 a0_0, .int .i64 a0_1, .string a0_2] (0, 0) _ rfl (by (with_reducible repeat (first | refine blk_drewN ?_ _ | refine blk_drew ?_ | refine blk_alloc ?_ _)); refine blk_put (cs := #[.int .i64 a0_0, .int .i64 a0_1, .string (⟨#[]⟩ : ByteArray)]) ?_ 2 _ rfl; (with_reducible repeat (first | refine blk_drewN ?_ _ | refine blk_drew ?_ | refine blk_alloc ?_ _)); refine blk_put (cs := #[.int .i64 a0_0, .int .i64 0, .string (⟨#[]⟩ : ByteArray)]) ?_ 1 _ rfl; (with_reducible repeat (first | refine blk_drewN ?_ _ | refine blk_drew ?_ | refine blk_alloc ?_ _)); refine blk_put (cs := #[.int .i64 0, .int .i64 0, .string (⟨#[]⟩ : ByteArray)]) ?_ 0 _ rfl; exact pkK BK717.out) Try.underlying25 rfl (by kernel_rfl)) rfl ?_
   exact ⟨rfe, pkW HB.out⟩
 ·replace c3 := Bool.eq_false_iff.mpr c3
  subst c3
  replace H : (some (0, 0, (⟨#[]⟩ : ByteArray), 0, 1)) = some (r1, r2, r3, r4, r5) := by rw [if_neg (show ¬ (false = true) by decide)] at H; exact H
  simp only [Option.some.injEq, Prod.mk.injEq] at H
  obtain ⟨rfl, rfl, rfl, rfl, rfl⟩ := H
  go_enter Try.func38, Try.ntmps38
  go_wp2_with (first | ((with_reducible refine gate_dst (N := 1) rfl ?_); refine box_event ?hg (N := 1) ?hd (cs := #[.int .i64 a0_0, .int .i64 a0_1, .string a0_2, .int .i64 a0_3, .bool a0_4, .slice A0_5 l0_5.length c0_5, .slice A0_6 l0_6.length c0_6]) (t := 29) ?hr ?_; (case hd => rfl); (case hg => rfl); (case hr => first | (go_simp; done) | (go_simp; rfl)); intro gb716 hg w25 hbox hb; have BK716 := am (hbox); have GW716 := am ((by rw [hg]; exact (below_size (pkB HB.out)) : w.heap.size ≤ gb716)); have GE716 := am ((by rw [hg]; exact (below_size (pkB HB.out)) : w.heap.size ≤ gb716)); replace HB := am (below_step (pkB HB.out) hb); clear hb hbox hg) | ((with_reducible refine gate_dst (N := 2) rfl ?_); refine box_event ?hg (N := 2) ?hd (cs := #[.int .i64 0, .int .i64 0, .string (⟨#[]⟩ : ByteArray)]) (t := 25) ?hr ?_; (case hd => rfl); (case hg => rfl); (case hr => first | (go_simp; done) | (go_simp; rfl)); intro gb717 hg w26 hbox hb; have BK717 := am (hbox); have GW717 := am ((by rw [hg]; exact (below_size (pkW HB.out)) : w.heap.size ≤ gb717)); have GE717 := am ((by rw [hg]; exact (below_size (pkW HB.out)) : w.heap.size ≤ gb717)); replace HB := am (below_step (pkW HB.out) hb); have NB716_717 := am ((by rw [hg]; exact Nat.ne_of_lt (blk_lt (g := gb716) (o := .cells #[.int .i64 a0_0, .int .i64 a0_1, .string a0_2, .int .i64 a0_3, .bool a0_4, .slice A0_5 l0_5.length c0_5, .slice A0_6 l0_6.length c0_6] 29 (0, 0)) (pkK BK716.out)) : gb716 ≠ gb717)); have NB717_716 := am ((by rw [hg]; exact Nat.ne_of_gt (blk_lt (g := gb716) (o := .cells #[.int .i64 a0_0, .int .i64 a0_1, .string a0_2, .int .i64 a0_3, .bool a0_4, .slice A0_5 l0_5.length c0_5, .slice A0_6 l0_6.length c0_6] 29 (0, 0)) (pkK BK716.out)) : gb717 ≠ gb716)); replace BK716 := am (blk_below (pkK BK716.out) hb); clear hb hbox hg; have hnb27 := NB716_717.out; have hnc27 := NB717_716.out; obtain ⟨hcz28_0, hcz28_1, hcz28_2, hcz28_3, hcz28_4, hcz28_5, hcz28_6, hfz28_0, hfz28_1, hfz28_2, hfz28_3, hfz28_4, hfz28_5, hfz28_6⟩ := bk7 BK716.out) | ((with_reducible refine gate_callee (f := 22) rfl ?_); refine goesL_ (some 7) rfl rfl Try.func22 (by kernel_rfl) rfl #[.agg #[.int .i64 a0_0, .int .i64 a0_1, .string a0_2, .int .i64 a0_3, .bool a0_4, .slice A0_5 l0_5.length c0_5, .slice A0_6 l0_6.length c0_6]] rfl mpx ?_; (with_reducible refine (spec_CellOk.calls k a0_0 a0_1 a0_2 a0_3 a0_4 _ _ l0_5 _ _ l0_6 false _ ?side1 ?side2 ?side3 ?side4 A2.out).mono ?_); (case side1 => exact pkC (Kd.C_below HR0_5.out HB.out)); (case side2 => exact HC0_5.out); (case side3 => exact pkC (Kd.C_below HR0_6.out HB.out)); (case side4 => exact HC0_6.out); rintro e w29 ⟨rfl, hb⟩; refine ⟨_, rfl, ?_⟩; replace BK716 := am (blk_below (pkK BK716.out) hb); replace BK717 := am (blk_below (pkK BK717.out) hb); replace HB := am (below_step (pkW HB.out) hb); (try clear hb); obtain ⟨hcz30_0, hcz30_1, hcz30_2, hfz30_0, hfz30_1, hfz30_2⟩ := bk3 BK717.out))
  refine bodyPost_ret (results_ctt rfl _ _ gb717 25 #[.int .i64 0, .int .i64 0, .string (⟨#[]⟩ : ByteArray)] (0, 0) _ rfl (by (with_reducible repeat (first | refine blk_drewN ?_ _ | refine blk_drew ?_ | refine blk_alloc ?_ _)); refine blk_put (cs := #[.int .i64 0, .int .i64 0, .string (⟨#[]⟩ : ByteArray)]) ?_ 2 _ rfl; (with_reducible repeat (first | refine blk_drewN ?_ _ | refine blk_drew ?_ | refine blk_alloc ?_ _)); refine blk_put (cs := #[.int .i64 0, .int .i64 0, .string (⟨#[]⟩ : ByteArray)]) ?_ 1 _ rfl; (with_reducible repeat (first | refine blk_drewN ?_ _ | refine blk_drew ?_ | refine blk_alloc ?_ _)); refine blk_put (cs := #[.int .i64 0, .int .i64 0, .string (⟨#[]⟩ : ByteArray)]) ?_ 0 _ rfl; exact pkK BK717.out) Try.underlying25 rfl (by kernel_rfl)) rfl ?_
  exact ⟨rfe, pkW HB.out⟩
end Go.Proofs.Ytffcphplnilokaa.Z
