/- The Go functions impl_Grant_91, impl_copyNotify as Lean functions, each with a proof that its code comes to just these answers; conditions: those of each theorem. -/
import Derived.Test.YtdagpmnadapbjaaZx0
import Derived.Test.YtdagpmnadapbjaaZx22
namespace Go.Proofs.Ytdagpmnadapbjaa.Z
open Go.RowKit Go.Proofs.YtdagpmnadapbjaaW.PrintWords Go.Proofs.YtdagpmnadapbjaaW.PrintLast Go.Proofs.YtdagpmnadapbjaaW.PrintMore
attribute [local go_sem] max2_int min2_int max_two min_two max_three min_three max_four min_four   -- for this text's walks alone
set_option linter.unusedVariables false
set_option linter.unusedSimpArgs false
def impl_Grant_91.f (l0 : List (S67)) : Option ((List (S67))) := (some (([] : List (S67)) : List (S67))).bind fun y797 => (if y797.length + l0.length < 8796093022208 then (some (y797 ++ l0)) else (none))
set_option maxHeartbeats 8000000 in
set_option maxRecDepth 100000 in
theorem impl_Grant_91.calls (A0 : Option Addr) (c0 : Nat) (l0 : List (S67)) (r : List (S67)) (w : World) (hr0 : Kd.C k67 w A0 l0.length l0) (hc0 : l0.length ≤ c0) (h : impl_Grant_91.f l0 = some r) :
  Calls Try.prog 91 #[.slice A0 l0.length c0] w fun e w' => ∃ v0_ : Value, e = .returned (v0_) ∧ Kd.R k67 67 w' w.heap.size (fun _ => True) v0_ r ∧ Below w.heap.size w w' := by
 have HR0 := am hr0
 have HC0 := am hc0
 clear hr0 hc0
 have HB := am (Below.refl w.heap.size w)
 have H : ((some (([] : List (S67)) : List (S67))).bind fun y797 => (if y797.length + l0.length < 8796093022208 then (some (y797 ++ l0)) else (none))) = some r := h
 clear h
 obtain ⟨y797, hy797⟩ : ∃ y_ : List (S67), y_ = (([] : List (S67))) := ⟨_, rfl⟩
 replace H : (if y797.length + l0.length < 8796093022208 then (some (y797 ++ l0)) else (none)) = some r := by first | (rw [hy797]; with_reducible exact H) | (have H2_ := (Option.bind_some _ _).symm.trans H; rw [hy797]; with_reducible exact H2_) | (have H2_ := (Option.bind_some _ _).symm.trans H; with_reducible exact H2_) | with_reducible exact H | (rw [hy797]; exact H) | exact H
 have Ny797 := am hy797
 clear hy797
 by_cases c2 : y797.length + l0.length < 8796093022208
 ·rw [if_pos c2] at H
  have LMc2 := am c2
  clear c2
  obtain ⟨y800, hy800⟩ : ∃ y_ : List (S67), y_ = (y797 ++ l0) := ⟨_, rfl⟩
  replace H : (some y800) = some r := by first | (rw [hy800]; with_reducible exact H) | (have H2_ := (Option.bind_some _ _).symm.trans H; rw [hy800]; with_reducible exact H2_) | (have H2_ := (Option.bind_some _ _).symm.trans H; with_reducible exact H2_) | with_reducible exact H | (rw [hy800]; exact H) | exact H
  have Ny800 := am hy800
  clear hy800
  obtain rfl := Option.some.inj H
  cases A0 with
  | none =>
   have hl0_ : l0 = [] := by
    rcases Nat.eq_zero_or_pos l0.length with h_ | h_
    ·exact List.eq_nil_of_length_eq_zero h_
    ·obtain ⟨ad_, ha_, _⟩ := HR0.out.2.2 h_
     cases ha_
   have hr_ : y800 = [] := by rw [Ny800.out, Ny797.out, hl0_]; rfl
   subst hr_
   clear HR0 HC0 LMc2 Ny800 Ny797 hl0_
   have hnil_ := fun (W : World) (n_ c_ : Nat) => Lib.run_eql_slice_nil W 36 67 none n_ c_ 0 0 Try.underlying36
   go_enter Try.func91, Try.ntmps91
   go_wp2
   go_ret
   exact ⟨_, rfl, Kd.R_nil _ _ _ _ _, Below.refl _ _⟩
  | some ad0_ =>
  have hnil_ := fun (W : World) (n_ c_ : Nat) => Lib.run_eql_slice_nil W 36 67 (some ad0_) n_ c_ 0 0 Try.underlying36
  simp only [Option.isNone_some] at hnil_
  go_enter Try.func91, Try.ntmps91
  go_wp2_with (first | ((with_reducible refine gate_dst (N := 5) rfl ?_); refine Kd.R_lit k67 _ 67 ?hg (N := 5) ?hd (xs := ([] : List (S67))) (inner := []) (ok := fun _ => True) (okp := fun _ => True) ?hr ?hp (fun _ hk => hk) trivial (Below.refl _ _) (Nat.le_refl _) (by simp) ?_; (case hd => rfl); (case hg => rfl); (case hr => first | (go_simp; done) | (go_simp; rfl)); (case hp => exact (Reps.none _ _)); intro v798 w3 ho4 hb hg_ hnew_; clear hg_ hnew_; (first | rw [← Ny797.out] at ho4 | (simp only [Int.reduceToNat] at ho4; rw [← Ny797.out] at ho4)); have HO799 := am (Kd.R_lower ho4 (below_size (pkB HB.out))); replace HB := am (below_step (pkB HB.out) hb); clear hb ho4) | ((with_reducible refine gate_builtin (b := .append) (xs := #[.tmp 5, .tmp 6]) rfl ?_); at_builtin; refine Kd.R_append_rows k67 (w0 := w) w.heap.size rfl (.tmp 5) (.tmp 6) 36 67 (.agg #[(.int .i64 0), (.bool false)]) 16 rfl Try.underlying36 info67 rfl (by decide) (by omega) v798 y797 l0 _ _ _ (fun _ => True) (fun _ => False) rfl rfl ?aO ?aR (fun _ _ h => h) (fun _ h => h.elim) ?aF ?aB ?aS ?aL ?_; (case aR => repeat (first | exact (Kd.C_below HR0.out HB.out) | (with_reducible refine Kd.C_alloc ?_ _) | (with_reducible refine Kd.C_drewN ?_ _) | (with_reducible refine Kd.C_drew ?_))); (case aB => exact (pkB HB.out)); (case aF => exact (fun _ _ => trivial)); (case aO => exact (pkR HO799.out)); (case aS => exact (below_size (pkB HB.out))); (case aL => have := LMc2.out; omega); intro v801 w5 ho hb hg hat; rw [← Ny800.out] at ho; replace HB := am (hb); have HO802 := am (ho); clear HO799; clear ho hb hg hat))
  go_ret
  exact ⟨_, rfe, pkR HO802.out, pkB HB.out⟩
 ·rw [if_neg c2] at H
  exact absurd H (by simp)
def impl_copyNotify.f (a0_0 : Bool) (l0_1 : List Int) (l0_2 : List (S67)) (a0_3 : Int) (a0_4 : Int) (a0_5 : Int) : Option (Bool × List Int × (List (S67)) × Int × Int × Int) := (slices_Clone_int_int.f l0_1).bind fun t805 => ((impl_Grant_91.f l0_2).bind fun t808 => (some (a0_0, t805, t808, a0_3, a0_4, a0_5)))
set_option maxHeartbeats 8000000 in
set_option maxRecDepth 100000 in
theorem impl_copyNotify.calls (a0_0 : Bool) (A0_1 : Option Addr) (c0_1 : Nat) (l0_1 : List Int) (A0_2 : Option Addr) (c0_2 : Nat) (l0_2 : List (S67)) (a0_3 : Int) (a0_4 : Int) (a0_5 : Int) (r1 : Bool) (r2 : List Int) (r3 : List (S67)) (r4 : Int) (r5 : Int) (r6 : Int) (w : World) (hr0_1 : Kd.C (Kd.int .i64) w A0_1 l0_1.length l0_1) (hc0_1 : l0_1.length ≤ c0_1) (hr0_2 : Kd.C k67 w A0_2 l0_2.length l0_2) (hc0_2 : l0_2.length ≤ c0_2) (h : impl_copyNotify.f a0_0 l0_1 l0_2 a0_3 a0_4 a0_5 = some (r1, r2, r3, r4, r5, r6)) :
  Calls Try.prog 71 #[.agg #[.bool a0_0, .slice A0_1 l0_1.length c0_1, .slice A0_2 l0_2.length c0_2, .int .i64 a0_3, .int .i64 a0_4, .int .i64 a0_5]] w fun e w' => ∃ v1_ v2_ : Value, e = .returned (.agg #[.bool r1, v1_, v2_, .int .i64 r4, .int .i64 r5, .int .i64 r6]) ∧ Kd.R (Kd.int .i64) 3 w' w.heap.size (fun _ => True) v1_ r2 ∧ Kd.R k67 67 w' w.heap.size (fun _ => True) v2_ r3 ∧ Below w.heap.size w w' := by
 have hu38 := Try.underlying38
 have HR0_1 := am hr0_1
 have HC0_1 := am hc0_1
 clear hr0_1 hc0_1
 have HR0_2 := am hr0_2
 have HC0_2 := am hc0_2
 clear hr0_2 hc0_2
 have HB := am (Below.refl w.heap.size w)
 have H : ((slices_Clone_int_int.f l0_1).bind fun t805 => ((impl_Grant_91.f l0_2).bind fun t808 => (some (a0_0, t805, t808, a0_3, a0_4, a0_5)))) = some (r1, r2, r3, r4, r5, r6) := h
 clear h
 replace H := Option.bind_eq_some_iff.mp H
 obtain ⟨t805, A20, H⟩ := H
 replace H : ((impl_Grant_91.f l0_2).bind fun t808 => (some (a0_0, t805, t808, a0_3, a0_4, a0_5))) = some (r1, r2, r3, r4, r5, r6) := H
 have A2 := am A20
 clear A20
 replace H := Option.bind_eq_some_iff.mp H
 obtain ⟨t808, A30, H⟩ := H
 replace H : (some (a0_0, t805, t808, a0_3, a0_4, a0_5)) = some (r1, r2, r3, r4, r5, r6) := H
 have A3 := am A30
 clear A30
 simp only [Option.some.injEq, Prod.mk.injEq] at H
 obtain ⟨rfl, rfl, rfl, rfl, rfl, rfl⟩ := H
 go_enter Try.func71, Try.ntmps71
 go_wp2_with (first | ((with_reducible refine gate_dst (N := 1) rfl ?_); refine box_event ?hg (N := 1) ?hd (cs := #[.bool a0_0, .slice A0_1 l0_1.length c0_1, .slice A0_2 l0_2.length c0_2, .int .i64 a0_3, .int .i64 a0_4, .int .i64 a0_5]) (t := 38) ?hr ?_; (case hd => rfl); (case hg => rfl); (case hr => first | (go_simp; done) | (go_simp; rfl)); intro gb803 hg w4 hbox hb; have BK803 := am (hbox); have GW803 := am ((by rw [hg]; exact (below_size (pkB HB.out)) : w.heap.size ≤ gb803)); have GE803 := am ((by rw [hg]; exact (below_size (pkB HB.out)) : w.heap.size ≤ gb803)); replace HB := am (below_step (pkB HB.out) hb); clear hb hbox hg) | ((with_reducible refine gate_dst (N := 2) rfl ?_); refine box_event ?hg (N := 2) ?hd (cs := #[.bool false, .slice none 0 0, .slice none 0 0, .int .i64 0, .int .i64 0, .int .i64 0]) (t := 38) ?hr ?_; (case hd => rfl); (case hg => rfl); (case hr => first | (go_simp; done) | (go_simp; rfl)); intro gb804 hg w5 hbox hb; have BK804 := am (hbox); have GW804 := am ((by rw [hg]; exact (below_size (pkW HB.out)) : w.heap.size ≤ gb804)); have GE804 := am ((by rw [hg]; exact (below_size (pkW HB.out)) : w.heap.size ≤ gb804)); replace HB := am (below_step (pkW HB.out) hb); have NB803_804 := am ((by rw [hg]; exact Nat.ne_of_lt (blk_lt (g := gb803) (o := .cells #[.bool a0_0, .slice A0_1 l0_1.length c0_1, .slice A0_2 l0_2.length c0_2, .int .i64 a0_3, .int .i64 a0_4, .int .i64 a0_5] 38 (0, 0)) (pkK BK803.out)) : gb803 ≠ gb804)); have NB804_803 := am ((by rw [hg]; exact Nat.ne_of_gt (blk_lt (g := gb803) (o := .cells #[.bool a0_0, .slice A0_1 l0_1.length c0_1, .slice A0_2 l0_2.length c0_2, .int .i64 a0_3, .int .i64 a0_4, .int .i64 a0_5] 38 (0, 0)) (pkK BK803.out)) : gb804 ≠ gb803)); replace BK803 := am (blk_below (pkK BK803.out) hb); clear hb hbox hg; have hnb6 := NB803_804.out; have hnc6 := NB804_803.out; obtain ⟨hcz7_0, hcz7_1, hcz7_2, hcz7_3, hcz7_4, hcz7_5, hfz7_0, hfz7_1, hfz7_2, hfz7_3, hfz7_4, hfz7_5⟩ := bk6 BK803.out) | ((with_reducible refine gate_callee (f := 72) rfl ?_); refine goesL_ (some 5) rfl rfl Try.func72 (by kernel_rfl) rfl #[.slice A0_1 l0_1.length c0_1] rfl mpx ?_; (with_reducible refine (slices_Clone_int_int.calls _ _ l0_1 t805 _ ?side1 ?side2 A2.out).mono ?_); (case side1 => exact pkC (Kd.C_below HR0_1.out HB.out)); (case side2 => exact HC0_1.out); rintro e w8 ⟨v806, rfl, ho0, hb⟩; refine ⟨_, rfl, ?_⟩; have HO807 := am (Kd.R_lower ho0 (below_size (pkW HB.out))); replace BK803 := am (blk_below (pkK BK803.out) hb); replace BK804 := am (blk_below (pkK BK804.out) hb); replace HB := am (below_step (pkW HB.out) hb); (try clear hb ho0); obtain ⟨Ao9, co9, eo9⟩ := Kd.R_slice HO807.out; subst eo9; obtain ⟨hcz10_0, hcz10_1, hcz10_2, hcz10_3, hcz10_4, hcz10_5, hfz10_0, hfz10_1, hfz10_2, hfz10_3, hfz10_4, hfz10_5⟩ := bk6 BK803.out) | ((with_reducible refine gate_callee (f := 91) rfl ?_); refine goesL_ (some 9) rfl rfl Try.func91 (by kernel_rfl) rfl #[.slice A0_2 l0_2.length c0_2] rfl mpx ?_; (with_reducible refine (impl_Grant_91.calls _ _ l0_2 t808 _ ?side1 ?side2 A3.out).mono ?_); (case side1 => exact Kd.C_below HR0_2.out (pkW HB.out)); (case side2 => exact HC0_2.out); rintro e w11 ⟨v809, rfl, ho0, hb⟩; refine ⟨_, rfl, ?_⟩; replace HO807 := am (Kd.R_below (by (with_reducible repeat (first | apply Kd.R_alloc | apply Kd.R_drewN | apply Kd.R_drew)); exact (Kd.R_mono (Kd.R_far (p := ⟨gb803, 1, none⟩) (Kd.R_types HO807.out BK803.out (by decide)) (fun _ hk => hk.2) (.slice Ao9 t805.length co9)) (fun _ h_ => h_.1))) hb); have HO810 := am (Kd.R_lower ho0 (below_size (pkW HB.out))); replace BK803 := am (blk_below (g := gb803) (o := .cells #[.bool a0_0, .slice Ao9 t805.length co9, .slice A0_2 l0_2.length c0_2, .int .i64 a0_3, .int .i64 a0_4, .int .i64 a0_5] 38 (0, 0)) (by (with_reducible repeat (first | refine blk_drewN ?_ _ | refine blk_drew ?_ | refine blk_alloc ?_ _)); refine blk_put (cs := #[.bool a0_0, .slice A0_1 l0_1.length c0_1, .slice A0_2 l0_2.length c0_2, .int .i64 a0_3, .int .i64 a0_4, .int .i64 a0_5]) ?_ 1 _ rfl; exact pkK BK803.out) hb); replace BK804 := am (blk_below (g := gb804) (o := .cells #[.bool false, .slice none 0 0, .slice none 0 0, .int .i64 0, .int .i64 0, .int .i64 0] 38 (0, 0)) (by (with_reducible repeat (first | refine blk_drewN ?_ _ | refine blk_drew ?_ | refine blk_alloc ?_ _)); refine blk_far ?_ NB804_803.out _; exact pkK BK804.out) hb); replace HB := am (below_step (pkW HB.out) hb); (try clear hb ho0); obtain ⟨Ao12, co12, eo12⟩ := Kd.R_slice HO810.out; subst eo12; obtain ⟨hcz13_0, hcz13_1, hcz13_2, hcz13_3, hcz13_4, hcz13_5, hfz13_0, hfz13_1, hfz13_2, hfz13_3, hfz13_4, hfz13_5⟩ := bk6 BK803.out; obtain ⟨hcz14_0, hcz14_1, hcz14_2, hcz14_3, hcz14_4, hcz14_5, hfz14_0, hfz14_1, hfz14_2, hfz14_3, hfz14_4, hfz14_5⟩ := bk6 BK804.out))
 refine bodyPost_ret (results_cell_row rfl _ _ gb804 38 #[.bool a0_0, .slice Ao9 t805.length co9, .slice Ao12 t808.length co12, .int .i64 a0_3, .int .i64 a0_4, .int .i64 a0_5] (0, 0) _ rfl (by (with_reducible repeat (first | refine blk_drewN ?_ _ | refine blk_drew ?_ | refine blk_alloc ?_ _)); refine blk_put (cs := #[.bool a0_0, .slice Ao9 t805.length co9, .slice Ao12 t808.length co12, .int .i64 a0_3, .int .i64 a0_4, .int .i64 0]) ?_ 5 _ rfl; (with_reducible repeat (first | refine blk_drewN ?_ _ | refine blk_drew ?_ | refine blk_alloc ?_ _)); refine blk_put (cs := #[.bool a0_0, .slice Ao9 t805.length co9, .slice Ao12 t808.length co12, .int .i64 a0_3, .int .i64 0, .int .i64 0]) ?_ 4 _ rfl; (with_reducible repeat (first | refine blk_drewN ?_ _ | refine blk_drew ?_ | refine blk_alloc ?_ _)); refine blk_put (cs := #[.bool a0_0, .slice Ao9 t805.length co9, .slice Ao12 t808.length co12, .int .i64 0, .int .i64 0, .int .i64 0]) ?_ 3 _ rfl; (with_reducible repeat (first | refine blk_drewN ?_ _ | refine blk_drew ?_ | refine blk_alloc ?_ _)); refine blk_put (cs := #[.bool a0_0, .slice Ao9 t805.length co9, .slice none 0 0, .int .i64 0, .int .i64 0, .int .i64 0]) ?_ 2 _ rfl; (with_reducible repeat (first | refine blk_drewN ?_ _ | refine blk_drew ?_ | refine blk_alloc ?_ _)); refine blk_put (cs := #[.bool a0_0, .slice none 0 0, .slice none 0 0, .int .i64 0, .int .i64 0, .int .i64 0]) ?_ 1 _ rfl; (with_reducible repeat (first | refine blk_drewN ?_ _ | refine blk_drew ?_ | refine blk_alloc ?_ _)); refine blk_put (cs := #[.bool false, .slice none 0 0, .slice none 0 0, .int .i64 0, .int .i64 0, .int .i64 0]) ?_ 0 _ rfl; (with_reducible repeat (first | refine blk_drewN ?_ _ | refine blk_drew ?_ | refine blk_alloc ?_ _)); refine blk_far ?_ NB804_803.out _; exact pkK BK804.out) Try.underlying38 rfl (by kernel_rfl)) rfl ?_
 exact ⟨_, _, rfe, by (with_reducible repeat (first | apply Kd.R_alloc | apply Kd.R_drewN | apply Kd.R_drew)); exact Kd.R_mono (Kd.R_far (p := ⟨gb804, 5, none⟩) (Kd.R_far (p := ⟨gb804, 4, none⟩) (Kd.R_far (p := ⟨gb804, 3, none⟩) (Kd.R_far (p := ⟨gb804, 2, none⟩) (Kd.R_far (p := ⟨gb804, 1, none⟩) (Kd.R_far (p := ⟨gb804, 0, none⟩) (Kd.R_far (p := ⟨gb803, 2, none⟩) (Kd.R_types (Kd.R_types HO807.out BK803.out (by decide)) BK804.out (by decide)) (fun _ hk => hk.1.2) (.slice Ao12 t808.length co12)) (fun _ hk => hk.2) (.bool a0_0)) (fun _ hk => hk.2) (.slice Ao9 t805.length co9)) (fun _ hk => hk.2) (.slice Ao12 t808.length co12)) (fun _ hk => hk.2) (.int .i64 a0_3)) (fun _ hk => hk.2) (.int .i64 a0_4)) (fun _ hk => hk.2) (.int .i64 a0_5)) (fun _ hk => trivial), by (with_reducible repeat (first | apply Kd.R_alloc | apply Kd.R_drewN | apply Kd.R_drew)); exact Kd.R_mono (Kd.R_far (p := ⟨gb804, 5, none⟩) (Kd.R_far (p := ⟨gb804, 4, none⟩) (Kd.R_far (p := ⟨gb804, 3, none⟩) (Kd.R_far (p := ⟨gb804, 2, none⟩) (Kd.R_far (p := ⟨gb804, 1, none⟩) (Kd.R_far (p := ⟨gb804, 0, none⟩) (Kd.R_far (p := ⟨gb803, 2, none⟩) (Kd.R_types (Kd.R_types HO810.out BK803.out (by decide)) BK804.out (by decide)) (fun _ hk => hk.1.2) (.slice Ao12 t808.length co12)) (fun _ hk => hk.2) (.bool a0_0)) (fun _ hk => hk.2) (.slice Ao9 t805.length co9)) (fun _ hk => hk.2) (.slice Ao12 t808.length co12)) (fun _ hk => hk.2) (.int .i64 a0_3)) (fun _ hk => hk.2) (.int .i64 a0_4)) (fun _ hk => hk.2) (.int .i64 a0_5)) (fun _ hk => trivial), pkW HB.out⟩
end Go.Proofs.Ytdagpmnadapbjaa.Z
