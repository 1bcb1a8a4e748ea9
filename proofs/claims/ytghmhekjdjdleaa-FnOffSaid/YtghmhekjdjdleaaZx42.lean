/- The Go functions spec_l3Some as Lean functions, each with a proof that its code comes to just these answers; conditions: those of each theorem. -/
import Derived.Test.YtghmhekjdjdleaaZx0
import Derived.Test.YtghmhekjdjdleaaZx33
import Derived.Test.YtghmhekjdjdleaaZx34
import Derived.Test.YtghmhekjdjdleaaZx35
import Derived.Test.YtghmhekjdjdleaaZx41
namespace Go.Proofs.Ytghmhekjdjdleaa.Z
open Go.RowKit Go.Proofs.YtghmhekjdjdleaaW.PrintWords Go.Proofs.YtghmhekjdjdleaaW.PrintLast Go.Proofs.YtghmhekjdjdleaaW.PrintMore
attribute [local go_sem] max2_int min2_int max_two min_two max_three min_three max_four min_four   -- for this text's walks alone
set_option linter.unusedVariables false
set_option linter.unusedSimpArgs false
mutual
def spec_l3Some.j1 : Nat → List Int → Int → Int → List Int → List Bool → Option (List Int × List Bool × Int × Int)
  | 0, _, _, _, _, _ => none
  | k + 1, x1000, x1001, x1002, x1007000, x1007001 => (spec_l1Once.f x1000 x1001 x1002 8).bind fun bt1024 => (if bt1024.1 = true then (spec_l3Some.j2 k (decide ((x1007001.length : Int) > 0)) x1000 bt1024.2.1 bt1024.2.2 x1007000 x1007001) else (spec_l3Some.j2 k false x1000 bt1024.2.1 bt1024.2.2 x1007000 x1007001))
def spec_l3Some.j2 : Nat → Bool → List Int → Int → Int → List Int → List Bool → Option (List Int × List Bool × Int × Int)
  | 0, _, _, _, _, _, _ => none
  | k + 1, x32, x1000, x1001, x1002, x1007000, x1007001 => if x32 = true then ((spec_l1Below.f x1000 x1001 x1002 (x1007001.length : Int)).bind fun bt1027 => ((spec_l1Below.f x1000 bt1027.2.1 bt1027.2.2 3).bind fun bt1030 => (if bt1030.1 = 0 then (if 0 ≤ bt1027.1 then (if bt1027.1 < (x1007000.length : Int) then (some ((x1007000.set (bt1027.1 : Int).toNat bt1027.1), x1007001, bt1030.2.1, bt1030.2.2)) else (none)) else (none)) else (if bt1030.1 = 1 then (if 0 < (x1007001.length : Int) then (some (x1007000, (x1007001.set (0 : Int).toNat true), bt1030.2.1, bt1030.2.2)) else (none)) else (if 1 ≤ (x1007001.length : Int) then (some (x1007000, (x1007001.drop (1 : Int).toNat), bt1030.2.1, bt1030.2.2)) else (none)))))) else (some (x1007000, x1007001, x1001, x1002))
def spec_l3Some.l0 : Nat → List Int → Int → Int → List Int → List Bool → Option (List Int × List Bool × Int × Int)
  | 0, _, _, _, _, _ => none
  | k + 1, x1000, x1001, x1002, x1007000, x1007001 => if (x1007000.length : Int) < 24 then (if x1007000.length < 17592186044416 then (if x1007001.length < 140737488355328 then (spec_l3Some.l0 k x1000 x1001 x1002 (x1007000 ++ [(-1)]) (x1007001 ++ [false])) else (none)) else (none)) else (spec_l3Some.j1 k x1000 x1001 x1002 x1007000 x1007001)
end
def spec_l3Some.f (k : Nat) (s0_0 : List Int) (s0_1 : Int) (s0_2 : Int) : Option (List Int × List Bool × Int × Int) := (spec_l3Tokens.f k s0_0 s0_1 s0_2 9).bind fun bt998 => ((spec_l1Once.f s0_0 bt998.2.2.1 bt998.2.2.2 10).bind fun bt1007 => (if bt1007.1 = true then ((spec_l3Tokens.f k s0_0 bt1007.2.1 bt1007.2.2 24).bind fun bt1010 => (spec_l3Some.l0 k s0_0 bt1010.2.2.1 bt1010.2.2.2 bt1010.1 bt1010.2.1)) else (spec_l3Some.j1 k s0_0 bt1007.2.1 bt1007.2.2 bt998.1 bt998.2.1)))
theorem spec_l3Some.mono_l : ∀ k, (∀ y0 y1 y2 y3 y4, LeO (spec_l3Some.j1 k y0 y1 y2 y3 y4) (spec_l3Some.j1 (k + 1) y0 y1 y2 y3 y4)) ∧ (∀ y0 y1 y2 y3 y4 y5, LeO (spec_l3Some.j2 k y0 y1 y2 y3 y4 y5) (spec_l3Some.j2 (k + 1) y0 y1 y2 y3 y4 y5)) ∧ (∀ y0 y1 y2 y3 y4, LeO (spec_l3Some.l0 k y0 y1 y2 y3 y4) (spec_l3Some.l0 (k + 1) y0 y1 y2 y3 y4))
  | 0 => ⟨fun _ _ _ _ _ r h => by simp [spec_l3Some.j1] at h, fun _ _ _ _ _ _ r h => by simp [spec_l3Some.j2] at h, fun _ _ _ _ _ r h => by simp [spec_l3Some.l0] at h⟩
  | k + 1 => by
    obtain ⟨ih0, ih1, ih2⟩ := spec_l3Some.mono_l k
    refine ⟨?_, ?_, ?_⟩
    · intro y0 y1 y2 y3 y4
      unfold spec_l3Some.j1
      repeat' first
      | (with_reducible exact ih0 _ _ _ _ _)
      | (with_reducible exact ih1 _ _ _ _ _ _)
      | (with_reducible exact ih2 _ _ _ _ _)
      | (with_reducible exact spec_l3Tokens.mono _ _ _ _ _)
      | (with_reducible exact LeO.refl _)
      | (with_reducible exact LeO.none _)
      | (with_reducible refine LeO.ite ?_ ?_)
      | (with_reducible refine LeO.bind ?_ (fun _ => ?_))
    · intro y0 y1 y2 y3 y4 y5
      unfold spec_l3Some.j2
      repeat' first
      | (with_reducible exact ih0 _ _ _ _ _)
      | (with_reducible exact ih1 _ _ _ _ _ _)
      | (with_reducible exact ih2 _ _ _ _ _)
      | (with_reducible exact spec_l3Tokens.mono _ _ _ _ _)
      | (with_reducible exact LeO.refl _)
      | (with_reducible exact LeO.none _)
      | (with_reducible refine LeO.ite ?_ ?_)
      | (with_reducible refine LeO.bind ?_ (fun _ => ?_))
    · intro y0 y1 y2 y3 y4
      unfold spec_l3Some.l0
      repeat' first
      | (with_reducible exact ih0 _ _ _ _ _)
      | (with_reducible exact ih1 _ _ _ _ _ _)
      | (with_reducible exact ih2 _ _ _ _ _)
      | (with_reducible exact spec_l3Tokens.mono _ _ _ _ _)
      | (with_reducible exact LeO.refl _)
      | (with_reducible exact LeO.none _)
      | (with_reducible refine LeO.ite ?_ ?_)
      | (with_reducible refine LeO.bind ?_ (fun _ => ?_))
theorem spec_l3Some.mono : ∀ a0 a1 a2 k, LeO (spec_l3Some.f k a0 a1 a2) (spec_l3Some.f (k + 1) a0 a1 a2) := by
  intro a0 a1 a2 k
  obtain ⟨ih0, ih1, ih2⟩ := spec_l3Some.mono_l k
  unfold spec_l3Some.f
  repeat' first
      | (with_reducible exact ih0 _ _ _ _ _)
      | (with_reducible exact ih1 _ _ _ _ _ _)
      | (with_reducible exact ih2 _ _ _ _ _)
      | (with_reducible exact spec_l3Tokens.mono _ _ _ _ _)
      | (with_reducible exact LeO.refl _)
      | (with_reducible exact LeO.none _)
      | (with_reducible refine LeO.ite ?_ ?_)
      | (with_reducible refine LeO.bind ?_ (fun _ => ?_))
set_option maxHeartbeats 8000000 in
set_option maxRecDepth 100000 in
theorem spec_l3Some.calls (k : Nat) (g : Nat) (s0_0 : List Int) (s0_1 : Int) (s0_2 : Int) (r1 : List Int) (r2 : List Bool) (r3 : Int) (r4 : Int) (w0 w : World) (hI : IsS70 w0 w g s0_0 s0_1 s0_2) (hB : Below w0.heap.size w0 w) (h : spec_l3Some.f k s0_0 s0_1 s0_2 = some (r1, r2, r3, r4)) :
    Calls Try.prog 76 #[.pointer (some ⟨g, 0, none⟩)] w fun e w' => ∃ v0_ v1_ : Value, e = .returned (.agg #[v0_, v1_]) ∧ Kd.R (Kd.int .i64) 3 w' w.heap.size (fun _ => True) v0_ r1 ∧ Kd.Q Kd.bool 4 w' w.heap.size (fun _ => True) v1_ r2 ∧ IsS70 w0 w' g s0_0 r3 r4 ∧ Below w0.heap.size w0 w' ∧ KeepBut w w' g none := by
  have hu33 := Try.underlying33
  have HI0 := am hI
  have HK := am (KeepBut.refl w g none)
  have HL := am hB.size
  clear hI
  have HW0 := am hB.size
  have HB := am hB
  clear hB
  have H : ((spec_l3Tokens.f k s0_0 s0_1 s0_2 9).bind fun bt998 => ((spec_l1Once.f s0_0 bt998.2.2.1 bt998.2.2.2 10).bind fun bt1007 => (if bt1007.1 = true then ((spec_l3Tokens.f k s0_0 bt1007.2.1 bt1007.2.2 24).bind fun bt1010 => (spec_l3Some.l0 k s0_0 bt1010.2.2.1 bt1010.2.2.2 bt1010.1 bt1010.2.1)) else (spec_l3Some.j1 k s0_0 bt1007.2.1 bt1007.2.2 bt998.1 bt998.2.1)))) = some (r1, r2, r3, r4) := h
  clear h
  replace H := Option.bind_eq_some_iff.mp H
  obtain ⟨⟨t998, t1001, t1004, t1005⟩, A20, H⟩ := H
  replace H : ((spec_l1Once.f s0_0 t1004 t1005 10).bind fun bt1007 => (if bt1007.1 = true then ((spec_l3Tokens.f k s0_0 bt1007.2.1 bt1007.2.2 24).bind fun bt1010 => (spec_l3Some.l0 k s0_0 bt1010.2.2.1 bt1010.2.2.2 bt1010.1 bt1010.2.1)) else (spec_l3Some.j1 k s0_0 bt1007.2.1 bt1007.2.2 t998 t1001))) = some (r1, r2, r3, r4) := H
  have A2 := am A20
  clear A20
  replace H := Option.bind_eq_some_iff.mp H
  obtain ⟨⟨t1007, t1008, t1009⟩, A30, H⟩ := H
  replace H : (if t1007 = true then ((spec_l3Tokens.f k s0_0 t1008 t1009 24).bind fun bt1010 => (spec_l3Some.l0 k s0_0 bt1010.2.2.1 bt1010.2.2.2 bt1010.1 bt1010.2.1)) else (spec_l3Some.j1 k s0_0 t1008 t1009 t998 t1001)) = some (r1, r2, r3, r4) := H
  have A3 := am A30
  clear A30
  have HC4 := am H
  clear H
  go_enter Try.func76, Try.ntmps76
  go_upto_if 8 with (first | ((with_reducible refine gate_dst (N := 2) rfl ?_); (try (refine gate_guard (by rfl) ?_; dsimp only)); refine box_event ?hg (N := 2) ?hd (cs := #[.slice none 0 0, .slice none 0 0]) (t := 33) ?hr ?_; (case hd => rfl); (case hg => rfl); (case hr => first | (go_simp; done) | (go_simp; rfl)); intro gb997 hg w5 hbox hb; have n0_ := am (IsS70.below (IsS70.pk HI0.out) hb); have n1_ := am (KeepBut.trans (pkH HK.out) (KeepBut.of_below hb g none) (.inl rfl)); have n2_ := am (below_step (by repeat (first | (with_reducible first | exact HB.out | apply below_alloc | apply pw_below_drewN | apply below_drew1 | refine below_set ?_ (IsS70.ge HI0.out)) | exact HB.out)) hb); have n3_ := am (hbox); have n4_ := am ((by rw [hg]; first | done | exact (keep_size (w := w) (g := g) (row := none) (pkH HK.out)) : w.heap.size ≤ gb997)); have n5_ := am ((Nat.le_trans HW0.out (by rw [hg]; first | done | exact (keep_size (w := w) (g := g) (row := none) (pkH HK.out)) : w.heap.size ≤ gb997) : w0.heap.size ≤ gb997)); have n6_ := am ((by rw [hg]; exact Nat.ne_of_lt (IsS70.lt (show IsS70 w0 _ g s0_0 s0_1 s0_2 from IsS70.pk HI0.out)) : g ≠ gb997)); have n7_ := am ((by rw [hg]; exact Nat.ne_of_gt (IsS70.lt (show IsS70 w0 _ g s0_0 s0_1 s0_2 from IsS70.pk HI0.out)) : gb997 ≠ g)); clear HI0 HK HB; have HI0 := n0_; have HK := n1_; have HB := n2_; have BK997 := n3_; have GW997 := n4_; have GE997 := n5_; have NB0_997 := n6_; have NB997_0 := n7_; clear n0_ n1_ n2_ n3_ n4_ n5_ n6_ n7_; clear hb hbox hg) | ((with_reducible refine gate_callee (f := 85) rfl ?_); refine goesL_ (some 6) rfl rfl Try.func85 (by kernel_rfl) rfl #[.pointer (some ⟨g, 0, none⟩), .int .i64 9] rfl mpx ?_; (with_reducible refine (spec_l3Tokens.calls k g s0_0 s0_1 s0_2 9 t998 t1001 t1004 t1005 w0 _ ?side1 ?side2 A2.out).mono ?_); (case side1 => repeat (first | (with_reducible first | exact HI0.out | apply IsS70.alloc | apply IsS70.drewN | apply IsS70.drew | apply IsS70.set_1 | apply IsS70.set_2 | refine IsS70.far ?_ NB0_997.out _) | exact HI0.out)); (case side2 => repeat (first | (with_reducible first | exact HB.out | apply below_alloc | apply pw_below_drewN | apply below_drew1 | refine below_set ?_ (IsS70.ge HI0.out) | refine below_set ?_ GE997.out) | exact HB.out)); rintro e w6 ⟨v999, v1002, rfl, ho0, ho1, hi, hb, hk⟩; refine ⟨_, rfl, ?_⟩; have n0_ := am (KeepBut.blk hk (g' := gb997) (o := .cells #[.slice none 0 0, .slice none 0 0] 33 (0, 0)) (pkK BK997.out) NB997_0.out (by simp)); have n1_ := am (Kd.R_lower ho0 (keep_size (w := w) (g := g) (row := none) (pkH HK.out))); have n2_ := am (Kd.R_lower ho1 (keep_size (w := w) (g := g) (row := none) (pkH HK.out))); have n3_ := am (KeepBut.trans (pkH HK.out) hk (.inl rfl)); have n4_ := am (hb); have n5_ := am (hi); clear BK997 HK HB HI0; have BK997 := n0_; have HO1000 := n1_; have HO1003 := n2_; have HK := n3_; have HB := n4_; have HI0 := n5_; clear n0_ n1_ n2_ n3_ n4_ n5_; (try clear hb); (try clear hb2); (try clear hk); (try clear hi); (try clear ho0); (try clear ho1)) | ((with_reducible refine gate_dst (N := 3) rfl ?_); (try (refine gate_guard (by rfl) ?_; dsimp only)); refine box_event ?hg (N := 3) ?hd (cs := #[.slice none 0 0, .slice none 0 0]) (t := 33) ?hr ?_; (case hd => rfl); (case hg => rfl); (case hr => first | (go_simp; done) | (go_simp; rfl)); intro gb1006 hg w7 hbox hb; have n0_ := am (Kd.R_below (pkR HO1000.out) hb); have n1_ := am (Kd.R_below (pkR HO1003.out) hb); have n2_ := am (IsS70.below (IsS70.pk HI0.out) hb); have n3_ := am (blk_below (pkK BK997.out) hb); have n4_ := am (KeepBut.trans (pkH HK.out) (KeepBut.of_below hb g none) (.inl rfl)); have n5_ := am (below_step (by repeat (first | (with_reducible first | exact HB.out | apply below_alloc | apply pw_below_drewN | apply below_drew1 | refine below_set ?_ (IsS70.ge HI0.out) | refine below_set ?_ GE997.out) | exact HB.out)) hb); have n6_ := am (hbox); have n7_ := am ((by rw [hg]; first | done | exact (keep_size (w := w) (g := g) (row := none) (pkH HK.out)) : w.heap.size ≤ gb1006)); have n8_ := am ((Nat.le_trans HW0.out (by rw [hg]; first | done | exact (keep_size (w := w) (g := g) (row := none) (pkH HK.out)) : w.heap.size ≤ gb1006) : w0.heap.size ≤ gb1006)); have n9_ := am ((by rw [hg]; exact Nat.ne_of_lt (blk_lt (g := gb997) (o := .cells #[.slice none 0 0, .slice none 0 0] 33 (0, 0)) (pkK BK997.out)) : gb997 ≠ gb1006)); have n10_ := am ((by rw [hg]; exact Nat.ne_of_gt (blk_lt (g := gb997) (o := .cells #[.slice none 0 0, .slice none 0 0] 33 (0, 0)) (pkK BK997.out)) : gb1006 ≠ gb997)); have n11_ := am ((by rw [hg]; exact Nat.ne_of_lt (IsS70.lt (show IsS70 w0 _ g s0_0 t1004 t1005 from IsS70.pk HI0.out)) : g ≠ gb1006)); have n12_ := am ((by rw [hg]; exact Nat.ne_of_gt (IsS70.lt (show IsS70 w0 _ g s0_0 t1004 t1005 from IsS70.pk HI0.out)) : gb1006 ≠ g)); clear HO1000 HO1003 HI0 BK997 HK HB; have HO1000 := n0_; have HO1003 := n1_; have HI0 := n2_; have BK997 := n3_; have HK := n4_; have HB := n5_; have BK1006 := n6_; have GW1006 := n7_; have GE1006 := n8_; have NB997_1006 := n9_; have NB1006_997 := n10_; have NB0_1006 := n11_; have NB1006_0 := n12_; clear n0_ n1_ n2_ n3_ n4_ n5_ n6_ n7_ n8_ n9_ n10_ n11_ n12_; clear hb hbox hg; obtain ⟨Ao8, co8, eo8⟩ := Kd.R_slice HO1000.out; subst eo8; have hnb9 := NB1006_997.out; have hnc9 := NB997_1006.out; have hnb10 := NB1006_0.out; have hnc10 := NB0_1006.out; have hcz11_0 : w7.cell? ⟨gb1006, 0, none⟩ = some (.slice none 0 0) := (blk_cell BK1006.out 0).trans rfl; have hcz11_1 : w7.cell? ⟨gb1006, 1, none⟩ = some (.slice none 0 0) := (blk_cell BK1006.out 1).trans rfl; have hfz11_0 := blk_frozen BK1006.out 0; have hfz11_1 := blk_frozen BK1006.out 1; obtain ⟨Ao12, co12, eo12⟩ := Kd.R_slice HO1003.out; subst eo12) | ((with_reducible refine gate_callee (f := 83) rfl ?_); refine goesL_ (some 8) rfl rfl Try.func83 (by kernel_rfl) rfl #[.pointer (some ⟨g, 0, none⟩), .int .i64 10] rfl mpx ?_; (with_reducible refine (spec_l1Once.calls g s0_0 t1004 t1005 10 t1007 t1008 t1009 w0 _ ?side1 ?side2 A3.out).mono ?_); (case side1 => repeat (first | (with_reducible first | exact HI0.out | apply IsS70.alloc | apply IsS70.drewN | apply IsS70.drew | apply IsS70.set_1 | apply IsS70.set_2 | refine IsS70.far ?_ NB0_997.out _ | refine IsS70.far ?_ NB0_1006.out _) | exact HI0.out)); (case side2 => repeat (first | (with_reducible first | exact HB.out | apply below_alloc | apply pw_below_drewN | apply below_drew1 | refine below_set ?_ (IsS70.ge HI0.out) | refine below_set ?_ GE997.out | refine below_set ?_ GE1006.out) | exact HB.out)); rintro e w13 ⟨rfl, hi, hb, hk⟩; refine ⟨_, rfl, ?_⟩; have n0_ := am (KeepBut.blk hk (g' := gb997) (o := .cells #[.slice none 0 0, .slice none 0 0] 33 (0, 0)) (by (with_reducible repeat (first | refine blk_drewN ?_ _ | refine blk_drew ?_ | refine blk_alloc ?_ _)); refine blk_far ?_ NB997_1006.out _; (with_reducible repeat (first | refine blk_drewN ?_ _ | refine blk_drew ?_ | refine blk_alloc ?_ _)); refine blk_far ?_ NB997_1006.out _; exact pkK BK997.out) NB997_0.out (by simp)); have n1_ := am (Kd.R_mono (Kd.R_keep (IsS70.apart (show IsS70 w0 _ g s0_0 t1004 t1005 from IsS70.pk HI0.out) (by (with_reducible repeat (first | apply Kd.R_alloc | apply Kd.R_drewN | apply Kd.R_drew)); exact (Kd.R_mono (Kd.R_far (p := ⟨gb1006, 1, none⟩) (Kd.R_far (p := ⟨gb1006, 0, none⟩) (Kd.R_types HO1000.out BK1006.out (by decide)) (fun _ hk => hk.2) (.slice Ao8 t998.length co8)) (fun _ hk => hk.2) (.slice Ao12 t1001.length co12)) (fun _ h_ => h_.1))) (by decide)) hk (fun _ h => h.2)) (fun _ h => h.1)); have n2_ := am (Kd.R_mono (Kd.R_keep (IsS70.apart (show IsS70 w0 _ g s0_0 t1004 t1005 from IsS70.pk HI0.out) (by (with_reducible repeat (first | apply Kd.R_alloc | apply Kd.R_drewN | apply Kd.R_drew)); exact (Kd.R_mono (Kd.R_far (p := ⟨gb1006, 1, none⟩) (Kd.R_far (p := ⟨gb1006, 0, none⟩) (Kd.R_types HO1003.out BK1006.out (by decide)) (fun _ hk => hk.2) (.slice Ao8 t998.length co8)) (fun _ hk => hk.2) (.slice Ao12 t1001.length co12)) (fun _ h_ => h_.1))) (by decide)) hk (fun _ h => h.2)) (fun _ h => h.1)); have n3_ := am (KeepBut.blk hk (g' := gb1006) (o := .cells #[.slice Ao8 t998.length co8, .slice Ao12 t1001.length co12] 33 (0, 0)) (by (with_reducible repeat (first | refine blk_drewN ?_ _ | refine blk_drew ?_ | refine blk_alloc ?_ _)); refine blk_put (cs := #[.slice Ao8 t998.length co8, .slice none 0 0]) ?_ 1 _ rfl; (with_reducible repeat (first | refine blk_drewN ?_ _ | refine blk_drew ?_ | refine blk_alloc ?_ _)); refine blk_put (cs := #[.slice none 0 0, .slice none 0 0]) ?_ 0 _ rfl; exact pkK BK1006.out) NB1006_0.out (by simp)); have n4_ := am (KeepBut.trans (pkH HK.out) hk (.inl rfl)); have n5_ := am (hb); have n6_ := am (hi); clear BK997 HO1000 HO1003 BK1006 HK HB HI0; have BK997 := n0_; have HO1000 := n1_; have HO1003 := n2_; have BK1006 := n3_; have HK := n4_; have HB := n5_; have HI0 := n6_; clear n0_ n1_ n2_ n3_ n4_ n5_ n6_; (try clear hb); (try clear hb2); (try clear hk); (try clear hi)))
  (try simp only [Act.put, List.setIfInBounds_toArray, List.set_cons_zero, List.set_cons_succ])
  go_cut [] (fun wc => ∃ (kq : Nat) (x1001_3 : Int) (x1002_3 : Int) (x1007000_3 : List Int) (x1007001_3 : List Bool) (u1007000 : Value) (u1007001 : Value), Aside0 (spec_l3Some.j1 kq s0_0 x1001_3 x1002_3 x1007000_3 x1007001_3 = some (r1, r2, r3, r4)) ∧ Aside0 (kq ≤ k) ∧ Aside0 (Kd.R (Kd.int .i64) 3 wc w.heap.size (fun _ => True) u1007000 x1007000_3) ∧ Aside0 (Kd.Q Kd.bool 4 wc w.heap.size (fun _ => True) u1007001 x1007001_3) ∧ Aside0 (wc.heap[gb997]? = some (.cells #[(.slice none 0 0), (.slice none 0 0)] 33 (0, 0))) ∧ Aside0 (wc.heap[gb1006]? = some (.cells #[u1007000, u1007001] 33 (0, 0))) ∧ Aside0 (IsS70 w0 wc g s0_0 x1001_3 x1002_3) ∧ Aside0 (KeepBut w wc g none) ∧ Aside0 (Below w0.heap.size w0 wc))
  case first =>
    have H := HC4.out
    clear HC4
    by_cases c14 : t1007 = true
    · subst c14
      replace H : ((spec_l3Tokens.f k s0_0 t1008 t1009 24).bind fun bt1010 => (spec_l3Some.l0 k s0_0 bt1010.2.2.1 bt1010.2.2.2 bt1010.1 bt1010.2.1)) = some (r1, r2, r3, r4) := by rw [if_pos rfl] at H; exact H
      replace H := Option.bind_eq_some_iff.mp H
      obtain ⟨⟨t1010, t1013, t1016, t1017⟩, A150, H⟩ := H
      replace H : (spec_l3Some.l0 k s0_0 t1016 t1017 t1010 t1013) = some (r1, r2, r3, r4) := H
      have A15 := am A150
      clear A150
      have H' := am H
      clear H
      go_wp2_with (first | ((with_reducible refine gate_callee (f := 85) rfl ?_); refine goesL_ (some 10) rfl rfl Try.func85 (by kernel_rfl) rfl #[.pointer (some ⟨g, 0, none⟩), .int .i64 24] rfl mpx ?_; (with_reducible refine (spec_l3Tokens.calls k g s0_0 t1008 t1009 24 t1010 t1013 t1016 t1017 w0 _ ?side1 ?side2 A15.out).mono ?_); (case side1 => repeat (first | (with_reducible first | exact HI0.out | apply IsS70.alloc | apply IsS70.drewN | apply IsS70.drew | apply IsS70.set_1 | apply IsS70.set_2 | refine IsS70.far ?_ NB0_997.out _ | refine IsS70.far ?_ NB0_1006.out _) | exact HI0.out)); (case side2 => repeat (first | (with_reducible first | exact HB.out | apply below_alloc | apply pw_below_drewN | apply below_drew1 | refine below_set ?_ (IsS70.ge HI0.out) | refine below_set ?_ GE997.out | refine below_set ?_ GE1006.out) | exact HB.out)); rintro e w16 ⟨v1011, v1014, rfl, ho0, ho1, hi, hb, hk⟩; refine ⟨_, rfl, ?_⟩; have n0_ := am (KeepBut.blk hk (g' := gb997) (o := .cells #[.slice none 0 0, .slice none 0 0] 33 (0, 0)) (pkK BK997.out) NB997_0.out (by simp)); have n1_ := am (Kd.R_mono (Kd.R_told (Kd.R_oldK (IsS70.apart (show IsS70 w0 _ g s0_0 t1008 t1009 from IsS70.pk HI0.out) (pkR HO1000.out) (by decide)) hk) (Kd.R_base ho0)) (fun _ h_ => h_.1)); have n2_ := am (Kd.R_mono (Kd.R_told (Kd.R_oldK (IsS70.apart (show IsS70 w0 _ g s0_0 t1008 t1009 from IsS70.pk HI0.out) (pkR HO1003.out) (by decide)) hk) (Kd.R_base ho1)) (fun _ h_ => h_.1)); have n3_ := am (KeepBut.blk hk (g' := gb1006) (o := .cells #[.slice Ao8 t998.length co8, .slice Ao12 t1001.length co12] 33 (0, 0)) (pkK BK1006.out) NB1006_0.out (by simp)); have n4_ := am (Kd.R_lower (Kd.R_new' ho0 (Kd.R_lt (pkR HO1000.out))) (keep_size (w := w) (g := g) (row := none) (pkH HK.out))); have n5_ := am (Kd.R_lower (Kd.R_new' ho1 (Kd.R_lt (pkR HO1003.out))) (keep_size (w := w) (g := g) (row := none) (pkH HK.out))); have n6_ := am (KeepBut.trans (pkH HK.out) hk (.inl rfl)); have n7_ := am (hb); have n8_ := am (hi); clear BK997 HO1000 HO1003 BK1006 HK HB HI0; have BK997 := n0_; have HO1000 := n1_; have HO1003 := n2_; have BK1006 := n3_; have HO1012 := n4_; have HO1015 := n5_; have HK := n6_; have HB := n7_; have HI0 := n8_; clear n0_ n1_ n2_ n3_ n4_ n5_ n6_ n7_ n8_; (try clear hb); (try clear hb2); (try clear hk); (try clear hi); (try clear ho0); (try clear ho1); obtain ⟨Ao17, co17, eo17⟩ := Kd.R_slice HO1012.out; subst eo17; have hnb18 := NB1006_997.out; have hnc18 := NB997_1006.out; have hnb19 := NB1006_0.out; have hnc19 := NB0_1006.out; have hcz20_0 : w16.cell? ⟨gb1006, 0, none⟩ = some (.slice Ao8 t998.length co8) := (blk_cell BK1006.out 0).trans rfl; have hcz20_1 : w16.cell? ⟨gb1006, 1, none⟩ = some (.slice Ao12 t1001.length co12) := (blk_cell BK1006.out 1).trans rfl; have hfz20_0 := blk_frozen BK1006.out 0; have hfz20_1 := blk_frozen BK1006.out 1; obtain ⟨Ao21, co21, eo21⟩ := Kd.R_slice HO1015.out; subst eo21))
      go_loopg [] k (fun kq w' => ∃ (x1007000_1 : List Int) (x1007001_1 : List Bool) (u1007000 : Value) (u1007001 : Value), Aside0 (spec_l3Some.l0 kq s0_0 t1016 t1017 x1007000_1 x1007001_1 = some (r1, r2, r3, r4)) ∧ Aside0 (kq ≤ k) ∧ Aside0 (Kd.R (Kd.int .i64) 3 w' w.heap.size (fun _ => True) u1007000 x1007000_1) ∧ Aside0 (Kd.Q Kd.bool 4 w' w.heap.size (fun _ => True) u1007001 x1007001_1) ∧ Aside0 (w'.heap[gb997]? = some (.cells #[(.slice none 0 0), (.slice none 0 0)] 33 (0, 0))) ∧ Aside0 (w'.heap[gb1006]? = some (.cells #[u1007000, u1007001] 33 (0, 0))) ∧ Aside0 (IsS70 w0 w' g s0_0 t1016 t1017) ∧ Aside0 (KeepBut w w' g none) ∧ Aside0 (Below w0.heap.size w0 w'))
      case atStart => exact ⟨(t1010), (t1013), (.slice Ao17 t1010.length co17), (.slice Ao21 t1013.length co21), H', ⟨Nat.le_refl _⟩, ⟨by (with_reducible repeat (first | apply Kd.R_alloc | apply Kd.R_drewN | apply Kd.R_drew)); exact Kd.R_mono (Kd.R_far (p := ⟨gb1006, 1, none⟩) (Kd.R_far (p := ⟨gb1006, 0, none⟩) (Kd.R_types HO1012.out BK1006.out (by decide)) (fun _ hk => hk.2) (.slice Ao17 t1010.length co17)) (fun _ hk => hk.2) (.slice Ao21 t1013.length co21)) (fun _ hk => trivial)⟩, ⟨Kd.Q_of_R (by (with_reducible repeat (first | apply Kd.R_alloc | apply Kd.R_drewN | apply Kd.R_drew)); exact Kd.R_mono (Kd.R_far (p := ⟨gb1006, 1, none⟩) (Kd.R_far (p := ⟨gb1006, 0, none⟩) (Kd.R_types HO1015.out BK1006.out (by decide)) (fun _ hk => hk.2) (.slice Ao17 t1010.length co17)) (fun _ hk => hk.2) (.slice Ao21 t1013.length co21)) (fun _ hk => trivial))⟩, ⟨by (with_reducible repeat (first | refine blk_drewN ?_ _ | refine blk_drew ?_ | refine blk_alloc ?_ _)); refine blk_far ?_ NB997_1006.out _; (with_reducible repeat (first | refine blk_drewN ?_ _ | refine blk_drew ?_ | refine blk_alloc ?_ _)); refine blk_far ?_ NB997_1006.out _; exact pkK BK997.out⟩, ⟨by (with_reducible repeat (first | refine blk_drewN ?_ _ | refine blk_drew ?_ | refine blk_alloc ?_ _)); refine blk_put (cs := #[.slice Ao17 t1010.length co17, .slice Ao12 t1001.length co12]) ?_ 1 _ rfl; (with_reducible repeat (first | refine blk_drewN ?_ _ | refine blk_drew ?_ | refine blk_alloc ?_ _)); refine blk_put (cs := #[.slice Ao8 t998.length co8, .slice Ao12 t1001.length co12]) ?_ 0 _ rfl; exact pkK BK1006.out⟩, ⟨by repeat (first | (with_reducible first | exact HI0.out | apply IsS70.alloc | apply IsS70.drewN | apply IsS70.drew | apply IsS70.set_1 | apply IsS70.set_2 | refine IsS70.far ?_ NB0_997.out _ | refine IsS70.far ?_ NB0_1006.out _) | exact HI0.out)⟩, ⟨pkH HK.out⟩, ⟨by repeat (first | (with_reducible first | exact HB.out | apply below_alloc | apply pw_below_drewN | apply below_drew1 | refine below_set ?_ (IsS70.ge HI0.out) | refine below_set ?_ GE997.out | refine below_set ?_ GE1006.out) | exact HB.out)⟩⟩
      case round =>
        clear H'
        try clear c1
        try clear p2
        try clear c7
        try clear c8
        try clear c9
        try clear c10
        try clear c14
        try clear c18
        try clear c19
        try clear hcz11_0
        try clear hcz11_1
        try clear hcz20_0
        try clear hcz20_1
        try clear hfz11_0
        try clear hfz11_1
        try clear hfz20_0
        try clear hfz20_1
        obtain ⟨x1007000_1, x1007001_1, u1007000, u1007001, HA, HK1, HO_1007000, HO_1007001, BK997, BK1006, HI0, HK, HB⟩ := hrel
        cases gk with
        | zero => exact absurd HA.out (by simp [spec_l3Some.l0])
        | succ k1 =>
          have H := HA.out
          clear HA
          simp only [spec_l3Some.l0] at H
          by_cases c22 : (x1007000_1.length : Int) < 24
          · rw [if_pos c22] at H
            have c22b0 : decide ((x1007000_1.length : Int) < 24) = true := decide_eq_true c22
            have c22b1 : decide (x1007000_1.length < 24) = true := decide_eq_true (by omega)
            clear c22
            (first | rw [c22b0] | (simp only [i64_w, i32_w]; rw [c22b0]) | skip)
            by_cases c23 : x1007000_1.length < 17592186044416
            · rw [if_pos c23] at H
              have LMc23 := am c23
              clear c23
              obtain ⟨y1018, hy1018⟩ : ∃ y_ : List Int, y_ = (x1007000_1 ++ [(-1)]) := ⟨_, rfl⟩
              replace H : (if x1007001_1.length < 140737488355328 then (spec_l3Some.l0 k1 s0_0 t1016 t1017 y1018 (x1007001_1 ++ [false])) else (none)) = some (r1, r2, r3, r4) := by first | (rw [hy1018]; with_reducible exact H) | (have H2_ := (Option.bind_some _ _).symm.trans H; rw [hy1018]; with_reducible exact H2_) | (have H2_ := (Option.bind_some _ _).symm.trans H; with_reducible exact H2_) | with_reducible exact H | (rw [hy1018]; exact H) | exact H
              have Ny1018 := am hy1018
              clear hy1018
              by_cases c24 : x1007001_1.length < 140737488355328
              · rw [if_pos c24] at H
                have LMc24 := am c24
                clear c24
                obtain ⟨y1021, hy1021⟩ : ∃ y_ : List Bool, y_ = (x1007001_1 ++ [false]) := ⟨_, rfl⟩
                replace H : (spec_l3Some.l0 k1 s0_0 t1016 t1017 y1018 y1021) = some (r1, r2, r3, r4) := by first | (rw [hy1021]; with_reducible exact H) | (have H2_ := (Option.bind_some _ _).symm.trans H; rw [hy1021]; with_reducible exact H2_) | (have H2_ := (Option.bind_some _ _).symm.trans H; with_reducible exact H2_) | with_reducible exact H | (rw [hy1021]; exact H) | exact H
                have Ny1021 := am hy1021
                clear hy1021
                have H' := am H
                clear H
                have hnb25 := NB1006_997.out
                have hnc25 := NB997_1006.out
                have hnb26 := NB1006_0.out
                have hnc26 := NB0_1006.out
                have hcz27_0 : wr.cell? ⟨gb1006, 0, none⟩ = some (u1007000) := (blk_cell BK1006.out 0).trans rfl
                have hcz27_1 : wr.cell? ⟨gb1006, 1, none⟩ = some (u1007001) := (blk_cell BK1006.out 1).trans rfl
                have hfz27_0 := blk_frozen BK1006.out 0
                have hfz27_1 := blk_frozen BK1006.out 1
                obtain ⟨Ao28, co28, eo28⟩ := Kd.R_slice HO_1007000.out
                subst eo28
                go_wp2_with (first | ((with_reducible refine gate_builtin (b := .append) (xs := #[.tmp 16, .tmp 17]) rfl ?_); (try (refine gate_guard (by rfl) ?_; dsimp only)); at_builtin; refine Kd.R_append (Kd.int .i64) w.heap.size rfl (.tmp 16) (.tmp 17) 22 3 (.int .i64 0) 8 rfl Try.underlying22 info3 rfl (by decide) (by omega) (.slice Ao28 x1007000_1.length co28) x1007000_1 (-1) [.int .i64 (-1)] (fun _ => True) (fun _ => False) rfl rfl ?aP (fun _ hk => hk.elim) ?aF ?aO (Below.refl _ _) ?aS ?aL ?_; (case aP => exact rfl); (case aF => exact (fun _ _ => trivial)); (case aO => exact (pkR HO_1007000.out)); (case aS => exact (keep_size (w := w) (g := g) (row := none) (pkH HK.out))); (case aL => have := LMc23.out; omega); intro v1019 w29 ho hb hg hat; rw [← Ny1018.out] at ho; have n0_ := am (Kd.Q_over' (pkQ HO_1007001.out) (Kd.R_typed (pkR HO_1007000.out)) (by decide) hg); have n1_ := am (blk_grown (g := gb997) (o := .cells #[.slice none 0 0, .slice none 0 0] 33 (0, 0)) (pkK BK997.out) hg (Kd.R_ne HO_1007000.out BK997.out (by decide))); have n2_ := am (blk_grown (g := gb1006) (o := .cells #[.slice Ao28 x1007000_1.length co28, u1007001] 33 (0, 0)) (pkK BK1006.out) hg (Kd.R_ne HO_1007000.out BK1006.out (by decide))); have n3_ := am (IsS70.grown (by first | exact HI0.out | exact IsS70.far HI0.out NB0_997.out _ | exact IsS70.far HI0.out NB0_1006.out _ | exact IsS70.far (IsS70.far HI0.out NB0_997.out _) NB0_997.out _ | exact IsS70.far (IsS70.far HI0.out NB0_997.out _) NB0_1006.out _ | exact IsS70.far (IsS70.far HI0.out NB0_1006.out _) NB0_997.out _ | exact IsS70.far (IsS70.far HI0.out NB0_1006.out _) NB0_1006.out _ | (repeat (first | (with_reducible first | exact HI0.out | apply IsS70.alloc | apply IsS70.drewN | apply IsS70.drew | apply IsS70.set_1 | apply IsS70.set_2 | refine IsS70.far ?_ NB0_997.out _ | refine IsS70.far ?_ NB0_1006.out _) | exact HI0.out); done)) hg (IsS70.own_ne HI0.out HO_1007000.out (by decide))); have n4_ := am (below_weaken (by repeat (first | (with_reducible first | exact HB.out | apply below_alloc | apply pw_below_drewN | apply below_drew1 | refine below_set ?_ (IsS70.ge HI0.out) | refine below_set ?_ GE997.out | refine below_set ?_ GE1006.out) | exact HB.out)) HL.out hb); have n5_ := am (KeepBut.trans (pkH HK.out) (KeepBut.of_grown hg g) (Kd.R_base2 HO_1007000.out)); have n6_ := am (ho); clear HO_1007001 BK997 BK1006 HI0 HB HK HO_1007000; have HO_1007001 := n0_; have BK997 := n1_; have BK1006 := n2_; have HI0 := n3_; have HB := n4_; have HK := n5_; have HO1020 := n6_; clear n0_ n1_ n2_ n3_ n4_ n5_ n6_; clear ho hb hg hat; obtain ⟨Ao30, co30, eo30⟩ := Kd.R_slice HO1020.out; subst eo30; have hcz31_0 : w29.cell? ⟨gb1006, 0, none⟩ = some (.slice Ao28 x1007000_1.length co28) := (blk_cell BK1006.out 0).trans rfl; have hcz31_1 : w29.cell? ⟨gb1006, 1, none⟩ = some (u1007001) := (blk_cell BK1006.out 1).trans rfl; have hfz31_0 := blk_frozen BK1006.out 0; have hfz31_1 := blk_frozen BK1006.out 1) | ((with_reducible refine gate_builtin (b := .append) (xs := #[.tmp 21, .tmp 22]) rfl ?_); (try (refine gate_guard (by rfl) ?_; dsimp only)); at_builtin; refine Kd.Q_append Kd.bool w.heap.size rfl (.tmp 21) (.tmp 22) 28 4 (.bool false) 1 rfl Try.underlying28 info4 rfl (by decide) (by omega) u1007001 x1007001_1 false [.bool false] (fun _ => True) (fun _ => False) rfl (by first | (go_simp; done) | (go_simp; rfl)) ?aP (fun _ hk => hk.elim) ?aF ?aO (Below.refl _ _) ?aS ?aL ?_; (case aP => exact rfl); (case aF => exact (fun _ _ => trivial)); (case aO => exact (by (with_reducible repeat (first | apply Kd.Q_alloc | apply Kd.Q_drewN | apply Kd.Q_drew)); exact Kd.Q_mono (Kd.Q_far (p := ⟨gb1006, 0, none⟩) (Kd.Q_types HO_1007001.out BK1006.out (by decide)) (fun _ hk => hk.2) (.slice Ao30 y1018.length co30)) (fun _ hk => trivial))); (case aS => exact (keep_size (w := w) (g := g) (row := none) (pkH HK.out))); (case aL => have := LMc24.out; omega); intro v1022 w32 ho hb hg hat; rw [← Ny1021.out] at ho; have n0_ := am (blk_grown (g := gb997) (o := .cells #[.slice none 0 0, .slice none 0 0] 33 (0, 0)) (by (with_reducible repeat (first | refine blk_drewN ?_ _ | refine blk_drew ?_ | refine blk_alloc ?_ _)); refine blk_far ?_ NB997_1006.out _; exact pkK BK997.out) hg (Kd.Q_ne HO_1007001.out BK997.out (by decide))); have n1_ := am (blk_grown (g := gb1006) (o := .cells #[.slice Ao30 y1018.length co30, u1007001] 33 (0, 0)) (by (with_reducible repeat (first | refine blk_drewN ?_ _ | refine blk_drew ?_ | refine blk_alloc ?_ _)); refine blk_put (cs := #[.slice Ao28 x1007000_1.length co28, u1007001]) ?_ 0 _ rfl; exact pkK BK1006.out) hg (Kd.Q_ne HO_1007001.out BK1006.out (by decide))); have n2_ := am (IsS70.grown (by first | exact HI0.out | exact IsS70.far HI0.out NB0_997.out _ | exact IsS70.far HI0.out NB0_1006.out _ | exact IsS70.far (IsS70.far HI0.out NB0_997.out _) NB0_997.out _ | exact IsS70.far (IsS70.far HI0.out NB0_997.out _) NB0_1006.out _ | exact IsS70.far (IsS70.far HI0.out NB0_1006.out _) NB0_997.out _ | exact IsS70.far (IsS70.far HI0.out NB0_1006.out _) NB0_1006.out _ | (repeat (first | (with_reducible first | exact HI0.out | apply IsS70.alloc | apply IsS70.drewN | apply IsS70.drew | apply IsS70.set_1 | apply IsS70.set_2 | refine IsS70.far ?_ NB0_997.out _ | refine IsS70.far ?_ NB0_1006.out _) | exact HI0.out); done)) hg (IsS70.own_neQ HI0.out HO_1007001.out (by decide))); have n3_ := am (Kd.R_over' (by (with_reducible repeat (first | apply Kd.R_alloc | apply Kd.R_drewN | apply Kd.R_drew)); exact (Kd.R_mono (Kd.R_far (p := ⟨gb1006, 0, none⟩) (Kd.R_types HO1020.out BK1006.out (by decide)) (fun _ hk => hk.2) (.slice Ao30 y1018.length co30)) (fun _ h_ => h_.1))) (Kd.Q_typed (by (with_reducible repeat (first | apply Kd.Q_alloc | apply Kd.Q_drewN | apply Kd.Q_drew)); exact (Kd.Q_mono (Kd.Q_far (p := ⟨gb1006, 0, none⟩) (Kd.Q_types HO_1007001.out BK1006.out (by decide)) (fun _ hk => hk.2) (.slice Ao30 y1018.length co30)) (fun _ h_ => h_.1)))) (by decide) hg); have n4_ := am (below_weaken (by repeat (first | (with_reducible first | exact HB.out | apply below_alloc | apply pw_below_drewN | apply below_drew1 | refine below_set ?_ (IsS70.ge HI0.out) | refine below_set ?_ GE997.out | refine below_set ?_ GE1006.out) | exact HB.out)) HL.out hb); have n5_ := am (KeepBut.trans (pkH HK.out) (KeepBut.of_grown hg g) (Kd.Q_base2 HO_1007001.out)); have n6_ := am (ho); clear BK997 BK1006 HI0 HO1020 HB HK HO_1007001; have BK997 := n0_; have BK1006 := n1_; have HI0 := n2_; have HO1020 := n3_; have HB := n4_; have HK := n5_; have HO1023 := n6_; clear n0_ n1_ n2_ n3_ n4_ n5_ n6_; clear ho hb hg hat; obtain ⟨Ao33, co33, eo33, _⟩ := Kd.Q_slice HO1023.out; subst eo33; have hcz34_0 : w32.cell? ⟨gb1006, 0, none⟩ = some (.slice Ao30 y1018.length co30) := (blk_cell BK1006.out 0).trans rfl; have hcz34_1 : w32.cell? ⟨gb1006, 1, none⟩ = some (u1007001) := (blk_cell BK1006.out 1).trans rfl; have hfz34_0 := blk_frozen BK1006.out 0; have hfz34_1 := blk_frozen BK1006.out 1))
                go_roundg k1
                case measure => have := HK1.out; omega
                case rel => exact ⟨(y1018), (y1021), (.slice Ao30 y1018.length co30), (.slice Ao33 y1021.length co33), H', ⟨by have := HK1.out; omega⟩, ⟨by (with_reducible repeat (first | apply Kd.R_alloc | apply Kd.R_drewN | apply Kd.R_drew)); exact Kd.R_mono (Kd.R_far (p := ⟨gb1006, 1, none⟩) (Kd.R_types HO1020.out BK1006.out (by decide)) (fun _ hk => hk.2) (.slice Ao33 y1021.length co33)) (fun _ hk => trivial)⟩, ⟨by (with_reducible repeat (first | apply Kd.Q_alloc | apply Kd.Q_drewN | apply Kd.Q_drew)); exact Kd.Q_mono (Kd.Q_far (p := ⟨gb1006, 1, none⟩) (Kd.Q_types HO1023.out BK1006.out (by decide)) (fun _ hk => hk.2) (.slice Ao33 y1021.length co33)) (fun _ hk => trivial)⟩, ⟨by (with_reducible repeat (first | refine blk_drewN ?_ _ | refine blk_drew ?_ | refine blk_alloc ?_ _)); refine blk_far ?_ NB997_1006.out _; exact pkK BK997.out⟩, ⟨by (with_reducible repeat (first | refine blk_drewN ?_ _ | refine blk_drew ?_ | refine blk_alloc ?_ _)); refine blk_put (cs := #[.slice Ao30 y1018.length co30, u1007001]) ?_ 1 _ rfl; exact pkK BK1006.out⟩, ⟨by repeat (first | (with_reducible first | exact HI0.out | apply IsS70.alloc | apply IsS70.drewN | apply IsS70.drew | apply IsS70.set_1 | apply IsS70.set_2 | refine IsS70.far ?_ NB0_997.out _ | refine IsS70.far ?_ NB0_1006.out _) | exact HI0.out)⟩, ⟨pkH HK.out⟩, ⟨by repeat (first | (with_reducible first | exact HB.out | apply below_alloc | apply pw_below_drewN | apply below_drew1 | refine below_set ?_ (IsS70.ge HI0.out) | refine below_set ?_ GE997.out | refine below_set ?_ GE1006.out) | exact HB.out)⟩⟩
              · rw [if_neg c24] at H
                exact absurd H (by simp)
            · rw [if_neg c23] at H
              exact absurd H (by simp)
          · rw [if_neg c22] at H
            have c22b0 : decide ((x1007000_1.length : Int) < 24) = false := decide_eq_false c22
            have c22b1 : decide (x1007000_1.length < 24) = false := decide_eq_false (by omega)
            clear c22
            (first | rw [c22b0] | (simp only [i64_w, i32_w]; rw [c22b0]) | skip)
            have H' := am H
            clear H
            have hnb35 := NB1006_997.out
            have hnc35 := NB997_1006.out
            have hnb36 := NB1006_0.out
            have hnc36 := NB0_1006.out
            have hcz37_0 : wr.cell? ⟨gb1006, 0, none⟩ = some (u1007000) := (blk_cell BK1006.out 0).trans rfl
            have hcz37_1 : wr.cell? ⟨gb1006, 1, none⟩ = some (u1007001) := (blk_cell BK1006.out 1).trans rfl
            have hfz37_0 := blk_frozen BK1006.out 0
            have hfz37_1 := blk_frozen BK1006.out 1
            obtain ⟨Ao38, co38, eo38⟩ := Kd.R_slice HO_1007000.out
            subst eo38
            go_wp2
            go_meet
            case rel => exact ⟨_, (t1016), (t1017), (x1007000_1), (x1007001_1), (.slice Ao38 x1007000_1.length co38), (u1007001), H', ⟨by have := HK1.out; first | omega | exact Nat.le_refl _⟩, ⟨pkR HO_1007000.out⟩, ⟨pkQ HO_1007001.out⟩, ⟨pkK BK997.out⟩, ⟨pkK BK1006.out⟩, ⟨by repeat (first | (with_reducible first | exact HI0.out | apply IsS70.alloc | apply IsS70.drewN | apply IsS70.drew | apply IsS70.set_1 | apply IsS70.set_2 | refine IsS70.far ?_ NB0_997.out _ | refine IsS70.far ?_ NB0_1006.out _) | exact HI0.out)⟩, ⟨pkH HK.out⟩, ⟨by repeat (first | (with_reducible first | exact HB.out | apply below_alloc | apply pw_below_drewN | apply below_drew1 | refine below_set ?_ (IsS70.ge HI0.out) | refine below_set ?_ GE997.out | refine below_set ?_ GE1006.out) | exact HB.out)⟩⟩
    · replace c14 := Bool.eq_false_iff.mpr c14
      subst c14
      replace H : (spec_l3Some.j1 k s0_0 t1008 t1009 t998 t1001) = some (r1, r2, r3, r4) := by rw [if_neg (show ¬ (false = true) by decide)] at H; exact H
      have H' := am H
      clear H
      go_wp2
      go_meet
      case rel => exact ⟨_, (t1008), (t1009), (t998), (t1001), (.slice Ao8 t998.length co8), (.slice Ao12 t1001.length co12), H', ⟨by first | omega | exact Nat.le_refl _⟩, ⟨pkR HO1000.out⟩, ⟨Kd.Q_of_R (pkR HO1003.out)⟩, ⟨pkK BK997.out⟩, ⟨pkK BK1006.out⟩, ⟨by repeat (first | (with_reducible first | exact HI0.out | apply IsS70.alloc | apply IsS70.drewN | apply IsS70.drew | apply IsS70.set_1 | apply IsS70.set_2 | refine IsS70.far ?_ NB0_997.out _ | refine IsS70.far ?_ NB0_1006.out _) | exact HI0.out)⟩, ⟨pkH HK.out⟩, ⟨by repeat (first | (with_reducible first | exact HB.out | apply below_alloc | apply pw_below_drewN | apply below_drew1 | refine below_set ?_ (IsS70.ge HI0.out) | refine below_set ?_ GE997.out | refine below_set ?_ GE1006.out) | exact HB.out)⟩⟩
  case rest =>
    clear HC4
    try clear c1
    try clear c2
    try clear p2
    try clear c3
    try clear c7
    try clear c8
    try clear c9
    try clear c10
    try clear c14
    try clear c18
    try clear c19
    try clear c22
    try clear c22b0
    try clear c22b1
    try clear c23
    try clear c24
    try clear c25
    try clear c26
    try clear c35
    try clear c36
    try clear hcz11_0
    try clear hcz11_1
    try clear hcz20_0
    try clear hcz20_1
    try clear hcz27_0
    try clear hcz27_1
    try clear hcz31_0
    try clear hcz31_1
    try clear hcz34_0
    try clear hcz34_1
    try clear hcz37_0
    try clear hcz37_1
    try clear hfz11_0
    try clear hfz11_1
    try clear hfz20_0
    try clear hfz20_1
    try clear hfz27_0
    try clear hfz27_1
    try clear hfz31_0
    try clear hfz31_1
    try clear hfz34_0
    try clear hfz34_1
    try clear hfz37_0
    try clear hfz37_1
    try clear p2
    obtain ⟨kq, x1001_3, x1002_3, x1007000_3, x1007001_3, u1007000, u1007001, HA, HJ3, HO_1007000, HO_1007001, BK997, BK1006, HI0, HK, HB⟩ := hcut
    cases kq with
    | zero => exact absurd HA.out (by simp [spec_l3Some.j1])
    | succ kj3 =>
      have H := HA.out
      clear HA
      simp only [spec_l3Some.j1] at H
      have HC39 := am H
      clear H
      go_upto_region 7 with (fail)
      go_cut [32] (fun v32 wc => ∃ (kq : Nat) (x32_38 : Bool) (x1001_38 : Int) (x1002_38 : Int), v32 = .bool x32_38 ∧ Aside0 (spec_l3Some.j2 kq x32_38 s0_0 x1001_38 x1002_38 x1007000_3 x1007001_3 = some (r1, r2, r3, r4)) ∧ Aside0 (kq ≤ kj3) ∧ Aside0 (Kd.R (Kd.int .i64) 3 wc w.heap.size (fun _ => True) u1007000 x1007000_3) ∧ Aside0 (Kd.Q Kd.bool 4 wc w.heap.size (fun _ => True) u1007001 x1007001_3) ∧ Aside0 (wc.heap[gb997]? = some (.cells #[(.slice none 0 0), (.slice none 0 0)] 33 (0, 0))) ∧ Aside0 (wc.heap[gb1006]? = some (.cells #[u1007000, u1007001] 33 (0, 0))) ∧ Aside0 (IsS70 w0 wc g s0_0 x1001_38 x1002_38) ∧ Aside0 (KeepBut w wc g none) ∧ Aside0 (Below w0.heap.size w0 wc))
      case first =>
        have H := HC39.out
        clear HC39
        replace H := Option.bind_eq_some_iff.mp H
        obtain ⟨⟨t1024, t1025, t1026⟩, A400, H⟩ := H
        replace H : (if t1024 = true then (spec_l3Some.j2 kj3 (decide ((x1007001_3.length : Int) > 0)) s0_0 t1025 t1026 x1007000_3 x1007001_3) else (spec_l3Some.j2 kj3 false s0_0 t1025 t1026 x1007000_3 x1007001_3)) = some (r1, r2, r3, r4) := H
        have A40 := am A400
        clear A400
        by_cases c41 : t1024 = true
        · subst c41
          replace H : (spec_l3Some.j2 kj3 (decide ((x1007001_3.length : Int) > 0)) s0_0 t1025 t1026 x1007000_3 x1007001_3) = some (r1, r2, r3, r4) := by rw [if_pos rfl] at H; exact H
          have H' := am H
          clear H
          go_wp2_with (first | ((with_reducible refine gate_callee (f := 83) rfl ?_); refine goesL_ (some 26) rfl rfl Try.func83 (by kernel_rfl) rfl #[.pointer (some ⟨g, 0, none⟩), .int .i64 8] rfl mpx ?_; (with_reducible refine (spec_l1Once.calls g s0_0 x1001_3 x1002_3 8 true t1025 t1026 w0 _ ?side1 ?side2 A40.out).mono ?_); (case side1 => repeat (first | (with_reducible first | exact HI0.out | apply IsS70.alloc | apply IsS70.drewN | apply IsS70.drew | apply IsS70.set_1 | apply IsS70.set_2 | refine IsS70.far ?_ NB0_997.out _ | refine IsS70.far ?_ NB0_1006.out _) | exact HI0.out)); (case side2 => repeat (first | (with_reducible first | exact HB.out | apply below_alloc | apply pw_below_drewN | apply below_drew1 | refine below_set ?_ (IsS70.ge HI0.out) | refine below_set ?_ GE997.out | refine below_set ?_ GE1006.out) | exact HB.out)); rintro e w42 ⟨rfl, hi, hb, hk⟩; refine ⟨_, rfl, ?_⟩; have n0_ := am (Kd.R_mono (Kd.R_keep (IsS70.apart (show IsS70 w0 _ g s0_0 x1001_3 x1002_3 from IsS70.pk HI0.out) (pkR HO_1007000.out) (by decide)) hk (fun _ h => h.2)) (fun _ h => h.1)); have n1_ := am (Kd.Q_mono (Kd.Q_keep (IsS70.apartQ (show IsS70 w0 _ g s0_0 x1001_3 x1002_3 from IsS70.pk HI0.out) (pkQ HO_1007001.out) (by decide)) hk (fun _ h => h.2)) (fun _ h => h.1)); have n2_ := am (KeepBut.blk hk (g' := gb997) (o := .cells #[.slice none 0 0, .slice none 0 0] 33 (0, 0)) (pkK BK997.out) NB997_0.out (by simp)); have n3_ := am (KeepBut.blk hk (g' := gb1006) (o := .cells #[u1007000, u1007001] 33 (0, 0)) (pkK BK1006.out) NB1006_0.out (by simp)); have n4_ := am (KeepBut.trans (pkH HK.out) hk (.inl rfl)); have n5_ := am (hb); have n6_ := am (hi); clear HO_1007000 HO_1007001 BK997 BK1006 HK HB HI0; have HO_1007000 := n0_; have HO_1007001 := n1_; have BK997 := n2_; have BK1006 := n3_; have HK := n4_; have HB := n5_; have HI0 := n6_; clear n0_ n1_ n2_ n3_ n4_ n5_ n6_; (try clear hb); (try clear hb2); (try clear hk); (try clear hi); have hnb43 := NB1006_997.out; have hnc43 := NB997_1006.out; have hnb44 := NB1006_0.out; have hnc44 := NB0_1006.out; have hcz45_0 : w42.cell? ⟨gb1006, 0, none⟩ = some (u1007000) := (blk_cell BK1006.out 0).trans rfl; have hcz45_1 : w42.cell? ⟨gb1006, 1, none⟩ = some (u1007001) := (blk_cell BK1006.out 1).trans rfl; have hfz45_0 := blk_frozen BK1006.out 0; have hfz45_1 := blk_frozen BK1006.out 1; obtain ⟨Ao46, co46, eo46, _⟩ := Kd.Q_slice HO_1007001.out; subst eo46))
          go_meet
          case rel => exact ⟨_, (decide ((x1007001_3.length : Int) > 0)), (t1025), (t1026), rfx, H', ⟨by have := HJ3.out; first | omega | exact Nat.le_refl _⟩, ⟨pkR HO_1007000.out⟩, ⟨pkQ HO_1007001.out⟩, ⟨pkK BK997.out⟩, ⟨pkK BK1006.out⟩, ⟨by repeat (first | (with_reducible first | exact HI0.out | apply IsS70.alloc | apply IsS70.drewN | apply IsS70.drew | apply IsS70.set_1 | apply IsS70.set_2 | refine IsS70.far ?_ NB0_997.out _ | refine IsS70.far ?_ NB0_1006.out _) | exact HI0.out)⟩, ⟨pkH HK.out⟩, ⟨by repeat (first | (with_reducible first | exact HB.out | apply below_alloc | apply pw_below_drewN | apply below_drew1 | refine below_set ?_ (IsS70.ge HI0.out) | refine below_set ?_ GE997.out | refine below_set ?_ GE1006.out) | exact HB.out)⟩⟩
        · replace c41 := Bool.eq_false_iff.mpr c41
          subst c41
          replace H : (spec_l3Some.j2 kj3 false s0_0 t1025 t1026 x1007000_3 x1007001_3) = some (r1, r2, r3, r4) := by rw [if_neg (show ¬ (false = true) by decide)] at H; exact H
          have H' := am H
          clear H
          go_wp2_with (first | ((with_reducible refine gate_callee (f := 83) rfl ?_); refine goesL_ (some 26) rfl rfl Try.func83 (by kernel_rfl) rfl #[.pointer (some ⟨g, 0, none⟩), .int .i64 8] rfl mpx ?_; (with_reducible refine (spec_l1Once.calls g s0_0 x1001_3 x1002_3 8 false t1025 t1026 w0 _ ?side1 ?side2 A40.out).mono ?_); (case side1 => repeat (first | (with_reducible first | exact HI0.out | apply IsS70.alloc | apply IsS70.drewN | apply IsS70.drew | apply IsS70.set_1 | apply IsS70.set_2 | refine IsS70.far ?_ NB0_997.out _ | refine IsS70.far ?_ NB0_1006.out _) | exact HI0.out)); (case side2 => repeat (first | (with_reducible first | exact HB.out | apply below_alloc | apply pw_below_drewN | apply below_drew1 | refine below_set ?_ (IsS70.ge HI0.out) | refine below_set ?_ GE997.out | refine below_set ?_ GE1006.out) | exact HB.out)); rintro e w47 ⟨rfl, hi, hb, hk⟩; refine ⟨_, rfl, ?_⟩; have n0_ := am (Kd.R_mono (Kd.R_keep (IsS70.apart (show IsS70 w0 _ g s0_0 x1001_3 x1002_3 from IsS70.pk HI0.out) (pkR HO_1007000.out) (by decide)) hk (fun _ h => h.2)) (fun _ h => h.1)); have n1_ := am (Kd.Q_mono (Kd.Q_keep (IsS70.apartQ (show IsS70 w0 _ g s0_0 x1001_3 x1002_3 from IsS70.pk HI0.out) (pkQ HO_1007001.out) (by decide)) hk (fun _ h => h.2)) (fun _ h => h.1)); have n2_ := am (KeepBut.blk hk (g' := gb997) (o := .cells #[.slice none 0 0, .slice none 0 0] 33 (0, 0)) (pkK BK997.out) NB997_0.out (by simp)); have n3_ := am (KeepBut.blk hk (g' := gb1006) (o := .cells #[u1007000, u1007001] 33 (0, 0)) (pkK BK1006.out) NB1006_0.out (by simp)); have n4_ := am (KeepBut.trans (pkH HK.out) hk (.inl rfl)); have n5_ := am (hb); have n6_ := am (hi); clear HO_1007000 HO_1007001 BK997 BK1006 HK HB HI0; have HO_1007000 := n0_; have HO_1007001 := n1_; have BK997 := n2_; have BK1006 := n3_; have HK := n4_; have HB := n5_; have HI0 := n6_; clear n0_ n1_ n2_ n3_ n4_ n5_ n6_; (try clear hb); (try clear hb2); (try clear hk); (try clear hi)))
          go_meet
          case rel => exact ⟨_, (false), (t1025), (t1026), rfx, H', ⟨by have := HJ3.out; first | omega | exact Nat.le_refl _⟩, ⟨pkR HO_1007000.out⟩, ⟨pkQ HO_1007001.out⟩, ⟨pkK BK997.out⟩, ⟨pkK BK1006.out⟩, ⟨by repeat (first | (with_reducible first | exact HI0.out | apply IsS70.alloc | apply IsS70.drewN | apply IsS70.drew | apply IsS70.set_1 | apply IsS70.set_2 | refine IsS70.far ?_ NB0_997.out _ | refine IsS70.far ?_ NB0_1006.out _) | exact HI0.out)⟩, ⟨pkH HK.out⟩, ⟨by repeat (first | (with_reducible first | exact HB.out | apply below_alloc | apply pw_below_drewN | apply below_drew1 | refine below_set ?_ (IsS70.ge HI0.out) | refine below_set ?_ GE997.out | refine below_set ?_ GE1006.out) | exact HB.out)⟩⟩
      case rest =>
        clear HC39
        try clear c1
        try clear c2
        try clear p2
        try clear c3
        try clear c4
        try clear c7
        try clear c8
        try clear c9
        try clear c10
        try clear c14
        try clear c18
        try clear c19
        try clear c22
        try clear c22b0
        try clear c22b1
        try clear c23
        try clear c24
        try clear c25
        try clear c26
        try clear c35
        try clear c36
        try clear c41
        try clear c43
        try clear c44
        try clear hcz11_0
        try clear hcz11_1
        try clear hcz20_0
        try clear hcz20_1
        try clear hcz27_0
        try clear hcz27_1
        try clear hcz31_0
        try clear hcz31_1
        try clear hcz34_0
        try clear hcz34_1
        try clear hcz37_0
        try clear hcz37_1
        try clear hcz45_0
        try clear hcz45_1
        try clear hfz11_0
        try clear hfz11_1
        try clear hfz20_0
        try clear hfz20_1
        try clear hfz27_0
        try clear hfz27_1
        try clear hfz31_0
        try clear hfz31_1
        try clear hfz34_0
        try clear hfz34_1
        try clear hfz37_0
        try clear hfz37_1
        try clear hfz45_0
        try clear hfz45_1
        try clear p2
        obtain ⟨kq, x32_38, x1001_38, x1002_38, rfl, HA, HJ38, HO_1007000, HO_1007001, BK997, BK1006, HI0, HK, HB⟩ := hcut
        cases kq with
        | zero => exact absurd HA.out (by simp [spec_l3Some.j2])
        | succ kj38 =>
          have H := HA.out
          clear HA
          simp only [spec_l3Some.j2] at H
          by_cases c48 : x32_38 = true
          · subst c48
            replace H : ((spec_l1Below.f s0_0 x1001_38 x1002_38 (x1007001_3.length : Int)).bind fun bt1027 => ((spec_l1Below.f s0_0 bt1027.2.1 bt1027.2.2 3).bind fun bt1030 => (if bt1030.1 = 0 then (if 0 ≤ bt1027.1 then (if bt1027.1 < (x1007000_3.length : Int) then (some ((x1007000_3.set (bt1027.1 : Int).toNat bt1027.1), x1007001_3, bt1030.2.1, bt1030.2.2)) else (none)) else (none)) else (if bt1030.1 = 1 then (if 0 < (x1007001_3.length : Int) then (some (x1007000_3, (x1007001_3.set (0 : Int).toNat true), bt1030.2.1, bt1030.2.2)) else (none)) else (if 1 ≤ (x1007001_3.length : Int) then (some (x1007000_3, (x1007001_3.drop (1 : Int).toNat), bt1030.2.1, bt1030.2.2)) else (none)))))) = some (r1, r2, r3, r4) := by rw [if_pos rfl] at H; exact H
            replace H := Option.bind_eq_some_iff.mp H
            obtain ⟨⟨t1027, t1028, t1029⟩, A490, H⟩ := H
            replace H : ((spec_l1Below.f s0_0 t1028 t1029 3).bind fun bt1030 => (if bt1030.1 = 0 then (if 0 ≤ t1027 then (if t1027 < (x1007000_3.length : Int) then (some ((x1007000_3.set (t1027 : Int).toNat t1027), x1007001_3, bt1030.2.1, bt1030.2.2)) else (none)) else (none)) else (if bt1030.1 = 1 then (if 0 < (x1007001_3.length : Int) then (some (x1007000_3, (x1007001_3.set (0 : Int).toNat true), bt1030.2.1, bt1030.2.2)) else (none)) else (if 1 ≤ (x1007001_3.length : Int) then (some (x1007000_3, (x1007001_3.drop (1 : Int).toNat), bt1030.2.1, bt1030.2.2)) else (none))))) = some (r1, r2, r3, r4) := H
            have A49 := am A490
            clear A490
            replace H := Option.bind_eq_some_iff.mp H
            obtain ⟨⟨t1030, t1031, t1032⟩, A500, H⟩ := H
            replace H : (if t1030 = 0 then (if 0 ≤ t1027 then (if t1027 < (x1007000_3.length : Int) then (some ((x1007000_3.set (t1027 : Int).toNat t1027), x1007001_3, t1031, t1032)) else (none)) else (none)) else (if t1030 = 1 then (if 0 < (x1007001_3.length : Int) then (some (x1007000_3, (x1007001_3.set (0 : Int).toNat true), t1031, t1032)) else (none)) else (if 1 ≤ (x1007001_3.length : Int) then (some (x1007000_3, (x1007001_3.drop (1 : Int).toNat), t1031, t1032)) else (none)))) = some (r1, r2, r3, r4) := H
            have A50 := am A500
            clear A500
            by_cases c51 : t1030 = 0
            · rw [if_pos c51] at H
              have c51b0 : (t1030 == 0) = true := beq_iff_eq.mpr c51
              have c51b1 : (t1030 != 0) = false := bne_eq_false_iff_eq.mpr c51
              clear c51
              by_cases c52 : 0 ≤ t1027
              · rw [if_pos c52] at H
                have c52b0 : decide (0 ≤ t1027) = true := decide_eq_true c52
                clear c52
                by_cases c53 : t1027 < (x1007000_3.length : Int)
                · rw [if_pos c53] at H
                  have c53b0 : decide (t1027 < (x1007000_3.length : Int)) = true := decide_eq_true c53
                  clear c53
                  obtain ⟨y1033, hy1033⟩ : ∃ y_ : List Int, y_ = (x1007000_3.set (t1027 : Int).toNat t1027) := ⟨_, rfl⟩
                  replace H : (some (y1033, x1007001_3, t1031, t1032)) = some (r1, r2, r3, r4) := by first | (rw [hy1033]; with_reducible exact H) | (have H2_ := (Option.bind_some _ _).symm.trans H; rw [hy1033]; with_reducible exact H2_) | (have H2_ := (Option.bind_some _ _).symm.trans H; with_reducible exact H2_) | with_reducible exact H | (rw [hy1033]; exact H) | exact H
                  have Ny1033 := am hy1033
                  clear hy1033
                  simp only [Option.some.injEq, Prod.mk.injEq] at H
                  obtain ⟨rfl, rfl, rfl, rfl⟩ := H
                  have hnb55 := NB1006_997.out
                  have hnc55 := NB997_1006.out
                  have hnb56 := NB1006_0.out
                  have hnc56 := NB0_1006.out
                  have hcz57_0 : wc.cell? ⟨gb1006, 0, none⟩ = some (u1007000) := (blk_cell BK1006.out 0).trans rfl
                  have hcz57_1 : wc.cell? ⟨gb1006, 1, none⟩ = some (u1007001) := (blk_cell BK1006.out 1).trans rfl
                  have hfz57_0 := blk_frozen BK1006.out 0
                  have hfz57_1 := blk_frozen BK1006.out 1
                  obtain ⟨Ao58, co58, eo58, _⟩ := Kd.Q_slice HO_1007001.out
                  subst eo58
                  go_wp2_with (first | ((with_reducible refine gate_callee (f := 77) rfl ?_); refine goesL_ (some 37) rfl rfl Try.func77 (by kernel_rfl) rfl #[.pointer (some ⟨g, 0, none⟩), .int .i64 (x1007001_3.length : Int)] rfl mpx ?_; (with_reducible refine (spec_l1Below.calls g s0_0 x1001_38 x1002_38 (x1007001_3.length : Int) t1027 t1028 t1029 w0 _ ?side1 ?side2 A49.out).mono ?_); (case side1 => repeat (first | (with_reducible first | exact HI0.out | apply IsS70.alloc | apply IsS70.drewN | apply IsS70.drew | apply IsS70.set_1 | apply IsS70.set_2 | refine IsS70.far ?_ NB0_997.out _ | refine IsS70.far ?_ NB0_1006.out _) | exact HI0.out)); (case side2 => repeat (first | (with_reducible first | exact HB.out | apply below_alloc | apply pw_below_drewN | apply below_drew1 | refine below_set ?_ (IsS70.ge HI0.out) | refine below_set ?_ GE997.out | refine below_set ?_ GE1006.out) | exact HB.out)); rintro e w59 ⟨rfl, hi, hb, hk⟩; refine ⟨_, rfl, ?_⟩; have n0_ := am (Kd.R_mono (Kd.R_keep (IsS70.apart (show IsS70 w0 _ g s0_0 x1001_38 x1002_38 from IsS70.pk HI0.out) (pkR HO_1007000.out) (by decide)) hk (fun _ h => h.2)) (fun _ h => h.1)); have n1_ := am (Kd.Q_mono (Kd.Q_keep (IsS70.apartQ (show IsS70 w0 _ g s0_0 x1001_38 x1002_38 from IsS70.pk HI0.out) (pkQ HO_1007001.out) (by decide)) hk (fun _ h => h.2)) (fun _ h => h.1)); have n2_ := am (KeepBut.blk hk (g' := gb997) (o := .cells #[.slice none 0 0, .slice none 0 0] 33 (0, 0)) (pkK BK997.out) NB997_0.out (by simp)); have n3_ := am (KeepBut.blk hk (g' := gb1006) (o := .cells #[u1007000, .slice Ao58 x1007001_3.length co58] 33 (0, 0)) (pkK BK1006.out) NB1006_0.out (by simp)); have n4_ := am (KeepBut.trans (pkH HK.out) hk (.inl rfl)); have n5_ := am (hb); have n6_ := am (hi); clear HO_1007000 HO_1007001 BK997 BK1006 HK HB HI0; have HO_1007000 := n0_; have HO_1007001 := n1_; have BK997 := n2_; have BK1006 := n3_; have HK := n4_; have HB := n5_; have HI0 := n6_; clear n0_ n1_ n2_ n3_ n4_ n5_ n6_; (try clear hb); (try clear hb2); (try clear hk); (try clear hi)) | ((with_reducible refine gate_callee (f := 77) rfl ?_); refine goesL_ (some 39) rfl rfl Try.func77 (by kernel_rfl) rfl #[.pointer (some ⟨g, 0, none⟩), .int .i64 3] rfl mpx ?_; (with_reducible refine (spec_l1Below.calls g s0_0 t1028 t1029 3 t1030 t1031 t1032 w0 _ ?side1 ?side2 A50.out).mono ?_); (case side1 => repeat (first | (with_reducible first | exact HI0.out | apply IsS70.alloc | apply IsS70.drewN | apply IsS70.drew | apply IsS70.set_1 | apply IsS70.set_2 | refine IsS70.far ?_ NB0_997.out _ | refine IsS70.far ?_ NB0_1006.out _) | exact HI0.out)); (case side2 => repeat (first | (with_reducible first | exact HB.out | apply below_alloc | apply pw_below_drewN | apply below_drew1 | refine below_set ?_ (IsS70.ge HI0.out) | refine below_set ?_ GE997.out | refine below_set ?_ GE1006.out) | exact HB.out)); rintro e w60 ⟨rfl, hi, hb, hk⟩; refine ⟨_, rfl, ?_⟩; have n0_ := am (Kd.R_mono (Kd.R_keep (IsS70.apart (show IsS70 w0 _ g s0_0 t1028 t1029 from IsS70.pk HI0.out) (pkR HO_1007000.out) (by decide)) hk (fun _ h => h.2)) (fun _ h => h.1)); have n1_ := am (Kd.Q_mono (Kd.Q_keep (IsS70.apartQ (show IsS70 w0 _ g s0_0 t1028 t1029 from IsS70.pk HI0.out) (pkQ HO_1007001.out) (by decide)) hk (fun _ h => h.2)) (fun _ h => h.1)); have n2_ := am (KeepBut.blk hk (g' := gb997) (o := .cells #[.slice none 0 0, .slice none 0 0] 33 (0, 0)) (pkK BK997.out) NB997_0.out (by simp)); have n3_ := am (KeepBut.blk hk (g' := gb1006) (o := .cells #[u1007000, .slice Ao58 x1007001_3.length co58] 33 (0, 0)) (pkK BK1006.out) NB1006_0.out (by simp)); have n4_ := am (KeepBut.trans (pkH HK.out) hk (.inl rfl)); have n5_ := am (hb); have n6_ := am (hi); clear HO_1007000 HO_1007001 BK997 BK1006 HK HB HI0; have HO_1007000 := n0_; have HO_1007001 := n1_; have BK997 := n2_; have BK1006 := n3_; have HK := n4_; have HB := n5_; have HI0 := n6_; clear n0_ n1_ n2_ n3_ n4_ n5_ n6_; (try clear hb); (try clear hb2); (try clear hk); (try clear hi); have hcz61_0 : w60.cell? ⟨gb1006, 0, none⟩ = some (u1007000) := (blk_cell BK1006.out 0).trans rfl; have hcz61_1 : w60.cell? ⟨gb1006, 1, none⟩ = some (.slice Ao58 x1007001_3.length co58) := (blk_cell BK1006.out 1).trans rfl; have hfz61_0 := blk_frozen BK1006.out 0; have hfz61_1 := blk_frozen BK1006.out 1; have p54 : 0 ≤ (t1027 : Int) := ofd; have q54 : (t1027 : Int) < ((x1007000_3.length : Int) : Int) := ofd; obtain ⟨go54, co54, eo54, gb54, gl54, cl54, HG54⟩ := Kd.R_form HO_1007000.out (by omega); (first | cases eo54 | (injection eo54 with ea_ en_ ec_; (first | subst ea_ | (injection ea_ with ea_; subst ea_)); subst ec_; clear en_)); have GB54 := am gb54; have GG54 := am HG54; clear gb54 gl54 HG54; obtain ⟨hx54_0, hf54_0⟩ := Kd.R_celln 0 HO_1007000.out (t1027 : Int) p54 q54; replace p54 := eq_true p54; replace q54 := eq_true q54; obtain ⟨hy62_, hz62_⟩ := Kd.R_celln 0 HO_1007000.out (t1027 : Int) (ofd) (ofd); have HP62 := Kd.R_putg HO_1007000.out (t1027 : Int) t1027) | ((with_reducible refine gate_store (t := 3) (p := 50) rfl ?_); refine store_event (t := 3) (p := 50) (v := ?vo_w63) (w1 := (w60.setCell ⟨go54, (t1027 : Int).toNat, none⟩ (.int .i64 t1027))) ?hg ?ho ?hn ?hr ?_; (case ho => rfl); (case hg => rfl); (case hn => rfl); (case hr => first | (go_simp; done) | (go_simp; rfl)); intro w63 hw; have hg : w60.grownBy w63 (some go54) := (by rw [hw]; exact HP62.2); have hp_ : Kd.R (Kd.int .i64) 3 w63 w.heap.size (fun _ => True) (.slice (some ⟨go54, 0, none⟩) x1007000_3.length co54) y1033 := (by rw [hw, Ny1033.out]; exact HP62.1); clear HP62; have n0_ := am (hp_); have n1_ := am (Kd.Q_over' (v := (.slice (some ⟨go54, 0, none⟩) x1007000_3.length co54)) (pkQ HO_1007001.out) (Kd.R_typed HO_1007000.out) (by decide) hg); have n2_ := am (blk_grown (g := gb997) (o := .cells #[.slice none 0 0, .slice none 0 0] 33 (0, 0)) (pkK BK997.out) hg (Kd.R_ne HO_1007000.out BK997.out (by decide))); have n3_ := am (blk_grown (g := gb1006) (o := .cells #[.slice (some ⟨go54, 0, none⟩) x1007000_3.length co54, .slice Ao58 x1007001_3.length co58] 33 (0, 0)) (pkK BK1006.out) hg (Kd.R_ne HO_1007000.out BK1006.out (by decide))); have n4_ := am (IsS70.grown (by first | exact HI0.out | exact IsS70.far HI0.out NB0_997.out _ | exact IsS70.far HI0.out NB0_1006.out _ | exact IsS70.far (IsS70.far HI0.out NB0_997.out _) NB0_997.out _ | exact IsS70.far (IsS70.far HI0.out NB0_997.out _) NB0_1006.out _ | exact IsS70.far (IsS70.far HI0.out NB0_1006.out _) NB0_997.out _ | exact IsS70.far (IsS70.far HI0.out NB0_1006.out _) NB0_1006.out _ | (repeat (first | (with_reducible first | exact HI0.out | apply IsS70.alloc | apply IsS70.drewN | apply IsS70.drew | apply IsS70.set_1 | apply IsS70.set_2 | refine IsS70.far ?_ NB0_997.out _ | refine IsS70.far ?_ NB0_1006.out _) | exact HI0.out); done)) hg (IsS70.own_ne HI0.out HO_1007000.out (by decide))); have n5_ := am ((by rw [hw]; exact below_set (HB.out) (Nat.le_trans HL.out GB54.out) : Below w0.heap.size w0 w63)); have n6_ := am (KeepBut.trans (pkH HK.out) (KeepBut.of_grown hg g) (Kd.R_base2 HO_1007000.out)); clear HO_1007000 HO_1007001 BK997 BK1006 HI0 HB HK; have HO_1007000 := n0_; have HO_1007001 := n1_; have BK997 := n2_; have BK1006 := n3_; have HI0 := n4_; have HB := n5_; have HK := n6_; clear n0_ n1_ n2_ n3_ n4_ n5_ n6_; clear hg hw hp_; have hcz64_0 : w63.cell? ⟨gb1006, 0, none⟩ = some (.slice (some ⟨go54, 0, none⟩) x1007000_3.length co54) := (blk_cell BK1006.out 0).trans rfl; have hcz64_1 : w63.cell? ⟨gb1006, 1, none⟩ = some (.slice Ao58 x1007001_3.length co58) := (blk_cell BK1006.out 1).trans rfl; have hfz64_0 := blk_frozen BK1006.out 0; have hfz64_1 := blk_frozen BK1006.out 1; have hnb65 := NB997_0.out; have hnc65 := NB0_997.out; have hcz66_0 : w63.cell? ⟨gb997, 0, none⟩ = some (.slice none 0 0) := (blk_cell BK997.out 0).trans rfl; have hcz66_1 : w63.cell? ⟨gb997, 1, none⟩ = some (.slice none 0 0) := (blk_cell BK997.out 1).trans rfl; have hfz66_0 := blk_frozen BK997.out 0; have hfz66_1 := blk_frozen BK997.out 1))
                  refine bodyPost_ret (results_cell_row rfl _ _ gb997 33 #[.slice (some ⟨go54, 0, none⟩) x1007000_3.length co54, .slice Ao58 x1007001_3.length co58] (0, 0) _ rfl (by (with_reducible repeat (first | refine blk_drewN ?_ _ | refine blk_drew ?_ | refine blk_alloc ?_ _)); refine blk_put (cs := #[.slice (some ⟨go54, 0, none⟩) x1007000_3.length co54, .slice none 0 0]) ?_ 1 _ rfl; (with_reducible repeat (first | refine blk_drewN ?_ _ | refine blk_drew ?_ | refine blk_alloc ?_ _)); refine blk_put (cs := #[.slice none 0 0, .slice none 0 0]) ?_ 0 _ rfl; exact pkK BK997.out) Try.underlying33 rfl (by kernel_rfl)) rfl ?_
                  exact ⟨_, _, rfe, by (with_reducible repeat (first | apply Kd.R_alloc | apply Kd.R_drewN | apply Kd.R_drew)); exact Kd.R_mono (Kd.R_far (p := ⟨gb997, 1, none⟩) (Kd.R_far (p := ⟨gb997, 0, none⟩) (Kd.R_types HO_1007000.out BK997.out (by decide)) (fun _ hk => hk.2) (.slice (some ⟨go54, 0, none⟩) x1007000_3.length co54)) (fun _ hk => hk.2) (.slice Ao58 x1007001_3.length co58)) (fun _ hk => trivial), by (with_reducible repeat (first | apply Kd.Q_alloc | apply Kd.Q_drewN | apply Kd.Q_drew)); exact Kd.Q_mono (Kd.Q_far (p := ⟨gb997, 1, none⟩) (Kd.Q_far (p := ⟨gb997, 0, none⟩) (Kd.Q_types HO_1007001.out BK997.out (by decide)) (fun _ hk => hk.2) (.slice (some ⟨go54, 0, none⟩) x1007000_3.length co54)) (fun _ hk => hk.2) (.slice Ao58 x1007001_3.length co58)) (fun _ hk => trivial), by repeat (first | (with_reducible first | exact HI0.out | apply IsS70.alloc | apply IsS70.drewN | apply IsS70.drew | apply IsS70.set_1 | apply IsS70.set_2 | refine IsS70.far ?_ NB0_997.out _ | refine IsS70.far ?_ NB0_1006.out _) | exact HI0.out), by repeat (first | (with_reducible first | exact HB.out | apply below_alloc | apply pw_below_drewN | apply below_drew1 | refine below_set ?_ (IsS70.ge HI0.out) | refine below_set ?_ GE997.out | refine below_set ?_ GE1006.out) | exact HB.out), pkH HK.out⟩
                · rw [if_neg c53] at H
                  exact absurd H (by simp)
              · rw [if_neg c52] at H
                exact absurd H (by simp)
            · rw [if_neg c51] at H
              have c51b0 : (t1030 == 0) = false := beq_eq_false_iff_ne.mpr c51
              have c51b1 : (t1030 != 0) = true := bne_iff_ne.mpr c51
              by_cases c67 : t1030 = 1
              · rw [if_pos c67] at H
                have c67b0 : (t1030 == 1) = true := beq_iff_eq.mpr c67
                have c67b1 : (t1030 != 1) = false := bne_eq_false_iff_eq.mpr c67
                clear c67
                by_cases c68 : 0 < (x1007001_3.length : Int)
                · rw [if_pos c68] at H
                  have c68b0 : decide (0 < (x1007001_3.length : Int)) = true := decide_eq_true c68
                  have c68b1 : decide (0 < x1007001_3.length) = true := decide_eq_true (by omega)
                  clear c68
                  obtain ⟨y1034, hy1034⟩ : ∃ y_ : List Bool, y_ = (x1007001_3.set (0 : Int).toNat true) := ⟨_, rfl⟩
                  replace H : (some (x1007000_3, y1034, t1031, t1032)) = some (r1, r2, r3, r4) := by first | (rw [hy1034]; with_reducible exact H) | (have H2_ := (Option.bind_some _ _).symm.trans H; rw [hy1034]; with_reducible exact H2_) | (have H2_ := (Option.bind_some _ _).symm.trans H; with_reducible exact H2_) | with_reducible exact H | (rw [hy1034]; exact H) | exact H
                  have Ny1034 := am hy1034
                  clear hy1034
                  simp only [Option.some.injEq, Prod.mk.injEq] at H
                  obtain ⟨rfl, rfl, rfl, rfl⟩ := H
                  have hnb70 := NB1006_997.out
                  have hnc70 := NB997_1006.out
                  have hnb71 := NB1006_0.out
                  have hnc71 := NB0_1006.out
                  have hcz72_0 : wc.cell? ⟨gb1006, 0, none⟩ = some (u1007000) := (blk_cell BK1006.out 0).trans rfl
                  have hcz72_1 : wc.cell? ⟨gb1006, 1, none⟩ = some (u1007001) := (blk_cell BK1006.out 1).trans rfl
                  have hfz72_0 := blk_frozen BK1006.out 0
                  have hfz72_1 := blk_frozen BK1006.out 1
                  obtain ⟨Ao73, co73, eo73, _⟩ := Kd.Q_slice HO_1007001.out
                  subst eo73
                  go_wp2_with (first | ((with_reducible refine gate_callee (f := 77) rfl ?_); refine goesL_ (some 37) rfl rfl Try.func77 (by kernel_rfl) rfl #[.pointer (some ⟨g, 0, none⟩), .int .i64 (x1007001_3.length : Int)] rfl mpx ?_; (with_reducible refine (spec_l1Below.calls g s0_0 x1001_38 x1002_38 (x1007001_3.length : Int) t1027 t1028 t1029 w0 _ ?side1 ?side2 A49.out).mono ?_); (case side1 => repeat (first | (with_reducible first | exact HI0.out | apply IsS70.alloc | apply IsS70.drewN | apply IsS70.drew | apply IsS70.set_1 | apply IsS70.set_2 | refine IsS70.far ?_ NB0_997.out _ | refine IsS70.far ?_ NB0_1006.out _) | exact HI0.out)); (case side2 => repeat (first | (with_reducible first | exact HB.out | apply below_alloc | apply pw_below_drewN | apply below_drew1 | refine below_set ?_ (IsS70.ge HI0.out) | refine below_set ?_ GE997.out | refine below_set ?_ GE1006.out) | exact HB.out)); rintro e w74 ⟨rfl, hi, hb, hk⟩; refine ⟨_, rfl, ?_⟩; have n0_ := am (Kd.R_mono (Kd.R_keep (IsS70.apart (show IsS70 w0 _ g s0_0 x1001_38 x1002_38 from IsS70.pk HI0.out) (pkR HO_1007000.out) (by decide)) hk (fun _ h => h.2)) (fun _ h => h.1)); have n1_ := am (Kd.Q_mono (Kd.Q_keep (IsS70.apartQ (show IsS70 w0 _ g s0_0 x1001_38 x1002_38 from IsS70.pk HI0.out) (pkQ HO_1007001.out) (by decide)) hk (fun _ h => h.2)) (fun _ h => h.1)); have n2_ := am (KeepBut.blk hk (g' := gb997) (o := .cells #[.slice none 0 0, .slice none 0 0] 33 (0, 0)) (pkK BK997.out) NB997_0.out (by simp)); have n3_ := am (KeepBut.blk hk (g' := gb1006) (o := .cells #[u1007000, .slice Ao73 x1007001_3.length co73] 33 (0, 0)) (pkK BK1006.out) NB1006_0.out (by simp)); have n4_ := am (KeepBut.trans (pkH HK.out) hk (.inl rfl)); have n5_ := am (hb); have n6_ := am (hi); clear HO_1007000 HO_1007001 BK997 BK1006 HK HB HI0; have HO_1007000 := n0_; have HO_1007001 := n1_; have BK997 := n2_; have BK1006 := n3_; have HK := n4_; have HB := n5_; have HI0 := n6_; clear n0_ n1_ n2_ n3_ n4_ n5_ n6_; (try clear hb); (try clear hb2); (try clear hk); (try clear hi)) | ((with_reducible refine gate_callee (f := 77) rfl ?_); refine goesL_ (some 39) rfl rfl Try.func77 (by kernel_rfl) rfl #[.pointer (some ⟨g, 0, none⟩), .int .i64 3] rfl mpx ?_; (with_reducible refine (spec_l1Below.calls g s0_0 t1028 t1029 3 t1030 t1031 t1032 w0 _ ?side1 ?side2 A50.out).mono ?_); (case side1 => repeat (first | (with_reducible first | exact HI0.out | apply IsS70.alloc | apply IsS70.drewN | apply IsS70.drew | apply IsS70.set_1 | apply IsS70.set_2 | refine IsS70.far ?_ NB0_997.out _ | refine IsS70.far ?_ NB0_1006.out _) | exact HI0.out)); (case side2 => repeat (first | (with_reducible first | exact HB.out | apply below_alloc | apply pw_below_drewN | apply below_drew1 | refine below_set ?_ (IsS70.ge HI0.out) | refine below_set ?_ GE997.out | refine below_set ?_ GE1006.out) | exact HB.out)); rintro e w75 ⟨rfl, hi, hb, hk⟩; refine ⟨_, rfl, ?_⟩; have n0_ := am (Kd.R_mono (Kd.R_keep (IsS70.apart (show IsS70 w0 _ g s0_0 t1028 t1029 from IsS70.pk HI0.out) (pkR HO_1007000.out) (by decide)) hk (fun _ h => h.2)) (fun _ h => h.1)); have n1_ := am (Kd.Q_mono (Kd.Q_keep (IsS70.apartQ (show IsS70 w0 _ g s0_0 t1028 t1029 from IsS70.pk HI0.out) (pkQ HO_1007001.out) (by decide)) hk (fun _ h => h.2)) (fun _ h => h.1)); have n2_ := am (KeepBut.blk hk (g' := gb997) (o := .cells #[.slice none 0 0, .slice none 0 0] 33 (0, 0)) (pkK BK997.out) NB997_0.out (by simp)); have n3_ := am (KeepBut.blk hk (g' := gb1006) (o := .cells #[u1007000, .slice Ao73 x1007001_3.length co73] 33 (0, 0)) (pkK BK1006.out) NB1006_0.out (by simp)); have n4_ := am (KeepBut.trans (pkH HK.out) hk (.inl rfl)); have n5_ := am (hb); have n6_ := am (hi); clear HO_1007000 HO_1007001 BK997 BK1006 HK HB HI0; have HO_1007000 := n0_; have HO_1007001 := n1_; have BK997 := n2_; have BK1006 := n3_; have HK := n4_; have HB := n5_; have HI0 := n6_; clear n0_ n1_ n2_ n3_ n4_ n5_ n6_; (try clear hb); (try clear hb2); (try clear hk); (try clear hi); have hcz76_0 : w75.cell? ⟨gb1006, 0, none⟩ = some (u1007000) := (blk_cell BK1006.out 0).trans rfl; have hcz76_1 : w75.cell? ⟨gb1006, 1, none⟩ = some (.slice Ao73 x1007001_3.length co73) := (blk_cell BK1006.out 1).trans rfl; have hfz76_0 := blk_frozen BK1006.out 0; have hfz76_1 := blk_frozen BK1006.out 1; have p69 : 0 ≤ (0 : Int) := (by omega); have q69 : (0 : Int) < ((x1007001_3.length : Int) : Int) := ofd; have qi69 : (0 < x1007001_3.length) = True := eq_true (by omega); obtain ⟨go69, oo69, co69, eo69, gb69, gl69, cl69, HG69⟩ := Kd.Q_form HO_1007001.out (by omega); (first | cases eo69 | (injection eo69 with ea_ en_ ec_; (first | subst ea_ | (injection ea_ with ea_; subst ea_)); subst ec_; clear en_)); have GB69 := am gb69; have GG69 := am HG69; clear gb69 gl69 HG69; obtain ⟨hx69_0, hf69_0⟩ := Kd.Q_cell false HO_1007001.out (0 : Int) p69 q69; (try rw [show ((0 : Int)).toNat = 0 from rfl] at hx69_0); (try simp only [Nat.reduceMul, Nat.zero_mul, Nat.zero_add, Nat.add_zero, Nat.reduceAdd] at hx69_0); (try rw [show ((0 : Int)).toNat = 0 from rfl] at hf69_0); (try simp only [Nat.reduceMul, Nat.zero_mul, Nat.zero_add, Nat.add_zero, Nat.reduceAdd] at hf69_0); replace p69 := eq_true p69; replace q69 := eq_true q69; obtain ⟨hy77_, hz77_⟩ := Kd.Q_cell false HO_1007001.out (0 : Int) (by omega) (ofd); (try simp only [Int.reduceToNat, Int.toNat_zero, Int.toNat_ofNat, Nat.reduceMul, Nat.zero_mul, Nat.zero_add] at hy77_ hz77_); (try rw [show ((0 : Int)).toNat = 0 from rfl] at hy77_); (try rw [show ((0 : Int)).toNat = 0 from rfl] at hz77_); have HP77 := Kd.Q_putg HO_1007001.out (0 : Int) (by omega) (by have h_ : (0 : Int) < ((x1007001_3.length : Int) : Int) := ofd; first | exact h_ | (have e_ := (Kd.Q_reads' HO_1007001.out).1; omega) | simpa using h_) true) | ((with_reducible refine gate_store (t := 4) (p := 55) rfl ?_); refine store_event (t := 4) (p := 55) (v := ?vo_w78) (w1 := (w75.setCell ⟨go69, oo69 + (0 : Int).toNat, none⟩ (.bool true))) ?hg ?ho ?hn ?hr ?_; (case ho => rfl); (case hg => rfl); (case hn => rfl); (case hr => first | (go_simp; done) | (go_simp; rfl)); intro w78 hw; have hg : w75.grownBy w78 (some go69) := (by rw [hw]; exact HP77.2); have hp_ : Kd.Q Kd.bool 4 w78 w.heap.size (fun _ => True) (.slice (some ⟨go69, oo69, none⟩) x1007001_3.length co73) y1034 := (by rw [hw, Ny1034.out]; exact HP77.1); clear HP77; have n0_ := am (Kd.R_over' (v := (.slice (some ⟨go69, oo69, none⟩) x1007001_3.length co73)) (pkR HO_1007000.out) (Kd.Q_typed HO_1007001.out) (by decide) hg); have n1_ := am (hp_); have n2_ := am (blk_grown (g := gb997) (o := .cells #[.slice none 0 0, .slice none 0 0] 33 (0, 0)) (pkK BK997.out) hg (Kd.Q_ne HO_1007001.out BK997.out (by decide))); have n3_ := am (blk_grown (g := gb1006) (o := .cells #[u1007000, .slice (some ⟨go69, oo69, none⟩) x1007001_3.length co73] 33 (0, 0)) (pkK BK1006.out) hg (Kd.Q_ne HO_1007001.out BK1006.out (by decide))); have n4_ := am (IsS70.grown (by first | exact HI0.out | exact IsS70.far HI0.out NB0_997.out _ | exact IsS70.far HI0.out NB0_1006.out _ | exact IsS70.far (IsS70.far HI0.out NB0_997.out _) NB0_997.out _ | exact IsS70.far (IsS70.far HI0.out NB0_997.out _) NB0_1006.out _ | exact IsS70.far (IsS70.far HI0.out NB0_1006.out _) NB0_997.out _ | exact IsS70.far (IsS70.far HI0.out NB0_1006.out _) NB0_1006.out _ | (repeat (first | (with_reducible first | exact HI0.out | apply IsS70.alloc | apply IsS70.drewN | apply IsS70.drew | apply IsS70.set_1 | apply IsS70.set_2 | refine IsS70.far ?_ NB0_997.out _ | refine IsS70.far ?_ NB0_1006.out _) | exact HI0.out); done)) hg (IsS70.own_neQ HI0.out HO_1007001.out (by decide))); have n5_ := am ((by rw [hw]; exact below_set (HB.out) (Nat.le_trans HL.out GB69.out) : Below w0.heap.size w0 w78)); have n6_ := am (KeepBut.trans (pkH HK.out) (KeepBut.of_grown hg g) (Kd.Q_base2 HO_1007001.out)); clear HO_1007000 HO_1007001 BK997 BK1006 HI0 HB HK; have HO_1007000 := n0_; have HO_1007001 := n1_; have BK997 := n2_; have BK1006 := n3_; have HI0 := n4_; have HB := n5_; have HK := n6_; clear n0_ n1_ n2_ n3_ n4_ n5_ n6_; clear hg hw hp_; have hcz79_0 : w78.cell? ⟨gb1006, 0, none⟩ = some (u1007000) := (blk_cell BK1006.out 0).trans rfl; have hcz79_1 : w78.cell? ⟨gb1006, 1, none⟩ = some (.slice (some ⟨go69, oo69, none⟩) x1007001_3.length co73) := (blk_cell BK1006.out 1).trans rfl; have hfz79_0 := blk_frozen BK1006.out 0; have hfz79_1 := blk_frozen BK1006.out 1; obtain ⟨Ao80, co80, eo80⟩ := Kd.R_slice HO_1007000.out; subst eo80; have hnb81 := NB997_0.out; have hnc81 := NB0_997.out; have hcz82_0 : w78.cell? ⟨gb997, 0, none⟩ = some (.slice none 0 0) := (blk_cell BK997.out 0).trans rfl; have hcz82_1 : w78.cell? ⟨gb997, 1, none⟩ = some (.slice none 0 0) := (blk_cell BK997.out 1).trans rfl; have hfz82_0 := blk_frozen BK997.out 0; have hfz82_1 := blk_frozen BK997.out 1))
                  refine bodyPost_ret (results_cell_row rfl _ _ gb997 33 #[.slice Ao80 x1007000_3.length co80, .slice (some ⟨go69, oo69, none⟩) x1007001_3.length co73] (0, 0) _ rfl (by (with_reducible repeat (first | refine blk_drewN ?_ _ | refine blk_drew ?_ | refine blk_alloc ?_ _)); refine blk_put (cs := #[.slice Ao80 x1007000_3.length co80, .slice none 0 0]) ?_ 1 _ rfl; (with_reducible repeat (first | refine blk_drewN ?_ _ | refine blk_drew ?_ | refine blk_alloc ?_ _)); refine blk_put (cs := #[.slice none 0 0, .slice none 0 0]) ?_ 0 _ rfl; exact pkK BK997.out) Try.underlying33 rfl (by kernel_rfl)) rfl ?_
                  exact ⟨_, _, rfe, by (with_reducible repeat (first | apply Kd.R_alloc | apply Kd.R_drewN | apply Kd.R_drew)); exact Kd.R_mono (Kd.R_far (p := ⟨gb997, 1, none⟩) (Kd.R_far (p := ⟨gb997, 0, none⟩) (Kd.R_types HO_1007000.out BK997.out (by decide)) (fun _ hk => hk.2) (.slice Ao80 x1007000_3.length co80)) (fun _ hk => hk.2) (.slice (some ⟨go69, oo69, none⟩) x1007001_3.length co73)) (fun _ hk => trivial), by (with_reducible repeat (first | apply Kd.Q_alloc | apply Kd.Q_drewN | apply Kd.Q_drew)); exact Kd.Q_mono (Kd.Q_far (p := ⟨gb997, 1, none⟩) (Kd.Q_far (p := ⟨gb997, 0, none⟩) (Kd.Q_types HO_1007001.out BK997.out (by decide)) (fun _ hk => hk.2) (.slice Ao80 x1007000_3.length co80)) (fun _ hk => hk.2) (.slice (some ⟨go69, oo69, none⟩) x1007001_3.length co73)) (fun _ hk => trivial), by repeat (first | (with_reducible first | exact HI0.out | apply IsS70.alloc | apply IsS70.drewN | apply IsS70.drew | apply IsS70.set_1 | apply IsS70.set_2 | refine IsS70.far ?_ NB0_997.out _ | refine IsS70.far ?_ NB0_1006.out _) | exact HI0.out), by repeat (first | (with_reducible first | exact HB.out | apply below_alloc | apply pw_below_drewN | apply below_drew1 | refine below_set ?_ (IsS70.ge HI0.out) | refine below_set ?_ GE997.out | refine below_set ?_ GE1006.out) | exact HB.out), pkH HK.out⟩
                · rw [if_neg c68] at H
                  exact absurd H (by simp)
              · rw [if_neg c67] at H
                have c67b0 : (t1030 == 1) = false := beq_eq_false_iff_ne.mpr c67
                have c67b1 : (t1030 != 1) = true := bne_iff_ne.mpr c67
                by_cases c83 : 1 ≤ (x1007001_3.length : Int)
                · rw [if_pos c83] at H
                  have c83b0 := eq_true c83
                  have c83b1 : decide (1 ≤ (x1007001_3.length : Int)) = true := decide_eq_true c83
                  clear c83
                  obtain ⟨y1035, hy1035⟩ : ∃ y_ : List Bool, y_ = (x1007001_3.drop (1 : Int).toNat) := ⟨_, rfl⟩
                  replace H : (some (x1007000_3, y1035, t1031, t1032)) = some (r1, r2, r3, r4) := by first | (rw [hy1035]; with_reducible exact H) | (have H2_ := (Option.bind_some _ _).symm.trans H; rw [hy1035]; with_reducible exact H2_) | (have H2_ := (Option.bind_some _ _).symm.trans H; with_reducible exact H2_) | with_reducible exact H | (rw [hy1035]; exact H) | exact H
                  have Ny1035 := am hy1035
                  clear hy1035
                  simp only [Option.some.injEq, Prod.mk.injEq] at H
                  obtain ⟨rfl, rfl, rfl, rfl⟩ := H
                  have hnb84 := NB1006_997.out
                  have hnc84 := NB997_1006.out
                  have hnb85 := NB1006_0.out
                  have hnc85 := NB0_1006.out
                  have hcz86_0 : wc.cell? ⟨gb1006, 0, none⟩ = some (u1007000) := (blk_cell BK1006.out 0).trans rfl
                  have hcz86_1 : wc.cell? ⟨gb1006, 1, none⟩ = some (u1007001) := (blk_cell BK1006.out 1).trans rfl
                  have hfz86_0 := blk_frozen BK1006.out 0
                  have hfz86_1 := blk_frozen BK1006.out 1
                  obtain ⟨Ao87, co87, eo87, _⟩ := Kd.Q_slice HO_1007001.out
                  subst eo87
                  go_wp2_with (first | ((with_reducible refine gate_callee (f := 77) rfl ?_); refine goesL_ (some 37) rfl rfl Try.func77 (by kernel_rfl) rfl #[.pointer (some ⟨g, 0, none⟩), .int .i64 (x1007001_3.length : Int)] rfl mpx ?_; (with_reducible refine (spec_l1Below.calls g s0_0 x1001_38 x1002_38 (x1007001_3.length : Int) t1027 t1028 t1029 w0 _ ?side1 ?side2 A49.out).mono ?_); (case side1 => repeat (first | (with_reducible first | exact HI0.out | apply IsS70.alloc | apply IsS70.drewN | apply IsS70.drew | apply IsS70.set_1 | apply IsS70.set_2 | refine IsS70.far ?_ NB0_997.out _ | refine IsS70.far ?_ NB0_1006.out _) | exact HI0.out)); (case side2 => repeat (first | (with_reducible first | exact HB.out | apply below_alloc | apply pw_below_drewN | apply below_drew1 | refine below_set ?_ (IsS70.ge HI0.out) | refine below_set ?_ GE997.out | refine below_set ?_ GE1006.out) | exact HB.out)); rintro e w88 ⟨rfl, hi, hb, hk⟩; refine ⟨_, rfl, ?_⟩; have n0_ := am (Kd.R_mono (Kd.R_keep (IsS70.apart (show IsS70 w0 _ g s0_0 x1001_38 x1002_38 from IsS70.pk HI0.out) (pkR HO_1007000.out) (by decide)) hk (fun _ h => h.2)) (fun _ h => h.1)); have n1_ := am (Kd.Q_mono (Kd.Q_keep (IsS70.apartQ (show IsS70 w0 _ g s0_0 x1001_38 x1002_38 from IsS70.pk HI0.out) (pkQ HO_1007001.out) (by decide)) hk (fun _ h => h.2)) (fun _ h => h.1)); have n2_ := am (KeepBut.blk hk (g' := gb997) (o := .cells #[.slice none 0 0, .slice none 0 0] 33 (0, 0)) (pkK BK997.out) NB997_0.out (by simp)); have n3_ := am (KeepBut.blk hk (g' := gb1006) (o := .cells #[u1007000, .slice Ao87 x1007001_3.length co87] 33 (0, 0)) (pkK BK1006.out) NB1006_0.out (by simp)); have n4_ := am (KeepBut.trans (pkH HK.out) hk (.inl rfl)); have n5_ := am (hb); have n6_ := am (hi); clear HO_1007000 HO_1007001 BK997 BK1006 HK HB HI0; have HO_1007000 := n0_; have HO_1007001 := n1_; have BK997 := n2_; have BK1006 := n3_; have HK := n4_; have HB := n5_; have HI0 := n6_; clear n0_ n1_ n2_ n3_ n4_ n5_ n6_; (try clear hb); (try clear hb2); (try clear hk); (try clear hi)) | ((with_reducible refine gate_callee (f := 77) rfl ?_); refine goesL_ (some 39) rfl rfl Try.func77 (by kernel_rfl) rfl #[.pointer (some ⟨g, 0, none⟩), .int .i64 3] rfl mpx ?_; (with_reducible refine (spec_l1Below.calls g s0_0 t1028 t1029 3 t1030 t1031 t1032 w0 _ ?side1 ?side2 A50.out).mono ?_); (case side1 => repeat (first | (with_reducible first | exact HI0.out | apply IsS70.alloc | apply IsS70.drewN | apply IsS70.drew | apply IsS70.set_1 | apply IsS70.set_2 | refine IsS70.far ?_ NB0_997.out _ | refine IsS70.far ?_ NB0_1006.out _) | exact HI0.out)); (case side2 => repeat (first | (with_reducible first | exact HB.out | apply below_alloc | apply pw_below_drewN | apply below_drew1 | refine below_set ?_ (IsS70.ge HI0.out) | refine below_set ?_ GE997.out | refine below_set ?_ GE1006.out) | exact HB.out)); rintro e w89 ⟨rfl, hi, hb, hk⟩; refine ⟨_, rfl, ?_⟩; have n0_ := am (Kd.R_mono (Kd.R_keep (IsS70.apart (show IsS70 w0 _ g s0_0 t1028 t1029 from IsS70.pk HI0.out) (pkR HO_1007000.out) (by decide)) hk (fun _ h => h.2)) (fun _ h => h.1)); have n1_ := am (Kd.Q_mono (Kd.Q_keep (IsS70.apartQ (show IsS70 w0 _ g s0_0 t1028 t1029 from IsS70.pk HI0.out) (pkQ HO_1007001.out) (by decide)) hk (fun _ h => h.2)) (fun _ h => h.1)); have n2_ := am (KeepBut.blk hk (g' := gb997) (o := .cells #[.slice none 0 0, .slice none 0 0] 33 (0, 0)) (pkK BK997.out) NB997_0.out (by simp)); have n3_ := am (KeepBut.blk hk (g' := gb1006) (o := .cells #[u1007000, .slice Ao87 x1007001_3.length co87] 33 (0, 0)) (pkK BK1006.out) NB1006_0.out (by simp)); have n4_ := am (KeepBut.trans (pkH HK.out) hk (.inl rfl)); have n5_ := am (hb); have n6_ := am (hi); clear HO_1007000 HO_1007001 BK997 BK1006 HK HB HI0; have HO_1007000 := n0_; have HO_1007001 := n1_; have BK997 := n2_; have BK1006 := n3_; have HK := n4_; have HB := n5_; have HI0 := n6_; clear n0_ n1_ n2_ n3_ n4_ n5_ n6_; (try clear hb); (try clear hb2); (try clear hk); (try clear hi); have hcz90_0 : w89.cell? ⟨gb1006, 0, none⟩ = some (u1007000) := (blk_cell BK1006.out 0).trans rfl; have hcz90_1 : w89.cell? ⟨gb1006, 1, none⟩ = some (.slice Ao87 x1007001_3.length co87) := (blk_cell BK1006.out 1).trans rfl; have hfz90_0 := blk_frozen BK1006.out 0; have hfz90_1 := blk_frozen BK1006.out 1; have q91 : (1 : Int) ≤ ((x1007001_3.length : Int) : Int) := ofd; obtain ⟨i091, hi091, _, hsz91, _⟩ := info_parts info4; have hcut91 := cut_from (P := Try.prog) 28 4 .i64 Try.underlying28 hi091 1 hsz91 Ao87 x1007001_3.length co87 1 (by omega) q91; have hr91 := Kd.Q_drop (k := (1 : Int).toNat) HO_1007001.out (by omega); obtain ⟨A91, hA91⟩ : ∃ A1, A1 = (if co87 = (1 : Int).toNat then Ao87 else (Ao87 : Option Addr).map (·.add ((1 : Int).toNat * 1))) := ⟨_, rfl⟩; obtain ⟨c91, hc91⟩ : ∃ c1, c1 = co87 - (1 : Int).toNat := ⟨_, rfl⟩; have hy91 : y1035.length = x1007001_3.length - (1 : Int).toNat := (by rw [Ny1035.out, List.length_drop]); rw [← Ny1035.out] at hr91; rw [← hy91, ← hA91, ← hc91] at hcut91; replace hr91 : Kd.Q Kd.bool 4 w89 w.heap.size (fun _ => True) (.slice A91 y1035.length c91) y1035 := (by rw [hA91, hc91, hy91]; exact hr91); have HE91 : Aside0 ((Value.slice A91 y1035.length c91).ownBlock = (.slice Ao87 x1007001_3.length co87 : Value).ownBlock) := ⟨by rw [hA91]; split <;> (cases (Ao87 : Option Addr) <;> rfl)⟩; clear hy91 hi091 hsz91 HO_1007001 hA91 hc91; have HO1037 := am hr91; clear hr91; replace q91 := eq_true q91; obtain ⟨Ao92, co92, eo92⟩ := Kd.R_slice HO_1007000.out; subst eo92; have hnb93 := NB997_0.out; have hnc93 := NB0_997.out; have hcz94_0 : w89.cell? ⟨gb997, 0, none⟩ = some (.slice none 0 0) := (blk_cell BK997.out 0).trans rfl; have hcz94_1 : w89.cell? ⟨gb997, 1, none⟩ = some (.slice none 0 0) := (blk_cell BK997.out 1).trans rfl; have hfz94_0 := blk_frozen BK997.out 0; have hfz94_1 := blk_frozen BK997.out 1))
                  refine bodyPost_ret (results_cell_row rfl _ _ gb997 33 #[.slice Ao92 x1007000_3.length co92, .slice A91 y1035.length c91] (0, 0) _ rfl (by (with_reducible repeat (first | refine blk_drewN ?_ _ | refine blk_drew ?_ | refine blk_alloc ?_ _)); refine blk_put (cs := #[.slice Ao92 x1007000_3.length co92, .slice none 0 0]) ?_ 1 _ rfl; (with_reducible repeat (first | refine blk_drewN ?_ _ | refine blk_drew ?_ | refine blk_alloc ?_ _)); refine blk_put (cs := #[.slice none 0 0, .slice none 0 0]) ?_ 0 _ rfl; (with_reducible repeat (first | refine blk_drewN ?_ _ | refine blk_drew ?_ | refine blk_alloc ?_ _)); refine blk_far ?_ NB997_1006.out _; exact pkK BK997.out) Try.underlying33 rfl (by kernel_rfl)) rfl ?_
                  exact ⟨_, _, rfe, by (with_reducible repeat (first | apply Kd.R_alloc | apply Kd.R_drewN | apply Kd.R_drew)); exact Kd.R_mono (Kd.R_far (p := ⟨gb997, 1, none⟩) (Kd.R_far (p := ⟨gb997, 0, none⟩) (Kd.R_far (p := ⟨gb1006, 1, none⟩) (Kd.R_types (Kd.R_types HO_1007000.out BK1006.out (by decide)) BK997.out (by decide)) (fun _ hk => hk.1.2) (.slice A91 y1035.length c91)) (fun _ hk => hk.2) (.slice Ao92 x1007000_3.length co92)) (fun _ hk => hk.2) (.slice A91 y1035.length c91)) (fun _ hk => trivial), by (with_reducible repeat (first | apply Kd.Q_alloc | apply Kd.Q_drewN | apply Kd.Q_drew)); exact Kd.Q_mono (Kd.Q_far (p := ⟨gb997, 1, none⟩) (Kd.Q_far (p := ⟨gb997, 0, none⟩) (Kd.Q_far (p := ⟨gb1006, 1, none⟩) (Kd.Q_types (Kd.Q_types HO1037.out BK1006.out (by decide)) BK997.out (by decide)) (fun _ hk => hk.1.2) (.slice A91 y1035.length c91)) (fun _ hk => hk.2) (.slice Ao92 x1007000_3.length co92)) (fun _ hk => hk.2) (.slice A91 y1035.length c91)) (fun _ hk => trivial), by repeat (first | (with_reducible first | exact HI0.out | apply IsS70.alloc | apply IsS70.drewN | apply IsS70.drew | apply IsS70.set_1 | apply IsS70.set_2 | refine IsS70.far ?_ NB0_997.out _ | refine IsS70.far ?_ NB0_1006.out _) | exact HI0.out), by repeat (first | (with_reducible first | exact HB.out | apply below_alloc | apply pw_below_drewN | apply below_drew1 | refine below_set ?_ (IsS70.ge HI0.out) | refine below_set ?_ GE997.out | refine below_set ?_ GE1006.out) | exact HB.out), pkH HK.out⟩
                · rw [if_neg c83] at H
                  exact absurd H (by simp)
          · replace c48 := Bool.eq_false_iff.mpr c48
            subst c48
            replace H : (some (x1007000_3, x1007001_3, x1001_38, x1002_38)) = some (r1, r2, r3, r4) := by rw [if_neg (show ¬ (false = true) by decide)] at H; exact H
            simp only [Option.some.injEq, Prod.mk.injEq] at H
            obtain ⟨rfl, rfl, rfl, rfl⟩ := H
            have hnb95 := NB1006_997.out
            have hnc95 := NB997_1006.out
            have hnb96 := NB1006_0.out
            have hnc96 := NB0_1006.out
            have hcz97_0 : wc.cell? ⟨gb1006, 0, none⟩ = some (u1007000) := (blk_cell BK1006.out 0).trans rfl
            have hcz97_1 : wc.cell? ⟨gb1006, 1, none⟩ = some (u1007001) := (blk_cell BK1006.out 1).trans rfl
            have hfz97_0 := blk_frozen BK1006.out 0
            have hfz97_1 := blk_frozen BK1006.out 1
            obtain ⟨Ao98, co98, eo98⟩ := Kd.R_slice HO_1007000.out
            subst eo98
            have hnb99 := NB997_0.out
            have hnc99 := NB0_997.out
            have hcz100_0 : wc.cell? ⟨gb997, 0, none⟩ = some (.slice none 0 0) := (blk_cell BK997.out 0).trans rfl
            have hcz100_1 : wc.cell? ⟨gb997, 1, none⟩ = some (.slice none 0 0) := (blk_cell BK997.out 1).trans rfl
            have hfz100_0 := blk_frozen BK997.out 0
            have hfz100_1 := blk_frozen BK997.out 1
            obtain ⟨Ao101, co101, eo101, _⟩ := Kd.Q_slice HO_1007001.out
            subst eo101
            go_wp2
            refine bodyPost_ret (results_cell_row rfl _ _ gb997 33 #[.slice Ao98 x1007000_3.length co98, .slice Ao101 x1007001_3.length co101] (0, 0) _ rfl (by (with_reducible repeat (first | refine blk_drewN ?_ _ | refine blk_drew ?_ | refine blk_alloc ?_ _)); refine blk_put (cs := #[.slice Ao98 x1007000_3.length co98, .slice none 0 0]) ?_ 1 _ rfl; (with_reducible repeat (first | refine blk_drewN ?_ _ | refine blk_drew ?_ | refine blk_alloc ?_ _)); refine blk_put (cs := #[.slice none 0 0, .slice none 0 0]) ?_ 0 _ rfl; exact pkK BK997.out) Try.underlying33 rfl (by kernel_rfl)) rfl ?_
            exact ⟨_, _, rfe, by (with_reducible repeat (first | apply Kd.R_alloc | apply Kd.R_drewN | apply Kd.R_drew)); exact Kd.R_mono (Kd.R_far (p := ⟨gb997, 1, none⟩) (Kd.R_far (p := ⟨gb997, 0, none⟩) (Kd.R_types HO_1007000.out BK997.out (by decide)) (fun _ hk => hk.2) (.slice Ao98 x1007000_3.length co98)) (fun _ hk => hk.2) (.slice Ao101 x1007001_3.length co101)) (fun _ hk => trivial), by (with_reducible repeat (first | apply Kd.Q_alloc | apply Kd.Q_drewN | apply Kd.Q_drew)); exact Kd.Q_mono (Kd.Q_far (p := ⟨gb997, 1, none⟩) (Kd.Q_far (p := ⟨gb997, 0, none⟩) (Kd.Q_types HO_1007001.out BK997.out (by decide)) (fun _ hk => hk.2) (.slice Ao98 x1007000_3.length co98)) (fun _ hk => hk.2) (.slice Ao101 x1007001_3.length co101)) (fun _ hk => trivial), by repeat (first | (with_reducible first | exact HI0.out | apply IsS70.alloc | apply IsS70.drewN | apply IsS70.drew | apply IsS70.set_1 | apply IsS70.set_2 | refine IsS70.far ?_ NB0_997.out _ | refine IsS70.far ?_ NB0_1006.out _) | exact HI0.out), by repeat (first | (with_reducible first | exact HB.out | apply below_alloc | apply pw_below_drewN | apply below_drew1 | refine below_set ?_ (IsS70.ge HI0.out) | refine below_set ?_ GE997.out | refine below_set ?_ GE1006.out) | exact HB.out), pkH HK.out⟩
end Go.Proofs.Ytghmhekjdjdleaa.Z
