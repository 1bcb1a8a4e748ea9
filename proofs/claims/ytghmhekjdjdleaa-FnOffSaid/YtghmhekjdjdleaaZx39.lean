/- The Go functions spec_Cancel as Lean functions, each with a proof that its code comes to just these answers; conditions: those of each theorem. -/
import Derived.Test.YtghmhekjdjdleaaZx0
import Derived.Test.YtghmhekjdjdleaaZx4
import Derived.Test.YtghmhekjdjdleaaZx9
import Derived.Test.YtghmhekjdjdleaaZx25
import Derived.Test.YtghmhekjdjdleaaZx28
namespace Go.Proofs.Ytghmhekjdjdleaa.Z
open Go.RowKit Go.Proofs.YtghmhekjdjdleaaW.PrintWords Go.Proofs.YtghmhekjdjdleaaW.PrintLast Go.Proofs.YtghmhekjdjdleaaW.PrintMore
attribute [local go_sem] max2_int min2_int max_two min_two max_three min_three max_four min_four   -- for this text's walks alone
set_option linter.unusedVariables false
set_option linter.unusedSimpArgs false
def spec_Cancel.l0 : Nat → List Int → List Int → Int → List Int → List Bool → Option (List Int × List Bool × List Int × Int)
  | 0, _, _, _, _, _ => none
  | k + 1, x8, x9, x10, x844000, x844001 => if x10 < (x9.length : Int) then (if 0 ≤ x10 then (if 0 ≤ (rd x9 x10) then (if (rd x9 x10) < (x844001.length : Int) then (if (rdOf false x844001 (rd x9 x10) = true) then (spec_Cancel.l0 k x8 x9 (wrap64 (x10 + 1)) x844000 x844001) else (if x8.length < 17592186044416 then (spec_Cancel.l0 k (x8 ++ [rd x9 x10]) x9 (wrap64 (x10 + 1)) x844000 (x844001.set ((rd x9 x10) : Int).toNat true)) else (none))) else (none)) else (none)) else (none)) else (some (x844000, x844001, x8, 0))
def spec_Cancel.f (k : Nat) (l0_0 : List Int) (l0_1 : List Bool) (a1 : Int) : Option (List Int × List Bool × List Int × Int) := (spec_l3Copy.f l0_0 l0_1).bind fun bt837 => ((spec_TokensOk.f k l0_0 l0_1).bind fun t844 => (if t844 = true then ((spec_l1In.f a1 0 (wrap64 ((l0_0.length : Int) - 1))).bind fun t845 => (if t845 = true then ((spec_Under.f k l0_0 l0_1 a1).bind fun t849 => (spec_Cancel.l0 k (([] : List Int)) t849 0 bt837.1 bt837.2)) else (some (bt837.1, bt837.2, ([] : List Int), 3)))) else (some (bt837.1, bt837.2, ([] : List Int), 1))))
theorem spec_Cancel.mono_l : ∀ k, (∀ y0 y1 y2 y3 y4, LeO (spec_Cancel.l0 k y0 y1 y2 y3 y4) (spec_Cancel.l0 (k + 1) y0 y1 y2 y3 y4))
  | 0 => fun _ _ _ _ _ r h => by simp [spec_Cancel.l0] at h
  | k + 1 => by
    have ih0 := spec_Cancel.mono_l k
    · intro y0 y1 y2 y3 y4
      unfold spec_Cancel.l0
      repeat' first
      | (with_reducible exact ih0 _ _ _ _ _)
      | (with_reducible exact spec_TokensOk.mono _ _ _)
      | (with_reducible exact spec_Under.mono _ _ _ _)
      | (with_reducible exact LeO.refl _)
      | (with_reducible exact LeO.none _)
      | (with_reducible refine LeO.ite ?_ ?_)
      | (with_reducible refine LeO.bind ?_ (fun _ => ?_))
theorem spec_Cancel.mono : ∀ a0 a1 a2 k, LeO (spec_Cancel.f k a0 a1 a2) (spec_Cancel.f (k + 1) a0 a1 a2) := by
  intro a0 a1 a2 k
  have ih0 := spec_Cancel.mono_l k
  unfold spec_Cancel.f
  repeat' first
      | (with_reducible exact ih0 _ _ _ _ _)
      | (with_reducible exact spec_TokensOk.mono _ _ _)
      | (with_reducible exact spec_Under.mono _ _ _ _)
      | (with_reducible exact LeO.refl _)
      | (with_reducible exact LeO.none _)
      | (with_reducible refine LeO.ite ?_ ?_)
      | (with_reducible refine LeO.bind ?_ (fun _ => ?_))
def spec_Cancel.T11 : Bool × List (List Nat × List Nat) := (true, [([], []), ([0], [0]), ([], []), ([], []), ([2, 3], [2, 3]), ([4], [4]), ([1, 5], [1, 5]), ([6], [6]), ([7], [7])])
def spec_Cancel.B11 : List Nat := [0, 1, 0, 0, 12, 28, 63, 127, 255]
theorem spec_Cancel.tab11 : rtab .any (opsOf Try.f46 11) = spec_Cancel.T11 := by kernel_rfl
theorem spec_Cancel.bits11 : waitsOk spec_Cancel.T11.2 spec_Cancel.B11 = true := by kernel_rfl
def spec_Cancel.T12 : Bool × List (List Nat × List Nat) := (true, [([], []), ([0], [0]), ([], []), ([], []), ([2, 3], [2, 3]), ([4], [4]), ([1, 5, 0, 1, 2, 3, 4, 5], [1, 5]), ([6, 0, 1, 2, 3, 4, 5], [6])])
def spec_Cancel.B12 : List Nat := [0, 1, 0, 0, 12, 28, 63, 127]
theorem spec_Cancel.tab12 : rtab .any (opsOf Try.f46 12) = spec_Cancel.T12 := by kernel_rfl
theorem spec_Cancel.bits12 : waitsOk spec_Cancel.T12.2 spec_Cancel.B12 = true := by kernel_rfl
set_option maxHeartbeats 8000000 in
set_option maxRecDepth 100000 in
theorem spec_Cancel.calls (k : Nat) (A0_0 : Option Addr) (c0_0 : Nat) (l0_0 : List Int) (A0_1 : Option Addr) (c0_1 : Nat) (l0_1 : List Bool) (a1 : Int) (r1 : List Int) (r2 : List Bool) (r3 : List Int) (r4 : Int) (w : World) (hr0_0 : Kd.C (Kd.int .i64) w A0_0 l0_0.length l0_0) (hc0_0 : l0_0.length ≤ c0_0) (hr0_1 : Kd.C Kd.bool w A0_1 l0_1.length l0_1) (hc0_1 : l0_1.length ≤ c0_1) (h : spec_Cancel.f k l0_0 l0_1 a1 = some (r1, r2, r3, r4)) :
    Calls Try.prog 46 #[.agg #[.slice A0_0 l0_0.length c0_0, .slice A0_1 l0_1.length c0_1], .int .i64 a1] w fun e w' => ∃ v0_ v1_ v2_ : Value, e = .returned (.tuple #[.agg #[v0_, v1_], v2_, .int .i64 r4]) ∧ Kd.R (Kd.int .i64) 3 w' w.heap.size (fun k_ => some k_ ≠ (v2_ : Value).ownBlock) v0_ r1 ∧ Kd.R Kd.bool 4 w' w.heap.size (fun _ => True) v1_ r2 ∧ Kd.R (Kd.int .i64) 3 w' w.heap.size (fun k_ => some k_ ≠ (v0_ : Value).ownBlock) v2_ r3 ∧ Below w.heap.size w w' := by
  have hu33 := Try.underlying33
  have HR0_0 := am hr0_0
  have HC0_0 := am hc0_0
  clear hr0_0 hc0_0
  have HR0_1 := am hr0_1
  have HC0_1 := am hc0_1
  clear hr0_1 hc0_1
  have HB := am (Below.refl w.heap.size w)
  have H : ((spec_l3Copy.f l0_0 l0_1).bind fun bt837 => ((spec_TokensOk.f k l0_0 l0_1).bind fun t844 => (if t844 = true then ((spec_l1In.f a1 0 (wrap64 ((l0_0.length : Int) - 1))).bind fun t845 => (if t845 = true then ((spec_Under.f k l0_0 l0_1 a1).bind fun t849 => (spec_Cancel.l0 k (([] : List Int)) t849 0 bt837.1 bt837.2)) else (some (bt837.1, bt837.2, ([] : List Int), 3)))) else (some (bt837.1, bt837.2, ([] : List Int), 1))))) = some (r1, r2, r3, r4) := h
  clear h
  replace H := Option.bind_eq_some_iff.mp H
  obtain ⟨⟨t837, t840⟩, A30, H⟩ := H
  replace H : ((spec_TokensOk.f k l0_0 l0_1).bind fun t844 => (if t844 = true then ((spec_l1In.f a1 0 (wrap64 ((l0_0.length : Int) - 1))).bind fun t845 => (if t845 = true then ((spec_Under.f k l0_0 l0_1 a1).bind fun t849 => (spec_Cancel.l0 k (([] : List Int)) t849 0 t837 t840)) else (some (t837, t840, ([] : List Int), 3)))) else (some (t837, t840, ([] : List Int), 1)))) = some (r1, r2, r3, r4) := H
  have A3 := am A30
  clear A30
  replace H := Option.bind_eq_some_iff.mp H
  obtain ⟨t844, A40, H⟩ := H
  replace H : (if t844 = true then ((spec_l1In.f a1 0 (wrap64 ((l0_0.length : Int) - 1))).bind fun t845 => (if t845 = true then ((spec_Under.f k l0_0 l0_1 a1).bind fun t849 => (spec_Cancel.l0 k (([] : List Int)) t849 0 t837 t840)) else (some (t837, t840, ([] : List Int), 3)))) else (some (t837, t840, ([] : List Int), 1))) = some (r1, r2, r3, r4) := H
  have A4 := am A40
  clear A40
  by_cases c5 : t844 = true
  · subst c5
    replace H : ((spec_l1In.f a1 0 (wrap64 ((l0_0.length : Int) - 1))).bind fun t845 => (if t845 = true then ((spec_Under.f k l0_0 l0_1 a1).bind fun t849 => (spec_Cancel.l0 k (([] : List Int)) t849 0 t837 t840)) else (some (t837, t840, ([] : List Int), 3)))) = some (r1, r2, r3, r4) := by rw [if_pos rfl] at H; exact H
    replace H := Option.bind_eq_some_iff.mp H
    obtain ⟨t845, A60, H⟩ := H
    replace H : (if t845 = true then ((spec_Under.f k l0_0 l0_1 a1).bind fun t849 => (spec_Cancel.l0 k (([] : List Int)) t849 0 t837 t840)) else (some (t837, t840, ([] : List Int), 3))) = some (r1, r2, r3, r4) := H
    have A6 := am A60
    clear A60
    by_cases c7 : t845 = true
    · subst c7
      replace H : ((spec_Under.f k l0_0 l0_1 a1).bind fun t849 => (spec_Cancel.l0 k (([] : List Int)) t849 0 t837 t840)) = some (r1, r2, r3, r4) := by rw [if_pos rfl] at H; exact H
      obtain ⟨y846, hy846⟩ : ∃ y_ : List Int, y_ = (([] : List Int)) := ⟨_, rfl⟩
      replace H : ((spec_Under.f k l0_0 l0_1 a1).bind fun t849 => (spec_Cancel.l0 k y846 t849 0 t837 t840)) = some (r1, r2, r3, r4) := by first | (rw [hy846]; with_reducible exact H) | (have H2_ := (Option.bind_some _ _).symm.trans H; rw [hy846]; with_reducible exact H2_) | (have H2_ := (Option.bind_some _ _).symm.trans H; with_reducible exact H2_) | with_reducible exact H | (rw [hy846]; exact H) | exact H
      have Ny846 := am hy846
      clear hy846
      replace H := Option.bind_eq_some_iff.mp H
      obtain ⟨t849, A80, H⟩ := H
      replace H : (spec_Cancel.l0 k y846 t849 0 t837 t840) = some (r1, r2, r3, r4) := H
      have A8 := am A80
      clear A80
      have H' := am H
      clear H
      go_enter Try.func46, Try.ntmps46
      go_wp2_with (first | ((with_reducible refine gate_dst (N := 2) rfl ?_); refine box_event ?hg (N := 2) ?hd (cs := #[.slice A0_0 l0_0.length c0_0, .slice A0_1 l0_1.length c0_1]) (t := 33) ?hr ?_; (case hd => rfl); (case hg => rfl); (case hr => first | (go_simp; done) | (go_simp; rfl)); intro gb835 hg w9 hbox hb; have n0_ := am (below_step (pkB HB.out) hb); have n1_ := am (hbox); have n2_ := am ((by rw [hg]; exact (below_size (pkB HB.out)) : w.heap.size ≤ gb835)); have n3_ := am ((by rw [hg]; exact (below_size (pkB HB.out)) : w.heap.size ≤ gb835)); clear HB; have HB := n0_; have BK835 := n1_; have GW835 := n2_; have GE835 := n3_; clear n0_ n1_ n2_ n3_; clear hb hbox hg) | ((with_reducible refine gate_dst (N := 4) rfl ?_); refine box_event ?hg (N := 4) ?hd (cs := #[.slice none 0 0, .slice none 0 0]) (t := 33) ?hr ?_; (case hd => rfl); (case hg => rfl); (case hr => first | (go_simp; done) | (go_simp; rfl)); intro gb836 hg w10 hbox hb; have n0_ := am (blk_below (pkK BK835.out) hb); have n1_ := am (below_step (pkW HB.out) hb); have n2_ := am (hbox); have n3_ := am ((by rw [hg]; exact (below_size (pkW HB.out)) : w.heap.size ≤ gb836)); have n4_ := am ((by rw [hg]; exact (below_size (pkW HB.out)) : w.heap.size ≤ gb836)); have n5_ := am ((by rw [hg]; exact Nat.ne_of_lt (blk_lt (g := gb835) (o := .cells #[.slice A0_0 l0_0.length c0_0, .slice A0_1 l0_1.length c0_1] 33 (0, 0)) (pkK BK835.out)) : gb835 ≠ gb836)); have n6_ := am ((by rw [hg]; exact Nat.ne_of_gt (blk_lt (g := gb835) (o := .cells #[.slice A0_0 l0_0.length c0_0, .slice A0_1 l0_1.length c0_1] 33 (0, 0)) (pkK BK835.out)) : gb836 ≠ gb835)); clear BK835 HB; have BK835 := n0_; have HB := n1_; have BK836 := n2_; have GW836 := n3_; have GE836 := n4_; have NB835_836 := n5_; have NB836_835 := n6_; clear n0_ n1_ n2_ n3_ n4_ n5_ n6_; clear hb hbox hg; have hnb11 := NB835_836.out; have hnc11 := NB836_835.out; have hcz12_0 : w10.cell? ⟨gb835, 0, none⟩ = some (.slice A0_0 l0_0.length c0_0) := (blk_cell BK835.out 0).trans rfl; have hcz12_1 : w10.cell? ⟨gb835, 1, none⟩ = some (.slice A0_1 l0_1.length c0_1) := (blk_cell BK835.out 1).trans rfl; have hfz12_0 := blk_frozen BK835.out 0; have hfz12_1 := blk_frozen BK835.out 1) | ((with_reducible refine gate_callee (f := 70) rfl ?_); refine goesL_ (some 12) rfl rfl Try.func70 (by kernel_rfl) rfl #[.agg #[.slice A0_0 l0_0.length c0_0, .slice A0_1 l0_1.length c0_1]] rfl mpx ?_; (with_reducible refine (spec_l3Copy.calls _ _ l0_0 _ _ l0_1 t837 t840 _ ?side1 ?side2 ?side3 ?side4 A3.out).mono ?_); (case side1 => exact pkC (Kd.C_below HR0_0.out HB.out)); (case side2 => exact HC0_0.out); (case side3 => exact pkC (Kd.C_below HR0_1.out HB.out)); (case side4 => exact HC0_1.out); rintro e w13 ⟨v838, v841, rfl, ho0, ho1, hb⟩; refine ⟨_, rfl, ?_⟩; have n0_ := am (Kd.R_lower ho0 (below_size (pkW HB.out))); have n1_ := am (Kd.R_lower ho1 (below_size (pkW HB.out))); have n2_ := am (blk_below (pkK BK835.out) hb); have n3_ := am (blk_below (pkK BK836.out) hb); have n4_ := am (below_step (pkW HB.out) hb); clear BK835 BK836 HB; have HO839 := n0_; have HO842 := n1_; have BK835 := n2_; have BK836 := n3_; have HB := n4_; clear n0_ n1_ n2_ n3_ n4_; (try clear hb); (try clear hb2); (try clear hk); (try clear hi); (try clear ho0); (try clear ho1)) | ((with_reducible refine gate_dst (N := 7) rfl ?_); refine box_event ?hg (N := 7) ?hd (cs := #[.slice none 0 0, .slice none 0 0]) (t := 33) ?hr ?_; (case hd => rfl); (case hg => rfl); (case hr => first | (go_simp; done) | (go_simp; rfl)); intro gb843 hg w14 hbox hb; have n0_ := am (Kd.R_below (pkR HO839.out) hb); have n1_ := am (Kd.R_below (pkR HO842.out) hb); have n2_ := am (blk_below (pkK BK835.out) hb); have n3_ := am (blk_below (pkK BK836.out) hb); have n4_ := am (below_step (pkW HB.out) hb); have n5_ := am (hbox); have n6_ := am ((by rw [hg]; exact (below_size (pkW HB.out)) : w.heap.size ≤ gb843)); have n7_ := am ((by rw [hg]; exact (below_size (pkW HB.out)) : w.heap.size ≤ gb843)); have n8_ := am ((by rw [hg]; exact Nat.ne_of_lt (blk_lt (g := gb835) (o := .cells #[.slice A0_0 l0_0.length c0_0, .slice A0_1 l0_1.length c0_1] 33 (0, 0)) (pkK BK835.out)) : gb835 ≠ gb843)); have n9_ := am ((by rw [hg]; exact Nat.ne_of_gt (blk_lt (g := gb835) (o := .cells #[.slice A0_0 l0_0.length c0_0, .slice A0_1 l0_1.length c0_1] 33 (0, 0)) (pkK BK835.out)) : gb843 ≠ gb835)); have n10_ := am ((by rw [hg]; exact Nat.ne_of_lt (blk_lt (g := gb836) (o := .cells #[.slice none 0 0, .slice none 0 0] 33 (0, 0)) (pkK BK836.out)) : gb836 ≠ gb843)); have n11_ := am ((by rw [hg]; exact Nat.ne_of_gt (blk_lt (g := gb836) (o := .cells #[.slice none 0 0, .slice none 0 0] 33 (0, 0)) (pkK BK836.out)) : gb843 ≠ gb836)); clear HO839 HO842 BK835 BK836 HB; have HO839 := n0_; have HO842 := n1_; have BK835 := n2_; have BK836 := n3_; have HB := n4_; have BK843 := n5_; have GW843 := n6_; have GE843 := n7_; have NB835_843 := n8_; have NB843_835 := n9_; have NB836_843 := n10_; have NB843_836 := n11_; clear n0_ n1_ n2_ n3_ n4_ n5_ n6_ n7_ n8_ n9_ n10_ n11_; clear hb hbox hg; obtain ⟨Ao15, co15, eo15⟩ := Kd.R_slice HO839.out; subst eo15; have hnb16 := NB843_835.out; have hnc16 := NB835_843.out; have hnb17 := NB843_836.out; have hnc17 := NB836_843.out; have hcz18_0 : w14.cell? ⟨gb843, 0, none⟩ = some (.slice none 0 0) := (blk_cell BK843.out 0).trans rfl; have hcz18_1 : w14.cell? ⟨gb843, 1, none⟩ = some (.slice none 0 0) := (blk_cell BK843.out 1).trans rfl; have hfz18_0 := blk_frozen BK843.out 0; have hfz18_1 := blk_frozen BK843.out 1; obtain ⟨Ao19, co19, eo19⟩ := Kd.R_slice HO842.out; subst eo19; have hcz20_0 : w14.cell? ⟨gb835, 0, none⟩ = some (.slice A0_0 l0_0.length c0_0) := (blk_cell BK835.out 0).trans rfl; have hcz20_1 : w14.cell? ⟨gb835, 1, none⟩ = some (.slice A0_1 l0_1.length c0_1) := (blk_cell BK835.out 1).trans rfl; have hfz20_0 := blk_frozen BK835.out 0; have hfz20_1 := blk_frozen BK835.out 1) | ((with_reducible refine gate_callee (f := 22) rfl ?_); refine goesL_ (some 15) rfl rfl Try.func22 (by kernel_rfl) rfl #[.agg #[.slice A0_0 l0_0.length c0_0, .slice A0_1 l0_1.length c0_1]] rfl mpx ?_; (with_reducible refine (spec_TokensOk.calls k _ _ l0_0 _ _ l0_1 true _ ?side1 ?side2 ?side3 ?side4 A4.out).mono ?_); (case side1 => exact Kd.C_below HR0_0.out (pkW HB.out)); (case side2 => exact HC0_0.out); (case side3 => exact Kd.C_below HR0_1.out (pkW HB.out)); (case side4 => exact HC0_1.out); rintro e w21 ⟨rfl, hb⟩; refine ⟨_, rfl, ?_⟩; have n0_ := am (Kd.R_below (by (with_reducible repeat (first | apply Kd.R_alloc | apply Kd.R_drewN | apply Kd.R_drew)); exact (Kd.R_mono (Kd.R_far (p := ⟨gb843, 1, none⟩) (Kd.R_far (p := ⟨gb843, 0, none⟩) (Kd.R_types HO839.out BK843.out (by decide)) (fun _ hk => hk.2) (.slice Ao15 t837.length co15)) (fun _ hk => hk.2) (.slice Ao19 t840.length co19)) (fun _ h_ => h_.1))) hb); have n1_ := am (Kd.R_below (by (with_reducible repeat (first | apply Kd.R_alloc | apply Kd.R_drewN | apply Kd.R_drew)); exact (Kd.R_mono (Kd.R_far (p := ⟨gb843, 1, none⟩) (Kd.R_far (p := ⟨gb843, 0, none⟩) (Kd.R_types HO842.out BK843.out (by decide)) (fun _ hk => hk.2) (.slice Ao15 t837.length co15)) (fun _ hk => hk.2) (.slice Ao19 t840.length co19)) (fun _ h_ => h_.1))) hb); have n2_ := am (blk_below (g := gb835) (o := .cells #[.slice A0_0 l0_0.length c0_0, .slice A0_1 l0_1.length c0_1] 33 (0, 0)) (by (with_reducible repeat (first | refine blk_drewN ?_ _ | refine blk_drew ?_ | refine blk_alloc ?_ _)); refine blk_far ?_ NB835_843.out _; (with_reducible repeat (first | refine blk_drewN ?_ _ | refine blk_drew ?_ | refine blk_alloc ?_ _)); refine blk_far ?_ NB835_843.out _; exact pkK BK835.out) hb); have n3_ := am (blk_below (g := gb836) (o := .cells #[.slice none 0 0, .slice none 0 0] 33 (0, 0)) (by (with_reducible repeat (first | refine blk_drewN ?_ _ | refine blk_drew ?_ | refine blk_alloc ?_ _)); refine blk_far ?_ NB836_843.out _; (with_reducible repeat (first | refine blk_drewN ?_ _ | refine blk_drew ?_ | refine blk_alloc ?_ _)); refine blk_far ?_ NB836_843.out _; exact pkK BK836.out) hb); have n4_ := am (blk_below (g := gb843) (o := .cells #[.slice Ao15 t837.length co15, .slice Ao19 t840.length co19] 33 (0, 0)) (by (with_reducible repeat (first | refine blk_drewN ?_ _ | refine blk_drew ?_ | refine blk_alloc ?_ _)); refine blk_put (cs := #[.slice Ao15 t837.length co15, .slice none 0 0]) ?_ 1 _ rfl; (with_reducible repeat (first | refine blk_drewN ?_ _ | refine blk_drew ?_ | refine blk_alloc ?_ _)); refine blk_put (cs := #[.slice none 0 0, .slice none 0 0]) ?_ 0 _ rfl; exact pkK BK843.out) hb); have n5_ := am (below_step (pkW HB.out) hb); clear HO839 HO842 BK835 BK836 BK843 HB; have HO839 := n0_; have HO842 := n1_; have BK835 := n2_; have BK836 := n3_; have BK843 := n4_; have HB := n5_; clear n0_ n1_ n2_ n3_ n4_ n5_; (try clear hb); (try clear hb2); (try clear hk); (try clear hi); have hcz22_0 : w21.cell? ⟨gb835, 0, none⟩ = some (.slice A0_0 l0_0.length c0_0) := (blk_cell BK835.out 0).trans rfl; have hcz22_1 : w21.cell? ⟨gb835, 1, none⟩ = some (.slice A0_1 l0_1.length c0_1) := (blk_cell BK835.out 1).trans rfl; have hfz22_0 := blk_frozen BK835.out 0; have hfz22_1 := blk_frozen BK835.out 1) | ((with_reducible refine gate_callee (f := 57) rfl ?_); refine goesL_ (some 24) rfl rfl Try.func57 (by kernel_rfl) rfl #[.int .i64 a1, .int .i64 0, .int .i64 (wrap64 ((l0_0.length : Int) - 1))] rfl mpx ?_; (with_reducible refine (spec_l1In.calls a1 0 (wrap64 ((l0_0.length : Int) - 1)) true _ A6.out).mono ?_); rintro e w' ⟨rfl, ⟨nd, rfl⟩⟩; refine ⟨_, rfl, ?_⟩) | ((with_reducible refine gate_dst (N := 27) rfl ?_); refine Kd.R_lit (Kd.int .i64) _ 3 ?hg (N := 27) ?hd (xs := ([] : List Int)) (inner := []) (ok := fun _ => True) (okp := fun _ => True) ?hr ?hp (fun _ hk => hk) trivial (Below.refl _ _) (Nat.le_refl _) (by simp) ?_; (case hd => rfl); (case hg => rfl); (case hr => first | (go_simp; done) | (go_simp; rfl)); (case hp => exact (Reps.none _ _)); intro v847 w23 ho24 hb hg_ hnew_; clear hg_ hnew_; (first | rw [← Ny846.out] at ho24 | (simp only [Int.reduceToNat] at ho24; rw [← Ny846.out] at ho24)); have n0_ := am (Kd.R_elder' (pkR HO839.out) (Kd.R_base ho24) hb); have n1_ := am (Kd.R_below (pkR HO842.out) hb); have n2_ := am (Kd.R_lower (Kd.R_new' ho24 (Kd.R_lt (pkR HO839.out))) (below_size (pkW HB.out))); have n3_ := am (blk_below (pkK BK835.out) hb); have n4_ := am (blk_below (pkK BK836.out) hb); have n5_ := am (blk_below (pkK BK843.out) hb); have n6_ := am (below_step (pkW HB.out) hb); clear HO839 HO842 BK835 BK836 BK843 HB; have HO839 := n0_; have HO842 := n1_; have HO848 := n2_; have BK835 := n3_; have BK836 := n4_; have BK843 := n5_; have HB := n6_; clear n0_ n1_ n2_ n3_ n4_ n5_ n6_; clear hb ho24; have hcz25_0 : w23.cell? ⟨gb835, 0, none⟩ = some (.slice A0_0 l0_0.length c0_0) := (blk_cell BK835.out 0).trans rfl; have hcz25_1 : w23.cell? ⟨gb835, 1, none⟩ = some (.slice A0_1 l0_1.length c0_1) := (blk_cell BK835.out 1).trans rfl; have hfz25_0 := blk_frozen BK835.out 0; have hfz25_1 := blk_frozen BK835.out 1) | ((with_reducible refine gate_callee (f := 36) rfl ?_); refine goesL_ (some 30) rfl rfl Try.func36 (by kernel_rfl) rfl #[.agg #[.slice A0_0 l0_0.length c0_0, .slice A0_1 l0_1.length c0_1], .int .i64 a1] rfl mpx ?_; (with_reducible refine (spec_Under.calls k _ _ l0_0 _ _ l0_1 a1 t849 _ ?side1 ?side2 ?side3 ?side4 A8.out).mono ?_); (case side1 => exact pkC (Kd.C_below HR0_0.out HB.out)); (case side2 => exact HC0_0.out); (case side3 => exact pkC (Kd.C_below HR0_1.out HB.out)); (case side4 => exact HC0_1.out); rintro e w26 ⟨v850, rfl, ho0, hb⟩; refine ⟨_, rfl, ?_⟩; have n0_ := am (Kd.R_elder' (pkR HO839.out) (Kd.R_base ho0) hb); have n1_ := am (Kd.R_below (pkR HO842.out) hb); have n2_ := am (Kd.R_elder' (pkR HO848.out) (Kd.R_base ho0) hb); have n3_ := am (Kd.R_lower (Kd.R_new' (Kd.R_new' ho0 (Kd.R_lt (pkR HO839.out))) (Kd.R_lt (pkR HO848.out))) (below_size (pkW HB.out))); have n4_ := am (blk_below (pkK BK835.out) hb); have n5_ := am (blk_below (pkK BK836.out) hb); have n6_ := am (blk_below (pkK BK843.out) hb); have n7_ := am (below_step (pkW HB.out) hb); clear HO839 HO842 HO848 BK835 BK836 BK843 HB; have HO839 := n0_; have HO842 := n1_; have HO848 := n2_; have HO851 := n3_; have BK835 := n4_; have BK836 := n5_; have BK843 := n6_; have HB := n7_; clear n0_ n1_ n2_ n3_ n4_ n5_ n6_ n7_; (try clear hb); (try clear hb2); (try clear hk); (try clear hi); (try clear ho0)))
      go_loopg [8, 10] k (fun kq v8 v10 w' => ∃ (x8_1 : List Int) (x10_1 : Int) (x844001_1 : List Bool) (u844001 : Value), v10 = .int .i64 x10_1 ∧ Aside0 (spec_Cancel.l0 kq x8_1 t849 x10_1 t837 x844001_1 = some (r1, r2, r3, r4)) ∧ Aside0 (kq ≤ k) ∧ Aside0 (Kd.R (Kd.int .i64) 3 w' w.heap.size (fun k_ => some k_ ≠ (v850 : Value).ownBlock ∧ some k_ ≠ ((.slice Ao15 t837.length co15) : Value).ownBlock) v8 x8_1) ∧ Aside0 (Kd.R (Kd.int .i64) 3 w' w.heap.size (fun k_ => some k_ ≠ (v8 : Value).ownBlock ∧ some k_ ≠ ((.slice Ao15 t837.length co15) : Value).ownBlock) v850 t849) ∧ Aside0 (Kd.R (Kd.int .i64) 3 w' w.heap.size (fun k_ => some k_ ≠ (v8 : Value).ownBlock ∧ some k_ ≠ (v850 : Value).ownBlock) (.slice Ao15 t837.length co15) t837) ∧ Aside0 (Kd.R Kd.bool 4 w' w.heap.size (fun _ => True) u844001 x844001_1) ∧ Aside0 (w'.heap[gb835]? = some (.cells #[(.slice A0_0 l0_0.length c0_0), (.slice A0_1 l0_1.length c0_1)] 33 (0, 0))) ∧ Aside0 (w'.heap[gb836]? = some (.cells #[(.slice none 0 0), (.slice none 0 0)] 33 (0, 0))) ∧ Aside0 (w'.heap[gb843]? = some (.cells #[(.slice Ao15 t837.length co15), u844001] 33 (0, 0))) ∧ Aside0 (Below w.heap.size w w'))
      case atStart => exact ⟨(y846), (0), (t840), (.slice Ao19 t840.length co19), rfx, H', ⟨Nat.le_refl _⟩, ⟨by (with_reducible repeat (first | apply Kd.R_alloc | apply Kd.R_drewN | apply Kd.R_drew)); exact Kd.R_mono HO848.out (fun _ hk => ⟨hk.2, hk.1.2⟩)⟩, ⟨by (with_reducible repeat (first | apply Kd.R_alloc | apply Kd.R_drewN | apply Kd.R_drew)); exact Kd.R_mono HO851.out (fun _ hk => ⟨hk.2, hk.1.2⟩)⟩, ⟨by (with_reducible repeat (first | apply Kd.R_alloc | apply Kd.R_drewN | apply Kd.R_drew)); exact Kd.R_mono HO839.out (fun _ hk => ⟨hk.1.2, hk.2⟩)⟩, ⟨pkR HO842.out⟩, ⟨pkK BK835.out⟩, ⟨pkK BK836.out⟩, ⟨pkK BK843.out⟩, ⟨pkW HB.out⟩⟩
      case round =>
        clear H'
        try clear c1
        try clear c2
        try clear p2
        try clear c3
        try clear c4
        try clear c5
        try clear p6
        try clear c7
        try clear c11
        try clear c16
        try clear c17
        try clear c22
        try clear hcz12_0
        try clear hcz12_1
        try clear hcz18_0
        try clear hcz18_1
        try clear hcz20_0
        try clear hcz20_1
        try clear hcz22_0
        try clear hcz22_1
        try clear hcz25_0
        try clear hcz25_1
        try clear hfz12_0
        try clear hfz12_1
        try clear hfz18_0
        try clear hfz18_1
        try clear hfz20_0
        try clear hfz20_1
        try clear hfz22_0
        try clear hfz22_1
        try clear hfz25_0
        try clear hfz25_1
        obtain ⟨x8_1, x10_1, x844001_1, u844001, rfl, HA, HK1, HO_8, HO_9, HO_844000, HO_844001, BK835, BK836, BK843, HB⟩ := hrel
        cases gk with
        | zero => exact absurd HA.out (by simp [spec_Cancel.l0])
        | succ k1 =>
          have H := HA.out
          clear HA
          simp only [spec_Cancel.l0] at H
          by_cases c27 : x10_1 < (t849.length : Int)
          · rw [if_pos c27] at H
            have c27b0 : decide (x10_1 < (t849.length : Int)) = true := decide_eq_true c27
            clear c27
            by_cases c28 : 0 ≤ x10_1
            · rw [if_pos c28] at H
              have c28b0 : decide (0 ≤ x10_1) = true := decide_eq_true c28
              clear c28
              by_cases c29 : 0 ≤ (rd t849 x10_1)
              · rw [if_pos c29] at H
                have c29b0 : decide (0 ≤ (rd t849 x10_1)) = true := decide_eq_true c29
                clear c29
                by_cases c30 : (rd t849 x10_1) < (x844001_1.length : Int)
                · rw [if_pos c30] at H
                  have c30b0 : decide ((rd t849 x10_1) < (x844001_1.length : Int)) = true := decide_eq_true c30
                  clear c30
                  obtain ⟨bq31, hbq31⟩ : ∃ b_ : Bool, b_ = (rdOf false x844001_1 (rd t849 x10_1)) := ⟨_, rfl⟩
                  replace H : (if (bq31 = true) then (spec_Cancel.l0 k1 x8_1 t849 (wrap64 (x10_1 + 1)) t837 x844001_1) else (if x8_1.length < 17592186044416 then (spec_Cancel.l0 k1 (x8_1 ++ [rd t849 x10_1]) t849 (wrap64 (x10_1 + 1)) t837 (x844001_1.set ((rd t849 x10_1) : Int).toNat true)) else (none))) = some (r1, r2, r3, r4) := by rw [← hbq31] at H; exact H
                  have Nbq31 := am hbq31
                  clear hbq31
                  by_cases c32 : (bq31 = true)
                  · subst c32
                    replace H : (spec_Cancel.l0 k1 x8_1 t849 (wrap64 (x10_1 + 1)) t837 x844001_1) = some (r1, r2, r3, r4) := by rw [if_pos rfl] at H; exact H
                    have H' := am H
                    clear H
                    obtain ⟨Ao33, co33, eo33⟩ := Kd.R_slice HO_9.out
                    subst eo33
                    try go_wp2
                    have n0_ := am (Kd.R_drew HO_8.out)
                    have n1_ := am (Kd.R_drew HO_9.out)
                    have n2_ := am (Kd.R_drew HO_844000.out)
                    have n3_ := am (Kd.R_drew HO_844001.out)
                    have n4_ := am (blk_drew BK835.out)
                    have n5_ := am (blk_drew BK836.out)
                    have n6_ := am (blk_drew BK843.out)
                    have n7_ := am (below_drew1 HB.out)
                    clear HO_8 HO_9 HO_844000 HO_844001 BK835 BK836 BK843 HB
                    have HO_8 := n0_; have HO_9 := n1_; have HO_844000 := n2_; have HO_844001 := n3_; have BK835 := n4_; have BK836 := n5_; have BK843 := n6_; have HB := n7_
                    clear n0_ n1_ n2_ n3_ n4_ n5_ n6_ n7_
                    have p852 : 0 ≤ (x10_1 : Int) := ofd
                    have q852 : x10_1 < (t849.length : Int) := ofd
                    obtain ⟨ad852, e852, hx852_0⟩ := Kd.at_int (Kd.R_reads' HO_9.out).2.2 x10_1 p852 q852
                    cases e852
                    replace p852 := eq_true p852
                    replace q852 := eq_true q852
                    obtain ⟨Ao35, co35, eo35⟩ := Kd.R_slice HO_844001.out
                    (first | subst eo35 | (injection eo35 with f1_ f2_ f3_; have f4_ := f1_.symm; have f5_ := f3_.symm; clear f1_ f2_ f3_; subst f4_; subst f5_))
                    have p853 : 0 ≤ ((rd t849 x10_1) : Int) := ofd
                    have q853 : (rd t849 x10_1) < (x844001_1.length : Int) := ofd
                    obtain ⟨ad853, e853, hx853_0⟩ := Kd.at_bool (Kd.R_reads' HO_844001.out).2.2 (rd t849 x10_1) p853 q853
                    (try rw [← Nbq31.out] at hx853_0)
                    cases e853
                    replace p853 := eq_true p853
                    replace q853 := eq_true q853
                    refine start_ (n := 9) (S := fun w' => w'.cell? ⟨gb843, 0, none⟩ = some (.slice Ao15 t837.length co15) ∧ w'.cell? ⟨gb843, 1, none⟩ = some (.slice (some ad853) x844001_1.length co35) ∧ w'.cell? (ad852.add (x10_1).toNat) = some (.int .i64 (rd t849 x10_1)) ∧ w'.cell? (ad853.add ((rd t849 x10_1)).toNat) = some (.bool true)) (ds := []) #[false, false, false, false, false, false, false, false, false] (by kernel_rfl) rfl rfl ⟨(blk_cell BK843.out 0).trans rfl, (blk_cell BK843.out 1).trans rfl, hx852_0, hx853_0⟩ (fun hHeld => ?_); refine with_tabW spec_Cancel.tab11 spec_Cancel.bits11 (fun HT_ HW_ => ?_)
                    generalize wr.drew = w34 at HO_8 HO_9 HO_844000 HO_844001 BK835 BK836 BK843 HB hx852_0 hx853_0 hHeld ⊢
                    refine pure_ (i := 0) (N := some 37) (v := ?_) (a' := ?_) #[true, false, false, false, false, false, false, false, false] rfl rfl (any_of HT_.out (by kernel_rfl)) (fun _ _ _ h => h) (Or.inl ⟨by rfl, ?_⟩) ?_ ?_
                    rotate_left
                    · intro w'
                      go_simp
                      with_reducible rfl
                    rotate_left
                    · simp only [Act.put, List.setIfInBounds_toArray, List.set_cons_zero, List.set_cons_succ, i64_w, i32_w]
                      rfl
                    refine pure_ (i := 2) (N := some 39) (v := ?_) (a' := ?_) #[true, false, true, false, false, false, false, false, false] rfl rfl (any_of HT_.out (by kernel_rfl)) (fun _ _ _ h => h) (Or.inl ⟨by rfl, ?_⟩) ?_ ?_
                    rotate_left
                    · intro w'
                      go_simp
                      with_reducible rfl
                    rotate_left
                    · simp only [Act.put, List.setIfInBounds_toArray, List.set_cons_zero, List.set_cons_succ, i64_w, i32_w]
                      rfl
                    refine pure_ (i := 3) (N := some 40) (v := ?_) (a' := ?_) #[true, false, true, true, false, false, false, false, false] rfl rfl (any_of HT_.out (by kernel_rfl)) (fun _ _ _ h => h) (Or.inl ⟨by rfl, ?_⟩) ?_ ?_
                    rotate_left
                    · intro w'
                      go_simp
                      with_reducible rfl
                    rotate_left
                    · simp only [Act.put, List.setIfInBounds_toArray, List.set_cons_zero, List.set_cons_succ, i64_w, i32_w]
                      rfl
                    refine pure_ (i := 4) (N := some 41) (v := ?_) (a' := ?_) #[true, false, true, true, true, false, false, false, false] rfl rfl (any_of HT_.out (by kernel_rfl)) (fun _ _ _ h => h) (Or.inl ⟨by rfl, ?_⟩) ?_ ?_
                    rotate_left
                    · intro w'
                      go_simp
                      with_reducible rfl
                    rotate_left
                    · simp only [Act.put, List.setIfInBounds_toArray, List.set_cons_zero, List.set_cons_succ, i64_w, i32_w]
                      rfl
                    refine take_ (i := 1) (N := some 38) (v := ?_) (a' := ?_) #[true, true, true, true, true, false, false, false, false] rfl rfl (take_ofW HT_.out HW_.out (by kernel_rfl)) (fun _ _ _ h => h) (Or.inl ⟨by rfl, ?_⟩) hHeld ?_ ?_
                    rotate_left
                    · rintro w' ⟨s0, s1, s2, s3⟩
                      go_simp
                      with_reducible rfl
                    rotate_left
                    · simp only [Act.put, List.setIfInBounds_toArray, List.set_cons_zero, List.set_cons_succ, i64_w, i32_w]
                      rfl
                    refine take_ (i := 5) (N := some 42) (v := ?_) (a' := ?_) #[true, true, true, true, true, true, false, false, false] rfl rfl (take_ofW HT_.out HW_.out (by kernel_rfl)) (fun _ _ _ h => h) (Or.inl ⟨by rfl, ?_⟩) hHeld ?_ ?_
                    rotate_left
                    · rintro w' ⟨s0, s1, s2, s3⟩
                      go_simp
                      with_reducible rfl
                    rotate_left
                    · simp only [Act.put, List.setIfInBounds_toArray, List.set_cons_zero, List.set_cons_succ, i64_w, i32_w]
                      rfl
                    refine pure_ (i := 6) (N := some 43) (v := ?_) (a' := ?_) #[true, true, true, true, true, true, true, false, false] rfl rfl (any_of HT_.out (by kernel_rfl)) (fun _ _ _ h => h) (Or.inl ⟨by rfl, ?_⟩) ?_ ?_
                    rotate_left
                    · intro w'
                      go_simp
                      with_reducible rfl
                    rotate_left
                    · simp only [Act.put, List.setIfInBounds_toArray, List.set_cons_zero, List.set_cons_succ, i64_w, i32_w]
                      rfl
                    refine take_ (i := 7) (N := some 44) (v := ?_) (a' := ?_) #[true, true, true, true, true, true, true, true, false] rfl rfl (take_ofW HT_.out HW_.out (by kernel_rfl)) (fun _ _ _ h => h) (Or.inl ⟨by rfl, ?_⟩) hHeld ?_ ?_
                    rotate_left
                    · rintro w' ⟨s0, s1, s2, s3⟩
                      go_simp
                      with_reducible rfl
                    rotate_left
                    · simp only [Act.put, List.setIfInBounds_toArray, List.set_cons_zero, List.set_cons_succ, i64_w, i32_w]
                      rfl
                    refine pure_ (i := 8) (N := some 45) (v := ?_) (a' := ?_) #[true, true, true, true, true, true, true, true, true] rfl rfl (any_of HT_.out (by kernel_rfl)) (fun _ _ _ h => h) (Or.inl ⟨by rfl, ?_⟩) ?_ ?_
                    rotate_left
                    · intro w'
                      go_simp
                      with_reducible rfl
                    rotate_left
                    · simp only [Act.put, List.setIfInBounds_toArray, List.set_cons_zero, List.set_cons_succ, i64_w, i32_w]
                      rfl
                    refine done_ (done_of HT_.out (by kernel_rfl)) ?_
                    try go_wp2
                    go_roundg k1
                    case measure => have := HK1.out; omega
                    case rel => exact ⟨(x8_1), (wrap64 (x10_1 + 1)), (x844001_1), (.slice (some ad853) x844001_1.length co35), rfx, H', ⟨by have := HK1.out; omega⟩, ⟨pkR HO_8.out⟩, ⟨pkR HO_9.out⟩, ⟨pkR HO_844000.out⟩, ⟨pkR HO_844001.out⟩, ⟨pkK BK835.out⟩, ⟨pkK BK836.out⟩, ⟨pkK BK843.out⟩, ⟨pkW HB.out⟩⟩
                  · replace c32 := Bool.eq_false_iff.mpr c32
                    subst c32
                    replace H : (if x8_1.length < 17592186044416 then (spec_Cancel.l0 k1 (x8_1 ++ [rd t849 x10_1]) t849 (wrap64 (x10_1 + 1)) t837 (x844001_1.set ((rd t849 x10_1) : Int).toNat true)) else (none)) = some (r1, r2, r3, r4) := by rw [if_neg (show ¬ (false = true) by decide)] at H; exact H
                    obtain ⟨y855, hy855⟩ : ∃ y_ : List Bool, y_ = (x844001_1.set ((rd t849 x10_1) : Int).toNat true) := ⟨_, rfl⟩
                    replace H : (if x8_1.length < 17592186044416 then (spec_Cancel.l0 k1 (x8_1 ++ [rd t849 x10_1]) t849 (wrap64 (x10_1 + 1)) t837 y855) else (none)) = some (r1, r2, r3, r4) := by first | (rw [hy855]; with_reducible exact H) | (have H2_ := (Option.bind_some _ _).symm.trans H; rw [hy855]; with_reducible exact H2_) | (have H2_ := (Option.bind_some _ _).symm.trans H; with_reducible exact H2_) | with_reducible exact H | (rw [hy855]; exact H) | exact H
                    have Ny855 := am hy855
                    clear hy855
                    by_cases c37 : x8_1.length < 17592186044416
                    · rw [if_pos c37] at H
                      have LMc37 := am c37
                      clear c37
                      obtain ⟨y857, hy857⟩ : ∃ y_ : List Int, y_ = (x8_1 ++ [rd t849 x10_1]) := ⟨_, rfl⟩
                      replace H : (spec_Cancel.l0 k1 y857 t849 (wrap64 (x10_1 + 1)) t837 y855) = some (r1, r2, r3, r4) := by first | (rw [hy857]; with_reducible exact H) | (have H2_ := (Option.bind_some _ _).symm.trans H; rw [hy857]; with_reducible exact H2_) | (have H2_ := (Option.bind_some _ _).symm.trans H; with_reducible exact H2_) | with_reducible exact H | (rw [hy857]; exact H) | exact H
                      have Ny857 := am hy857
                      clear hy857
                      have H' := am H
                      clear H
                      obtain ⟨Ao38, co38, eo38⟩ := Kd.R_slice HO_9.out
                      subst eo38
                      try go_wp2
                      have n0_ := am (Kd.R_drew HO_8.out)
                      have n1_ := am (Kd.R_drew HO_9.out)
                      have n2_ := am (Kd.R_drew HO_844000.out)
                      have n3_ := am (Kd.R_drew HO_844001.out)
                      have n4_ := am (blk_drew BK835.out)
                      have n5_ := am (blk_drew BK836.out)
                      have n6_ := am (blk_drew BK843.out)
                      have n7_ := am (below_drew1 HB.out)
                      clear HO_8 HO_9 HO_844000 HO_844001 BK835 BK836 BK843 HB
                      have HO_8 := n0_; have HO_9 := n1_; have HO_844000 := n2_; have HO_844001 := n3_; have BK835 := n4_; have BK836 := n5_; have BK843 := n6_; have HB := n7_
                      clear n0_ n1_ n2_ n3_ n4_ n5_ n6_ n7_
                      have p852 : 0 ≤ (x10_1 : Int) := ofd
                      have q852 : x10_1 < (t849.length : Int) := ofd
                      obtain ⟨ad852, e852, hx852_0⟩ := Kd.at_int (Kd.R_reads' HO_9.out).2.2 x10_1 p852 q852
                      cases e852
                      replace p852 := eq_true p852
                      replace q852 := eq_true q852
                      obtain ⟨Ao40, co40, eo40⟩ := Kd.R_slice HO_844001.out
                      (first | subst eo40 | (injection eo40 with f1_ f2_ f3_; have f4_ := f1_.symm; have f5_ := f3_.symm; clear f1_ f2_ f3_; subst f4_; subst f5_))
                      have p853 : 0 ≤ ((rd t849 x10_1) : Int) := ofd
                      have q853 : (rd t849 x10_1) < (x844001_1.length : Int) := ofd
                      obtain ⟨ad853, e853, hx853_0⟩ := Kd.at_bool (Kd.R_reads' HO_844001.out).2.2 (rd t849 x10_1) p853 q853
                      (try rw [← Nbq31.out] at hx853_0)
                      cases e853
                      replace p853 := eq_true p853
                      replace q853 := eq_true q853
                      refine start_ (n := 9) (S := fun w' => w'.cell? ⟨gb843, 0, none⟩ = some (.slice Ao15 t837.length co15) ∧ w'.cell? ⟨gb843, 1, none⟩ = some (.slice (some ad853) x844001_1.length co40) ∧ w'.cell? (ad852.add (x10_1).toNat) = some (.int .i64 (rd t849 x10_1)) ∧ w'.cell? (ad853.add ((rd t849 x10_1)).toNat) = some (.bool false)) (ds := []) #[false, false, false, false, false, false, false, false, false] (by kernel_rfl) rfl rfl ⟨(blk_cell BK843.out 0).trans rfl, (blk_cell BK843.out 1).trans rfl, hx852_0, hx853_0⟩ (fun hHeld => ?_); refine with_tabW spec_Cancel.tab11 spec_Cancel.bits11 (fun HT_ HW_ => ?_)
                      generalize wr.drew = w39 at HO_8 HO_9 HO_844000 HO_844001 BK835 BK836 BK843 HB hx852_0 hx853_0 hHeld ⊢
                      refine pure_ (i := 0) (N := some 37) (v := ?_) (a' := ?_) #[true, false, false, false, false, false, false, false, false] rfl rfl (any_of HT_.out (by kernel_rfl)) (fun _ _ _ h => h) (Or.inl ⟨by rfl, ?_⟩) ?_ ?_
                      rotate_left
                      · intro w'
                        go_simp
                        with_reducible rfl
                      rotate_left
                      · simp only [Act.put, List.setIfInBounds_toArray, List.set_cons_zero, List.set_cons_succ, i64_w, i32_w]
                        rfl
                      refine pure_ (i := 2) (N := some 39) (v := ?_) (a' := ?_) #[true, false, true, false, false, false, false, false, false] rfl rfl (any_of HT_.out (by kernel_rfl)) (fun _ _ _ h => h) (Or.inl ⟨by rfl, ?_⟩) ?_ ?_
                      rotate_left
                      · intro w'
                        go_simp
                        with_reducible rfl
                      rotate_left
                      · simp only [Act.put, List.setIfInBounds_toArray, List.set_cons_zero, List.set_cons_succ, i64_w, i32_w]
                        rfl
                      refine pure_ (i := 3) (N := some 40) (v := ?_) (a' := ?_) #[true, false, true, true, false, false, false, false, false] rfl rfl (any_of HT_.out (by kernel_rfl)) (fun _ _ _ h => h) (Or.inl ⟨by rfl, ?_⟩) ?_ ?_
                      rotate_left
                      · intro w'
                        go_simp
                        with_reducible rfl
                      rotate_left
                      · simp only [Act.put, List.setIfInBounds_toArray, List.set_cons_zero, List.set_cons_succ, i64_w, i32_w]
                        rfl
                      refine pure_ (i := 4) (N := some 41) (v := ?_) (a' := ?_) #[true, false, true, true, true, false, false, false, false] rfl rfl (any_of HT_.out (by kernel_rfl)) (fun _ _ _ h => h) (Or.inl ⟨by rfl, ?_⟩) ?_ ?_
                      rotate_left
                      · intro w'
                        go_simp
                        with_reducible rfl
                      rotate_left
                      · simp only [Act.put, List.setIfInBounds_toArray, List.set_cons_zero, List.set_cons_succ, i64_w, i32_w]
                        rfl
                      refine take_ (i := 1) (N := some 38) (v := ?_) (a' := ?_) #[true, true, true, true, true, false, false, false, false] rfl rfl (take_ofW HT_.out HW_.out (by kernel_rfl)) (fun _ _ _ h => h) (Or.inl ⟨by rfl, ?_⟩) hHeld ?_ ?_
                      rotate_left
                      · rintro w' ⟨s0, s1, s2, s3⟩
                        go_simp
                        with_reducible rfl
                      rotate_left
                      · simp only [Act.put, List.setIfInBounds_toArray, List.set_cons_zero, List.set_cons_succ, i64_w, i32_w]
                        rfl
                      refine take_ (i := 5) (N := some 42) (v := ?_) (a' := ?_) #[true, true, true, true, true, true, false, false, false] rfl rfl (take_ofW HT_.out HW_.out (by kernel_rfl)) (fun _ _ _ h => h) (Or.inl ⟨by rfl, ?_⟩) hHeld ?_ ?_
                      rotate_left
                      · rintro w' ⟨s0, s1, s2, s3⟩
                        go_simp
                        with_reducible rfl
                      rotate_left
                      · simp only [Act.put, List.setIfInBounds_toArray, List.set_cons_zero, List.set_cons_succ, i64_w, i32_w]
                        rfl
                      refine pure_ (i := 6) (N := some 43) (v := ?_) (a' := ?_) #[true, true, true, true, true, true, true, false, false] rfl rfl (any_of HT_.out (by kernel_rfl)) (fun _ _ _ h => h) (Or.inl ⟨by rfl, ?_⟩) ?_ ?_
                      rotate_left
                      · intro w'
                        go_simp
                        with_reducible rfl
                      rotate_left
                      · simp only [Act.put, List.setIfInBounds_toArray, List.set_cons_zero, List.set_cons_succ, i64_w, i32_w]
                        rfl
                      refine take_ (i := 7) (N := some 44) (v := ?_) (a' := ?_) #[true, true, true, true, true, true, true, true, false] rfl rfl (take_ofW HT_.out HW_.out (by kernel_rfl)) (fun _ _ _ h => h) (Or.inl ⟨by rfl, ?_⟩) hHeld ?_ ?_
                      rotate_left
                      · rintro w' ⟨s0, s1, s2, s3⟩
                        go_simp
                        with_reducible rfl
                      rotate_left
                      · simp only [Act.put, List.setIfInBounds_toArray, List.set_cons_zero, List.set_cons_succ, i64_w, i32_w]
                        rfl
                      refine pure_ (i := 8) (N := some 45) (v := ?_) (a' := ?_) #[true, true, true, true, true, true, true, true, true] rfl rfl (any_of HT_.out (by kernel_rfl)) (fun _ _ _ h => h) (Or.inl ⟨by rfl, ?_⟩) ?_ ?_
                      rotate_left
                      · intro w'
                        go_simp
                        with_reducible rfl
                      rotate_left
                      · simp only [Act.put, List.setIfInBounds_toArray, List.set_cons_zero, List.set_cons_succ, i64_w, i32_w]
                        rfl
                      refine done_ (done_of HT_.out (by kernel_rfl)) ?_
                      try go_wp2
                      have n0_ := am (Kd.R_drew HO_8.out)
                      have n1_ := am (Kd.R_drew HO_9.out)
                      have n2_ := am (Kd.R_drew HO_844000.out)
                      have n3_ := am (Kd.R_drew HO_844001.out)
                      have n4_ := am (blk_drew BK835.out)
                      have n5_ := am (blk_drew BK836.out)
                      have n6_ := am (blk_drew BK843.out)
                      have n7_ := am (below_drew1 HB.out)
                      clear HO_8 HO_9 HO_844000 HO_844001 BK835 BK836 BK843 HB
                      have HO_8 := n0_; have HO_9 := n1_; have HO_844000 := n2_; have HO_844001 := n3_; have BK835 := n4_; have BK836 := n5_; have BK843 := n6_; have HB := n7_
                      clear n0_ n1_ n2_ n3_ n4_ n5_ n6_ n7_
                      have p854 : 0 ≤ (x10_1 : Int) := ofd
                      have q854 : x10_1 < (t849.length : Int) := ofd
                      obtain ⟨ad854, e854, hx854_0⟩ := Kd.at_int (Kd.R_reads' HO_9.out).2.2 x10_1 p854 q854
                      obtain rfl : ad852 = ad854 := (by injection e854)
                      replace p854 := eq_true p854
                      replace q854 := eq_true q854
                      have p36 : 0 ≤ ((rd t849 x10_1) : Int) := ofd
                      have q36 : ((rd t849 x10_1) : Int) < ((x844001_1.length : Int) : Int) := ofd
                      obtain ⟨go36, co36, eo36, gb36, gl36, cl36, HG36⟩ := Kd.R_form HO_844001.out (by omega)
                      (first | cases eo36 | (injection eo36 with ea_ en_ ec_; (first | subst ea_ | (injection ea_ with ea_; subst ea_)); subst ec_; clear en_))
                      have GB36 := am gb36
                      have GG36 := am HG36
                      clear gb36 gl36 HG36
                      (first | simp only [add_plain] at hx853_0 | skip)
                      obtain ⟨hx36_0, hf36_0⟩ := Kd.R_celln false HO_844001.out ((rd t849 x10_1) : Int) p36 q36
                      replace p36 := eq_true p36
                      replace q36 := eq_true q36
                      have HP42 := Kd.R_putn HO_844001.out ((rd t849 x10_1) : Int) true
                      rw [← Ny855.out] at HP42
                      have HQ42 := am HP42
                      clear HP42
                      refine start_ (n := 8) (S := fun w' => w'.cell? ⟨gb843, 0, none⟩ = some (.slice Ao15 t837.length co15) ∧ w'.cell? ⟨gb843, 1, none⟩ = some (.slice (some ⟨go36, 0, none⟩) x844001_1.length co40) ∧ w'.cell? (ad852.add (x10_1).toNat) = some (.int .i64 (rd t849 x10_1))) (ds := [7]) #[false, false, false, false, false, false, false, false] (by kernel_rfl) rfl rfl ⟨(blk_cell BK843.out 0).trans rfl, (blk_cell BK843.out 1).trans rfl, hx854_0⟩ (fun hHeld => ?_); refine with_tabW spec_Cancel.tab12 spec_Cancel.bits12 (fun HT_ HW_ => ?_)
                      generalize w39.drew = w41 at HO_8 HO_9 HO_844000 HO_844001 BK835 BK836 BK843 HB GG36 HQ42 hf36_0 hx36_0 hx853_0 hx854_0 hHeld ⊢
                      refine pure_ (i := 0) (N := some 46) (v := ?_) (a' := ?_) #[true, false, false, false, false, false, false, false] rfl rfl (any_of HT_.out (by kernel_rfl)) (fun _ _ _ h => h) (Or.inl ⟨by rfl, ?_⟩) ?_ ?_
                      rotate_left
                      · intro w'
                        go_simp
                        with_reducible rfl
                      rotate_left
                      · simp only [Act.put, List.setIfInBounds_toArray, List.set_cons_zero, List.set_cons_succ, i64_w, i32_w]
                        rfl
                      refine pure_ (i := 2) (N := some 48) (v := ?_) (a' := ?_) #[true, false, true, false, false, false, false, false] rfl rfl (any_of HT_.out (by kernel_rfl)) (fun _ _ _ h => h) (Or.inl ⟨by rfl, ?_⟩) ?_ ?_
                      rotate_left
                      · intro w'
                        go_simp
                        with_reducible rfl
                      rotate_left
                      · simp only [Act.put, List.setIfInBounds_toArray, List.set_cons_zero, List.set_cons_succ, i64_w, i32_w]
                        rfl
                      refine pure_ (i := 3) (N := some 49) (v := ?_) (a' := ?_) #[true, false, true, true, false, false, false, false] rfl rfl (any_of HT_.out (by kernel_rfl)) (fun _ _ _ h => h) (Or.inl ⟨by rfl, ?_⟩) ?_ ?_
                      rotate_left
                      · intro w'
                        go_simp
                        with_reducible rfl
                      rotate_left
                      · simp only [Act.put, List.setIfInBounds_toArray, List.set_cons_zero, List.set_cons_succ, i64_w, i32_w]
                        rfl
                      refine pure_ (i := 4) (N := some 50) (v := ?_) (a' := ?_) #[true, false, true, true, true, false, false, false] rfl rfl (any_of HT_.out (by kernel_rfl)) (fun _ _ _ h => h) (Or.inl ⟨by rfl, ?_⟩) ?_ ?_
                      rotate_left
                      · intro w'
                        go_simp
                        with_reducible rfl
                      rotate_left
                      · simp only [Act.put, List.setIfInBounds_toArray, List.set_cons_zero, List.set_cons_succ, i64_w, i32_w]
                        rfl
                      refine take_ (i := 1) (N := some 47) (v := ?_) (a' := ?_) #[true, true, true, true, true, false, false, false] rfl rfl (take_ofW HT_.out HW_.out (by kernel_rfl)) (fun _ _ _ h => h) (Or.inl ⟨by rfl, ?_⟩) hHeld ?_ ?_
                      rotate_left
                      · rintro w' ⟨s0, s1, s2⟩
                        go_simp
                        with_reducible rfl
                      rotate_left
                      · simp only [Act.put, List.setIfInBounds_toArray, List.set_cons_zero, List.set_cons_succ, i64_w, i32_w]
                        rfl
                      refine take_ (i := 5) (N := some 51) (v := ?_) (a' := ?_) #[true, true, true, true, true, true, false, false] rfl rfl (take_ofW HT_.out HW_.out (by kernel_rfl)) (fun _ _ _ h => h) (Or.inl ⟨by rfl, ?_⟩) hHeld ?_ ?_
                      rotate_left
                      · rintro w' ⟨s0, s1, s2⟩
                        go_simp
                        with_reducible rfl
                      rotate_left
                      · simp only [Act.put, List.setIfInBounds_toArray, List.set_cons_zero, List.set_cons_succ, i64_w, i32_w]
                        rfl
                      refine pure_ (i := 6) (N := some 52) (v := ?_) (a' := ?_) #[true, true, true, true, true, true, true, false] rfl rfl (any_of HT_.out (by kernel_rfl)) (fun _ _ _ h => h) (Or.inl ⟨by rfl, ?_⟩) ?_ ?_
                      rotate_left
                      · intro w'
                        go_simp
                        with_reducible rfl
                      rotate_left
                      · simp only [Act.put, List.setIfInBounds_toArray, List.set_cons_zero, List.set_cons_succ, i64_w, i32_w]
                        rfl
                      refine last_ (i := 7) (N := none) #[true, true, true, true, true, true, true, true] rfl rfl (one_of HT_.out (by kernel_rfl)) (by decide) (fun K hK => ?_)
                      refine skip_ (w1 := ?_) (by rfl) rfl ?_ ?_
                      rotate_left
                      · go_simp
                        rfl
                      refine hK.out _ _ ?_
                      clear hK K
                      refine done_ (done_of HT_.out (by kernel_rfl)) ?_
                      have p856 : 0 ≤ (x10_1 : Int) := ofd
                      have q856 : x10_1 < (t849.length : Int) := ofd
                      obtain ⟨ad856, e856, hx856_0⟩ := Kd.at_int (Kd.R_reads' HO_9.out).2.2 x10_1 p856 q856
                      obtain rfl : ad852 = ad856 := (by injection e856)
                      have hn856_0 : ad852.block ≠ go36 := Kd.own_blk (Kd.R_ne HO_9.out GG36.out (by decide))
                      replace hx856_0 := (cell_far (p := ⟨go36, ((rd t849 x10_1) : Int).toNat, none⟩) (by first | (rw [add_block]; exact hn856_0) | (show (Addr.add _ _).block ≠ _; rw [add_block]; exact hn856_0) | exact hn856_0) (.bool true)).trans hx856_0
                      clear hn856_0
                      replace p856 := eq_true p856
                      replace q856 := eq_true q856
                      try go_wp2_with (first | ((with_reducible refine gate_builtin (b := .append) (xs := #[.tmp 53, .tmp 58]) rfl ?_); at_builtin; refine Kd.R_append (Kd.int .i64) (w0 := w) w.heap.size rfl (.tmp 53) (.tmp 58) 22 3 (.int .i64 0) 8 rfl Try.underlying22 info3 rfl (by decide) (by omega) u8 x8_1 (rd t849 x10_1) [.int .i64 (rd t849 x10_1)] (fun k_ => some k_ ≠ (.slice (some ad852) t849.length co38 : Value).ownBlock ∧ some k_ ≠ (.slice Ao15 t837.length co15 : Value).ownBlock) (fun _ => False) rfl (by first | (go_simp; done) | (go_simp; rfl)) ?aP (fun _ hk => hk.elim) ?aF ?aO ?aB ?aS ?aL ?_; (case aP => exact rfl); (case aB => exact (pkW HB.out)); (case aF => exact (fun k_ hk => ⟨Kd.fresh' (Kd.R_lt (by (with_reducible repeat (first | apply Kd.R_alloc | apply Kd.R_drewN | apply Kd.R_drew)); exact (Kd.R_mono (Kd.R_far (p := ⟨go36, ((rd t849 x10_1) : Int).toNat, none⟩) (Kd.R_types HO_9.out GG36.out (by decide)) (fun _ hk => hk.2) (.bool true)) (fun _ h_ => h_.1)))) k_ hk, Kd.fresh' (Kd.R_lt (by (with_reducible repeat (first | apply Kd.R_alloc | apply Kd.R_drewN | apply Kd.R_drew)); exact (Kd.R_mono (Kd.R_far (p := ⟨go36, ((rd t849 x10_1) : Int).toNat, none⟩) (Kd.R_types HO_844000.out GG36.out (by decide)) (fun _ hk => hk.2) (.bool true)) (fun _ h_ => h_.1)))) k_ hk⟩)); (case aO => exact (by (with_reducible repeat (first | apply Kd.R_alloc | apply Kd.R_drewN | apply Kd.R_drew)); exact Kd.R_mono (Kd.R_far (p := ⟨go36, ((rd t849 x10_1) : Int).toNat, none⟩) (Kd.R_types HO_8.out GG36.out (by decide)) (fun _ hk => hk.2) (.bool true)) (fun _ hk => ⟨hk.1.1, hk.1.2⟩))); (case aS => exact (below_size (pkW HB.out))); (case aL => have := LMc37.out; omega); intro v858 w43 ho hb hg hat; rw [← Ny857.out] at ho; have n0_ := am (Kd.R_after (ok := (fun k_ => some k_ ≠ (.slice Ao15 t837.length co15 : Value).ownBlock)) (by (with_reducible repeat (first | apply Kd.R_alloc | apply Kd.R_drewN | apply Kd.R_drew)); exact Kd.R_mono (Kd.R_far (p := ⟨go36, ((rd t849 x10_1) : Int).toNat, none⟩) (Kd.R_types HO_9.out GG36.out (by decide)) (fun _ hk => hk.2) (.bool true)) (fun _ hk => ⟨hk.1.2, hk.1.1⟩)) hg hat); have n1_ := am (Kd.R_after (ok := (fun k_ => some k_ ≠ (.slice (some ad852) t849.length co38 : Value).ownBlock)) (by (with_reducible repeat (first | apply Kd.R_alloc | apply Kd.R_drewN | apply Kd.R_drew)); exact Kd.R_mono (Kd.R_far (p := ⟨go36, ((rd t849 x10_1) : Int).toNat, none⟩) (Kd.R_types HO_844000.out GG36.out (by decide)) (fun _ hk => hk.2) (.bool true)) (fun _ hk => ⟨hk.1.2, hk.1.1⟩)) hg hat); have n2_ := am (Kd.R_over' (pkR HQ42.out) (Kd.R_typed (by (with_reducible repeat (first | apply Kd.R_alloc | apply Kd.R_drewN | apply Kd.R_drew)); exact (Kd.R_mono (Kd.R_far (p := ⟨go36, ((rd t849 x10_1) : Int).toNat, none⟩) (Kd.R_types HO_8.out GG36.out (by decide)) (fun _ hk => hk.2) (.bool true)) (fun _ h_ => h_.1)))) (by decide) hg); have n3_ := am (blk_grown (g := gb835) (o := .cells #[.slice A0_0 l0_0.length c0_0, .slice A0_1 l0_1.length c0_1] 33 (0, 0)) (by (with_reducible repeat (first | refine blk_drewN ?_ _ | refine blk_drew ?_ | refine blk_alloc ?_ _)); refine blk_far ?_ (by have h_ := Kd.R_ne HO_844001.out BK835.out (by decide); intro e_; exact h_ (by rw [e_]; rfl)) _; exact pkK BK835.out) hg (Kd.R_ne HO_8.out BK835.out (by decide))); have n4_ := am (blk_grown (g := gb836) (o := .cells #[.slice none 0 0, .slice none 0 0] 33 (0, 0)) (by (with_reducible repeat (first | refine blk_drewN ?_ _ | refine blk_drew ?_ | refine blk_alloc ?_ _)); refine blk_far ?_ (by have h_ := Kd.R_ne HO_844001.out BK836.out (by decide); intro e_; exact h_ (by rw [e_]; rfl)) _; exact pkK BK836.out) hg (Kd.R_ne HO_8.out BK836.out (by decide))); have n5_ := am (blk_grown (g := gb843) (o := .cells #[.slice Ao15 t837.length co15, .slice (some ⟨go36, 0, none⟩) x844001_1.length co40] 33 (0, 0)) (by (with_reducible repeat (first | refine blk_drewN ?_ _ | refine blk_drew ?_ | refine blk_alloc ?_ _)); refine blk_far ?_ (by have h_ := Kd.R_ne HO_844001.out BK843.out (by decide); intro e_; exact h_ (by rw [e_]; rfl)) _; exact pkK BK843.out) hg (Kd.R_ne HO_8.out BK843.out (by decide))); have n6_ := am (hb); have n7_ := am (ho); clear HO_9 HO_844000 HO_844001 BK835 BK836 BK843 HB HO_8; have HO_9 := n0_; have HO_844000 := n1_; have HO_844001 := n2_; have BK835 := n3_; have BK836 := n4_; have BK843 := n5_; have HB := n6_; have HO859 := n7_; clear n0_ n1_ n2_ n3_ n4_ n5_ n6_ n7_; clear ho hb hg hat))
                      go_roundg k1
                      case measure => have := HK1.out; omega
                      case rel => exact ⟨(y857), (wrap64 (x10_1 + 1)), (y855), (.slice (some ⟨go36, 0, none⟩) x844001_1.length co40), rfx, H', ⟨by have := HK1.out; omega⟩, ⟨pkR HO859.out⟩, ⟨by (with_reducible repeat (first | apply Kd.R_alloc | apply Kd.R_drewN | apply Kd.R_drew)); exact Kd.R_mono HO_9.out (fun _ hk => ⟨hk.2, hk.1⟩)⟩, ⟨by (with_reducible repeat (first | apply Kd.R_alloc | apply Kd.R_drewN | apply Kd.R_drew)); exact Kd.R_mono HO_844000.out (fun _ hk => ⟨hk.2, hk.1⟩)⟩, ⟨pkR HO_844001.out⟩, ⟨pkK BK835.out⟩, ⟨pkK BK836.out⟩, ⟨pkK BK843.out⟩, ⟨pkW HB.out⟩⟩
                    · rw [if_neg c37] at H
                      exact absurd H (by simp)
                · rw [if_neg c30] at H
                  exact absurd H (by simp)
              · rw [if_neg c29] at H
                exact absurd H (by simp)
            · rw [if_neg c28] at H
              exact absurd H (by simp)
          · rw [if_neg c27] at H
            have c27b0 : decide (x10_1 < (t849.length : Int)) = false := decide_eq_false c27
            clear c27
            simp only [Option.some.injEq, Prod.mk.injEq] at H
            obtain ⟨rfl, rfl, rfl, rfl⟩ := H
            obtain ⟨Ao44, co44, eo44⟩ := Kd.R_slice HO_9.out
            subst eo44
            have hnb45 := NB843_835.out
            have hnc45 := NB835_843.out
            have hnb46 := NB843_836.out
            have hnc46 := NB836_843.out
            have hcz47_0 : wr.cell? ⟨gb843, 0, none⟩ = some (.slice Ao15 t837.length co15) := (blk_cell BK843.out 0).trans rfl
            have hcz47_1 : wr.cell? ⟨gb843, 1, none⟩ = some (u844001) := (blk_cell BK843.out 1).trans rfl
            have hfz47_0 := blk_frozen BK843.out 0
            have hfz47_1 := blk_frozen BK843.out 1
            have hnb48 := NB836_835.out
            have hnc48 := NB835_836.out
            have hcz49_0 : wr.cell? ⟨gb836, 0, none⟩ = some (.slice none 0 0) := (blk_cell BK836.out 0).trans rfl
            have hcz49_1 : wr.cell? ⟨gb836, 1, none⟩ = some (.slice none 0 0) := (blk_cell BK836.out 1).trans rfl
            have hfz49_0 := blk_frozen BK836.out 0
            have hfz49_1 := blk_frozen BK836.out 1
            obtain ⟨Ao50, co50, eo50⟩ := Kd.R_slice HO_844001.out
            subst eo50
            go_wp2
            refine bodyPost_ret (results_ctt rfl _ _ gb836 33 #[.slice Ao15 t837.length co15, .slice Ao50 x844001_1.length co50] (0, 0) _ rfl (by (with_reducible repeat (first | refine blk_drewN ?_ _ | refine blk_drew ?_ | refine blk_alloc ?_ _)); refine blk_put (cs := #[.slice Ao15 t837.length co15, .slice none 0 0]) ?_ 1 _ rfl; (with_reducible repeat (first | refine blk_drewN ?_ _ | refine blk_drew ?_ | refine blk_alloc ?_ _)); refine blk_put (cs := #[.slice none 0 0, .slice none 0 0]) ?_ 0 _ rfl; exact pkK BK836.out) Try.underlying33 rfl (by kernel_rfl)) rfl ?_
            exact ⟨_, _, _, rfe, by (with_reducible repeat (first | apply Kd.R_alloc | apply Kd.R_drewN | apply Kd.R_drew)); exact Kd.R_mono (Kd.R_far (p := ⟨gb836, 1, none⟩) (Kd.R_far (p := ⟨gb836, 0, none⟩) (Kd.R_types HO_844000.out BK836.out (by decide)) (fun _ hk => hk.2) (.slice Ao15 t837.length co15)) (fun _ hk => hk.2) (.slice Ao50 x844001_1.length co50)) (fun _ hk => hk.1.1), by (with_reducible repeat (first | apply Kd.R_alloc | apply Kd.R_drewN | apply Kd.R_drew)); exact Kd.R_mono (Kd.R_far (p := ⟨gb836, 1, none⟩) (Kd.R_far (p := ⟨gb836, 0, none⟩) (Kd.R_types HO_844001.out BK836.out (by decide)) (fun _ hk => hk.2) (.slice Ao15 t837.length co15)) (fun _ hk => hk.2) (.slice Ao50 x844001_1.length co50)) (fun _ hk => trivial), by (with_reducible repeat (first | apply Kd.R_alloc | apply Kd.R_drewN | apply Kd.R_drew)); exact Kd.R_mono (Kd.R_far (p := ⟨gb836, 1, none⟩) (Kd.R_far (p := ⟨gb836, 0, none⟩) (Kd.R_types HO_8.out BK836.out (by decide)) (fun _ hk => hk.2) (.slice Ao15 t837.length co15)) (fun _ hk => hk.2) (.slice Ao50 x844001_1.length co50)) (fun _ hk => hk.1.2), pkW HB.out⟩
    · replace c7 := Bool.eq_false_iff.mpr c7
      subst c7
      replace H : (some (t837, t840, ([] : List Int), 3)) = some (r1, r2, r3, r4) := by rw [if_neg (show ¬ (false = true) by decide)] at H; exact H
      simp only [Option.some.injEq, Prod.mk.injEq] at H
      obtain ⟨rfl, rfl, rfl, rfl⟩ := H
      go_enter Try.func46, Try.ntmps46
      go_wp2_with (first | ((with_reducible refine gate_dst (N := 2) rfl ?_); refine box_event ?hg (N := 2) ?hd (cs := #[.slice A0_0 l0_0.length c0_0, .slice A0_1 l0_1.length c0_1]) (t := 33) ?hr ?_; (case hd => rfl); (case hg => rfl); (case hr => first | (go_simp; done) | (go_simp; rfl)); intro gb835 hg w51 hbox hb; have n0_ := am (below_step (pkB HB.out) hb); have n1_ := am (hbox); have n2_ := am ((by rw [hg]; exact (below_size (pkB HB.out)) : w.heap.size ≤ gb835)); have n3_ := am ((by rw [hg]; exact (below_size (pkB HB.out)) : w.heap.size ≤ gb835)); clear HB; have HB := n0_; have BK835 := n1_; have GW835 := n2_; have GE835 := n3_; clear n0_ n1_ n2_ n3_; clear hb hbox hg) | ((with_reducible refine gate_dst (N := 4) rfl ?_); refine box_event ?hg (N := 4) ?hd (cs := #[.slice none 0 0, .slice none 0 0]) (t := 33) ?hr ?_; (case hd => rfl); (case hg => rfl); (case hr => first | (go_simp; done) | (go_simp; rfl)); intro gb836 hg w52 hbox hb; have n0_ := am (blk_below (pkK BK835.out) hb); have n1_ := am (below_step (pkW HB.out) hb); have n2_ := am (hbox); have n3_ := am ((by rw [hg]; exact (below_size (pkW HB.out)) : w.heap.size ≤ gb836)); have n4_ := am ((by rw [hg]; exact (below_size (pkW HB.out)) : w.heap.size ≤ gb836)); have n5_ := am ((by rw [hg]; exact Nat.ne_of_lt (blk_lt (g := gb835) (o := .cells #[.slice A0_0 l0_0.length c0_0, .slice A0_1 l0_1.length c0_1] 33 (0, 0)) (pkK BK835.out)) : gb835 ≠ gb836)); have n6_ := am ((by rw [hg]; exact Nat.ne_of_gt (blk_lt (g := gb835) (o := .cells #[.slice A0_0 l0_0.length c0_0, .slice A0_1 l0_1.length c0_1] 33 (0, 0)) (pkK BK835.out)) : gb836 ≠ gb835)); clear BK835 HB; have BK835 := n0_; have HB := n1_; have BK836 := n2_; have GW836 := n3_; have GE836 := n4_; have NB835_836 := n5_; have NB836_835 := n6_; clear n0_ n1_ n2_ n3_ n4_ n5_ n6_; clear hb hbox hg; have hnb53 := NB835_836.out; have hnc53 := NB836_835.out; have hcz54_0 : w52.cell? ⟨gb835, 0, none⟩ = some (.slice A0_0 l0_0.length c0_0) := (blk_cell BK835.out 0).trans rfl; have hcz54_1 : w52.cell? ⟨gb835, 1, none⟩ = some (.slice A0_1 l0_1.length c0_1) := (blk_cell BK835.out 1).trans rfl; have hfz54_0 := blk_frozen BK835.out 0; have hfz54_1 := blk_frozen BK835.out 1) | ((with_reducible refine gate_callee (f := 70) rfl ?_); refine goesL_ (some 12) rfl rfl Try.func70 (by kernel_rfl) rfl #[.agg #[.slice A0_0 l0_0.length c0_0, .slice A0_1 l0_1.length c0_1]] rfl mpx ?_; (with_reducible refine (spec_l3Copy.calls _ _ l0_0 _ _ l0_1 t837 t840 _ ?side1 ?side2 ?side3 ?side4 A3.out).mono ?_); (case side1 => exact pkC (Kd.C_below HR0_0.out HB.out)); (case side2 => exact HC0_0.out); (case side3 => exact pkC (Kd.C_below HR0_1.out HB.out)); (case side4 => exact HC0_1.out); rintro e w55 ⟨v838, v841, rfl, ho0, ho1, hb⟩; refine ⟨_, rfl, ?_⟩; have n0_ := am (Kd.R_lower ho0 (below_size (pkW HB.out))); have n1_ := am (Kd.R_lower ho1 (below_size (pkW HB.out))); have n2_ := am (blk_below (pkK BK835.out) hb); have n3_ := am (blk_below (pkK BK836.out) hb); have n4_ := am (below_step (pkW HB.out) hb); clear BK835 BK836 HB; have HO839 := n0_; have HO842 := n1_; have BK835 := n2_; have BK836 := n3_; have HB := n4_; clear n0_ n1_ n2_ n3_ n4_; (try clear hb); (try clear hb2); (try clear hk); (try clear hi); (try clear ho0); (try clear ho1)) | ((with_reducible refine gate_dst (N := 7) rfl ?_); refine box_event ?hg (N := 7) ?hd (cs := #[.slice none 0 0, .slice none 0 0]) (t := 33) ?hr ?_; (case hd => rfl); (case hg => rfl); (case hr => first | (go_simp; done) | (go_simp; rfl)); intro gb843 hg w56 hbox hb; have n0_ := am (Kd.R_below (pkR HO839.out) hb); have n1_ := am (Kd.R_below (pkR HO842.out) hb); have n2_ := am (blk_below (pkK BK835.out) hb); have n3_ := am (blk_below (pkK BK836.out) hb); have n4_ := am (below_step (pkW HB.out) hb); have n5_ := am (hbox); have n6_ := am ((by rw [hg]; exact (below_size (pkW HB.out)) : w.heap.size ≤ gb843)); have n7_ := am ((by rw [hg]; exact (below_size (pkW HB.out)) : w.heap.size ≤ gb843)); have n8_ := am ((by rw [hg]; exact Nat.ne_of_lt (blk_lt (g := gb835) (o := .cells #[.slice A0_0 l0_0.length c0_0, .slice A0_1 l0_1.length c0_1] 33 (0, 0)) (pkK BK835.out)) : gb835 ≠ gb843)); have n9_ := am ((by rw [hg]; exact Nat.ne_of_gt (blk_lt (g := gb835) (o := .cells #[.slice A0_0 l0_0.length c0_0, .slice A0_1 l0_1.length c0_1] 33 (0, 0)) (pkK BK835.out)) : gb843 ≠ gb835)); have n10_ := am ((by rw [hg]; exact Nat.ne_of_lt (blk_lt (g := gb836) (o := .cells #[.slice none 0 0, .slice none 0 0] 33 (0, 0)) (pkK BK836.out)) : gb836 ≠ gb843)); have n11_ := am ((by rw [hg]; exact Nat.ne_of_gt (blk_lt (g := gb836) (o := .cells #[.slice none 0 0, .slice none 0 0] 33 (0, 0)) (pkK BK836.out)) : gb843 ≠ gb836)); clear HO839 HO842 BK835 BK836 HB; have HO839 := n0_; have HO842 := n1_; have BK835 := n2_; have BK836 := n3_; have HB := n4_; have BK843 := n5_; have GW843 := n6_; have GE843 := n7_; have NB835_843 := n8_; have NB843_835 := n9_; have NB836_843 := n10_; have NB843_836 := n11_; clear n0_ n1_ n2_ n3_ n4_ n5_ n6_ n7_ n8_ n9_ n10_ n11_; clear hb hbox hg; obtain ⟨Ao57, co57, eo57⟩ := Kd.R_slice HO839.out; subst eo57; have hnb58 := NB843_835.out; have hnc58 := NB835_843.out; have hnb59 := NB843_836.out; have hnc59 := NB836_843.out; have hcz60_0 : w56.cell? ⟨gb843, 0, none⟩ = some (.slice none 0 0) := (blk_cell BK843.out 0).trans rfl; have hcz60_1 : w56.cell? ⟨gb843, 1, none⟩ = some (.slice none 0 0) := (blk_cell BK843.out 1).trans rfl; have hfz60_0 := blk_frozen BK843.out 0; have hfz60_1 := blk_frozen BK843.out 1; obtain ⟨Ao61, co61, eo61⟩ := Kd.R_slice HO842.out; subst eo61; have hcz62_0 : w56.cell? ⟨gb835, 0, none⟩ = some (.slice A0_0 l0_0.length c0_0) := (blk_cell BK835.out 0).trans rfl; have hcz62_1 : w56.cell? ⟨gb835, 1, none⟩ = some (.slice A0_1 l0_1.length c0_1) := (blk_cell BK835.out 1).trans rfl; have hfz62_0 := blk_frozen BK835.out 0; have hfz62_1 := blk_frozen BK835.out 1) | ((with_reducible refine gate_callee (f := 22) rfl ?_); refine goesL_ (some 15) rfl rfl Try.func22 (by kernel_rfl) rfl #[.agg #[.slice A0_0 l0_0.length c0_0, .slice A0_1 l0_1.length c0_1]] rfl mpx ?_; (with_reducible refine (spec_TokensOk.calls k _ _ l0_0 _ _ l0_1 true _ ?side1 ?side2 ?side3 ?side4 A4.out).mono ?_); (case side1 => exact Kd.C_below HR0_0.out (pkW HB.out)); (case side2 => exact HC0_0.out); (case side3 => exact Kd.C_below HR0_1.out (pkW HB.out)); (case side4 => exact HC0_1.out); rintro e w63 ⟨rfl, hb⟩; refine ⟨_, rfl, ?_⟩; have n0_ := am (Kd.R_below (by (with_reducible repeat (first | apply Kd.R_alloc | apply Kd.R_drewN | apply Kd.R_drew)); exact (Kd.R_mono (Kd.R_far (p := ⟨gb843, 1, none⟩) (Kd.R_far (p := ⟨gb843, 0, none⟩) (Kd.R_types HO839.out BK843.out (by decide)) (fun _ hk => hk.2) (.slice Ao57 t837.length co57)) (fun _ hk => hk.2) (.slice Ao61 t840.length co61)) (fun _ h_ => h_.1))) hb); have n1_ := am (Kd.R_below (by (with_reducible repeat (first | apply Kd.R_alloc | apply Kd.R_drewN | apply Kd.R_drew)); exact (Kd.R_mono (Kd.R_far (p := ⟨gb843, 1, none⟩) (Kd.R_far (p := ⟨gb843, 0, none⟩) (Kd.R_types HO842.out BK843.out (by decide)) (fun _ hk => hk.2) (.slice Ao57 t837.length co57)) (fun _ hk => hk.2) (.slice Ao61 t840.length co61)) (fun _ h_ => h_.1))) hb); have n2_ := am (blk_below (g := gb835) (o := .cells #[.slice A0_0 l0_0.length c0_0, .slice A0_1 l0_1.length c0_1] 33 (0, 0)) (by (with_reducible repeat (first | refine blk_drewN ?_ _ | refine blk_drew ?_ | refine blk_alloc ?_ _)); refine blk_far ?_ NB835_843.out _; (with_reducible repeat (first | refine blk_drewN ?_ _ | refine blk_drew ?_ | refine blk_alloc ?_ _)); refine blk_far ?_ NB835_843.out _; exact pkK BK835.out) hb); have n3_ := am (blk_below (g := gb836) (o := .cells #[.slice none 0 0, .slice none 0 0] 33 (0, 0)) (by (with_reducible repeat (first | refine blk_drewN ?_ _ | refine blk_drew ?_ | refine blk_alloc ?_ _)); refine blk_far ?_ NB836_843.out _; (with_reducible repeat (first | refine blk_drewN ?_ _ | refine blk_drew ?_ | refine blk_alloc ?_ _)); refine blk_far ?_ NB836_843.out _; exact pkK BK836.out) hb); have n4_ := am (blk_below (g := gb843) (o := .cells #[.slice Ao57 t837.length co57, .slice Ao61 t840.length co61] 33 (0, 0)) (by (with_reducible repeat (first | refine blk_drewN ?_ _ | refine blk_drew ?_ | refine blk_alloc ?_ _)); refine blk_put (cs := #[.slice Ao57 t837.length co57, .slice none 0 0]) ?_ 1 _ rfl; (with_reducible repeat (first | refine blk_drewN ?_ _ | refine blk_drew ?_ | refine blk_alloc ?_ _)); refine blk_put (cs := #[.slice none 0 0, .slice none 0 0]) ?_ 0 _ rfl; exact pkK BK843.out) hb); have n5_ := am (below_step (pkW HB.out) hb); clear HO839 HO842 BK835 BK836 BK843 HB; have HO839 := n0_; have HO842 := n1_; have BK835 := n2_; have BK836 := n3_; have BK843 := n4_; have HB := n5_; clear n0_ n1_ n2_ n3_ n4_ n5_; (try clear hb); (try clear hb2); (try clear hk); (try clear hi); have hcz64_0 : w63.cell? ⟨gb835, 0, none⟩ = some (.slice A0_0 l0_0.length c0_0) := (blk_cell BK835.out 0).trans rfl; have hcz64_1 : w63.cell? ⟨gb835, 1, none⟩ = some (.slice A0_1 l0_1.length c0_1) := (blk_cell BK835.out 1).trans rfl; have hfz64_0 := blk_frozen BK835.out 0; have hfz64_1 := blk_frozen BK835.out 1) | ((with_reducible refine gate_callee (f := 57) rfl ?_); refine goesL_ (some 24) rfl rfl Try.func57 (by kernel_rfl) rfl #[.int .i64 a1, .int .i64 0, .int .i64 (wrap64 ((l0_0.length : Int) - 1))] rfl mpx ?_; (with_reducible refine (spec_l1In.calls a1 0 (wrap64 ((l0_0.length : Int) - 1)) false _ A6.out).mono ?_); rintro e w' ⟨rfl, ⟨nd, rfl⟩⟩; refine ⟨_, rfl, ?_⟩; (try (rw [drewN_self w63]; generalize hq_ : World.drewN w63 _ = w63; have n0_ : Aside0 (Kd.R (Kd.int .i64) 3 w63 w.heap.size (fun _ => True) (.slice Ao57 t837.length co57) t837) := ⟨by rw [← hq_]; exact (pkR HO839.out)⟩; have n1_ : Aside0 (Kd.R Kd.bool 4 w63 w.heap.size (fun _ => True) (.slice Ao61 t840.length co61) t840) := ⟨by rw [← hq_]; exact (pkR HO842.out)⟩; have n2_ : Aside0 (w63.heap[gb835]? = some (.cells #[.slice A0_0 l0_0.length c0_0, .slice A0_1 l0_1.length c0_1] 33 (0, 0))) := ⟨by rw [← hq_]; exact (pkK BK835.out)⟩; have n3_ : Aside0 (w63.heap[gb836]? = some (.cells #[.slice none 0 0, .slice none 0 0] 33 (0, 0))) := ⟨by rw [← hq_]; exact (pkK BK836.out)⟩; have n4_ : Aside0 (w63.heap[gb843]? = some (.cells #[.slice Ao57 t837.length co57, .slice Ao61 t840.length co61] 33 (0, 0))) := ⟨by rw [← hq_]; exact (pkK BK843.out)⟩; have n5_ : Aside0 (Below w.heap.size w w63) := ⟨by rw [← hq_]; exact (pkW HB.out)⟩; clear HO839 HO842 BK835 BK836 BK843 HB hq_; have HO839 := n0_; have HO842 := n1_; have BK835 := n2_; have BK836 := n3_; have BK843 := n4_; have HB := n5_; clear n0_ n1_ n2_ n3_ n4_ n5_)); have hcz65_0 : w63.cell? ⟨gb843, 0, none⟩ = some (.slice Ao57 t837.length co57) := (blk_cell BK843.out 0).trans rfl; have hcz65_1 : w63.cell? ⟨gb843, 1, none⟩ = some (.slice Ao61 t840.length co61) := (blk_cell BK843.out 1).trans rfl; have hfz65_0 := blk_frozen BK843.out 0; have hfz65_1 := blk_frozen BK843.out 1; have hcz66_0 : w63.cell? ⟨gb836, 0, none⟩ = some (.slice none 0 0) := (blk_cell BK836.out 0).trans rfl; have hcz66_1 : w63.cell? ⟨gb836, 1, none⟩ = some (.slice none 0 0) := (blk_cell BK836.out 1).trans rfl; have hfz66_0 := blk_frozen BK836.out 0; have hfz66_1 := blk_frozen BK836.out 1))
      refine bodyPost_ret (results_ctt rfl _ _ gb836 33 #[.slice Ao57 t837.length co57, .slice Ao61 t840.length co61] (0, 0) _ rfl (by (with_reducible repeat (first | refine blk_drewN ?_ _ | refine blk_drew ?_ | refine blk_alloc ?_ _)); refine blk_put (cs := #[.slice Ao57 t837.length co57, .slice none 0 0]) ?_ 1 _ rfl; (with_reducible repeat (first | refine blk_drewN ?_ _ | refine blk_drew ?_ | refine blk_alloc ?_ _)); refine blk_put (cs := #[.slice none 0 0, .slice none 0 0]) ?_ 0 _ rfl; exact pkK BK836.out) Try.underlying33 rfl (by kernel_rfl)) rfl ?_
      exact ⟨_, _, _, rfe, by (with_reducible repeat (first | apply Kd.R_alloc | apply Kd.R_drewN | apply Kd.R_drew)); exact Kd.R_mono (Kd.R_far (p := ⟨gb836, 1, none⟩) (Kd.R_far (p := ⟨gb836, 0, none⟩) (Kd.R_types HO839.out BK836.out (by decide)) (fun _ hk => hk.2) (.slice Ao57 t837.length co57)) (fun _ hk => hk.2) (.slice Ao61 t840.length co61)) (fun _ hk => (by simp [Value.ownBlock])), by (with_reducible repeat (first | apply Kd.R_alloc | apply Kd.R_drewN | apply Kd.R_drew)); exact Kd.R_mono (Kd.R_far (p := ⟨gb836, 1, none⟩) (Kd.R_far (p := ⟨gb836, 0, none⟩) (Kd.R_types HO842.out BK836.out (by decide)) (fun _ hk => hk.2) (.slice Ao57 t837.length co57)) (fun _ hk => hk.2) (.slice Ao61 t840.length co61)) (fun _ hk => trivial), by first | exact Kd.R_nil _ _ _ _ _ | exact Kd.N_nil _ _ _ _ _ | exact Kd.V_nil _ _ _ _ _ | exact Kd.Q_nil _ _ _ _ _ | exact Kd.S_nil _ _ _ _ _, pkW HB.out⟩
  · replace c5 := Bool.eq_false_iff.mpr c5
    subst c5
    replace H : (some (t837, t840, ([] : List Int), 1)) = some (r1, r2, r3, r4) := by rw [if_neg (show ¬ (false = true) by decide)] at H; exact H
    simp only [Option.some.injEq, Prod.mk.injEq] at H
    obtain ⟨rfl, rfl, rfl, rfl⟩ := H
    go_enter Try.func46, Try.ntmps46
    go_wp2_with (first | ((with_reducible refine gate_dst (N := 2) rfl ?_); refine box_event ?hg (N := 2) ?hd (cs := #[.slice A0_0 l0_0.length c0_0, .slice A0_1 l0_1.length c0_1]) (t := 33) ?hr ?_; (case hd => rfl); (case hg => rfl); (case hr => first | (go_simp; done) | (go_simp; rfl)); intro gb835 hg w67 hbox hb; have n0_ := am (below_step (pkB HB.out) hb); have n1_ := am (hbox); have n2_ := am ((by rw [hg]; exact (below_size (pkB HB.out)) : w.heap.size ≤ gb835)); have n3_ := am ((by rw [hg]; exact (below_size (pkB HB.out)) : w.heap.size ≤ gb835)); clear HB; have HB := n0_; have BK835 := n1_; have GW835 := n2_; have GE835 := n3_; clear n0_ n1_ n2_ n3_; clear hb hbox hg) | ((with_reducible refine gate_dst (N := 4) rfl ?_); refine box_event ?hg (N := 4) ?hd (cs := #[.slice none 0 0, .slice none 0 0]) (t := 33) ?hr ?_; (case hd => rfl); (case hg => rfl); (case hr => first | (go_simp; done) | (go_simp; rfl)); intro gb836 hg w68 hbox hb; have n0_ := am (blk_below (pkK BK835.out) hb); have n1_ := am (below_step (pkW HB.out) hb); have n2_ := am (hbox); have n3_ := am ((by rw [hg]; exact (below_size (pkW HB.out)) : w.heap.size ≤ gb836)); have n4_ := am ((by rw [hg]; exact (below_size (pkW HB.out)) : w.heap.size ≤ gb836)); have n5_ := am ((by rw [hg]; exact Nat.ne_of_lt (blk_lt (g := gb835) (o := .cells #[.slice A0_0 l0_0.length c0_0, .slice A0_1 l0_1.length c0_1] 33 (0, 0)) (pkK BK835.out)) : gb835 ≠ gb836)); have n6_ := am ((by rw [hg]; exact Nat.ne_of_gt (blk_lt (g := gb835) (o := .cells #[.slice A0_0 l0_0.length c0_0, .slice A0_1 l0_1.length c0_1] 33 (0, 0)) (pkK BK835.out)) : gb836 ≠ gb835)); clear BK835 HB; have BK835 := n0_; have HB := n1_; have BK836 := n2_; have GW836 := n3_; have GE836 := n4_; have NB835_836 := n5_; have NB836_835 := n6_; clear n0_ n1_ n2_ n3_ n4_ n5_ n6_; clear hb hbox hg; have hnb69 := NB835_836.out; have hnc69 := NB836_835.out; have hcz70_0 : w68.cell? ⟨gb835, 0, none⟩ = some (.slice A0_0 l0_0.length c0_0) := (blk_cell BK835.out 0).trans rfl; have hcz70_1 : w68.cell? ⟨gb835, 1, none⟩ = some (.slice A0_1 l0_1.length c0_1) := (blk_cell BK835.out 1).trans rfl; have hfz70_0 := blk_frozen BK835.out 0; have hfz70_1 := blk_frozen BK835.out 1) | ((with_reducible refine gate_callee (f := 70) rfl ?_); refine goesL_ (some 12) rfl rfl Try.func70 (by kernel_rfl) rfl #[.agg #[.slice A0_0 l0_0.length c0_0, .slice A0_1 l0_1.length c0_1]] rfl mpx ?_; (with_reducible refine (spec_l3Copy.calls _ _ l0_0 _ _ l0_1 t837 t840 _ ?side1 ?side2 ?side3 ?side4 A3.out).mono ?_); (case side1 => exact pkC (Kd.C_below HR0_0.out HB.out)); (case side2 => exact HC0_0.out); (case side3 => exact pkC (Kd.C_below HR0_1.out HB.out)); (case side4 => exact HC0_1.out); rintro e w71 ⟨v838, v841, rfl, ho0, ho1, hb⟩; refine ⟨_, rfl, ?_⟩; have n0_ := am (Kd.R_lower ho0 (below_size (pkW HB.out))); have n1_ := am (Kd.R_lower ho1 (below_size (pkW HB.out))); have n2_ := am (blk_below (pkK BK835.out) hb); have n3_ := am (blk_below (pkK BK836.out) hb); have n4_ := am (below_step (pkW HB.out) hb); clear BK835 BK836 HB; have HO839 := n0_; have HO842 := n1_; have BK835 := n2_; have BK836 := n3_; have HB := n4_; clear n0_ n1_ n2_ n3_ n4_; (try clear hb); (try clear hb2); (try clear hk); (try clear hi); (try clear ho0); (try clear ho1)) | ((with_reducible refine gate_dst (N := 7) rfl ?_); refine box_event ?hg (N := 7) ?hd (cs := #[.slice none 0 0, .slice none 0 0]) (t := 33) ?hr ?_; (case hd => rfl); (case hg => rfl); (case hr => first | (go_simp; done) | (go_simp; rfl)); intro gb843 hg w72 hbox hb; have n0_ := am (Kd.R_below (pkR HO839.out) hb); have n1_ := am (Kd.R_below (pkR HO842.out) hb); have n2_ := am (blk_below (pkK BK835.out) hb); have n3_ := am (blk_below (pkK BK836.out) hb); have n4_ := am (below_step (pkW HB.out) hb); have n5_ := am (hbox); have n6_ := am ((by rw [hg]; exact (below_size (pkW HB.out)) : w.heap.size ≤ gb843)); have n7_ := am ((by rw [hg]; exact (below_size (pkW HB.out)) : w.heap.size ≤ gb843)); have n8_ := am ((by rw [hg]; exact Nat.ne_of_lt (blk_lt (g := gb835) (o := .cells #[.slice A0_0 l0_0.length c0_0, .slice A0_1 l0_1.length c0_1] 33 (0, 0)) (pkK BK835.out)) : gb835 ≠ gb843)); have n9_ := am ((by rw [hg]; exact Nat.ne_of_gt (blk_lt (g := gb835) (o := .cells #[.slice A0_0 l0_0.length c0_0, .slice A0_1 l0_1.length c0_1] 33 (0, 0)) (pkK BK835.out)) : gb843 ≠ gb835)); have n10_ := am ((by rw [hg]; exact Nat.ne_of_lt (blk_lt (g := gb836) (o := .cells #[.slice none 0 0, .slice none 0 0] 33 (0, 0)) (pkK BK836.out)) : gb836 ≠ gb843)); have n11_ := am ((by rw [hg]; exact Nat.ne_of_gt (blk_lt (g := gb836) (o := .cells #[.slice none 0 0, .slice none 0 0] 33 (0, 0)) (pkK BK836.out)) : gb843 ≠ gb836)); clear HO839 HO842 BK835 BK836 HB; have HO839 := n0_; have HO842 := n1_; have BK835 := n2_; have BK836 := n3_; have HB := n4_; have BK843 := n5_; have GW843 := n6_; have GE843 := n7_; have NB835_843 := n8_; have NB843_835 := n9_; have NB836_843 := n10_; have NB843_836 := n11_; clear n0_ n1_ n2_ n3_ n4_ n5_ n6_ n7_ n8_ n9_ n10_ n11_; clear hb hbox hg; obtain ⟨Ao73, co73, eo73⟩ := Kd.R_slice HO839.out; subst eo73; have hnb74 := NB843_835.out; have hnc74 := NB835_843.out; have hnb75 := NB843_836.out; have hnc75 := NB836_843.out; have hcz76_0 : w72.cell? ⟨gb843, 0, none⟩ = some (.slice none 0 0) := (blk_cell BK843.out 0).trans rfl; have hcz76_1 : w72.cell? ⟨gb843, 1, none⟩ = some (.slice none 0 0) := (blk_cell BK843.out 1).trans rfl; have hfz76_0 := blk_frozen BK843.out 0; have hfz76_1 := blk_frozen BK843.out 1; obtain ⟨Ao77, co77, eo77⟩ := Kd.R_slice HO842.out; subst eo77; have hcz78_0 : w72.cell? ⟨gb835, 0, none⟩ = some (.slice A0_0 l0_0.length c0_0) := (blk_cell BK835.out 0).trans rfl; have hcz78_1 : w72.cell? ⟨gb835, 1, none⟩ = some (.slice A0_1 l0_1.length c0_1) := (blk_cell BK835.out 1).trans rfl; have hfz78_0 := blk_frozen BK835.out 0; have hfz78_1 := blk_frozen BK835.out 1) | ((with_reducible refine gate_callee (f := 22) rfl ?_); refine goesL_ (some 15) rfl rfl Try.func22 (by kernel_rfl) rfl #[.agg #[.slice A0_0 l0_0.length c0_0, .slice A0_1 l0_1.length c0_1]] rfl mpx ?_; (with_reducible refine (spec_TokensOk.calls k _ _ l0_0 _ _ l0_1 false _ ?side1 ?side2 ?side3 ?side4 A4.out).mono ?_); (case side1 => exact Kd.C_below HR0_0.out (pkW HB.out)); (case side2 => exact HC0_0.out); (case side3 => exact Kd.C_below HR0_1.out (pkW HB.out)); (case side4 => exact HC0_1.out); rintro e w79 ⟨rfl, hb⟩; refine ⟨_, rfl, ?_⟩; have n0_ := am (Kd.R_below (by (with_reducible repeat (first | apply Kd.R_alloc | apply Kd.R_drewN | apply Kd.R_drew)); exact (Kd.R_mono (Kd.R_far (p := ⟨gb843, 1, none⟩) (Kd.R_far (p := ⟨gb843, 0, none⟩) (Kd.R_types HO839.out BK843.out (by decide)) (fun _ hk => hk.2) (.slice Ao73 t837.length co73)) (fun _ hk => hk.2) (.slice Ao77 t840.length co77)) (fun _ h_ => h_.1))) hb); have n1_ := am (Kd.R_below (by (with_reducible repeat (first | apply Kd.R_alloc | apply Kd.R_drewN | apply Kd.R_drew)); exact (Kd.R_mono (Kd.R_far (p := ⟨gb843, 1, none⟩) (Kd.R_far (p := ⟨gb843, 0, none⟩) (Kd.R_types HO842.out BK843.out (by decide)) (fun _ hk => hk.2) (.slice Ao73 t837.length co73)) (fun _ hk => hk.2) (.slice Ao77 t840.length co77)) (fun _ h_ => h_.1))) hb); have n2_ := am (blk_below (g := gb835) (o := .cells #[.slice A0_0 l0_0.length c0_0, .slice A0_1 l0_1.length c0_1] 33 (0, 0)) (by (with_reducible repeat (first | refine blk_drewN ?_ _ | refine blk_drew ?_ | refine blk_alloc ?_ _)); refine blk_far ?_ NB835_843.out _; (with_reducible repeat (first | refine blk_drewN ?_ _ | refine blk_drew ?_ | refine blk_alloc ?_ _)); refine blk_far ?_ NB835_843.out _; exact pkK BK835.out) hb); have n3_ := am (blk_below (g := gb836) (o := .cells #[.slice none 0 0, .slice none 0 0] 33 (0, 0)) (by (with_reducible repeat (first | refine blk_drewN ?_ _ | refine blk_drew ?_ | refine blk_alloc ?_ _)); refine blk_far ?_ NB836_843.out _; (with_reducible repeat (first | refine blk_drewN ?_ _ | refine blk_drew ?_ | refine blk_alloc ?_ _)); refine blk_far ?_ NB836_843.out _; exact pkK BK836.out) hb); have n4_ := am (blk_below (g := gb843) (o := .cells #[.slice Ao73 t837.length co73, .slice Ao77 t840.length co77] 33 (0, 0)) (by (with_reducible repeat (first | refine blk_drewN ?_ _ | refine blk_drew ?_ | refine blk_alloc ?_ _)); refine blk_put (cs := #[.slice Ao73 t837.length co73, .slice none 0 0]) ?_ 1 _ rfl; (with_reducible repeat (first | refine blk_drewN ?_ _ | refine blk_drew ?_ | refine blk_alloc ?_ _)); refine blk_put (cs := #[.slice none 0 0, .slice none 0 0]) ?_ 0 _ rfl; exact pkK BK843.out) hb); have n5_ := am (below_step (pkW HB.out) hb); clear HO839 HO842 BK835 BK836 BK843 HB; have HO839 := n0_; have HO842 := n1_; have BK835 := n2_; have BK836 := n3_; have BK843 := n4_; have HB := n5_; clear n0_ n1_ n2_ n3_ n4_ n5_; (try clear hb); (try clear hb2); (try clear hk); (try clear hi); have hcz80_0 : w79.cell? ⟨gb843, 0, none⟩ = some (.slice Ao73 t837.length co73) := (blk_cell BK843.out 0).trans rfl; have hcz80_1 : w79.cell? ⟨gb843, 1, none⟩ = some (.slice Ao77 t840.length co77) := (blk_cell BK843.out 1).trans rfl; have hfz80_0 := blk_frozen BK843.out 0; have hfz80_1 := blk_frozen BK843.out 1; have hcz81_0 : w79.cell? ⟨gb836, 0, none⟩ = some (.slice none 0 0) := (blk_cell BK836.out 0).trans rfl; have hcz81_1 : w79.cell? ⟨gb836, 1, none⟩ = some (.slice none 0 0) := (blk_cell BK836.out 1).trans rfl; have hfz81_0 := blk_frozen BK836.out 0; have hfz81_1 := blk_frozen BK836.out 1))
    refine bodyPost_ret (results_ctt rfl _ _ gb836 33 #[.slice Ao73 t837.length co73, .slice Ao77 t840.length co77] (0, 0) _ rfl (by (with_reducible repeat (first | refine blk_drewN ?_ _ | refine blk_drew ?_ | refine blk_alloc ?_ _)); refine blk_put (cs := #[.slice Ao73 t837.length co73, .slice none 0 0]) ?_ 1 _ rfl; (with_reducible repeat (first | refine blk_drewN ?_ _ | refine blk_drew ?_ | refine blk_alloc ?_ _)); refine blk_put (cs := #[.slice none 0 0, .slice none 0 0]) ?_ 0 _ rfl; exact pkK BK836.out) Try.underlying33 rfl (by kernel_rfl)) rfl ?_
    exact ⟨_, _, _, rfe, by (with_reducible repeat (first | apply Kd.R_alloc | apply Kd.R_drewN | apply Kd.R_drew)); exact Kd.R_mono (Kd.R_far (p := ⟨gb836, 1, none⟩) (Kd.R_far (p := ⟨gb836, 0, none⟩) (Kd.R_types HO839.out BK836.out (by decide)) (fun _ hk => hk.2) (.slice Ao73 t837.length co73)) (fun _ hk => hk.2) (.slice Ao77 t840.length co77)) (fun _ hk => (by simp [Value.ownBlock])), by (with_reducible repeat (first | apply Kd.R_alloc | apply Kd.R_drewN | apply Kd.R_drew)); exact Kd.R_mono (Kd.R_far (p := ⟨gb836, 1, none⟩) (Kd.R_far (p := ⟨gb836, 0, none⟩) (Kd.R_types HO842.out BK836.out (by decide)) (fun _ hk => hk.2) (.slice Ao73 t837.length co73)) (fun _ hk => hk.2) (.slice Ao77 t840.length co77)) (fun _ hk => trivial), by first | exact Kd.R_nil _ _ _ _ _ | exact Kd.N_nil _ _ _ _ _ | exact Kd.V_nil _ _ _ _ _ | exact Kd.Q_nil _ _ _ _ _ | exact Kd.S_nil _ _ _ _ _, pkW HB.out⟩
end Go.Proofs.Ytghmhekjdjdleaa.Z
