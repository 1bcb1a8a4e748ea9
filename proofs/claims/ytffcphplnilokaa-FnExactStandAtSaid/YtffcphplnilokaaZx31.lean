/- The Go functions spec_StandAt as Lean functions, each with a proof that its code comes to just these answers; conditions: those of each theorem. -/
import Derived.Test.YtffcphplnilokaaZx0
import Derived.Test.YtffcphplnilokaaZx17
import Derived.Test.YtffcphplnilokaaZx21
import Derived.Test.YtffcphplnilokaaZx30
namespace Go.Proofs.Ytffcphplnilokaa.Z
open Go.RowKit Go.Proofs.YtffcphplnilokaaW.PrintWords Go.Proofs.YtffcphplnilokaaW.PrintLast Go.Proofs.YtffcphplnilokaaW.PrintMore
attribute [local go_sem] max2_int min2_int max_two min_two max_three min_three max_four min_four   -- for this text's walks alone
set_option linter.unusedVariables false
set_option linter.unusedSimpArgs false
mutual
def spec_StandAt.j0 : Nat → Int → Bool → Int → List Int → List Int → Int → List Int → List Int → Option (Int × List Int × List Int × Int)
 | 0, _, _, _, _, _, _, _, _ => none
 | k + 1, x1, x9, x620000, x620001, x620002, x629000, x629001, x629002 => if x9 = true then (some (x629000, x629001, x629002, 1)) else ((spec_l2Has.f k x620001 x1).bind fun t631 => (if t631 = true then (spec_StandAt.j1 k x1 true x620000 x620001 x620002 x629000 x629001 x629002) else ((spec_l2Has.f k x620002 x1).bind fun t632 => (spec_StandAt.j1 k x1 t632 x620000 x620001 x620002 x629000 x629001 x629002))))
def spec_StandAt.j1 : Nat → Int → Bool → Int → List Int → List Int → Int → List Int → List Int → Option (Int × List Int × List Int × Int)
 | 0, _, _, _, _, _, _, _, _ => none
 | k + 1, x1, x19, x620000, x620001, x620002, x629000, x629001, x629002 => if x19 = true then (some (x629000, x629001, x629002, 5)) else (if x620000 = 0 then (some (x629000, x629001, x629002, 0)) else (if (x620001.length : Int) ≥ 32 then (some (x629000, x629001, x629002, 2)) else (if x629001.length < 17592186044416 then (some (x629000, (x629001 ++ [x1]), x629002, 4)) else (none))))
end
def spec_StandAt.f (k : Nat) (a0_0 : Int) (l0_1 : List Int) (l0_2 : List Int) (a1 : Int) : Option (Int × List Int × List Int × Int) := (spec_l6CopyLatch.f a0_0 l0_1 l0_2).bind fun bt621 => ((spec_LatchOk.f k a0_0 l0_1 l0_2).bind fun t629 => (if t629 = true then ((spec_l2Client.f a1).bind fun t630 => (spec_StandAt.j0 k a1 (!t630) a0_0 l0_1 l0_2 bt621.1 bt621.2.1 bt621.2.2)) else (spec_StandAt.j0 k a1 true a0_0 l0_1 l0_2 bt621.1 bt621.2.1 bt621.2.2)))
theorem spec_StandAt.mono_l : ∀ k, (∀ y0 y1 y2 y3 y4 y5 y6 y7, LeO (spec_StandAt.j0 k y0 y1 y2 y3 y4 y5 y6 y7) (spec_StandAt.j0 (k + 1) y0 y1 y2 y3 y4 y5 y6 y7)) ∧ (∀ y0 y1 y2 y3 y4 y5 y6 y7, LeO (spec_StandAt.j1 k y0 y1 y2 y3 y4 y5 y6 y7) (spec_StandAt.j1 (k + 1) y0 y1 y2 y3 y4 y5 y6 y7))
 | 0 => ⟨fun _ _ _ _ _ _ _ _ r h => by simp [spec_StandAt.j0] at h, fun _ _ _ _ _ _ _ _ r h => by simp [spec_StandAt.j1] at h⟩
 | k + 1 => by
  obtain ⟨ih0, ih1⟩ := spec_StandAt.mono_l k
  refine ⟨?_, ?_⟩
  ·intro y0 y1 y2 y3 y4 y5 y6 y7
   unfold spec_StandAt.j0
   repeat' first
   | (with_reducible exact ih0 _ _ _ _ _ _ _ _)
   | (with_reducible exact ih1 _ _ _ _ _ _ _ _)
   | (with_reducible exact spec_LatchOk.mono _ _ _ _)
   | (with_reducible exact spec_l2Has.mono _ _ _)
   | (with_reducible exact LeO.refl _)
   | (with_reducible exact LeO.none _)
   | (with_reducible refine LeO.ite ?_ ?_)
   | (with_reducible refine LeO.bind ?_ (fun _ => ?_))
  ·intro y0 y1 y2 y3 y4 y5 y6 y7
   unfold spec_StandAt.j1
   repeat' first
   | (with_reducible exact ih0 _ _ _ _ _ _ _ _)
   | (with_reducible exact ih1 _ _ _ _ _ _ _ _)
   | (with_reducible exact spec_LatchOk.mono _ _ _ _)
   | (with_reducible exact spec_l2Has.mono _ _ _)
   | (with_reducible exact LeO.refl _)
   | (with_reducible exact LeO.none _)
   | (with_reducible refine LeO.ite ?_ ?_)
   | (with_reducible refine LeO.bind ?_ (fun _ => ?_))
theorem spec_StandAt.mono : ∀ a0 a1 a2 a3 k, LeO (spec_StandAt.f k a0 a1 a2 a3) (spec_StandAt.f (k + 1) a0 a1 a2 a3) := by
 intro a0 a1 a2 a3 k
 obtain ⟨ih0, ih1⟩ := spec_StandAt.mono_l k
 unfold spec_StandAt.f
 repeat' first
   | (with_reducible exact ih0 _ _ _ _ _ _ _ _)
   | (with_reducible exact ih1 _ _ _ _ _ _ _ _)
   | (with_reducible exact spec_LatchOk.mono _ _ _ _)
   | (with_reducible exact spec_l2Has.mono _ _ _)
   | (with_reducible exact LeO.refl _)
   | (with_reducible exact LeO.none _)
   | (with_reducible refine LeO.ite ?_ ?_)
   | (with_reducible refine LeO.bind ?_ (fun _ => ?_))
set_option maxHeartbeats 8000000 in
set_option maxRecDepth 100000 in
theorem spec_StandAt.calls (k : Nat) (a0_0 : Int) (A0_1 : Option Addr) (c0_1 : Nat) (l0_1 : List Int) (A0_2 : Option Addr) (c0_2 : Nat) (l0_2 : List Int) (a1 : Int) (r1 : Int) (r2 : List Int) (r3 : List Int) (r4 : Int) (w : World) (hr0_1 : Kd.C (Kd.int .i64) w A0_1 l0_1.length l0_1) (hc0_1 : l0_1.length ≤ c0_1) (hr0_2 : Kd.C (Kd.int .i64) w A0_2 l0_2.length l0_2) (hc0_2 : l0_2.length ≤ c0_2) (h : spec_StandAt.f k a0_0 l0_1 l0_2 a1 = some (r1, r2, r3, r4)) :
  Calls Try.prog 35 #[.agg #[.int .i64 a0_0, .slice A0_1 l0_1.length c0_1, .slice A0_2 l0_2.length c0_2], .int .i64 a1] w fun e w' => ∃ v1_ v2_ : Value, e = .returned (.tuple #[.agg #[.int .i64 r1, v1_, v2_], .int .i64 r4]) ∧ Kd.R (Kd.int .i64) 3 w' w.heap.size (fun k_ => some k_ ≠ (v2_ : Value).ownBlock) v1_ r2 ∧ Kd.R (Kd.int .i64) 3 w' w.heap.size (fun k_ => some k_ ≠ (v1_ : Value).ownBlock) v2_ r3 ∧ Below w.heap.size w w' := by
 have hu46 := Try.underlying46
 have HR0_1 := am hr0_1
 have HC0_1 := am hc0_1
 clear hr0_1 hc0_1
 have HR0_2 := am hr0_2
 have HC0_2 := am hc0_2
 clear hr0_2 hc0_2
 have HB := am (Below.refl w.heap.size w)
 have H : ((spec_l6CopyLatch.f a0_0 l0_1 l0_2).bind fun bt621 => ((spec_LatchOk.f k a0_0 l0_1 l0_2).bind fun t629 => (if t629 = true then ((spec_l2Client.f a1).bind fun t630 => (spec_StandAt.j0 k a1 (!t630) a0_0 l0_1 l0_2 bt621.1 bt621.2.1 bt621.2.2)) else (spec_StandAt.j0 k a1 true a0_0 l0_1 l0_2 bt621.1 bt621.2.1 bt621.2.2)))) = some (r1, r2, r3, r4) := h
 clear h
 replace H := Option.bind_eq_some_iff.mp H
 obtain ⟨⟨t621, t622, t625⟩, A30, H⟩ := H
 replace H : ((spec_LatchOk.f k a0_0 l0_1 l0_2).bind fun t629 => (if t629 = true then ((spec_l2Client.f a1).bind fun t630 => (spec_StandAt.j0 k a1 (!t630) a0_0 l0_1 l0_2 t621 t622 t625)) else (spec_StandAt.j0 k a1 true a0_0 l0_1 l0_2 t621 t622 t625))) = some (r1, r2, r3, r4) := H
 have A3 := am A30
 clear A30
 have HC4 := am H
 clear H
 go_enter Try.func35, Try.ntmps35
 go_upto_region 2 with (first | ((with_reducible refine gate_dst (N := 2) rfl ?_); refine box_event ?hg (N := 2) ?hd (cs := #[.int .i64 a0_0, .slice A0_1 l0_1.length c0_1, .slice A0_2 l0_2.length c0_2]) (t := 46) ?hr ?_; (case hd => rfl); (case hg => rfl); (case hr => first | (go_simp; done) | (go_simp; rfl)); intro gb619 hg w5 hbox hb; have BK619 := am (hbox); have GW619 := am ((by rw [hg]; exact (below_size (pkB HB.out)) : w.heap.size ≤ gb619)); have GE619 := am ((by rw [hg]; exact (below_size (pkB HB.out)) : w.heap.size ≤ gb619)); replace HB := am (below_step (pkB HB.out) hb); clear hb hbox hg) | ((with_reducible refine gate_dst (N := 4) rfl ?_); refine box_event ?hg (N := 4) ?hd (cs := #[.int .i64 0, .slice none 0 0, .slice none 0 0]) (t := 46) ?hr ?_; (case hd => rfl); (case hg => rfl); (case hr => first | (go_simp; done) | (go_simp; rfl)); intro gb620 hg w6 hbox hb; have BK620 := am (hbox); have GW620 := am ((by rw [hg]; exact (below_size (pkW HB.out)) : w.heap.size ≤ gb620)); have GE620 := am ((by rw [hg]; exact (below_size (pkW HB.out)) : w.heap.size ≤ gb620)); replace HB := am (below_step (pkW HB.out) hb); have NB619_620 := am ((by rw [hg]; exact Nat.ne_of_lt (blk_lt (g := gb619) (o := .cells #[.int .i64 a0_0, .slice A0_1 l0_1.length c0_1, .slice A0_2 l0_2.length c0_2] 46 (0, 0)) (pkK BK619.out)) : gb619 ≠ gb620)); have NB620_619 := am ((by rw [hg]; exact Nat.ne_of_gt (blk_lt (g := gb619) (o := .cells #[.int .i64 a0_0, .slice A0_1 l0_1.length c0_1, .slice A0_2 l0_2.length c0_2] 46 (0, 0)) (pkK BK619.out)) : gb620 ≠ gb619)); replace BK619 := am (blk_below (pkK BK619.out) hb); clear hb hbox hg; have hnb7 := NB619_620.out; have hnc7 := NB620_619.out; obtain ⟨hcz8_0, hcz8_1, hcz8_2, hfz8_0, hfz8_1, hfz8_2⟩ := bk3 BK619.out) | ((with_reducible refine gate_callee (f := 74) rfl ?_); refine goesL_ (some 8) rfl rfl Try.func74 (by kernel_rfl) rfl #[.agg #[.int .i64 a0_0, .slice A0_1 l0_1.length c0_1, .slice A0_2 l0_2.length c0_2]] rfl mpx ?_; (with_reducible refine (spec_l6CopyLatch.calls a0_0 _ _ l0_1 _ _ l0_2 t621 t622 t625 _ ?side1 ?side2 ?side3 ?side4 A3.out).mono ?_); (case side1 => exact pkC (Kd.C_below HR0_1.out HB.out)); (case side2 => exact HC0_1.out); (case side3 => exact pkC (Kd.C_below HR0_2.out HB.out)); (case side4 => exact HC0_2.out); rintro e w9 ⟨v623, v626, rfl, ho0, ho1, hb⟩; refine ⟨_, rfl, ?_⟩; have HO624 := am (Kd.R_lower ho0 (below_size (pkW HB.out))); have HO627 := am (Kd.R_lower ho1 (below_size (pkW HB.out))); replace BK619 := am (blk_below (pkK BK619.out) hb); replace BK620 := am (blk_below (pkK BK620.out) hb); replace HB := am (below_step (pkW HB.out) hb); (try clear hb ho0 ho1)) | ((with_reducible refine gate_dst (N := 6) rfl ?_); refine box_event ?hg (N := 6) ?hd (cs := #[.int .i64 0, .slice none 0 0, .slice none 0 0]) (t := 46) ?hr ?_; (case hd => rfl); (case hg => rfl); (case hr => first | (go_simp; done) | (go_simp; rfl)); intro gb628 hg w10 hbox hb; replace HO624 := am (Kd.R_below (pkR HO624.out) hb); replace HO627 := am (Kd.R_below (pkR HO627.out) hb); have BK628 := am (hbox); have GW628 := am ((by rw [hg]; exact (below_size (pkW HB.out)) : w.heap.size ≤ gb628)); have GE628 := am ((by rw [hg]; exact (below_size (pkW HB.out)) : w.heap.size ≤ gb628)); replace HB := am (below_step (pkW HB.out) hb); have NB619_628 := am ((by rw [hg]; exact Nat.ne_of_lt (blk_lt (g := gb619) (o := .cells #[.int .i64 a0_0, .slice A0_1 l0_1.length c0_1, .slice A0_2 l0_2.length c0_2] 46 (0, 0)) (pkK BK619.out)) : gb619 ≠ gb628)); have NB628_619 := am ((by rw [hg]; exact Nat.ne_of_gt (blk_lt (g := gb619) (o := .cells #[.int .i64 a0_0, .slice A0_1 l0_1.length c0_1, .slice A0_2 l0_2.length c0_2] 46 (0, 0)) (pkK BK619.out)) : gb628 ≠ gb619)); replace BK619 := am (blk_below (pkK BK619.out) hb); have NB620_628 := am ((by rw [hg]; exact Nat.ne_of_lt (blk_lt (g := gb620) (o := .cells #[.int .i64 0, .slice none 0 0, .slice none 0 0] 46 (0, 0)) (pkK BK620.out)) : gb620 ≠ gb628)); have NB628_620 := am ((by rw [hg]; exact Nat.ne_of_gt (blk_lt (g := gb620) (o := .cells #[.int .i64 0, .slice none 0 0, .slice none 0 0] 46 (0, 0)) (pkK BK620.out)) : gb628 ≠ gb620)); replace BK620 := am (blk_below (pkK BK620.out) hb); clear hb hbox hg; have hnb11 := NB628_619.out; have hnc11 := NB619_628.out; have hnb12 := NB628_620.out; have hnc12 := NB620_628.out; obtain ⟨hcz13_0, hcz13_1, hcz13_2, hfz13_0, hfz13_1, hfz13_2⟩ := bk3 BK628.out; obtain ⟨Ao14, co14, eo14⟩ := Kd.R_slice HO624.out; subst eo14; obtain ⟨Ao15, co15, eo15⟩ := Kd.R_slice HO627.out; subst eo15))
 (try simp only [Act.put, List.setIfInBounds_toArray, List.set_cons_zero, List.set_cons_succ])
 go_cut [9] (fun v9 wc => ∃ (kq : Nat) (x9_3 : Bool), v9 = .bool x9_3 ∧ Aside0 (spec_StandAt.j0 kq a1 x9_3 a0_0 l0_1 l0_2 t621 t622 t625 = some (r1, r2, r3, r4)) ∧ Aside0 (kq ≤ k) ∧ Aside0 (Kd.R (Kd.int .i64) 3 wc w.heap.size (fun k_ => some k_ ≠ ((.slice Ao15 t625.length co15) : Value).ownBlock) (.slice Ao14 t622.length co14) t622) ∧ Aside0 (Kd.R (Kd.int .i64) 3 wc w.heap.size (fun k_ => some k_ ≠ ((.slice Ao14 t622.length co14) : Value).ownBlock) (.slice Ao15 t625.length co15) t625) ∧ Aside0 (wc.heap[gb619]? = some (.cells #[.int .i64 a0_0, (.slice A0_1 l0_1.length c0_1), (.slice A0_2 l0_2.length c0_2)] 46 (0, 0))) ∧ Aside0 (wc.heap[gb620]? = some (.cells #[.int .i64 0, (.slice none 0 0), (.slice none 0 0)] 46 (0, 0))) ∧ Aside0 (wc.heap[gb628]? = some (.cells #[.int .i64 t621, (.slice Ao14 t622.length co14), (.slice Ao15 t625.length co15)] 46 (0, 0))) ∧ Aside0 (Below w.heap.size w wc))
 case first =>
  have H := HC4.out
  clear HC4
  replace H := Option.bind_eq_some_iff.mp H
  obtain ⟨t629, A160, H⟩ := H
  replace H : (if t629 = true then ((spec_l2Client.f a1).bind fun t630 => (spec_StandAt.j0 k a1 (!t630) a0_0 l0_1 l0_2 t621 t622 t625)) else (spec_StandAt.j0 k a1 true a0_0 l0_1 l0_2 t621 t622 t625)) = some (r1, r2, r3, r4) := H
  have A16 := am A160
  clear A160
  by_cases c17 : t629 = true
  ·subst c17
   replace H : ((spec_l2Client.f a1).bind fun t630 => (spec_StandAt.j0 k a1 (!t630) a0_0 l0_1 l0_2 t621 t622 t625)) = some (r1, r2, r3, r4) := by rw [if_pos rfl] at H; exact H
   replace H := Option.bind_eq_some_iff.mp H
   obtain ⟨t630, A180, H⟩ := H
   replace H : (spec_StandAt.j0 k a1 (!t630) a0_0 l0_1 l0_2 t621 t622 t625) = some (r1, r2, r3, r4) := H
   have A18 := am A180
   clear A180
   have H' := am H
   clear H
   have hnb19 := NB619_620.out
   have hnc19 := NB620_619.out
   have hnb20 := NB619_628.out
   have hnc20 := NB628_619.out
   obtain ⟨hcz21_0, hcz21_1, hcz21_2, hfz21_0, hfz21_1, hfz21_2⟩ := bk3 BK619.out
   go_wp2_with (first | ((with_reducible refine gate_callee (f := 24) rfl ?_); refine goesL_ (some 11) rfl rfl Try.func24 (by kernel_rfl) rfl #[.agg #[.int .i64 a0_0, .slice A0_1 l0_1.length c0_1, .slice A0_2 l0_2.length c0_2]] rfl mpx ?_; (with_reducible refine (spec_LatchOk.calls k a0_0 _ _ l0_1 _ _ l0_2 true _ ?side1 ?side2 ?side3 ?side4 A16.out).mono ?_); (case side1 => exact Kd.C_below HR0_1.out (pkW HB.out)); (case side2 => exact HC0_1.out); (case side3 => exact Kd.C_below HR0_2.out (pkW HB.out)); (case side4 => exact HC0_2.out); rintro e w22 ⟨rfl, hb⟩; refine ⟨_, rfl, ?_⟩; replace HO624 := am (Kd.R_below (by (with_reducible repeat (first | apply Kd.R_alloc | apply Kd.R_drewN | apply Kd.R_drew)); exact (Kd.R_mono (Kd.R_far (p := ⟨gb628, 2, none⟩) (Kd.R_far (p := ⟨gb628, 1, none⟩) (Kd.R_far (p := ⟨gb628, 0, none⟩) (Kd.R_types HO624.out BK628.out (by decide)) (fun _ hk => hk.2) (.int .i64 t621)) (fun _ hk => hk.2) (.slice Ao14 t622.length co14)) (fun _ hk => hk.2) (.slice Ao15 t625.length co15)) (fun _ h_ => h_.1))) hb); replace HO627 := am (Kd.R_below (by (with_reducible repeat (first | apply Kd.R_alloc | apply Kd.R_drewN | apply Kd.R_drew)); exact (Kd.R_mono (Kd.R_far (p := ⟨gb628, 2, none⟩) (Kd.R_far (p := ⟨gb628, 1, none⟩) (Kd.R_far (p := ⟨gb628, 0, none⟩) (Kd.R_types HO627.out BK628.out (by decide)) (fun _ hk => hk.2) (.int .i64 t621)) (fun _ hk => hk.2) (.slice Ao14 t622.length co14)) (fun _ hk => hk.2) (.slice Ao15 t625.length co15)) (fun _ h_ => h_.1))) hb); replace BK619 := am (blk_below (g := gb619) (o := .cells #[.int .i64 a0_0, .slice A0_1 l0_1.length c0_1, .slice A0_2 l0_2.length c0_2] 46 (0, 0)) (by (with_reducible repeat (first | refine blk_drewN ?_ _ | refine blk_drew ?_ | refine blk_alloc ?_ _)); refine blk_far ?_ NB619_628.out _; (with_reducible repeat (first | refine blk_drewN ?_ _ | refine blk_drew ?_ | refine blk_alloc ?_ _)); refine blk_far ?_ NB619_628.out _; (with_reducible repeat (first | refine blk_drewN ?_ _ | refine blk_drew ?_ | refine blk_alloc ?_ _)); refine blk_far ?_ NB619_628.out _; exact pkK BK619.out) hb); replace BK620 := am (blk_below (g := gb620) (o := .cells #[.int .i64 0, .slice none 0 0, .slice none 0 0] 46 (0, 0)) (by (with_reducible repeat (first | refine blk_drewN ?_ _ | refine blk_drew ?_ | refine blk_alloc ?_ _)); refine blk_far ?_ NB620_628.out _; (with_reducible repeat (first | refine blk_drewN ?_ _ | refine blk_drew ?_ | refine blk_alloc ?_ _)); refine blk_far ?_ NB620_628.out _; (with_reducible repeat (first | refine blk_drewN ?_ _ | refine blk_drew ?_ | refine blk_alloc ?_ _)); refine blk_far ?_ NB620_628.out _; exact pkK BK620.out) hb); replace BK628 := am (blk_below (g := gb628) (o := .cells #[.int .i64 t621, .slice Ao14 t622.length co14, .slice Ao15 t625.length co15] 46 (0, 0)) (by (with_reducible repeat (first | refine blk_drewN ?_ _ | refine blk_drew ?_ | refine blk_alloc ?_ _)); refine blk_put (cs := #[.int .i64 t621, .slice Ao14 t622.length co14, .slice none 0 0]) ?_ 2 _ rfl; (with_reducible repeat (first | refine blk_drewN ?_ _ | refine blk_drew ?_ | refine blk_alloc ?_ _)); refine blk_put (cs := #[.int .i64 t621, .slice none 0 0, .slice none 0 0]) ?_ 1 _ rfl; (with_reducible repeat (first | refine blk_drewN ?_ _ | refine blk_drew ?_ | refine blk_alloc ?_ _)); refine blk_put (cs := #[.int .i64 0, .slice none 0 0, .slice none 0 0]) ?_ 0 _ rfl; exact pkK BK628.out) hb); replace HB := am (below_step (pkW HB.out) hb); (try clear hb)) | (go_at_call 75; (with_reducible refine (spec_l2Client.calls a1 t630 _ A18.out).mono ?_); rintro e w' ⟨rfl, ⟨nd, rfl⟩⟩))
   go_meet
   case rel => exact ⟨_, (!t630), rfx, H', ⟨by first | omega | exact Nat.le_refl _⟩, ⟨pkR HO624.out⟩, ⟨pkR HO627.out⟩, ⟨pkK BK619.out⟩, ⟨pkK BK620.out⟩, ⟨pkK BK628.out⟩, ⟨pkW HB.out⟩⟩
  ·replace c17 := Bool.eq_false_iff.mpr c17
   subst c17
   replace H : (spec_StandAt.j0 k a1 true a0_0 l0_1 l0_2 t621 t622 t625) = some (r1, r2, r3, r4) := by rw [if_neg (show ¬ (false = true) by decide)] at H; exact H
   have H' := am H
   clear H
   have hnb23 := NB619_620.out
   have hnc23 := NB620_619.out
   have hnb24 := NB619_628.out
   have hnc24 := NB628_619.out
   obtain ⟨hcz25_0, hcz25_1, hcz25_2, hfz25_0, hfz25_1, hfz25_2⟩ := bk3 BK619.out
   go_wp2_with (first | ((with_reducible refine gate_callee (f := 24) rfl ?_); refine goesL_ (some 11) rfl rfl Try.func24 (by kernel_rfl) rfl #[.agg #[.int .i64 a0_0, .slice A0_1 l0_1.length c0_1, .slice A0_2 l0_2.length c0_2]] rfl mpx ?_; (with_reducible refine (spec_LatchOk.calls k a0_0 _ _ l0_1 _ _ l0_2 false _ ?side1 ?side2 ?side3 ?side4 A16.out).mono ?_); (case side1 => exact Kd.C_below HR0_1.out (pkW HB.out)); (case side2 => exact HC0_1.out); (case side3 => exact Kd.C_below HR0_2.out (pkW HB.out)); (case side4 => exact HC0_2.out); rintro e w26 ⟨rfl, hb⟩; refine ⟨_, rfl, ?_⟩; replace HO624 := am (Kd.R_below (by (with_reducible repeat (first | apply Kd.R_alloc | apply Kd.R_drewN | apply Kd.R_drew)); exact (Kd.R_mono (Kd.R_far (p := ⟨gb628, 2, none⟩) (Kd.R_far (p := ⟨gb628, 1, none⟩) (Kd.R_far (p := ⟨gb628, 0, none⟩) (Kd.R_types HO624.out BK628.out (by decide)) (fun _ hk => hk.2) (.int .i64 t621)) (fun _ hk => hk.2) (.slice Ao14 t622.length co14)) (fun _ hk => hk.2) (.slice Ao15 t625.length co15)) (fun _ h_ => h_.1))) hb); replace HO627 := am (Kd.R_below (by (with_reducible repeat (first | apply Kd.R_alloc | apply Kd.R_drewN | apply Kd.R_drew)); exact (Kd.R_mono (Kd.R_far (p := ⟨gb628, 2, none⟩) (Kd.R_far (p := ⟨gb628, 1, none⟩) (Kd.R_far (p := ⟨gb628, 0, none⟩) (Kd.R_types HO627.out BK628.out (by decide)) (fun _ hk => hk.2) (.int .i64 t621)) (fun _ hk => hk.2) (.slice Ao14 t622.length co14)) (fun _ hk => hk.2) (.slice Ao15 t625.length co15)) (fun _ h_ => h_.1))) hb); replace BK619 := am (blk_below (g := gb619) (o := .cells #[.int .i64 a0_0, .slice A0_1 l0_1.length c0_1, .slice A0_2 l0_2.length c0_2] 46 (0, 0)) (by (with_reducible repeat (first | refine blk_drewN ?_ _ | refine blk_drew ?_ | refine blk_alloc ?_ _)); refine blk_far ?_ NB619_628.out _; (with_reducible repeat (first | refine blk_drewN ?_ _ | refine blk_drew ?_ | refine blk_alloc ?_ _)); refine blk_far ?_ NB619_628.out _; (with_reducible repeat (first | refine blk_drewN ?_ _ | refine blk_drew ?_ | refine blk_alloc ?_ _)); refine blk_far ?_ NB619_628.out _; exact pkK BK619.out) hb); replace BK620 := am (blk_below (g := gb620) (o := .cells #[.int .i64 0, .slice none 0 0, .slice none 0 0] 46 (0, 0)) (by (with_reducible repeat (first | refine blk_drewN ?_ _ | refine blk_drew ?_ | refine blk_alloc ?_ _)); refine blk_far ?_ NB620_628.out _; (with_reducible repeat (first | refine blk_drewN ?_ _ | refine blk_drew ?_ | refine blk_alloc ?_ _)); refine blk_far ?_ NB620_628.out _; (with_reducible repeat (first | refine blk_drewN ?_ _ | refine blk_drew ?_ | refine blk_alloc ?_ _)); refine blk_far ?_ NB620_628.out _; exact pkK BK620.out) hb); replace BK628 := am (blk_below (g := gb628) (o := .cells #[.int .i64 t621, .slice Ao14 t622.length co14, .slice Ao15 t625.length co15] 46 (0, 0)) (by (with_reducible repeat (first | refine blk_drewN ?_ _ | refine blk_drew ?_ | refine blk_alloc ?_ _)); refine blk_put (cs := #[.int .i64 t621, .slice Ao14 t622.length co14, .slice none 0 0]) ?_ 2 _ rfl; (with_reducible repeat (first | refine blk_drewN ?_ _ | refine blk_drew ?_ | refine blk_alloc ?_ _)); refine blk_put (cs := #[.int .i64 t621, .slice none 0 0, .slice none 0 0]) ?_ 1 _ rfl; (with_reducible repeat (first | refine blk_drewN ?_ _ | refine blk_drew ?_ | refine blk_alloc ?_ _)); refine blk_put (cs := #[.int .i64 0, .slice none 0 0, .slice none 0 0]) ?_ 0 _ rfl; exact pkK BK628.out) hb); replace HB := am (below_step (pkW HB.out) hb); (try clear hb)))
   go_meet
   case rel => exact ⟨_, (true), rfx, H', ⟨by first | omega | exact Nat.le_refl _⟩, ⟨pkR HO624.out⟩, ⟨pkR HO627.out⟩, ⟨pkK BK619.out⟩, ⟨pkK BK620.out⟩, ⟨pkK BK628.out⟩, ⟨pkW HB.out⟩⟩
 case rest =>
  clear HC4
  try clear c1
  try clear c2
  try clear p2
  try clear c3
  try clear c7
  try clear c11
  try clear c12
  try clear c17
  try clear c19
  try clear c20
  try clear c23
  try clear c24
  try clear hcz13_0
  try clear hcz13_1
  try clear hcz13_2
  try clear hcz21_0
  try clear hcz21_1
  try clear hcz21_2
  try clear hcz25_0
  try clear hcz25_1
  try clear hcz25_2
  try clear hcz8_0
  try clear hcz8_1
  try clear hcz8_2
  try clear hfz13_0
  try clear hfz13_1
  try clear hfz13_2
  try clear hfz21_0
  try clear hfz21_1
  try clear hfz21_2
  try clear hfz25_0
  try clear hfz25_1
  try clear hfz25_2
  try clear hfz8_0
  try clear hfz8_1
  try clear hfz8_2
  obtain ⟨kq, x9_3, rfl, HA, HJ3, HO_629001, HO_629002, BK619, BK620, BK628, HB⟩ := hcut
  cases kq with
  | zero => exact absurd HA.out (by simp [spec_StandAt.j0])
  | succ kj3 =>
   have H := HA.out
   clear HA
   simp only [spec_StandAt.j0] at H
   by_cases c27 : x9_3 = true
   ·subst c27
    replace H : (some (t621, t622, t625, 1)) = some (r1, r2, r3, r4) := by rw [if_pos rfl] at H; exact H
    simp only [Option.some.injEq, Prod.mk.injEq] at H
    obtain ⟨rfl, rfl, rfl, rfl⟩ := H
    have hnb28 := NB628_619.out
    have hnc28 := NB619_628.out
    have hnb29 := NB628_620.out
    have hnc29 := NB620_628.out
    obtain ⟨hcz30_0, hcz30_1, hcz30_2, hfz30_0, hfz30_1, hfz30_2⟩ := bk3 BK628.out
    have hnb31 := NB620_619.out
    have hnc31 := NB619_620.out
    obtain ⟨hcz32_0, hcz32_1, hcz32_2, hfz32_0, hfz32_1, hfz32_2⟩ := bk3 BK620.out
    go_wp2
    refine bodyPost_ret (results_ct rfl _ _ gb620 46 #[.int .i64 t621, .slice Ao14 t622.length co14, .slice Ao15 t625.length co15] (0, 0) _ rfl (by (with_reducible repeat (first | refine blk_drewN ?_ _ | refine blk_drew ?_ | refine blk_alloc ?_ _)); refine blk_put (cs := #[.int .i64 t621, .slice Ao14 t622.length co14, .slice none 0 0]) ?_ 2 _ rfl; (with_reducible repeat (first | refine blk_drewN ?_ _ | refine blk_drew ?_ | refine blk_alloc ?_ _)); refine blk_put (cs := #[.int .i64 t621, .slice none 0 0, .slice none 0 0]) ?_ 1 _ rfl; (with_reducible repeat (first | refine blk_drewN ?_ _ | refine blk_drew ?_ | refine blk_alloc ?_ _)); refine blk_put (cs := #[.int .i64 0, .slice none 0 0, .slice none 0 0]) ?_ 0 _ rfl; exact pkK BK620.out) Try.underlying46 rfl (by kernel_rfl)) rfl ?_
    exact ⟨_, _, rfe, by (with_reducible repeat (first | apply Kd.R_alloc | apply Kd.R_drewN | apply Kd.R_drew)); exact Kd.R_mono (Kd.R_far (p := ⟨gb620, 2, none⟩) (Kd.R_far (p := ⟨gb620, 1, none⟩) (Kd.R_far (p := ⟨gb620, 0, none⟩) (Kd.R_types HO_629001.out BK620.out (by decide)) (fun _ hk => hk.2) (.int .i64 t621)) (fun _ hk => hk.2) (.slice Ao14 t622.length co14)) (fun _ hk => hk.2) (.slice Ao15 t625.length co15)) (fun _ hk => hk.1), by (with_reducible repeat (first | apply Kd.R_alloc | apply Kd.R_drewN | apply Kd.R_drew)); exact Kd.R_mono (Kd.R_far (p := ⟨gb620, 2, none⟩) (Kd.R_far (p := ⟨gb620, 1, none⟩) (Kd.R_far (p := ⟨gb620, 0, none⟩) (Kd.R_types HO_629002.out BK620.out (by decide)) (fun _ hk => hk.2) (.int .i64 t621)) (fun _ hk => hk.2) (.slice Ao14 t622.length co14)) (fun _ hk => hk.2) (.slice Ao15 t625.length co15)) (fun _ hk => hk.1), pkW HB.out⟩
   ·replace c27 := Bool.eq_false_iff.mpr c27
    subst c27
    replace H : ((spec_l2Has.f kj3 l0_1 a1).bind fun t631 => (if t631 = true then (spec_StandAt.j1 kj3 a1 true a0_0 l0_1 l0_2 t621 t622 t625) else ((spec_l2Has.f kj3 l0_2 a1).bind fun t632 => (spec_StandAt.j1 kj3 a1 t632 a0_0 l0_1 l0_2 t621 t622 t625)))) = some (r1, r2, r3, r4) := by rw [if_neg (show ¬ (false = true) by decide)] at H; exact H
    have HC33 := am H
    clear H
    go_upto_region 4 with (fail)
    go_cut [19] (fun v19 wc => ∃ (kq : Nat) (x19_32 : Bool), v19 = .bool x19_32 ∧ Aside0 (spec_StandAt.j1 kq a1 x19_32 a0_0 l0_1 l0_2 t621 t622 t625 = some (r1, r2, r3, r4)) ∧ Aside0 (kq ≤ kj3) ∧ Aside0 (Kd.R (Kd.int .i64) 3 wc w.heap.size (fun k_ => some k_ ≠ ((.slice Ao15 t625.length co15) : Value).ownBlock) (.slice Ao14 t622.length co14) t622) ∧ Aside0 (Kd.R (Kd.int .i64) 3 wc w.heap.size (fun k_ => some k_ ≠ ((.slice Ao14 t622.length co14) : Value).ownBlock) (.slice Ao15 t625.length co15) t625) ∧ Aside0 (wc.heap[gb619]? = some (.cells #[.int .i64 a0_0, (.slice A0_1 l0_1.length c0_1), (.slice A0_2 l0_2.length c0_2)] 46 (0, 0))) ∧ Aside0 (wc.heap[gb620]? = some (.cells #[.int .i64 0, (.slice none 0 0), (.slice none 0 0)] 46 (0, 0))) ∧ Aside0 (wc.heap[gb628]? = some (.cells #[.int .i64 t621, (.slice Ao14 t622.length co14), (.slice Ao15 t625.length co15)] 46 (0, 0))) ∧ Aside0 (Below w.heap.size w wc))
    case first =>
     have H := HC33.out
     clear HC33
     replace H := Option.bind_eq_some_iff.mp H
     obtain ⟨t631, A340, H⟩ := H
     replace H : (if t631 = true then (spec_StandAt.j1 kj3 a1 true a0_0 l0_1 l0_2 t621 t622 t625) else ((spec_l2Has.f kj3 l0_2 a1).bind fun t632 => (spec_StandAt.j1 kj3 a1 t632 a0_0 l0_1 l0_2 t621 t622 t625))) = some (r1, r2, r3, r4) := H
     have A34 := am A340
     clear A340
     by_cases c35 : t631 = true
     ·subst c35
      replace H : (spec_StandAt.j1 kj3 a1 true a0_0 l0_1 l0_2 t621 t622 t625) = some (r1, r2, r3, r4) := by rw [if_pos rfl] at H; exact H
      have H' := am H
      clear H
      have hnb36 := NB619_620.out
      have hnc36 := NB620_619.out
      have hnb37 := NB619_628.out
      have hnc37 := NB628_619.out
      obtain ⟨hcz38_0, hcz38_1, hcz38_2, hfz38_0, hfz38_1, hfz38_2⟩ := bk3 BK619.out
      go_wp2_with (first | ((with_reducible refine gate_callee (f := 76) rfl ?_); refine goesL_ (some 23) rfl rfl Try.func76 (by kernel_rfl) rfl #[.slice A0_1 l0_1.length c0_1, .int .i64 a1] rfl mpx ?_; (with_reducible refine (spec_l2Has.calls kj3 _ _ l0_1 a1 true _ ?side1 ?side2 A34.out).mono ?_); (case side1 => exact pkC (Kd.C_below HR0_1.out HB.out)); (case side2 => exact HC0_1.out); rintro e w' ⟨rfl, ⟨nd, rfl⟩⟩; refine ⟨_, rfl, ?_⟩))
      go_meet
      case rel => exact ⟨_, (true), rfx, H', ⟨by have := HJ3.out; first | omega | exact Nat.le_refl _⟩, ⟨pkR HO_629001.out⟩, ⟨pkR HO_629002.out⟩, ⟨pkK BK619.out⟩, ⟨pkK BK620.out⟩, ⟨pkK BK628.out⟩, ⟨pkW HB.out⟩⟩
     ·replace c35 := Bool.eq_false_iff.mpr c35
      subst c35
      replace H : ((spec_l2Has.f kj3 l0_2 a1).bind fun t632 => (spec_StandAt.j1 kj3 a1 t632 a0_0 l0_1 l0_2 t621 t622 t625)) = some (r1, r2, r3, r4) := by rw [if_neg (show ¬ (false = true) by decide)] at H; exact H
      replace H := Option.bind_eq_some_iff.mp H
      obtain ⟨t632, A390, H⟩ := H
      replace H : (spec_StandAt.j1 kj3 a1 t632 a0_0 l0_1 l0_2 t621 t622 t625) = some (r1, r2, r3, r4) := H
      have A39 := am A390
      clear A390
      have H' := am H
      clear H
      have hnb40 := NB619_620.out
      have hnc40 := NB620_619.out
      have hnb41 := NB619_628.out
      have hnc41 := NB628_619.out
      obtain ⟨hcz42_0, hcz42_1, hcz42_2, hfz42_0, hfz42_1, hfz42_2⟩ := bk3 BK619.out
      go_wp2_with (first | ((with_reducible refine gate_callee (f := 76) rfl ?_); refine goesL_ (some 23) rfl rfl Try.func76 (by kernel_rfl) rfl #[.slice A0_1 l0_1.length c0_1, .int .i64 a1] rfl mpx ?_; (with_reducible refine (spec_l2Has.calls kj3 _ _ l0_1 a1 false _ ?side1 ?side2 A34.out).mono ?_); (case side1 => exact pkC (Kd.C_below HR0_1.out HB.out)); (case side2 => exact HC0_1.out); rintro e w' ⟨rfl, ⟨nd, rfl⟩⟩; refine ⟨_, rfl, ?_⟩) | (go_at_call 76; (with_reducible refine (spec_l2Has.calls kj3 _ _ l0_2 a1 t632 _ ?side1 ?side2 A39.out).mono ?_); (case side1 => repeat (first | exact (Kd.C_below HR0_2.out (pkW HB.out)) | (with_reducible refine Kd.C_alloc ?_ _) | (with_reducible refine Kd.C_drewN ?_ _) | (with_reducible refine Kd.C_drew ?_))); (case side2 => exact HC0_2.out); rintro e w' ⟨rfl, ⟨nd, rfl⟩⟩))
      go_meet
      case rel => exact ⟨_, (t632), rfx, H', ⟨by have := HJ3.out; first | omega | exact Nat.le_refl _⟩, ⟨pkR HO_629001.out⟩, ⟨pkR HO_629002.out⟩, ⟨pkK BK619.out⟩, ⟨pkK BK620.out⟩, ⟨pkK BK628.out⟩, ⟨pkW HB.out⟩⟩
    case rest =>
     clear HC33
     try clear c1
     try clear c2
     try clear p2
     try clear c3
     try clear c4
     try clear c7
     try clear c11
     try clear c12
     try clear c17
     try clear c19
     try clear c20
     try clear c23
     try clear c24
     try clear c27
     try clear c28
     try clear c29
     try clear c31
     try clear c35
     try clear c36
     try clear c37
     try clear c40
     try clear c41
     try clear hcz13_0
     try clear hcz13_1
     try clear hcz13_2
     try clear hcz21_0
     try clear hcz21_1
     try clear hcz21_2
     try clear hcz25_0
     try clear hcz25_1
     try clear hcz25_2
     try clear hcz30_0
     try clear hcz30_1
     try clear hcz30_2
     try clear hcz32_0
     try clear hcz32_1
     try clear hcz32_2
     try clear hcz38_0
     try clear hcz38_1
     try clear hcz38_2
     try clear hcz42_0
     try clear hcz42_1
     try clear hcz42_2
     try clear hcz8_0
     try clear hcz8_1
     try clear hcz8_2
     try clear hfz13_0
     try clear hfz13_1
     try clear hfz13_2
     try clear hfz21_0
     try clear hfz21_1
     try clear hfz21_2
     try clear hfz25_0
     try clear hfz25_1
     try clear hfz25_2
     try clear hfz30_0
     try clear hfz30_1
     try clear hfz30_2
     try clear hfz32_0
     try clear hfz32_1
     try clear hfz32_2
     try clear hfz38_0
     try clear hfz38_1
     try clear hfz38_2
     try clear hfz42_0
     try clear hfz42_1
     try clear hfz42_2
     try clear hfz8_0
     try clear hfz8_1
     try clear hfz8_2
     try clear p2
     obtain ⟨kq, x19_32, rfl, HA, HJ32, HO_629001, HO_629002, BK619, BK620, BK628, HB⟩ := hcut
     cases kq with
     | zero => exact absurd HA.out (by simp [spec_StandAt.j1])
     | succ kj32 =>
      have H := HA.out
      clear HA
      simp only [spec_StandAt.j1] at H
      by_cases c43 : x19_32 = true
      ·subst c43
       replace H : (some (t621, t622, t625, 5)) = some (r1, r2, r3, r4) := by rw [if_pos rfl] at H; exact H
       simp only [Option.some.injEq, Prod.mk.injEq] at H
       obtain ⟨rfl, rfl, rfl, rfl⟩ := H
       have hnb44 := NB628_619.out
       have hnc44 := NB619_628.out
       have hnb45 := NB628_620.out
       have hnc45 := NB620_628.out
       obtain ⟨hcz46_0, hcz46_1, hcz46_2, hfz46_0, hfz46_1, hfz46_2⟩ := bk3 BK628.out
       have hnb47 := NB620_619.out
       have hnc47 := NB619_620.out
       obtain ⟨hcz48_0, hcz48_1, hcz48_2, hfz48_0, hfz48_1, hfz48_2⟩ := bk3 BK620.out
       go_wp2
       refine bodyPost_ret (results_ct rfl _ _ gb620 46 #[.int .i64 t621, .slice Ao14 t622.length co14, .slice Ao15 t625.length co15] (0, 0) _ rfl (by (with_reducible repeat (first | refine blk_drewN ?_ _ | refine blk_drew ?_ | refine blk_alloc ?_ _)); refine blk_put (cs := #[.int .i64 t621, .slice Ao14 t622.length co14, .slice none 0 0]) ?_ 2 _ rfl; (with_reducible repeat (first | refine blk_drewN ?_ _ | refine blk_drew ?_ | refine blk_alloc ?_ _)); refine blk_put (cs := #[.int .i64 t621, .slice none 0 0, .slice none 0 0]) ?_ 1 _ rfl; (with_reducible repeat (first | refine blk_drewN ?_ _ | refine blk_drew ?_ | refine blk_alloc ?_ _)); refine blk_put (cs := #[.int .i64 0, .slice none 0 0, .slice none 0 0]) ?_ 0 _ rfl; exact pkK BK620.out) Try.underlying46 rfl (by kernel_rfl)) rfl ?_
       exact ⟨_, _, rfe, by (with_reducible repeat (first | apply Kd.R_alloc | apply Kd.R_drewN | apply Kd.R_drew)); exact Kd.R_mono (Kd.R_far (p := ⟨gb620, 2, none⟩) (Kd.R_far (p := ⟨gb620, 1, none⟩) (Kd.R_far (p := ⟨gb620, 0, none⟩) (Kd.R_types HO_629001.out BK620.out (by decide)) (fun _ hk => hk.2) (.int .i64 t621)) (fun _ hk => hk.2) (.slice Ao14 t622.length co14)) (fun _ hk => hk.2) (.slice Ao15 t625.length co15)) (fun _ hk => hk.1), by (with_reducible repeat (first | apply Kd.R_alloc | apply Kd.R_drewN | apply Kd.R_drew)); exact Kd.R_mono (Kd.R_far (p := ⟨gb620, 2, none⟩) (Kd.R_far (p := ⟨gb620, 1, none⟩) (Kd.R_far (p := ⟨gb620, 0, none⟩) (Kd.R_types HO_629002.out BK620.out (by decide)) (fun _ hk => hk.2) (.int .i64 t621)) (fun _ hk => hk.2) (.slice Ao14 t622.length co14)) (fun _ hk => hk.2) (.slice Ao15 t625.length co15)) (fun _ hk => hk.1), pkW HB.out⟩
      ·replace c43 := Bool.eq_false_iff.mpr c43
       subst c43
       replace H : (if a0_0 = 0 then (some (t621, t622, t625, 0)) else (if (l0_1.length : Int) ≥ 32 then (some (t621, t622, t625, 2)) else (if t622.length < 17592186044416 then (some (t621, (t622 ++ [a1]), t625, 4)) else (none)))) = some (r1, r2, r3, r4) := by rw [if_neg (show ¬ (false = true) by decide)] at H; exact H
       by_cases c49 : a0_0 = 0
       ·rw [if_pos c49] at H
        have c49b0 : (a0_0 == 0) = true := beq_iff_eq.mpr c49
        have c49b1 : (a0_0 != 0) = false := bne_eq_false_iff_eq.mpr c49
        clear c49
        simp only [Option.some.injEq, Prod.mk.injEq] at H
        obtain ⟨rfl, rfl, rfl, rfl⟩ := H
        have hnb50 := NB619_620.out
        have hnc50 := NB620_619.out
        have hnb51 := NB619_628.out
        have hnc51 := NB628_619.out
        obtain ⟨hcz52_0, hcz52_1, hcz52_2, hfz52_0, hfz52_1, hfz52_2⟩ := bk3 BK619.out
        have hnb53 := NB628_620.out
        have hnc53 := NB620_628.out
        obtain ⟨hcz54_0, hcz54_1, hcz54_2, hfz54_0, hfz54_1, hfz54_2⟩ := bk3 BK628.out
        obtain ⟨hcz55_0, hcz55_1, hcz55_2, hfz55_0, hfz55_1, hfz55_2⟩ := bk3 BK620.out
        go_wp2
        refine bodyPost_ret (results_ct rfl _ _ gb620 46 #[.int .i64 t621, .slice Ao14 t622.length co14, .slice Ao15 t625.length co15] (0, 0) _ rfl (by (with_reducible repeat (first | refine blk_drewN ?_ _ | refine blk_drew ?_ | refine blk_alloc ?_ _)); refine blk_put (cs := #[.int .i64 t621, .slice Ao14 t622.length co14, .slice none 0 0]) ?_ 2 _ rfl; (with_reducible repeat (first | refine blk_drewN ?_ _ | refine blk_drew ?_ | refine blk_alloc ?_ _)); refine blk_put (cs := #[.int .i64 t621, .slice none 0 0, .slice none 0 0]) ?_ 1 _ rfl; (with_reducible repeat (first | refine blk_drewN ?_ _ | refine blk_drew ?_ | refine blk_alloc ?_ _)); refine blk_put (cs := #[.int .i64 0, .slice none 0 0, .slice none 0 0]) ?_ 0 _ rfl; exact pkK BK620.out) Try.underlying46 rfl (by kernel_rfl)) rfl ?_
        exact ⟨_, _, rfe, by (with_reducible repeat (first | apply Kd.R_alloc | apply Kd.R_drewN | apply Kd.R_drew)); exact Kd.R_mono (Kd.R_far (p := ⟨gb620, 2, none⟩) (Kd.R_far (p := ⟨gb620, 1, none⟩) (Kd.R_far (p := ⟨gb620, 0, none⟩) (Kd.R_types HO_629001.out BK620.out (by decide)) (fun _ hk => hk.2) (.int .i64 t621)) (fun _ hk => hk.2) (.slice Ao14 t622.length co14)) (fun _ hk => hk.2) (.slice Ao15 t625.length co15)) (fun _ hk => hk.1), by (with_reducible repeat (first | apply Kd.R_alloc | apply Kd.R_drewN | apply Kd.R_drew)); exact Kd.R_mono (Kd.R_far (p := ⟨gb620, 2, none⟩) (Kd.R_far (p := ⟨gb620, 1, none⟩) (Kd.R_far (p := ⟨gb620, 0, none⟩) (Kd.R_types HO_629002.out BK620.out (by decide)) (fun _ hk => hk.2) (.int .i64 t621)) (fun _ hk => hk.2) (.slice Ao14 t622.length co14)) (fun _ hk => hk.2) (.slice Ao15 t625.length co15)) (fun _ hk => hk.1), pkW HB.out⟩
       ·rw [if_neg c49] at H
        have c49b0 : (a0_0 == 0) = false := beq_eq_false_iff_ne.mpr c49
        have c49b1 : (a0_0 != 0) = true := bne_iff_ne.mpr c49
        by_cases c56 : (l0_1.length : Int) ≥ 32
        ·rw [if_pos c56] at H
         have c56b0 : decide (32 ≤ (l0_1.length : Int)) = true := decide_eq_true c56
         have c56b1 : decide (32 ≤ l0_1.length) = true := decide_eq_true (by omega)
         clear c56
         simp only [Option.some.injEq, Prod.mk.injEq] at H
         obtain ⟨rfl, rfl, rfl, rfl⟩ := H
         have hnb57 := NB619_620.out
         have hnc57 := NB620_619.out
         have hnb58 := NB619_628.out
         have hnc58 := NB628_619.out
         obtain ⟨hcz59_0, hcz59_1, hcz59_2, hfz59_0, hfz59_1, hfz59_2⟩ := bk3 BK619.out
         have hnb60 := NB628_620.out
         have hnc60 := NB620_628.out
         obtain ⟨hcz61_0, hcz61_1, hcz61_2, hfz61_0, hfz61_1, hfz61_2⟩ := bk3 BK628.out
         obtain ⟨hcz62_0, hcz62_1, hcz62_2, hfz62_0, hfz62_1, hfz62_2⟩ := bk3 BK620.out
         go_wp2
         refine bodyPost_ret (results_ct rfl _ _ gb620 46 #[.int .i64 t621, .slice Ao14 t622.length co14, .slice Ao15 t625.length co15] (0, 0) _ rfl (by (with_reducible repeat (first | refine blk_drewN ?_ _ | refine blk_drew ?_ | refine blk_alloc ?_ _)); refine blk_put (cs := #[.int .i64 t621, .slice Ao14 t622.length co14, .slice none 0 0]) ?_ 2 _ rfl; (with_reducible repeat (first | refine blk_drewN ?_ _ | refine blk_drew ?_ | refine blk_alloc ?_ _)); refine blk_put (cs := #[.int .i64 t621, .slice none 0 0, .slice none 0 0]) ?_ 1 _ rfl; (with_reducible repeat (first | refine blk_drewN ?_ _ | refine blk_drew ?_ | refine blk_alloc ?_ _)); refine blk_put (cs := #[.int .i64 0, .slice none 0 0, .slice none 0 0]) ?_ 0 _ rfl; exact pkK BK620.out) Try.underlying46 rfl (by kernel_rfl)) rfl ?_
         exact ⟨_, _, rfe, by (with_reducible repeat (first | apply Kd.R_alloc | apply Kd.R_drewN | apply Kd.R_drew)); exact Kd.R_mono (Kd.R_far (p := ⟨gb620, 2, none⟩) (Kd.R_far (p := ⟨gb620, 1, none⟩) (Kd.R_far (p := ⟨gb620, 0, none⟩) (Kd.R_types HO_629001.out BK620.out (by decide)) (fun _ hk => hk.2) (.int .i64 t621)) (fun _ hk => hk.2) (.slice Ao14 t622.length co14)) (fun _ hk => hk.2) (.slice Ao15 t625.length co15)) (fun _ hk => hk.1), by (with_reducible repeat (first | apply Kd.R_alloc | apply Kd.R_drewN | apply Kd.R_drew)); exact Kd.R_mono (Kd.R_far (p := ⟨gb620, 2, none⟩) (Kd.R_far (p := ⟨gb620, 1, none⟩) (Kd.R_far (p := ⟨gb620, 0, none⟩) (Kd.R_types HO_629002.out BK620.out (by decide)) (fun _ hk => hk.2) (.int .i64 t621)) (fun _ hk => hk.2) (.slice Ao14 t622.length co14)) (fun _ hk => hk.2) (.slice Ao15 t625.length co15)) (fun _ hk => hk.1), pkW HB.out⟩
        ·rw [if_neg c56] at H
         have c56b0 : decide (32 ≤ (l0_1.length : Int)) = false := decide_eq_false c56
         have c56b1 : decide (32 ≤ l0_1.length) = false := decide_eq_false (by omega)
         clear c56
         by_cases c63 : t622.length < 17592186044416
         ·rw [if_pos c63] at H
          have LMc63 := am c63
          clear c63
          obtain ⟨y633, hy633⟩ : ∃ y_ : List Int, y_ = (t622 ++ [a1]) := ⟨_, rfl⟩
          replace H : (some (t621, y633, t625, 4)) = some (r1, r2, r3, r4) := by first | (rw [hy633]; with_reducible exact H) | (have H2_ := (Option.bind_some _ _).symm.trans H; rw [hy633]; with_reducible exact H2_) | (have H2_ := (Option.bind_some _ _).symm.trans H; with_reducible exact H2_) | with_reducible exact H | (rw [hy633]; exact H) | exact H
          have Ny633 := am hy633
          clear hy633
          simp only [Option.some.injEq, Prod.mk.injEq] at H
          obtain ⟨rfl, rfl, rfl, rfl⟩ := H
          have hnb64 := NB619_620.out
          have hnc64 := NB620_619.out
          have hnb65 := NB619_628.out
          have hnc65 := NB628_619.out
          obtain ⟨hcz66_0, hcz66_1, hcz66_2, hfz66_0, hfz66_1, hfz66_2⟩ := bk3 BK619.out
          have hnb67 := NB628_620.out
          have hnc67 := NB620_628.out
          obtain ⟨hcz68_0, hcz68_1, hcz68_2, hfz68_0, hfz68_1, hfz68_2⟩ := bk3 BK628.out
          go_wp2_with (first | ((with_reducible refine gate_builtin (b := .append) (xs := #[.tmp 43, .tmp 45]) rfl ?_); at_builtin; refine Kd.R_append (Kd.int .i64) (w0 := w) w.heap.size rfl (.tmp 43) (.tmp 45) 27 3 (.int .i64 0) 8 rfl Try.underlying27 info3 rfl (by decide) (by omega) (.slice Ao14 t622.length co14) t622 a1 [.int .i64 a1] (fun k_ => some k_ ≠ (.slice Ao15 t625.length co15 : Value).ownBlock) (fun _ => False) rfl rfl ?aP (fun _ hk => hk.elim) ?aF ?aO ?aB ?aS ?aL ?_; (case aP => exact rfl); (case aB => exact (pkW HB.out)); (case aF => exact (fun k_ hk => Kd.fresh' (Kd.R_lt (pkR HO_629002.out)) k_ hk)); (case aO => exact (pkR HO_629001.out)); (case aS => exact (below_size (pkW HB.out))); (case aL => have := LMc63.out; omega); intro v634 w69 ho hb hg hat; rw [← Ny633.out] at ho; replace HO_629002 := am (Kd.R_after (ok := (fun _ => True)) (by (with_reducible repeat (first | apply Kd.R_alloc | apply Kd.R_drewN | apply Kd.R_drew)); exact Kd.R_mono HO_629002.out (fun _ hk => ⟨trivial, hk⟩)) hg hat); replace BK619 := am (blk_grown (g := gb619) (o := .cells #[.int .i64 a0_0, .slice A0_1 l0_1.length c0_1, .slice A0_2 l0_2.length c0_2] 46 (0, 0)) (pkK BK619.out) hg (Kd.R_ne HO_629001.out BK619.out (by decide))); replace BK620 := am (blk_grown (g := gb620) (o := .cells #[.int .i64 0, .slice none 0 0, .slice none 0 0] 46 (0, 0)) (pkK BK620.out) hg (Kd.R_ne HO_629001.out BK620.out (by decide))); replace BK628 := am (blk_grown (g := gb628) (o := .cells #[.int .i64 t621, .slice Ao14 t622.length co14, .slice Ao15 t625.length co15] 46 (0, 0)) (pkK BK628.out) hg (Kd.R_ne HO_629001.out BK628.out (by decide))); replace HB := am (hb); have HO635 := am (ho); clear HO_629001; clear ho hb hg hat; obtain ⟨Ao70, co70, eo70⟩ := Kd.R_slice HO635.out; subst eo70; obtain ⟨hcz71_0, hcz71_1, hcz71_2, hfz71_0, hfz71_1, hfz71_2⟩ := bk3 BK628.out; obtain ⟨hcz72_0, hcz72_1, hcz72_2, hfz72_0, hfz72_1, hfz72_2⟩ := bk3 BK620.out))
          refine bodyPost_ret (results_ct rfl _ _ gb620 46 #[.int .i64 t621, .slice Ao70 y633.length co70, .slice Ao15 t625.length co15] (0, 0) _ rfl (by (with_reducible repeat (first | refine blk_drewN ?_ _ | refine blk_drew ?_ | refine blk_alloc ?_ _)); refine blk_put (cs := #[.int .i64 t621, .slice Ao70 y633.length co70, .slice none 0 0]) ?_ 2 _ rfl; (with_reducible repeat (first | refine blk_drewN ?_ _ | refine blk_drew ?_ | refine blk_alloc ?_ _)); refine blk_put (cs := #[.int .i64 t621, .slice none 0 0, .slice none 0 0]) ?_ 1 _ rfl; (with_reducible repeat (first | refine blk_drewN ?_ _ | refine blk_drew ?_ | refine blk_alloc ?_ _)); refine blk_put (cs := #[.int .i64 0, .slice none 0 0, .slice none 0 0]) ?_ 0 _ rfl; (with_reducible repeat (first | refine blk_drewN ?_ _ | refine blk_drew ?_ | refine blk_alloc ?_ _)); refine blk_far ?_ NB620_628.out _; exact pkK BK620.out) Try.underlying46 rfl (by kernel_rfl)) rfl ?_
          exact ⟨_, _, rfe, by (with_reducible repeat (first | apply Kd.R_alloc | apply Kd.R_drewN | apply Kd.R_drew)); exact Kd.R_mono (Kd.R_far (p := ⟨gb620, 2, none⟩) (Kd.R_far (p := ⟨gb620, 1, none⟩) (Kd.R_far (p := ⟨gb620, 0, none⟩) (Kd.R_far (p := ⟨gb628, 1, none⟩) (Kd.R_types (Kd.R_types HO635.out BK628.out (by decide)) BK620.out (by decide)) (fun _ hk => hk.1.2) (.slice Ao70 y633.length co70)) (fun _ hk => hk.2) (.int .i64 t621)) (fun _ hk => hk.2) (.slice Ao70 y633.length co70)) (fun _ hk => hk.2) (.slice Ao15 t625.length co15)) (fun _ hk => hk.1.1), by (with_reducible repeat (first | apply Kd.R_alloc | apply Kd.R_drewN | apply Kd.R_drew)); exact Kd.R_mono (Kd.R_far (p := ⟨gb620, 2, none⟩) (Kd.R_far (p := ⟨gb620, 1, none⟩) (Kd.R_far (p := ⟨gb620, 0, none⟩) (Kd.R_far (p := ⟨gb628, 1, none⟩) (Kd.R_types (Kd.R_types HO_629002.out BK628.out (by decide)) BK620.out (by decide)) (fun _ hk => hk.1.2) (.slice Ao70 y633.length co70)) (fun _ hk => hk.2) (.int .i64 t621)) (fun _ hk => hk.2) (.slice Ao70 y633.length co70)) (fun _ hk => hk.2) (.slice Ao15 t625.length co15)) (fun _ hk => hk.1.1.2), pkW HB.out⟩
         ·rw [if_neg c63] at H
          exact absurd H (by simp)
end Go.Proofs.Ytffcphplnilokaa.Z
