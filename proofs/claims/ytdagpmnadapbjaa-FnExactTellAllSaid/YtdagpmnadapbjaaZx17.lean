/- The Go functions impl_NotifyOk as Lean functions, each with a proof that its code comes to just these answers; conditions: those of each theorem. -/
import Derived.Test.YtdagpmnadapbjaaZx0
import Derived.Test.YtdagpmnadapbjaaZx9
import Derived.Test.YtdagpmnadapbjaaZx10
namespace Go.Proofs.Ytdagpmnadapbjaa.Z
open Go.RowKit Go.Proofs.YtdagpmnadapbjaaW.PrintWords Go.Proofs.YtdagpmnadapbjaaW.PrintLast Go.Proofs.YtdagpmnadapbjaaW.PrintMore
attribute [local go_sem] max2_int min2_int max_two min_two max_three min_three max_four min_four   -- for this text's walks alone
set_option linter.unusedVariables false
set_option linter.unusedSimpArgs false
mutual
def impl_NotifyOk.l0 : Nat → List Int → Int → List (S67) → Int → Int → Bool → List Int → List (S67) → Int → Int → Int → Option (Bool)
 | 0, _, _, _, _, _, _, _, _, _, _, _ => none
 | k + 1, x3, x4, x14, x15, x16, x233000, x233001, x233002, x233003, x233004, x233005 => if x16 < x15 then (if 0 ≤ x16 then (if x16 < (x14.length : Int) then (if x3.length < 17592186044416 then ((some (x3 ++ [(rd_T67 x14 x16).f0] : List Int)).bind fun y238 => (if (rd_T67 x14 x16).f1 = true then (impl_NotifyOk.l0 k y238 (wrap64 (x4 + 1)) x14 x15 (wrap64 (x16 + 1)) x233000 x233001 x233002 x233003 x233004 x233005) else (impl_NotifyOk.l0 k y238 x4 x14 x15 (wrap64 (x16 + 1)) x233000 x233001 x233002 x233003 x233004 x233005))) else (none)) else (none)) else (none)) else (if x233000 = true then (impl_NotifyOk.j1 k x3 (wrap64 (x4 + 1)) x233000 x233001 x233002 x233003 x233004 x233005) else (impl_NotifyOk.j1 k x3 x4 x233000 x233001 x233002 x233003 x233004 x233005))
def impl_NotifyOk.j1 : Nat → List Int → Int → Bool → List Int → List (S67) → Int → Int → Int → Option (Bool)
 | 0, _, _, _, _, _, _, _, _ => none
 | k + 1, x3, x4, x233000, x233001, x233002, x233003, x233004, x233005 => (impl_apart.f k x233001 x3).bind fun t241 => (if t241 = true then (if x233000 = true then (if ((x233001.length : Int) > 0) then (some false) else ((impl_isCount.f x233003).bind fun t242 => (if t242 = true then ((impl_isCount.f x233004).bind fun t243 => (if t243 = true then ((impl_isCount.f x233005).bind fun t244 => (if t244 = true then (some (x4 == x233003)) else (some false))) else (some false))) else (some false)))) else ((impl_isCount.f x233003).bind fun t245 => (if t245 = true then ((impl_isCount.f x233004).bind fun t246 => (if t246 = true then ((impl_isCount.f x233005).bind fun t247 => (if t247 = true then (some (x4 == x233003)) else (some false))) else (some false))) else (some false)))) else (some false))
end
def impl_NotifyOk.f (k : Nat) (a0_0 : Bool) (l0_1 : List Int) (l0_2 : List (S67)) (a0_3 : Int) (a0_4 : Int) (a0_5 : Int) : Option (Bool) := impl_NotifyOk.l0 k (([] : List Int)) (wrap64 (a0_5 + a0_4)) l0_2 (l0_2.length : Int) 0 a0_0 l0_1 l0_2 a0_3 a0_4 a0_5
theorem impl_NotifyOk.mono_l : ∀ k, (∀ y0 y1 y2 y3 y4 y5 y6 y7 y8 y9 y10, LeO (impl_NotifyOk.l0 k y0 y1 y2 y3 y4 y5 y6 y7 y8 y9 y10) (impl_NotifyOk.l0 (k + 1) y0 y1 y2 y3 y4 y5 y6 y7 y8 y9 y10)) ∧ (∀ y0 y1 y2 y3 y4 y5 y6 y7, LeO (impl_NotifyOk.j1 k y0 y1 y2 y3 y4 y5 y6 y7) (impl_NotifyOk.j1 (k + 1) y0 y1 y2 y3 y4 y5 y6 y7))
 | 0 => ⟨fun _ _ _ _ _ _ _ _ _ _ _ r h => by simp [impl_NotifyOk.l0] at h, fun _ _ _ _ _ _ _ _ r h => by simp [impl_NotifyOk.j1] at h⟩
 | k + 1 => by
  obtain ⟨ih0, ih1⟩ := impl_NotifyOk.mono_l k
  refine ⟨?_, ?_⟩
  ·intro y0 y1 y2 y3 y4 y5 y6 y7 y8 y9 y10
   unfold impl_NotifyOk.l0
   repeat' first
   | (with_reducible exact ih0 _ _ _ _ _ _ _ _ _ _ _)
   | (with_reducible exact ih1 _ _ _ _ _ _ _ _)
   | (with_reducible exact impl_apart.mono _ _ _)
   | (with_reducible exact LeO.refl _)
   | (with_reducible exact LeO.none _)
   | (with_reducible refine LeO.ite ?_ ?_)
   | (with_reducible refine LeO.bind ?_ (fun _ => ?_))
  ·intro y0 y1 y2 y3 y4 y5 y6 y7
   unfold impl_NotifyOk.j1
   repeat' first
   | (with_reducible exact ih0 _ _ _ _ _ _ _ _ _ _ _)
   | (with_reducible exact ih1 _ _ _ _ _ _ _ _)
   | (with_reducible exact impl_apart.mono _ _ _)
   | (with_reducible exact LeO.refl _)
   | (with_reducible exact LeO.none _)
   | (with_reducible refine LeO.ite ?_ ?_)
   | (with_reducible refine LeO.bind ?_ (fun _ => ?_))
theorem impl_NotifyOk.mono : ∀ a0 a1 a2 a3 a4 a5 k, LeO (impl_NotifyOk.f k a0 a1 a2 a3 a4 a5) (impl_NotifyOk.f (k + 1) a0 a1 a2 a3 a4 a5) := by
 intro a0 a1 a2 a3 a4 a5 k
 obtain ⟨ih0, ih1⟩ := impl_NotifyOk.mono_l k
 unfold impl_NotifyOk.f
 repeat' first
   | (with_reducible exact ih0 _ _ _ _ _ _ _ _ _ _ _)
   | (with_reducible exact ih1 _ _ _ _ _ _ _ _)
   | (with_reducible exact impl_apart.mono _ _ _)
   | (with_reducible exact LeO.refl _)
   | (with_reducible exact LeO.none _)
   | (with_reducible refine LeO.ite ?_ ?_)
   | (with_reducible refine LeO.bind ?_ (fun _ => ?_))
set_option maxHeartbeats 8000000 in
set_option maxRecDepth 100000 in
theorem impl_NotifyOk.calls (k : Nat) (a0_0 : Bool) (A0_1 : Option Addr) (c0_1 : Nat) (l0_1 : List Int) (A0_2 : Option Addr) (c0_2 : Nat) (l0_2 : List (S67)) (a0_3 : Int) (a0_4 : Int) (a0_5 : Int) (r : Bool) (w : World) (hr0_1 : Kd.C (Kd.int .i64) w A0_1 l0_1.length l0_1) (hc0_1 : l0_1.length ≤ c0_1) (hr0_2 : Kd.C k67 w A0_2 l0_2.length l0_2) (hc0_2 : l0_2.length ≤ c0_2) (h : impl_NotifyOk.f k a0_0 l0_1 l0_2 a0_3 a0_4 a0_5 = some r) :
  Calls Try.prog 22 #[.agg #[.bool a0_0, .slice A0_1 l0_1.length c0_1, .slice A0_2 l0_2.length c0_2, .int .i64 a0_3, .int .i64 a0_4, .int .i64 a0_5]] w fun e w' => e = .returned (.bool r) ∧ Below w.heap.size w w' := by
 have hu38 := Try.underlying38
 have hu67 := Try.underlying67
 have HR0_1 := am hr0_1
 have HC0_1 := am hc0_1
 clear hr0_1 hc0_1
 have HR0_2 := am hr0_2
 have HC0_2 := am hc0_2
 clear hr0_2 hc0_2
 have HB := am (Below.refl w.heap.size w)
 have H : (impl_NotifyOk.l0 k (([] : List Int)) (wrap64 (a0_5 + a0_4)) l0_2 (l0_2.length : Int) 0 a0_0 l0_1 l0_2 a0_3 a0_4 a0_5) = some r := h
 clear h
 obtain ⟨y233, hy233⟩ : ∃ y_ : List Int, y_ = (([] : List Int)) := ⟨_, rfl⟩
 replace H : (impl_NotifyOk.l0 k y233 (wrap64 (a0_5 + a0_4)) l0_2 (l0_2.length : Int) 0 a0_0 l0_1 l0_2 a0_3 a0_4 a0_5) = some r := by first | (rw [hy233]; with_reducible exact H) | (have H2_ := (Option.bind_some _ _).symm.trans H; rw [hy233]; with_reducible exact H2_) | (have H2_ := (Option.bind_some _ _).symm.trans H; with_reducible exact H2_) | with_reducible exact H | (rw [hy233]; exact H) | exact H
 have Ny233 := am hy233
 clear hy233
 have H' := am H
 clear H
 go_enter Try.func22, Try.ntmps22
 go_wp2_with (first | ((with_reducible refine gate_dst (N := 1) rfl ?_); (try (refine gate_guard (by rfl) ?_; dsimp only)); refine box_event ?hg (N := 1) ?hd (cs := #[.bool a0_0, .slice A0_1 l0_1.length c0_1, .slice A0_2 l0_2.length c0_2, .int .i64 a0_3, .int .i64 a0_4, .int .i64 a0_5]) (t := 38) ?hr ?_; (case hd => rfl); (case hg => rfl); (case hr => first | (go_simp; done) | (go_simp; rfl)); intro gb232 hg w2 hbox hb; have BK232 := am (hbox); have GW232 := am ((by rw [hg]; exact (below_size (pkB HB.out)) : w.heap.size ≤ gb232)); have GE232 := am ((by rw [hg]; exact (below_size (pkB HB.out)) : w.heap.size ≤ gb232)); replace HB := am (below_step (pkB HB.out) hb); clear hb hbox hg) | ((with_reducible refine gate_dst (N := 7) rfl ?_); (try (refine gate_guard (by rfl) ?_; dsimp only)); refine Kd.R_lit (Kd.int .i64) _ 3 ?hg (N := 7) ?hd (xs := ([] : List Int)) (inner := []) (ok := fun _ => True) (okp := fun _ => True) ?hr ?hp (fun _ hk => hk) trivial (Below.refl _ _) (Nat.le_refl _) (by simp) ?_; (case hd => rfl); (case hg => rfl); (case hr => first | (go_simp; done) | (go_simp; rfl)); (case hp => exact (Reps.none _ _)); intro v234 w3 ho4 hb hg_ hnew_; clear hg_ hnew_; (first | rw [← Ny233.out] at ho4 | (simp only [Int.reduceToNat] at ho4; rw [← Ny233.out] at ho4)); have HO235 := am (Kd.R_lower ho4 (below_size (pkW HB.out))); replace BK232 := am (blk_below (pkK BK232.out) hb); replace HB := am (below_step (pkW HB.out) hb); clear hb ho4; obtain ⟨hcz5_0, hcz5_1, hcz5_2, hcz5_3, hcz5_4, hcz5_5, hfz5_0, hfz5_1, hfz5_2, hfz5_3, hfz5_4, hfz5_5⟩ := bk6 BK232.out))
 go_loopg [3, 4, 16] k (fun kq v3 v4 v16 w' => ∃ (x3_1 : List Int) (x4_1 : Int) (x16_1 : Int), v4 = .int .i64 x4_1 ∧ v16 = .int .i64 x16_1 ∧ Aside0 (impl_NotifyOk.l0 kq x3_1 x4_1 l0_2 (l0_2.length : Int) x16_1 a0_0 l0_1 l0_2 a0_3 a0_4 a0_5 = some r) ∧ Aside0 (kq ≤ k) ∧ Aside0 (Kd.R (Kd.int .i64) 3 w' w.heap.size (fun _ => True) v3 x3_1) ∧ Aside0 (w'.heap[gb232]? = some (.cells #[.bool a0_0, (.slice A0_1 l0_1.length c0_1), (.slice A0_2 l0_2.length c0_2), .int .i64 a0_3, .int .i64 a0_4, .int .i64 a0_5] 38 (0, 0))) ∧ Aside0 (Below w.heap.size w w'))
 case atStart => exact ⟨(y233), (wrap64 (a0_5 + a0_4)), (0), rfx, rfx, H', ⟨Nat.le_refl _⟩, ⟨pkR HO235.out⟩, ⟨pkK BK232.out⟩, ⟨pkW HB.out⟩⟩
 case round =>
  clear H'
  try clear c2
  try clear p2
  try clear hcz5_0
  try clear hcz5_1
  try clear hcz5_2
  try clear hcz5_3
  try clear hcz5_4
  try clear hcz5_5
  try clear hfz5_0
  try clear hfz5_1
  try clear hfz5_2
  try clear hfz5_3
  try clear hfz5_4
  try clear hfz5_5
  obtain ⟨x3_1, x4_1, x16_1, rfl, rfl, HA, HK1, HO_3, BK232, HB⟩ := hrel
  cases gk with
  | zero => exact absurd HA.out (by simp [impl_NotifyOk.l0])
  | succ k1 =>
   have H := HA.out
   clear HA
   simp only [impl_NotifyOk.l0] at H
   by_cases c6 : x16_1 < (l0_2.length : Int)
   ·rw [if_pos c6] at H
    have c6b0 : decide (x16_1 < (l0_2.length : Int)) = true := decide_eq_true c6
    clear c6
    by_cases c7 : 0 ≤ x16_1
    ·rw [if_pos c7] at H
     have c7b0 : decide (0 ≤ x16_1) = true := decide_eq_true c7
     clear c7
     by_cases c8 : x16_1 < (l0_2.length : Int)
     ·rw [if_pos c8] at H
      have c8b0 : decide (x16_1 < (l0_2.length : Int)) = true := decide_eq_true c8
      clear c8
      by_cases c9 : x3_1.length < 17592186044416
      ·rw [if_pos c9] at H
       have LMc9 := am c9
       clear c9
       obtain ⟨y238, hy238⟩ : ∃ y_ : List Int, y_ = (x3_1 ++ [(rd_T67 l0_2 x16_1).f0]) := ⟨_, rfl⟩
       replace H : (if (rd_T67 l0_2 x16_1).f1 = true then (impl_NotifyOk.l0 k1 y238 (wrap64 (x4_1 + 1)) l0_2 (l0_2.length : Int) (wrap64 (x16_1 + 1)) a0_0 l0_1 l0_2 a0_3 a0_4 a0_5) else (impl_NotifyOk.l0 k1 y238 x4_1 l0_2 (l0_2.length : Int) (wrap64 (x16_1 + 1)) a0_0 l0_1 l0_2 a0_3 a0_4 a0_5)) = some r := by first | (rw [hy238]; with_reducible exact H) | (have H2_ := (Option.bind_some _ _).symm.trans H; rw [hy238]; with_reducible exact H2_) | (have H2_ := (Option.bind_some _ _).symm.trans H; with_reducible exact H2_) | with_reducible exact H | (rw [hy238]; exact H) | exact H
       have Ny238 := am hy238
       clear hy238
       obtain ⟨bq10, hbq10⟩ : ∃ b_ : Bool, b_ = ((rd_T67 l0_2 x16_1).f1) := ⟨_, rfl⟩
       replace H : (if bq10 = true then (impl_NotifyOk.l0 k1 y238 (wrap64 (x4_1 + 1)) l0_2 (l0_2.length : Int) (wrap64 (x16_1 + 1)) a0_0 l0_1 l0_2 a0_3 a0_4 a0_5) else (impl_NotifyOk.l0 k1 y238 x4_1 l0_2 (l0_2.length : Int) (wrap64 (x16_1 + 1)) a0_0 l0_1 l0_2 a0_3 a0_4 a0_5)) = some r := by rw [← hbq10] at H; exact H
       have Nbq10 := am hbq10
       clear hbq10
       by_cases c11 : bq10 = true
       ·subst c11
        replace H : (impl_NotifyOk.l0 k1 y238 (wrap64 (x4_1 + 1)) l0_2 (l0_2.length : Int) (wrap64 (x16_1 + 1)) a0_0 l0_1 l0_2 a0_3 a0_4 a0_5) = some r := by rw [if_pos rfl] at H; exact H
        have H' := am H
        clear H
        have p236 : 0 ≤ (x16_1 : Int) := ofd
        have q236 : x16_1 < (l0_2.length : Int) := ofd
        obtain ⟨ad236, e236, hx236_0, hx236_1⟩ := at_T67 HR0_2.out x16_1 p236 q236
        (try rw [← Nbq10.out] at hx236_1)
        cases e236
        replace hx236_0 := (HB.out.cell (World.block_lt_of_cell? w _ hx236_0)).trans hx236_0
        replace hx236_1 := (HB.out.cell (World.block_lt_of_cell? w _ hx236_1)).trans hx236_1
        replace p236 := eq_true p236
        replace q236 := eq_true q236
        go_wp2_with (first | ((with_reducible refine gate_dst (N := 6) rfl ?_); (try (refine gate_guard (by rfl) ?_; dsimp only)); refine box_event ?hg (N := 6) ?hd (cs := #[.int .i64 0, .bool false]) (t := 67) ?hr ?_; (case hd => rfl); (case hg => rfl); (case hr => first | (go_simp; done) | (go_simp; rfl)); intro gb237 hg w12 hbox hb; replace HO_3 := am (Kd.R_below (pkR HO_3.out) hb); have BK237 := am (hbox); have GW237 := am ((by rw [hg]; exact (below_size (pkW HB.out)) : w.heap.size ≤ gb237)); have GE237 := am ((by rw [hg]; exact (below_size (pkW HB.out)) : w.heap.size ≤ gb237)); replace HB := am (below_step (pkW HB.out) hb); have NB232_237 := am ((by rw [hg]; exact Nat.ne_of_lt (blk_lt (g := gb232) (o := .cells #[.bool a0_0, .slice A0_1 l0_1.length c0_1, .slice (some ad236) l0_2.length c0_2, .int .i64 a0_3, .int .i64 a0_4, .int .i64 a0_5] 38 (0, 0)) (pkK BK232.out)) : gb232 ≠ gb237)); have NB237_232 := am ((by rw [hg]; exact Nat.ne_of_gt (blk_lt (g := gb232) (o := .cells #[.bool a0_0, .slice A0_1 l0_1.length c0_1, .slice (some ad236) l0_2.length c0_2, .int .i64 a0_3, .int .i64 a0_4, .int .i64 a0_5] 38 (0, 0)) (pkK BK232.out)) : gb237 ≠ gb232)); replace BK232 := am (blk_below (pkK BK232.out) hb); clear hb hbox hg; have hnb13 := NB237_232.out; have hnc13 := NB232_237.out; obtain ⟨hcz14_0, hcz14_1, hfz14_0, hfz14_1⟩ := bk2 BK237.out) | ((with_reducible refine gate_builtin (b := .append) (xs := #[.tmp 20, .tmp 23]) rfl ?_); (try (refine gate_guard (by rfl) ?_; dsimp only)); at_builtin; refine Kd.R_append (Kd.int .i64) (w0 := w) w.heap.size rfl (.tmp 20) (.tmp 23) 22 3 (.int .i64 0) 8 rfl Try.underlying22 info3 rfl (by decide) (by omega) u3 x3_1 ((rd_T67 l0_2 x16_1).f0) [.int .i64 ((rd_T67 l0_2 x16_1).f0)] (fun _ => True) (fun _ => False) rfl (by first | (go_simp; done) | (go_simp; rfl)) ?aP (fun _ hk => hk.elim) ?aF ?aO ?aB ?aS ?aL ?_; (case aP => exact rfl); (case aB => exact (pkW HB.out)); (case aF => exact (fun _ _ => trivial)); (case aO => exact (by (with_reducible repeat (first | apply Kd.R_alloc | apply Kd.R_drewN | apply Kd.R_drew)); exact Kd.R_mono (Kd.R_far (p := ⟨gb237, 1, none⟩) (Kd.R_far (p := ⟨gb237, 0, none⟩) (Kd.R_types HO_3.out BK237.out (by decide)) (fun _ hk => hk.2) (.int .i64 ((rd_T67 l0_2 x16_1).f0))) (fun _ hk => hk.2) (.bool true)) (fun _ hk => trivial))); (case aS => exact (below_size (pkW HB.out))); (case aL => have := LMc9.out; omega); intro v239 w15 ho hb hg hat; rw [← Ny238.out] at ho; replace BK232 := am (blk_grown (g := gb232) (o := .cells #[.bool a0_0, .slice A0_1 l0_1.length c0_1, .slice (some ad236) l0_2.length c0_2, .int .i64 a0_3, .int .i64 a0_4, .int .i64 a0_5] 38 (0, 0)) (by (with_reducible repeat (first | refine blk_drewN ?_ _ | refine blk_drew ?_ | refine blk_alloc ?_ _)); refine blk_far ?_ NB232_237.out _; (with_reducible repeat (first | refine blk_drewN ?_ _ | refine blk_drew ?_ | refine blk_alloc ?_ _)); refine blk_far ?_ NB232_237.out _; exact pkK BK232.out) hg (Kd.R_ne HO_3.out BK232.out (by decide))); replace BK237 := am (blk_grown (g := gb237) (o := .cells #[.int .i64 ((rd_T67 l0_2 x16_1).f0), .bool true] 67 (0, 0)) (by (with_reducible repeat (first | refine blk_drewN ?_ _ | refine blk_drew ?_ | refine blk_alloc ?_ _)); refine blk_put (cs := #[.int .i64 ((rd_T67 l0_2 x16_1).f0), .bool false]) ?_ 1 _ rfl; (with_reducible repeat (first | refine blk_drewN ?_ _ | refine blk_drew ?_ | refine blk_alloc ?_ _)); refine blk_put (cs := #[.int .i64 0, .bool false]) ?_ 0 _ rfl; exact pkK BK237.out) hg (Kd.R_ne HO_3.out BK237.out (by decide))); replace HB := am (hb); have HO240 := am (ho); clear HO_3; clear ho hb hg hat; obtain ⟨hcz16_0, hcz16_1, hfz16_0, hfz16_1⟩ := bk2 BK237.out))
        go_roundg k1
        case measure => have := HK1.out; omega
        case rel => exact ⟨(y238), (wrap64 (x4_1 + 1)), (wrap64 (x16_1 + 1)), rfx, rfx, H', ⟨by have := HK1.out; omega⟩, ⟨pkR HO240.out⟩, ⟨pkK BK232.out⟩, ⟨pkW HB.out⟩⟩
       ·replace c11 := Bool.eq_false_iff.mpr c11
        subst c11
        replace H : (impl_NotifyOk.l0 k1 y238 x4_1 l0_2 (l0_2.length : Int) (wrap64 (x16_1 + 1)) a0_0 l0_1 l0_2 a0_3 a0_4 a0_5) = some r := by rw [if_neg (show ¬ (false = true) by decide)] at H; exact H
        have H' := am H
        clear H
        have p236 : 0 ≤ (x16_1 : Int) := ofd
        have q236 : x16_1 < (l0_2.length : Int) := ofd
        obtain ⟨ad236, e236, hx236_0, hx236_1⟩ := at_T67 HR0_2.out x16_1 p236 q236
        (try rw [← Nbq10.out] at hx236_1)
        cases e236
        replace hx236_0 := (HB.out.cell (World.block_lt_of_cell? w _ hx236_0)).trans hx236_0
        replace hx236_1 := (HB.out.cell (World.block_lt_of_cell? w _ hx236_1)).trans hx236_1
        replace p236 := eq_true p236
        replace q236 := eq_true q236
        go_wp2_with (first | ((with_reducible refine gate_dst (N := 6) rfl ?_); (try (refine gate_guard (by rfl) ?_; dsimp only)); refine box_event ?hg (N := 6) ?hd (cs := #[.int .i64 0, .bool false]) (t := 67) ?hr ?_; (case hd => rfl); (case hg => rfl); (case hr => first | (go_simp; done) | (go_simp; rfl)); intro gb237 hg w17 hbox hb; replace HO_3 := am (Kd.R_below (pkR HO_3.out) hb); have BK237 := am (hbox); have GW237 := am ((by rw [hg]; exact (below_size (pkW HB.out)) : w.heap.size ≤ gb237)); have GE237 := am ((by rw [hg]; exact (below_size (pkW HB.out)) : w.heap.size ≤ gb237)); replace HB := am (below_step (pkW HB.out) hb); have NB232_237 := am ((by rw [hg]; exact Nat.ne_of_lt (blk_lt (g := gb232) (o := .cells #[.bool a0_0, .slice A0_1 l0_1.length c0_1, .slice (some ad236) l0_2.length c0_2, .int .i64 a0_3, .int .i64 a0_4, .int .i64 a0_5] 38 (0, 0)) (pkK BK232.out)) : gb232 ≠ gb237)); have NB237_232 := am ((by rw [hg]; exact Nat.ne_of_gt (blk_lt (g := gb232) (o := .cells #[.bool a0_0, .slice A0_1 l0_1.length c0_1, .slice (some ad236) l0_2.length c0_2, .int .i64 a0_3, .int .i64 a0_4, .int .i64 a0_5] 38 (0, 0)) (pkK BK232.out)) : gb237 ≠ gb232)); replace BK232 := am (blk_below (pkK BK232.out) hb); clear hb hbox hg; have hnb18 := NB237_232.out; have hnc18 := NB232_237.out; obtain ⟨hcz19_0, hcz19_1, hfz19_0, hfz19_1⟩ := bk2 BK237.out) | ((with_reducible refine gate_builtin (b := .append) (xs := #[.tmp 20, .tmp 23]) rfl ?_); (try (refine gate_guard (by rfl) ?_; dsimp only)); at_builtin; refine Kd.R_append (Kd.int .i64) (w0 := w) w.heap.size rfl (.tmp 20) (.tmp 23) 22 3 (.int .i64 0) 8 rfl Try.underlying22 info3 rfl (by decide) (by omega) u3 x3_1 ((rd_T67 l0_2 x16_1).f0) [.int .i64 ((rd_T67 l0_2 x16_1).f0)] (fun _ => True) (fun _ => False) rfl (by first | (go_simp; done) | (go_simp; rfl)) ?aP (fun _ hk => hk.elim) ?aF ?aO ?aB ?aS ?aL ?_; (case aP => exact rfl); (case aB => exact (pkW HB.out)); (case aF => exact (fun _ _ => trivial)); (case aO => exact (by (with_reducible repeat (first | apply Kd.R_alloc | apply Kd.R_drewN | apply Kd.R_drew)); exact Kd.R_mono (Kd.R_far (p := ⟨gb237, 1, none⟩) (Kd.R_far (p := ⟨gb237, 0, none⟩) (Kd.R_types HO_3.out BK237.out (by decide)) (fun _ hk => hk.2) (.int .i64 ((rd_T67 l0_2 x16_1).f0))) (fun _ hk => hk.2) (.bool false)) (fun _ hk => trivial))); (case aS => exact (below_size (pkW HB.out))); (case aL => have := LMc9.out; omega); intro v239 w20 ho hb hg hat; rw [← Ny238.out] at ho; replace BK232 := am (blk_grown (g := gb232) (o := .cells #[.bool a0_0, .slice A0_1 l0_1.length c0_1, .slice (some ad236) l0_2.length c0_2, .int .i64 a0_3, .int .i64 a0_4, .int .i64 a0_5] 38 (0, 0)) (by (with_reducible repeat (first | refine blk_drewN ?_ _ | refine blk_drew ?_ | refine blk_alloc ?_ _)); refine blk_far ?_ NB232_237.out _; (with_reducible repeat (first | refine blk_drewN ?_ _ | refine blk_drew ?_ | refine blk_alloc ?_ _)); refine blk_far ?_ NB232_237.out _; exact pkK BK232.out) hg (Kd.R_ne HO_3.out BK232.out (by decide))); replace BK237 := am (blk_grown (g := gb237) (o := .cells #[.int .i64 ((rd_T67 l0_2 x16_1).f0), .bool false] 67 (0, 0)) (by (with_reducible repeat (first | refine blk_drewN ?_ _ | refine blk_drew ?_ | refine blk_alloc ?_ _)); refine blk_put (cs := #[.int .i64 ((rd_T67 l0_2 x16_1).f0), .bool false]) ?_ 1 _ rfl; (with_reducible repeat (first | refine blk_drewN ?_ _ | refine blk_drew ?_ | refine blk_alloc ?_ _)); refine blk_put (cs := #[.int .i64 0, .bool false]) ?_ 0 _ rfl; exact pkK BK237.out) hg (Kd.R_ne HO_3.out BK237.out (by decide))); replace HB := am (hb); have HO240 := am (ho); clear HO_3; clear ho hb hg hat; obtain ⟨hcz21_0, hcz21_1, hfz21_0, hfz21_1⟩ := bk2 BK237.out))
        go_roundg k1
        case measure => have := HK1.out; omega
        case rel => exact ⟨(y238), (x4_1), (wrap64 (x16_1 + 1)), rfx, rfx, H', ⟨by have := HK1.out; omega⟩, ⟨pkR HO240.out⟩, ⟨pkK BK232.out⟩, ⟨pkW HB.out⟩⟩
      ·rw [if_neg c9] at H
       exact absurd H (by simp)
     ·rw [if_neg c8] at H
      exact absurd H (by simp)
    ·rw [if_neg c7] at H
     exact absurd H (by simp)
   ·rw [if_neg c6] at H
    have c6b0 : decide (x16_1 < (l0_2.length : Int)) = false := decide_eq_false c6
    clear c6
    have HC22 := am H
    clear H
    obtain ⟨hcz23_0, hcz23_1, hcz23_2, hcz23_3, hcz23_4, hcz23_5, hfz23_0, hfz23_1, hfz23_2, hfz23_3, hfz23_4, hfz23_5⟩ := bk6 BK232.out
    go_upto_if 31 with (fail)
    go_cut [4] (fun v4 wc => ∃ (kq : Nat) (x4_21 : Int), v4 = .int .i64 x4_21 ∧ Aside0 (impl_NotifyOk.j1 kq x3_1 x4_21 a0_0 l0_1 l0_2 a0_3 a0_4 a0_5 = some r) ∧ Aside0 (kq ≤ k1) ∧ Aside0 (Kd.R (Kd.int .i64) 3 wc w.heap.size (fun _ => True) u3 x3_1) ∧ Aside0 (wc.heap[gb232]? = some (.cells #[.bool a0_0, (.slice A0_1 l0_1.length c0_1), (.slice A0_2 l0_2.length c0_2), .int .i64 a0_3, .int .i64 a0_4, .int .i64 a0_5] 38 (0, 0))) ∧ Aside0 (Below w.heap.size w wc))
    case first =>
     have H := HC22.out
     clear HC22
     by_cases c24 : a0_0 = true
     ·subst c24
      replace H : (impl_NotifyOk.j1 k1 x3_1 (wrap64 (x4_1 + 1)) true l0_1 l0_2 a0_3 a0_4 a0_5) = some r := by rw [if_pos rfl] at H; exact H
      have H' := am H
      clear H
      go_wp2
      go_meet
      case rel => exact ⟨_, (wrap64 (x4_1 + 1)), rfx, H', ⟨by have := HK1.out; first | omega | exact Nat.le_refl _⟩, ⟨pkR HO_3.out⟩, ⟨pkK BK232.out⟩, ⟨pkW HB.out⟩⟩
     ·replace c24 := Bool.eq_false_iff.mpr c24
      subst c24
      replace H : (impl_NotifyOk.j1 k1 x3_1 x4_1 false l0_1 l0_2 a0_3 a0_4 a0_5) = some r := by rw [if_neg (show ¬ (false = true) by decide)] at H; exact H
      have H' := am H
      clear H
      go_wp2
      go_meet
      case rel => exact ⟨_, (x4_1), rfx, H', ⟨by have := HK1.out; first | omega | exact Nat.le_refl _⟩, ⟨pkR HO_3.out⟩, ⟨pkK BK232.out⟩, ⟨pkW HB.out⟩⟩
    case rest =>
     clear HC22
     try clear c1
     try clear q1
     try clear c2
     try clear p2
     try clear q2
     try clear hx2
     try clear c6
     try clear c6b0
     try clear p6
     try clear c7
     try clear c7b0
     try clear c8
     try clear c8b0
     try clear c9
     try clear q10
     try clear c11
     try clear c13
     try clear c18
     try clear c22
     try clear p23
     try clear q23
     try clear hx23
     try clear c24
     try clear hcz14_0
     try clear hcz14_1
     try clear hcz16_0
     try clear hcz16_1
     try clear hcz19_0
     try clear hcz19_1
     try clear hcz21_0
     try clear hcz21_1
     try clear hcz23_0
     try clear hcz23_1
     try clear hcz23_2
     try clear hcz23_3
     try clear hcz23_4
     try clear hcz23_5
     try clear hcz5_0
     try clear hcz5_1
     try clear hcz5_2
     try clear hcz5_3
     try clear hcz5_4
     try clear hcz5_5
     try clear hfz14_0
     try clear hfz14_1
     try clear hfz16_0
     try clear hfz16_1
     try clear hfz19_0
     try clear hfz19_1
     try clear hfz21_0
     try clear hfz21_1
     try clear hfz23_0
     try clear hfz23_1
     try clear hfz23_2
     try clear hfz23_3
     try clear hfz23_4
     try clear hfz23_5
     try clear hfz5_0
     try clear hfz5_1
     try clear hfz5_2
     try clear hfz5_3
     try clear hfz5_4
     try clear hfz5_5
     try clear hx236_0
     try clear hx236_1
     try clear p2
     try clear p236
     try clear q236
     obtain ⟨kq, x4_21, rfl, HA, HJ21, HO_3, BK232, HB⟩ := hcut
     cases kq with
     | zero => exact absurd HA.out (by simp [impl_NotifyOk.j1])
     | succ kj21 =>
      have H := HA.out
      clear HA
      simp only [impl_NotifyOk.j1] at H
      replace H := Option.bind_eq_some_iff.mp H
      obtain ⟨t241, A250, H⟩ := H
      replace H : (if t241 = true then (if a0_0 = true then (if ((l0_1.length : Int) > 0) then (some false) else ((impl_isCount.f a0_3).bind fun t242 => (if t242 = true then ((impl_isCount.f a0_4).bind fun t243 => (if t243 = true then ((impl_isCount.f a0_5).bind fun t244 => (if t244 = true then (some (x4_21 == a0_3)) else (some false))) else (some false))) else (some false)))) else ((impl_isCount.f a0_3).bind fun t245 => (if t245 = true then ((impl_isCount.f a0_4).bind fun t246 => (if t246 = true then ((impl_isCount.f a0_5).bind fun t247 => (if t247 = true then (some (x4_21 == a0_3)) else (some false))) else (some false))) else (some false)))) else (some false)) = some r := H
      have A25 := am A250
      clear A250
      by_cases c26 : t241 = true
      ·subst c26
       replace H : (if a0_0 = true then (if ((l0_1.length : Int) > 0) then (some false) else ((impl_isCount.f a0_3).bind fun t242 => (if t242 = true then ((impl_isCount.f a0_4).bind fun t243 => (if t243 = true then ((impl_isCount.f a0_5).bind fun t244 => (if t244 = true then (some (x4_21 == a0_3)) else (some false))) else (some false))) else (some false)))) else ((impl_isCount.f a0_3).bind fun t245 => (if t245 = true then ((impl_isCount.f a0_4).bind fun t246 => (if t246 = true then ((impl_isCount.f a0_5).bind fun t247 => (if t247 = true then (some (x4_21 == a0_3)) else (some false))) else (some false))) else (some false)))) = some r := by rw [if_pos rfl] at H; exact H
       by_cases c27 : a0_0 = true
       ·subst c27
        replace H : (if ((l0_1.length : Int) > 0) then (some false) else ((impl_isCount.f a0_3).bind fun t242 => (if t242 = true then ((impl_isCount.f a0_4).bind fun t243 => (if t243 = true then ((impl_isCount.f a0_5).bind fun t244 => (if t244 = true then (some (x4_21 == a0_3)) else (some false))) else (some false))) else (some false)))) = some r := by rw [if_pos rfl] at H; exact H
        by_cases c28 : ((l0_1.length : Int) > 0)
        ·rw [if_pos c28] at H
         have c28b0 : decide (0 < (l0_1.length : Int)) = true := decide_eq_true c28
         have c28b1 : decide (0 < l0_1.length) = true := decide_eq_true (by omega)
         clear c28
         obtain rfl := Option.some.inj H
         obtain ⟨hcz29_0, hcz29_1, hcz29_2, hcz29_3, hcz29_4, hcz29_5, hfz29_0, hfz29_1, hfz29_2, hfz29_3, hfz29_4, hfz29_5⟩ := bk6 BK232.out
         obtain ⟨Ao30, co30, eo30⟩ := Kd.R_slice HO_3.out
         subst eo30
         go_wp2_with (first | ((with_reducible refine gate_callee (f := 54) rfl ?_); refine goesL_ (some 37) rfl rfl Try.func54 (by kernel_rfl) rfl #[.slice A0_1 l0_1.length c0_1, .slice Ao30 x3_1.length co30] rfl mpx ?_; (with_reducible refine (impl_apart.calls kj21 _ _ l0_1 _ _ x3_1 true _ ?side1 ?side2 ?side3 ?side4 A25.out).mono ?_); (case side1 => exact pkC (Kd.C_below HR0_1.out HB.out)); (case side2 => exact HC0_1.out); (case side3 => exact pkC (Kd.R_reads' HO_3.out).2.2); (case side4 => exact (Kd.R_reads' HO_3.out).2.1); rintro e w31 ⟨rfl, hb⟩; refine ⟨_, rfl, ?_⟩; replace HO_3 := am (Kd.R_below (pkR HO_3.out) hb); replace BK232 := am (blk_below (pkK BK232.out) hb); replace HB := am (below_step (pkW HB.out) hb); (try clear hb); obtain ⟨hcz32_0, hcz32_1, hcz32_2, hcz32_3, hcz32_4, hcz32_5, hfz32_0, hfz32_1, hfz32_2, hfz32_3, hfz32_4, hfz32_5⟩ := bk6 BK232.out))
         go_ret
         exact ⟨rfe, pkW HB.out⟩
        ·rw [if_neg c28] at H
         have c28b0 : decide (0 < (l0_1.length : Int)) = false := decide_eq_false c28
         have c28b1 : decide (0 < l0_1.length) = false := decide_eq_false (by omega)
         clear c28
         replace H := Option.bind_eq_some_iff.mp H
         obtain ⟨t242, A330, H⟩ := H
         replace H : (if t242 = true then ((impl_isCount.f a0_4).bind fun t243 => (if t243 = true then ((impl_isCount.f a0_5).bind fun t244 => (if t244 = true then (some (x4_21 == a0_3)) else (some false))) else (some false))) else (some false)) = some r := H
         have A33 := am A330
         clear A330
         by_cases c34 : t242 = true
         ·subst c34
          replace H : ((impl_isCount.f a0_4).bind fun t243 => (if t243 = true then ((impl_isCount.f a0_5).bind fun t244 => (if t244 = true then (some (x4_21 == a0_3)) else (some false))) else (some false))) = some r := by rw [if_pos rfl] at H; exact H
          replace H := Option.bind_eq_some_iff.mp H
          obtain ⟨t243, A350, H⟩ := H
          replace H : (if t243 = true then ((impl_isCount.f a0_5).bind fun t244 => (if t244 = true then (some (x4_21 == a0_3)) else (some false))) else (some false)) = some r := H
          have A35 := am A350
          clear A350
          by_cases c36 : t243 = true
          ·subst c36
           replace H : ((impl_isCount.f a0_5).bind fun t244 => (if t244 = true then (some (x4_21 == a0_3)) else (some false))) = some r := by rw [if_pos rfl] at H; exact H
           replace H := Option.bind_eq_some_iff.mp H
           obtain ⟨t244, A370, H⟩ := H
           replace H : (if t244 = true then (some (x4_21 == a0_3)) else (some false)) = some r := H
           have A37 := am A370
           clear A370
           by_cases c38 : t244 = true
           ·subst c38
            replace H : (some (x4_21 == a0_3)) = some r := by rw [if_pos rfl] at H; exact H
            obtain rfl := Option.some.inj H
            obtain ⟨hcz39_0, hcz39_1, hcz39_2, hcz39_3, hcz39_4, hcz39_5, hfz39_0, hfz39_1, hfz39_2, hfz39_3, hfz39_4, hfz39_5⟩ := bk6 BK232.out
            obtain ⟨Ao40, co40, eo40⟩ := Kd.R_slice HO_3.out
            subst eo40
            go_wp2_with (first | ((with_reducible refine gate_callee (f := 54) rfl ?_); refine goesL_ (some 37) rfl rfl Try.func54 (by kernel_rfl) rfl #[.slice A0_1 l0_1.length c0_1, .slice Ao40 x3_1.length co40] rfl mpx ?_; (with_reducible refine (impl_apart.calls kj21 _ _ l0_1 _ _ x3_1 true _ ?side1 ?side2 ?side3 ?side4 A25.out).mono ?_); (case side1 => exact pkC (Kd.C_below HR0_1.out HB.out)); (case side2 => exact HC0_1.out); (case side3 => exact pkC (Kd.R_reads' HO_3.out).2.2); (case side4 => exact (Kd.R_reads' HO_3.out).2.1); rintro e w41 ⟨rfl, hb⟩; refine ⟨_, rfl, ?_⟩; replace HO_3 := am (Kd.R_below (pkR HO_3.out) hb); replace BK232 := am (blk_below (pkK BK232.out) hb); replace HB := am (below_step (pkW HB.out) hb); (try clear hb); obtain ⟨hcz42_0, hcz42_1, hcz42_2, hcz42_3, hcz42_4, hcz42_5, hfz42_0, hfz42_1, hfz42_2, hfz42_3, hfz42_4, hfz42_5⟩ := bk6 BK232.out) | (go_at_call 55; (with_reducible refine (impl_isCount.calls a0_3 true _ A33.out).mono ?_); rintro e w' ⟨rfl, ⟨nd, rfl⟩⟩) | (go_at_call 55; (with_reducible refine (impl_isCount.calls a0_4 true _ A35.out).mono ?_); rintro e w' ⟨rfl, ⟨nd, rfl⟩⟩) | (go_at_call 55; (with_reducible refine (impl_isCount.calls a0_5 true _ A37.out).mono ?_); rintro e w' ⟨rfl, ⟨nd, rfl⟩⟩))
            go_ret
            exact ⟨rfe, pkW HB.out⟩
           ·replace c38 := Bool.eq_false_iff.mpr c38
            subst c38
            replace H : (some false) = some r := by rw [if_neg (show ¬ (false = true) by decide)] at H; exact H
            obtain rfl := Option.some.inj H
            obtain ⟨hcz43_0, hcz43_1, hcz43_2, hcz43_3, hcz43_4, hcz43_5, hfz43_0, hfz43_1, hfz43_2, hfz43_3, hfz43_4, hfz43_5⟩ := bk6 BK232.out
            obtain ⟨Ao44, co44, eo44⟩ := Kd.R_slice HO_3.out
            subst eo44
            go_wp2_with (first | ((with_reducible refine gate_callee (f := 54) rfl ?_); refine goesL_ (some 37) rfl rfl Try.func54 (by kernel_rfl) rfl #[.slice A0_1 l0_1.length c0_1, .slice Ao44 x3_1.length co44] rfl mpx ?_; (with_reducible refine (impl_apart.calls kj21 _ _ l0_1 _ _ x3_1 true _ ?side1 ?side2 ?side3 ?side4 A25.out).mono ?_); (case side1 => exact pkC (Kd.C_below HR0_1.out HB.out)); (case side2 => exact HC0_1.out); (case side3 => exact pkC (Kd.R_reads' HO_3.out).2.2); (case side4 => exact (Kd.R_reads' HO_3.out).2.1); rintro e w45 ⟨rfl, hb⟩; refine ⟨_, rfl, ?_⟩; replace HO_3 := am (Kd.R_below (pkR HO_3.out) hb); replace BK232 := am (blk_below (pkK BK232.out) hb); replace HB := am (below_step (pkW HB.out) hb); (try clear hb); obtain ⟨hcz46_0, hcz46_1, hcz46_2, hcz46_3, hcz46_4, hcz46_5, hfz46_0, hfz46_1, hfz46_2, hfz46_3, hfz46_4, hfz46_5⟩ := bk6 BK232.out) | (go_at_call 55; (with_reducible refine (impl_isCount.calls a0_3 true _ A33.out).mono ?_); rintro e w' ⟨rfl, ⟨nd, rfl⟩⟩) | (go_at_call 55; (with_reducible refine (impl_isCount.calls a0_4 true _ A35.out).mono ?_); rintro e w' ⟨rfl, ⟨nd, rfl⟩⟩) | (go_at_call 55; (with_reducible refine (impl_isCount.calls a0_5 false _ A37.out).mono ?_); rintro e w' ⟨rfl, ⟨nd, rfl⟩⟩))
            go_ret
            exact ⟨rfe, pkW HB.out⟩
          ·replace c36 := Bool.eq_false_iff.mpr c36
           subst c36
           replace H : (some false) = some r := by rw [if_neg (show ¬ (false = true) by decide)] at H; exact H
           obtain rfl := Option.some.inj H
           obtain ⟨hcz47_0, hcz47_1, hcz47_2, hcz47_3, hcz47_4, hcz47_5, hfz47_0, hfz47_1, hfz47_2, hfz47_3, hfz47_4, hfz47_5⟩ := bk6 BK232.out
           obtain ⟨Ao48, co48, eo48⟩ := Kd.R_slice HO_3.out
           subst eo48
           go_wp2_with (first | ((with_reducible refine gate_callee (f := 54) rfl ?_); refine goesL_ (some 37) rfl rfl Try.func54 (by kernel_rfl) rfl #[.slice A0_1 l0_1.length c0_1, .slice Ao48 x3_1.length co48] rfl mpx ?_; (with_reducible refine (impl_apart.calls kj21 _ _ l0_1 _ _ x3_1 true _ ?side1 ?side2 ?side3 ?side4 A25.out).mono ?_); (case side1 => exact pkC (Kd.C_below HR0_1.out HB.out)); (case side2 => exact HC0_1.out); (case side3 => exact pkC (Kd.R_reads' HO_3.out).2.2); (case side4 => exact (Kd.R_reads' HO_3.out).2.1); rintro e w49 ⟨rfl, hb⟩; refine ⟨_, rfl, ?_⟩; replace HO_3 := am (Kd.R_below (pkR HO_3.out) hb); replace BK232 := am (blk_below (pkK BK232.out) hb); replace HB := am (below_step (pkW HB.out) hb); (try clear hb); obtain ⟨hcz50_0, hcz50_1, hcz50_2, hcz50_3, hcz50_4, hcz50_5, hfz50_0, hfz50_1, hfz50_2, hfz50_3, hfz50_4, hfz50_5⟩ := bk6 BK232.out) | (go_at_call 55; (with_reducible refine (impl_isCount.calls a0_3 true _ A33.out).mono ?_); rintro e w' ⟨rfl, ⟨nd, rfl⟩⟩) | (go_at_call 55; (with_reducible refine (impl_isCount.calls a0_4 false _ A35.out).mono ?_); rintro e w' ⟨rfl, ⟨nd, rfl⟩⟩))
           go_ret
           exact ⟨rfe, pkW HB.out⟩
         ·replace c34 := Bool.eq_false_iff.mpr c34
          subst c34
          replace H : (some false) = some r := by rw [if_neg (show ¬ (false = true) by decide)] at H; exact H
          obtain rfl := Option.some.inj H
          obtain ⟨hcz51_0, hcz51_1, hcz51_2, hcz51_3, hcz51_4, hcz51_5, hfz51_0, hfz51_1, hfz51_2, hfz51_3, hfz51_4, hfz51_5⟩ := bk6 BK232.out
          obtain ⟨Ao52, co52, eo52⟩ := Kd.R_slice HO_3.out
          subst eo52
          go_wp2_with (first | ((with_reducible refine gate_callee (f := 54) rfl ?_); refine goesL_ (some 37) rfl rfl Try.func54 (by kernel_rfl) rfl #[.slice A0_1 l0_1.length c0_1, .slice Ao52 x3_1.length co52] rfl mpx ?_; (with_reducible refine (impl_apart.calls kj21 _ _ l0_1 _ _ x3_1 true _ ?side1 ?side2 ?side3 ?side4 A25.out).mono ?_); (case side1 => exact pkC (Kd.C_below HR0_1.out HB.out)); (case side2 => exact HC0_1.out); (case side3 => exact pkC (Kd.R_reads' HO_3.out).2.2); (case side4 => exact (Kd.R_reads' HO_3.out).2.1); rintro e w53 ⟨rfl, hb⟩; refine ⟨_, rfl, ?_⟩; replace HO_3 := am (Kd.R_below (pkR HO_3.out) hb); replace BK232 := am (blk_below (pkK BK232.out) hb); replace HB := am (below_step (pkW HB.out) hb); (try clear hb); obtain ⟨hcz54_0, hcz54_1, hcz54_2, hcz54_3, hcz54_4, hcz54_5, hfz54_0, hfz54_1, hfz54_2, hfz54_3, hfz54_4, hfz54_5⟩ := bk6 BK232.out) | (go_at_call 55; (with_reducible refine (impl_isCount.calls a0_3 false _ A33.out).mono ?_); rintro e w' ⟨rfl, ⟨nd, rfl⟩⟩))
          go_ret
          exact ⟨rfe, pkW HB.out⟩
       ·replace c27 := Bool.eq_false_iff.mpr c27
        subst c27
        replace H : ((impl_isCount.f a0_3).bind fun t245 => (if t245 = true then ((impl_isCount.f a0_4).bind fun t246 => (if t246 = true then ((impl_isCount.f a0_5).bind fun t247 => (if t247 = true then (some (x4_21 == a0_3)) else (some false))) else (some false))) else (some false))) = some r := by rw [if_neg (show ¬ (false = true) by decide)] at H; exact H
        replace H := Option.bind_eq_some_iff.mp H
        obtain ⟨t245, A550, H⟩ := H
        replace H : (if t245 = true then ((impl_isCount.f a0_4).bind fun t246 => (if t246 = true then ((impl_isCount.f a0_5).bind fun t247 => (if t247 = true then (some (x4_21 == a0_3)) else (some false))) else (some false))) else (some false)) = some r := H
        have A55 := am A550
        clear A550
        by_cases c56 : t245 = true
        ·subst c56
         replace H : ((impl_isCount.f a0_4).bind fun t246 => (if t246 = true then ((impl_isCount.f a0_5).bind fun t247 => (if t247 = true then (some (x4_21 == a0_3)) else (some false))) else (some false))) = some r := by rw [if_pos rfl] at H; exact H
         replace H := Option.bind_eq_some_iff.mp H
         obtain ⟨t246, A570, H⟩ := H
         replace H : (if t246 = true then ((impl_isCount.f a0_5).bind fun t247 => (if t247 = true then (some (x4_21 == a0_3)) else (some false))) else (some false)) = some r := H
         have A57 := am A570
         clear A570
         by_cases c58 : t246 = true
         ·subst c58
          replace H : ((impl_isCount.f a0_5).bind fun t247 => (if t247 = true then (some (x4_21 == a0_3)) else (some false))) = some r := by rw [if_pos rfl] at H; exact H
          replace H := Option.bind_eq_some_iff.mp H
          obtain ⟨t247, A590, H⟩ := H
          replace H : (if t247 = true then (some (x4_21 == a0_3)) else (some false)) = some r := H
          have A59 := am A590
          clear A590
          by_cases c60 : t247 = true
          ·subst c60
           replace H : (some (x4_21 == a0_3)) = some r := by rw [if_pos rfl] at H; exact H
           obtain rfl := Option.some.inj H
           obtain ⟨hcz61_0, hcz61_1, hcz61_2, hcz61_3, hcz61_4, hcz61_5, hfz61_0, hfz61_1, hfz61_2, hfz61_3, hfz61_4, hfz61_5⟩ := bk6 BK232.out
           obtain ⟨Ao62, co62, eo62⟩ := Kd.R_slice HO_3.out
           subst eo62
           go_wp2_with (first | ((with_reducible refine gate_callee (f := 54) rfl ?_); refine goesL_ (some 37) rfl rfl Try.func54 (by kernel_rfl) rfl #[.slice A0_1 l0_1.length c0_1, .slice Ao62 x3_1.length co62] rfl mpx ?_; (with_reducible refine (impl_apart.calls kj21 _ _ l0_1 _ _ x3_1 true _ ?side1 ?side2 ?side3 ?side4 A25.out).mono ?_); (case side1 => exact pkC (Kd.C_below HR0_1.out HB.out)); (case side2 => exact HC0_1.out); (case side3 => exact pkC (Kd.R_reads' HO_3.out).2.2); (case side4 => exact (Kd.R_reads' HO_3.out).2.1); rintro e w63 ⟨rfl, hb⟩; refine ⟨_, rfl, ?_⟩; replace HO_3 := am (Kd.R_below (pkR HO_3.out) hb); replace BK232 := am (blk_below (pkK BK232.out) hb); replace HB := am (below_step (pkW HB.out) hb); (try clear hb); obtain ⟨hcz64_0, hcz64_1, hcz64_2, hcz64_3, hcz64_4, hcz64_5, hfz64_0, hfz64_1, hfz64_2, hfz64_3, hfz64_4, hfz64_5⟩ := bk6 BK232.out) | (go_at_call 55; (with_reducible refine (impl_isCount.calls a0_3 true _ A55.out).mono ?_); rintro e w' ⟨rfl, ⟨nd, rfl⟩⟩) | (go_at_call 55; (with_reducible refine (impl_isCount.calls a0_4 true _ A57.out).mono ?_); rintro e w' ⟨rfl, ⟨nd, rfl⟩⟩) | (go_at_call 55; (with_reducible refine (impl_isCount.calls a0_5 true _ A59.out).mono ?_); rintro e w' ⟨rfl, ⟨nd, rfl⟩⟩))
           go_ret
           exact ⟨rfe, pkW HB.out⟩
          ·replace c60 := Bool.eq_false_iff.mpr c60
           subst c60
           replace H : (some false) = some r := by rw [if_neg (show ¬ (false = true) by decide)] at H; exact H
           obtain rfl := Option.some.inj H
           obtain ⟨hcz65_0, hcz65_1, hcz65_2, hcz65_3, hcz65_4, hcz65_5, hfz65_0, hfz65_1, hfz65_2, hfz65_3, hfz65_4, hfz65_5⟩ := bk6 BK232.out
           obtain ⟨Ao66, co66, eo66⟩ := Kd.R_slice HO_3.out
           subst eo66
           go_wp2_with (first | ((with_reducible refine gate_callee (f := 54) rfl ?_); refine goesL_ (some 37) rfl rfl Try.func54 (by kernel_rfl) rfl #[.slice A0_1 l0_1.length c0_1, .slice Ao66 x3_1.length co66] rfl mpx ?_; (with_reducible refine (impl_apart.calls kj21 _ _ l0_1 _ _ x3_1 true _ ?side1 ?side2 ?side3 ?side4 A25.out).mono ?_); (case side1 => exact pkC (Kd.C_below HR0_1.out HB.out)); (case side2 => exact HC0_1.out); (case side3 => exact pkC (Kd.R_reads' HO_3.out).2.2); (case side4 => exact (Kd.R_reads' HO_3.out).2.1); rintro e w67 ⟨rfl, hb⟩; refine ⟨_, rfl, ?_⟩; replace HO_3 := am (Kd.R_below (pkR HO_3.out) hb); replace BK232 := am (blk_below (pkK BK232.out) hb); replace HB := am (below_step (pkW HB.out) hb); (try clear hb); obtain ⟨hcz68_0, hcz68_1, hcz68_2, hcz68_3, hcz68_4, hcz68_5, hfz68_0, hfz68_1, hfz68_2, hfz68_3, hfz68_4, hfz68_5⟩ := bk6 BK232.out) | (go_at_call 55; (with_reducible refine (impl_isCount.calls a0_3 true _ A55.out).mono ?_); rintro e w' ⟨rfl, ⟨nd, rfl⟩⟩) | (go_at_call 55; (with_reducible refine (impl_isCount.calls a0_4 true _ A57.out).mono ?_); rintro e w' ⟨rfl, ⟨nd, rfl⟩⟩) | (go_at_call 55; (with_reducible refine (impl_isCount.calls a0_5 false _ A59.out).mono ?_); rintro e w' ⟨rfl, ⟨nd, rfl⟩⟩))
           go_ret
           exact ⟨rfe, pkW HB.out⟩
         ·replace c58 := Bool.eq_false_iff.mpr c58
          subst c58
          replace H : (some false) = some r := by rw [if_neg (show ¬ (false = true) by decide)] at H; exact H
          obtain rfl := Option.some.inj H
          obtain ⟨hcz69_0, hcz69_1, hcz69_2, hcz69_3, hcz69_4, hcz69_5, hfz69_0, hfz69_1, hfz69_2, hfz69_3, hfz69_4, hfz69_5⟩ := bk6 BK232.out
          obtain ⟨Ao70, co70, eo70⟩ := Kd.R_slice HO_3.out
          subst eo70
          go_wp2_with (first | ((with_reducible refine gate_callee (f := 54) rfl ?_); refine goesL_ (some 37) rfl rfl Try.func54 (by kernel_rfl) rfl #[.slice A0_1 l0_1.length c0_1, .slice Ao70 x3_1.length co70] rfl mpx ?_; (with_reducible refine (impl_apart.calls kj21 _ _ l0_1 _ _ x3_1 true _ ?side1 ?side2 ?side3 ?side4 A25.out).mono ?_); (case side1 => exact pkC (Kd.C_below HR0_1.out HB.out)); (case side2 => exact HC0_1.out); (case side3 => exact pkC (Kd.R_reads' HO_3.out).2.2); (case side4 => exact (Kd.R_reads' HO_3.out).2.1); rintro e w71 ⟨rfl, hb⟩; refine ⟨_, rfl, ?_⟩; replace HO_3 := am (Kd.R_below (pkR HO_3.out) hb); replace BK232 := am (blk_below (pkK BK232.out) hb); replace HB := am (below_step (pkW HB.out) hb); (try clear hb); obtain ⟨hcz72_0, hcz72_1, hcz72_2, hcz72_3, hcz72_4, hcz72_5, hfz72_0, hfz72_1, hfz72_2, hfz72_3, hfz72_4, hfz72_5⟩ := bk6 BK232.out) | (go_at_call 55; (with_reducible refine (impl_isCount.calls a0_3 true _ A55.out).mono ?_); rintro e w' ⟨rfl, ⟨nd, rfl⟩⟩) | (go_at_call 55; (with_reducible refine (impl_isCount.calls a0_4 false _ A57.out).mono ?_); rintro e w' ⟨rfl, ⟨nd, rfl⟩⟩))
          go_ret
          exact ⟨rfe, pkW HB.out⟩
        ·replace c56 := Bool.eq_false_iff.mpr c56
         subst c56
         replace H : (some false) = some r := by rw [if_neg (show ¬ (false = true) by decide)] at H; exact H
         obtain rfl := Option.some.inj H
         obtain ⟨hcz73_0, hcz73_1, hcz73_2, hcz73_3, hcz73_4, hcz73_5, hfz73_0, hfz73_1, hfz73_2, hfz73_3, hfz73_4, hfz73_5⟩ := bk6 BK232.out
         obtain ⟨Ao74, co74, eo74⟩ := Kd.R_slice HO_3.out
         subst eo74
         go_wp2_with (first | ((with_reducible refine gate_callee (f := 54) rfl ?_); refine goesL_ (some 37) rfl rfl Try.func54 (by kernel_rfl) rfl #[.slice A0_1 l0_1.length c0_1, .slice Ao74 x3_1.length co74] rfl mpx ?_; (with_reducible refine (impl_apart.calls kj21 _ _ l0_1 _ _ x3_1 true _ ?side1 ?side2 ?side3 ?side4 A25.out).mono ?_); (case side1 => exact pkC (Kd.C_below HR0_1.out HB.out)); (case side2 => exact HC0_1.out); (case side3 => exact pkC (Kd.R_reads' HO_3.out).2.2); (case side4 => exact (Kd.R_reads' HO_3.out).2.1); rintro e w75 ⟨rfl, hb⟩; refine ⟨_, rfl, ?_⟩; replace HO_3 := am (Kd.R_below (pkR HO_3.out) hb); replace BK232 := am (blk_below (pkK BK232.out) hb); replace HB := am (below_step (pkW HB.out) hb); (try clear hb); obtain ⟨hcz76_0, hcz76_1, hcz76_2, hcz76_3, hcz76_4, hcz76_5, hfz76_0, hfz76_1, hfz76_2, hfz76_3, hfz76_4, hfz76_5⟩ := bk6 BK232.out) | (go_at_call 55; (with_reducible refine (impl_isCount.calls a0_3 false _ A55.out).mono ?_); rintro e w' ⟨rfl, ⟨nd, rfl⟩⟩))
         go_ret
         exact ⟨rfe, pkW HB.out⟩
      ·replace c26 := Bool.eq_false_iff.mpr c26
       subst c26
       replace H : (some false) = some r := by rw [if_neg (show ¬ (false = true) by decide)] at H; exact H
       obtain rfl := Option.some.inj H
       obtain ⟨hcz77_0, hcz77_1, hcz77_2, hcz77_3, hcz77_4, hcz77_5, hfz77_0, hfz77_1, hfz77_2, hfz77_3, hfz77_4, hfz77_5⟩ := bk6 BK232.out
       obtain ⟨Ao78, co78, eo78⟩ := Kd.R_slice HO_3.out
       subst eo78
       go_wp2_with (first | ((with_reducible refine gate_callee (f := 54) rfl ?_); refine goesL_ (some 37) rfl rfl Try.func54 (by kernel_rfl) rfl #[.slice A0_1 l0_1.length c0_1, .slice Ao78 x3_1.length co78] rfl mpx ?_; (with_reducible refine (impl_apart.calls kj21 _ _ l0_1 _ _ x3_1 false _ ?side1 ?side2 ?side3 ?side4 A25.out).mono ?_); (case side1 => exact pkC (Kd.C_below HR0_1.out HB.out)); (case side2 => exact HC0_1.out); (case side3 => exact pkC (Kd.R_reads' HO_3.out).2.2); (case side4 => exact (Kd.R_reads' HO_3.out).2.1); rintro e w79 ⟨rfl, hb⟩; refine ⟨_, rfl, ?_⟩; replace HO_3 := am (Kd.R_below (pkR HO_3.out) hb); replace BK232 := am (blk_below (pkK BK232.out) hb); replace HB := am (below_step (pkW HB.out) hb); (try clear hb)))
       go_ret
       exact ⟨rfe, pkW HB.out⟩
end Go.Proofs.Ytdagpmnadapbjaa.Z
