/- Go code comes to just these functions; conditions: in each theorem. -/
import Derived.Test.YtdagpmnadapbjaaZx0
namespace Go.Proofs.Ytdagpmnadapbjaa.Z
open Go.RowKit Go.Proofs.YtdagpmnadapbjaaW.PrintWords Go.Proofs.YtdagpmnadapbjaaW.PrintLast Go.Proofs.YtdagpmnadapbjaaW.PrintMore
attribute [local go_sem] max2_int min2_int max_two min_two max_three min_three max_four min_four   -- for this text's walks alone
set_option linter.unusedVariables false
set_option linter.unusedSimpArgs false
def spec_l2Less.l0 : Nat → List Int → Int → List Int → Bool → Int → Option (List Int)
 | 0, _, _, _, _, _ => none
 | k + 1, x0, x1, x5, x6, x7 => if x7 < (x0.length : Int) then (if 0 ≤ x7 then (if (rd x0 x7) = x1 then (if x6 = true then (if x5.length < 17592186044416 then (spec_l2Less.l0 k x0 x1 (x5 ++ [rd x0 x7]) x6 (wrap64 (x7 + 1))) else (none)) else (spec_l2Less.l0 k x0 x1 x5 true (wrap64 (x7 + 1)))) else (if x5.length < 17592186044416 then (spec_l2Less.l0 k x0 x1 (x5 ++ [rd x0 x7]) x6 (wrap64 (x7 + 1))) else (none))) else (none)) else (some x5)
def spec_l2Less.f (k : Nat) (l0 : List Int) (a1 : Int) : Option (List Int) := spec_l2Less.l0 k l0 a1 (([] : List Int)) false 0
theorem spec_l2Less.mono_l : ∀ k, (∀ y0 y1 y2 y3 y4, LeO (spec_l2Less.l0 k y0 y1 y2 y3 y4) (spec_l2Less.l0 (k + 1) y0 y1 y2 y3 y4))
 | 0 => fun _ _ _ _ _ r h => by simp [spec_l2Less.l0] at h
 | k + 1 => by
  have ih0 := spec_l2Less.mono_l k
  ·intro y0 y1 y2 y3 y4
   unfold spec_l2Less.l0
   repeat' first
   | (with_reducible exact ih0 _ _ _ _ _)
   | (with_reducible exact LeO.refl _)
   | (with_reducible exact LeO.none _)
   | (with_reducible refine LeO.ite ?_ ?_)
   | (with_reducible refine LeO.bind ?_ (fun _ => ?_))
theorem spec_l2Less.mono : ∀ a0 a1 k, LeO (spec_l2Less.f k a0 a1) (spec_l2Less.f (k + 1) a0 a1) := by
 intro a0 a1 k
 have ih0 := spec_l2Less.mono_l k
 unfold spec_l2Less.f
 repeat' first
   | (with_reducible exact ih0 _ _ _ _ _)
   | (with_reducible exact LeO.refl _)
   | (with_reducible exact LeO.none _)
   | (with_reducible refine LeO.ite ?_ ?_)
   | (with_reducible refine LeO.bind ?_ (fun _ => ?_))
set_option maxHeartbeats 8000000 in
set_option maxRecDepth 100000 in
theorem spec_l2Less.calls (k : Nat) (A0 : Option Addr) (c0 : Nat) (l0 : List Int) (a1 : Int) (r : List Int) (w : World) (hr0 : Kd.C (Kd.int .i64) w A0 l0.length l0) (hc0 : l0.length ≤ c0) (h : spec_l2Less.f k l0 a1 = some r) :
  Calls Try.prog 67 #[.slice A0 l0.length c0, .int .i64 a1] w fun e w' => ∃ v0_ : Value, e = .returned (v0_) ∧ Kd.R (Kd.int .i64) 3 w' w.heap.size (fun _ => True) v0_ r ∧ Below w.heap.size w w' := by
 have HR0 := am hr0
 have HC0 := am hc0
 clear hr0 hc0
 have HB := am (Below.refl w.heap.size w)
 have H : (spec_l2Less.l0 k l0 a1 (([] : List Int)) false 0) = some r := h
 clear h
 obtain ⟨y599, hy599⟩ : ∃ y_ : List Int, y_ = (([] : List Int)) := ⟨_, rfl⟩
 replace H : (spec_l2Less.l0 k l0 a1 y599 false 0) = some r := by first | (rw [hy599]; with_reducible exact H) | (have H2_ := (Option.bind_some _ _).symm.trans H; rw [hy599]; with_reducible exact H2_) | (have H2_ := (Option.bind_some _ _).symm.trans H; with_reducible exact H2_) | with_reducible exact H | (rw [hy599]; exact H) | exact H
 have Ny599 := am hy599
 clear hy599
 have H' := am H
 clear H
 go_enter Try.func67, Try.ntmps67
 go_wp2_with (first | ((with_reducible refine gate_dst (N := 8) rfl ?_); refine Kd.R_lit (Kd.int .i64) _ 3 ?hg (N := 8) ?hd (xs := ([] : List Int)) (inner := []) (ok := fun _ => True) (okp := fun _ => True) ?hr ?hp (fun _ hk => hk) trivial (Below.refl _ _) (Nat.le_refl _) (by simp) ?_; (case hd => rfl); (case hg => rfl); (case hr => first | (go_simp; done) | (go_simp; rfl)); (case hp => exact (Reps.none _ _)); intro v600 w3 ho4 hb hg_ hnew_; clear hg_ hnew_; (first | rw [← Ny599.out] at ho4 | (simp only [Int.reduceToNat] at ho4; rw [← Ny599.out] at ho4)); have HO601 := am (Kd.R_lower ho4 (below_size (pkB HB.out))); replace HB := am (below_step (pkB HB.out) hb); clear hb ho4))
 go_loopg [5, 6, 7] k (fun kq v5 v6 v7 w' => ∃ (x5_1 : List Int) (x6_1 : Bool) (x7_1 : Int), v6 = .bool x6_1 ∧ v7 = .int .i64 x7_1 ∧ Aside0 (spec_l2Less.l0 kq l0 a1 x5_1 x6_1 x7_1 = some r) ∧ Aside0 (kq ≤ k) ∧ Aside0 (Kd.R (Kd.int .i64) 3 w' w.heap.size (fun _ => True) v5 x5_1) ∧ Aside0 (Below w.heap.size w w'))
 case atStart => exact ⟨(y599), (false), (0), rfx, rfx, H', ⟨Nat.le_refl _⟩, ⟨pkR HO601.out⟩, ⟨pkB HB.out⟩⟩
 case round =>
  clear H'
  try clear p2
  obtain ⟨x5_1, x6_1, x7_1, rfl, rfl, HA, HK1, HO_5, HB⟩ := hrel
  cases gk with
  | zero => exact absurd HA.out (by simp [spec_l2Less.l0])
  | succ k1 =>
   have H := HA.out
   clear HA
   simp only [spec_l2Less.l0] at H
   by_cases c5 : x7_1 < (l0.length : Int)
   ·rw [if_pos c5] at H
    have c5b0 : decide (x7_1 < (l0.length : Int)) = true := decide_eq_true c5
    clear c5
    by_cases c6 : 0 ≤ x7_1
    ·rw [if_pos c6] at H
     have c6b0 : decide (0 ≤ x7_1) = true := decide_eq_true c6
     clear c6
     by_cases c7 : (rd l0 x7_1) = a1
     ·rw [if_pos c7] at H
      have c7b0 : ((rd l0 x7_1) == a1) = true := beq_iff_eq.mpr c7
      have c7b1 : ((rd l0 x7_1) != a1) = false := bne_eq_false_iff_eq.mpr c7
      clear c7
      by_cases c8 : x6_1 = true
      ·subst c8
       replace H : (if x5_1.length < 17592186044416 then (spec_l2Less.l0 k1 l0 a1 (x5_1 ++ [rd l0 x7_1]) true (wrap64 (x7_1 + 1))) else (none)) = some r := by rw [if_pos rfl] at H; exact H
       by_cases c9 : x5_1.length < 17592186044416
       ·rw [if_pos c9] at H
        have LMc9 := am c9
        clear c9
        obtain ⟨y604, hy604⟩ : ∃ y_ : List Int, y_ = (x5_1 ++ [rd l0 x7_1]) := ⟨_, rfl⟩
        replace H : (spec_l2Less.l0 k1 l0 a1 y604 true (wrap64 (x7_1 + 1))) = some r := by first | (rw [hy604]; with_reducible exact H) | (have H2_ := (Option.bind_some _ _).symm.trans H; rw [hy604]; with_reducible exact H2_) | (have H2_ := (Option.bind_some _ _).symm.trans H; with_reducible exact H2_) | with_reducible exact H | (rw [hy604]; exact H) | exact H
        have Ny604 := am hy604
        clear hy604
        have H' := am H
        clear H
        have p602 : 0 ≤ (x7_1 : Int) := ofd
        have q602 : x7_1 < (l0.length : Int) := ofd
        obtain ⟨ad602, e602, hx602_0⟩ := Kd.at_int HR0.out x7_1 p602 q602
        cases e602
        replace hx602_0 := (HB.out.cell (World.block_lt_of_cell? w _ hx602_0)).trans hx602_0
        replace p602 := eq_true p602
        replace q602 := eq_true q602
        have p603 : 0 ≤ (x7_1 : Int) := ofd
        have q603 : x7_1 < (l0.length : Int) := ofd
        obtain ⟨ad603, e603, hx603_0⟩ := Kd.at_int HR0.out x7_1 p603 q603
        obtain rfl : ad602 = ad603 := (by injection e603)
        replace hx603_0 := (HB.out.cell (World.block_lt_of_cell? w _ hx603_0)).trans hx603_0
        replace p603 := eq_true p603
        replace q603 := eq_true q603
        go_wp2_with (first | ((with_reducible refine gate_builtin (b := .append) (xs := #[.tmp 25, .tmp 30]) rfl ?_); at_builtin; refine Kd.R_append (Kd.int .i64) (w0 := w) w.heap.size rfl (.tmp 25) (.tmp 30) 22 3 (.int .i64 0) 8 rfl Try.underlying22 info3 rfl (by decide) (by omega) u5 x5_1 (rd l0 x7_1) [.int .i64 (rd l0 x7_1)] (fun _ => True) (fun _ => False) rfl rfl ?aP (fun _ hk => hk.elim) ?aF ?aO ?aB ?aS ?aL ?_; (case aP => exact rfl); (case aB => exact (pkB HB.out)); (case aF => exact (fun _ _ => trivial)); (case aO => exact (pkR HO_5.out)); (case aS => exact (below_size (pkB HB.out))); (case aL => have := LMc9.out; omega); intro v605 w10 ho hb hg hat; rw [← Ny604.out] at ho; replace HB := am (hb); have HO606 := am (ho); clear HO_5; clear ho hb hg hat))
        go_roundg k1
        case measure => have := HK1.out; omega
        case rel => exact ⟨(y604), (true), (wrap64 (x7_1 + 1)), rfx, rfx, H', ⟨by have := HK1.out; omega⟩, ⟨pkR HO606.out⟩, ⟨pkB HB.out⟩⟩
       ·rw [if_neg c9] at H
        exact absurd H (by simp)
      ·replace c8 := Bool.eq_false_iff.mpr c8
       subst c8
       replace H : (spec_l2Less.l0 k1 l0 a1 x5_1 true (wrap64 (x7_1 + 1))) = some r := by rw [if_neg (show ¬ (false = true) by decide)] at H; exact H
       have H' := am H
       clear H
       have p602 : 0 ≤ (x7_1 : Int) := ofd
       have q602 : x7_1 < (l0.length : Int) := ofd
       obtain ⟨ad602, e602, hx602_0⟩ := Kd.at_int HR0.out x7_1 p602 q602
       cases e602
       replace hx602_0 := (HB.out.cell (World.block_lt_of_cell? w _ hx602_0)).trans hx602_0
       replace p602 := eq_true p602
       replace q602 := eq_true q602
       go_wp2
       go_roundg k1
       case measure => have := HK1.out; omega
       case rel => exact ⟨(x5_1), (true), (wrap64 (x7_1 + 1)), rfx, rfx, H', ⟨by have := HK1.out; omega⟩, ⟨pkR HO_5.out⟩, ⟨pkB HB.out⟩⟩
     ·rw [if_neg c7] at H
      have c7b0 : ((rd l0 x7_1) == a1) = false := beq_eq_false_iff_ne.mpr c7
      have c7b1 : ((rd l0 x7_1) != a1) = true := bne_iff_ne.mpr c7
      by_cases c11 : x5_1.length < 17592186044416
      ·rw [if_pos c11] at H
       have LMc11 := am c11
       clear c11
       obtain ⟨y608, hy608⟩ : ∃ y_ : List Int, y_ = (x5_1 ++ [rd l0 x7_1]) := ⟨_, rfl⟩
       replace H : (spec_l2Less.l0 k1 l0 a1 y608 x6_1 (wrap64 (x7_1 + 1))) = some r := by first | (rw [hy608]; with_reducible exact H) | (have H2_ := (Option.bind_some _ _).symm.trans H; rw [hy608]; with_reducible exact H2_) | (have H2_ := (Option.bind_some _ _).symm.trans H; with_reducible exact H2_) | with_reducible exact H | (rw [hy608]; exact H) | exact H
       have Ny608 := am hy608
       clear hy608
       have H' := am H
       clear H
       have p602 : 0 ≤ (x7_1 : Int) := ofd
       have q602 : x7_1 < (l0.length : Int) := ofd
       obtain ⟨ad602, e602, hx602_0⟩ := Kd.at_int HR0.out x7_1 p602 q602
       cases e602
       replace hx602_0 := (HB.out.cell (World.block_lt_of_cell? w _ hx602_0)).trans hx602_0
       replace p602 := eq_true p602
       replace q602 := eq_true q602
       have p607 : 0 ≤ (x7_1 : Int) := ofd
       have q607 : x7_1 < (l0.length : Int) := ofd
       obtain ⟨ad607, e607, hx607_0⟩ := Kd.at_int HR0.out x7_1 p607 q607
       obtain rfl : ad602 = ad607 := (by injection e607)
       replace hx607_0 := (HB.out.cell (World.block_lt_of_cell? w _ hx607_0)).trans hx607_0
       replace p607 := eq_true p607
       replace q607 := eq_true q607
       go_wp2_with (first | ((with_reducible refine gate_builtin (b := .append) (xs := #[.tmp 25, .tmp 30]) rfl ?_); at_builtin; refine Kd.R_append (Kd.int .i64) (w0 := w) w.heap.size rfl (.tmp 25) (.tmp 30) 22 3 (.int .i64 0) 8 rfl Try.underlying22 info3 rfl (by decide) (by omega) u5 x5_1 (rd l0 x7_1) [.int .i64 (rd l0 x7_1)] (fun _ => True) (fun _ => False) rfl rfl ?aP (fun _ hk => hk.elim) ?aF ?aO ?aB ?aS ?aL ?_; (case aP => exact rfl); (case aB => exact (pkB HB.out)); (case aF => exact (fun _ _ => trivial)); (case aO => exact (pkR HO_5.out)); (case aS => exact (below_size (pkB HB.out))); (case aL => have := LMc11.out; omega); intro v609 w12 ho hb hg hat; rw [← Ny608.out] at ho; replace HB := am (hb); have HO610 := am (ho); clear HO_5; clear ho hb hg hat))
       go_roundg k1
       case measure => have := HK1.out; omega
       case rel => exact ⟨(y608), (x6_1), (wrap64 (x7_1 + 1)), rfx, rfx, H', ⟨by have := HK1.out; omega⟩, ⟨pkR HO610.out⟩, ⟨pkB HB.out⟩⟩
      ·rw [if_neg c11] at H
       exact absurd H (by simp)
    ·rw [if_neg c6] at H
     exact absurd H (by simp)
   ·rw [if_neg c5] at H
    have c5b0 : decide (x7_1 < (l0.length : Int)) = false := decide_eq_false c5
    clear c5
    obtain rfl := Option.some.inj H
    go_wp2
    go_ret
    exact ⟨_, rfe, pkR HO_5.out, pkB HB.out⟩
end Go.Proofs.Ytdagpmnadapbjaa.Z
