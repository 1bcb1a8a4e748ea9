/- The Go functions impl_StopTimer_1, slices_IndexFunc_st, slices_DeleteFunc_st, impl_StopTimer as Lean functions, each with a proof that its code comes to just these answers; conditions: those of each theorem. -/
import Derived.Test.YtfgjfheiekhmlaaZx0
import Derived.Test.YtfgjfheiekhmlaaZx5
import Derived.Test.YtfgjfheiekhmlaaZx10
namespace Go.Proofs.Ytfgjfheiekhmlaa.Z
open Go.RowKit Go.Proofs.YtfgjfheiekhmlaaW.PrintWords Go.Proofs.YtfgjfheiekhmlaaW.PrintLast Go.Proofs.YtfgjfheiekhmlaaW.PrintMore
attribute [local go_sem] max2_int min2_int max_two min_two max_three min_three max_four min_four   -- for this text's walks alone
set_option linter.unusedVariables false
set_option linter.unusedSimpArgs false
def impl_StopTimer_1.f (a0_0 : Int) (a0_1 : Int) (a1 : Int) : Option (Bool) := some (decide (a0_1 = a1))
set_option maxHeartbeats 8000000 in
set_option maxRecDepth 100000 in
theorem impl_StopTimer_1.calls (a0_0 : Int) (a0_1 : Int) (a1 : Int) (r : Bool) (B : Nat) (w : World) (hBc : w.cell? ⟨B, 0, none⟩ = some (.int .i64 a1)) (h : impl_StopTimer_1.f a0_0 a0_1 a1 = some r) :
  Calls Try.prog 40 #[.agg #[.int .i64 a0_0, .int .i64 a0_1], .pointer (some ⟨B, 0, none⟩)] w fun e w' => e = .returned (.bool r) ∧ Below w.heap.size w w' := by
 have hu46 := Try.underlying46
 obtain rfl := Option.some.inj h
 clear h
 have HB := am (Below.refl w.heap.size w)
 have hc1 := fun (o : Obj) => Lib.cell?_alloc_some o hBc
 by_cases hq : a0_1 = a1
 ·have hq0 : (a0_1 == a1) = true := by simpa using hq
  rw [decide_eq_true hq]
  clear hq
  go_enter Try.func40, Try.ntmps40
  go_wp2
  go_ret
  exact ⟨rfl, pkB HB.out⟩
 ·have hq0 : (a0_1 == a1) = false := by simpa using hq
  rw [decide_eq_false hq]
  clear hq
  go_enter Try.func40, Try.ntmps40
  go_wp2
  go_ret
  exact ⟨rfl, pkB HB.out⟩
def slices_IndexFunc_st.l0 : Nat → List (S46) → Int → Int → Int → Option (Int)
 | 0, _, _, _, _ => none
 | k + 1, x0, x1, x7, x8 => if x8 < x7 then (if 0 ≤ x8 then (if x8 < (x0.length : Int) then ((impl_StopTimer_1.f ((rd_T46 x0 x8).f0) ((rd_T46 x0 x8).f1) x1).bind fun t190 => (if t190 = true then (some x8) else (slices_IndexFunc_st.l0 k x0 x1 x7 (wrap64 (x8 + 1))))) else (none)) else (none)) else (some (-1))
def slices_IndexFunc_st.f (k : Nat) (l0 : List (S46)) (a1 : Int) : Option (Int) := slices_IndexFunc_st.l0 k l0 a1 (l0.length : Int) 0
theorem slices_IndexFunc_st.mono_l : ∀ k, (∀ y0 y1 y2 y3, LeO (slices_IndexFunc_st.l0 k y0 y1 y2 y3) (slices_IndexFunc_st.l0 (k + 1) y0 y1 y2 y3))
 | 0 => fun _ _ _ _ r h => by simp [slices_IndexFunc_st.l0] at h
 | k + 1 => by
  have ih0 := slices_IndexFunc_st.mono_l k
  ·intro y0 y1 y2 y3
   unfold slices_IndexFunc_st.l0
   repeat' first
   | (with_reducible exact ih0 _ _ _ _)
   | (with_reducible exact LeO.refl _)
   | (with_reducible exact LeO.none _)
   | (with_reducible refine LeO.ite ?_ ?_)
   | (with_reducible refine LeO.bind ?_ (fun _ => ?_))
theorem slices_IndexFunc_st.mono : ∀ a0 a1 k, LeO (slices_IndexFunc_st.f k a0 a1) (slices_IndexFunc_st.f (k + 1) a0 a1) := by
 intro a0 a1 k
 have ih0 := slices_IndexFunc_st.mono_l k
 unfold slices_IndexFunc_st.f
 repeat' first
   | (with_reducible exact ih0 _ _ _ _)
   | (with_reducible exact LeO.refl _)
   | (with_reducible exact LeO.none _)
   | (with_reducible refine LeO.ite ?_ ?_)
   | (with_reducible refine LeO.bind ?_ (fun _ => ?_))
set_option maxHeartbeats 8000000 in
set_option maxRecDepth 100000 in
theorem slices_IndexFunc_st.calls (k : Nat) (A0 : Option Addr) (c0 : Nat) (l0 : List (S46)) (a1 : Int) (r : Int) (w : World) (hr0 : Kd.C k46 w A0 l0.length l0) (hc0 : l0.length ≤ c0) (B : Nat) (hBc : w.cell? ⟨B, 0, none⟩ = some (.int .i64 a1)) (h : slices_IndexFunc_st.f k l0 a1 = some r) :
  Calls Try.prog 47 #[.slice A0 l0.length c0, .func (.func 40) #[] #[.pointer (some ⟨B, 0, none⟩)]] w fun e w' => e = .returned (.int .i64 r) ∧ Below w.heap.size w w' := by
 have hu46 := Try.underlying46
 have HBc := am hBc
 clear hBc
 have HR0 := am hr0
 have HC0 := am hc0
 clear hr0 hc0
 have HB := am (Below.refl w.heap.size w)
 have H : (slices_IndexFunc_st.l0 k l0 a1 (l0.length : Int) 0) = some r := h
 clear h
 have H' := am H
 clear H
 go_enter Try.func47, Try.ntmps47
 go_wp2
 go_loopg [8] k (fun kq v8 w' => ∃ (x8_1 : Int), v8 = .int .i64 x8_1 ∧ Aside0 (slices_IndexFunc_st.l0 kq l0 a1 (l0.length : Int) x8_1 = some r) ∧ Aside0 (kq ≤ k) ∧ Aside0 (Below w.heap.size w w'))
 case atStart => exact ⟨(0), rfx, H', ⟨Nat.le_refl _⟩, ⟨pkB HB.out⟩⟩
 case round =>
  clear H'
  try clear p2
  obtain ⟨x8_1, rfl, HA, HK1, HB⟩ := hrel
  cases gk with
  | zero => exact absurd HA.out (by simp [slices_IndexFunc_st.l0])
  | succ k1 =>
   have H := HA.out
   clear HA
   simp only [slices_IndexFunc_st.l0] at H
   by_cases c3 : x8_1 < (l0.length : Int)
   ·rw [if_pos c3] at H
    have c3b0 : decide (x8_1 < (l0.length : Int)) = true := decide_eq_true c3
    clear c3
    by_cases c4 : 0 ≤ x8_1
    ·rw [if_pos c4] at H
     have c4b0 : decide (0 ≤ x8_1) = true := decide_eq_true c4
     clear c4
     by_cases c5 : x8_1 < (l0.length : Int)
     ·rw [if_pos c5] at H
      have c5b0 : decide (x8_1 < (l0.length : Int)) = true := decide_eq_true c5
      clear c5
      replace H := Option.bind_eq_some_iff.mp H
      obtain ⟨t190, A60, H⟩ := H
      replace H : (if t190 = true then (some x8_1) else (slices_IndexFunc_st.l0 k1 l0 a1 (l0.length : Int) (wrap64 (x8_1 + 1)))) = some r := H
      have A6 := am A60
      clear A60
      by_cases c7 : t190 = true
      ·subst c7
       replace H : (some x8_1) = some r := by rw [if_pos rfl] at H; exact H
       obtain rfl := Option.some.inj H
       have p189 : 0 ≤ (x8_1 : Int) := ofd
       have q189 : x8_1 < (l0.length : Int) := ofd
       obtain ⟨ad189, e189, hx189_0, hx189_1⟩ := at_T46 HR0.out x8_1 p189 q189
       cases e189
       replace hx189_0 := (HB.out.cell (World.block_lt_of_cell? w _ hx189_0)).trans hx189_0
       replace hx189_1 := (HB.out.cell (World.block_lt_of_cell? w _ hx189_1)).trans hx189_1
       replace p189 := eq_true p189
       replace q189 := eq_true q189
       go_wp2_with (first | (go_at_call 40; (with_reducible refine (impl_StopTimer_1.calls ((rd_T46 l0 x8_1).f0) ((rd_T46 l0 x8_1).f1) a1 true B _ (by first | exact HBc.out | exact cell_dr HBc.out | exact pw_cell_below (pkB HB.out) HBc.out) A6.out).mono ?_); rintro e w8 ⟨rfl, hb⟩; replace HB := am (below_step (pkB HB.out) hb); (try clear hb)))
       go_ret
       exact ⟨rfe, pkB HB.out⟩
      ·replace c7 := Bool.eq_false_iff.mpr c7
       subst c7
       replace H : (slices_IndexFunc_st.l0 k1 l0 a1 (l0.length : Int) (wrap64 (x8_1 + 1))) = some r := by rw [if_neg (show ¬ (false = true) by decide)] at H; exact H
       have H' := am H
       clear H
       have p189 : 0 ≤ (x8_1 : Int) := ofd
       have q189 : x8_1 < (l0.length : Int) := ofd
       obtain ⟨ad189, e189, hx189_0, hx189_1⟩ := at_T46 HR0.out x8_1 p189 q189
       cases e189
       replace hx189_0 := (HB.out.cell (World.block_lt_of_cell? w _ hx189_0)).trans hx189_0
       replace hx189_1 := (HB.out.cell (World.block_lt_of_cell? w _ hx189_1)).trans hx189_1
       replace p189 := eq_true p189
       replace q189 := eq_true q189
       go_wp2_with (first | (go_at_call 40; (with_reducible refine (impl_StopTimer_1.calls ((rd_T46 l0 x8_1).f0) ((rd_T46 l0 x8_1).f1) a1 false B _ (by first | exact HBc.out | exact cell_dr HBc.out | exact pw_cell_below (pkB HB.out) HBc.out) A6.out).mono ?_); rintro e w9 ⟨rfl, hb⟩; replace HB := am (below_step (pkB HB.out) hb); (try clear hb)))
       go_roundg k1
       case measure => have := HK1.out; omega
       case rel => exact ⟨(wrap64 (x8_1 + 1)), rfx, H', ⟨by have := HK1.out; omega⟩, ⟨pkB HB.out⟩⟩
     ·rw [if_neg c5] at H
      exact absurd H (by simp)
    ·rw [if_neg c4] at H
     exact absurd H (by simp)
   ·rw [if_neg c3] at H
    have c3b0 : decide (x8_1 < (l0.length : Int)) = false := decide_eq_false c3
    clear c3
    obtain rfl := Option.some.inj H
    go_wp2
    go_ret
    exact ⟨rfe, pkB HB.out⟩
def slices_DeleteFunc_st.l0 : Nat → List (S46) → Int → Int → Int → Option ((List (S46)))
 | 0, _, _, _, _ => none
 | k + 1, x0, x1, x5, x6 => if x6 < (x0.length : Int) then (if 0 ≤ x6 then ((impl_StopTimer_1.f ((rd_T46 x0 x6).f0) ((rd_T46 x0 x6).f1) x1).bind fun t199 => (if t199 = true then (slices_DeleteFunc_st.l0 k x0 x1 x5 (wrap64 (x6 + 1))) else (if 0 ≤ x5 then (if x5 < (x0.length : Int) then (slices_DeleteFunc_st.l0 k (x0.set (x5 : Int).toNat (⟨(rd_T46 x0 x6).f0, (rd_T46 x0 x6).f1⟩ : S46)) x1 (wrap64 (x5 + 1)) (wrap64 (x6 + 1))) else (none)) else (none)))) else (none)) else (if 0 ≤ x5 then (if x5 < (x0.length : Int) then (some (x0.take (x5 : Int).toNat)) else (none)) else (none))
def slices_DeleteFunc_st.f (k : Nat) (l0 : List (S46)) (a1 : Int) : Option ((List (S46))) := (slices_IndexFunc_st.f k l0 a1).bind fun t196 => (if t196 = (-1) then (some l0) else (slices_DeleteFunc_st.l0 k l0 a1 t196 (wrap64 (t196 + 1))))
theorem slices_DeleteFunc_st.mono_l : ∀ k, (∀ y0 y1 y2 y3, LeO (slices_DeleteFunc_st.l0 k y0 y1 y2 y3) (slices_DeleteFunc_st.l0 (k + 1) y0 y1 y2 y3))
 | 0 => fun _ _ _ _ r h => by simp [slices_DeleteFunc_st.l0] at h
 | k + 1 => by
  have ih0 := slices_DeleteFunc_st.mono_l k
  ·intro y0 y1 y2 y3
   unfold slices_DeleteFunc_st.l0
   repeat' first
   | (with_reducible exact ih0 _ _ _ _)
   | (with_reducible exact slices_IndexFunc_st.mono _ _ _)
   | (with_reducible exact LeO.refl _)
   | (with_reducible exact LeO.none _)
   | (with_reducible refine LeO.ite ?_ ?_)
   | (with_reducible refine LeO.bind ?_ (fun _ => ?_))
theorem slices_DeleteFunc_st.mono : ∀ a0 a1 k, LeO (slices_DeleteFunc_st.f k a0 a1) (slices_DeleteFunc_st.f (k + 1) a0 a1) := by
 intro a0 a1 k
 have ih0 := slices_DeleteFunc_st.mono_l k
 unfold slices_DeleteFunc_st.f
 repeat' first
   | (with_reducible exact ih0 _ _ _ _)
   | (with_reducible exact slices_IndexFunc_st.mono _ _ _)
   | (with_reducible exact LeO.refl _)
   | (with_reducible exact LeO.none _)
   | (with_reducible refine LeO.ite ?_ ?_)
   | (with_reducible refine LeO.bind ?_ (fun _ => ?_))
set_option maxHeartbeats 8000000 in
set_option maxRecDepth 100000 in
theorem slices_DeleteFunc_st.calls (k : Nat) (P0_ : Nat → Prop) (u9000_ : Value) (l0 : List (S46)) (a1 : Int) (r : List (S46)) (w0 w : World) (hB : Below w0.heap.size w0 w) (ho0 : Kd.R k46 46 w w0.heap.size P0_ u9000_ l0) (B : Nat) (hBc : w.cell? ⟨B, 0, none⟩ = some (.int .i64 a1)) (hBn : ¬ P0_ B) (h : slices_DeleteFunc_st.f k l0 a1 = some r) :
  Calls Try.prog 39 #[u9000_, .func (.func 40) #[] #[.pointer (some ⟨B, 0, none⟩)]] w fun e w' => ∃ v0_ : Value, e = .returned (v0_) ∧ Kd.R k46 46 w' w0.heap.size (fun k_ => (P0_ k_ ∨ w.heap.size ≤ k_)) v0_ r ∧ Below w0.heap.size w0 w' ∧ Kept w w' (fun k_ => P0_ k_) := by
 have hu46 := Try.underlying46
 have HBc := am hBc
 have HBn := am hBn
 clear hBc hBn
 have HO0 := am (show Kd.R k46 46 w w0.heap.size (fun k_ => (P0_ k_ ∨ w.heap.size ≤ k_)) u9000_ l0 from Kd.R_mono ho0 (fun k_ hk => (.inl hk)))
 have HK := am (Kept.refl w (fun k_ => P0_ k_))
 have HW0 := am hB.size
 have HB := am hB
 clear hB
 have H : ((slices_IndexFunc_st.f k l0 a1).bind fun t196 => (if t196 = (-1) then (some l0) else (slices_DeleteFunc_st.l0 k l0 a1 t196 (wrap64 (t196 + 1))))) = some r := h
 clear h
 replace H := Option.bind_eq_some_iff.mp H
 obtain ⟨t196, A30, H⟩ := H
 replace H : (if t196 = (-1) then (some l0) else (slices_DeleteFunc_st.l0 k l0 a1 t196 (wrap64 (t196 + 1)))) = some r := H
 have A3 := am A30
 clear A30
 by_cases c4 : t196 = (-1)
 ·rw [if_pos c4] at H
  have c4b0 : (t196 == (-1)) = true := beq_iff_eq.mpr c4
  have c4b1 : (t196 != (-1)) = false := bne_eq_false_iff_eq.mpr c4
  clear c4
  obtain rfl := Option.some.inj H
  obtain ⟨Ao5, co5, eo5⟩ := Kd.R_slice HO0.out
  subst eo5
  go_enter Try.func39, Try.ntmps39
  go_wp2_with (first | ((with_reducible refine gate_callee (f := 47) rfl ?_); refine goesL_ (some 10) rfl rfl Try.func47 (by kernel_rfl) rfl #[.slice Ao5 l0.length co5, .func (.func 40) #[] #[.pointer (some ⟨B, 0, none⟩)]] rfl mpx ?_; (with_reducible refine (slices_IndexFunc_st.calls k _ _ l0 a1 t196 _ ?side1 ?side2 B (by first | exact HBc.out | exact cell_dr HBc.out) A3.out).mono ?_); (case side1 => exact pkC (Kd.R_reads' HO0.out).2.2); (case side2 => exact (Kd.R_reads' HO0.out).2.1); rintro e w6 ⟨rfl, hb⟩; refine ⟨_, rfl, ?_⟩; replace HO0 := am (Kd.R_below (pkR HO0.out) hb); replace HK := am (Kept.below (S := (fun k_ => P0_ k_)) (by repeat (first | (with_reducible first | exact HK.out | apply Kept.alloc | apply Kept.drewN | apply Kept.drew) | exact HK.out)) hb); replace HB := am (below_step (pkB HB.out) hb); (try clear hb)))
  go_ret
  exact ⟨_, rfe, pkR HO0.out, pkB HB.out, by repeat (first | (with_reducible first | exact HK.out | apply Kept.alloc | apply Kept.drewN | apply Kept.drew) | exact HK.out)⟩
 ·rw [if_neg c4] at H
  have c4b0 : (t196 == (-1)) = false := beq_eq_false_iff_ne.mpr c4
  have c4b1 : (t196 != (-1)) = true := bne_iff_ne.mpr c4
  have H' := am H
  clear H
  obtain ⟨Ao7, co7, eo7⟩ := Kd.R_slice HO0.out
  subst eo7
  go_enter Try.func39, Try.ntmps39
  go_wp2_with (first | ((with_reducible refine gate_callee (f := 47) rfl ?_); refine goesL_ (some 10) rfl rfl Try.func47 (by kernel_rfl) rfl #[.slice Ao7 l0.length co7, .func (.func 40) #[] #[.pointer (some ⟨B, 0, none⟩)]] rfl mpx ?_; (with_reducible refine (slices_IndexFunc_st.calls k _ _ l0 a1 t196 _ ?side1 ?side2 B (by first | exact HBc.out | exact cell_dr HBc.out) A3.out).mono ?_); (case side1 => exact pkC (Kd.R_reads' HO0.out).2.2); (case side2 => exact (Kd.R_reads' HO0.out).2.1); rintro e w8 ⟨rfl, hb⟩; refine ⟨_, rfl, ?_⟩; replace HO0 := am (Kd.R_below (pkR HO0.out) hb); replace HK := am (Kept.below (S := (fun k_ => P0_ k_)) (by repeat (first | (with_reducible first | exact HK.out | apply Kept.alloc | apply Kept.drewN | apply Kept.drew) | exact HK.out)) hb); replace HB := am (below_step (pkB HB.out) hb); (try clear hb)))
  go_loopg [5, 6] k (fun kq v5 v6 w' => ∃ (x0_1 : List (S46)) (x5_1 : Int) (x6_1 : Int), v5 = .int .i64 x5_1 ∧ v6 = .int .i64 x6_1 ∧ Aside0 (slices_DeleteFunc_st.l0 kq x0_1 a1 x5_1 x6_1 = some r) ∧ Aside0 (kq ≤ k) ∧ Aside0 (Kd.R k46 46 w' w0.heap.size (fun k_ => (P0_ k_ ∨ w.heap.size ≤ k_)) (.slice Ao7 l0.length co7) x0_1) ∧ Aside0 (Kept w w' (fun k_ => P0_ k_)) ∧ Aside0 (Below w0.heap.size w0 w'))
  case atStart => exact ⟨(l0), (t196), (wrap64 (t196 + 1)), rfx, rfx, H', ⟨Nat.le_refl _⟩, ⟨pkR HO0.out⟩, ⟨by repeat (first | (with_reducible first | exact HK.out | apply Kept.alloc | apply Kept.drewN | apply Kept.drew) | exact HK.out)⟩, ⟨pkB HB.out⟩⟩
  case round =>
   clear H'
   try clear p2
   try clear c3
   try clear c4
   try clear c4b0
   try clear c4b1
   try clear p6
   obtain ⟨x0_1, x5_1, x6_1, rfl, rfl, HA, HK1, HO_0, HK, HB⟩ := hrel
   have hl0_1 := (Kd.R_reads' HO_0.out).1
   rw [hl0_1] at HO_0
   (try simp only [hl0_1])
   cases gk with
   | zero => exact absurd HA.out (by simp [slices_DeleteFunc_st.l0])
   | succ k1 =>
    have H := HA.out
    clear HA
    simp only [slices_DeleteFunc_st.l0] at H
    by_cases c9 : x6_1 < (x0_1.length : Int)
    ·rw [if_pos c9] at H
     have c9b0 : decide (x6_1 < (x0_1.length : Int)) = true := decide_eq_true c9
     clear c9
     by_cases c10 : 0 ≤ x6_1
     ·rw [if_pos c10] at H
      have c10b0 : decide (0 ≤ x6_1) = true := decide_eq_true c10
      clear c10
      replace H := Option.bind_eq_some_iff.mp H
      obtain ⟨t199, A110, H⟩ := H
      replace H : (if t199 = true then (slices_DeleteFunc_st.l0 k1 x0_1 a1 x5_1 (wrap64 (x6_1 + 1))) else (if 0 ≤ x5_1 then (if x5_1 < (x0_1.length : Int) then (slices_DeleteFunc_st.l0 k1 (x0_1.set (x5_1 : Int).toNat (⟨(rd_T46 x0_1 x6_1).f0, (rd_T46 x0_1 x6_1).f1⟩ : S46)) a1 (wrap64 (x5_1 + 1)) (wrap64 (x6_1 + 1))) else (none)) else (none))) = some r := H
      have A11 := am A110
      clear A110
      by_cases c12 : t199 = true
      ·subst c12
       replace H : (slices_DeleteFunc_st.l0 k1 x0_1 a1 x5_1 (wrap64 (x6_1 + 1))) = some r := by rw [if_pos rfl] at H; exact H
       have H' := am H
       clear H
       have p197 : 0 ≤ (x6_1 : Int) := ofd
       have q197 : x6_1 < (x0_1.length : Int) := ofd
       obtain ⟨ad197, e197, hx197_0, hx197_1⟩ := at_T46 (Kd.R_reads' HO_0.out).2.2 x6_1 p197 q197
       cases e197
       replace p197 := eq_true p197
       replace q197 := eq_true q197
       go_wp2_with (first | ((with_reducible refine gate_dst (N := 7) rfl ?_); refine box_event ?hg (N := 7) ?hd (cs := #[.int .i64 0, .int .i64 0]) (t := 46) ?hr ?_; (case hd => rfl); (case hg => rfl); (case hr => first | (go_simp; done) | (go_simp; rfl)); intro gb198 hg w13 hbox hb; replace HO_0 := am (Kd.R_below (Kd.R_elderB (pkR HO_0.out) gb198 (Nat.le_of_eq hg.symm)) hb); have BK198 := am (hbox); have GW198 := am ((by rw [hg]; exact (by first | exact HK.out.1 | exact (show Kept w _ (fun k_ => P0_ k_) from by repeat (first | (with_reducible first | exact HK.out | apply Kept.alloc | apply Kept.drewN | apply Kept.drew) | exact HK.out)).1) : w.heap.size ≤ gb198)); replace HK := am (Kept.below (S := (fun k_ => P0_ k_)) (by repeat (first | (with_reducible first | exact HK.out | apply Kept.alloc | apply Kept.drewN | apply Kept.drew) | exact HK.out)) hb); have GE198 := am ((by rw [hg]; exact (below_size (pkB HB.out)) : w0.heap.size ≤ gb198)); replace HB := am (below_step (pkB HB.out) hb); clear hb hbox hg; obtain ⟨hcz14_0, hcz14_1, hfz14_0, hfz14_1⟩ := bk2 BK198.out) | (go_at_call 40; (with_reducible refine (impl_StopTimer_1.calls ((rd_T46 x0_1 x6_1).f0) ((rd_T46 x0_1 x6_1).f1) a1 true B _ (cell_kept HBc.out (by repeat (first | (with_reducible first | exact HK.out | apply Kept.alloc | apply Kept.drewN | apply Kept.drew | refine Kept.setCell ?_ (.inr GW198.out) _) | exact HK.out)) HBn.out) A11.out).mono ?_); rintro e w15 ⟨rfl, hb⟩; replace HO_0 := am (Kd.R_below (by (with_reducible repeat (first | apply Kd.R_alloc | apply Kd.R_drewN | apply Kd.R_drew)); exact (Kd.R_mono (Kd.R_far (p := ⟨gb198, 1, none⟩) (Kd.R_far (p := ⟨gb198, 0, none⟩) (Kd.R_mono HO_0.out (fun k_ hk => (⟨hk, hk.2⟩ : _ ∧ k_ ≠ gb198))) (fun _ hk => hk.2) (.int .i64 ((rd_T46 x0_1 x6_1).f0))) (fun _ hk => hk.2) (.int .i64 ((rd_T46 x0_1 x6_1).f1))) (fun _ h_ => h_.1))) hb); replace BK198 := am (blk_below (g := gb198) (o := .cells #[.int .i64 ((rd_T46 x0_1 x6_1).f0), .int .i64 ((rd_T46 x0_1 x6_1).f1)] 46 (0, 0)) (by (with_reducible repeat (first | refine blk_drewN ?_ _ | refine blk_drew ?_ | refine blk_alloc ?_ _)); refine blk_put (cs := #[.int .i64 ((rd_T46 x0_1 x6_1).f0), .int .i64 0]) ?_ 1 _ rfl; (with_reducible repeat (first | refine blk_drewN ?_ _ | refine blk_drew ?_ | refine blk_alloc ?_ _)); refine blk_put (cs := #[.int .i64 0, .int .i64 0]) ?_ 0 _ rfl; exact pkK BK198.out) hb); replace HK := am (Kept.below (S := (fun k_ => P0_ k_)) (by repeat (first | (with_reducible first | exact HK.out | apply Kept.alloc | apply Kept.drewN | apply Kept.drew | refine Kept.setCell ?_ (.inr GW198.out) _) | exact HK.out)) hb); replace HB := am (below_step (pkW HB.out) hb); (try clear hb)))
       (try simp only [← hl0_1])
       go_roundg k1
       case measure => have := HK1.out; omega
       case rel => exact ⟨(x0_1), (x5_1), (wrap64 (x6_1 + 1)), rfx, rfx, H', ⟨by have := HK1.out; omega⟩, ⟨by (try simp only [hl0_1]); (with_reducible repeat (first | apply Kd.R_alloc | apply Kd.R_drewN | apply Kd.R_drew)); exact Kd.R_mono HO_0.out (fun _ hk => hk.1)⟩, ⟨by repeat (first | (with_reducible first | exact HK.out | apply Kept.alloc | apply Kept.drewN | apply Kept.drew | refine Kept.setCell ?_ (.inr GW198.out) _) | exact HK.out)⟩, ⟨pkW HB.out⟩⟩
      ·replace c12 := Bool.eq_false_iff.mpr c12
       subst c12
       replace H : (if 0 ≤ x5_1 then (if x5_1 < (x0_1.length : Int) then (slices_DeleteFunc_st.l0 k1 (x0_1.set (x5_1 : Int).toNat (⟨(rd_T46 x0_1 x6_1).f0, (rd_T46 x0_1 x6_1).f1⟩ : S46)) a1 (wrap64 (x5_1 + 1)) (wrap64 (x6_1 + 1))) else (none)) else (none)) = some r := by rw [if_neg (show ¬ (false = true) by decide)] at H; exact H
       by_cases c16 : 0 ≤ x5_1
       ·rw [if_pos c16] at H
        have c16b0 : decide (0 ≤ x5_1) = true := decide_eq_true c16
        clear c16
        by_cases c17 : x5_1 < (x0_1.length : Int)
        ·rw [if_pos c17] at H
         have c17b0 : decide (x5_1 < (x0_1.length : Int)) = true := decide_eq_true c17
         clear c17
         obtain ⟨y200, hy200⟩ : ∃ y_ : List (S46), y_ = (x0_1.set (x5_1 : Int).toNat (⟨(rd_T46 x0_1 x6_1).f0, (rd_T46 x0_1 x6_1).f1⟩ : S46)) := ⟨_, rfl⟩
         replace H : (slices_DeleteFunc_st.l0 k1 y200 a1 (wrap64 (x5_1 + 1)) (wrap64 (x6_1 + 1))) = some r := by first | (rw [hy200]; with_reducible exact H) | (have H2_ := (Option.bind_some _ _).symm.trans H; rw [hy200]; with_reducible exact H2_) | (have H2_ := (Option.bind_some _ _).symm.trans H; with_reducible exact H2_) | with_reducible exact H | (rw [hy200]; exact H) | exact H
         have Ny200 := am hy200
         clear hy200
         have H' := am H
         clear H
         have p197 : 0 ≤ (x6_1 : Int) := ofd
         have q197 : x6_1 < (x0_1.length : Int) := ofd
         obtain ⟨ad197, e197, hx197_0, hx197_1⟩ := at_T46 (Kd.R_reads' HO_0.out).2.2 x6_1 p197 q197
         cases e197
         replace p197 := eq_true p197
         replace q197 := eq_true q197
         go_wp2_with (first | ((with_reducible refine gate_dst (N := 7) rfl ?_); refine box_event ?hg (N := 7) ?hd (cs := #[.int .i64 0, .int .i64 0]) (t := 46) ?hr ?_; (case hd => rfl); (case hg => rfl); (case hr => first | (go_simp; done) | (go_simp; rfl)); intro gb198 hg w19 hbox hb; replace HO_0 := am (Kd.R_below (Kd.R_elderB (pkR HO_0.out) gb198 (Nat.le_of_eq hg.symm)) hb); have BK198 := am (hbox); have GW198 := am ((by rw [hg]; exact (by first | exact HK.out.1 | exact (show Kept w _ (fun k_ => P0_ k_) from by repeat (first | (with_reducible first | exact HK.out | apply Kept.alloc | apply Kept.drewN | apply Kept.drew) | exact HK.out)).1) : w.heap.size ≤ gb198)); replace HK := am (Kept.below (S := (fun k_ => P0_ k_)) (by repeat (first | (with_reducible first | exact HK.out | apply Kept.alloc | apply Kept.drewN | apply Kept.drew) | exact HK.out)) hb); have GE198 := am ((by rw [hg]; exact (below_size (pkB HB.out)) : w0.heap.size ≤ gb198)); replace HB := am (below_step (pkB HB.out) hb); clear hb hbox hg; obtain ⟨hcz20_0, hcz20_1, hfz20_0, hfz20_1⟩ := bk2 BK198.out) | (go_at_call 40; (with_reducible refine (impl_StopTimer_1.calls ((rd_T46 x0_1 x6_1).f0) ((rd_T46 x0_1 x6_1).f1) a1 false B _ (cell_kept HBc.out (by repeat (first | (with_reducible first | exact HK.out | apply Kept.alloc | apply Kept.drewN | apply Kept.drew | refine Kept.setCell ?_ (.inr GW198.out) _) | exact HK.out)) HBn.out) A11.out).mono ?_); rintro e w21 ⟨rfl, hb⟩; replace HO_0 := am (Kd.R_below (by (with_reducible repeat (first | apply Kd.R_alloc | apply Kd.R_drewN | apply Kd.R_drew)); exact (Kd.R_mono (Kd.R_far (p := ⟨gb198, 1, none⟩) (Kd.R_far (p := ⟨gb198, 0, none⟩) (Kd.R_mono HO_0.out (fun k_ hk => (⟨hk, hk.2⟩ : _ ∧ k_ ≠ gb198))) (fun _ hk => hk.2) (.int .i64 ((rd_T46 x0_1 x6_1).f0))) (fun _ hk => hk.2) (.int .i64 ((rd_T46 x0_1 x6_1).f1))) (fun _ h_ => h_.1))) hb); replace BK198 := am (blk_below (g := gb198) (o := .cells #[.int .i64 ((rd_T46 x0_1 x6_1).f0), .int .i64 ((rd_T46 x0_1 x6_1).f1)] 46 (0, 0)) (by (with_reducible repeat (first | refine blk_drewN ?_ _ | refine blk_drew ?_ | refine blk_alloc ?_ _)); refine blk_put (cs := #[.int .i64 ((rd_T46 x0_1 x6_1).f0), .int .i64 0]) ?_ 1 _ rfl; (with_reducible repeat (first | refine blk_drewN ?_ _ | refine blk_drew ?_ | refine blk_alloc ?_ _)); refine blk_put (cs := #[.int .i64 0, .int .i64 0]) ?_ 0 _ rfl; exact pkK BK198.out) hb); replace HK := am (Kept.below (S := (fun k_ => P0_ k_)) (by repeat (first | (with_reducible first | exact HK.out | apply Kept.alloc | apply Kept.drewN | apply Kept.drew | refine Kept.setCell ?_ (.inr GW198.out) _) | exact HK.out)) hb); replace HB := am (below_step (pkW HB.out) hb); (try clear hb); obtain ⟨hcz22_0, hcz22_1, hfz22_0, hfz22_1⟩ := bk2 BK198.out; have p18 : 0 ≤ (x5_1 : Int) := ofd; have q18 : (x5_1 : Int) < ((x0_1.length : Int) : Int) := ofd; obtain ⟨go18, co18, eo18, gb18, gl18, cl18, HG18⟩ := Kd.R_form HO_0.out (by omega); (first | cases eo18 | (injection eo18 with ea_ en_ ec_; (first | subst ea_ | (injection ea_ with ea_; subst ea_)); subst ec_; clear en_)); have GB18 := am gb18; have GG18 := am HG18; clear gb18 gl18 HG18; have HMgo18 := am (show (P0_ go18 ∨ w.heap.size ≤ go18) from (HO_0.out.1 _ rfl).1); (first | simp only [add_plain] at hx197_0 | skip); (first | simp only [add_plain] at hx197_1 | skip); obtain ⟨ce18, hcl18, hM18, hcc18, hfr18⟩ := Kd.R_elem HO_0.out z46 (x5_1 : Int) p18 q18; obtain rfl := k46_openM hM18; have hx18_0 : w21.cell? ⟨go18, (x5_1 : Int).toNat * 2, none⟩ = some (.int .i64 ((rd_T46 x0_1 x5_1).f0)) := hcc18 0 _ rfl; have hx18_1 : w21.cell? ⟨go18, (x5_1 : Int).toNat * 2 + 1, none⟩ = some (.int .i64 ((rd_T46 x0_1 x5_1).f1)) := hcc18 1 _ rfl; have hf18_0 : w21.frozen? ⟨go18, (x5_1 : Int).toNat * 2, none⟩ = false := hfr18 0; have hf18_1 : w21.frozen? ⟨go18, (x5_1 : Int).toNat * 2 + 1, none⟩ = false := hfr18 1; clear hcl18 hcc18 hfr18 hM18; replace p18 := eq_true p18; replace q18 := eq_true q18; have HX23 := am (show Kd.R k46 46 w21 w0.heap.size (fun k_ => (P0_ k_ ∨ w.heap.size ≤ k_) ∧ k_ ≠ gb198) (.slice (some ⟨go18, 0, none⟩) x0_1.length co7) x0_1 from (pkR HO_0.out)); obtain ⟨ce23, hcl23, hM23, hcc23, hfr23⟩ := Kd.R_elem HX23.out z46 (x5_1 : Int) (ofd) (by have h_ : (x5_1 : Int) < ((x0_1.length : Int) : Int) := ofd; first | exact h_ | (have e_ := (Kd.R_reads' HO_0.out).1; omega) | simpa using h_); obtain rfl := k46_openM hM23; have HP23 := Kd.R_seg HX23.out (x5_1 : Int) (ofd) (by have h_ : (x5_1 : Int) < ((x0_1.length : Int) : Int) := ofd; first | exact h_ | (have e_ := (Kd.R_reads' HO_0.out).1; omega) | simpa using h_) (seg := [.int .i64 ((rd_T46 x0_1 x6_1).f0), .int .i64 ((rd_T46 x0_1 x6_1).f1)]) (j := 0) hcl23 hcc23 (show 2 ≤ 2 from by decide) (x' := (⟨(rd_T46 x0_1 x6_1).f0, (rd_T46 x0_1 x6_1).f1⟩ : S46)) (k46_mkM _ _ _ (⟨(rd_T46 x0_1 x6_1).f0, (rd_T46 x0_1 x6_1).f1⟩ : S46) ) (fun _ hk => hk); have hx23_0 := hcc23 0 _ rfl; (try simp only [show (k46).sz = 2 from rfl, Nat.mul_one, Nat.add_zero] at hx23_0); have hf23_0 := hfr23 0; (try simp only [show (k46).sz = 2 from rfl, Nat.mul_one, Nat.add_zero] at hf23_0); have hx23_1 := hcc23 1 _ rfl; (try simp only [show (k46).sz = 2 from rfl, Nat.mul_one, Nat.add_zero] at hx23_1); have hf23_1 := hfr23 1; (try simp only [show (k46).sz = 2 from rfl, Nat.mul_one, Nat.add_zero] at hf23_1); clear hcl23 hcc23 hfr23 hM23) | ((with_reducible refine gate_store (t := 46) (p := 33) rfl ?_); refine store_event (t := 46) (p := 33) (v := ?vo_w24) (w1 := ((w21.setCell ⟨go18, (x5_1 : Int).toNat * 2, none⟩ (.int .i64 ((rd_T46 x0_1 x6_1).f0))).setCell ⟨go18, (x5_1 : Int).toNat * 2 + 1, none⟩ (.int .i64 ((rd_T46 x0_1 x6_1).f1)))) ?hg ?ho ?hn ?hr ?_; (case ho => rfl); (case hg => rfl); (case hn => rfl); (case hr => first | (go_simp; done) | (go_simp; rfl)); intro w24 hw; have hg : w21.grownBy w24 (some go18) := (by rw [hw]; exact HP23.2); have hp_ : Kd.R k46 46 w24 w0.heap.size (fun k_ => (P0_ k_ ∨ w.heap.size ≤ k_) ∧ k_ ≠ gb198) (.slice (some ⟨go18, 0, none⟩) x0_1.length co7) y200 := (by rw [hw, Ny200.out]; exact HP23.1); clear HP23; replace BK198 := am (blk_grown (g := gb198) (o := .cells #[.int .i64 ((rd_T46 x0_1 x6_1).f0), .int .i64 ((rd_T46 x0_1 x6_1).f1)] 46 (0, 0)) (pkK BK198.out) hg (Kd.R_away HO_0.out (fun _ hk => hk.2))); replace HB := am ((by rw [hw]; exact below_set (below_set (HB.out) GB18.out) GB18.out : Below w0.heap.size w0 w24)); replace HK := am (Kept.of_grown (S := (fun k_ => P0_ k_)) hg (by repeat (first | (with_reducible first | exact HK.out | apply Kept.alloc | apply Kept.drewN | apply Kept.drew | refine Kept.setCell ?_ (.inr GW198.out) _) | exact HK.out)) (fun k_ e_ => (HO_0.out.1 k_ e_).1)); replace HO_0 := am (hp_); clear hg hw hp_))
         (try simp only [← hl0_1])
         go_roundg k1
         case measure => have := HK1.out; omega
         case rel => exact ⟨(y200), (wrap64 (x5_1 + 1)), (wrap64 (x6_1 + 1)), rfx, rfx, H', ⟨by have := HK1.out; omega⟩, ⟨by (try simp only [hl0_1]); (with_reducible repeat (first | apply Kd.R_alloc | apply Kd.R_drewN | apply Kd.R_drew)); exact Kd.R_mono HO_0.out (fun _ hk => hk.1)⟩, ⟨by repeat (first | (with_reducible first | exact HK.out | apply Kept.alloc | apply Kept.drewN | apply Kept.drew | refine Kept.setCell ?_ (.inr GW198.out) _) | exact HK.out)⟩, ⟨pkW HB.out⟩⟩
        ·rw [if_neg c17] at H
         exact absurd H (by simp)
       ·rw [if_neg c16] at H
        exact absurd H (by simp)
     ·rw [if_neg c10] at H
      exact absurd H (by simp)
    ·rw [if_neg c9] at H
     have c9b0 : decide (x6_1 < (x0_1.length : Int)) = false := decide_eq_false c9
     clear c9
     by_cases c25 : 0 ≤ x5_1
     ·rw [if_pos c25] at H
      have c25b0 := eq_true c25
      have c25b1 : decide (0 ≤ x5_1) = true := decide_eq_true c25
      clear c25
      by_cases c26 : x5_1 < (x0_1.length : Int)
      ·rw [if_pos c26] at H
       have l_ := c26
       obtain rfl := Option.some.inj H
       have p_ : 0 ≤ x5_1 := of_eq_true c25b0
       obtain ⟨gx_, cx_, ex_, hbx_, _, _⟩ := Kd.R_form HO_0.out (by omega)
       injection ex_ with e1_ e2_ e3_
       subst e1_
       subst e3_
       clear e2_
       obtain ⟨i0x_, hi0x_, hzx_⟩ := Option.map_eq_some_iff.1 info46
       simp only [Prod.mk.injEq] at hzx_
       have hdrop_ := drop_at (P := Try.prog) 27 46 .i64 Try.underlying27 hi0x_ gx_ x0_1.length co7 x5_1 p_ l_ (Kd.R_reads' HO_0.out).2.1
       rw [hzx_.2.1] at hdrop_
       have hcut_ := cut_to (P := Try.prog) 27 46 .i64 Try.underlying27 hi0x_ (some ⟨gx_, 0, none⟩) x0_1.length co7 x5_1 p_ (by omega) (Kd.R_reads' HO_0.out).2.1
       obtain ⟨w2_, hcl_, hrc_, hgc_⟩ := Kd.R_clear (i := (x5_1 : Int).toNat) Try.underlying27 info46 rfl (by intro u hu_; simp [Value.cells] at hu_; (first | (subst hu_; rfl) | (rcases hu_ with rfl | rfl <;> rfl))) (by decide) HO_0.out (by omega)
       have HR2_ := am hrc_
       have HB2_ := am (pw_below_grown HB.out (some gx_) HB.out.size hgc_ (fun k_ e_ => by injection e_ with e_; omega))
       have HK2_ := am (Kept.of_grown (S := fun k_ => P0_ k_) hgc_ HK.out (fun k_ e_ => HO_0.out.1 k_ e_))
       (try simp only [show (k46).sz = 1 from rfl, Nat.mul_one] at hcl_ hdrop_)
       (try simp only [show (k46).sz = 2 from rfl] at hcl_ hdrop_)
       have p0_ := eq_true p_
       have l0_ := eq_true l_
       clear hzx_ hi0x_ hbx_ hrc_ hgc_ p_ l_ HB HK HO_0
       go_wp2
       go_ret
       exact ⟨_, rfl, HR2_.out, HB2_.out, HK2_.out⟩
      ·rw [if_neg c26] at H
       exact absurd H (by simp)
     ·rw [if_neg c25] at H
      exact absurd H (by simp)
def impl_StopTimer.f (k : Nat) (a0_0 : Int) (l0_1 : List (S46)) (a1 : Int) : Option (Int × (List (S46)) × Int) := (impl_copyClock.f a0_0 l0_1).bind fun bt206 => ((impl_ClockOk.f k a0_0 l0_1).bind fun t211 => (if t211 = true then ((slices_DeleteFunc_st.f k bt206.2 a1).bind fun t212 => (some (bt206.1, t212, wrap64 ((l0_1.length : Int) - (t212.length : Int))))) else (some (bt206.1, bt206.2, 0))))
theorem impl_StopTimer.mono : ∀ a0 a1 a2 k, LeO (impl_StopTimer.f k a0 a1 a2) (impl_StopTimer.f (k + 1) a0 a1 a2) := by
 intro a0 a1 a2 k
 unfold impl_StopTimer.f
 repeat' first
   | (with_reducible exact impl_ClockOk.mono _ _ _)
   | (with_reducible exact slices_DeleteFunc_st.mono _ _ _)
   | (with_reducible exact LeO.refl _)
   | (with_reducible exact LeO.none _)
   | (with_reducible refine LeO.ite ?_ ?_)
   | (with_reducible refine LeO.bind ?_ (fun _ => ?_))
def impl_StopTimer.T5 : Bool × List (List Nat × List Nat) := (true, [([], []), ([], []), ([1], [1]), ([2], [2]), ([], []), ([4], [4]), ([5], [5]), ([3, 6], [3, 6]), ([0, 0], [0]), ([7, 8, 0, 1, 2, 3, 4, 5, 6, 7, 8], [7])])
def impl_StopTimer.B5 : List Nat := [0, 0, 2, 6, 0, 16, 48, 126, 1, 511]
theorem impl_StopTimer.tab5 : rtab .any (opsOf Try.f15 5) = impl_StopTimer.T5 := by kernel_rfl
theorem impl_StopTimer.bits5 : waitsOk impl_StopTimer.T5.2 impl_StopTimer.B5 = true := by kernel_rfl
set_option maxHeartbeats 8000000 in
set_option maxRecDepth 100000 in
theorem impl_StopTimer.calls (k : Nat) (a0_0 : Int) (A0_1 : Option Addr) (c0_1 : Nat) (l0_1 : List (S46)) (a1 : Int) (r1 : Int) (r2 : List (S46)) (r3 : Int) (w : World) (hr0_1 : Kd.C k46 w A0_1 l0_1.length l0_1) (hc0_1 : l0_1.length ≤ c0_1) (h : impl_StopTimer.f k a0_0 l0_1 a1 = some (r1, r2, r3)) :
  Calls Try.prog 15 #[.agg #[.int .i64 a0_0, .slice A0_1 l0_1.length c0_1], .int .i64 a1] w fun e w' => ∃ v1_ : Value, e = .returned (.tuple #[.agg #[.int .i64 r1, v1_], .int .i64 r3]) ∧ Kd.R k46 46 w' w.heap.size (fun _ => True) v1_ r2 ∧ Below w.heap.size w w' := by
 have hu29 := Try.underlying29
 have HR0_1 := am hr0_1
 have HC0_1 := am hc0_1
 clear hr0_1 hc0_1
 have HB := am (Below.refl w.heap.size w)
 have H : ((impl_copyClock.f a0_0 l0_1).bind fun bt206 => ((impl_ClockOk.f k a0_0 l0_1).bind fun t211 => (if t211 = true then ((slices_DeleteFunc_st.f k bt206.2 a1).bind fun t212 => (some (bt206.1, t212, wrap64 ((l0_1.length : Int) - (t212.length : Int))))) else (some (bt206.1, bt206.2, 0))))) = some (r1, r2, r3) := h
 clear h
 replace H := Option.bind_eq_some_iff.mp H
 obtain ⟨⟨t206, t207⟩, A30, H⟩ := H
 replace H : ((impl_ClockOk.f k a0_0 l0_1).bind fun t211 => (if t211 = true then ((slices_DeleteFunc_st.f k t207 a1).bind fun t212 => (some (t206, t212, wrap64 ((l0_1.length : Int) - (t212.length : Int))))) else (some (t206, t207, 0)))) = some (r1, r2, r3) := H
 have A3 := am A30
 clear A30
 replace H := Option.bind_eq_some_iff.mp H
 obtain ⟨t211, A40, H⟩ := H
 replace H : (if t211 = true then ((slices_DeleteFunc_st.f k t207 a1).bind fun t212 => (some (t206, t212, wrap64 ((l0_1.length : Int) - (t212.length : Int))))) else (some (t206, t207, 0))) = some (r1, r2, r3) := H
 have A4 := am A40
 clear A40
 by_cases c5 : t211 = true
 ·subst c5
  replace H : ((slices_DeleteFunc_st.f k t207 a1).bind fun t212 => (some (t206, t212, wrap64 ((l0_1.length : Int) - (t212.length : Int))))) = some (r1, r2, r3) := by rw [if_pos rfl] at H; exact H
  replace H := Option.bind_eq_some_iff.mp H
  obtain ⟨t212, A60, H⟩ := H
  replace H : (some (t206, t212, wrap64 ((l0_1.length : Int) - (t212.length : Int)))) = some (r1, r2, r3) := H
  have A6 := am A60
  clear A60
  simp only [Option.some.injEq, Prod.mk.injEq] at H
  obtain ⟨rfl, rfl, rfl⟩ := H
  go_enter Try.func15, Try.ntmps15
  try go_wp2_with (first | ((with_reducible refine gate_dst (N := 2) rfl ?_); refine box_event ?hg (N := 2) ?hd (cs := #[.int .i64 a0_0, .slice A0_1 l0_1.length c0_1]) (t := 29) ?hr ?_; (case hd => rfl); (case hg => rfl); (case hr => first | (go_simp; done) | (go_simp; rfl)); intro gb204 hg w7 hbox hb; have BK204 := am (hbox); have GW204 := am ((by rw [hg]; exact (below_size (pkB HB.out)) : w.heap.size ≤ gb204)); have GE204 := am ((by rw [hg]; exact (below_size (pkB HB.out)) : w.heap.size ≤ gb204)); replace HB := am (below_step (pkB HB.out) hb); clear hb hbox hg) | ((with_reducible refine gate_dst (N := 3) rfl ?_); refine box_event ?hg (N := 3) ?hd (cs := #[.int .i64 a1]) (t := 3) ?hr ?_; (case hd => rfl); (case hg => rfl); (case hr => first | (go_simp; done) | (go_simp; rfl)); intro gbT hg wT hbox hb; have m0_ := am (blk_below (pkK BK204.out) hb); have mB_ := am (below_step (pkB HB.out) hb); have BKT := am hbox; have HBT := am (Below.refl wT.heap.size wT); clear BK204 HB; have BK204 := m0_; have HB := mB_; clear mB_ m0_; clear hb hbox hg) | ((with_reducible refine gate_dst (N := 4) rfl ?_); refine box_event ?hg (N := 4) ?hd (cs := #[.int .i64 0, .slice none 0 0]) (t := 29) ?hr ?_; (case hd => rfl); (case hg => rfl); (case hr => first | (go_simp; done) | (go_simp; rfl)); intro gb205 hg w8 hbox hb; have GT205 := am ((by rw [hg]; exact (below_size (pkB HBT.out)) : wT.heap.size ≤ gb205)); have m0_ := am (below_step (pkB HBT.out) hb); clear HBT; have HBT := m0_; clear m0_; have BK205 := am (hbox); have GW205 := am ((by rw [hg]; exact (below_size (pkW HB.out)) : w.heap.size ≤ gb205)); have GE205 := am ((by rw [hg]; exact (below_size (pkW HB.out)) : w.heap.size ≤ gb205)); replace HB := am (below_step (pkW HB.out) hb); have NB204_205 := am ((by rw [hg]; exact Nat.ne_of_lt (blk_lt (g := gb204) (o := .cells #[.int .i64 a0_0, .slice A0_1 l0_1.length c0_1] 29 (0, 0)) (pkK BK204.out)) : gb204 ≠ gb205)); have NB205_204 := am ((by rw [hg]; exact Nat.ne_of_gt (blk_lt (g := gb204) (o := .cells #[.int .i64 a0_0, .slice A0_1 l0_1.length c0_1] 29 (0, 0)) (pkK BK204.out)) : gb205 ≠ gb204)); replace BK204 := am (blk_below (pkK BK204.out) hb); clear hb hbox hg; have hnb9 := NB204_205.out; have hnc9 := NB205_204.out; obtain ⟨hcz10_0, hcz10_1, hfz10_0, hfz10_1⟩ := bk2 BK204.out) | ((with_reducible refine gate_callee (f := 38) rfl ?_); refine goesL_ (some 8) rfl rfl Try.func38 (by kernel_rfl) rfl #[.agg #[.int .i64 a0_0, .slice A0_1 l0_1.length c0_1]] rfl mpx ?_; (with_reducible refine (impl_copyClock.calls a0_0 _ _ l0_1 t206 t207 _ ?side1 ?side2 A3.out).mono ?_); (case side1 => exact pkC (Kd.C_below HR0_1.out HB.out)); (case side2 => exact HC0_1.out); rintro e w11 ⟨v208, rfl, ho0, hb⟩; refine ⟨_, rfl, ?_⟩; have m0_ := am (below_step (pkW HBT.out) hb); clear HBT; have HBT := m0_; clear m0_; have HO209 := am (Kd.R_lower ho0 (below_size (pkW HB.out))); replace BK204 := am (blk_below (pkK BK204.out) hb); replace BK205 := am (blk_below (pkK BK205.out) hb); replace HB := am (below_step (pkW HB.out) hb); (try clear hb ho0)) | ((with_reducible refine gate_dst (N := 6) rfl ?_); refine box_event ?hg (N := 6) ?hd (cs := #[.int .i64 0, .slice none 0 0]) (t := 29) ?hr ?_; (case hd => rfl); (case hg => rfl); (case hr => first | (go_simp; done) | (go_simp; rfl)); intro gb210 hg w12 hbox hb; have GT210 := am ((by rw [hg]; exact (below_size (pkW HBT.out)) : wT.heap.size ≤ gb210)); have m0_ := am (below_step (pkW HBT.out) hb); clear HBT; have HBT := m0_; clear m0_; replace HO209 := am (Kd.R_below (pkR HO209.out) hb); have BK210 := am (hbox); have GW210 := am ((by rw [hg]; exact (below_size (pkW HB.out)) : w.heap.size ≤ gb210)); have GE210 := am ((by rw [hg]; exact (below_size (pkW HB.out)) : w.heap.size ≤ gb210)); replace HB := am (below_step (pkW HB.out) hb); have NB204_210 := am ((by rw [hg]; exact Nat.ne_of_lt (blk_lt (g := gb204) (o := .cells #[.int .i64 a0_0, .slice A0_1 l0_1.length c0_1] 29 (0, 0)) (pkK BK204.out)) : gb204 ≠ gb210)); have NB210_204 := am ((by rw [hg]; exact Nat.ne_of_gt (blk_lt (g := gb204) (o := .cells #[.int .i64 a0_0, .slice A0_1 l0_1.length c0_1] 29 (0, 0)) (pkK BK204.out)) : gb210 ≠ gb204)); replace BK204 := am (blk_below (pkK BK204.out) hb); have NB205_210 := am ((by rw [hg]; exact Nat.ne_of_lt (blk_lt (g := gb205) (o := .cells #[.int .i64 0, .slice none 0 0] 29 (0, 0)) (pkK BK205.out)) : gb205 ≠ gb210)); have NB210_205 := am ((by rw [hg]; exact Nat.ne_of_gt (blk_lt (g := gb205) (o := .cells #[.int .i64 0, .slice none 0 0] 29 (0, 0)) (pkK BK205.out)) : gb210 ≠ gb205)); replace BK205 := am (blk_below (pkK BK205.out) hb); clear hb hbox hg; have hnb13 := NB210_204.out; have hnc13 := NB204_210.out; have hnb14 := NB210_205.out; have hnc14 := NB205_210.out; obtain ⟨hcz15_0, hcz15_1, hfz15_0, hfz15_1⟩ := bk2 BK210.out; obtain ⟨Ao16, co16, eo16⟩ := Kd.R_slice HO209.out; subst eo16; obtain ⟨hcz17_0, hcz17_1, hfz17_0, hfz17_1⟩ := bk2 BK204.out) | ((with_reducible refine gate_callee (f := 12) rfl ?_); refine goesL_ (some 10) rfl rfl Try.func12 (by kernel_rfl) rfl #[.agg #[.int .i64 a0_0, .slice A0_1 l0_1.length c0_1]] rfl mpx ?_; (with_reducible refine (impl_ClockOk.calls k a0_0 _ _ l0_1 true _ ?side1 ?side2 A4.out).mono ?_); (case side1 => exact Kd.C_below HR0_1.out (pkW HB.out)); (case side2 => exact HC0_1.out); rintro e w18 ⟨rfl, hb⟩; refine ⟨_, rfl, ?_⟩; have m0_ := am (below_step (pkW HBT.out) hb); clear HBT; have HBT := m0_; clear m0_; replace HO209 := am (Kd.R_below (by (with_reducible repeat (first | apply Kd.R_alloc | apply Kd.R_drewN | apply Kd.R_drew)); exact (Kd.R_mono (Kd.R_far (p := ⟨gb210, 1, none⟩) (Kd.R_far (p := ⟨gb210, 0, none⟩) (Kd.R_types HO209.out BK210.out (by decide)) (fun _ hk => hk.2) (.int .i64 t206)) (fun _ hk => hk.2) (.slice Ao16 t207.length co16)) (fun _ h_ => h_.1))) hb); replace BK204 := am (blk_below (g := gb204) (o := .cells #[.int .i64 a0_0, .slice A0_1 l0_1.length c0_1] 29 (0, 0)) (by (with_reducible repeat (first | refine blk_drewN ?_ _ | refine blk_drew ?_ | refine blk_alloc ?_ _)); refine blk_far ?_ NB204_210.out _; (with_reducible repeat (first | refine blk_drewN ?_ _ | refine blk_drew ?_ | refine blk_alloc ?_ _)); refine blk_far ?_ NB204_210.out _; exact pkK BK204.out) hb); replace BK205 := am (blk_below (g := gb205) (o := .cells #[.int .i64 0, .slice none 0 0] 29 (0, 0)) (by (with_reducible repeat (first | refine blk_drewN ?_ _ | refine blk_drew ?_ | refine blk_alloc ?_ _)); refine blk_far ?_ NB205_210.out _; (with_reducible repeat (first | refine blk_drewN ?_ _ | refine blk_drew ?_ | refine blk_alloc ?_ _)); refine blk_far ?_ NB205_210.out _; exact pkK BK205.out) hb); replace BK210 := am (blk_below (g := gb210) (o := .cells #[.int .i64 t206, .slice Ao16 t207.length co16] 29 (0, 0)) (by (with_reducible repeat (first | refine blk_drewN ?_ _ | refine blk_drew ?_ | refine blk_alloc ?_ _)); refine blk_put (cs := #[.int .i64 t206, .slice none 0 0]) ?_ 1 _ rfl; (with_reducible repeat (first | refine blk_drewN ?_ _ | refine blk_drew ?_ | refine blk_alloc ?_ _)); refine blk_put (cs := #[.int .i64 0, .slice none 0 0]) ?_ 0 _ rfl; exact pkK BK210.out) hb); replace HB := am (below_step (pkW HB.out) hb); (try clear hb); obtain ⟨hcz19_0, hcz19_1, hfz19_0, hfz19_1⟩ := bk2 BK210.out) | ((with_reducible refine gate_callee (f := 39) rfl ?_); refine goesL_ (some 16) rfl rfl Try.func39 (by kernel_rfl) rfl #[.slice Ao16 t207.length co16, .func (.func 40) #[] #[.pointer (some ⟨gbT, 0, none⟩)]] rfl mpx ?_; (with_reducible refine (slices_DeleteFunc_st.calls k (fun k_ => some k_ = (.slice Ao16 t207.length co16 : Value).ownBlock) (.slice Ao16 t207.length co16) t207 a1 t212 w _ ?side1 ?side2 gbT ?side3 ?side4 A6.out).mono ?_); (case side3 => exact (blk_cell (blk_below BKT.out (pkW HBT.out)) 0).trans rfl); (case side4 => exact fun e_ => (Kd.R_ne HO209.out (blk_below BKT.out HBT.out) (by decide)) e_); (case side1 => repeat (first | (with_reducible first | exact HB.out | apply below_alloc | apply pw_below_drewN | apply below_drew1 | refine below_set ?_ GE204.out | refine below_set ?_ GE205.out | refine below_set ?_ GE210.out) | exact HB.out)); (case side2 => exact Kd.R_tight rfl HO209.out); rintro e w20 ⟨v213, rfl, ho0, hb, hkp⟩; refine ⟨_, rfl, ?_⟩; replace BK204 := am (blk_kept (pkK BK204.out) hkp (fun hs_ => (fun e_ => (Kd.R_ne HO209.out BK204.out (by decide)) e_) hs_)); replace BK205 := am (blk_kept (pkK BK205.out) hkp (fun hs_ => (fun e_ => (Kd.R_ne HO209.out BK205.out (by decide)) e_) hs_)); replace BK210 := am (blk_kept (pkK BK210.out) hkp (fun hs_ => (fun e_ => (Kd.R_ne HO209.out BK210.out (by decide)) e_) hs_)); have HO214 := am (Kd.R_mono (ok' := fun k_ => True) ho0 (fun k_ hk_ => trivial)); replace HB := am (hb); clear HO209; (try clear hb); (try clear hkp); (try clear ho0); obtain ⟨Ao21, co21, eo21⟩ := Kd.R_slice HO214.out; subst eo21; obtain ⟨hcz22_0, hcz22_1, hfz22_0, hfz22_1⟩ := bk2 BK210.out))
  have n0_ : Aside0 (Kd.R k46 46 (w20.setCell ⟨gb210, 1, none⟩ (.slice Ao21 t212.length co21)) w.heap.size (fun _ => True) (.slice Ao21 t212.length co21) t212) := ⟨by (with_reducible repeat (first | apply Kd.R_alloc | apply Kd.R_drewN | apply Kd.R_drew)); exact Kd.R_mono (Kd.R_far (p := ⟨gb210, 1, none⟩) (Kd.R_types HO214.out BK210.out (by decide)) (fun _ hk => hk.2) (.slice Ao21 t212.length co21)) (fun _ hk => trivial)⟩
  have n1_ : Aside0 ((w20.setCell ⟨gb210, 1, none⟩ (.slice Ao21 t212.length co21)).heap[gb204]? = some (.cells #[.int .i64 a0_0, .slice A0_1 l0_1.length c0_1] 29 (0, 0))) := ⟨by (with_reducible repeat (first | refine blk_drewN ?_ _ | refine blk_drew ?_ | refine blk_alloc ?_ _)); refine blk_far ?_ NB204_210.out _; exact pkK BK204.out⟩
  have n2_ : Aside0 ((w20.setCell ⟨gb210, 1, none⟩ (.slice Ao21 t212.length co21)).heap[gb205]? = some (.cells #[.int .i64 0, .slice none 0 0] 29 (0, 0))) := ⟨by (with_reducible repeat (first | refine blk_drewN ?_ _ | refine blk_drew ?_ | refine blk_alloc ?_ _)); refine blk_far ?_ NB205_210.out _; exact pkK BK205.out⟩
  have n3_ : Aside0 ((w20.setCell ⟨gb210, 1, none⟩ (.slice Ao21 t212.length co21)).heap[gb210]? = some (.cells #[.int .i64 t206, .slice Ao21 t212.length co21] 29 (0, 0))) := ⟨by (with_reducible repeat (first | refine blk_drewN ?_ _ | refine blk_drew ?_ | refine blk_alloc ?_ _)); refine blk_put (cs := #[.int .i64 t206, .slice Ao16 t207.length co16]) ?_ 1 _ rfl; exact pkK BK210.out⟩
  have n4_ : Aside0 (Below w.heap.size w (w20.setCell ⟨gb210, 1, none⟩ (.slice Ao21 t212.length co21))) := ⟨pkW HB.out⟩
  (try clear HO214); (try clear BK204); (try clear BK205); (try clear BK210); (try clear HB)
  generalize (w20.setCell ⟨gb210, 1, none⟩ (.slice Ao21 t212.length co21)) = w23 at n0_ n1_ n2_ n3_ n4_ ⊢
  have HO214 := n0_; have BK204 := n1_; have BK205 := n2_; have BK210 := n3_; have HB := n4_
  clear n0_ n1_ n2_ n3_ n4_
  replace HO214 := am (Kd.R_drew HO214.out)
  replace BK204 := am (blk_drew BK204.out)
  replace BK205 := am (blk_drew BK205.out)
  replace BK210 := am (blk_drew BK210.out)
  replace HB := am (below_drew1 HB.out)
  refine start_ (n := 10) (S := fun w' => w'.cell? ⟨gb210, 0, none⟩ = some (.int .i64 t206) ∧ w'.cell? ⟨gb210, 1, none⟩ = some (.slice Ao21 t212.length co21) ∧ w'.cell? ⟨gb204, 0, none⟩ = some (.int .i64 a0_0) ∧ w'.cell? ⟨gb204, 1, none⟩ = some (.slice A0_1 l0_1.length c0_1)) (ds := []) #[false, false, false, false, false, false, false, false, false, false] (by kernel_rfl) rfl rfl ⟨(blk_cell BK210.out 0).trans rfl, (blk_cell BK210.out 1).trans rfl, (blk_cell BK204.out 0).trans rfl, (blk_cell BK204.out 1).trans rfl⟩ (fun hHeld => ?_); refine with_tabW impl_StopTimer.tab5 impl_StopTimer.bits5 (fun HT_ HW_ => ?_)
  generalize w23.drew = w24 at HO214 BK204 BK205 BK210 HB hHeld ⊢
  refine pure_ (i := 1) (N := some 19) (v := ?_) (a' := ?_) #[false, true, false, false, false, false, false, false, false, false] rfl rfl (any_of HT_.out (by kernel_rfl)) (fun _ _ _ h => h) (Or.inl ⟨by rfl, ?_⟩) ?_ ?_
  rotate_left
  ·intro w'
   go_simp
   with_reducible rfl
  rotate_left
  ·simp only [Act.put, List.setIfInBounds_toArray, List.set_cons_zero, List.set_cons_succ, i64_w, i32_w]
   rfl
  refine pure_ (i := 4) (N := some 22) (v := ?_) (a' := ?_) #[false, true, false, false, true, false, false, false, false, false] rfl rfl (any_of HT_.out (by kernel_rfl)) (fun _ _ _ h => h) (Or.inl ⟨by rfl, ?_⟩) ?_ ?_
  rotate_left
  ·intro w'
   go_simp
   with_reducible rfl
  rotate_left
  ·simp only [Act.put, List.setIfInBounds_toArray, List.set_cons_zero, List.set_cons_succ, i64_w, i32_w]
   rfl
  refine take_ (i := 0) (N := some 18) (v := ?_) (a' := ?_) #[true, true, false, false, true, false, false, false, false, false] rfl rfl (take_ofW HT_.out HW_.out (by kernel_rfl)) (fun _ _ _ h => h) (Or.inl ⟨by rfl, ?_⟩) hHeld ?_ ?_
  rotate_left
  ·rintro w' ⟨s0, s1, s2, s3⟩
   go_simp
   with_reducible rfl
  rotate_left
  ·simp only [Act.put, List.setIfInBounds_toArray, List.set_cons_zero, List.set_cons_succ, i64_w, i32_w]
   rfl
  refine take_ (i := 2) (N := some 20) (v := ?_) (a' := ?_) #[true, true, true, false, true, false, false, false, false, false] rfl rfl (take_ofW HT_.out HW_.out (by kernel_rfl)) (fun _ _ _ h => h) (Or.inl ⟨by rfl, ?_⟩) hHeld ?_ ?_
  rotate_left
  ·rintro w' ⟨s0, s1, s2, s3⟩
   go_simp
   with_reducible rfl
  rotate_left
  ·simp only [Act.put, List.setIfInBounds_toArray, List.set_cons_zero, List.set_cons_succ, i64_w, i32_w]
   rfl
  refine pure_ (i := 3) (N := some 21) (v := ?_) (a' := ?_) #[true, true, true, true, true, false, false, false, false, false] rfl rfl (any_of HT_.out (by kernel_rfl)) (fun _ _ _ h => h) (Or.inl ⟨by rfl, ?_⟩) ?_ ?_
  rotate_left
  ·intro w'
   go_simp
   with_reducible rfl
  rotate_left
  ·simp only [Act.put, List.setIfInBounds_toArray, List.set_cons_zero, List.set_cons_succ, i64_w, i32_w]
   rfl
  refine take_ (i := 5) (N := some 23) (v := ?_) (a' := ?_) #[true, true, true, true, true, true, false, false, false, false] rfl rfl (take_ofW HT_.out HW_.out (by kernel_rfl)) (fun _ _ _ h => h) (Or.inl ⟨by rfl, ?_⟩) hHeld ?_ ?_
  rotate_left
  ·rintro w' ⟨s0, s1, s2, s3⟩
   go_simp
   with_reducible rfl
  rotate_left
  ·simp only [Act.put, List.setIfInBounds_toArray, List.set_cons_zero, List.set_cons_succ, i64_w, i32_w]
   rfl
  refine pure_ (i := 6) (N := some 24) (v := ?_) (a' := ?_) #[true, true, true, true, true, true, true, false, false, false] rfl rfl (any_of HT_.out (by kernel_rfl)) (fun _ _ _ h => h) (Or.inl ⟨by rfl, ?_⟩) ?_ ?_
  rotate_left
  ·intro w'
   go_simp
   with_reducible rfl
  rotate_left
  ·simp only [Act.put, List.setIfInBounds_toArray, List.set_cons_zero, List.set_cons_succ, i64_w, i32_w]
   rfl
  refine pure_ (i := 7) (N := some 25) (v := ?_) (a' := ?_) #[true, true, true, true, true, true, true, true, false, false] rfl rfl (any_of HT_.out (by kernel_rfl)) (fun _ _ _ h => h) (Or.inl ⟨by rfl, ?_⟩) ?_ ?_
  rotate_left
  ·intro w'
   go_simp
   with_reducible rfl
  rotate_left
  ·simp only [Act.put, List.setIfInBounds_toArray, List.set_cons_zero, List.set_cons_succ, i64_w, i32_w]
   rfl
  refine one_ (i := 8) (N := none) #[true, true, true, true, true, true, true, true, true, false] rfl rfl (one_of HT_.out (by kernel_rfl)) (by decide) (fun K hK => ?_)
  have hs25 : w24.cell? ⟨gb205, 0, none⟩ = some (.int .i64 0) := (blk_cell BK205.out 0).trans rfl
  have hfs25 := blk_frozen BK205.out 0
  have hns25_0 := NB204_205.out
  have hns25_2 := NB210_205.out
  have hms25_0 := NB205_204.out
  have hms25_2 := NB205_210.out
  have hs26 : w24.cell? ⟨gb205, 1, none⟩ = some (.slice none 0 0) := (blk_cell BK205.out 1).trans rfl
  have hfs26 := blk_frozen BK205.out 1
  have hns26_0 := NB204_205.out
  have hns26_2 := NB210_205.out
  have hms26_0 := NB205_204.out
  have hms26_2 := NB205_210.out
  refine skip_ (w1 := ?_) (by rfl) rfl ?_ ?_
  rotate_left
  ·go_simp
   rfl
  refine hK.out _ _ ⟨((cell_far (p := ⟨gb205, _, none⟩) NB210_205.out _).trans (((cell_far (p := ⟨gb205, _, none⟩) NB210_205.out _).trans (hHeld.1)))), ((cell_far (p := ⟨gb205, _, none⟩) NB210_205.out _).trans (((cell_far (p := ⟨gb205, _, none⟩) NB210_205.out _).trans (hHeld.2.1)))), ((cell_far (p := ⟨gb205, _, none⟩) NB204_205.out _).trans (((cell_far (p := ⟨gb205, _, none⟩) NB204_205.out _).trans (hHeld.2.2.1)))), ((cell_far (p := ⟨gb205, _, none⟩) NB204_205.out _).trans (((cell_far (p := ⟨gb205, _, none⟩) NB204_205.out _).trans (hHeld.2.2.2))))⟩ (fun hHeld => ?_)
  clear hK K
  refine pure_ (i := 9) (N := some 5) (v := ?_) (a' := ?_) #[true, true, true, true, true, true, true, true, true, true] rfl rfl (any_of HT_.out (by kernel_rfl)) (fun _ _ _ h => h) (Or.inl ⟨by rfl, ?_⟩) ?_ ?_
  rotate_left
  ·intro w'
   go_simp
   with_reducible rfl
  rotate_left
  ·simp only [Act.put, List.setIfInBounds_toArray, List.set_cons_zero, List.set_cons_succ, i64_w, i32_w]
   rfl
  refine done_ (done_of HT_.out (by kernel_rfl)) ?_
  try go_wp2
  refine bodyPost_ret (results_ct rfl _ _ gb205 29 #[.int .i64 t206, .slice Ao21 t212.length co21] (0, 0) _ rfl (by (with_reducible repeat (first | refine blk_drewN ?_ _ | refine blk_drew ?_ | refine blk_alloc ?_ _)); refine blk_put (cs := #[.int .i64 t206, .slice none 0 0]) ?_ 1 _ rfl; (with_reducible repeat (first | refine blk_drewN ?_ _ | refine blk_drew ?_ | refine blk_alloc ?_ _)); refine blk_put (cs := #[.int .i64 0, .slice none 0 0]) ?_ 0 _ rfl; exact pkK BK205.out) Try.underlying29 rfl (by kernel_rfl)) rfl ?_
  exact ⟨_, rfe, by (with_reducible repeat (first | apply Kd.R_alloc | apply Kd.R_drewN | apply Kd.R_drew)); exact Kd.R_mono (Kd.R_far (p := ⟨gb205, 1, none⟩) (Kd.R_far (p := ⟨gb205, 0, none⟩) (Kd.R_types HO214.out BK205.out (by decide)) (fun _ hk => hk.2) (.int .i64 t206)) (fun _ hk => hk.2) (.slice Ao21 t212.length co21)) (fun _ hk => trivial), pkW HB.out⟩
 ·replace c5 := Bool.eq_false_iff.mpr c5
  subst c5
  replace H : (some (t206, t207, 0)) = some (r1, r2, r3) := by rw [if_neg (show ¬ (false = true) by decide)] at H; exact H
  simp only [Option.some.injEq, Prod.mk.injEq] at H
  obtain ⟨rfl, rfl, rfl⟩ := H
  go_enter Try.func15, Try.ntmps15
  go_wp2_with (first | ((with_reducible refine gate_dst (N := 2) rfl ?_); refine box_event ?hg (N := 2) ?hd (cs := #[.int .i64 a0_0, .slice A0_1 l0_1.length c0_1]) (t := 29) ?hr ?_; (case hd => rfl); (case hg => rfl); (case hr => first | (go_simp; done) | (go_simp; rfl)); intro gb204 hg w27 hbox hb; have BK204 := am (hbox); have GW204 := am ((by rw [hg]; exact (below_size (pkB HB.out)) : w.heap.size ≤ gb204)); have GE204 := am ((by rw [hg]; exact (below_size (pkB HB.out)) : w.heap.size ≤ gb204)); replace HB := am (below_step (pkB HB.out) hb); clear hb hbox hg) | ((with_reducible refine gate_dst (N := 4) rfl ?_); refine box_event ?hg (N := 4) ?hd (cs := #[.int .i64 0, .slice none 0 0]) (t := 29) ?hr ?_; (case hd => rfl); (case hg => rfl); (case hr => first | (go_simp; done) | (go_simp; rfl)); intro gb205 hg w28 hbox hb; have BK205 := am (hbox); have GW205 := am ((by rw [hg]; exact (below_size (pkW HB.out)) : w.heap.size ≤ gb205)); have GE205 := am ((by rw [hg]; exact (below_size (pkW HB.out)) : w.heap.size ≤ gb205)); replace HB := am (below_step (pkW HB.out) hb); have NB204_205 := am ((by rw [hg]; exact Nat.ne_of_lt (blk_lt (g := gb204) (o := .cells #[.int .i64 a0_0, .slice A0_1 l0_1.length c0_1] 29 (0, 0)) (pkK BK204.out)) : gb204 ≠ gb205)); have NB205_204 := am ((by rw [hg]; exact Nat.ne_of_gt (blk_lt (g := gb204) (o := .cells #[.int .i64 a0_0, .slice A0_1 l0_1.length c0_1] 29 (0, 0)) (pkK BK204.out)) : gb205 ≠ gb204)); replace BK204 := am (blk_below (pkK BK204.out) hb); clear hb hbox hg; have hnb29 := NB204_205.out; have hnc29 := NB205_204.out; obtain ⟨hcz30_0, hcz30_1, hfz30_0, hfz30_1⟩ := bk2 BK204.out) | ((with_reducible refine gate_callee (f := 38) rfl ?_); refine goesL_ (some 8) rfl rfl Try.func38 (by kernel_rfl) rfl #[.agg #[.int .i64 a0_0, .slice A0_1 l0_1.length c0_1]] rfl mpx ?_; (with_reducible refine (impl_copyClock.calls a0_0 _ _ l0_1 t206 t207 _ ?side1 ?side2 A3.out).mono ?_); (case side1 => exact pkC (Kd.C_below HR0_1.out HB.out)); (case side2 => exact HC0_1.out); rintro e w31 ⟨v208, rfl, ho0, hb⟩; refine ⟨_, rfl, ?_⟩; have HO209 := am (Kd.R_lower ho0 (below_size (pkW HB.out))); replace BK204 := am (blk_below (pkK BK204.out) hb); replace BK205 := am (blk_below (pkK BK205.out) hb); replace HB := am (below_step (pkW HB.out) hb); (try clear hb ho0)) | ((with_reducible refine gate_dst (N := 6) rfl ?_); refine box_event ?hg (N := 6) ?hd (cs := #[.int .i64 0, .slice none 0 0]) (t := 29) ?hr ?_; (case hd => rfl); (case hg => rfl); (case hr => first | (go_simp; done) | (go_simp; rfl)); intro gb210 hg w32 hbox hb; replace HO209 := am (Kd.R_below (pkR HO209.out) hb); have BK210 := am (hbox); have GW210 := am ((by rw [hg]; exact (below_size (pkW HB.out)) : w.heap.size ≤ gb210)); have GE210 := am ((by rw [hg]; exact (below_size (pkW HB.out)) : w.heap.size ≤ gb210)); replace HB := am (below_step (pkW HB.out) hb); have NB204_210 := am ((by rw [hg]; exact Nat.ne_of_lt (blk_lt (g := gb204) (o := .cells #[.int .i64 a0_0, .slice A0_1 l0_1.length c0_1] 29 (0, 0)) (pkK BK204.out)) : gb204 ≠ gb210)); have NB210_204 := am ((by rw [hg]; exact Nat.ne_of_gt (blk_lt (g := gb204) (o := .cells #[.int .i64 a0_0, .slice A0_1 l0_1.length c0_1] 29 (0, 0)) (pkK BK204.out)) : gb210 ≠ gb204)); replace BK204 := am (blk_below (pkK BK204.out) hb); have NB205_210 := am ((by rw [hg]; exact Nat.ne_of_lt (blk_lt (g := gb205) (o := .cells #[.int .i64 0, .slice none 0 0] 29 (0, 0)) (pkK BK205.out)) : gb205 ≠ gb210)); have NB210_205 := am ((by rw [hg]; exact Nat.ne_of_gt (blk_lt (g := gb205) (o := .cells #[.int .i64 0, .slice none 0 0] 29 (0, 0)) (pkK BK205.out)) : gb210 ≠ gb205)); replace BK205 := am (blk_below (pkK BK205.out) hb); clear hb hbox hg; have hnb33 := NB210_204.out; have hnc33 := NB204_210.out; have hnb34 := NB210_205.out; have hnc34 := NB205_210.out; obtain ⟨hcz35_0, hcz35_1, hfz35_0, hfz35_1⟩ := bk2 BK210.out; obtain ⟨Ao36, co36, eo36⟩ := Kd.R_slice HO209.out; subst eo36; obtain ⟨hcz37_0, hcz37_1, hfz37_0, hfz37_1⟩ := bk2 BK204.out) | ((with_reducible refine gate_callee (f := 12) rfl ?_); refine goesL_ (some 10) rfl rfl Try.func12 (by kernel_rfl) rfl #[.agg #[.int .i64 a0_0, .slice A0_1 l0_1.length c0_1]] rfl mpx ?_; (with_reducible refine (impl_ClockOk.calls k a0_0 _ _ l0_1 false _ ?side1 ?side2 A4.out).mono ?_); (case side1 => exact Kd.C_below HR0_1.out (pkW HB.out)); (case side2 => exact HC0_1.out); rintro e w38 ⟨rfl, hb⟩; refine ⟨_, rfl, ?_⟩; replace HO209 := am (Kd.R_below (by (with_reducible repeat (first | apply Kd.R_alloc | apply Kd.R_drewN | apply Kd.R_drew)); exact (Kd.R_mono (Kd.R_far (p := ⟨gb210, 1, none⟩) (Kd.R_far (p := ⟨gb210, 0, none⟩) (Kd.R_types HO209.out BK210.out (by decide)) (fun _ hk => hk.2) (.int .i64 t206)) (fun _ hk => hk.2) (.slice Ao36 t207.length co36)) (fun _ h_ => h_.1))) hb); replace BK204 := am (blk_below (g := gb204) (o := .cells #[.int .i64 a0_0, .slice A0_1 l0_1.length c0_1] 29 (0, 0)) (by (with_reducible repeat (first | refine blk_drewN ?_ _ | refine blk_drew ?_ | refine blk_alloc ?_ _)); refine blk_far ?_ NB204_210.out _; (with_reducible repeat (first | refine blk_drewN ?_ _ | refine blk_drew ?_ | refine blk_alloc ?_ _)); refine blk_far ?_ NB204_210.out _; exact pkK BK204.out) hb); replace BK205 := am (blk_below (g := gb205) (o := .cells #[.int .i64 0, .slice none 0 0] 29 (0, 0)) (by (with_reducible repeat (first | refine blk_drewN ?_ _ | refine blk_drew ?_ | refine blk_alloc ?_ _)); refine blk_far ?_ NB205_210.out _; (with_reducible repeat (first | refine blk_drewN ?_ _ | refine blk_drew ?_ | refine blk_alloc ?_ _)); refine blk_far ?_ NB205_210.out _; exact pkK BK205.out) hb); replace BK210 := am (blk_below (g := gb210) (o := .cells #[.int .i64 t206, .slice Ao36 t207.length co36] 29 (0, 0)) (by (with_reducible repeat (first | refine blk_drewN ?_ _ | refine blk_drew ?_ | refine blk_alloc ?_ _)); refine blk_put (cs := #[.int .i64 t206, .slice none 0 0]) ?_ 1 _ rfl; (with_reducible repeat (first | refine blk_drewN ?_ _ | refine blk_drew ?_ | refine blk_alloc ?_ _)); refine blk_put (cs := #[.int .i64 0, .slice none 0 0]) ?_ 0 _ rfl; exact pkK BK210.out) hb); replace HB := am (below_step (pkW HB.out) hb); (try clear hb); obtain ⟨hcz39_0, hcz39_1, hfz39_0, hfz39_1⟩ := bk2 BK210.out; obtain ⟨hcz40_0, hcz40_1, hfz40_0, hfz40_1⟩ := bk2 BK205.out))
  refine bodyPost_ret (results_ct rfl _ _ gb205 29 #[.int .i64 t206, .slice Ao36 t207.length co36] (0, 0) _ rfl (by (with_reducible repeat (first | refine blk_drewN ?_ _ | refine blk_drew ?_ | refine blk_alloc ?_ _)); refine blk_put (cs := #[.int .i64 t206, .slice none 0 0]) ?_ 1 _ rfl; (with_reducible repeat (first | refine blk_drewN ?_ _ | refine blk_drew ?_ | refine blk_alloc ?_ _)); refine blk_put (cs := #[.int .i64 0, .slice none 0 0]) ?_ 0 _ rfl; exact pkK BK205.out) Try.underlying29 rfl (by kernel_rfl)) rfl ?_
  exact ⟨_, rfe, by (with_reducible repeat (first | apply Kd.R_alloc | apply Kd.R_drewN | apply Kd.R_drew)); exact Kd.R_mono (Kd.R_far (p := ⟨gb205, 1, none⟩) (Kd.R_far (p := ⟨gb205, 0, none⟩) (Kd.R_types HO209.out BK205.out (by decide)) (fun _ hk => hk.2) (.int .i64 t206)) (fun _ hk => hk.2) (.slice Ao36 t207.length co36)) (fun _ hk => trivial), pkW HB.out⟩
end Go.Proofs.Ytfgjfheiekhmlaa.Z
