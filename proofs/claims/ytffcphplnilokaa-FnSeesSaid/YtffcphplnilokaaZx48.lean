/- The Go functions laws_FnSees as Lean functions, each with a proof that its code comes to just these answers; conditions: those of each theorem. -/
import Derived.Test.YtffcphplnilokaaZx0
import Derived.Test.YtffcphplnilokaaZx1
import Derived.Test.YtffcphplnilokaaZx10
import Derived.Test.YtffcphplnilokaaZx13
import Derived.Test.YtffcphplnilokaaZx14
import Derived.Test.YtffcphplnilokaaZx15
import Derived.Test.YtffcphplnilokaaZx20
namespace Go.Proofs.Ytffcphplnilokaa.Z
open Go.RowKit Go.Proofs.YtffcphplnilokaaW.PrintWords Go.Proofs.YtffcphplnilokaaW.PrintLast Go.Proofs.YtffcphplnilokaaW.PrintMore
attribute [local go_sem] max2_int min2_int max_two min_two max_three min_three max_four min_four   -- for this text's walks alone
set_option linter.unusedVariables false
set_option linter.unusedSimpArgs false
theorem fa3x48 {w : World} {g b : Nat} {t : TypeId} {cs : Array Value} {o0 o1 o2 : Nat} {u0 u1 u2 : Value} (h : w.heap[g]? = some (.cells cs t (0, 0))) (hp : g ≠ b) : (((w.setCell ⟨b, o0, none⟩ u0).setCell ⟨b, o1, none⟩ u1).setCell ⟨b, o2, none⟩ u2).heap[g]? = some (.cells cs t (0, 0)) := (blk_far (blk_far (blk_far h hp u0) hp u1) hp u2)
theorem fa7x48 {w : World} {g b : Nat} {t : TypeId} {cs : Array Value} {o0 o1 o2 o3 o4 o5 o6 : Nat} {u0 u1 u2 u3 u4 u5 u6 : Value} (h : w.heap[g]? = some (.cells cs t (0, 0))) (hp : g ≠ b) : (((((((w.setCell ⟨b, o0, none⟩ u0).setCell ⟨b, o1, none⟩ u1).setCell ⟨b, o2, none⟩ u2).setCell ⟨b, o3, none⟩ u3).setCell ⟨b, o4, none⟩ u4).setCell ⟨b, o5, none⟩ u5).setCell ⟨b, o6, none⟩ u6).heap[g]? = some (.cells cs t (0, 0)) := (blk_far (blk_far (blk_far (blk_far (blk_far (blk_far (blk_far h hp u0) hp u1) hp u2) hp u3) hp u4) hp u5) hp u6)
theorem fR3x48 {α : Type} {d : Kd α} {e base g : Nat} {ok : Nat → Prop} {w : World} {v : Value} {xs : List α} {cells : Array Value} {t : Nat} {o0 o1 o2 : Nat} {u0 u1 u2 : Value} (h : d.R e w base ok v xs) (hb : w.heap[g]? = some (.cells cells t (0, 0))) (ht : ∀ q, q ∈ e :: d.E → q ≠ t) : d.R e (((w.setCell ⟨g, o0, none⟩ u0).setCell ⟨g, o1, none⟩ u1).setCell ⟨g, o2, none⟩ u2) base ok v xs := Kd.R_mono (Kd.R_far (p := ⟨g, o2, none⟩) (Kd.R_far (p := ⟨g, o1, none⟩) (Kd.R_far (p := ⟨g, o0, none⟩) (Kd.R_types h hb ht) (fun _ hk => hk.2) u0) (fun _ hk => hk.2) u1) (fun _ hk => hk.2) u2) (fun _ h_ => h_.1)
theorem fR7x48 {α : Type} {d : Kd α} {e base g : Nat} {ok : Nat → Prop} {w : World} {v : Value} {xs : List α} {cells : Array Value} {t : Nat} {o0 o1 o2 o3 o4 o5 o6 : Nat} {u0 u1 u2 u3 u4 u5 u6 : Value} (h : d.R e w base ok v xs) (hb : w.heap[g]? = some (.cells cells t (0, 0))) (ht : ∀ q, q ∈ e :: d.E → q ≠ t) : d.R e (((((((w.setCell ⟨g, o0, none⟩ u0).setCell ⟨g, o1, none⟩ u1).setCell ⟨g, o2, none⟩ u2).setCell ⟨g, o3, none⟩ u3).setCell ⟨g, o4, none⟩ u4).setCell ⟨g, o5, none⟩ u5).setCell ⟨g, o6, none⟩ u6) base ok v xs := Kd.R_mono (Kd.R_far (p := ⟨g, o6, none⟩) (Kd.R_far (p := ⟨g, o5, none⟩) (Kd.R_far (p := ⟨g, o4, none⟩) (Kd.R_far (p := ⟨g, o3, none⟩) (Kd.R_far (p := ⟨g, o2, none⟩) (Kd.R_far (p := ⟨g, o1, none⟩) (Kd.R_far (p := ⟨g, o0, none⟩) (Kd.R_types h hb ht) (fun _ hk => hk.2) u0) (fun _ hk => hk.2) u1) (fun _ hk => hk.2) u2) (fun _ hk => hk.2) u3) (fun _ hk => hk.2) u4) (fun _ hk => hk.2) u5) (fun _ hk => hk.2) u6) (fun _ h_ => h_.1)
theorem pt3x48 {w : World} {g : Nat} {t : TypeId} {c0 c1 c2 u0 u1 u2 : Value} (h : w.heap[g]? = some (.cells #[c0, c1, c2] t (0, 0))) : (((w.setCell ⟨g, 0, none⟩ u0).setCell ⟨g, 1, none⟩ u1).setCell ⟨g, 2, none⟩ u2).heap[g]? = some (.cells #[u0, u1, u2] t (0, 0)) := (blk_put (cs := #[u0, u1, c2]) (blk_put (cs := #[u0, c1, c2]) (blk_put (cs := #[c0, c1, c2]) h 0 u0 rfl) 1 u1 rfl) 2 u2 rfl)
theorem pt7x48 {w : World} {g : Nat} {t : TypeId} {c0 c1 c2 c3 c4 c5 c6 u0 u1 u2 u3 u4 u5 u6 : Value} (h : w.heap[g]? = some (.cells #[c0, c1, c2, c3, c4, c5, c6] t (0, 0))) : (((((((w.setCell ⟨g, 0, none⟩ u0).setCell ⟨g, 1, none⟩ u1).setCell ⟨g, 2, none⟩ u2).setCell ⟨g, 3, none⟩ u3).setCell ⟨g, 4, none⟩ u4).setCell ⟨g, 5, none⟩ u5).setCell ⟨g, 6, none⟩ u6).heap[g]? = some (.cells #[u0, u1, u2, u3, u4, u5, u6] t (0, 0)) := (blk_put (cs := #[u0, u1, u2, u3, u4, u5, c6]) (blk_put (cs := #[u0, u1, u2, u3, u4, c5, c6]) (blk_put (cs := #[u0, u1, u2, u3, c4, c5, c6]) (blk_put (cs := #[u0, u1, u2, c3, c4, c5, c6]) (blk_put (cs := #[u0, u1, c2, c3, c4, c5, c6]) (blk_put (cs := #[u0, c1, c2, c3, c4, c5, c6]) (blk_put (cs := #[c0, c1, c2, c3, c4, c5, c6]) h 0 u0 rfl) 1 u1 rfl) 2 u2 rfl) 3 u3 rfl) 4 u4 rfl) 5 u5 rfl) 6 u6 rfl)
def laws_FnSees.l0 : Nat → List Int → List Int → Int → Int → Bool → Int → Int → Int → ByteArray → Int → Bool → List Int → List Int → Option (Bool)
 | 0, _, _, _, _, _, _, _, _, _, _, _, _, _ => none
 | k + 1, x0, x4, x5, x6, x7, x8, x274000, x274001, x274002, x274003, x274004, x274005, x274006 => if x8 < 30 then ((laws_at.f x0 x8).bind fun t279 => (if (Int.tmod t279 2) = 0 then ((laws_at.f x0 (wrap64 (x8 + 31))).bind fun t280 => ((laws_num.f t280).bind fun bt281 => ((impl_Update.f k x274000 x274001 x274002 x274003 x274004 x274005 x274006 1 bt281.1 bt281.2.1 bt281.2.2).bind fun bt284 => (if bt284.2.2.2.2.2.2.2.2 = 0 then (if (x7 != ((bt284.2.2.2.2.2.2.2.1.length : Int) == 1)) = true then (if (x274006.length : Int) = 0 then (some false) else ((laws_at.f x0 (wrap64 (x8 + 31))).bind fun t300 => (if x4.length < 17592186044416 then (laws_FnSees.l0 k x0 (x4 ++ [t300]) x5 x6 x7 (wrap64 (x8 + 1)) bt284.1 bt284.2.1 bt284.2.2.1 bt284.2.2.2.1 bt284.2.2.2.2.1 bt284.2.2.2.2.2.1 bt284.2.2.2.2.2.2.1) else (none)))) else ((laws_at.f x0 (wrap64 (x8 + 31))).bind fun t304 => (if x4.length < 17592186044416 then (laws_FnSees.l0 k x0 (x4 ++ [t304]) x5 x6 x7 (wrap64 (x8 + 1)) bt284.1 bt284.2.1 bt284.2.2.1 bt284.2.2.2.1 bt284.2.2.2.2.1 bt284.2.2.2.2.2.1 bt284.2.2.2.2.2.2.1) else (none)))) else (some false))))) else (if x7 = true then ((impl_Seen.f k x274000 x274001 x274002 x274003 x274004 x274005 x274006 3).bind fun bt308 => (if bt308.2.2.2.2.2.2.2.2.2.2.2 = 4 then (if x274003 > x5 then (some false) else (laws_FnSees.l0 k x0 x4 x5 x6 x7 (wrap64 (x8 + 1)) x274000 x274001 x274002 x274003 x274004 x274005 x274006)) else (if bt308.2.2.2.2.2.2.2.2.2.2.2 = 0 then (if bt308.2.2.2.2.2.2.2.2.2.2.1 ≤ x5 then (some false) else (if bt308.2.2.2.2.2.2.2.2.2.2.1 ≥ (x4.length : Int) then (some false) else (if 0 ≤ bt308.2.2.2.2.2.2.2.2.2.2.1 then (if bt308.2.2.2.2.2.2.2.2.2.2.1 < (x4.length : Int) then (if bt308.2.2.2.2.2.2.2.2.1 = (rd x4 bt308.2.2.2.2.2.2.2.2.2.2.1) then (if bt308.2.2.2.2.2.2.2.2.2.2.1 ≤ x6 then (some false) else (laws_FnSees.l0 k x0 x4 bt308.2.2.2.2.2.2.2.2.2.2.1 bt308.2.2.2.2.2.2.2.2.2.2.1 false (wrap64 (x8 + 1)) bt308.1 bt308.2.1 bt308.2.2.1 bt308.2.2.2.1 bt308.2.2.2.2.1 bt308.2.2.2.2.2.1 bt308.2.2.2.2.2.2.1)) else (some false)) else (none)) else (none)))) else (some false)))) else ((impl_Watch.f k x274000 x274001 x274002 x274003 x274004 x274005 x274006 3 x5).bind fun bt327 => (if bt327.2.2.2.2.2.2.2 = 4 then (laws_FnSees.l0 k x0 x4 x5 x6 true (wrap64 (x8 + 1)) bt327.1 bt327.2.1 bt327.2.2.1 bt327.2.2.2.1 bt327.2.2.2.2.1 bt327.2.2.2.2.2.1 bt327.2.2.2.2.2.2.1) else ((impl_Look.f k bt327.1 bt327.2.1 bt327.2.2.1 bt327.2.2.2.1 bt327.2.2.2.2.1 bt327.2.2.2.2.2.1 bt327.2.2.2.2.2.2.1).bind fun bt340 => (if bt327.2.2.2.2.2.2.2 = 0 then (if bt340.2.2.2.2 = 0 then (if bt340.2.2.2.1 ≤ x5 then (some false) else (if 0 ≤ bt340.2.2.2.1 then (if bt340.2.2.2.1 < (x4.length : Int) then (if bt340.2.1 = (rd x4 bt340.2.2.2.1) then (laws_FnSees.l0 k x0 x4 bt340.2.2.2.1 bt340.2.2.2.1 x7 (wrap64 (x8 + 1)) bt327.1 bt327.2.1 bt327.2.2.1 bt327.2.2.2.1 bt327.2.2.2.2.1 bt327.2.2.2.2.2.1 bt327.2.2.2.2.2.2.1) else (some false)) else (none)) else (none))) else (some false)) else (some false)))))))) else (if x7 = true then (if (x274005.length : Int) = 1 then (some (x274003 == x5)) else (if x274003 = (wrap64 ((x4.length : Int) - 1)) then ((spec_CellOk.f k x274000 x274001 x274002 x274003 x274004 x274005 x274006).bind fun t277 => (some t277)) else (some false))) else (if x274003 = (wrap64 ((x4.length : Int) - 1)) then ((spec_CellOk.f k x274000 x274001 x274002 x274003 x274004 x274005 x274006).bind fun t278 => (some t278)) else (some false)))
def laws_FnSees.f (k : Nat) (l0 : List Int) : Option (Bool) := (laws_big.f l0).bind fun t269 => (if t269 = true then (some true) else ((laws_num.f 0).bind fun bt270 => (laws_FnSees.l0 k l0 (([0] : List Int)) 0 (-1) false 0 bt270.1 bt270.2.1 bt270.2.2 0 false ([] : List Int) ([] : List Int))))
theorem laws_FnSees.mono_l : ∀ k, (∀ y0 y1 y2 y3 y4 y5 y6 y7 y8 y9 y10 y11 y12, LeO (laws_FnSees.l0 k y0 y1 y2 y3 y4 y5 y6 y7 y8 y9 y10 y11 y12) (laws_FnSees.l0 (k + 1) y0 y1 y2 y3 y4 y5 y6 y7 y8 y9 y10 y11 y12))
 | 0 => fun _ _ _ _ _ _ _ _ _ _ _ _ _ r h => by simp [laws_FnSees.l0] at h
 | k + 1 => by
  have ih0 := laws_FnSees.mono_l k
  ·intro y0 y1 y2 y3 y4 y5 y6 y7 y8 y9 y10 y11 y12
   unfold laws_FnSees.l0
   repeat' first
   | (with_reducible exact ih0 _ _ _ _ _ _ _ _ _ _ _ _ _)
   | (with_reducible exact impl_Look.mono _ _ _ _ _ _ _ _)
   | (with_reducible exact impl_Seen.mono _ _ _ _ _ _ _ _ _)
   | (with_reducible exact impl_Update.mono _ _ _ _ _ _ _ _ _ _ _ _)
   | (with_reducible exact impl_Watch.mono _ _ _ _ _ _ _ _ _ _)
   | (with_reducible exact spec_CellOk.mono _ _ _ _ _ _ _ _)
   | (with_reducible exact LeO.refl _)
   | (with_reducible exact LeO.none _)
   | (with_reducible refine LeO.ite ?_ ?_)
   | (with_reducible refine LeO.bind ?_ (fun _ => ?_))
theorem laws_FnSees.mono : ∀ a0 k, LeO (laws_FnSees.f k a0) (laws_FnSees.f (k + 1) a0) := by
 intro a0 k
 have ih0 := laws_FnSees.mono_l k
 unfold laws_FnSees.f
 repeat' first
   | (with_reducible exact ih0 _ _ _ _ _ _ _ _ _ _ _ _ _)
   | (with_reducible exact impl_Look.mono _ _ _ _ _ _ _ _)
   | (with_reducible exact impl_Seen.mono _ _ _ _ _ _ _ _ _)
   | (with_reducible exact impl_Update.mono _ _ _ _ _ _ _ _ _ _ _ _)
   | (with_reducible exact impl_Watch.mono _ _ _ _ _ _ _ _ _ _)
   | (with_reducible exact spec_CellOk.mono _ _ _ _ _ _ _ _)
   | (with_reducible exact LeO.refl _)
   | (with_reducible exact LeO.none _)
   | (with_reducible refine LeO.ite ?_ ?_)
   | (with_reducible refine LeO.bind ?_ (fun _ => ?_))
def laws_FnSees.T10 : Bool × List (List Nat × List Nat) := (true, [([], []), ([], []), ([], []), ([2], [2]), ([1, 3], [1, 3]), ([4, 4], [4]), ([5], [5]), ([0, 6, 5], [0, 6]), ([7], [7]), ([8], [8]), ([8], [8]), ([8], [8]), ([], []), ([12, 9, 7, 0, 1, 2, 3, 4, 5, 6, 7, 8, 9, 12], [9, 12]), ([10, 13, 0, 1, 2, 3, 4, 5, 6, 7, 8, 9, 10, 12, 13], [10]), ([11, 14, 0, 1, 2, 3, 4, 5, 6, 7, 8, 9, 10, 11, 12, 13, 14], [11])])
def laws_FnSees.B10 : List Nat := [0, 0, 0, 4, 14, 30, 62, 127, 255, 511, 511, 511, 0, 5119, 14335, 32767]
theorem laws_FnSees.tab10 : rtab .any (opsOf Try.f3 10) = laws_FnSees.T10 := by kernel_rfl
theorem laws_FnSees.bits10 : waitsOk laws_FnSees.T10.2 laws_FnSees.B10 = true := by kernel_rfl
def laws_FnSees.T20 : Bool × List (List Nat × List Nat) := (true, [([], []), ([0], [0]), ([1], [1]), ([2], [2]), ([2], [2]), ([3, 4, 2], [2, 3, 4]), ([2, 5], [2, 5]), ([6, 2], [6]), ([7], [7]), ([7], [7]), ([9, 7], [7, 9]), ([8, 10, 7], [7, 8, 10]), ([7, 11], [7, 11]), ([12, 7], [12]), ([13], [13]), ([14, 13], [13, 14]), ([13], [13]), ([13], [13]), ([16, 17, 13], [13, 16, 17]), ([18, 13], [13, 18]), ([15, 19, 13], [13, 15, 19]), ([13, 20], [13, 20]), ([21, 13], [21]), ([22], [22]), ([22], [22]), ([23, 24, 22], [22, 23, 24]), ([22, 25], [22, 25])])
def laws_FnSees.B20 : List Nat := [0, 1, 3, 7, 7, 31, 63, 127, 255, 255, 767, 2047, 4095, 8191, 16383, 32767, 16383, 16383, 212991, 475135, 1048575, 2097151, 4194303, 8388607, 8388607, 33554431, 67108863]
theorem laws_FnSees.tab20 : rtab .any (opsOf Try.f3 20) = laws_FnSees.T20 := by kernel_rfl
theorem laws_FnSees.bits20 : waitsOk laws_FnSees.T20.2 laws_FnSees.B20 = true := by kernel_rfl
def laws_FnSees.T29 : Bool × List (List Nat × List Nat) := (true, [([], []), ([0], [0]), ([1], [1]), ([2], [2]), ([3, 2], [2, 3]), ([2, 4], [2, 4]), ([5, 2], [5]), ([6], [6]), ([6], [6]), ([7, 8, 6], [6, 7, 8]), ([6, 9], [6, 9]), ([10, 6], [10]), ([11], [11]), ([12, 11], [11, 12]), ([11], [11]), ([11], [11]), ([14, 15, 11], [11, 14, 15]), ([16, 11], [11, 16]), ([13, 17, 11], [11, 13, 17]), ([11, 18], [11, 18])])
def laws_FnSees.B29 : List Nat := [0, 1, 3, 7, 15, 31, 63, 127, 127, 511, 1023, 2047, 4095, 8191, 4095, 4095, 53247, 118783, 262143, 524287]
theorem laws_FnSees.tab29 : rtab .any (opsOf Try.f3 29) = laws_FnSees.T29 := by kernel_rfl
theorem laws_FnSees.bits29 : waitsOk laws_FnSees.T29.2 laws_FnSees.B29 = true := by kernel_rfl
set_option maxHeartbeats 8000000 in
set_option maxRecDepth 100000 in
theorem laws_FnSees.calls (k : Nat) (A0 : Option Addr) (c0 : Nat) (l0 : List Int) (r : Bool) (w : World) (hr0 : Kd.C (Kd.int .u8) w A0 l0.length l0) (hc0 : l0.length ≤ c0) (HQ_ : Aside0 (r = true)) (h : laws_FnSees.f k l0 = some r) :
  Calls Try.prog 3 #[.slice A0 l0.length c0] w fun e w' => e = .returned (.bool r) ∧ Below w.heap.size w w' := by
 have hu29 := Try.underlying29
 have hu34 := Try.underlying34
 have hu25 := Try.underlying25
 have HR0 := am hr0
 have HC0 := am hc0
 clear hr0 hc0
 have HB := am (Below.refl w.heap.size w)
 have H : ((laws_big.f l0).bind fun t269 => (if t269 = true then (some true) else ((laws_num.f 0).bind fun bt270 => (laws_FnSees.l0 k l0 (([0] : List Int)) 0 (-1) false 0 bt270.1 bt270.2.1 bt270.2.2 0 false ([] : List Int) ([] : List Int))))) = some r := h
 clear h
 replace H := Option.bind_eq_some_iff.mp H
 obtain ⟨t269, A20, H⟩ := H
 replace H : (if t269 = true then (some true) else ((laws_num.f 0).bind fun bt270 => (laws_FnSees.l0 k l0 (([0] : List Int)) 0 (-1) false 0 bt270.1 bt270.2.1 bt270.2.2 0 false ([] : List Int) ([] : List Int)))) = some r := H
 have A2 := am A20
 clear A20
 by_cases c3 : t269 = true
 ·subst c3
  replace H : (some true) = some r := by rw [if_pos rfl] at H; exact H
  obtain rfl := Option.some.inj H
  go_enter Try.func3, Try.ntmps3
  go_wp2_with (first | ((with_reducible refine gate_callee (f := 15) rfl ?_); refine goesL_ (some 22) rfl rfl Try.func15 (by kernel_rfl) rfl #[.slice A0 l0.length c0] rfl mpx ?_; (with_reducible refine (laws_big.calls _ _ l0 true _ ?side1 ?side2 A2.out).mono ?_); (case side1 => exact pkC HR0.out); (case side2 => exact HC0.out); rintro e w' ⟨rfl, nd, rfl⟩; refine ⟨_, rfl, ?_⟩))
  go_ret
  exact ⟨rfe, pkB HB.out⟩
 ·replace c3 := Bool.eq_false_iff.mpr c3
  subst c3
  replace H : ((laws_num.f 0).bind fun bt270 => (laws_FnSees.l0 k l0 (([0] : List Int)) 0 (-1) false 0 bt270.1 bt270.2.1 bt270.2.2 0 false ([] : List Int) ([] : List Int))) = some r := by rw [if_neg (show ¬ (false = true) by decide)] at H; exact H
  replace H := Option.bind_eq_some_iff.mp H
  obtain ⟨⟨t270, t271, t272⟩, A40, H⟩ := H
  replace H : (laws_FnSees.l0 k l0 (([0] : List Int)) 0 (-1) false 0 t270 t271 t272 0 false ([] : List Int) ([] : List Int)) = some r := H
  have A4 := am A40
  clear A40
  obtain ⟨y274, hy274⟩ : ∃ y_ : List Int, y_ = (([0] : List Int)) := ⟨_, rfl⟩
  replace H : (laws_FnSees.l0 k l0 y274 0 (-1) false 0 t270 t271 t272 0 false ([] : List Int) ([] : List Int)) = some r := by first | (rw [hy274]; with_reducible exact H) | (have H2_ := (Option.bind_some _ _).symm.trans H; rw [hy274]; with_reducible exact H2_) | (have H2_ := (Option.bind_some _ _).symm.trans H; with_reducible exact H2_) | with_reducible exact H | (rw [hy274]; exact H) | exact H
  have Ny274 := am hy274
  clear hy274
  have H' := am H
  clear H
  go_enter Try.func3, Try.ntmps3
  go_wp2_with (first | ((with_reducible refine gate_callee (f := 15) rfl ?_); refine goesL_ (some 22) rfl rfl Try.func15 (by kernel_rfl) rfl #[.slice A0 l0.length c0] rfl mpx ?_; (with_reducible refine (laws_big.calls _ _ l0 false _ ?side1 ?side2 A2.out).mono ?_); (case side1 => exact pkC HR0.out); (case side2 => exact HC0.out); rintro e w' ⟨rfl, nd, rfl⟩; refine ⟨_, rfl, ?_⟩) | ((with_reducible refine gate_callee (f := 16) rfl ?_); refine goesL_ (some 23) rfl rfl Try.func16 (by kernel_rfl) rfl #[.int .i64 0] rfl mpx ?_; (with_reducible refine (laws_num.calls 0 t270 t271 t272 _ A4.out).mono ?_); rintro e w5 ⟨rfl, hb⟩; refine ⟨_, rfl, ?_⟩; replace HB := am (below_step (pkB HB.out) hb); (try clear hb)) | ((with_reducible refine gate_dst (N := 3) rfl ?_); (try (refine gate_guard (by rfl) ?_; dsimp only)); refine box_event ?hg (N := 3) ?hd (cs := #[.int .i64 0, .int .i64 0, .string (⟨#[]⟩ : ByteArray), .int .i64 0, .bool false, .slice none 0 0, .slice none 0 0]) (t := 29) ?hr ?_; (case hd => rfl); (case hg => rfl); (case hr => first | (go_simp; done) | (go_simp; rfl)); intro gb273 hg w6 hbox hb; have BK273 := am (hbox); have GW273 := am ((by rw [hg]; exact (below_size (pkB HB.out)) : w.heap.size ≤ gb273)); have GE273 := am ((by rw [hg]; exact (below_size (pkB HB.out)) : w.heap.size ≤ gb273)); replace HB := am (below_step (pkB HB.out) hb); clear hb hbox hg; obtain ⟨hcz7_0, hcz7_1, hcz7_2, hcz7_3, hcz7_4, hcz7_5, hcz7_6, hfz7_0, hfz7_1, hfz7_2, hfz7_3, hfz7_4, hfz7_5, hfz7_6⟩ := bk7 BK273.out) | ((with_reducible refine gate_dst (N := 25) rfl ?_); (try (refine gate_guard (by rfl) ?_; dsimp only)); refine Kd.R_lit (Kd.int .i64) _ 3 ?hg (N := 25) ?hd (xs := ([0] : List Int)) (inner := [.int .i64 0]) (ok := fun _ => True) (okp := fun _ => True) ?hr ?hp (fun _ hk => hk) trivial (Below.refl _ _) (Nat.le_refl _) (by simp) ?_; (case hd => rfl); (case hg => rfl); (case hr => first | (go_simp; done) | (go_simp; rfl)); (case hp => exact (Reps.one (show Kd.M (Kd.int .i64) _ _ _ 0 [.int .i64 0] from rfl) (Reps.none _ _))); intro v275 w8 ho9 hb hg_ hnew_; clear hg_ hnew_; (first | rw [← Ny274.out] at ho9 | (simp only [Int.reduceToNat] at ho9; rw [← Ny274.out] at ho9)); have HO276 := am (Kd.R_lower ho9 (below_size (pkW HB.out))); replace BK273 := am (blk_below (g := gb273) (o := .cells #[.int .i64 t270, .int .i64 t271, .string t272, .int .i64 0, .bool false, .slice none 0 0, .slice none 0 0] 29 (0, 0)) (by (with_reducible repeat (first | refine blk_drewN ?_ _ | refine blk_drew ?_ | refine blk_alloc ?_ _)); exact (pt7x48 (pkK BK273.out))) hb); replace HB := bst HB hb; clear hb ho9))
  go_loopg [4, 5, 6, 7, 8] k (fun kq v4 v5 v6 v7 v8 w' => ∃ (x4_1 : List Int) (x5_1 : Int) (x6_1 : Int) (x7_1 : Bool) (x8_1 : Int) (x274000_1 : Int) (x274001_1 : Int) (x274002_1 : ByteArray) (x274003_1 : Int) (x274004_1 : Bool) (x274005_1 : List Int) (x274006_1 : List Int) (u274005 : Value) (u274006 : Value), v5 = .int .i64 x5_1 ∧ v6 = .int .i64 x6_1 ∧ v7 = .bool x7_1 ∧ v8 = .int .i64 x8_1 ∧ Aside0 (laws_FnSees.l0 kq l0 x4_1 x5_1 x6_1 x7_1 x8_1 x274000_1 x274001_1 x274002_1 x274003_1 x274004_1 x274005_1 x274006_1 = some r) ∧ Aside0 (kq ≤ k) ∧ Aside0 (Kd.R (Kd.int .i64) 3 w' w.heap.size (fun k_ => some k_ ≠ (u274005 : Value).ownBlock ∧ some k_ ≠ (u274006 : Value).ownBlock) v4 x4_1) ∧ Aside0 (Kd.R (Kd.int .i64) 3 w' w.heap.size (fun k_ => some k_ ≠ (v4 : Value).ownBlock ∧ some k_ ≠ (u274006 : Value).ownBlock) u274005 x274005_1) ∧ Aside0 (Kd.R (Kd.int .i64) 3 w' w.heap.size (fun k_ => some k_ ≠ (v4 : Value).ownBlock ∧ some k_ ≠ (u274005 : Value).ownBlock) u274006 x274006_1) ∧ Aside0 (w'.heap[gb273]? = some (.cells #[.int .i64 x274000_1, .int .i64 x274001_1, .string x274002_1, .int .i64 x274003_1, .bool x274004_1, u274005, u274006] 29 (0, 0))) ∧ Aside0 (Below w.heap.size w w'))
  case atStart => exact ⟨(y274), (0), ((-1)), (false), (0), (t270), (t271), (t272), (0), (false), (([] : List Int)), (([] : List Int)), (.slice none 0 0), (.slice none 0 0), rfx, rfx, rfx, rfx, H', ⟨Nat.le_refl _⟩, ⟨by (with_reducible repeat (first | apply Kd.R_alloc | apply Kd.R_drewN | apply Kd.R_drew)); exact Kd.R_mono HO276.out (fun _ hk => ⟨(by simp [Value.ownBlock]), (by simp [Value.ownBlock])⟩)⟩, ⟨by first | exact Kd.R_nil _ _ _ _ _ | exact Kd.N_nil _ _ _ _ _ | exact Kd.V_nil _ _ _ _ _ | exact Kd.Q_nil _ _ _ _ _ | exact Kd.S_nil _ _ _ _ _⟩, ⟨by first | exact Kd.R_nil _ _ _ _ _ | exact Kd.N_nil _ _ _ _ _ | exact Kd.V_nil _ _ _ _ _ | exact Kd.Q_nil _ _ _ _ _ | exact Kd.S_nil _ _ _ _ _⟩, ⟨pkK BK273.out⟩, ⟨pkW HB.out⟩⟩
  case round =>
   clear H'
   try clear c1
   try clear p2
   try clear c3
   try clear hcz7_0
   try clear hcz7_1
   try clear hcz7_2
   try clear hcz7_3
   try clear hcz7_4
   try clear hcz7_5
   try clear hcz7_6
   try clear hfz7_0
   try clear hfz7_1
   try clear hfz7_2
   try clear hfz7_3
   try clear hfz7_4
   try clear hfz7_5
   try clear hfz7_6
   obtain ⟨x4_1, x5_1, x6_1, x7_1, x8_1, x274000_1, x274001_1, x274002_1, x274003_1, x274004_1, x274005_1, x274006_1, u274005, u274006, rfl, rfl, rfl, rfl, HA, HK1, HO_4, HO_274005, HO_274006, BK273, HB⟩ := hrel
   cases gk with
   | zero => exact absurd HA.out (by simp [laws_FnSees.l0])
   | succ k1 =>
    have H := HA.out
    clear HA
    simp only [laws_FnSees.l0] at H
    by_cases c10 : x8_1 < 30
    ·rw [if_pos c10] at H
     have c10b0 : decide (x8_1 < 30) = true := decide_eq_true c10
     clear c10
     replace H := Option.bind_eq_some_iff.mp H
     obtain ⟨t279, A110, H⟩ := H
     replace H : (if (Int.tmod t279 2) = 0 then ((laws_at.f l0 (wrap64 (x8_1 + 31))).bind fun t280 => ((laws_num.f t280).bind fun bt281 => ((impl_Update.f k1 x274000_1 x274001_1 x274002_1 x274003_1 x274004_1 x274005_1 x274006_1 1 bt281.1 bt281.2.1 bt281.2.2).bind fun bt284 => (if bt284.2.2.2.2.2.2.2.2 = 0 then (if (x7_1 != ((bt284.2.2.2.2.2.2.2.1.length : Int) == 1)) = true then (if (x274006_1.length : Int) = 0 then (some false) else ((laws_at.f l0 (wrap64 (x8_1 + 31))).bind fun t300 => (if x4_1.length < 17592186044416 then (laws_FnSees.l0 k1 l0 (x4_1 ++ [t300]) x5_1 x6_1 x7_1 (wrap64 (x8_1 + 1)) bt284.1 bt284.2.1 bt284.2.2.1 bt284.2.2.2.1 bt284.2.2.2.2.1 bt284.2.2.2.2.2.1 bt284.2.2.2.2.2.2.1) else (none)))) else ((laws_at.f l0 (wrap64 (x8_1 + 31))).bind fun t304 => (if x4_1.length < 17592186044416 then (laws_FnSees.l0 k1 l0 (x4_1 ++ [t304]) x5_1 x6_1 x7_1 (wrap64 (x8_1 + 1)) bt284.1 bt284.2.1 bt284.2.2.1 bt284.2.2.2.1 bt284.2.2.2.2.1 bt284.2.2.2.2.2.1 bt284.2.2.2.2.2.2.1) else (none)))) else (some false))))) else (if x7_1 = true then ((impl_Seen.f k1 x274000_1 x274001_1 x274002_1 x274003_1 x274004_1 x274005_1 x274006_1 3).bind fun bt308 => (if bt308.2.2.2.2.2.2.2.2.2.2.2 = 4 then (if x274003_1 > x5_1 then (some false) else (laws_FnSees.l0 k1 l0 x4_1 x5_1 x6_1 x7_1 (wrap64 (x8_1 + 1)) x274000_1 x274001_1 x274002_1 x274003_1 x274004_1 x274005_1 x274006_1)) else (if bt308.2.2.2.2.2.2.2.2.2.2.2 = 0 then (if bt308.2.2.2.2.2.2.2.2.2.2.1 ≤ x5_1 then (some false) else (if bt308.2.2.2.2.2.2.2.2.2.2.1 ≥ (x4_1.length : Int) then (some false) else (if 0 ≤ bt308.2.2.2.2.2.2.2.2.2.2.1 then (if bt308.2.2.2.2.2.2.2.2.2.2.1 < (x4_1.length : Int) then (if bt308.2.2.2.2.2.2.2.2.1 = (rd x4_1 bt308.2.2.2.2.2.2.2.2.2.2.1) then (if bt308.2.2.2.2.2.2.2.2.2.2.1 ≤ x6_1 then (some false) else (laws_FnSees.l0 k1 l0 x4_1 bt308.2.2.2.2.2.2.2.2.2.2.1 bt308.2.2.2.2.2.2.2.2.2.2.1 false (wrap64 (x8_1 + 1)) bt308.1 bt308.2.1 bt308.2.2.1 bt308.2.2.2.1 bt308.2.2.2.2.1 bt308.2.2.2.2.2.1 bt308.2.2.2.2.2.2.1)) else (some false)) else (none)) else (none)))) else (some false)))) else ((impl_Watch.f k1 x274000_1 x274001_1 x274002_1 x274003_1 x274004_1 x274005_1 x274006_1 3 x5_1).bind fun bt327 => (if bt327.2.2.2.2.2.2.2 = 4 then (laws_FnSees.l0 k1 l0 x4_1 x5_1 x6_1 true (wrap64 (x8_1 + 1)) bt327.1 bt327.2.1 bt327.2.2.1 bt327.2.2.2.1 bt327.2.2.2.2.1 bt327.2.2.2.2.2.1 bt327.2.2.2.2.2.2.1) else ((impl_Look.f k1 bt327.1 bt327.2.1 bt327.2.2.1 bt327.2.2.2.1 bt327.2.2.2.2.1 bt327.2.2.2.2.2.1 bt327.2.2.2.2.2.2.1).bind fun bt340 => (if bt327.2.2.2.2.2.2.2 = 0 then (if bt340.2.2.2.2 = 0 then (if bt340.2.2.2.1 ≤ x5_1 then (some false) else (if 0 ≤ bt340.2.2.2.1 then (if bt340.2.2.2.1 < (x4_1.length : Int) then (if bt340.2.1 = (rd x4_1 bt340.2.2.2.1) then (laws_FnSees.l0 k1 l0 x4_1 bt340.2.2.2.1 bt340.2.2.2.1 x7_1 (wrap64 (x8_1 + 1)) bt327.1 bt327.2.1 bt327.2.2.1 bt327.2.2.2.1 bt327.2.2.2.2.1 bt327.2.2.2.2.2.1 bt327.2.2.2.2.2.2.1) else (some false)) else (none)) else (none))) else (some false)) else (some false))))))) = some r := H
     have A11 := am A110
     clear A110
     by_cases c12 : (Int.tmod t279 2) = 0
     ·rw [if_pos c12] at H
      have c12b0 : ((Int.tmod t279 2) == 0) = true := beq_iff_eq.mpr c12
      have c12b1 : ((Int.tmod t279 2) != 0) = false := bne_eq_false_iff_eq.mpr c12
      clear c12
      replace H := Option.bind_eq_some_iff.mp H
      obtain ⟨t280, A130, H⟩ := H
      replace H : ((laws_num.f t280).bind fun bt281 => ((impl_Update.f k1 x274000_1 x274001_1 x274002_1 x274003_1 x274004_1 x274005_1 x274006_1 1 bt281.1 bt281.2.1 bt281.2.2).bind fun bt284 => (if bt284.2.2.2.2.2.2.2.2 = 0 then (if (x7_1 != ((bt284.2.2.2.2.2.2.2.1.length : Int) == 1)) = true then (if (x274006_1.length : Int) = 0 then (some false) else ((laws_at.f l0 (wrap64 (x8_1 + 31))).bind fun t300 => (if x4_1.length < 17592186044416 then (laws_FnSees.l0 k1 l0 (x4_1 ++ [t300]) x5_1 x6_1 x7_1 (wrap64 (x8_1 + 1)) bt284.1 bt284.2.1 bt284.2.2.1 bt284.2.2.2.1 bt284.2.2.2.2.1 bt284.2.2.2.2.2.1 bt284.2.2.2.2.2.2.1) else (none)))) else ((laws_at.f l0 (wrap64 (x8_1 + 31))).bind fun t304 => (if x4_1.length < 17592186044416 then (laws_FnSees.l0 k1 l0 (x4_1 ++ [t304]) x5_1 x6_1 x7_1 (wrap64 (x8_1 + 1)) bt284.1 bt284.2.1 bt284.2.2.1 bt284.2.2.2.1 bt284.2.2.2.2.1 bt284.2.2.2.2.2.1 bt284.2.2.2.2.2.2.1) else (none)))) else (some false)))) = some r := H
      have A13 := am A130
      clear A130
      replace H := Option.bind_eq_some_iff.mp H
      obtain ⟨⟨t281, t282, t283⟩, A140, H⟩ := H
      replace H : ((impl_Update.f k1 x274000_1 x274001_1 x274002_1 x274003_1 x274004_1 x274005_1 x274006_1 1 t281 t282 t283).bind fun bt284 => (if bt284.2.2.2.2.2.2.2.2 = 0 then (if (x7_1 != ((bt284.2.2.2.2.2.2.2.1.length : Int) == 1)) = true then (if (x274006_1.length : Int) = 0 then (some false) else ((laws_at.f l0 (wrap64 (x8_1 + 31))).bind fun t300 => (if x4_1.length < 17592186044416 then (laws_FnSees.l0 k1 l0 (x4_1 ++ [t300]) x5_1 x6_1 x7_1 (wrap64 (x8_1 + 1)) bt284.1 bt284.2.1 bt284.2.2.1 bt284.2.2.2.1 bt284.2.2.2.2.1 bt284.2.2.2.2.2.1 bt284.2.2.2.2.2.2.1) else (none)))) else ((laws_at.f l0 (wrap64 (x8_1 + 31))).bind fun t304 => (if x4_1.length < 17592186044416 then (laws_FnSees.l0 k1 l0 (x4_1 ++ [t304]) x5_1 x6_1 x7_1 (wrap64 (x8_1 + 1)) bt284.1 bt284.2.1 bt284.2.2.1 bt284.2.2.2.1 bt284.2.2.2.2.1 bt284.2.2.2.2.2.1 bt284.2.2.2.2.2.2.1) else (none)))) else (some false))) = some r := H
      have A14 := am A140
      clear A140
      replace H := Option.bind_eq_some_iff.mp H
      obtain ⟨⟨t284, t285, t286, t287, t288, t289, t292, t295, t298⟩, A150, H⟩ := H
      replace H : (if t298 = 0 then (if (x7_1 != ((t295.length : Int) == 1)) = true then (if (x274006_1.length : Int) = 0 then (some false) else ((laws_at.f l0 (wrap64 (x8_1 + 31))).bind fun t300 => (if x4_1.length < 17592186044416 then (laws_FnSees.l0 k1 l0 (x4_1 ++ [t300]) x5_1 x6_1 x7_1 (wrap64 (x8_1 + 1)) t284 t285 t286 t287 t288 t289 t292) else (none)))) else ((laws_at.f l0 (wrap64 (x8_1 + 31))).bind fun t304 => (if x4_1.length < 17592186044416 then (laws_FnSees.l0 k1 l0 (x4_1 ++ [t304]) x5_1 x6_1 x7_1 (wrap64 (x8_1 + 1)) t284 t285 t286 t287 t288 t289 t292) else (none)))) else (some false)) = some r := H
      have A15 := am A150
      clear A150
      by_cases c16 : t298 = 0
      ·rw [if_pos c16] at H
       have c16b0 : (t298 == 0) = true := beq_iff_eq.mpr c16
       have c16b1 : (t298 != 0) = false := bne_eq_false_iff_eq.mpr c16
       clear c16
       by_cases c17 : (x7_1 != ((t295.length : Int) == 1)) = true
       ·rw [if_pos c17] at H
        have c17b0 : (x7_1 != ((t295.length : Int) == 1)) = true := c17
        (try (have c17b1 : decide (x7_1 = ((t295.length : Int) == 1)) = false := by simpa using c17))
        (try (have c17b2 : (x7_1 == ((t295.length : Int) == 1)) = false := by first | exact bq_t c17 | exact bq_f c17 | simpa using c17))
        (try (have c17b3 : ¬ (x7_1 = ((t295.length : Int) == 1)) := by simpa using c17))
        clear c17
        by_cases c18 : (x274006_1.length : Int) = 0
        ·rw [if_pos c18] at H
         have c18b0 : ((x274006_1.length : Int) == 0) = true := beq_iff_eq.mpr c18
         have c18b1 : ((x274006_1.length : Int) != 0) = false := bne_eq_false_iff_eq.mpr c18
         clear c18
         exact absurd (Option.some.inj H) (by rw [HQ_.out]; simp)
        ·rw [if_neg c18] at H
         have c18b0 : ((x274006_1.length : Int) == 0) = false := beq_eq_false_iff_ne.mpr c18
         have c18b1 : ((x274006_1.length : Int) != 0) = true := bne_iff_ne.mpr c18
         have c18b2 : ¬ (x274006_1 = []) := fun h_ => c18 (by rw [h_]; rfl)
         replace H := Option.bind_eq_some_iff.mp H
         obtain ⟨t300, A190, H⟩ := H
         replace H : (if x4_1.length < 17592186044416 then (laws_FnSees.l0 k1 l0 (x4_1 ++ [t300]) x5_1 x6_1 x7_1 (wrap64 (x8_1 + 1)) t284 t285 t286 t287 t288 t289 t292) else (none)) = some r := H
         have A19 := am A190
         clear A190
         by_cases c20 : x4_1.length < 17592186044416
         ·rw [if_pos c20] at H
          have LMc20 := am c20
          clear c20
          obtain ⟨y301, hy301⟩ : ∃ y_ : List Int, y_ = (x4_1 ++ [t300]) := ⟨_, rfl⟩
          replace H : (laws_FnSees.l0 k1 l0 y301 x5_1 x6_1 x7_1 (wrap64 (x8_1 + 1)) t284 t285 t286 t287 t288 t289 t292) = some r := by first | (rw [hy301]; with_reducible exact H) | (have H2_ := (Option.bind_some _ _).symm.trans H; rw [hy301]; with_reducible exact H2_) | (have H2_ := (Option.bind_some _ _).symm.trans H; with_reducible exact H2_) | with_reducible exact H | (rw [hy301]; exact H) | exact H
          have Ny301 := am hy301
          clear hy301
          have H' := am H
          clear H
          try go_wp2_with (first | ((with_reducible refine gate_callee (f := 17) rfl ?_); refine goesL_ (some 32) rfl rfl Try.func17 (by kernel_rfl) rfl #[.slice A0 l0.length c0, .int .i64 x8_1] rfl mpx ?_; (with_reducible refine (laws_at.calls _ _ l0 x8_1 t279 _ ?side1 ?side2 A11.out).mono ?_); (case side1 => exact pkC (Kd.C_below HR0.out HB.out)); (case side2 => exact HC0.out); rintro e w' ⟨rfl, nd, rfl⟩; refine ⟨_, rfl, ?_⟩; (try (rw [drewN_self wr]; generalize hq_ : World.drewN wr _ = wr; replace HO_274005 : Aside0 (Kd.R (Kd.int .i64) 3 wr w.heap.size (fun k_ => (some k_ ≠ (u4 : Value).ownBlock ∧ some k_ ≠ (u274006 : Value).ownBlock)) u274005 x274005_1) := ⟨by rw [← hq_]; exact (pkR HO_274005.out)⟩; replace HO_274006 : Aside0 (Kd.R (Kd.int .i64) 3 wr w.heap.size (fun k_ => (some k_ ≠ (u4 : Value).ownBlock ∧ some k_ ≠ (u274005 : Value).ownBlock)) u274006 x274006_1) := ⟨by rw [← hq_]; exact (pkR HO_274006.out)⟩; replace HO_4 : Aside0 (Kd.R (Kd.int .i64) 3 wr w.heap.size (fun k_ => (some k_ ≠ (u274005 : Value).ownBlock ∧ some k_ ≠ (u274006 : Value).ownBlock)) u4 x4_1) := ⟨by rw [← hq_]; exact (pkR HO_4.out)⟩; replace BK273 : Aside0 (wr.heap[gb273]? = some (.cells #[.int .i64 x274000_1, .int .i64 x274001_1, .string x274002_1, .int .i64 x274003_1, .bool x274004_1, u274005, u274006] 29 (0, 0))) := ⟨by rw [← hq_]; exact (pkK BK273.out)⟩; replace HB : Aside0 (Below w.heap.size w wr) := ⟨by rw [← hq_]; exact (pkW HB.out)⟩; clear hq_)); obtain ⟨Ao21, co21, eo21⟩ := Kd.R_slice HO_274005.out; subst eo21; obtain ⟨Ao22, co22, eo22⟩ := Kd.R_slice HO_274006.out; subst eo22))
          replace HO_4 := am (Kd.R_drew HO_4.out)
          replace HO_274005 := am (Kd.R_drew HO_274005.out)
          replace HO_274006 := am (Kd.R_drew HO_274006.out)
          replace BK273 := am (blk_drew BK273.out)
          replace HB := am (below_drew1 HB.out)
          refine start_ (n := 16) (S := fun w' => w'.cell? ⟨gb273, 0, none⟩ = some (.int .i64 x274000_1) ∧ w'.cell? ⟨gb273, 1, none⟩ = some (.int .i64 x274001_1) ∧ w'.cell? ⟨gb273, 2, none⟩ = some (.string x274002_1) ∧ w'.cell? ⟨gb273, 3, none⟩ = some (.int .i64 x274003_1) ∧ w'.cell? ⟨gb273, 4, none⟩ = some (.bool x274004_1) ∧ w'.cell? ⟨gb273, 5, none⟩ = some (.slice Ao21 x274005_1.length co21) ∧ w'.cell? ⟨gb273, 6, none⟩ = some (.slice Ao22 x274006_1.length co22)) (ds := []) #[false, false, false, false, false, false, false, false, false, false, false, false, false, false, false, false] (by kernel_rfl) rfl rfl (bc7 BK273.out) (fun hHeld => ?_); refine with_tabW laws_FnSees.tab10 laws_FnSees.bits10 (fun HT_ HW_ => ?_)
          generalize wr.drew = w23 at HO_4 HO_274005 HO_274006 BK273 HB hHeld ⊢
          refine pure_ (i := 1) (N := some 37) (v := ?_) (a' := ?_) #[false, true, false, false, false, false, false, false, false, false, false, false, false, false, false, false] rfl rfl (ayo HT_.out) (fun _ _ _ h => h) (Or.inl ⟨by rfl, ?_⟩) ?_ ?_; rotate_left; (intro w'; go_simp; with_reducible rfl); rotate_left; (simp only [Act.put, List.setIfInBounds_toArray, List.set_cons_zero, List.set_cons_succ, i64_w, i32_w]; rfl)
          refine pure_ (i := 2) (N := some 38) (v := ?_) (a' := ?_) #[false, true, true, false, false, false, false, false, false, false, false, false, false, false, false, false] rfl rfl (ayo HT_.out) (fun _ _ _ h => h) (Or.inl ⟨by rfl, ?_⟩) ?_ ?_; rotate_left; (intro w'; go_simp; with_reducible rfl); rotate_left; (simp only [Act.put, List.setIfInBounds_toArray, List.set_cons_zero, List.set_cons_succ, i64_w, i32_w]; rfl)
          refine pure_ (i := 3) (N := some 39) (v := ?_) (a' := ?_) #[false, true, true, true, false, false, false, false, false, false, false, false, false, false, false, false] rfl rfl (ayo HT_.out) (fun _ _ _ h => h) (Or.inl ⟨by rfl, ?_⟩) ?_ ?_; rotate_left; (intro w'; go_simp; with_reducible rfl); rotate_left; (simp only [Act.put, List.setIfInBounds_toArray, List.set_cons_zero, List.set_cons_succ, i64_w, i32_w]; rfl)
          refine take_ (i := 0) (N := some 36) (v := ?_) (a' := ?_) #[true, true, true, true, false, false, false, false, false, false, false, false, false, false, false, false] rfl rfl (take_ofW HT_.out HW_.out (by kernel_rfl)) (fun _ _ _ h => h) (Or.inl ⟨by rfl, ?_⟩) hHeld ?_ ?_
          rotate_left
          ·rintro w' ⟨s0, s1, s2, s3, s4, s5, s6⟩
           go_simp
           with_reducible rfl
          rotate_left
          ·simp only [Act.put, List.setIfInBounds_toArray, List.set_cons_zero, List.set_cons_succ, i64_w, i32_w]
           rfl
          refine join_ (σ := Value × Value × Value × Nat) 3 #[true, true, true, true, true, true, true, true, true, true, true, true, true, false, false, false] (fun s_ => [(40, .int .i64 t280), (41, .agg #[.int .i64 t281, .int .i64 t282, .string t283]), (43, .tuple #[.agg #[.int .i64 t284, .int .i64 t285, .string t286, .int .i64 t287, .bool t288, s_.1, s_.2.1], s_.2.2.1, .int .i64 t298]), (9, .pointer (some ⟨s_.2.2.2, 0, none⟩)), (42, .agg #[.int .i64 1, .int .i64 t281, .int .i64 t282, .string t283]), (35, .tuple #[.agg #[.int .i64 t284, .int .i64 t285, .string t286, .int .i64 t287, .bool t288, s_.1, s_.2.1], s_.2.2.1, .int .i64 t298]), (44, .agg #[.int .i64 t284, .int .i64 t285, .string t286, .int .i64 t287, .bool t288, s_.1, s_.2.1]), (45, s_.2.2.1), (46, .int .i64 t298)]) (fun s_ w' => (w'.cell? ⟨gb273, 0, none⟩ = some (.int .i64 x274000_1) ∧ w'.cell? ⟨gb273, 1, none⟩ = some (.int .i64 x274001_1) ∧ w'.cell? ⟨gb273, 2, none⟩ = some (.string x274002_1) ∧ w'.cell? ⟨gb273, 3, none⟩ = some (.int .i64 x274003_1) ∧ w'.cell? ⟨gb273, 4, none⟩ = some (.bool x274004_1) ∧ w'.cell? ⟨gb273, 5, none⟩ = some (.slice Ao21 x274005_1.length co21) ∧ w'.cell? ⟨gb273, 6, none⟩ = some (.slice Ao22 x274006_1.length co22)) ∧ (Kd.R (Kd.int .i64) 3 w' w.heap.size (fun k_ => some k_ ≠ (s_.2.1 : Value).ownBlock ∧ some k_ ≠ (s_.2.2.1 : Value).ownBlock ∧ some k_ ≠ (.slice Ao21 x274005_1.length co21 : Value).ownBlock ∧ some k_ ≠ (.slice Ao22 x274006_1.length co22 : Value).ownBlock ∧ some k_ ≠ (u4 : Value).ownBlock) s_.1 t289) ∧ (Kd.R (Kd.int .i64) 3 w' w.heap.size (fun k_ => some k_ ≠ (s_.1 : Value).ownBlock ∧ some k_ ≠ (s_.2.2.1 : Value).ownBlock ∧ some k_ ≠ (.slice Ao21 x274005_1.length co21 : Value).ownBlock ∧ some k_ ≠ (.slice Ao22 x274006_1.length co22 : Value).ownBlock ∧ some k_ ≠ (u4 : Value).ownBlock) s_.2.1 t292) ∧ (Kd.R (Kd.int .i64) 3 w' w.heap.size (fun k_ => some k_ ≠ (s_.1 : Value).ownBlock ∧ some k_ ≠ (s_.2.1 : Value).ownBlock ∧ some k_ ≠ (.slice Ao21 x274005_1.length co21 : Value).ownBlock ∧ some k_ ≠ (.slice Ao22 x274006_1.length co22 : Value).ownBlock ∧ some k_ ≠ (u4 : Value).ownBlock) s_.2.2.1 t295) ∧ (Kd.R (Kd.int .i64) 3 w' w.heap.size (fun k_ => some k_ ≠ (s_.1 : Value).ownBlock ∧ some k_ ≠ (s_.2.1 : Value).ownBlock ∧ some k_ ≠ (s_.2.2.1 : Value).ownBlock ∧ some k_ ≠ (.slice Ao22 x274006_1.length co22 : Value).ownBlock ∧ some k_ ≠ (u4 : Value).ownBlock) (.slice Ao21 x274005_1.length co21) x274005_1) ∧ (Kd.R (Kd.int .i64) 3 w' w.heap.size (fun k_ => some k_ ≠ (s_.1 : Value).ownBlock ∧ some k_ ≠ (s_.2.1 : Value).ownBlock ∧ some k_ ≠ (s_.2.2.1 : Value).ownBlock ∧ some k_ ≠ (.slice Ao21 x274005_1.length co21 : Value).ownBlock ∧ some k_ ≠ (u4 : Value).ownBlock) (.slice Ao22 x274006_1.length co22) x274006_1) ∧ (Kd.R (Kd.int .i64) 3 w' w.heap.size (fun k_ => some k_ ≠ (s_.1 : Value).ownBlock ∧ some k_ ≠ (s_.2.1 : Value).ownBlock ∧ some k_ ≠ (s_.2.2.1 : Value).ownBlock ∧ some k_ ≠ (.slice Ao21 x274005_1.length co21 : Value).ownBlock ∧ some k_ ≠ (.slice Ao22 x274006_1.length co22 : Value).ownBlock) u4 x4_1) ∧ (w'.heap[gb273]? = some (.cells #[.int .i64 x274000_1, .int .i64 x274001_1, .string x274002_1, .int .i64 x274003_1, .bool x274004_1, .slice Ao21 x274005_1.length co21, .slice Ao22 x274006_1.length co22] 29 (0, 0))) ∧ (w'.heap[s_.2.2.2]? = some (.cells #[.int .i64 0, .int .i64 0, .string (⟨#[]⟩ : ByteArray), .int .i64 0, .bool false, .slice none 0 0, .slice none 0 0] 29 (0, 0))) ∧ (w.heap.size ≤ s_.2.2.2) ∧ (w.heap.size ≤ s_.2.2.2) ∧ (gb273 ≠ s_.2.2.2) ∧ (s_.2.2.2 ≠ gb273) ∧ (Below w.heap.size w w')) ?_ ?_
          rotate_left
          ·intro hCont
           refine two_ (i := 4) (j := 12) (Ni := some 40) (Nj := some 9) #[true, true, true, true, true, false, false, false, false, false, false, false, false, false, false, false] #[true, true, true, true, false, false, false, false, false, false, false, false, true, false, false, false] rfl rfl rfl rfl (two_of HT_.out (by kernel_rfl)) (by decide) (by decide) (fun K hK => ?_) (fun K hK => ?_)
           ·skip
            refine goes_ Try.func17 (by kernel_rfl) rfl #[.slice A0 l0.length c0, .int .i64 (wrap64 (x8_1 + 31))] (by rfl) rfl rfl mpx ?_
            with_reducible refine (laws_at.calls _ _ l0 (wrap64 (x8_1 + 31)) t280 _ ?side1 ?side2 A13.out).mono ?_
            (case side1 => exact pkC (Kd.C_below HR0.out HB.out))
            (case side2 => exact HC0.out)
            rintro e w' ⟨rfl, nd, rfl⟩
            refine ⟨_, rfl, ?_⟩
            refine hK.out _ _ (bc7 BK273.out) (fun hHeld => ?_)
            clear hK K
            refine norm_ (a' := ?_) ?_ ?_
            rotate_left
            ·show Act.put _ (some 40) _ = _
             simp only [Act.put, List.setIfInBounds_toArray, List.set_cons_zero, List.set_cons_succ, i64_w, i32_w]
             rfl
            refine two_ (i := 5) (j := 12) (Ni := some 41) (Nj := some 9) #[true, true, true, true, true, true, false, false, false, false, false, false, false, false, false, false] #[true, true, true, true, true, false, false, false, false, false, false, false, true, false, false, false] rfl rfl rfl rfl (two_of HT_.out (by kernel_rfl)) (by decide) (by decide) (fun K hK => ?_) (fun K hK => ?_)
            ·skip
             refine goes_ Try.func16 (by kernel_rfl) rfl #[.int .i64 t280] (by rfl) rfl rfl mpx ?_
             with_reducible refine (laws_num.calls t280 t281 t282 t283 _ A14.out).mono ?_
             rintro e w24 ⟨rfl, hb⟩
             refine ⟨_, rfl, ?_⟩
             replace HO_4 := rbl HO_4 hb
             replace HO_274005 := rbl HO_274005 hb
             replace HO_274006 := rbl HO_274006 hb
             replace BK273 := bbk BK273 hb
             replace HB := bst HB hb
             (try clear hb)
             refine hK.out _ _ (bc7 BK273.out) (fun hHeld => ?_)
             clear hK K
             refine norm_ (a' := ?_) ?_ ?_
             rotate_left
             ·show Act.put _ (some 41) _ = _
              simp only [Act.put, List.setIfInBounds_toArray, List.set_cons_zero, List.set_cons_succ, i64_w, i32_w]
              rfl
             refine pure_ (i := 6) (N := some 42) (v := ?_) (a' := ?_) #[true, true, true, true, true, true, true, false, false, false, false, false, false, false, false, false] rfl rfl (ayo HT_.out) (fun _ _ _ h => h) (Or.inl ⟨by rfl, ?_⟩) ?_ ?_; rotate_left; (intro w'; go_simp; with_reducible rfl); rotate_left; (simp only [Act.put, List.setIfInBounds_toArray, List.set_cons_zero, List.set_cons_succ, i64_w, i32_w]; rfl)
             refine two_ (i := 7) (j := 12) (Ni := some 43) (Nj := some 9) #[true, true, true, true, true, true, true, true, false, false, false, false, false, false, false, false] #[true, true, true, true, true, true, true, false, false, false, false, false, true, false, false, false] rfl rfl rfl rfl (two_of HT_.out (by kernel_rfl)) (by decide) (by decide) (fun K hK => ?_) (fun K hK => ?_)
             ·skip
              refine goes_ Try.func18 (by kernel_rfl) rfl #[.agg #[.int .i64 x274000_1, .int .i64 x274001_1, .string x274002_1, .int .i64 x274003_1, .bool x274004_1, .slice Ao21 x274005_1.length co21, .slice Ao22 x274006_1.length co22], .agg #[.int .i64 1, .int .i64 t281, .int .i64 t282, .string t283]] (by rfl) rfl rfl mpx ?_
              with_reducible refine (impl_Update.calls k1 x274000_1 x274001_1 x274002_1 x274003_1 x274004_1 _ _ x274005_1 _ _ x274006_1 1 t281 t282 t283 t284 t285 t286 t287 t288 t289 t292 t295 t298 _ ?side1 ?side2 ?side3 ?side4 A15.out).mono ?_
              (case side1 => exact pkC (Kd.R_reads' HO_274005.out).2.2)
              (case side2 => exact (Kd.R_reads' HO_274005.out).2.1)
              (case side3 => exact pkC (Kd.R_reads' HO_274006.out).2.2)
              (case side4 => exact (Kd.R_reads' HO_274006.out).2.1)
              rintro e w25 ⟨v290, v293, v296, rfl, ho0, ho1, ho2, hb⟩
              refine ⟨_, rfl, ?_⟩
              have HO291 := am (Kd.R_lower (Kd.R_new' (Kd.R_new' (Kd.R_new' ho0 (Kd.R_lt (pkR HO_4.out))) (Kd.R_lt (pkR HO_274005.out))) (Kd.R_lt (pkR HO_274006.out))) (below_size (pkW HB.out)))
              have HO294 := am (Kd.R_lower (Kd.R_new' (Kd.R_new' (Kd.R_new' ho1 (Kd.R_lt (pkR HO_4.out))) (Kd.R_lt (pkR HO_274005.out))) (Kd.R_lt (pkR HO_274006.out))) (below_size (pkW HB.out)))
              have HO297 := am (Kd.R_lower (Kd.R_new' (Kd.R_new' (Kd.R_new' ho2 (Kd.R_lt (pkR HO_4.out))) (Kd.R_lt (pkR HO_274005.out))) (Kd.R_lt (pkR HO_274006.out))) (below_size (pkW HB.out)))
              replace HO_4 := am (Kd.R_mono (Kd.R_told (Kd.R_told (Kd.R_told (Kd.R_old (pkR HO_4.out) hb) (Kd.R_base ho0)) (Kd.R_base ho1)) (Kd.R_base ho2)) (fun _ h_ => h_.1))
              replace HO_274005 := am (Kd.R_mono (Kd.R_told (Kd.R_told (Kd.R_told (Kd.R_old (pkR HO_274005.out) hb) (Kd.R_base ho0)) (Kd.R_base ho1)) (Kd.R_base ho2)) (fun _ h_ => h_.1))
              replace HO_274006 := am (Kd.R_mono (Kd.R_told (Kd.R_told (Kd.R_told (Kd.R_old (pkR HO_274006.out) hb) (Kd.R_base ho0)) (Kd.R_base ho1)) (Kd.R_base ho2)) (fun _ h_ => h_.1))
              replace BK273 := bbk BK273 hb
              replace HB := bst HB hb
              (try clear hb); (try clear ho0 ho1 ho2)
              refine hK.out _ _ (bc7 BK273.out) (fun hHeld => ?_)
              clear hK K
              refine norm_ (a' := ?_) ?_ ?_
              rotate_left
              ·show Act.put _ (some 43) _ = _
               simp only [Act.put, List.setIfInBounds_toArray, List.set_cons_zero, List.set_cons_succ, i64_w, i32_w]
               rfl
              refine pure_ (i := 8) (N := some 35) (v := ?_) (a' := ?_) #[true, true, true, true, true, true, true, true, true, false, false, false, false, false, false, false] rfl rfl (ayo HT_.out) (fun _ _ _ h => h) (Or.inl ⟨by rfl, ?_⟩) ?_ ?_; rotate_left; (intro w'; go_simp; with_reducible rfl); rotate_left; (simp only [Act.put, List.setIfInBounds_toArray, List.set_cons_zero, List.set_cons_succ, i64_w, i32_w]; rfl)
              refine pure_ (i := 9) (N := some 44) (v := ?_) (a' := ?_) #[true, true, true, true, true, true, true, true, true, true, false, false, false, false, false, false] rfl rfl (ayo HT_.out) (fun _ _ _ h => h) (Or.inl ⟨by rfl, ?_⟩) ?_ ?_; rotate_left; (intro w'; go_simp; with_reducible rfl); rotate_left; (simp only [Act.put, List.setIfInBounds_toArray, List.set_cons_zero, List.set_cons_succ, i64_w, i32_w]; rfl)
              refine pure_ (i := 10) (N := some 45) (v := ?_) (a' := ?_) #[true, true, true, true, true, true, true, true, true, true, true, false, false, false, false, false] rfl rfl (ayo HT_.out) (fun _ _ _ h => h) (Or.inl ⟨by rfl, ?_⟩) ?_ ?_; rotate_left; (intro w'; go_simp; with_reducible rfl); rotate_left; (simp only [Act.put, List.setIfInBounds_toArray, List.set_cons_zero, List.set_cons_succ, i64_w, i32_w]; rfl)
              refine pure_ (i := 11) (N := some 46) (v := ?_) (a' := ?_) #[true, true, true, true, true, true, true, true, true, true, true, true, false, false, false, false] rfl rfl (ayo HT_.out) (fun _ _ _ h => h) (Or.inl ⟨by rfl, ?_⟩) ?_ ?_; rotate_left; (intro w'; go_simp; with_reducible rfl); rotate_left; (simp only [Act.put, List.setIfInBounds_toArray, List.set_cons_zero, List.set_cons_succ, i64_w, i32_w]; rfl)
              refine one_ (i := 12) (N := some 9) #[true, true, true, true, true, true, true, true, true, true, true, true, true, false, false, false] rfl rfl (one_of HT_.out (by kernel_rfl)) (by decide) (fun K hK => ?_)
              refine box_step ?hg (N := 9) ?hd (cs := #[.int .i64 0, .int .i64 0, .string (⟨#[]⟩ : ByteArray), .int .i64 0, .bool false, .slice none 0 0, .slice none 0 0]) (t := 29) ?hr ?_; (case hd => rfl); (case hg => rfl); (case hr => first | (go_simp; done) | (go_simp; rfl))
              intro gb299 hg w26 hbox hb
              replace HO_4 := rbl HO_4 hb
              replace HO_274005 := rbl HO_274005 hb
              replace HO_274006 := rbl HO_274006 hb
              replace HO291 := rbl HO291 hb
              replace HO294 := rbl HO294 hb
              replace HO297 := rbl HO297 hb
              have BK299 := am (hbox)
              have GW299 := am ((by rw [hg]; exact (below_size (pkW HB.out)) : w.heap.size ≤ gb299))
              have GE299 := am ((by rw [hg]; exact (below_size (pkW HB.out)) : w.heap.size ≤ gb299))
              replace HB := bst HB hb
              have NB273_299 := am ((by rw [hg]; exact Nat.ne_of_lt (blk_lt (g := gb273) (o := .cells #[.int .i64 x274000_1, .int .i64 x274001_1, .string x274002_1, .int .i64 x274003_1, .bool x274004_1, .slice Ao21 x274005_1.length co21, .slice Ao22 x274006_1.length co22] 29 (0, 0)) (pkK BK273.out)) : gb273 ≠ gb299))
              have NB299_273 := am ((by rw [hg]; exact Nat.ne_of_gt (blk_lt (g := gb273) (o := .cells #[.int .i64 x274000_1, .int .i64 x274001_1, .string x274002_1, .int .i64 x274003_1, .bool x274004_1, .slice Ao21 x274005_1.length co21, .slice Ao22 x274006_1.length co22] 29 (0, 0)) (pkK BK273.out)) : gb299 ≠ gb273))
              replace BK273 := bbk BK273 hb
              clear hb hbox hg
              refine hK.out _ _ (bc7 BK273.out) (fun hHeld => ?_)
              clear hK K
              refine norm_ (a' := ?_) ?_ ?_
              rotate_left
              ·show Act.put _ (some 9) _ = _
               simp only [Act.put, List.setIfInBounds_toArray, List.set_cons_zero, List.set_cons_succ, i64_w, i32_w]
               rfl
              exact norm_ (by simp only [putAll, Act.put, List.setIfInBounds_toArray, List.set_cons_zero, List.set_cons_succ]) (hCont (v290, v293, v296, gb299) _ ⟨hHeld, (by (with_reducible repeat (first | apply Kd.R_alloc | apply Kd.R_drewN | apply Kd.R_drew)); exact Kd.R_mono HO291.out (fun _ hk => ⟨hk.1.1.1.1, hk.1.1.1.2, hk.1.2, hk.2, hk.1.1.2⟩)), (by (with_reducible repeat (first | apply Kd.R_alloc | apply Kd.R_drewN | apply Kd.R_drew)); exact Kd.R_mono HO294.out (fun _ hk => ⟨hk.1.1.1.1, hk.1.1.1.2, hk.1.2, hk.2, hk.1.1.2⟩)), (by (with_reducible repeat (first | apply Kd.R_alloc | apply Kd.R_drewN | apply Kd.R_drew)); exact Kd.R_mono HO297.out (fun _ hk => ⟨hk.1.1.1.1, hk.1.1.1.2, hk.1.2, hk.2, hk.1.1.2⟩)), (by (with_reducible repeat (first | apply Kd.R_alloc | apply Kd.R_drewN | apply Kd.R_drew)); exact Kd.R_mono HO_274005.out (fun _ hk => ⟨hk.1.1.2, hk.1.2, hk.2, hk.1.1.1.2, hk.1.1.1.1⟩)), (by (with_reducible repeat (first | apply Kd.R_alloc | apply Kd.R_drewN | apply Kd.R_drew)); exact Kd.R_mono HO_274006.out (fun _ hk => ⟨hk.1.1.2, hk.1.2, hk.2, hk.1.1.1.2, hk.1.1.1.1⟩)), (by (with_reducible repeat (first | apply Kd.R_alloc | apply Kd.R_drewN | apply Kd.R_drew)); exact Kd.R_mono HO_4.out (fun _ hk => ⟨hk.1.1.2, hk.1.2, hk.2, hk.1.1.1.1, hk.1.1.1.2⟩)), (pkK BK273.out), (pkK BK299.out), GW299.out, GE299.out, NB273_299.out, NB299_273.out, (pkW HB.out)⟩)
             ·skip
              refine box_step ?hg (N := 9) ?hd (cs := #[.int .i64 0, .int .i64 0, .string (⟨#[]⟩ : ByteArray), .int .i64 0, .bool false, .slice none 0 0, .slice none 0 0]) (t := 29) ?hr ?_; (case hd => rfl); (case hg => rfl); (case hr => first | (go_simp; done) | (go_simp; rfl))
              intro gb299 hg w25 hbox hb
              replace HO_4 := rbl HO_4 hb
              replace HO_274005 := rbl HO_274005 hb
              replace HO_274006 := rbl HO_274006 hb
              have BK299 := am (hbox)
              have GW299 := am ((by rw [hg]; exact (below_size (pkW HB.out)) : w.heap.size ≤ gb299))
              have GE299 := am ((by rw [hg]; exact (below_size (pkW HB.out)) : w.heap.size ≤ gb299))
              replace HB := bst HB hb
              have NB273_299 := am ((by rw [hg]; exact Nat.ne_of_lt (blk_lt (g := gb273) (o := .cells #[.int .i64 x274000_1, .int .i64 x274001_1, .string x274002_1, .int .i64 x274003_1, .bool x274004_1, .slice Ao21 x274005_1.length co21, .slice Ao22 x274006_1.length co22] 29 (0, 0)) (pkK BK273.out)) : gb273 ≠ gb299))
              have NB299_273 := am ((by rw [hg]; exact Nat.ne_of_gt (blk_lt (g := gb273) (o := .cells #[.int .i64 x274000_1, .int .i64 x274001_1, .string x274002_1, .int .i64 x274003_1, .bool x274004_1, .slice Ao21 x274005_1.length co21, .slice Ao22 x274006_1.length co22] 29 (0, 0)) (pkK BK273.out)) : gb299 ≠ gb273))
              replace BK273 := bbk BK273 hb
              clear hb hbox hg
              refine hK.out _ _ (bc7 BK273.out) (fun hHeld => ?_)
              clear hK K
              refine norm_ (a' := ?_) ?_ ?_
              rotate_left
              ·show Act.put _ (some 9) _ = _
               simp only [Act.put, List.setIfInBounds_toArray, List.set_cons_zero, List.set_cons_succ, i64_w, i32_w]
               rfl
              refine one_ (i := 7) (N := some 43) #[true, true, true, true, true, true, true, true, false, false, false, false, true, false, false, false] rfl rfl (one_of HT_.out (by kernel_rfl)) (by decide) (fun K hK => ?_)
              refine goes_ Try.func18 (by kernel_rfl) rfl #[.agg #[.int .i64 x274000_1, .int .i64 x274001_1, .string x274002_1, .int .i64 x274003_1, .bool x274004_1, .slice Ao21 x274005_1.length co21, .slice Ao22 x274006_1.length co22], .agg #[.int .i64 1, .int .i64 t281, .int .i64 t282, .string t283]] (by rfl) rfl rfl mpx ?_
              with_reducible refine (impl_Update.calls k1 x274000_1 x274001_1 x274002_1 x274003_1 x274004_1 _ _ x274005_1 _ _ x274006_1 1 t281 t282 t283 t284 t285 t286 t287 t288 t289 t292 t295 t298 _ ?side1 ?side2 ?side3 ?side4 A15.out).mono ?_
              (case side1 => exact pkC (Kd.R_reads' HO_274005.out).2.2)
              (case side2 => exact (Kd.R_reads' HO_274005.out).2.1)
              (case side3 => exact pkC (Kd.R_reads' HO_274006.out).2.2)
              (case side4 => exact (Kd.R_reads' HO_274006.out).2.1)
              rintro e w26 ⟨v290, v293, v296, rfl, ho0, ho1, ho2, hb⟩
              refine ⟨_, rfl, ?_⟩
              have HO291 := am (Kd.R_lower (Kd.R_new' (Kd.R_new' (Kd.R_new' ho0 (Kd.R_lt (pkR HO_4.out))) (Kd.R_lt (pkR HO_274005.out))) (Kd.R_lt (pkR HO_274006.out))) (below_size (pkW HB.out)))
              have HO294 := am (Kd.R_lower (Kd.R_new' (Kd.R_new' (Kd.R_new' ho1 (Kd.R_lt (pkR HO_4.out))) (Kd.R_lt (pkR HO_274005.out))) (Kd.R_lt (pkR HO_274006.out))) (below_size (pkW HB.out)))
              have HO297 := am (Kd.R_lower (Kd.R_new' (Kd.R_new' (Kd.R_new' ho2 (Kd.R_lt (pkR HO_4.out))) (Kd.R_lt (pkR HO_274005.out))) (Kd.R_lt (pkR HO_274006.out))) (below_size (pkW HB.out)))
              replace HO_4 := am (Kd.R_mono (Kd.R_told (Kd.R_told (Kd.R_told (Kd.R_old (pkR HO_4.out) hb) (Kd.R_base ho0)) (Kd.R_base ho1)) (Kd.R_base ho2)) (fun _ h_ => h_.1))
              replace HO_274005 := am (Kd.R_mono (Kd.R_told (Kd.R_told (Kd.R_told (Kd.R_old (pkR HO_274005.out) hb) (Kd.R_base ho0)) (Kd.R_base ho1)) (Kd.R_base ho2)) (fun _ h_ => h_.1))
              replace HO_274006 := am (Kd.R_mono (Kd.R_told (Kd.R_told (Kd.R_told (Kd.R_old (pkR HO_274006.out) hb) (Kd.R_base ho0)) (Kd.R_base ho1)) (Kd.R_base ho2)) (fun _ h_ => h_.1))
              replace BK273 := bbk BK273 hb
              replace BK299 := bbk BK299 hb
              replace HB := bst HB hb
              (try clear hb); (try clear ho0 ho1 ho2)
              refine hK.out _ _ (bc7 BK273.out) (fun hHeld => ?_)
              clear hK K
              refine norm_ (a' := ?_) ?_ ?_
              rotate_left
              ·show Act.put _ (some 43) _ = _
               simp only [Act.put, List.setIfInBounds_toArray, List.set_cons_zero, List.set_cons_succ, i64_w, i32_w]
               rfl
              refine pure_ (i := 8) (N := some 35) (v := ?_) (a' := ?_) #[true, true, true, true, true, true, true, true, true, false, false, false, true, false, false, false] rfl rfl (ayo HT_.out) (fun _ _ _ h => h) (Or.inl ⟨by rfl, ?_⟩) ?_ ?_; rotate_left; (intro w'; go_simp; with_reducible rfl); rotate_left; (simp only [Act.put, List.setIfInBounds_toArray, List.set_cons_zero, List.set_cons_succ, i64_w, i32_w]; rfl)
              refine pure_ (i := 9) (N := some 44) (v := ?_) (a' := ?_) #[true, true, true, true, true, true, true, true, true, true, false, false, true, false, false, false] rfl rfl (ayo HT_.out) (fun _ _ _ h => h) (Or.inl ⟨by rfl, ?_⟩) ?_ ?_; rotate_left; (intro w'; go_simp; with_reducible rfl); rotate_left; (simp only [Act.put, List.setIfInBounds_toArray, List.set_cons_zero, List.set_cons_succ, i64_w, i32_w]; rfl)
              refine pure_ (i := 10) (N := some 45) (v := ?_) (a' := ?_) #[true, true, true, true, true, true, true, true, true, true, true, false, true, false, false, false] rfl rfl (ayo HT_.out) (fun _ _ _ h => h) (Or.inl ⟨by rfl, ?_⟩) ?_ ?_; rotate_left; (intro w'; go_simp; with_reducible rfl); rotate_left; (simp only [Act.put, List.setIfInBounds_toArray, List.set_cons_zero, List.set_cons_succ, i64_w, i32_w]; rfl)
              refine pure_ (i := 11) (N := some 46) (v := ?_) (a' := ?_) #[true, true, true, true, true, true, true, true, true, true, true, true, true, false, false, false] rfl rfl (ayo HT_.out) (fun _ _ _ h => h) (Or.inl ⟨by rfl, ?_⟩) ?_ ?_; rotate_left; (intro w'; go_simp; with_reducible rfl); rotate_left; (simp only [Act.put, List.setIfInBounds_toArray, List.set_cons_zero, List.set_cons_succ, i64_w, i32_w]; rfl)
              exact norm_ (by simp only [putAll, Act.put, List.setIfInBounds_toArray, List.set_cons_zero, List.set_cons_succ]) (hCont (v290, v293, v296, gb299) _ ⟨hHeld, (by (with_reducible repeat (first | apply Kd.R_alloc | apply Kd.R_drewN | apply Kd.R_drew)); exact Kd.R_mono HO291.out (fun _ hk => ⟨hk.1.1.1.1, hk.1.1.1.2, hk.1.2, hk.2, hk.1.1.2⟩)), (by (with_reducible repeat (first | apply Kd.R_alloc | apply Kd.R_drewN | apply Kd.R_drew)); exact Kd.R_mono HO294.out (fun _ hk => ⟨hk.1.1.1.1, hk.1.1.1.2, hk.1.2, hk.2, hk.1.1.2⟩)), (by (with_reducible repeat (first | apply Kd.R_alloc | apply Kd.R_drewN | apply Kd.R_drew)); exact Kd.R_mono HO297.out (fun _ hk => ⟨hk.1.1.1.1, hk.1.1.1.2, hk.1.2, hk.2, hk.1.1.2⟩)), (by (with_reducible repeat (first | apply Kd.R_alloc | apply Kd.R_drewN | apply Kd.R_drew)); exact Kd.R_mono HO_274005.out (fun _ hk => ⟨hk.1.1.2, hk.1.2, hk.2, hk.1.1.1.2, hk.1.1.1.1⟩)), (by (with_reducible repeat (first | apply Kd.R_alloc | apply Kd.R_drewN | apply Kd.R_drew)); exact Kd.R_mono HO_274006.out (fun _ hk => ⟨hk.1.1.2, hk.1.2, hk.2, hk.1.1.1.2, hk.1.1.1.1⟩)), (by (with_reducible repeat (first | apply Kd.R_alloc | apply Kd.R_drewN | apply Kd.R_drew)); exact Kd.R_mono HO_4.out (fun _ hk => ⟨hk.1.1.2, hk.1.2, hk.2, hk.1.1.1.1, hk.1.1.1.2⟩)), (pkK BK273.out), (pkK BK299.out), GW299.out, GE299.out, NB273_299.out, NB299_273.out, (pkW HB.out)⟩)
            ·skip
             refine box_step ?hg (N := 9) ?hd (cs := #[.int .i64 0, .int .i64 0, .string (⟨#[]⟩ : ByteArray), .int .i64 0, .bool false, .slice none 0 0, .slice none 0 0]) (t := 29) ?hr ?_; (case hd => rfl); (case hg => rfl); (case hr => first | (go_simp; done) | (go_simp; rfl))
             intro gb299 hg w24 hbox hb
             replace HO_4 := rbl HO_4 hb
             replace HO_274005 := rbl HO_274005 hb
             replace HO_274006 := rbl HO_274006 hb
             have BK299 := am (hbox)
             have GW299 := am ((by rw [hg]; exact (below_size (pkW HB.out)) : w.heap.size ≤ gb299))
             have GE299 := am ((by rw [hg]; exact (below_size (pkW HB.out)) : w.heap.size ≤ gb299))
             replace HB := bst HB hb
             have NB273_299 := am ((by rw [hg]; exact Nat.ne_of_lt (blk_lt (g := gb273) (o := .cells #[.int .i64 x274000_1, .int .i64 x274001_1, .string x274002_1, .int .i64 x274003_1, .bool x274004_1, .slice Ao21 x274005_1.length co21, .slice Ao22 x274006_1.length co22] 29 (0, 0)) (pkK BK273.out)) : gb273 ≠ gb299))
             have NB299_273 := am ((by rw [hg]; exact Nat.ne_of_gt (blk_lt (g := gb273) (o := .cells #[.int .i64 x274000_1, .int .i64 x274001_1, .string x274002_1, .int .i64 x274003_1, .bool x274004_1, .slice Ao21 x274005_1.length co21, .slice Ao22 x274006_1.length co22] 29 (0, 0)) (pkK BK273.out)) : gb299 ≠ gb273))
             replace BK273 := bbk BK273 hb
             clear hb hbox hg
             refine hK.out _ _ (bc7 BK273.out) (fun hHeld => ?_)
             clear hK K
             refine norm_ (a' := ?_) ?_ ?_
             rotate_left
             ·show Act.put _ (some 9) _ = _
              simp only [Act.put, List.setIfInBounds_toArray, List.set_cons_zero, List.set_cons_succ, i64_w, i32_w]
              rfl
             refine one_ (i := 5) (N := some 41) #[true, true, true, true, true, true, false, false, false, false, false, false, true, false, false, false] rfl rfl (one_of HT_.out (by kernel_rfl)) (by decide) (fun K hK => ?_)
             refine goes_ Try.func16 (by kernel_rfl) rfl #[.int .i64 t280] (by rfl) rfl rfl mpx ?_
             with_reducible refine (laws_num.calls t280 t281 t282 t283 _ A14.out).mono ?_
             rintro e w25 ⟨rfl, hb⟩
             refine ⟨_, rfl, ?_⟩
             replace HO_4 := rbl HO_4 hb
             replace HO_274005 := rbl HO_274005 hb
             replace HO_274006 := rbl HO_274006 hb
             replace BK273 := bbk BK273 hb
             replace BK299 := bbk BK299 hb
             replace HB := bst HB hb
             (try clear hb)
             refine hK.out _ _ (bc7 BK273.out) (fun hHeld => ?_)
             clear hK K
             refine norm_ (a' := ?_) ?_ ?_
             rotate_left
             ·show Act.put _ (some 41) _ = _
              simp only [Act.put, List.setIfInBounds_toArray, List.set_cons_zero, List.set_cons_succ, i64_w, i32_w]
              rfl
             refine pure_ (i := 6) (N := some 42) (v := ?_) (a' := ?_) #[true, true, true, true, true, true, true, false, false, false, false, false, true, false, false, false] rfl rfl (ayo HT_.out) (fun _ _ _ h => h) (Or.inl ⟨by rfl, ?_⟩) ?_ ?_; rotate_left; (intro w'; go_simp; with_reducible rfl); rotate_left; (simp only [Act.put, List.setIfInBounds_toArray, List.set_cons_zero, List.set_cons_succ, i64_w, i32_w]; rfl)
             refine one_ (i := 7) (N := some 43) #[true, true, true, true, true, true, true, true, false, false, false, false, true, false, false, false] rfl rfl (one_of HT_.out (by kernel_rfl)) (by decide) (fun K hK => ?_)
             refine goes_ Try.func18 (by kernel_rfl) rfl #[.agg #[.int .i64 x274000_1, .int .i64 x274001_1, .string x274002_1, .int .i64 x274003_1, .bool x274004_1, .slice Ao21 x274005_1.length co21, .slice Ao22 x274006_1.length co22], .agg #[.int .i64 1, .int .i64 t281, .int .i64 t282, .string t283]] (by rfl) rfl rfl mpx ?_
             with_reducible refine (impl_Update.calls k1 x274000_1 x274001_1 x274002_1 x274003_1 x274004_1 _ _ x274005_1 _ _ x274006_1 1 t281 t282 t283 t284 t285 t286 t287 t288 t289 t292 t295 t298 _ ?side1 ?side2 ?side3 ?side4 A15.out).mono ?_
             (case side1 => exact pkC (Kd.R_reads' HO_274005.out).2.2)
             (case side2 => exact (Kd.R_reads' HO_274005.out).2.1)
             (case side3 => exact pkC (Kd.R_reads' HO_274006.out).2.2)
             (case side4 => exact (Kd.R_reads' HO_274006.out).2.1)
             rintro e w26 ⟨v290, v293, v296, rfl, ho0, ho1, ho2, hb⟩
             refine ⟨_, rfl, ?_⟩
             have HO291 := am (Kd.R_lower (Kd.R_new' (Kd.R_new' (Kd.R_new' ho0 (Kd.R_lt (pkR HO_4.out))) (Kd.R_lt (pkR HO_274005.out))) (Kd.R_lt (pkR HO_274006.out))) (below_size (pkW HB.out)))
             have HO294 := am (Kd.R_lower (Kd.R_new' (Kd.R_new' (Kd.R_new' ho1 (Kd.R_lt (pkR HO_4.out))) (Kd.R_lt (pkR HO_274005.out))) (Kd.R_lt (pkR HO_274006.out))) (below_size (pkW HB.out)))
             have HO297 := am (Kd.R_lower (Kd.R_new' (Kd.R_new' (Kd.R_new' ho2 (Kd.R_lt (pkR HO_4.out))) (Kd.R_lt (pkR HO_274005.out))) (Kd.R_lt (pkR HO_274006.out))) (below_size (pkW HB.out)))
             replace HO_4 := am (Kd.R_mono (Kd.R_told (Kd.R_told (Kd.R_told (Kd.R_old (pkR HO_4.out) hb) (Kd.R_base ho0)) (Kd.R_base ho1)) (Kd.R_base ho2)) (fun _ h_ => h_.1))
             replace HO_274005 := am (Kd.R_mono (Kd.R_told (Kd.R_told (Kd.R_told (Kd.R_old (pkR HO_274005.out) hb) (Kd.R_base ho0)) (Kd.R_base ho1)) (Kd.R_base ho2)) (fun _ h_ => h_.1))
             replace HO_274006 := am (Kd.R_mono (Kd.R_told (Kd.R_told (Kd.R_told (Kd.R_old (pkR HO_274006.out) hb) (Kd.R_base ho0)) (Kd.R_base ho1)) (Kd.R_base ho2)) (fun _ h_ => h_.1))
             replace BK273 := bbk BK273 hb
             replace BK299 := bbk BK299 hb
             replace HB := bst HB hb
             (try clear hb); (try clear ho0 ho1 ho2)
             refine hK.out _ _ (bc7 BK273.out) (fun hHeld => ?_)
             clear hK K
             refine norm_ (a' := ?_) ?_ ?_
             rotate_left
             ·show Act.put _ (some 43) _ = _
              simp only [Act.put, List.setIfInBounds_toArray, List.set_cons_zero, List.set_cons_succ, i64_w, i32_w]
              rfl
             refine pure_ (i := 8) (N := some 35) (v := ?_) (a' := ?_) #[true, true, true, true, true, true, true, true, true, false, false, false, true, false, false, false] rfl rfl (ayo HT_.out) (fun _ _ _ h => h) (Or.inl ⟨by rfl, ?_⟩) ?_ ?_; rotate_left; (intro w'; go_simp; with_reducible rfl); rotate_left; (simp only [Act.put, List.setIfInBounds_toArray, List.set_cons_zero, List.set_cons_succ, i64_w, i32_w]; rfl)
             refine pure_ (i := 9) (N := some 44) (v := ?_) (a' := ?_) #[true, true, true, true, true, true, true, true, true, true, false, false, true, false, false, false] rfl rfl (ayo HT_.out) (fun _ _ _ h => h) (Or.inl ⟨by rfl, ?_⟩) ?_ ?_; rotate_left; (intro w'; go_simp; with_reducible rfl); rotate_left; (simp only [Act.put, List.setIfInBounds_toArray, List.set_cons_zero, List.set_cons_succ, i64_w, i32_w]; rfl)
             refine pure_ (i := 10) (N := some 45) (v := ?_) (a' := ?_) #[true, true, true, true, true, true, true, true, true, true, true, false, true, false, false, false] rfl rfl (ayo HT_.out) (fun _ _ _ h => h) (Or.inl ⟨by rfl, ?_⟩) ?_ ?_; rotate_left; (intro w'; go_simp; with_reducible rfl); rotate_left; (simp only [Act.put, List.setIfInBounds_toArray, List.set_cons_zero, List.set_cons_succ, i64_w, i32_w]; rfl)
             refine pure_ (i := 11) (N := some 46) (v := ?_) (a' := ?_) #[true, true, true, true, true, true, true, true, true, true, true, true, true, false, false, false] rfl rfl (ayo HT_.out) (fun _ _ _ h => h) (Or.inl ⟨by rfl, ?_⟩) ?_ ?_; rotate_left; (intro w'; go_simp; with_reducible rfl); rotate_left; (simp only [Act.put, List.setIfInBounds_toArray, List.set_cons_zero, List.set_cons_succ, i64_w, i32_w]; rfl)
             exact norm_ (by simp only [putAll, Act.put, List.setIfInBounds_toArray, List.set_cons_zero, List.set_cons_succ]) (hCont (v290, v293, v296, gb299) _ ⟨hHeld, (by (with_reducible repeat (first | apply Kd.R_alloc | apply Kd.R_drewN | apply Kd.R_drew)); exact Kd.R_mono HO291.out (fun _ hk => ⟨hk.1.1.1.1, hk.1.1.1.2, hk.1.2, hk.2, hk.1.1.2⟩)), (by (with_reducible repeat (first | apply Kd.R_alloc | apply Kd.R_drewN | apply Kd.R_drew)); exact Kd.R_mono HO294.out (fun _ hk => ⟨hk.1.1.1.1, hk.1.1.1.2, hk.1.2, hk.2, hk.1.1.2⟩)), (by (with_reducible repeat (first | apply Kd.R_alloc | apply Kd.R_drewN | apply Kd.R_drew)); exact Kd.R_mono HO297.out (fun _ hk => ⟨hk.1.1.1.1, hk.1.1.1.2, hk.1.2, hk.2, hk.1.1.2⟩)), (by (with_reducible repeat (first | apply Kd.R_alloc | apply Kd.R_drewN | apply Kd.R_drew)); exact Kd.R_mono HO_274005.out (fun _ hk => ⟨hk.1.1.2, hk.1.2, hk.2, hk.1.1.1.2, hk.1.1.1.1⟩)), (by (with_reducible repeat (first | apply Kd.R_alloc | apply Kd.R_drewN | apply Kd.R_drew)); exact Kd.R_mono HO_274006.out (fun _ hk => ⟨hk.1.1.2, hk.1.2, hk.2, hk.1.1.1.2, hk.1.1.1.1⟩)), (by (with_reducible repeat (first | apply Kd.R_alloc | apply Kd.R_drewN | apply Kd.R_drew)); exact Kd.R_mono HO_4.out (fun _ hk => ⟨hk.1.1.2, hk.1.2, hk.2, hk.1.1.1.1, hk.1.1.1.2⟩)), (pkK BK273.out), (pkK BK299.out), GW299.out, GE299.out, NB273_299.out, NB299_273.out, (pkW HB.out)⟩)
           ·skip
            refine box_step ?hg (N := 9) ?hd (cs := #[.int .i64 0, .int .i64 0, .string (⟨#[]⟩ : ByteArray), .int .i64 0, .bool false, .slice none 0 0, .slice none 0 0]) (t := 29) ?hr ?_; (case hd => rfl); (case hg => rfl); (case hr => first | (go_simp; done) | (go_simp; rfl))
            intro gb299 hg w24 hbox hb
            replace HO_4 := rbl HO_4 hb
            replace HO_274005 := rbl HO_274005 hb
            replace HO_274006 := rbl HO_274006 hb
            have BK299 := am (hbox)
            have GW299 := am ((by rw [hg]; exact (below_size (pkW HB.out)) : w.heap.size ≤ gb299))
            have GE299 := am ((by rw [hg]; exact (below_size (pkW HB.out)) : w.heap.size ≤ gb299))
            replace HB := bst HB hb
            have NB273_299 := am ((by rw [hg]; exact Nat.ne_of_lt (blk_lt (g := gb273) (o := .cells #[.int .i64 x274000_1, .int .i64 x274001_1, .string x274002_1, .int .i64 x274003_1, .bool x274004_1, .slice Ao21 x274005_1.length co21, .slice Ao22 x274006_1.length co22] 29 (0, 0)) (pkK BK273.out)) : gb273 ≠ gb299))
            have NB299_273 := am ((by rw [hg]; exact Nat.ne_of_gt (blk_lt (g := gb273) (o := .cells #[.int .i64 x274000_1, .int .i64 x274001_1, .string x274002_1, .int .i64 x274003_1, .bool x274004_1, .slice Ao21 x274005_1.length co21, .slice Ao22 x274006_1.length co22] 29 (0, 0)) (pkK BK273.out)) : gb299 ≠ gb273))
            replace BK273 := bbk BK273 hb
            clear hb hbox hg
            refine hK.out _ _ (bc7 BK273.out) (fun hHeld => ?_)
            clear hK K
            refine norm_ (a' := ?_) ?_ ?_
            rotate_left
            ·show Act.put _ (some 9) _ = _
             simp only [Act.put, List.setIfInBounds_toArray, List.set_cons_zero, List.set_cons_succ, i64_w, i32_w]
             rfl
            refine one_ (i := 4) (N := some 40) #[true, true, true, true, true, false, false, false, false, false, false, false, true, false, false, false] rfl rfl (one_of HT_.out (by kernel_rfl)) (by decide) (fun K hK => ?_)
            refine goes_ Try.func17 (by kernel_rfl) rfl #[.slice A0 l0.length c0, .int .i64 (wrap64 (x8_1 + 31))] (by rfl) rfl rfl mpx ?_
            with_reducible refine (laws_at.calls _ _ l0 (wrap64 (x8_1 + 31)) t280 _ ?side1 ?side2 A13.out).mono ?_
            (case side1 => exact pkC (Kd.C_below HR0.out HB.out))
            (case side2 => exact HC0.out)
            rintro e w' ⟨rfl, nd, rfl⟩
            refine ⟨_, rfl, ?_⟩
            refine hK.out _ _ (bc7 BK273.out) (fun hHeld => ?_)
            clear hK K
            refine norm_ (a' := ?_) ?_ ?_
            rotate_left
            ·show Act.put _ (some 40) _ = _
             simp only [Act.put, List.setIfInBounds_toArray, List.set_cons_zero, List.set_cons_succ, i64_w, i32_w]
             rfl
            refine one_ (i := 5) (N := some 41) #[true, true, true, true, true, true, false, false, false, false, false, false, true, false, false, false] rfl rfl (one_of HT_.out (by kernel_rfl)) (by decide) (fun K hK => ?_)
            refine goes_ Try.func16 (by kernel_rfl) rfl #[.int .i64 t280] (by rfl) rfl rfl mpx ?_
            with_reducible refine (laws_num.calls t280 t281 t282 t283 _ A14.out).mono ?_
            rintro e w25 ⟨rfl, hb⟩
            refine ⟨_, rfl, ?_⟩
            replace HO_4 := rbl HO_4 hb
            replace HO_274005 := rbl HO_274005 hb
            replace HO_274006 := rbl HO_274006 hb
            replace BK273 := bbk BK273 hb
            replace BK299 := bbk BK299 hb
            replace HB := bst HB hb
            (try clear hb)
            refine hK.out _ _ (bc7 BK273.out) (fun hHeld => ?_)
            clear hK K
            refine norm_ (a' := ?_) ?_ ?_
            rotate_left
            ·show Act.put _ (some 41) _ = _
             simp only [Act.put, List.setIfInBounds_toArray, List.set_cons_zero, List.set_cons_succ, i64_w, i32_w]
             rfl
            refine pure_ (i := 6) (N := some 42) (v := ?_) (a' := ?_) #[true, true, true, true, true, true, true, false, false, false, false, false, true, false, false, false] rfl rfl (ayo HT_.out) (fun _ _ _ h => h) (Or.inl ⟨by rfl, ?_⟩) ?_ ?_; rotate_left; (intro w'; go_simp; with_reducible rfl); rotate_left; (simp only [Act.put, List.setIfInBounds_toArray, List.set_cons_zero, List.set_cons_succ, i64_w, i32_w]; rfl)
            refine one_ (i := 7) (N := some 43) #[true, true, true, true, true, true, true, true, false, false, false, false, true, false, false, false] rfl rfl (one_of HT_.out (by kernel_rfl)) (by decide) (fun K hK => ?_)
            refine goes_ Try.func18 (by kernel_rfl) rfl #[.agg #[.int .i64 x274000_1, .int .i64 x274001_1, .string x274002_1, .int .i64 x274003_1, .bool x274004_1, .slice Ao21 x274005_1.length co21, .slice Ao22 x274006_1.length co22], .agg #[.int .i64 1, .int .i64 t281, .int .i64 t282, .string t283]] (by rfl) rfl rfl mpx ?_
            with_reducible refine (impl_Update.calls k1 x274000_1 x274001_1 x274002_1 x274003_1 x274004_1 _ _ x274005_1 _ _ x274006_1 1 t281 t282 t283 t284 t285 t286 t287 t288 t289 t292 t295 t298 _ ?side1 ?side2 ?side3 ?side4 A15.out).mono ?_
            (case side1 => exact pkC (Kd.R_reads' HO_274005.out).2.2)
            (case side2 => exact (Kd.R_reads' HO_274005.out).2.1)
            (case side3 => exact pkC (Kd.R_reads' HO_274006.out).2.2)
            (case side4 => exact (Kd.R_reads' HO_274006.out).2.1)
            rintro e w26 ⟨v290, v293, v296, rfl, ho0, ho1, ho2, hb⟩
            refine ⟨_, rfl, ?_⟩
            have HO291 := am (Kd.R_lower (Kd.R_new' (Kd.R_new' (Kd.R_new' ho0 (Kd.R_lt (pkR HO_4.out))) (Kd.R_lt (pkR HO_274005.out))) (Kd.R_lt (pkR HO_274006.out))) (below_size (pkW HB.out)))
            have HO294 := am (Kd.R_lower (Kd.R_new' (Kd.R_new' (Kd.R_new' ho1 (Kd.R_lt (pkR HO_4.out))) (Kd.R_lt (pkR HO_274005.out))) (Kd.R_lt (pkR HO_274006.out))) (below_size (pkW HB.out)))
            have HO297 := am (Kd.R_lower (Kd.R_new' (Kd.R_new' (Kd.R_new' ho2 (Kd.R_lt (pkR HO_4.out))) (Kd.R_lt (pkR HO_274005.out))) (Kd.R_lt (pkR HO_274006.out))) (below_size (pkW HB.out)))
            replace HO_4 := am (Kd.R_mono (Kd.R_told (Kd.R_told (Kd.R_told (Kd.R_old (pkR HO_4.out) hb) (Kd.R_base ho0)) (Kd.R_base ho1)) (Kd.R_base ho2)) (fun _ h_ => h_.1))
            replace HO_274005 := am (Kd.R_mono (Kd.R_told (Kd.R_told (Kd.R_told (Kd.R_old (pkR HO_274005.out) hb) (Kd.R_base ho0)) (Kd.R_base ho1)) (Kd.R_base ho2)) (fun _ h_ => h_.1))
            replace HO_274006 := am (Kd.R_mono (Kd.R_told (Kd.R_told (Kd.R_told (Kd.R_old (pkR HO_274006.out) hb) (Kd.R_base ho0)) (Kd.R_base ho1)) (Kd.R_base ho2)) (fun _ h_ => h_.1))
            replace BK273 := bbk BK273 hb
            replace BK299 := bbk BK299 hb
            replace HB := bst HB hb
            (try clear hb); (try clear ho0 ho1 ho2)
            refine hK.out _ _ (bc7 BK273.out) (fun hHeld => ?_)
            clear hK K
            refine norm_ (a' := ?_) ?_ ?_
            rotate_left
            ·show Act.put _ (some 43) _ = _
             simp only [Act.put, List.setIfInBounds_toArray, List.set_cons_zero, List.set_cons_succ, i64_w, i32_w]
             rfl
            refine pure_ (i := 8) (N := some 35) (v := ?_) (a' := ?_) #[true, true, true, true, true, true, true, true, true, false, false, false, true, false, false, false] rfl rfl (ayo HT_.out) (fun _ _ _ h => h) (Or.inl ⟨by rfl, ?_⟩) ?_ ?_; rotate_left; (intro w'; go_simp; with_reducible rfl); rotate_left; (simp only [Act.put, List.setIfInBounds_toArray, List.set_cons_zero, List.set_cons_succ, i64_w, i32_w]; rfl)
            refine pure_ (i := 9) (N := some 44) (v := ?_) (a' := ?_) #[true, true, true, true, true, true, true, true, true, true, false, false, true, false, false, false] rfl rfl (ayo HT_.out) (fun _ _ _ h => h) (Or.inl ⟨by rfl, ?_⟩) ?_ ?_; rotate_left; (intro w'; go_simp; with_reducible rfl); rotate_left; (simp only [Act.put, List.setIfInBounds_toArray, List.set_cons_zero, List.set_cons_succ, i64_w, i32_w]; rfl)
            refine pure_ (i := 10) (N := some 45) (v := ?_) (a' := ?_) #[true, true, true, true, true, true, true, true, true, true, true, false, true, false, false, false] rfl rfl (ayo HT_.out) (fun _ _ _ h => h) (Or.inl ⟨by rfl, ?_⟩) ?_ ?_; rotate_left; (intro w'; go_simp; with_reducible rfl); rotate_left; (simp only [Act.put, List.setIfInBounds_toArray, List.set_cons_zero, List.set_cons_succ, i64_w, i32_w]; rfl)
            refine pure_ (i := 11) (N := some 46) (v := ?_) (a' := ?_) #[true, true, true, true, true, true, true, true, true, true, true, true, true, false, false, false] rfl rfl (ayo HT_.out) (fun _ _ _ h => h) (Or.inl ⟨by rfl, ?_⟩) ?_ ?_; rotate_left; (intro w'; go_simp; with_reducible rfl); rotate_left; (simp only [Act.put, List.setIfInBounds_toArray, List.set_cons_zero, List.set_cons_succ, i64_w, i32_w]; rfl)
            exact norm_ (by simp only [putAll, Act.put, List.setIfInBounds_toArray, List.set_cons_zero, List.set_cons_succ]) (hCont (v290, v293, v296, gb299) _ ⟨hHeld, (by (with_reducible repeat (first | apply Kd.R_alloc | apply Kd.R_drewN | apply Kd.R_drew)); exact Kd.R_mono HO291.out (fun _ hk => ⟨hk.1.1.1.1, hk.1.1.1.2, hk.1.2, hk.2, hk.1.1.2⟩)), (by (with_reducible repeat (first | apply Kd.R_alloc | apply Kd.R_drewN | apply Kd.R_drew)); exact Kd.R_mono HO294.out (fun _ hk => ⟨hk.1.1.1.1, hk.1.1.1.2, hk.1.2, hk.2, hk.1.1.2⟩)), (by (with_reducible repeat (first | apply Kd.R_alloc | apply Kd.R_drewN | apply Kd.R_drew)); exact Kd.R_mono HO297.out (fun _ hk => ⟨hk.1.1.1.1, hk.1.1.1.2, hk.1.2, hk.2, hk.1.1.2⟩)), (by (with_reducible repeat (first | apply Kd.R_alloc | apply Kd.R_drewN | apply Kd.R_drew)); exact Kd.R_mono HO_274005.out (fun _ hk => ⟨hk.1.1.2, hk.1.2, hk.2, hk.1.1.1.2, hk.1.1.1.1⟩)), (by (with_reducible repeat (first | apply Kd.R_alloc | apply Kd.R_drewN | apply Kd.R_drew)); exact Kd.R_mono HO_274006.out (fun _ hk => ⟨hk.1.1.2, hk.1.2, hk.2, hk.1.1.1.2, hk.1.1.1.1⟩)), (by (with_reducible repeat (first | apply Kd.R_alloc | apply Kd.R_drewN | apply Kd.R_drew)); exact Kd.R_mono HO_4.out (fun _ hk => ⟨hk.1.1.2, hk.1.2, hk.2, hk.1.1.1.1, hk.1.1.1.2⟩)), (pkK BK273.out), (pkK BK299.out), GW299.out, GE299.out, NB273_299.out, NB299_273.out, (pkW HB.out)⟩)
          rintro ⟨v290, v293, v296, gb299⟩ w27 ⟨hS_, h0_, h1_, h2_, h3_, h4_, h5_, h6_, h7_, h8_, h9_, h10_, h11_, h12_⟩
          have HO291 : Aside0 (Kd.R (Kd.int .i64) 3 w27 w.heap.size (fun k_ => some k_ ≠ (v293 : Value).ownBlock ∧ some k_ ≠ (v296 : Value).ownBlock ∧ some k_ ≠ (.slice Ao21 x274005_1.length co21 : Value).ownBlock ∧ some k_ ≠ (.slice Ao22 x274006_1.length co22 : Value).ownBlock ∧ some k_ ≠ (u4 : Value).ownBlock) v290 t289) := ⟨h0_⟩
          have HO294 : Aside0 (Kd.R (Kd.int .i64) 3 w27 w.heap.size (fun k_ => some k_ ≠ (v290 : Value).ownBlock ∧ some k_ ≠ (v296 : Value).ownBlock ∧ some k_ ≠ (.slice Ao21 x274005_1.length co21 : Value).ownBlock ∧ some k_ ≠ (.slice Ao22 x274006_1.length co22 : Value).ownBlock ∧ some k_ ≠ (u4 : Value).ownBlock) v293 t292) := ⟨h1_⟩
          have HO297 : Aside0 (Kd.R (Kd.int .i64) 3 w27 w.heap.size (fun k_ => some k_ ≠ (v290 : Value).ownBlock ∧ some k_ ≠ (v293 : Value).ownBlock ∧ some k_ ≠ (.slice Ao21 x274005_1.length co21 : Value).ownBlock ∧ some k_ ≠ (.slice Ao22 x274006_1.length co22 : Value).ownBlock ∧ some k_ ≠ (u4 : Value).ownBlock) v296 t295) := ⟨h2_⟩
          replace HO_274005 : Aside0 (Kd.R (Kd.int .i64) 3 w27 w.heap.size (fun k_ => some k_ ≠ (v290 : Value).ownBlock ∧ some k_ ≠ (v293 : Value).ownBlock ∧ some k_ ≠ (v296 : Value).ownBlock ∧ some k_ ≠ (.slice Ao22 x274006_1.length co22 : Value).ownBlock ∧ some k_ ≠ (u4 : Value).ownBlock) (.slice Ao21 x274005_1.length co21) x274005_1) := ⟨h3_⟩
          replace HO_274006 : Aside0 (Kd.R (Kd.int .i64) 3 w27 w.heap.size (fun k_ => some k_ ≠ (v290 : Value).ownBlock ∧ some k_ ≠ (v293 : Value).ownBlock ∧ some k_ ≠ (v296 : Value).ownBlock ∧ some k_ ≠ (.slice Ao21 x274005_1.length co21 : Value).ownBlock ∧ some k_ ≠ (u4 : Value).ownBlock) (.slice Ao22 x274006_1.length co22) x274006_1) := ⟨h4_⟩
          replace HO_4 : Aside0 (Kd.R (Kd.int .i64) 3 w27 w.heap.size (fun k_ => some k_ ≠ (v290 : Value).ownBlock ∧ some k_ ≠ (v293 : Value).ownBlock ∧ some k_ ≠ (v296 : Value).ownBlock ∧ some k_ ≠ (.slice Ao21 x274005_1.length co21 : Value).ownBlock ∧ some k_ ≠ (.slice Ao22 x274006_1.length co22 : Value).ownBlock) u4 x4_1) := ⟨h5_⟩
          replace BK273 : Aside0 (w27.heap[gb273]? = some (.cells #[.int .i64 x274000_1, .int .i64 x274001_1, .string x274002_1, .int .i64 x274003_1, .bool x274004_1, .slice Ao21 x274005_1.length co21, .slice Ao22 x274006_1.length co22] 29 (0, 0))) := ⟨h6_⟩
          have BK299 : Aside0 (w27.heap[gb299]? = some (.cells #[.int .i64 0, .int .i64 0, .string (⟨#[]⟩ : ByteArray), .int .i64 0, .bool false, .slice none 0 0, .slice none 0 0] 29 (0, 0))) := ⟨h7_⟩
          have GW299 : Aside0 (w.heap.size ≤ gb299) := ⟨h8_⟩
          have GE299 : Aside0 (w.heap.size ≤ gb299) := ⟨h9_⟩
          have NB273_299 : Aside0 (gb273 ≠ gb299) := ⟨h10_⟩
          have NB299_273 : Aside0 (gb299 ≠ gb273) := ⟨h11_⟩
          replace HB : Aside0 (Below w.heap.size w w27) := ⟨h12_⟩
          clear h0_ h1_ h2_ h3_ h4_ h5_ h6_ h7_ h8_ h9_ h10_ h11_ h12_
          have hHeld : w27.cell? ⟨gb273, 0, none⟩ = some (.int .i64 x274000_1) ∧ w27.cell? ⟨gb273, 1, none⟩ = some (.int .i64 x274001_1) ∧ w27.cell? ⟨gb273, 2, none⟩ = some (.string x274002_1) ∧ w27.cell? ⟨gb273, 3, none⟩ = some (.int .i64 x274003_1) ∧ w27.cell? ⟨gb273, 4, none⟩ = some (.bool x274004_1) ∧ w27.cell? ⟨gb273, 5, none⟩ = some (.slice Ao21 x274005_1.length co21) ∧ w27.cell? ⟨gb273, 6, none⟩ = some (.slice Ao22 x274006_1.length co22) := hS_
          obtain ⟨Ao33, co33, eo33⟩ := Kd.R_slice HO291.out
          (first | subst eo33 | (injection eo33 with f1_ f2_ f3_; have f4_ := f1_.symm; have f5_ := f3_.symm; clear f1_ f2_ f3_; subst f4_; subst f5_))
          obtain ⟨Ao35, co35, eo35⟩ := Kd.R_slice HO294.out
          (first | subst eo35 | (injection eo35 with f1_ f2_ f3_; have f4_ := f1_.symm; have f5_ := f3_.symm; clear f1_ f2_ f3_; subst f4_; subst f5_))
          refine norm_ (a' := ?_) ?_ ?_
          rotate_left
          ·simp only [putAll, Act.put, List.setIfInBounds_toArray, List.set_cons_zero, List.set_cons_succ]
           rfl
          refine one_ (i := 13) (N := none) #[true, true, true, true, true, true, true, true, true, true, true, true, true, true, false, false] rfl rfl (one_of HT_.out (by kernel_rfl)) (by decide) (fun K hK => ?_)
          have hs28 : w27.cell? ⟨gb299, 0, none⟩ = some (.int .i64 0) := (blk_cell BK299.out 0).trans rfl
          have hfs28 := blk_frozen BK299.out 0
          have hns28_0 := NB273_299.out
          have hms28_0 := NB299_273.out
          have hs29 : w27.cell? ⟨gb299, 1, none⟩ = some (.int .i64 0) := (blk_cell BK299.out 1).trans rfl
          have hfs29 := blk_frozen BK299.out 1
          have hns29_0 := NB273_299.out
          have hms29_0 := NB299_273.out
          have hs30 : w27.cell? ⟨gb299, 2, none⟩ = some (.string (⟨#[]⟩ : ByteArray)) := (blk_cell BK299.out 2).trans rfl
          have hfs30 := blk_frozen BK299.out 2
          have hns30_0 := NB273_299.out
          have hms30_0 := NB299_273.out
          have hs31 : w27.cell? ⟨gb299, 3, none⟩ = some (.int .i64 0) := (blk_cell BK299.out 3).trans rfl
          have hfs31 := blk_frozen BK299.out 3
          have hns31_0 := NB273_299.out
          have hms31_0 := NB299_273.out
          have hs32 : w27.cell? ⟨gb299, 4, none⟩ = some (.bool false) := (blk_cell BK299.out 4).trans rfl
          have hfs32 := blk_frozen BK299.out 4
          have hns32_0 := NB273_299.out
          have hms32_0 := NB299_273.out
          have hs34 : w27.cell? ⟨gb299, 5, none⟩ = some (.slice none 0 0) := (blk_cell BK299.out 5).trans rfl
          have hfs34 := blk_frozen BK299.out 5
          have hns34_0 := NB273_299.out
          have hms34_0 := NB299_273.out
          have hs36 : w27.cell? ⟨gb299, 6, none⟩ = some (.slice none 0 0) := (blk_cell BK299.out 6).trans rfl
          have hfs36 := blk_frozen BK299.out 6
          have hns36_0 := NB273_299.out
          have hms36_0 := NB299_273.out
          refine skip_ (w1 := ?_) ?_ ?_ ?_ ?_; rotate_left; rfl; rfl
          ·go_simp
           rfl
          refine hK.out _ _ ?_ (fun hHeld => ?_)
          ·exact (bc7 (fa7x48 BK273.out NB273_299.out))
          clear hK K
          refine pure_ (i := 14) (N := some 10) (v := ?_) (a' := ?_) #[true, true, true, true, true, true, true, true, true, true, true, true, true, true, true, false] rfl rfl (ayo HT_.out) (fun _ _ _ h => h) (Or.inl ⟨by rfl, ?_⟩) ?_ ?_; rotate_left; (intro w'; go_simp; with_reducible rfl); rotate_left; (simp only [Act.put, List.setIfInBounds_toArray, List.set_cons_zero, List.set_cons_succ, i64_w, i32_w]; rfl)
          refine pure_ (i := 15) (N := some 11) (v := ?_) (a' := ?_) #[true, true, true, true, true, true, true, true, true, true, true, true, true, true, true, true] rfl rfl (ayo HT_.out) (fun _ _ _ h => h) (Or.inl ⟨by rfl, ?_⟩) ?_ ?_; rotate_left; (intro w'; go_simp; with_reducible rfl); rotate_left; (simp only [Act.put, List.setIfInBounds_toArray, List.set_cons_zero, List.set_cons_succ, i64_w, i32_w]; rfl)
          refine done_ (done_of HT_.out (by kernel_rfl)) ?_
          obtain ⟨Ao37, co37, eo37⟩ := Kd.R_slice HO297.out
          subst eo37
          have hnb38 := NB273_299.out
          have hnc38 := NB299_273.out
          obtain ⟨hcz39_0, hcz39_1, hcz39_2, hcz39_3, hcz39_4, hcz39_5, hcz39_6, hfz39_0, hfz39_1, hfz39_2, hfz39_3, hfz39_4, hfz39_5, hfz39_6⟩ := bk7 BK273.out
          try go_wp2_with (first | ((with_reducible refine gate_callee (f := 17) rfl ?_); refine goesL_ (some 66) rfl rfl Try.func17 (by kernel_rfl) rfl #[.slice A0 l0.length c0, .int .i64 (wrap64 (x8_1 + 31))] rfl mpx ?_; (with_reducible refine (laws_at.calls _ _ l0 (wrap64 (x8_1 + 31)) t300 _ ?side1 ?side2 A19.out).mono ?_); (case side1 => exact Kd.C_below HR0.out (pkW HB.out)); (case side2 => exact HC0.out); rintro e w' ⟨rfl, nd, rfl⟩; refine ⟨_, rfl, ?_⟩) | ((with_reducible refine gate_builtin (b := .append) (xs := #[.tmp 62, .tmp 67]) rfl ?_); (try (refine gate_guard (by rfl) ?_; dsimp only)); at_builtin; refine Kd.R_append (Kd.int .i64) (w0 := w) w.heap.size rfl (.tmp 62) (.tmp 67) 27 3 (.int .i64 0) 8 rfl Try.underlying27 info3 rfl (by decide) (by omega) u4 x4_1 t300 [.int .i64 t300] (fun k_ => some k_ ≠ (.slice Ao21 x274005_1.length co21 : Value).ownBlock ∧ some k_ ≠ (.slice Ao22 x274006_1.length co22 : Value).ownBlock ∧ some k_ ≠ (.slice Ao33 t289.length co33 : Value).ownBlock ∧ some k_ ≠ (.slice Ao35 t292.length co35 : Value).ownBlock ∧ some k_ ≠ (.slice Ao37 t295.length co37 : Value).ownBlock) (fun _ => False) rfl (by first | (go_simp; done) | (go_simp; rfl)) ?aP (fun _ hk => hk.elim) ?aF ?aO ?aB ?aS ?aL ?_; (case aP => exact rfl); (case aB => exact (pkW HB.out)); (case aF => exact (fun k_ hk => ⟨Kd.fresh' (Kd.R_lt (by (with_reducible repeat (first | apply Kd.R_alloc | apply Kd.R_drewN | apply Kd.R_drew)); exact (fR7x48 HO_274005.out BK299.out (by decide)))) k_ hk, Kd.fresh' (Kd.R_lt (by (with_reducible repeat (first | apply Kd.R_alloc | apply Kd.R_drewN | apply Kd.R_drew)); exact (fR7x48 HO_274006.out BK299.out (by decide)))) k_ hk, Kd.fresh' (Kd.R_lt (by (with_reducible repeat (first | apply Kd.R_alloc | apply Kd.R_drewN | apply Kd.R_drew)); exact (fR7x48 HO291.out BK299.out (by decide)))) k_ hk, Kd.fresh' (Kd.R_lt (by (with_reducible repeat (first | apply Kd.R_alloc | apply Kd.R_drewN | apply Kd.R_drew)); exact (fR7x48 HO294.out BK299.out (by decide)))) k_ hk, Kd.fresh' (Kd.R_lt (by (with_reducible repeat (first | apply Kd.R_alloc | apply Kd.R_drewN | apply Kd.R_drew)); exact (fR7x48 HO297.out BK299.out (by decide)))) k_ hk⟩)); (case aO => exact (by (with_reducible repeat (first | apply Kd.R_alloc | apply Kd.R_drewN | apply Kd.R_drew)); exact Kd.R_mono (fR7x48 HO_4.out BK299.out (by decide)) (fun _ hk => ⟨hk.2.2.2.1, hk.2.2.2.2, hk.1, hk.2.1, hk.2.2.1⟩))); (case aS => exact (below_size (pkW HB.out))); (case aL => have := LMc20.out; omega); intro v302 w40 ho hb hg hat; rw [← Ny301.out] at ho; replace HO_274005 := am (Kd.R_after (ok := (fun k_ => some k_ ≠ (.slice Ao22 x274006_1.length co22 : Value).ownBlock ∧ some k_ ≠ (.slice Ao33 t289.length co33 : Value).ownBlock ∧ some k_ ≠ (.slice Ao35 t292.length co35 : Value).ownBlock ∧ some k_ ≠ (.slice Ao37 t295.length co37 : Value).ownBlock)) (by (with_reducible repeat (first | apply Kd.R_alloc | apply Kd.R_drewN | apply Kd.R_drew)); exact Kd.R_mono (fR7x48 HO_274005.out BK299.out (by decide)) (fun _ hk => ⟨⟨hk.2.2.2.1, hk.1, hk.2.1, hk.2.2.1⟩, hk.2.2.2.2⟩)) hg hat); replace HO_274006 := am (Kd.R_after (ok := (fun k_ => some k_ ≠ (.slice Ao21 x274005_1.length co21 : Value).ownBlock ∧ some k_ ≠ (.slice Ao33 t289.length co33 : Value).ownBlock ∧ some k_ ≠ (.slice Ao35 t292.length co35 : Value).ownBlock ∧ some k_ ≠ (.slice Ao37 t295.length co37 : Value).ownBlock)) (by (with_reducible repeat (first | apply Kd.R_alloc | apply Kd.R_drewN | apply Kd.R_drew)); exact Kd.R_mono (fR7x48 HO_274006.out BK299.out (by decide)) (fun _ hk => ⟨⟨hk.2.2.2.1, hk.1, hk.2.1, hk.2.2.1⟩, hk.2.2.2.2⟩)) hg hat); replace BK273 := am (blk_grown (g := gb273) (o := .cells #[.int .i64 x274000_1, .int .i64 x274001_1, .string x274002_1, .int .i64 x274003_1, .bool x274004_1, .slice Ao21 x274005_1.length co21, .slice Ao22 x274006_1.length co22] 29 (0, 0)) (by (with_reducible repeat (first | refine blk_drewN ?_ _ | refine blk_drew ?_ | refine blk_alloc ?_ _)); exact (fa7x48 (pkK BK273.out) NB273_299.out)) hg (Kd.R_ne HO_4.out BK273.out (by decide))); replace HO291 := am (Kd.R_after (ok := (fun k_ => some k_ ≠ (.slice Ao21 x274005_1.length co21 : Value).ownBlock ∧ some k_ ≠ (.slice Ao22 x274006_1.length co22 : Value).ownBlock ∧ some k_ ≠ (.slice Ao35 t292.length co35 : Value).ownBlock ∧ some k_ ≠ (.slice Ao37 t295.length co37 : Value).ownBlock)) (by (with_reducible repeat (first | apply Kd.R_alloc | apply Kd.R_drewN | apply Kd.R_drew)); exact Kd.R_mono (fR7x48 HO291.out BK299.out (by decide)) (fun _ hk => ⟨⟨hk.2.2.1, hk.2.2.2.1, hk.1, hk.2.1⟩, hk.2.2.2.2⟩)) hg hat); replace HO294 := am (Kd.R_after (ok := (fun k_ => some k_ ≠ (.slice Ao21 x274005_1.length co21 : Value).ownBlock ∧ some k_ ≠ (.slice Ao22 x274006_1.length co22 : Value).ownBlock ∧ some k_ ≠ (.slice Ao33 t289.length co33 : Value).ownBlock ∧ some k_ ≠ (.slice Ao37 t295.length co37 : Value).ownBlock)) (by (with_reducible repeat (first | apply Kd.R_alloc | apply Kd.R_drewN | apply Kd.R_drew)); exact Kd.R_mono (fR7x48 HO294.out BK299.out (by decide)) (fun _ hk => ⟨⟨hk.2.2.1, hk.2.2.2.1, hk.1, hk.2.1⟩, hk.2.2.2.2⟩)) hg hat); replace HO297 := am (Kd.R_after (ok := (fun k_ => some k_ ≠ (.slice Ao21 x274005_1.length co21 : Value).ownBlock ∧ some k_ ≠ (.slice Ao22 x274006_1.length co22 : Value).ownBlock ∧ some k_ ≠ (.slice Ao33 t289.length co33 : Value).ownBlock ∧ some k_ ≠ (.slice Ao35 t292.length co35 : Value).ownBlock)) (by (with_reducible repeat (first | apply Kd.R_alloc | apply Kd.R_drewN | apply Kd.R_drew)); exact Kd.R_mono (fR7x48 HO297.out BK299.out (by decide)) (fun _ hk => ⟨⟨hk.2.2.1, hk.2.2.2.1, hk.1, hk.2.1⟩, hk.2.2.2.2⟩)) hg hat); replace BK299 := am (blk_grown (g := gb299) (o := .cells #[.int .i64 t284, .int .i64 t285, .string t286, .int .i64 t287, .bool t288, .slice Ao33 t289.length co33, .slice Ao35 t292.length co35] 29 (0, 0)) (by (with_reducible repeat (first | refine blk_drewN ?_ _ | refine blk_drew ?_ | refine blk_alloc ?_ _)); exact (pt7x48 (pkK BK299.out))) hg (Kd.R_ne HO_4.out BK299.out (by decide))); replace HB := am (hb); have HO303 := am (ho); clear HO_4; clear ho hb hg hat; obtain ⟨hcz41_0, hcz41_1, hcz41_2, hcz41_3, hcz41_4, hcz41_5, hcz41_6, hfz41_0, hfz41_1, hfz41_2, hfz41_3, hfz41_4, hfz41_5, hfz41_6⟩ := bk7 BK299.out; obtain ⟨hcz42_0, hcz42_1, hcz42_2, hcz42_3, hcz42_4, hcz42_5, hcz42_6, hfz42_0, hfz42_1, hfz42_2, hfz42_3, hfz42_4, hfz42_5, hfz42_6⟩ := bk7 BK273.out))
          go_roundg k1
          case measure => have := HK1.out; omega
          case rel => exact ⟨(y301), (x5_1), (x6_1), (x7_1), (wrap64 (x8_1 + 1)), (t284), (t285), (t286), (t287), (t288), (t289), (t292), (.slice Ao33 t289.length co33), (.slice Ao35 t292.length co35), rfx, rfx, rfx, rfx, H', ⟨by have := HK1.out; omega⟩, ⟨by (with_reducible repeat (first | apply Kd.R_alloc | apply Kd.R_drewN | apply Kd.R_drew)); exact Kd.R_mono (fR7x48 HO303.out BK273.out (by decide)) (fun _ hk => ⟨hk.2.2.1, hk.2.2.2.1⟩)⟩, ⟨by (with_reducible repeat (first | apply Kd.R_alloc | apply Kd.R_drewN | apply Kd.R_drew)); exact Kd.R_mono (fR7x48 HO291.out BK273.out (by decide)) (fun _ hk => ⟨hk.2, hk.1.2.2.1⟩)⟩, ⟨by (with_reducible repeat (first | apply Kd.R_alloc | apply Kd.R_drewN | apply Kd.R_drew)); exact Kd.R_mono (fR7x48 HO294.out BK273.out (by decide)) (fun _ hk => ⟨hk.2, hk.1.2.2.1⟩)⟩, ⟨by (with_reducible repeat (first | refine blk_drewN ?_ _ | refine blk_drew ?_ | refine blk_alloc ?_ _)); exact (pt7x48 (pkK BK273.out))⟩, ⟨pkW HB.out⟩⟩
         ·rw [if_neg c20] at H
          exact absurd H (by simp)
       ·rw [if_neg c17] at H
        have c17b0 : (x7_1 != ((t295.length : Int) == 1)) = false := by simpa using c17
        (try (have c17b1 : decide (x7_1 = ((t295.length : Int) == 1)) = true := by simpa using c17))
        (try (have c17b2 : (x7_1 == ((t295.length : Int) == 1)) = true := by first | exact bq_t c17 | exact bq_f c17 | simpa using c17))
        clear c17
        replace H := Option.bind_eq_some_iff.mp H
        obtain ⟨t304, A430, H⟩ := H
        replace H : (if x4_1.length < 17592186044416 then (laws_FnSees.l0 k1 l0 (x4_1 ++ [t304]) x5_1 x6_1 x7_1 (wrap64 (x8_1 + 1)) t284 t285 t286 t287 t288 t289 t292) else (none)) = some r := H
        have A43 := am A430
        clear A430
        by_cases c44 : x4_1.length < 17592186044416
        ·rw [if_pos c44] at H
         have LMc44 := am c44
         clear c44
         obtain ⟨y305, hy305⟩ : ∃ y_ : List Int, y_ = (x4_1 ++ [t304]) := ⟨_, rfl⟩
         replace H : (laws_FnSees.l0 k1 l0 y305 x5_1 x6_1 x7_1 (wrap64 (x8_1 + 1)) t284 t285 t286 t287 t288 t289 t292) = some r := by first | (rw [hy305]; with_reducible exact H) | (have H2_ := (Option.bind_some _ _).symm.trans H; rw [hy305]; with_reducible exact H2_) | (have H2_ := (Option.bind_some _ _).symm.trans H; with_reducible exact H2_) | with_reducible exact H | (rw [hy305]; exact H) | exact H
         have Ny305 := am hy305
         clear hy305
         have H' := am H
         clear H
         try go_wp2_with (first | ((with_reducible refine gate_callee (f := 17) rfl ?_); refine goesL_ (some 32) rfl rfl Try.func17 (by kernel_rfl) rfl #[.slice A0 l0.length c0, .int .i64 x8_1] rfl mpx ?_; (with_reducible refine (laws_at.calls _ _ l0 x8_1 t279 _ ?side1 ?side2 A11.out).mono ?_); (case side1 => exact pkC (Kd.C_below HR0.out HB.out)); (case side2 => exact HC0.out); rintro e w' ⟨rfl, nd, rfl⟩; refine ⟨_, rfl, ?_⟩; (try (rw [drewN_self wr]; generalize hq_ : World.drewN wr _ = wr; replace HO_274005 : Aside0 (Kd.R (Kd.int .i64) 3 wr w.heap.size (fun k_ => (some k_ ≠ (u4 : Value).ownBlock ∧ some k_ ≠ (u274006 : Value).ownBlock)) u274005 x274005_1) := ⟨by rw [← hq_]; exact (pkR HO_274005.out)⟩; replace HO_274006 : Aside0 (Kd.R (Kd.int .i64) 3 wr w.heap.size (fun k_ => (some k_ ≠ (u4 : Value).ownBlock ∧ some k_ ≠ (u274005 : Value).ownBlock)) u274006 x274006_1) := ⟨by rw [← hq_]; exact (pkR HO_274006.out)⟩; replace HO_4 : Aside0 (Kd.R (Kd.int .i64) 3 wr w.heap.size (fun k_ => (some k_ ≠ (u274005 : Value).ownBlock ∧ some k_ ≠ (u274006 : Value).ownBlock)) u4 x4_1) := ⟨by rw [← hq_]; exact (pkR HO_4.out)⟩; replace BK273 : Aside0 (wr.heap[gb273]? = some (.cells #[.int .i64 x274000_1, .int .i64 x274001_1, .string x274002_1, .int .i64 x274003_1, .bool x274004_1, u274005, u274006] 29 (0, 0))) := ⟨by rw [← hq_]; exact (pkK BK273.out)⟩; replace HB : Aside0 (Below w.heap.size w wr) := ⟨by rw [← hq_]; exact (pkW HB.out)⟩; clear hq_)); obtain ⟨Ao45, co45, eo45⟩ := Kd.R_slice HO_274005.out; subst eo45; obtain ⟨Ao46, co46, eo46⟩ := Kd.R_slice HO_274006.out; subst eo46))
         replace HO_4 := am (Kd.R_drew HO_4.out)
         replace HO_274005 := am (Kd.R_drew HO_274005.out)
         replace HO_274006 := am (Kd.R_drew HO_274006.out)
         replace BK273 := am (blk_drew BK273.out)
         replace HB := am (below_drew1 HB.out)
         refine start_ (n := 16) (S := fun w' => w'.cell? ⟨gb273, 0, none⟩ = some (.int .i64 x274000_1) ∧ w'.cell? ⟨gb273, 1, none⟩ = some (.int .i64 x274001_1) ∧ w'.cell? ⟨gb273, 2, none⟩ = some (.string x274002_1) ∧ w'.cell? ⟨gb273, 3, none⟩ = some (.int .i64 x274003_1) ∧ w'.cell? ⟨gb273, 4, none⟩ = some (.bool x274004_1) ∧ w'.cell? ⟨gb273, 5, none⟩ = some (.slice Ao45 x274005_1.length co45) ∧ w'.cell? ⟨gb273, 6, none⟩ = some (.slice Ao46 x274006_1.length co46)) (ds := []) #[false, false, false, false, false, false, false, false, false, false, false, false, false, false, false, false] (by kernel_rfl) rfl rfl (bc7 BK273.out) (fun hHeld => ?_); refine with_tabW laws_FnSees.tab10 laws_FnSees.bits10 (fun HT_ HW_ => ?_)
         generalize wr.drew = w47 at HO_4 HO_274005 HO_274006 BK273 HB hHeld ⊢
         refine pure_ (i := 1) (N := some 37) (v := ?_) (a' := ?_) #[false, true, false, false, false, false, false, false, false, false, false, false, false, false, false, false] rfl rfl (ayo HT_.out) (fun _ _ _ h => h) (Or.inl ⟨by rfl, ?_⟩) ?_ ?_; rotate_left; (intro w'; go_simp; with_reducible rfl); rotate_left; (simp only [Act.put, List.setIfInBounds_toArray, List.set_cons_zero, List.set_cons_succ, i64_w, i32_w]; rfl)
         refine pure_ (i := 2) (N := some 38) (v := ?_) (a' := ?_) #[false, true, true, false, false, false, false, false, false, false, false, false, false, false, false, false] rfl rfl (ayo HT_.out) (fun _ _ _ h => h) (Or.inl ⟨by rfl, ?_⟩) ?_ ?_; rotate_left; (intro w'; go_simp; with_reducible rfl); rotate_left; (simp only [Act.put, List.setIfInBounds_toArray, List.set_cons_zero, List.set_cons_succ, i64_w, i32_w]; rfl)
         refine pure_ (i := 3) (N := some 39) (v := ?_) (a' := ?_) #[false, true, true, true, false, false, false, false, false, false, false, false, false, false, false, false] rfl rfl (ayo HT_.out) (fun _ _ _ h => h) (Or.inl ⟨by rfl, ?_⟩) ?_ ?_; rotate_left; (intro w'; go_simp; with_reducible rfl); rotate_left; (simp only [Act.put, List.setIfInBounds_toArray, List.set_cons_zero, List.set_cons_succ, i64_w, i32_w]; rfl)
         refine take_ (i := 0) (N := some 36) (v := ?_) (a' := ?_) #[true, true, true, true, false, false, false, false, false, false, false, false, false, false, false, false] rfl rfl (take_ofW HT_.out HW_.out (by kernel_rfl)) (fun _ _ _ h => h) (Or.inl ⟨by rfl, ?_⟩) hHeld ?_ ?_
         rotate_left
         ·rintro w' ⟨s0, s1, s2, s3, s4, s5, s6⟩
          go_simp
          with_reducible rfl
         rotate_left
         ·simp only [Act.put, List.setIfInBounds_toArray, List.set_cons_zero, List.set_cons_succ, i64_w, i32_w]
          rfl
         refine join_ (σ := Value × Value × Value × Nat) 3 #[true, true, true, true, true, true, true, true, true, true, true, true, true, false, false, false] (fun s_ => [(40, .int .i64 t280), (41, .agg #[.int .i64 t281, .int .i64 t282, .string t283]), (43, .tuple #[.agg #[.int .i64 t284, .int .i64 t285, .string t286, .int .i64 t287, .bool t288, s_.1, s_.2.1], s_.2.2.1, .int .i64 t298]), (9, .pointer (some ⟨s_.2.2.2, 0, none⟩)), (42, .agg #[.int .i64 1, .int .i64 t281, .int .i64 t282, .string t283]), (35, .tuple #[.agg #[.int .i64 t284, .int .i64 t285, .string t286, .int .i64 t287, .bool t288, s_.1, s_.2.1], s_.2.2.1, .int .i64 t298]), (44, .agg #[.int .i64 t284, .int .i64 t285, .string t286, .int .i64 t287, .bool t288, s_.1, s_.2.1]), (45, s_.2.2.1), (46, .int .i64 t298)]) (fun s_ w' => (w'.cell? ⟨gb273, 0, none⟩ = some (.int .i64 x274000_1) ∧ w'.cell? ⟨gb273, 1, none⟩ = some (.int .i64 x274001_1) ∧ w'.cell? ⟨gb273, 2, none⟩ = some (.string x274002_1) ∧ w'.cell? ⟨gb273, 3, none⟩ = some (.int .i64 x274003_1) ∧ w'.cell? ⟨gb273, 4, none⟩ = some (.bool x274004_1) ∧ w'.cell? ⟨gb273, 5, none⟩ = some (.slice Ao45 x274005_1.length co45) ∧ w'.cell? ⟨gb273, 6, none⟩ = some (.slice Ao46 x274006_1.length co46)) ∧ (Kd.R (Kd.int .i64) 3 w' w.heap.size (fun k_ => some k_ ≠ (s_.2.1 : Value).ownBlock ∧ some k_ ≠ (s_.2.2.1 : Value).ownBlock ∧ some k_ ≠ (.slice Ao45 x274005_1.length co45 : Value).ownBlock ∧ some k_ ≠ (.slice Ao46 x274006_1.length co46 : Value).ownBlock ∧ some k_ ≠ (u4 : Value).ownBlock) s_.1 t289) ∧ (Kd.R (Kd.int .i64) 3 w' w.heap.size (fun k_ => some k_ ≠ (s_.1 : Value).ownBlock ∧ some k_ ≠ (s_.2.2.1 : Value).ownBlock ∧ some k_ ≠ (.slice Ao45 x274005_1.length co45 : Value).ownBlock ∧ some k_ ≠ (.slice Ao46 x274006_1.length co46 : Value).ownBlock ∧ some k_ ≠ (u4 : Value).ownBlock) s_.2.1 t292) ∧ (Kd.R (Kd.int .i64) 3 w' w.heap.size (fun k_ => some k_ ≠ (s_.1 : Value).ownBlock ∧ some k_ ≠ (s_.2.1 : Value).ownBlock ∧ some k_ ≠ (.slice Ao45 x274005_1.length co45 : Value).ownBlock ∧ some k_ ≠ (.slice Ao46 x274006_1.length co46 : Value).ownBlock ∧ some k_ ≠ (u4 : Value).ownBlock) s_.2.2.1 t295) ∧ (Kd.R (Kd.int .i64) 3 w' w.heap.size (fun k_ => some k_ ≠ (s_.1 : Value).ownBlock ∧ some k_ ≠ (s_.2.1 : Value).ownBlock ∧ some k_ ≠ (s_.2.2.1 : Value).ownBlock ∧ some k_ ≠ (.slice Ao46 x274006_1.length co46 : Value).ownBlock ∧ some k_ ≠ (u4 : Value).ownBlock) (.slice Ao45 x274005_1.length co45) x274005_1) ∧ (Kd.R (Kd.int .i64) 3 w' w.heap.size (fun k_ => some k_ ≠ (s_.1 : Value).ownBlock ∧ some k_ ≠ (s_.2.1 : Value).ownBlock ∧ some k_ ≠ (s_.2.2.1 : Value).ownBlock ∧ some k_ ≠ (.slice Ao45 x274005_1.length co45 : Value).ownBlock ∧ some k_ ≠ (u4 : Value).ownBlock) (.slice Ao46 x274006_1.length co46) x274006_1) ∧ (Kd.R (Kd.int .i64) 3 w' w.heap.size (fun k_ => some k_ ≠ (s_.1 : Value).ownBlock ∧ some k_ ≠ (s_.2.1 : Value).ownBlock ∧ some k_ ≠ (s_.2.2.1 : Value).ownBlock ∧ some k_ ≠ (.slice Ao45 x274005_1.length co45 : Value).ownBlock ∧ some k_ ≠ (.slice Ao46 x274006_1.length co46 : Value).ownBlock) u4 x4_1) ∧ (w'.heap[gb273]? = some (.cells #[.int .i64 x274000_1, .int .i64 x274001_1, .string x274002_1, .int .i64 x274003_1, .bool x274004_1, .slice Ao45 x274005_1.length co45, .slice Ao46 x274006_1.length co46] 29 (0, 0))) ∧ (w'.heap[s_.2.2.2]? = some (.cells #[.int .i64 0, .int .i64 0, .string (⟨#[]⟩ : ByteArray), .int .i64 0, .bool false, .slice none 0 0, .slice none 0 0] 29 (0, 0))) ∧ (w.heap.size ≤ s_.2.2.2) ∧ (w.heap.size ≤ s_.2.2.2) ∧ (gb273 ≠ s_.2.2.2) ∧ (s_.2.2.2 ≠ gb273) ∧ (Below w.heap.size w w')) ?_ ?_
         rotate_left
         ·intro hCont
          refine two_ (i := 4) (j := 12) (Ni := some 40) (Nj := some 9) #[true, true, true, true, true, false, false, false, false, false, false, false, false, false, false, false] #[true, true, true, true, false, false, false, false, false, false, false, false, true, false, false, false] rfl rfl rfl rfl (two_of HT_.out (by kernel_rfl)) (by decide) (by decide) (fun K hK => ?_) (fun K hK => ?_)
          ·skip
           refine goes_ Try.func17 (by kernel_rfl) rfl #[.slice A0 l0.length c0, .int .i64 (wrap64 (x8_1 + 31))] (by rfl) rfl rfl mpx ?_
           with_reducible refine (laws_at.calls _ _ l0 (wrap64 (x8_1 + 31)) t280 _ ?side1 ?side2 A13.out).mono ?_
           (case side1 => exact pkC (Kd.C_below HR0.out HB.out))
           (case side2 => exact HC0.out)
           rintro e w' ⟨rfl, nd, rfl⟩
           refine ⟨_, rfl, ?_⟩
           refine hK.out _ _ (bc7 BK273.out) (fun hHeld => ?_)
           clear hK K
           refine norm_ (a' := ?_) ?_ ?_
           rotate_left
           ·show Act.put _ (some 40) _ = _
            simp only [Act.put, List.setIfInBounds_toArray, List.set_cons_zero, List.set_cons_succ, i64_w, i32_w]
            rfl
           refine two_ (i := 5) (j := 12) (Ni := some 41) (Nj := some 9) #[true, true, true, true, true, true, false, false, false, false, false, false, false, false, false, false] #[true, true, true, true, true, false, false, false, false, false, false, false, true, false, false, false] rfl rfl rfl rfl (two_of HT_.out (by kernel_rfl)) (by decide) (by decide) (fun K hK => ?_) (fun K hK => ?_)
           ·skip
            refine goes_ Try.func16 (by kernel_rfl) rfl #[.int .i64 t280] (by rfl) rfl rfl mpx ?_
            with_reducible refine (laws_num.calls t280 t281 t282 t283 _ A14.out).mono ?_
            rintro e w48 ⟨rfl, hb⟩
            refine ⟨_, rfl, ?_⟩
            replace HO_4 := rbl HO_4 hb
            replace HO_274005 := rbl HO_274005 hb
            replace HO_274006 := rbl HO_274006 hb
            replace BK273 := bbk BK273 hb
            replace HB := bst HB hb
            (try clear hb)
            refine hK.out _ _ (bc7 BK273.out) (fun hHeld => ?_)
            clear hK K
            refine norm_ (a' := ?_) ?_ ?_
            rotate_left
            ·show Act.put _ (some 41) _ = _
             simp only [Act.put, List.setIfInBounds_toArray, List.set_cons_zero, List.set_cons_succ, i64_w, i32_w]
             rfl
            refine pure_ (i := 6) (N := some 42) (v := ?_) (a' := ?_) #[true, true, true, true, true, true, true, false, false, false, false, false, false, false, false, false] rfl rfl (ayo HT_.out) (fun _ _ _ h => h) (Or.inl ⟨by rfl, ?_⟩) ?_ ?_; rotate_left; (intro w'; go_simp; with_reducible rfl); rotate_left; (simp only [Act.put, List.setIfInBounds_toArray, List.set_cons_zero, List.set_cons_succ, i64_w, i32_w]; rfl)
            refine two_ (i := 7) (j := 12) (Ni := some 43) (Nj := some 9) #[true, true, true, true, true, true, true, true, false, false, false, false, false, false, false, false] #[true, true, true, true, true, true, true, false, false, false, false, false, true, false, false, false] rfl rfl rfl rfl (two_of HT_.out (by kernel_rfl)) (by decide) (by decide) (fun K hK => ?_) (fun K hK => ?_)
            ·skip
             refine goes_ Try.func18 (by kernel_rfl) rfl #[.agg #[.int .i64 x274000_1, .int .i64 x274001_1, .string x274002_1, .int .i64 x274003_1, .bool x274004_1, .slice Ao45 x274005_1.length co45, .slice Ao46 x274006_1.length co46], .agg #[.int .i64 1, .int .i64 t281, .int .i64 t282, .string t283]] (by rfl) rfl rfl mpx ?_
             with_reducible refine (impl_Update.calls k1 x274000_1 x274001_1 x274002_1 x274003_1 x274004_1 _ _ x274005_1 _ _ x274006_1 1 t281 t282 t283 t284 t285 t286 t287 t288 t289 t292 t295 t298 _ ?side1 ?side2 ?side3 ?side4 A15.out).mono ?_
             (case side1 => exact pkC (Kd.R_reads' HO_274005.out).2.2)
             (case side2 => exact (Kd.R_reads' HO_274005.out).2.1)
             (case side3 => exact pkC (Kd.R_reads' HO_274006.out).2.2)
             (case side4 => exact (Kd.R_reads' HO_274006.out).2.1)
             rintro e w49 ⟨v290, v293, v296, rfl, ho0, ho1, ho2, hb⟩
             refine ⟨_, rfl, ?_⟩
             have HO291 := am (Kd.R_lower (Kd.R_new' (Kd.R_new' (Kd.R_new' ho0 (Kd.R_lt (pkR HO_4.out))) (Kd.R_lt (pkR HO_274005.out))) (Kd.R_lt (pkR HO_274006.out))) (below_size (pkW HB.out)))
             have HO294 := am (Kd.R_lower (Kd.R_new' (Kd.R_new' (Kd.R_new' ho1 (Kd.R_lt (pkR HO_4.out))) (Kd.R_lt (pkR HO_274005.out))) (Kd.R_lt (pkR HO_274006.out))) (below_size (pkW HB.out)))
             have HO297 := am (Kd.R_lower (Kd.R_new' (Kd.R_new' (Kd.R_new' ho2 (Kd.R_lt (pkR HO_4.out))) (Kd.R_lt (pkR HO_274005.out))) (Kd.R_lt (pkR HO_274006.out))) (below_size (pkW HB.out)))
             replace HO_4 := am (Kd.R_mono (Kd.R_told (Kd.R_told (Kd.R_told (Kd.R_old (pkR HO_4.out) hb) (Kd.R_base ho0)) (Kd.R_base ho1)) (Kd.R_base ho2)) (fun _ h_ => h_.1))
             replace HO_274005 := am (Kd.R_mono (Kd.R_told (Kd.R_told (Kd.R_told (Kd.R_old (pkR HO_274005.out) hb) (Kd.R_base ho0)) (Kd.R_base ho1)) (Kd.R_base ho2)) (fun _ h_ => h_.1))
             replace HO_274006 := am (Kd.R_mono (Kd.R_told (Kd.R_told (Kd.R_told (Kd.R_old (pkR HO_274006.out) hb) (Kd.R_base ho0)) (Kd.R_base ho1)) (Kd.R_base ho2)) (fun _ h_ => h_.1))
             replace BK273 := bbk BK273 hb
             replace HB := bst HB hb
             (try clear hb); (try clear ho0 ho1 ho2)
             refine hK.out _ _ (bc7 BK273.out) (fun hHeld => ?_)
             clear hK K
             refine norm_ (a' := ?_) ?_ ?_
             rotate_left
             ·show Act.put _ (some 43) _ = _
              simp only [Act.put, List.setIfInBounds_toArray, List.set_cons_zero, List.set_cons_succ, i64_w, i32_w]
              rfl
             refine pure_ (i := 8) (N := some 35) (v := ?_) (a' := ?_) #[true, true, true, true, true, true, true, true, true, false, false, false, false, false, false, false] rfl rfl (ayo HT_.out) (fun _ _ _ h => h) (Or.inl ⟨by rfl, ?_⟩) ?_ ?_; rotate_left; (intro w'; go_simp; with_reducible rfl); rotate_left; (simp only [Act.put, List.setIfInBounds_toArray, List.set_cons_zero, List.set_cons_succ, i64_w, i32_w]; rfl)
             refine pure_ (i := 9) (N := some 44) (v := ?_) (a' := ?_) #[true, true, true, true, true, true, true, true, true, true, false, false, false, false, false, false] rfl rfl (ayo HT_.out) (fun _ _ _ h => h) (Or.inl ⟨by rfl, ?_⟩) ?_ ?_; rotate_left; (intro w'; go_simp; with_reducible rfl); rotate_left; (simp only [Act.put, List.setIfInBounds_toArray, List.set_cons_zero, List.set_cons_succ, i64_w, i32_w]; rfl)
             refine pure_ (i := 10) (N := some 45) (v := ?_) (a' := ?_) #[true, true, true, true, true, true, true, true, true, true, true, false, false, false, false, false] rfl rfl (ayo HT_.out) (fun _ _ _ h => h) (Or.inl ⟨by rfl, ?_⟩) ?_ ?_; rotate_left; (intro w'; go_simp; with_reducible rfl); rotate_left; (simp only [Act.put, List.setIfInBounds_toArray, List.set_cons_zero, List.set_cons_succ, i64_w, i32_w]; rfl)
             refine pure_ (i := 11) (N := some 46) (v := ?_) (a' := ?_) #[true, true, true, true, true, true, true, true, true, true, true, true, false, false, false, false] rfl rfl (ayo HT_.out) (fun _ _ _ h => h) (Or.inl ⟨by rfl, ?_⟩) ?_ ?_; rotate_left; (intro w'; go_simp; with_reducible rfl); rotate_left; (simp only [Act.put, List.setIfInBounds_toArray, List.set_cons_zero, List.set_cons_succ, i64_w, i32_w]; rfl)
             refine one_ (i := 12) (N := some 9) #[true, true, true, true, true, true, true, true, true, true, true, true, true, false, false, false] rfl rfl (one_of HT_.out (by kernel_rfl)) (by decide) (fun K hK => ?_)
             refine box_step ?hg (N := 9) ?hd (cs := #[.int .i64 0, .int .i64 0, .string (⟨#[]⟩ : ByteArray), .int .i64 0, .bool false, .slice none 0 0, .slice none 0 0]) (t := 29) ?hr ?_; (case hd => rfl); (case hg => rfl); (case hr => first | (go_simp; done) | (go_simp; rfl))
             intro gb299 hg w50 hbox hb
             replace HO_4 := rbl HO_4 hb
             replace HO_274005 := rbl HO_274005 hb
             replace HO_274006 := rbl HO_274006 hb
             replace HO291 := rbl HO291 hb
             replace HO294 := rbl HO294 hb
             replace HO297 := rbl HO297 hb
             have BK299 := am (hbox)
             have GW299 := am ((by rw [hg]; exact (below_size (pkW HB.out)) : w.heap.size ≤ gb299))
             have GE299 := am ((by rw [hg]; exact (below_size (pkW HB.out)) : w.heap.size ≤ gb299))
             replace HB := bst HB hb
             have NB273_299 := am ((by rw [hg]; exact Nat.ne_of_lt (blk_lt (g := gb273) (o := .cells #[.int .i64 x274000_1, .int .i64 x274001_1, .string x274002_1, .int .i64 x274003_1, .bool x274004_1, .slice Ao45 x274005_1.length co45, .slice Ao46 x274006_1.length co46] 29 (0, 0)) (pkK BK273.out)) : gb273 ≠ gb299))
             have NB299_273 := am ((by rw [hg]; exact Nat.ne_of_gt (blk_lt (g := gb273) (o := .cells #[.int .i64 x274000_1, .int .i64 x274001_1, .string x274002_1, .int .i64 x274003_1, .bool x274004_1, .slice Ao45 x274005_1.length co45, .slice Ao46 x274006_1.length co46] 29 (0, 0)) (pkK BK273.out)) : gb299 ≠ gb273))
             replace BK273 := bbk BK273 hb
             clear hb hbox hg
             refine hK.out _ _ (bc7 BK273.out) (fun hHeld => ?_)
             clear hK K
             refine norm_ (a' := ?_) ?_ ?_
             rotate_left
             ·show Act.put _ (some 9) _ = _
              simp only [Act.put, List.setIfInBounds_toArray, List.set_cons_zero, List.set_cons_succ, i64_w, i32_w]
              rfl
             exact norm_ (by simp only [putAll, Act.put, List.setIfInBounds_toArray, List.set_cons_zero, List.set_cons_succ]) (hCont (v290, v293, v296, gb299) _ ⟨hHeld, (by (with_reducible repeat (first | apply Kd.R_alloc | apply Kd.R_drewN | apply Kd.R_drew)); exact Kd.R_mono HO291.out (fun _ hk => ⟨hk.1.1.1.1, hk.1.1.1.2, hk.1.2, hk.2, hk.1.1.2⟩)), (by (with_reducible repeat (first | apply Kd.R_alloc | apply Kd.R_drewN | apply Kd.R_drew)); exact Kd.R_mono HO294.out (fun _ hk => ⟨hk.1.1.1.1, hk.1.1.1.2, hk.1.2, hk.2, hk.1.1.2⟩)), (by (with_reducible repeat (first | apply Kd.R_alloc | apply Kd.R_drewN | apply Kd.R_drew)); exact Kd.R_mono HO297.out (fun _ hk => ⟨hk.1.1.1.1, hk.1.1.1.2, hk.1.2, hk.2, hk.1.1.2⟩)), (by (with_reducible repeat (first | apply Kd.R_alloc | apply Kd.R_drewN | apply Kd.R_drew)); exact Kd.R_mono HO_274005.out (fun _ hk => ⟨hk.1.1.2, hk.1.2, hk.2, hk.1.1.1.2, hk.1.1.1.1⟩)), (by (with_reducible repeat (first | apply Kd.R_alloc | apply Kd.R_drewN | apply Kd.R_drew)); exact Kd.R_mono HO_274006.out (fun _ hk => ⟨hk.1.1.2, hk.1.2, hk.2, hk.1.1.1.2, hk.1.1.1.1⟩)), (by (with_reducible repeat (first | apply Kd.R_alloc | apply Kd.R_drewN | apply Kd.R_drew)); exact Kd.R_mono HO_4.out (fun _ hk => ⟨hk.1.1.2, hk.1.2, hk.2, hk.1.1.1.1, hk.1.1.1.2⟩)), (pkK BK273.out), (pkK BK299.out), GW299.out, GE299.out, NB273_299.out, NB299_273.out, (pkW HB.out)⟩)
            ·skip
             refine box_step ?hg (N := 9) ?hd (cs := #[.int .i64 0, .int .i64 0, .string (⟨#[]⟩ : ByteArray), .int .i64 0, .bool false, .slice none 0 0, .slice none 0 0]) (t := 29) ?hr ?_; (case hd => rfl); (case hg => rfl); (case hr => first | (go_simp; done) | (go_simp; rfl))
             intro gb299 hg w49 hbox hb
             replace HO_4 := rbl HO_4 hb
             replace HO_274005 := rbl HO_274005 hb
             replace HO_274006 := rbl HO_274006 hb
             have BK299 := am (hbox)
             have GW299 := am ((by rw [hg]; exact (below_size (pkW HB.out)) : w.heap.size ≤ gb299))
             have GE299 := am ((by rw [hg]; exact (below_size (pkW HB.out)) : w.heap.size ≤ gb299))
             replace HB := bst HB hb
             have NB273_299 := am ((by rw [hg]; exact Nat.ne_of_lt (blk_lt (g := gb273) (o := .cells #[.int .i64 x274000_1, .int .i64 x274001_1, .string x274002_1, .int .i64 x274003_1, .bool x274004_1, .slice Ao45 x274005_1.length co45, .slice Ao46 x274006_1.length co46] 29 (0, 0)) (pkK BK273.out)) : gb273 ≠ gb299))
             have NB299_273 := am ((by rw [hg]; exact Nat.ne_of_gt (blk_lt (g := gb273) (o := .cells #[.int .i64 x274000_1, .int .i64 x274001_1, .string x274002_1, .int .i64 x274003_1, .bool x274004_1, .slice Ao45 x274005_1.length co45, .slice Ao46 x274006_1.length co46] 29 (0, 0)) (pkK BK273.out)) : gb299 ≠ gb273))
             replace BK273 := bbk BK273 hb
             clear hb hbox hg
             refine hK.out _ _ (bc7 BK273.out) (fun hHeld => ?_)
             clear hK K
             refine norm_ (a' := ?_) ?_ ?_
             rotate_left
             ·show Act.put _ (some 9) _ = _
              simp only [Act.put, List.setIfInBounds_toArray, List.set_cons_zero, List.set_cons_succ, i64_w, i32_w]
              rfl
             refine one_ (i := 7) (N := some 43) #[true, true, true, true, true, true, true, true, false, false, false, false, true, false, false, false] rfl rfl (one_of HT_.out (by kernel_rfl)) (by decide) (fun K hK => ?_)
             refine goes_ Try.func18 (by kernel_rfl) rfl #[.agg #[.int .i64 x274000_1, .int .i64 x274001_1, .string x274002_1, .int .i64 x274003_1, .bool x274004_1, .slice Ao45 x274005_1.length co45, .slice Ao46 x274006_1.length co46], .agg #[.int .i64 1, .int .i64 t281, .int .i64 t282, .string t283]] (by rfl) rfl rfl mpx ?_
             with_reducible refine (impl_Update.calls k1 x274000_1 x274001_1 x274002_1 x274003_1 x274004_1 _ _ x274005_1 _ _ x274006_1 1 t281 t282 t283 t284 t285 t286 t287 t288 t289 t292 t295 t298 _ ?side1 ?side2 ?side3 ?side4 A15.out).mono ?_
             (case side1 => exact pkC (Kd.R_reads' HO_274005.out).2.2)
             (case side2 => exact (Kd.R_reads' HO_274005.out).2.1)
             (case side3 => exact pkC (Kd.R_reads' HO_274006.out).2.2)
             (case side4 => exact (Kd.R_reads' HO_274006.out).2.1)
             rintro e w50 ⟨v290, v293, v296, rfl, ho0, ho1, ho2, hb⟩
             refine ⟨_, rfl, ?_⟩
             have HO291 := am (Kd.R_lower (Kd.R_new' (Kd.R_new' (Kd.R_new' ho0 (Kd.R_lt (pkR HO_4.out))) (Kd.R_lt (pkR HO_274005.out))) (Kd.R_lt (pkR HO_274006.out))) (below_size (pkW HB.out)))
             have HO294 := am (Kd.R_lower (Kd.R_new' (Kd.R_new' (Kd.R_new' ho1 (Kd.R_lt (pkR HO_4.out))) (Kd.R_lt (pkR HO_274005.out))) (Kd.R_lt (pkR HO_274006.out))) (below_size (pkW HB.out)))
             have HO297 := am (Kd.R_lower (Kd.R_new' (Kd.R_new' (Kd.R_new' ho2 (Kd.R_lt (pkR HO_4.out))) (Kd.R_lt (pkR HO_274005.out))) (Kd.R_lt (pkR HO_274006.out))) (below_size (pkW HB.out)))
             replace HO_4 := am (Kd.R_mono (Kd.R_told (Kd.R_told (Kd.R_told (Kd.R_old (pkR HO_4.out) hb) (Kd.R_base ho0)) (Kd.R_base ho1)) (Kd.R_base ho2)) (fun _ h_ => h_.1))
             replace HO_274005 := am (Kd.R_mono (Kd.R_told (Kd.R_told (Kd.R_told (Kd.R_old (pkR HO_274005.out) hb) (Kd.R_base ho0)) (Kd.R_base ho1)) (Kd.R_base ho2)) (fun _ h_ => h_.1))
             replace HO_274006 := am (Kd.R_mono (Kd.R_told (Kd.R_told (Kd.R_told (Kd.R_old (pkR HO_274006.out) hb) (Kd.R_base ho0)) (Kd.R_base ho1)) (Kd.R_base ho2)) (fun _ h_ => h_.1))
             replace BK273 := bbk BK273 hb
             replace BK299 := bbk BK299 hb
             replace HB := bst HB hb
             (try clear hb); (try clear ho0 ho1 ho2)
             refine hK.out _ _ (bc7 BK273.out) (fun hHeld => ?_)
             clear hK K
             refine norm_ (a' := ?_) ?_ ?_
             rotate_left
             ·show Act.put _ (some 43) _ = _
              simp only [Act.put, List.setIfInBounds_toArray, List.set_cons_zero, List.set_cons_succ, i64_w, i32_w]
              rfl
             refine pure_ (i := 8) (N := some 35) (v := ?_) (a' := ?_) #[true, true, true, true, true, true, true, true, true, false, false, false, true, false, false, false] rfl rfl (ayo HT_.out) (fun _ _ _ h => h) (Or.inl ⟨by rfl, ?_⟩) ?_ ?_; rotate_left; (intro w'; go_simp; with_reducible rfl); rotate_left; (simp only [Act.put, List.setIfInBounds_toArray, List.set_cons_zero, List.set_cons_succ, i64_w, i32_w]; rfl)
             refine pure_ (i := 9) (N := some 44) (v := ?_) (a' := ?_) #[true, true, true, true, true, true, true, true, true, true, false, false, true, false, false, false] rfl rfl (ayo HT_.out) (fun _ _ _ h => h) (Or.inl ⟨by rfl, ?_⟩) ?_ ?_; rotate_left; (intro w'; go_simp; with_reducible rfl); rotate_left; (simp only [Act.put, List.setIfInBounds_toArray, List.set_cons_zero, List.set_cons_succ, i64_w, i32_w]; rfl)
             refine pure_ (i := 10) (N := some 45) (v := ?_) (a' := ?_) #[true, true, true, true, true, true, true, true, true, true, true, false, true, false, false, false] rfl rfl (ayo HT_.out) (fun _ _ _ h => h) (Or.inl ⟨by rfl, ?_⟩) ?_ ?_; rotate_left; (intro w'; go_simp; with_reducible rfl); rotate_left; (simp only [Act.put, List.setIfInBounds_toArray, List.set_cons_zero, List.set_cons_succ, i64_w, i32_w]; rfl)
             refine pure_ (i := 11) (N := some 46) (v := ?_) (a' := ?_) #[true, true, true, true, true, true, true, true, true, true, true, true, true, false, false, false] rfl rfl (ayo HT_.out) (fun _ _ _ h => h) (Or.inl ⟨by rfl, ?_⟩) ?_ ?_; rotate_left; (intro w'; go_simp; with_reducible rfl); rotate_left; (simp only [Act.put, List.setIfInBounds_toArray, List.set_cons_zero, List.set_cons_succ, i64_w, i32_w]; rfl)
             exact norm_ (by simp only [putAll, Act.put, List.setIfInBounds_toArray, List.set_cons_zero, List.set_cons_succ]) (hCont (v290, v293, v296, gb299) _ ⟨hHeld, (by (with_reducible repeat (first | apply Kd.R_alloc | apply Kd.R_drewN | apply Kd.R_drew)); exact Kd.R_mono HO291.out (fun _ hk => ⟨hk.1.1.1.1, hk.1.1.1.2, hk.1.2, hk.2, hk.1.1.2⟩)), (by (with_reducible repeat (first | apply Kd.R_alloc | apply Kd.R_drewN | apply Kd.R_drew)); exact Kd.R_mono HO294.out (fun _ hk => ⟨hk.1.1.1.1, hk.1.1.1.2, hk.1.2, hk.2, hk.1.1.2⟩)), (by (with_reducible repeat (first | apply Kd.R_alloc | apply Kd.R_drewN | apply Kd.R_drew)); exact Kd.R_mono HO297.out (fun _ hk => ⟨hk.1.1.1.1, hk.1.1.1.2, hk.1.2, hk.2, hk.1.1.2⟩)), (by (with_reducible repeat (first | apply Kd.R_alloc | apply Kd.R_drewN | apply Kd.R_drew)); exact Kd.R_mono HO_274005.out (fun _ hk => ⟨hk.1.1.2, hk.1.2, hk.2, hk.1.1.1.2, hk.1.1.1.1⟩)), (by (with_reducible repeat (first | apply Kd.R_alloc | apply Kd.R_drewN | apply Kd.R_drew)); exact Kd.R_mono HO_274006.out (fun _ hk => ⟨hk.1.1.2, hk.1.2, hk.2, hk.1.1.1.2, hk.1.1.1.1⟩)), (by (with_reducible repeat (first | apply Kd.R_alloc | apply Kd.R_drewN | apply Kd.R_drew)); exact Kd.R_mono HO_4.out (fun _ hk => ⟨hk.1.1.2, hk.1.2, hk.2, hk.1.1.1.1, hk.1.1.1.2⟩)), (pkK BK273.out), (pkK BK299.out), GW299.out, GE299.out, NB273_299.out, NB299_273.out, (pkW HB.out)⟩)
           ·skip
            refine box_step ?hg (N := 9) ?hd (cs := #[.int .i64 0, .int .i64 0, .string (⟨#[]⟩ : ByteArray), .int .i64 0, .bool false, .slice none 0 0, .slice none 0 0]) (t := 29) ?hr ?_; (case hd => rfl); (case hg => rfl); (case hr => first | (go_simp; done) | (go_simp; rfl))
            intro gb299 hg w48 hbox hb
            replace HO_4 := rbl HO_4 hb
            replace HO_274005 := rbl HO_274005 hb
            replace HO_274006 := rbl HO_274006 hb
            have BK299 := am (hbox)
            have GW299 := am ((by rw [hg]; exact (below_size (pkW HB.out)) : w.heap.size ≤ gb299))
            have GE299 := am ((by rw [hg]; exact (below_size (pkW HB.out)) : w.heap.size ≤ gb299))
            replace HB := bst HB hb
            have NB273_299 := am ((by rw [hg]; exact Nat.ne_of_lt (blk_lt (g := gb273) (o := .cells #[.int .i64 x274000_1, .int .i64 x274001_1, .string x274002_1, .int .i64 x274003_1, .bool x274004_1, .slice Ao45 x274005_1.length co45, .slice Ao46 x274006_1.length co46] 29 (0, 0)) (pkK BK273.out)) : gb273 ≠ gb299))
            have NB299_273 := am ((by rw [hg]; exact Nat.ne_of_gt (blk_lt (g := gb273) (o := .cells #[.int .i64 x274000_1, .int .i64 x274001_1, .string x274002_1, .int .i64 x274003_1, .bool x274004_1, .slice Ao45 x274005_1.length co45, .slice Ao46 x274006_1.length co46] 29 (0, 0)) (pkK BK273.out)) : gb299 ≠ gb273))
            replace BK273 := bbk BK273 hb
            clear hb hbox hg
            refine hK.out _ _ (bc7 BK273.out) (fun hHeld => ?_)
            clear hK K
            refine norm_ (a' := ?_) ?_ ?_
            rotate_left
            ·show Act.put _ (some 9) _ = _
             simp only [Act.put, List.setIfInBounds_toArray, List.set_cons_zero, List.set_cons_succ, i64_w, i32_w]
             rfl
            refine one_ (i := 5) (N := some 41) #[true, true, true, true, true, true, false, false, false, false, false, false, true, false, false, false] rfl rfl (one_of HT_.out (by kernel_rfl)) (by decide) (fun K hK => ?_)
            refine goes_ Try.func16 (by kernel_rfl) rfl #[.int .i64 t280] (by rfl) rfl rfl mpx ?_
            with_reducible refine (laws_num.calls t280 t281 t282 t283 _ A14.out).mono ?_
            rintro e w49 ⟨rfl, hb⟩
            refine ⟨_, rfl, ?_⟩
            replace HO_4 := rbl HO_4 hb
            replace HO_274005 := rbl HO_274005 hb
            replace HO_274006 := rbl HO_274006 hb
            replace BK273 := bbk BK273 hb
            replace BK299 := bbk BK299 hb
            replace HB := bst HB hb
            (try clear hb)
            refine hK.out _ _ (bc7 BK273.out) (fun hHeld => ?_)
            clear hK K
            refine norm_ (a' := ?_) ?_ ?_
            rotate_left
            ·show Act.put _ (some 41) _ = _
             simp only [Act.put, List.setIfInBounds_toArray, List.set_cons_zero, List.set_cons_succ, i64_w, i32_w]
             rfl
            refine pure_ (i := 6) (N := some 42) (v := ?_) (a' := ?_) #[true, true, true, true, true, true, true, false, false, false, false, false, true, false, false, false] rfl rfl (ayo HT_.out) (fun _ _ _ h => h) (Or.inl ⟨by rfl, ?_⟩) ?_ ?_; rotate_left; (intro w'; go_simp; with_reducible rfl); rotate_left; (simp only [Act.put, List.setIfInBounds_toArray, List.set_cons_zero, List.set_cons_succ, i64_w, i32_w]; rfl)
            refine one_ (i := 7) (N := some 43) #[true, true, true, true, true, true, true, true, false, false, false, false, true, false, false, false] rfl rfl (one_of HT_.out (by kernel_rfl)) (by decide) (fun K hK => ?_)
            refine goes_ Try.func18 (by kernel_rfl) rfl #[.agg #[.int .i64 x274000_1, .int .i64 x274001_1, .string x274002_1, .int .i64 x274003_1, .bool x274004_1, .slice Ao45 x274005_1.length co45, .slice Ao46 x274006_1.length co46], .agg #[.int .i64 1, .int .i64 t281, .int .i64 t282, .string t283]] (by rfl) rfl rfl mpx ?_
            with_reducible refine (impl_Update.calls k1 x274000_1 x274001_1 x274002_1 x274003_1 x274004_1 _ _ x274005_1 _ _ x274006_1 1 t281 t282 t283 t284 t285 t286 t287 t288 t289 t292 t295 t298 _ ?side1 ?side2 ?side3 ?side4 A15.out).mono ?_
            (case side1 => exact pkC (Kd.R_reads' HO_274005.out).2.2)
            (case side2 => exact (Kd.R_reads' HO_274005.out).2.1)
            (case side3 => exact pkC (Kd.R_reads' HO_274006.out).2.2)
            (case side4 => exact (Kd.R_reads' HO_274006.out).2.1)
            rintro e w50 ⟨v290, v293, v296, rfl, ho0, ho1, ho2, hb⟩
            refine ⟨_, rfl, ?_⟩
            have HO291 := am (Kd.R_lower (Kd.R_new' (Kd.R_new' (Kd.R_new' ho0 (Kd.R_lt (pkR HO_4.out))) (Kd.R_lt (pkR HO_274005.out))) (Kd.R_lt (pkR HO_274006.out))) (below_size (pkW HB.out)))
            have HO294 := am (Kd.R_lower (Kd.R_new' (Kd.R_new' (Kd.R_new' ho1 (Kd.R_lt (pkR HO_4.out))) (Kd.R_lt (pkR HO_274005.out))) (Kd.R_lt (pkR HO_274006.out))) (below_size (pkW HB.out)))
            have HO297 := am (Kd.R_lower (Kd.R_new' (Kd.R_new' (Kd.R_new' ho2 (Kd.R_lt (pkR HO_4.out))) (Kd.R_lt (pkR HO_274005.out))) (Kd.R_lt (pkR HO_274006.out))) (below_size (pkW HB.out)))
            replace HO_4 := am (Kd.R_mono (Kd.R_told (Kd.R_told (Kd.R_told (Kd.R_old (pkR HO_4.out) hb) (Kd.R_base ho0)) (Kd.R_base ho1)) (Kd.R_base ho2)) (fun _ h_ => h_.1))
            replace HO_274005 := am (Kd.R_mono (Kd.R_told (Kd.R_told (Kd.R_told (Kd.R_old (pkR HO_274005.out) hb) (Kd.R_base ho0)) (Kd.R_base ho1)) (Kd.R_base ho2)) (fun _ h_ => h_.1))
            replace HO_274006 := am (Kd.R_mono (Kd.R_told (Kd.R_told (Kd.R_told (Kd.R_old (pkR HO_274006.out) hb) (Kd.R_base ho0)) (Kd.R_base ho1)) (Kd.R_base ho2)) (fun _ h_ => h_.1))
            replace BK273 := bbk BK273 hb
            replace BK299 := bbk BK299 hb
            replace HB := bst HB hb
            (try clear hb); (try clear ho0 ho1 ho2)
            refine hK.out _ _ (bc7 BK273.out) (fun hHeld => ?_)
            clear hK K
            refine norm_ (a' := ?_) ?_ ?_
            rotate_left
            ·show Act.put _ (some 43) _ = _
             simp only [Act.put, List.setIfInBounds_toArray, List.set_cons_zero, List.set_cons_succ, i64_w, i32_w]
             rfl
            refine pure_ (i := 8) (N := some 35) (v := ?_) (a' := ?_) #[true, true, true, true, true, true, true, true, true, false, false, false, true, false, false, false] rfl rfl (ayo HT_.out) (fun _ _ _ h => h) (Or.inl ⟨by rfl, ?_⟩) ?_ ?_; rotate_left; (intro w'; go_simp; with_reducible rfl); rotate_left; (simp only [Act.put, List.setIfInBounds_toArray, List.set_cons_zero, List.set_cons_succ, i64_w, i32_w]; rfl)
            refine pure_ (i := 9) (N := some 44) (v := ?_) (a' := ?_) #[true, true, true, true, true, true, true, true, true, true, false, false, true, false, false, false] rfl rfl (ayo HT_.out) (fun _ _ _ h => h) (Or.inl ⟨by rfl, ?_⟩) ?_ ?_; rotate_left; (intro w'; go_simp; with_reducible rfl); rotate_left; (simp only [Act.put, List.setIfInBounds_toArray, List.set_cons_zero, List.set_cons_succ, i64_w, i32_w]; rfl)
            refine pure_ (i := 10) (N := some 45) (v := ?_) (a' := ?_) #[true, true, true, true, true, true, true, true, true, true, true, false, true, false, false, false] rfl rfl (ayo HT_.out) (fun _ _ _ h => h) (Or.inl ⟨by rfl, ?_⟩) ?_ ?_; rotate_left; (intro w'; go_simp; with_reducible rfl); rotate_left; (simp only [Act.put, List.setIfInBounds_toArray, List.set_cons_zero, List.set_cons_succ, i64_w, i32_w]; rfl)
            refine pure_ (i := 11) (N := some 46) (v := ?_) (a' := ?_) #[true, true, true, true, true, true, true, true, true, true, true, true, true, false, false, false] rfl rfl (ayo HT_.out) (fun _ _ _ h => h) (Or.inl ⟨by rfl, ?_⟩) ?_ ?_; rotate_left; (intro w'; go_simp; with_reducible rfl); rotate_left; (simp only [Act.put, List.setIfInBounds_toArray, List.set_cons_zero, List.set_cons_succ, i64_w, i32_w]; rfl)
            exact norm_ (by simp only [putAll, Act.put, List.setIfInBounds_toArray, List.set_cons_zero, List.set_cons_succ]) (hCont (v290, v293, v296, gb299) _ ⟨hHeld, (by (with_reducible repeat (first | apply Kd.R_alloc | apply Kd.R_drewN | apply Kd.R_drew)); exact Kd.R_mono HO291.out (fun _ hk => ⟨hk.1.1.1.1, hk.1.1.1.2, hk.1.2, hk.2, hk.1.1.2⟩)), (by (with_reducible repeat (first | apply Kd.R_alloc | apply Kd.R_drewN | apply Kd.R_drew)); exact Kd.R_mono HO294.out (fun _ hk => ⟨hk.1.1.1.1, hk.1.1.1.2, hk.1.2, hk.2, hk.1.1.2⟩)), (by (with_reducible repeat (first | apply Kd.R_alloc | apply Kd.R_drewN | apply Kd.R_drew)); exact Kd.R_mono HO297.out (fun _ hk => ⟨hk.1.1.1.1, hk.1.1.1.2, hk.1.2, hk.2, hk.1.1.2⟩)), (by (with_reducible repeat (first | apply Kd.R_alloc | apply Kd.R_drewN | apply Kd.R_drew)); exact Kd.R_mono HO_274005.out (fun _ hk => ⟨hk.1.1.2, hk.1.2, hk.2, hk.1.1.1.2, hk.1.1.1.1⟩)), (by (with_reducible repeat (first | apply Kd.R_alloc | apply Kd.R_drewN | apply Kd.R_drew)); exact Kd.R_mono HO_274006.out (fun _ hk => ⟨hk.1.1.2, hk.1.2, hk.2, hk.1.1.1.2, hk.1.1.1.1⟩)), (by (with_reducible repeat (first | apply Kd.R_alloc | apply Kd.R_drewN | apply Kd.R_drew)); exact Kd.R_mono HO_4.out (fun _ hk => ⟨hk.1.1.2, hk.1.2, hk.2, hk.1.1.1.1, hk.1.1.1.2⟩)), (pkK BK273.out), (pkK BK299.out), GW299.out, GE299.out, NB273_299.out, NB299_273.out, (pkW HB.out)⟩)
          ·skip
           refine box_step ?hg (N := 9) ?hd (cs := #[.int .i64 0, .int .i64 0, .string (⟨#[]⟩ : ByteArray), .int .i64 0, .bool false, .slice none 0 0, .slice none 0 0]) (t := 29) ?hr ?_; (case hd => rfl); (case hg => rfl); (case hr => first | (go_simp; done) | (go_simp; rfl))
           intro gb299 hg w48 hbox hb
           replace HO_4 := rbl HO_4 hb
           replace HO_274005 := rbl HO_274005 hb
           replace HO_274006 := rbl HO_274006 hb
           have BK299 := am (hbox)
           have GW299 := am ((by rw [hg]; exact (below_size (pkW HB.out)) : w.heap.size ≤ gb299))
           have GE299 := am ((by rw [hg]; exact (below_size (pkW HB.out)) : w.heap.size ≤ gb299))
           replace HB := bst HB hb
           have NB273_299 := am ((by rw [hg]; exact Nat.ne_of_lt (blk_lt (g := gb273) (o := .cells #[.int .i64 x274000_1, .int .i64 x274001_1, .string x274002_1, .int .i64 x274003_1, .bool x274004_1, .slice Ao45 x274005_1.length co45, .slice Ao46 x274006_1.length co46] 29 (0, 0)) (pkK BK273.out)) : gb273 ≠ gb299))
           have NB299_273 := am ((by rw [hg]; exact Nat.ne_of_gt (blk_lt (g := gb273) (o := .cells #[.int .i64 x274000_1, .int .i64 x274001_1, .string x274002_1, .int .i64 x274003_1, .bool x274004_1, .slice Ao45 x274005_1.length co45, .slice Ao46 x274006_1.length co46] 29 (0, 0)) (pkK BK273.out)) : gb299 ≠ gb273))
           replace BK273 := bbk BK273 hb
           clear hb hbox hg
           refine hK.out _ _ (bc7 BK273.out) (fun hHeld => ?_)
           clear hK K
           refine norm_ (a' := ?_) ?_ ?_
           rotate_left
           ·show Act.put _ (some 9) _ = _
            simp only [Act.put, List.setIfInBounds_toArray, List.set_cons_zero, List.set_cons_succ, i64_w, i32_w]
            rfl
           refine one_ (i := 4) (N := some 40) #[true, true, true, true, true, false, false, false, false, false, false, false, true, false, false, false] rfl rfl (one_of HT_.out (by kernel_rfl)) (by decide) (fun K hK => ?_)
           refine goes_ Try.func17 (by kernel_rfl) rfl #[.slice A0 l0.length c0, .int .i64 (wrap64 (x8_1 + 31))] (by rfl) rfl rfl mpx ?_
           with_reducible refine (laws_at.calls _ _ l0 (wrap64 (x8_1 + 31)) t280 _ ?side1 ?side2 A13.out).mono ?_
           (case side1 => exact pkC (Kd.C_below HR0.out HB.out))
           (case side2 => exact HC0.out)
           rintro e w' ⟨rfl, nd, rfl⟩
           refine ⟨_, rfl, ?_⟩
           refine hK.out _ _ (bc7 BK273.out) (fun hHeld => ?_)
           clear hK K
           refine norm_ (a' := ?_) ?_ ?_
           rotate_left
           ·show Act.put _ (some 40) _ = _
            simp only [Act.put, List.setIfInBounds_toArray, List.set_cons_zero, List.set_cons_succ, i64_w, i32_w]
            rfl
           refine one_ (i := 5) (N := some 41) #[true, true, true, true, true, true, false, false, false, false, false, false, true, false, false, false] rfl rfl (one_of HT_.out (by kernel_rfl)) (by decide) (fun K hK => ?_)
           refine goes_ Try.func16 (by kernel_rfl) rfl #[.int .i64 t280] (by rfl) rfl rfl mpx ?_
           with_reducible refine (laws_num.calls t280 t281 t282 t283 _ A14.out).mono ?_
           rintro e w49 ⟨rfl, hb⟩
           refine ⟨_, rfl, ?_⟩
           replace HO_4 := rbl HO_4 hb
           replace HO_274005 := rbl HO_274005 hb
           replace HO_274006 := rbl HO_274006 hb
           replace BK273 := bbk BK273 hb
           replace BK299 := bbk BK299 hb
           replace HB := bst HB hb
           (try clear hb)
           refine hK.out _ _ (bc7 BK273.out) (fun hHeld => ?_)
           clear hK K
           refine norm_ (a' := ?_) ?_ ?_
           rotate_left
           ·show Act.put _ (some 41) _ = _
            simp only [Act.put, List.setIfInBounds_toArray, List.set_cons_zero, List.set_cons_succ, i64_w, i32_w]
            rfl
           refine pure_ (i := 6) (N := some 42) (v := ?_) (a' := ?_) #[true, true, true, true, true, true, true, false, false, false, false, false, true, false, false, false] rfl rfl (ayo HT_.out) (fun _ _ _ h => h) (Or.inl ⟨by rfl, ?_⟩) ?_ ?_; rotate_left; (intro w'; go_simp; with_reducible rfl); rotate_left; (simp only [Act.put, List.setIfInBounds_toArray, List.set_cons_zero, List.set_cons_succ, i64_w, i32_w]; rfl)
           refine one_ (i := 7) (N := some 43) #[true, true, true, true, true, true, true, true, false, false, false, false, true, false, false, false] rfl rfl (one_of HT_.out (by kernel_rfl)) (by decide) (fun K hK => ?_)
           refine goes_ Try.func18 (by kernel_rfl) rfl #[.agg #[.int .i64 x274000_1, .int .i64 x274001_1, .string x274002_1, .int .i64 x274003_1, .bool x274004_1, .slice Ao45 x274005_1.length co45, .slice Ao46 x274006_1.length co46], .agg #[.int .i64 1, .int .i64 t281, .int .i64 t282, .string t283]] (by rfl) rfl rfl mpx ?_
           with_reducible refine (impl_Update.calls k1 x274000_1 x274001_1 x274002_1 x274003_1 x274004_1 _ _ x274005_1 _ _ x274006_1 1 t281 t282 t283 t284 t285 t286 t287 t288 t289 t292 t295 t298 _ ?side1 ?side2 ?side3 ?side4 A15.out).mono ?_
           (case side1 => exact pkC (Kd.R_reads' HO_274005.out).2.2)
           (case side2 => exact (Kd.R_reads' HO_274005.out).2.1)
           (case side3 => exact pkC (Kd.R_reads' HO_274006.out).2.2)
           (case side4 => exact (Kd.R_reads' HO_274006.out).2.1)
           rintro e w50 ⟨v290, v293, v296, rfl, ho0, ho1, ho2, hb⟩
           refine ⟨_, rfl, ?_⟩
           have HO291 := am (Kd.R_lower (Kd.R_new' (Kd.R_new' (Kd.R_new' ho0 (Kd.R_lt (pkR HO_4.out))) (Kd.R_lt (pkR HO_274005.out))) (Kd.R_lt (pkR HO_274006.out))) (below_size (pkW HB.out)))
           have HO294 := am (Kd.R_lower (Kd.R_new' (Kd.R_new' (Kd.R_new' ho1 (Kd.R_lt (pkR HO_4.out))) (Kd.R_lt (pkR HO_274005.out))) (Kd.R_lt (pkR HO_274006.out))) (below_size (pkW HB.out)))
           have HO297 := am (Kd.R_lower (Kd.R_new' (Kd.R_new' (Kd.R_new' ho2 (Kd.R_lt (pkR HO_4.out))) (Kd.R_lt (pkR HO_274005.out))) (Kd.R_lt (pkR HO_274006.out))) (below_size (pkW HB.out)))
           replace HO_4 := am (Kd.R_mono (Kd.R_told (Kd.R_told (Kd.R_told (Kd.R_old (pkR HO_4.out) hb) (Kd.R_base ho0)) (Kd.R_base ho1)) (Kd.R_base ho2)) (fun _ h_ => h_.1))
           replace HO_274005 := am (Kd.R_mono (Kd.R_told (Kd.R_told (Kd.R_told (Kd.R_old (pkR HO_274005.out) hb) (Kd.R_base ho0)) (Kd.R_base ho1)) (Kd.R_base ho2)) (fun _ h_ => h_.1))
           replace HO_274006 := am (Kd.R_mono (Kd.R_told (Kd.R_told (Kd.R_told (Kd.R_old (pkR HO_274006.out) hb) (Kd.R_base ho0)) (Kd.R_base ho1)) (Kd.R_base ho2)) (fun _ h_ => h_.1))
           replace BK273 := bbk BK273 hb
           replace BK299 := bbk BK299 hb
           replace HB := bst HB hb
           (try clear hb); (try clear ho0 ho1 ho2)
           refine hK.out _ _ (bc7 BK273.out) (fun hHeld => ?_)
           clear hK K
           refine norm_ (a' := ?_) ?_ ?_
           rotate_left
           ·show Act.put _ (some 43) _ = _
            simp only [Act.put, List.setIfInBounds_toArray, List.set_cons_zero, List.set_cons_succ, i64_w, i32_w]
            rfl
           refine pure_ (i := 8) (N := some 35) (v := ?_) (a' := ?_) #[true, true, true, true, true, true, true, true, true, false, false, false, true, false, false, false] rfl rfl (ayo HT_.out) (fun _ _ _ h => h) (Or.inl ⟨by rfl, ?_⟩) ?_ ?_; rotate_left; (intro w'; go_simp; with_reducible rfl); rotate_left; (simp only [Act.put, List.setIfInBounds_toArray, List.set_cons_zero, List.set_cons_succ, i64_w, i32_w]; rfl)
           refine pure_ (i := 9) (N := some 44) (v := ?_) (a' := ?_) #[true, true, true, true, true, true, true, true, true, true, false, false, true, false, false, false] rfl rfl (ayo HT_.out) (fun _ _ _ h => h) (Or.inl ⟨by rfl, ?_⟩) ?_ ?_; rotate_left; (intro w'; go_simp; with_reducible rfl); rotate_left; (simp only [Act.put, List.setIfInBounds_toArray, List.set_cons_zero, List.set_cons_succ, i64_w, i32_w]; rfl)
           refine pure_ (i := 10) (N := some 45) (v := ?_) (a' := ?_) #[true, true, true, true, true, true, true, true, true, true, true, false, true, false, false, false] rfl rfl (ayo HT_.out) (fun _ _ _ h => h) (Or.inl ⟨by rfl, ?_⟩) ?_ ?_; rotate_left; (intro w'; go_simp; with_reducible rfl); rotate_left; (simp only [Act.put, List.setIfInBounds_toArray, List.set_cons_zero, List.set_cons_succ, i64_w, i32_w]; rfl)
           refine pure_ (i := 11) (N := some 46) (v := ?_) (a' := ?_) #[true, true, true, true, true, true, true, true, true, true, true, true, true, false, false, false] rfl rfl (ayo HT_.out) (fun _ _ _ h => h) (Or.inl ⟨by rfl, ?_⟩) ?_ ?_; rotate_left; (intro w'; go_simp; with_reducible rfl); rotate_left; (simp only [Act.put, List.setIfInBounds_toArray, List.set_cons_zero, List.set_cons_succ, i64_w, i32_w]; rfl)
           exact norm_ (by simp only [putAll, Act.put, List.setIfInBounds_toArray, List.set_cons_zero, List.set_cons_succ]) (hCont (v290, v293, v296, gb299) _ ⟨hHeld, (by (with_reducible repeat (first | apply Kd.R_alloc | apply Kd.R_drewN | apply Kd.R_drew)); exact Kd.R_mono HO291.out (fun _ hk => ⟨hk.1.1.1.1, hk.1.1.1.2, hk.1.2, hk.2, hk.1.1.2⟩)), (by (with_reducible repeat (first | apply Kd.R_alloc | apply Kd.R_drewN | apply Kd.R_drew)); exact Kd.R_mono HO294.out (fun _ hk => ⟨hk.1.1.1.1, hk.1.1.1.2, hk.1.2, hk.2, hk.1.1.2⟩)), (by (with_reducible repeat (first | apply Kd.R_alloc | apply Kd.R_drewN | apply Kd.R_drew)); exact Kd.R_mono HO297.out (fun _ hk => ⟨hk.1.1.1.1, hk.1.1.1.2, hk.1.2, hk.2, hk.1.1.2⟩)), (by (with_reducible repeat (first | apply Kd.R_alloc | apply Kd.R_drewN | apply Kd.R_drew)); exact Kd.R_mono HO_274005.out (fun _ hk => ⟨hk.1.1.2, hk.1.2, hk.2, hk.1.1.1.2, hk.1.1.1.1⟩)), (by (with_reducible repeat (first | apply Kd.R_alloc | apply Kd.R_drewN | apply Kd.R_drew)); exact Kd.R_mono HO_274006.out (fun _ hk => ⟨hk.1.1.2, hk.1.2, hk.2, hk.1.1.1.2, hk.1.1.1.1⟩)), (by (with_reducible repeat (first | apply Kd.R_alloc | apply Kd.R_drewN | apply Kd.R_drew)); exact Kd.R_mono HO_4.out (fun _ hk => ⟨hk.1.1.2, hk.1.2, hk.2, hk.1.1.1.1, hk.1.1.1.2⟩)), (pkK BK273.out), (pkK BK299.out), GW299.out, GE299.out, NB273_299.out, NB299_273.out, (pkW HB.out)⟩)
         rintro ⟨v290, v293, v296, gb299⟩ w51 ⟨hS_, h0_, h1_, h2_, h3_, h4_, h5_, h6_, h7_, h8_, h9_, h10_, h11_, h12_⟩
         have HO291 : Aside0 (Kd.R (Kd.int .i64) 3 w51 w.heap.size (fun k_ => some k_ ≠ (v293 : Value).ownBlock ∧ some k_ ≠ (v296 : Value).ownBlock ∧ some k_ ≠ (.slice Ao45 x274005_1.length co45 : Value).ownBlock ∧ some k_ ≠ (.slice Ao46 x274006_1.length co46 : Value).ownBlock ∧ some k_ ≠ (u4 : Value).ownBlock) v290 t289) := ⟨h0_⟩
         have HO294 : Aside0 (Kd.R (Kd.int .i64) 3 w51 w.heap.size (fun k_ => some k_ ≠ (v290 : Value).ownBlock ∧ some k_ ≠ (v296 : Value).ownBlock ∧ some k_ ≠ (.slice Ao45 x274005_1.length co45 : Value).ownBlock ∧ some k_ ≠ (.slice Ao46 x274006_1.length co46 : Value).ownBlock ∧ some k_ ≠ (u4 : Value).ownBlock) v293 t292) := ⟨h1_⟩
         have HO297 : Aside0 (Kd.R (Kd.int .i64) 3 w51 w.heap.size (fun k_ => some k_ ≠ (v290 : Value).ownBlock ∧ some k_ ≠ (v293 : Value).ownBlock ∧ some k_ ≠ (.slice Ao45 x274005_1.length co45 : Value).ownBlock ∧ some k_ ≠ (.slice Ao46 x274006_1.length co46 : Value).ownBlock ∧ some k_ ≠ (u4 : Value).ownBlock) v296 t295) := ⟨h2_⟩
         replace HO_274005 : Aside0 (Kd.R (Kd.int .i64) 3 w51 w.heap.size (fun k_ => some k_ ≠ (v290 : Value).ownBlock ∧ some k_ ≠ (v293 : Value).ownBlock ∧ some k_ ≠ (v296 : Value).ownBlock ∧ some k_ ≠ (.slice Ao46 x274006_1.length co46 : Value).ownBlock ∧ some k_ ≠ (u4 : Value).ownBlock) (.slice Ao45 x274005_1.length co45) x274005_1) := ⟨h3_⟩
         replace HO_274006 : Aside0 (Kd.R (Kd.int .i64) 3 w51 w.heap.size (fun k_ => some k_ ≠ (v290 : Value).ownBlock ∧ some k_ ≠ (v293 : Value).ownBlock ∧ some k_ ≠ (v296 : Value).ownBlock ∧ some k_ ≠ (.slice Ao45 x274005_1.length co45 : Value).ownBlock ∧ some k_ ≠ (u4 : Value).ownBlock) (.slice Ao46 x274006_1.length co46) x274006_1) := ⟨h4_⟩
         replace HO_4 : Aside0 (Kd.R (Kd.int .i64) 3 w51 w.heap.size (fun k_ => some k_ ≠ (v290 : Value).ownBlock ∧ some k_ ≠ (v293 : Value).ownBlock ∧ some k_ ≠ (v296 : Value).ownBlock ∧ some k_ ≠ (.slice Ao45 x274005_1.length co45 : Value).ownBlock ∧ some k_ ≠ (.slice Ao46 x274006_1.length co46 : Value).ownBlock) u4 x4_1) := ⟨h5_⟩
         replace BK273 : Aside0 (w51.heap[gb273]? = some (.cells #[.int .i64 x274000_1, .int .i64 x274001_1, .string x274002_1, .int .i64 x274003_1, .bool x274004_1, .slice Ao45 x274005_1.length co45, .slice Ao46 x274006_1.length co46] 29 (0, 0))) := ⟨h6_⟩
         have BK299 : Aside0 (w51.heap[gb299]? = some (.cells #[.int .i64 0, .int .i64 0, .string (⟨#[]⟩ : ByteArray), .int .i64 0, .bool false, .slice none 0 0, .slice none 0 0] 29 (0, 0))) := ⟨h7_⟩
         have GW299 : Aside0 (w.heap.size ≤ gb299) := ⟨h8_⟩
         have GE299 : Aside0 (w.heap.size ≤ gb299) := ⟨h9_⟩
         have NB273_299 : Aside0 (gb273 ≠ gb299) := ⟨h10_⟩
         have NB299_273 : Aside0 (gb299 ≠ gb273) := ⟨h11_⟩
         replace HB : Aside0 (Below w.heap.size w w51) := ⟨h12_⟩
         clear h0_ h1_ h2_ h3_ h4_ h5_ h6_ h7_ h8_ h9_ h10_ h11_ h12_
         have hHeld : w51.cell? ⟨gb273, 0, none⟩ = some (.int .i64 x274000_1) ∧ w51.cell? ⟨gb273, 1, none⟩ = some (.int .i64 x274001_1) ∧ w51.cell? ⟨gb273, 2, none⟩ = some (.string x274002_1) ∧ w51.cell? ⟨gb273, 3, none⟩ = some (.int .i64 x274003_1) ∧ w51.cell? ⟨gb273, 4, none⟩ = some (.bool x274004_1) ∧ w51.cell? ⟨gb273, 5, none⟩ = some (.slice Ao45 x274005_1.length co45) ∧ w51.cell? ⟨gb273, 6, none⟩ = some (.slice Ao46 x274006_1.length co46) := hS_
         obtain ⟨Ao57, co57, eo57⟩ := Kd.R_slice HO291.out
         (first | subst eo57 | (injection eo57 with f1_ f2_ f3_; have f4_ := f1_.symm; have f5_ := f3_.symm; clear f1_ f2_ f3_; subst f4_; subst f5_))
         obtain ⟨Ao59, co59, eo59⟩ := Kd.R_slice HO294.out
         (first | subst eo59 | (injection eo59 with f1_ f2_ f3_; have f4_ := f1_.symm; have f5_ := f3_.symm; clear f1_ f2_ f3_; subst f4_; subst f5_))
         refine norm_ (a' := ?_) ?_ ?_
         rotate_left
         ·simp only [putAll, Act.put, List.setIfInBounds_toArray, List.set_cons_zero, List.set_cons_succ]
          rfl
         refine one_ (i := 13) (N := none) #[true, true, true, true, true, true, true, true, true, true, true, true, true, true, false, false] rfl rfl (one_of HT_.out (by kernel_rfl)) (by decide) (fun K hK => ?_)
         have hs52 : w51.cell? ⟨gb299, 0, none⟩ = some (.int .i64 0) := (blk_cell BK299.out 0).trans rfl
         have hfs52 := blk_frozen BK299.out 0
         have hns52_0 := NB273_299.out
         have hms52_0 := NB299_273.out
         have hs53 : w51.cell? ⟨gb299, 1, none⟩ = some (.int .i64 0) := (blk_cell BK299.out 1).trans rfl
         have hfs53 := blk_frozen BK299.out 1
         have hns53_0 := NB273_299.out
         have hms53_0 := NB299_273.out
         have hs54 : w51.cell? ⟨gb299, 2, none⟩ = some (.string (⟨#[]⟩ : ByteArray)) := (blk_cell BK299.out 2).trans rfl
         have hfs54 := blk_frozen BK299.out 2
         have hns54_0 := NB273_299.out
         have hms54_0 := NB299_273.out
         have hs55 : w51.cell? ⟨gb299, 3, none⟩ = some (.int .i64 0) := (blk_cell BK299.out 3).trans rfl
         have hfs55 := blk_frozen BK299.out 3
         have hns55_0 := NB273_299.out
         have hms55_0 := NB299_273.out
         have hs56 : w51.cell? ⟨gb299, 4, none⟩ = some (.bool false) := (blk_cell BK299.out 4).trans rfl
         have hfs56 := blk_frozen BK299.out 4
         have hns56_0 := NB273_299.out
         have hms56_0 := NB299_273.out
         have hs58 : w51.cell? ⟨gb299, 5, none⟩ = some (.slice none 0 0) := (blk_cell BK299.out 5).trans rfl
         have hfs58 := blk_frozen BK299.out 5
         have hns58_0 := NB273_299.out
         have hms58_0 := NB299_273.out
         have hs60 : w51.cell? ⟨gb299, 6, none⟩ = some (.slice none 0 0) := (blk_cell BK299.out 6).trans rfl
         have hfs60 := blk_frozen BK299.out 6
         have hns60_0 := NB273_299.out
         have hms60_0 := NB299_273.out
         refine skip_ (w1 := ?_) ?_ ?_ ?_ ?_; rotate_left; rfl; rfl
         ·go_simp
          rfl
         refine hK.out _ _ ?_ (fun hHeld => ?_)
         ·exact (bc7 (fa7x48 BK273.out NB273_299.out))
         clear hK K
         refine pure_ (i := 14) (N := some 10) (v := ?_) (a' := ?_) #[true, true, true, true, true, true, true, true, true, true, true, true, true, true, true, false] rfl rfl (ayo HT_.out) (fun _ _ _ h => h) (Or.inl ⟨by rfl, ?_⟩) ?_ ?_; rotate_left; (intro w'; go_simp; with_reducible rfl); rotate_left; (simp only [Act.put, List.setIfInBounds_toArray, List.set_cons_zero, List.set_cons_succ, i64_w, i32_w]; rfl)
         refine pure_ (i := 15) (N := some 11) (v := ?_) (a' := ?_) #[true, true, true, true, true, true, true, true, true, true, true, true, true, true, true, true] rfl rfl (ayo HT_.out) (fun _ _ _ h => h) (Or.inl ⟨by rfl, ?_⟩) ?_ ?_; rotate_left; (intro w'; go_simp; with_reducible rfl); rotate_left; (simp only [Act.put, List.setIfInBounds_toArray, List.set_cons_zero, List.set_cons_succ, i64_w, i32_w]; rfl)
         refine done_ (done_of HT_.out (by kernel_rfl)) ?_
         obtain ⟨Ao61, co61, eo61⟩ := Kd.R_slice HO297.out
         subst eo61
         try go_wp2_with (first | ((with_reducible refine gate_callee (f := 17) rfl ?_); refine goesL_ (some 66) rfl rfl Try.func17 (by kernel_rfl) rfl #[.slice A0 l0.length c0, .int .i64 (wrap64 (x8_1 + 31))] rfl mpx ?_; (with_reducible refine (laws_at.calls _ _ l0 (wrap64 (x8_1 + 31)) t304 _ ?side1 ?side2 A43.out).mono ?_); (case side1 => exact Kd.C_below HR0.out (pkW HB.out)); (case side2 => exact HC0.out); rintro e w' ⟨rfl, nd, rfl⟩; refine ⟨_, rfl, ?_⟩) | ((with_reducible refine gate_builtin (b := .append) (xs := #[.tmp 62, .tmp 67]) rfl ?_); (try (refine gate_guard (by rfl) ?_; dsimp only)); at_builtin; refine Kd.R_append (Kd.int .i64) (w0 := w) w.heap.size rfl (.tmp 62) (.tmp 67) 27 3 (.int .i64 0) 8 rfl Try.underlying27 info3 rfl (by decide) (by omega) u4 x4_1 t304 [.int .i64 t304] (fun k_ => some k_ ≠ (.slice Ao45 x274005_1.length co45 : Value).ownBlock ∧ some k_ ≠ (.slice Ao46 x274006_1.length co46 : Value).ownBlock ∧ some k_ ≠ (.slice Ao57 t289.length co57 : Value).ownBlock ∧ some k_ ≠ (.slice Ao59 t292.length co59 : Value).ownBlock ∧ some k_ ≠ (.slice Ao61 t295.length co61 : Value).ownBlock) (fun _ => False) rfl (by first | (go_simp; done) | (go_simp; rfl)) ?aP (fun _ hk => hk.elim) ?aF ?aO ?aB ?aS ?aL ?_; (case aP => exact rfl); (case aB => exact (pkW HB.out)); (case aF => exact (fun k_ hk => ⟨Kd.fresh' (Kd.R_lt (by (with_reducible repeat (first | apply Kd.R_alloc | apply Kd.R_drewN | apply Kd.R_drew)); exact (fR7x48 HO_274005.out BK299.out (by decide)))) k_ hk, Kd.fresh' (Kd.R_lt (by (with_reducible repeat (first | apply Kd.R_alloc | apply Kd.R_drewN | apply Kd.R_drew)); exact (fR7x48 HO_274006.out BK299.out (by decide)))) k_ hk, Kd.fresh' (Kd.R_lt (by (with_reducible repeat (first | apply Kd.R_alloc | apply Kd.R_drewN | apply Kd.R_drew)); exact (fR7x48 HO291.out BK299.out (by decide)))) k_ hk, Kd.fresh' (Kd.R_lt (by (with_reducible repeat (first | apply Kd.R_alloc | apply Kd.R_drewN | apply Kd.R_drew)); exact (fR7x48 HO294.out BK299.out (by decide)))) k_ hk, Kd.fresh' (Kd.R_lt (by (with_reducible repeat (first | apply Kd.R_alloc | apply Kd.R_drewN | apply Kd.R_drew)); exact (fR7x48 HO297.out BK299.out (by decide)))) k_ hk⟩)); (case aO => exact (by (with_reducible repeat (first | apply Kd.R_alloc | apply Kd.R_drewN | apply Kd.R_drew)); exact Kd.R_mono (fR7x48 HO_4.out BK299.out (by decide)) (fun _ hk => ⟨hk.2.2.2.1, hk.2.2.2.2, hk.1, hk.2.1, hk.2.2.1⟩))); (case aS => exact (below_size (pkW HB.out))); (case aL => have := LMc44.out; omega); intro v306 w62 ho hb hg hat; rw [← Ny305.out] at ho; replace HO_274005 := am (Kd.R_after (ok := (fun k_ => some k_ ≠ (.slice Ao46 x274006_1.length co46 : Value).ownBlock ∧ some k_ ≠ (.slice Ao57 t289.length co57 : Value).ownBlock ∧ some k_ ≠ (.slice Ao59 t292.length co59 : Value).ownBlock ∧ some k_ ≠ (.slice Ao61 t295.length co61 : Value).ownBlock)) (by (with_reducible repeat (first | apply Kd.R_alloc | apply Kd.R_drewN | apply Kd.R_drew)); exact Kd.R_mono (fR7x48 HO_274005.out BK299.out (by decide)) (fun _ hk => ⟨⟨hk.2.2.2.1, hk.1, hk.2.1, hk.2.2.1⟩, hk.2.2.2.2⟩)) hg hat); replace HO_274006 := am (Kd.R_after (ok := (fun k_ => some k_ ≠ (.slice Ao45 x274005_1.length co45 : Value).ownBlock ∧ some k_ ≠ (.slice Ao57 t289.length co57 : Value).ownBlock ∧ some k_ ≠ (.slice Ao59 t292.length co59 : Value).ownBlock ∧ some k_ ≠ (.slice Ao61 t295.length co61 : Value).ownBlock)) (by (with_reducible repeat (first | apply Kd.R_alloc | apply Kd.R_drewN | apply Kd.R_drew)); exact Kd.R_mono (fR7x48 HO_274006.out BK299.out (by decide)) (fun _ hk => ⟨⟨hk.2.2.2.1, hk.1, hk.2.1, hk.2.2.1⟩, hk.2.2.2.2⟩)) hg hat); replace BK273 := am (blk_grown (g := gb273) (o := .cells #[.int .i64 x274000_1, .int .i64 x274001_1, .string x274002_1, .int .i64 x274003_1, .bool x274004_1, .slice Ao45 x274005_1.length co45, .slice Ao46 x274006_1.length co46] 29 (0, 0)) (by (with_reducible repeat (first | refine blk_drewN ?_ _ | refine blk_drew ?_ | refine blk_alloc ?_ _)); exact (fa7x48 (pkK BK273.out) NB273_299.out)) hg (Kd.R_ne HO_4.out BK273.out (by decide))); replace HO291 := am (Kd.R_after (ok := (fun k_ => some k_ ≠ (.slice Ao45 x274005_1.length co45 : Value).ownBlock ∧ some k_ ≠ (.slice Ao46 x274006_1.length co46 : Value).ownBlock ∧ some k_ ≠ (.slice Ao59 t292.length co59 : Value).ownBlock ∧ some k_ ≠ (.slice Ao61 t295.length co61 : Value).ownBlock)) (by (with_reducible repeat (first | apply Kd.R_alloc | apply Kd.R_drewN | apply Kd.R_drew)); exact Kd.R_mono (fR7x48 HO291.out BK299.out (by decide)) (fun _ hk => ⟨⟨hk.2.2.1, hk.2.2.2.1, hk.1, hk.2.1⟩, hk.2.2.2.2⟩)) hg hat); replace HO294 := am (Kd.R_after (ok := (fun k_ => some k_ ≠ (.slice Ao45 x274005_1.length co45 : Value).ownBlock ∧ some k_ ≠ (.slice Ao46 x274006_1.length co46 : Value).ownBlock ∧ some k_ ≠ (.slice Ao57 t289.length co57 : Value).ownBlock ∧ some k_ ≠ (.slice Ao61 t295.length co61 : Value).ownBlock)) (by (with_reducible repeat (first | apply Kd.R_alloc | apply Kd.R_drewN | apply Kd.R_drew)); exact Kd.R_mono (fR7x48 HO294.out BK299.out (by decide)) (fun _ hk => ⟨⟨hk.2.2.1, hk.2.2.2.1, hk.1, hk.2.1⟩, hk.2.2.2.2⟩)) hg hat); replace HO297 := am (Kd.R_after (ok := (fun k_ => some k_ ≠ (.slice Ao45 x274005_1.length co45 : Value).ownBlock ∧ some k_ ≠ (.slice Ao46 x274006_1.length co46 : Value).ownBlock ∧ some k_ ≠ (.slice Ao57 t289.length co57 : Value).ownBlock ∧ some k_ ≠ (.slice Ao59 t292.length co59 : Value).ownBlock)) (by (with_reducible repeat (first | apply Kd.R_alloc | apply Kd.R_drewN | apply Kd.R_drew)); exact Kd.R_mono (fR7x48 HO297.out BK299.out (by decide)) (fun _ hk => ⟨⟨hk.2.2.1, hk.2.2.2.1, hk.1, hk.2.1⟩, hk.2.2.2.2⟩)) hg hat); replace BK299 := am (blk_grown (g := gb299) (o := .cells #[.int .i64 t284, .int .i64 t285, .string t286, .int .i64 t287, .bool t288, .slice Ao57 t289.length co57, .slice Ao59 t292.length co59] 29 (0, 0)) (by (with_reducible repeat (first | refine blk_drewN ?_ _ | refine blk_drew ?_ | refine blk_alloc ?_ _)); exact (pt7x48 (pkK BK299.out))) hg (Kd.R_ne HO_4.out BK299.out (by decide))); replace HB := am (hb); have HO307 := am (ho); clear HO_4; clear ho hb hg hat; have hnb63 := NB299_273.out; have hnc63 := NB273_299.out; obtain ⟨hcz64_0, hcz64_1, hcz64_2, hcz64_3, hcz64_4, hcz64_5, hcz64_6, hfz64_0, hfz64_1, hfz64_2, hfz64_3, hfz64_4, hfz64_5, hfz64_6⟩ := bk7 BK299.out; obtain ⟨hcz65_0, hcz65_1, hcz65_2, hcz65_3, hcz65_4, hcz65_5, hcz65_6, hfz65_0, hfz65_1, hfz65_2, hfz65_3, hfz65_4, hfz65_5, hfz65_6⟩ := bk7 BK273.out))
         go_roundg k1
         case measure => have := HK1.out; omega
         case rel => exact ⟨(y305), (x5_1), (x6_1), (x7_1), (wrap64 (x8_1 + 1)), (t284), (t285), (t286), (t287), (t288), (t289), (t292), (.slice Ao57 t289.length co57), (.slice Ao59 t292.length co59), rfx, rfx, rfx, rfx, H', ⟨by have := HK1.out; omega⟩, ⟨by (with_reducible repeat (first | apply Kd.R_alloc | apply Kd.R_drewN | apply Kd.R_drew)); exact Kd.R_mono (fR7x48 HO307.out BK273.out (by decide)) (fun _ hk => ⟨hk.2.2.1, hk.2.2.2.1⟩)⟩, ⟨by (with_reducible repeat (first | apply Kd.R_alloc | apply Kd.R_drewN | apply Kd.R_drew)); exact Kd.R_mono (fR7x48 HO291.out BK273.out (by decide)) (fun _ hk => ⟨hk.2, hk.1.2.2.1⟩)⟩, ⟨by (with_reducible repeat (first | apply Kd.R_alloc | apply Kd.R_drewN | apply Kd.R_drew)); exact Kd.R_mono (fR7x48 HO294.out BK273.out (by decide)) (fun _ hk => ⟨hk.2, hk.1.2.2.1⟩)⟩, ⟨by (with_reducible repeat (first | refine blk_drewN ?_ _ | refine blk_drew ?_ | refine blk_alloc ?_ _)); exact (pt7x48 (pkK BK273.out))⟩, ⟨pkW HB.out⟩⟩
        ·rw [if_neg c44] at H
         exact absurd H (by simp)
      ·rw [if_neg c16] at H
       have c16b0 : (t298 == 0) = false := beq_eq_false_iff_ne.mpr c16
       have c16b1 : (t298 != 0) = true := bne_iff_ne.mpr c16
       exact absurd (Option.some.inj H) (by rw [HQ_.out]; simp)
     ·rw [if_neg c12] at H
      have c12b0 : ((Int.tmod t279 2) == 0) = false := beq_eq_false_iff_ne.mpr c12
      have c12b1 : ((Int.tmod t279 2) != 0) = true := bne_iff_ne.mpr c12
      by_cases c66 : x7_1 = true
      ·subst c66
       replace H : ((impl_Seen.f k1 x274000_1 x274001_1 x274002_1 x274003_1 x274004_1 x274005_1 x274006_1 3).bind fun bt308 => (if bt308.2.2.2.2.2.2.2.2.2.2.2 = 4 then (if x274003_1 > x5_1 then (some false) else (laws_FnSees.l0 k1 l0 x4_1 x5_1 x6_1 true (wrap64 (x8_1 + 1)) x274000_1 x274001_1 x274002_1 x274003_1 x274004_1 x274005_1 x274006_1)) else (if bt308.2.2.2.2.2.2.2.2.2.2.2 = 0 then (if bt308.2.2.2.2.2.2.2.2.2.2.1 ≤ x5_1 then (some false) else (if bt308.2.2.2.2.2.2.2.2.2.2.1 ≥ (x4_1.length : Int) then (some false) else (if 0 ≤ bt308.2.2.2.2.2.2.2.2.2.2.1 then (if bt308.2.2.2.2.2.2.2.2.2.2.1 < (x4_1.length : Int) then (if bt308.2.2.2.2.2.2.2.2.1 = (rd x4_1 bt308.2.2.2.2.2.2.2.2.2.2.1) then (if bt308.2.2.2.2.2.2.2.2.2.2.1 ≤ x6_1 then (some false) else (laws_FnSees.l0 k1 l0 x4_1 bt308.2.2.2.2.2.2.2.2.2.2.1 bt308.2.2.2.2.2.2.2.2.2.2.1 false (wrap64 (x8_1 + 1)) bt308.1 bt308.2.1 bt308.2.2.1 bt308.2.2.2.1 bt308.2.2.2.2.1 bt308.2.2.2.2.2.1 bt308.2.2.2.2.2.2.1)) else (some false)) else (none)) else (none)))) else (some false)))) = some r := by rw [if_pos rfl] at H; exact H
       replace H := Option.bind_eq_some_iff.mp H
       obtain ⟨⟨t308, t309, t310, t311, t312, t313, t316, t319, t320, t321, t322, t323⟩, A670, H⟩ := H
       replace H : (if t323 = 4 then (if x274003_1 > x5_1 then (some false) else (laws_FnSees.l0 k1 l0 x4_1 x5_1 x6_1 true (wrap64 (x8_1 + 1)) x274000_1 x274001_1 x274002_1 x274003_1 x274004_1 x274005_1 x274006_1)) else (if t323 = 0 then (if t322 ≤ x5_1 then (some false) else (if t322 ≥ (x4_1.length : Int) then (some false) else (if 0 ≤ t322 then (if t322 < (x4_1.length : Int) then (if t320 = (rd x4_1 t322) then (if t322 ≤ x6_1 then (some false) else (laws_FnSees.l0 k1 l0 x4_1 t322 t322 false (wrap64 (x8_1 + 1)) t308 t309 t310 t311 t312 t313 t316)) else (some false)) else (none)) else (none)))) else (some false))) = some r := H
       have A67 := am A670
       clear A670
       by_cases c68 : t323 = 4
       ·rw [if_pos c68] at H
        have c68b0 : (t323 == 4) = true := beq_iff_eq.mpr c68
        have c68b1 : (t323 != 4) = false := bne_eq_false_iff_eq.mpr c68
        clear c68
        by_cases c69 : x274003_1 > x5_1
        ·rw [if_pos c69] at H
         have c69b0 : decide (x5_1 < x274003_1) = true := decide_eq_true c69
         clear c69
         exact absurd (Option.some.inj H) (by rw [HQ_.out]; simp)
        ·rw [if_neg c69] at H
         have c69b0 : decide (x5_1 < x274003_1) = false := decide_eq_false c69
         clear c69
         have H' := am H
         clear H
         go_wp2_with (first | ((with_reducible refine gate_callee (f := 17) rfl ?_); refine goesL_ (some 32) rfl rfl Try.func17 (by kernel_rfl) rfl #[.slice A0 l0.length c0, .int .i64 x8_1] rfl mpx ?_; (with_reducible refine (laws_at.calls _ _ l0 x8_1 t279 _ ?side1 ?side2 A11.out).mono ?_); (case side1 => exact pkC (Kd.C_below HR0.out HB.out)); (case side2 => exact HC0.out); rintro e w' ⟨rfl, nd, rfl⟩; refine ⟨_, rfl, ?_⟩; (try (rw [drewN_self wr]; generalize hq_ : World.drewN wr _ = wr; replace HO_274005 : Aside0 (Kd.R (Kd.int .i64) 3 wr w.heap.size (fun k_ => (some k_ ≠ (u4 : Value).ownBlock ∧ some k_ ≠ (u274006 : Value).ownBlock)) u274005 x274005_1) := ⟨by rw [← hq_]; exact (pkR HO_274005.out)⟩; replace HO_274006 : Aside0 (Kd.R (Kd.int .i64) 3 wr w.heap.size (fun k_ => (some k_ ≠ (u4 : Value).ownBlock ∧ some k_ ≠ (u274005 : Value).ownBlock)) u274006 x274006_1) := ⟨by rw [← hq_]; exact (pkR HO_274006.out)⟩; replace HO_4 : Aside0 (Kd.R (Kd.int .i64) 3 wr w.heap.size (fun k_ => (some k_ ≠ (u274005 : Value).ownBlock ∧ some k_ ≠ (u274006 : Value).ownBlock)) u4 x4_1) := ⟨by rw [← hq_]; exact (pkR HO_4.out)⟩; replace BK273 : Aside0 (wr.heap[gb273]? = some (.cells #[.int .i64 x274000_1, .int .i64 x274001_1, .string x274002_1, .int .i64 x274003_1, .bool x274004_1, u274005, u274006] 29 (0, 0))) := ⟨by rw [← hq_]; exact (pkK BK273.out)⟩; replace HB : Aside0 (Below w.heap.size w wr) := ⟨by rw [← hq_]; exact (pkW HB.out)⟩; clear hq_)); obtain ⟨hcz70_0, hcz70_1, hcz70_2, hcz70_3, hcz70_4, hcz70_5, hcz70_6, hfz70_0, hfz70_1, hfz70_2, hfz70_3, hfz70_4, hfz70_5, hfz70_6⟩ := bk7 BK273.out; obtain ⟨Ao71, co71, eo71⟩ := Kd.R_slice HO_274005.out; subst eo71; obtain ⟨Ao72, co72, eo72⟩ := Kd.R_slice HO_274006.out; subst eo72) | ((with_reducible refine gate_callee (f := 19) rfl ?_); refine goesL_ (some 73) rfl rfl Try.func19 (by kernel_rfl) rfl #[.agg #[.int .i64 x274000_1, .int .i64 x274001_1, .string x274002_1, .int .i64 x274003_1, .bool x274004_1, .slice Ao71 x274005_1.length co71, .slice Ao72 x274006_1.length co72], .int .i64 3] rfl mpx ?_; (with_reducible refine (impl_Seen.calls k1 x274000_1 x274001_1 x274002_1 x274003_1 x274004_1 _ _ x274005_1 _ _ x274006_1 3 t308 t309 t310 t311 t312 t313 t316 t319 t320 t321 t322 t323 _ ?side1 ?side2 ?side3 ?side4 A67.out).mono ?_); (case side1 => exact pkC (Kd.R_reads' HO_274005.out).2.2); (case side2 => exact (Kd.R_reads' HO_274005.out).2.1); (case side3 => exact pkC (Kd.R_reads' HO_274006.out).2.2); (case side4 => exact (Kd.R_reads' HO_274006.out).2.1); rintro e w73 ⟨v314, v317, rfl, ho0, ho1, hb⟩; refine ⟨_, rfl, ?_⟩; have HO315 := am (Kd.R_lower (Kd.R_new' (Kd.R_new' (Kd.R_new' ho0 (Kd.R_lt (pkR HO_4.out))) (Kd.R_lt (pkR HO_274005.out))) (Kd.R_lt (pkR HO_274006.out))) (below_size (pkW HB.out))); have HO318 := am (Kd.R_lower (Kd.R_new' (Kd.R_new' (Kd.R_new' ho1 (Kd.R_lt (pkR HO_4.out))) (Kd.R_lt (pkR HO_274005.out))) (Kd.R_lt (pkR HO_274006.out))) (below_size (pkW HB.out))); replace HO_4 := am (Kd.R_mono (Kd.R_told (Kd.R_told (Kd.R_old (pkR HO_4.out) hb) (Kd.R_base ho0)) (Kd.R_base ho1)) (fun _ h_ => h_.1)); replace HO_274005 := am (Kd.R_mono (Kd.R_told (Kd.R_told (Kd.R_old (pkR HO_274005.out) hb) (Kd.R_base ho0)) (Kd.R_base ho1)) (fun _ h_ => h_.1)); replace HO_274006 := am (Kd.R_mono (Kd.R_told (Kd.R_told (Kd.R_old (pkR HO_274006.out) hb) (Kd.R_base ho0)) (Kd.R_base ho1)) (fun _ h_ => h_.1)); replace BK273 := bbk BK273 hb; replace HB := bst HB hb; (try clear hb ho0 ho1)) | ((with_reducible refine gate_dst (N := 12) rfl ?_); (try (refine gate_guard (by rfl) ?_; dsimp only)); refine box_event ?hg (N := 12) ?hd (cs := #[.int .i64 0, .int .i64 0, .string (⟨#[]⟩ : ByteArray), .int .i64 0, .bool false, .slice none 0 0, .slice none 0 0]) (t := 29) ?hr ?_; (case hd => rfl); (case hg => rfl); (case hr => first | (go_simp; done) | (go_simp; rfl)); intro gb324 hg w74 hbox hb; replace HO_4 := rbl HO_4 hb; replace HO_274005 := rbl HO_274005 hb; replace HO_274006 := rbl HO_274006 hb; replace HO315 := rbl HO315 hb; replace HO318 := rbl HO318 hb; have BK324 := am (hbox); have GW324 := am ((by rw [hg]; exact (below_size (pkW HB.out)) : w.heap.size ≤ gb324)); have GE324 := am ((by rw [hg]; exact (below_size (pkW HB.out)) : w.heap.size ≤ gb324)); replace HB := bst HB hb; have NB273_324 := am ((by rw [hg]; exact Nat.ne_of_lt (blk_lt (g := gb273) (o := .cells #[.int .i64 x274000_1, .int .i64 x274001_1, .string x274002_1, .int .i64 x274003_1, .bool x274004_1, .slice Ao71 x274005_1.length co71, .slice Ao72 x274006_1.length co72] 29 (0, 0)) (pkK BK273.out)) : gb273 ≠ gb324)); have NB324_273 := am ((by rw [hg]; exact Nat.ne_of_gt (blk_lt (g := gb273) (o := .cells #[.int .i64 x274000_1, .int .i64 x274001_1, .string x274002_1, .int .i64 x274003_1, .bool x274004_1, .slice Ao71 x274005_1.length co71, .slice Ao72 x274006_1.length co72] 29 (0, 0)) (pkK BK273.out)) : gb324 ≠ gb273)); replace BK273 := bbk BK273 hb; clear hb hbox hg) | ((with_reducible refine gate_dst (N := 13) rfl ?_); (try (refine gate_guard (by rfl) ?_; dsimp only)); refine box_event ?hg (N := 13) ?hd (cs := #[.int .i64 0, .int .i64 0, .string (⟨#[]⟩ : ByteArray)]) (t := 25) ?hr ?_; (case hd => rfl); (case hg => rfl); (case hr => first | (go_simp; done) | (go_simp; rfl)); intro gb325 hg w75 hbox hb; replace HO_4 := rbl HO_4 hb; replace HO_274005 := rbl HO_274005 hb; replace HO_274006 := rbl HO_274006 hb; replace HO315 := rbl HO315 hb; replace HO318 := rbl HO318 hb; have BK325 := am (hbox); have GW325 := am ((by rw [hg]; exact (below_size (pkW HB.out)) : w.heap.size ≤ gb325)); have GE325 := am ((by rw [hg]; exact (below_size (pkW HB.out)) : w.heap.size ≤ gb325)); replace HB := bst HB hb; have NB273_325 := am ((by rw [hg]; exact Nat.ne_of_lt (blk_lt (g := gb273) (o := .cells #[.int .i64 x274000_1, .int .i64 x274001_1, .string x274002_1, .int .i64 x274003_1, .bool x274004_1, .slice Ao71 x274005_1.length co71, .slice Ao72 x274006_1.length co72] 29 (0, 0)) (pkK BK273.out)) : gb273 ≠ gb325)); have NB325_273 := am ((by rw [hg]; exact Nat.ne_of_gt (blk_lt (g := gb273) (o := .cells #[.int .i64 x274000_1, .int .i64 x274001_1, .string x274002_1, .int .i64 x274003_1, .bool x274004_1, .slice Ao71 x274005_1.length co71, .slice Ao72 x274006_1.length co72] 29 (0, 0)) (pkK BK273.out)) : gb325 ≠ gb273)); replace BK273 := bbk BK273 hb; have NB324_325 := am ((by rw [hg]; exact Nat.ne_of_lt (blk_lt (g := gb324) (o := .cells #[.int .i64 0, .int .i64 0, .string (⟨#[]⟩ : ByteArray), .int .i64 0, .bool false, .slice none 0 0, .slice none 0 0] 29 (0, 0)) (pkK BK324.out)) : gb324 ≠ gb325)); have NB325_324 := am ((by rw [hg]; exact Nat.ne_of_gt (blk_lt (g := gb324) (o := .cells #[.int .i64 0, .int .i64 0, .string (⟨#[]⟩ : ByteArray), .int .i64 0, .bool false, .slice none 0 0, .slice none 0 0] 29 (0, 0)) (pkK BK324.out)) : gb325 ≠ gb324)); replace BK324 := bbk BK324 hb; clear hb hbox hg; have hnb76 := NB324_273.out; have hnc76 := NB273_324.out; have hnb77 := NB324_325.out; have hnc77 := NB325_324.out; obtain ⟨hcz78_0, hcz78_1, hcz78_2, hcz78_3, hcz78_4, hcz78_5, hcz78_6, hfz78_0, hfz78_1, hfz78_2, hfz78_3, hfz78_4, hfz78_5, hfz78_6⟩ := bk7 BK324.out; obtain ⟨Ao79, co79, eo79⟩ := Kd.R_slice HO315.out; subst eo79; obtain ⟨Ao80, co80, eo80⟩ := Kd.R_slice HO318.out; subst eo80; have hnb81 := NB325_273.out; have hnc81 := NB273_325.out; obtain ⟨hcz82_0, hcz82_1, hcz82_2, hfz82_0, hfz82_1, hfz82_2⟩ := bk3 BK325.out; obtain ⟨hcz83_0, hcz83_1, hcz83_2, hcz83_3, hcz83_4, hcz83_5, hcz83_6, hfz83_0, hfz83_1, hfz83_2, hfz83_3, hfz83_4, hfz83_5, hfz83_6⟩ := bk7 BK273.out))
         go_roundg k1
         case measure => have := HK1.out; omega
         case rel => exact ⟨(x4_1), (x5_1), (x6_1), (true), (wrap64 (x8_1 + 1)), (x274000_1), (x274001_1), (x274002_1), (x274003_1), (x274004_1), (x274005_1), (x274006_1), (.slice Ao71 x274005_1.length co71), (.slice Ao72 x274006_1.length co72), rfx, rfx, rfx, rfx, H', ⟨by have := HK1.out; omega⟩, ⟨by (with_reducible repeat (first | apply Kd.R_alloc | apply Kd.R_drewN | apply Kd.R_drew)); exact Kd.R_mono (Kd.R_far (p := ⟨gb325, 2, none⟩) (Kd.R_far (p := ⟨gb325, 1, none⟩) (Kd.R_far (p := ⟨gb325, 0, none⟩) (Kd.R_far (p := ⟨gb324, 6, none⟩) (Kd.R_far (p := ⟨gb324, 5, none⟩) (Kd.R_far (p := ⟨gb324, 4, none⟩) (Kd.R_far (p := ⟨gb324, 3, none⟩) (Kd.R_far (p := ⟨gb324, 2, none⟩) (Kd.R_far (p := ⟨gb324, 1, none⟩) (Kd.R_far (p := ⟨gb324, 0, none⟩) (Kd.R_types (Kd.R_types HO_4.out BK324.out (by decide)) BK325.out (by decide)) (fun _ hk => hk.1.2) (.int .i64 t308)) (fun _ hk => hk.1.2) (.int .i64 t309)) (fun _ hk => hk.1.2) (.string t310)) (fun _ hk => hk.1.2) (.int .i64 t311)) (fun _ hk => hk.1.2) (.bool t312)) (fun _ hk => hk.1.2) (.slice Ao79 t313.length co79)) (fun _ hk => hk.1.2) (.slice Ao80 t316.length co80)) (fun _ hk => hk.2) (.int .i64 t319)) (fun _ hk => hk.2) (.int .i64 t320)) (fun _ hk => hk.2) (.string t321)) (fun _ hk => ⟨hk.1.1.1.1.1, hk.1.1.1.1.2⟩)⟩, ⟨by (with_reducible repeat (first | apply Kd.R_alloc | apply Kd.R_drewN | apply Kd.R_drew)); exact Kd.R_mono (Kd.R_far (p := ⟨gb325, 2, none⟩) (Kd.R_far (p := ⟨gb325, 1, none⟩) (Kd.R_far (p := ⟨gb325, 0, none⟩) (Kd.R_far (p := ⟨gb324, 6, none⟩) (Kd.R_far (p := ⟨gb324, 5, none⟩) (Kd.R_far (p := ⟨gb324, 4, none⟩) (Kd.R_far (p := ⟨gb324, 3, none⟩) (Kd.R_far (p := ⟨gb324, 2, none⟩) (Kd.R_far (p := ⟨gb324, 1, none⟩) (Kd.R_far (p := ⟨gb324, 0, none⟩) (Kd.R_types (Kd.R_types HO_274005.out BK324.out (by decide)) BK325.out (by decide)) (fun _ hk => hk.1.2) (.int .i64 t308)) (fun _ hk => hk.1.2) (.int .i64 t309)) (fun _ hk => hk.1.2) (.string t310)) (fun _ hk => hk.1.2) (.int .i64 t311)) (fun _ hk => hk.1.2) (.bool t312)) (fun _ hk => hk.1.2) (.slice Ao79 t313.length co79)) (fun _ hk => hk.1.2) (.slice Ao80 t316.length co80)) (fun _ hk => hk.2) (.int .i64 t319)) (fun _ hk => hk.2) (.int .i64 t320)) (fun _ hk => hk.2) (.string t321)) (fun _ hk => ⟨hk.1.1.1.1.1, hk.1.1.1.1.2⟩)⟩, ⟨by (with_reducible repeat (first | apply Kd.R_alloc | apply Kd.R_drewN | apply Kd.R_drew)); exact Kd.R_mono (Kd.R_far (p := ⟨gb325, 2, none⟩) (Kd.R_far (p := ⟨gb325, 1, none⟩) (Kd.R_far (p := ⟨gb325, 0, none⟩) (Kd.R_far (p := ⟨gb324, 6, none⟩) (Kd.R_far (p := ⟨gb324, 5, none⟩) (Kd.R_far (p := ⟨gb324, 4, none⟩) (Kd.R_far (p := ⟨gb324, 3, none⟩) (Kd.R_far (p := ⟨gb324, 2, none⟩) (Kd.R_far (p := ⟨gb324, 1, none⟩) (Kd.R_far (p := ⟨gb324, 0, none⟩) (Kd.R_types (Kd.R_types HO_274006.out BK324.out (by decide)) BK325.out (by decide)) (fun _ hk => hk.1.2) (.int .i64 t308)) (fun _ hk => hk.1.2) (.int .i64 t309)) (fun _ hk => hk.1.2) (.string t310)) (fun _ hk => hk.1.2) (.int .i64 t311)) (fun _ hk => hk.1.2) (.bool t312)) (fun _ hk => hk.1.2) (.slice Ao79 t313.length co79)) (fun _ hk => hk.1.2) (.slice Ao80 t316.length co80)) (fun _ hk => hk.2) (.int .i64 t319)) (fun _ hk => hk.2) (.int .i64 t320)) (fun _ hk => hk.2) (.string t321)) (fun _ hk => ⟨hk.1.1.1.1.1, hk.1.1.1.1.2⟩)⟩, ⟨by (with_reducible repeat (first | refine blk_drewN ?_ _ | refine blk_drew ?_ | refine blk_alloc ?_ _)); refine blk_far ?_ NB273_325.out _; (with_reducible repeat (first | refine blk_drewN ?_ _ | refine blk_drew ?_ | refine blk_alloc ?_ _)); refine blk_far ?_ NB273_325.out _; (with_reducible repeat (first | refine blk_drewN ?_ _ | refine blk_drew ?_ | refine blk_alloc ?_ _)); refine blk_far ?_ NB273_325.out _; (with_reducible repeat (first | refine blk_drewN ?_ _ | refine blk_drew ?_ | refine blk_alloc ?_ _)); exact (fa7x48 (pkK BK273.out) NB273_324.out)⟩, ⟨pkW HB.out⟩⟩
       ·rw [if_neg c68] at H
        have c68b0 : (t323 == 4) = false := beq_eq_false_iff_ne.mpr c68
        have c68b1 : (t323 != 4) = true := bne_iff_ne.mpr c68
        by_cases c84 : t323 = 0
        ·rw [if_pos c84] at H
         have c84b0 : (t323 == 0) = true := beq_iff_eq.mpr c84
         have c84b1 : (t323 != 0) = false := bne_eq_false_iff_eq.mpr c84
         clear c84
         by_cases c85 : t322 ≤ x5_1
         ·rw [if_pos c85] at H
          have c85b0 : decide (t322 ≤ x5_1) = true := decide_eq_true c85
          clear c85
          exact absurd (Option.some.inj H) (by rw [HQ_.out]; simp)
         ·rw [if_neg c85] at H
          have c85b0 : decide (t322 ≤ x5_1) = false := decide_eq_false c85
          clear c85
          by_cases c86 : t322 ≥ (x4_1.length : Int)
          ·rw [if_pos c86] at H
           have c86b0 : decide ((x4_1.length : Int) ≤ t322) = true := decide_eq_true c86
           clear c86
           exact absurd (Option.some.inj H) (by rw [HQ_.out]; simp)
          ·rw [if_neg c86] at H
           have c86b0 : decide ((x4_1.length : Int) ≤ t322) = false := decide_eq_false c86
           clear c86
           by_cases c87 : 0 ≤ t322
           ·rw [if_pos c87] at H
            have c87b0 : decide (0 ≤ t322) = true := decide_eq_true c87
            clear c87
            by_cases c88 : t322 < (x4_1.length : Int)
            ·rw [if_pos c88] at H
             have c88b0 : decide (t322 < (x4_1.length : Int)) = true := decide_eq_true c88
             clear c88
             by_cases c89 : t320 = (rd x4_1 t322)
             ·rw [if_pos c89] at H
              have c89b0 : (t320 == (rd x4_1 t322)) = true := beq_iff_eq.mpr c89
              have c89b1 : (t320 != (rd x4_1 t322)) = false := bne_eq_false_iff_eq.mpr c89
              clear c89
              by_cases c90 : t322 ≤ x6_1
              ·rw [if_pos c90] at H
               have c90b0 : decide (t322 ≤ x6_1) = true := decide_eq_true c90
               clear c90
               exact absurd (Option.some.inj H) (by rw [HQ_.out]; simp)
              ·rw [if_neg c90] at H
               have c90b0 : decide (t322 ≤ x6_1) = false := decide_eq_false c90
               clear c90
               have H' := am H
               clear H
               try go_wp2_with (first | ((with_reducible refine gate_callee (f := 17) rfl ?_); refine goesL_ (some 32) rfl rfl Try.func17 (by kernel_rfl) rfl #[.slice A0 l0.length c0, .int .i64 x8_1] rfl mpx ?_; (with_reducible refine (laws_at.calls _ _ l0 x8_1 t279 _ ?side1 ?side2 A11.out).mono ?_); (case side1 => exact pkC (Kd.C_below HR0.out HB.out)); (case side2 => exact HC0.out); rintro e w' ⟨rfl, nd, rfl⟩; refine ⟨_, rfl, ?_⟩; (try (rw [drewN_self wr]; generalize hq_ : World.drewN wr _ = wr; replace HO_274005 : Aside0 (Kd.R (Kd.int .i64) 3 wr w.heap.size (fun k_ => (some k_ ≠ (u4 : Value).ownBlock ∧ some k_ ≠ (u274006 : Value).ownBlock)) u274005 x274005_1) := ⟨by rw [← hq_]; exact (pkR HO_274005.out)⟩; replace HO_274006 : Aside0 (Kd.R (Kd.int .i64) 3 wr w.heap.size (fun k_ => (some k_ ≠ (u4 : Value).ownBlock ∧ some k_ ≠ (u274005 : Value).ownBlock)) u274006 x274006_1) := ⟨by rw [← hq_]; exact (pkR HO_274006.out)⟩; replace HO_4 : Aside0 (Kd.R (Kd.int .i64) 3 wr w.heap.size (fun k_ => (some k_ ≠ (u274005 : Value).ownBlock ∧ some k_ ≠ (u274006 : Value).ownBlock)) u4 x4_1) := ⟨by rw [← hq_]; exact (pkR HO_4.out)⟩; replace BK273 : Aside0 (wr.heap[gb273]? = some (.cells #[.int .i64 x274000_1, .int .i64 x274001_1, .string x274002_1, .int .i64 x274003_1, .bool x274004_1, u274005, u274006] 29 (0, 0))) := ⟨by rw [← hq_]; exact (pkK BK273.out)⟩; replace HB : Aside0 (Below w.heap.size w wr) := ⟨by rw [← hq_]; exact (pkW HB.out)⟩; clear hq_)); obtain ⟨hcz91_0, hcz91_1, hcz91_2, hcz91_3, hcz91_4, hcz91_5, hcz91_6, hfz91_0, hfz91_1, hfz91_2, hfz91_3, hfz91_4, hfz91_5, hfz91_6⟩ := bk7 BK273.out; obtain ⟨Ao92, co92, eo92⟩ := Kd.R_slice HO_274005.out; subst eo92; obtain ⟨Ao93, co93, eo93⟩ := Kd.R_slice HO_274006.out; subst eo93) | ((with_reducible refine gate_callee (f := 19) rfl ?_); refine goesL_ (some 73) rfl rfl Try.func19 (by kernel_rfl) rfl #[.agg #[.int .i64 x274000_1, .int .i64 x274001_1, .string x274002_1, .int .i64 x274003_1, .bool x274004_1, .slice Ao92 x274005_1.length co92, .slice Ao93 x274006_1.length co93], .int .i64 3] rfl mpx ?_; (with_reducible refine (impl_Seen.calls k1 x274000_1 x274001_1 x274002_1 x274003_1 x274004_1 _ _ x274005_1 _ _ x274006_1 3 t308 t309 t310 t311 t312 t313 t316 t319 t320 t321 t322 t323 _ ?side1 ?side2 ?side3 ?side4 A67.out).mono ?_); (case side1 => exact pkC (Kd.R_reads' HO_274005.out).2.2); (case side2 => exact (Kd.R_reads' HO_274005.out).2.1); (case side3 => exact pkC (Kd.R_reads' HO_274006.out).2.2); (case side4 => exact (Kd.R_reads' HO_274006.out).2.1); rintro e w94 ⟨v314, v317, rfl, ho0, ho1, hb⟩; refine ⟨_, rfl, ?_⟩; have HO315 := am (Kd.R_lower (Kd.R_new' (Kd.R_new' (Kd.R_new' ho0 (Kd.R_lt (pkR HO_4.out))) (Kd.R_lt (pkR HO_274005.out))) (Kd.R_lt (pkR HO_274006.out))) (below_size (pkW HB.out))); have HO318 := am (Kd.R_lower (Kd.R_new' (Kd.R_new' (Kd.R_new' ho1 (Kd.R_lt (pkR HO_4.out))) (Kd.R_lt (pkR HO_274005.out))) (Kd.R_lt (pkR HO_274006.out))) (below_size (pkW HB.out))); replace HO_4 := am (Kd.R_mono (Kd.R_told (Kd.R_told (Kd.R_old (pkR HO_4.out) hb) (Kd.R_base ho0)) (Kd.R_base ho1)) (fun _ h_ => h_.1)); replace HO_274005 := am (Kd.R_mono (Kd.R_told (Kd.R_told (Kd.R_old (pkR HO_274005.out) hb) (Kd.R_base ho0)) (Kd.R_base ho1)) (fun _ h_ => h_.1)); replace HO_274006 := am (Kd.R_mono (Kd.R_told (Kd.R_told (Kd.R_old (pkR HO_274006.out) hb) (Kd.R_base ho0)) (Kd.R_base ho1)) (fun _ h_ => h_.1)); replace BK273 := bbk BK273 hb; replace HB := bst HB hb; (try clear hb ho0 ho1)) | ((with_reducible refine gate_dst (N := 12) rfl ?_); (try (refine gate_guard (by rfl) ?_; dsimp only)); refine box_event ?hg (N := 12) ?hd (cs := #[.int .i64 0, .int .i64 0, .string (⟨#[]⟩ : ByteArray), .int .i64 0, .bool false, .slice none 0 0, .slice none 0 0]) (t := 29) ?hr ?_; (case hd => rfl); (case hg => rfl); (case hr => first | (go_simp; done) | (go_simp; rfl)); intro gb324 hg w95 hbox hb; replace HO_4 := rbl HO_4 hb; replace HO_274005 := rbl HO_274005 hb; replace HO_274006 := rbl HO_274006 hb; replace HO315 := rbl HO315 hb; replace HO318 := rbl HO318 hb; have BK324 := am (hbox); have GW324 := am ((by rw [hg]; exact (below_size (pkW HB.out)) : w.heap.size ≤ gb324)); have GE324 := am ((by rw [hg]; exact (below_size (pkW HB.out)) : w.heap.size ≤ gb324)); replace HB := bst HB hb; have NB273_324 := am ((by rw [hg]; exact Nat.ne_of_lt (blk_lt (g := gb273) (o := .cells #[.int .i64 x274000_1, .int .i64 x274001_1, .string x274002_1, .int .i64 x274003_1, .bool x274004_1, .slice Ao92 x274005_1.length co92, .slice Ao93 x274006_1.length co93] 29 (0, 0)) (pkK BK273.out)) : gb273 ≠ gb324)); have NB324_273 := am ((by rw [hg]; exact Nat.ne_of_gt (blk_lt (g := gb273) (o := .cells #[.int .i64 x274000_1, .int .i64 x274001_1, .string x274002_1, .int .i64 x274003_1, .bool x274004_1, .slice Ao92 x274005_1.length co92, .slice Ao93 x274006_1.length co93] 29 (0, 0)) (pkK BK273.out)) : gb324 ≠ gb273)); replace BK273 := bbk BK273 hb; clear hb hbox hg) | ((with_reducible refine gate_dst (N := 13) rfl ?_); (try (refine gate_guard (by rfl) ?_; dsimp only)); refine box_event ?hg (N := 13) ?hd (cs := #[.int .i64 0, .int .i64 0, .string (⟨#[]⟩ : ByteArray)]) (t := 25) ?hr ?_; (case hd => rfl); (case hg => rfl); (case hr => first | (go_simp; done) | (go_simp; rfl)); intro gb325 hg w96 hbox hb; replace HO_4 := rbl HO_4 hb; replace HO_274005 := rbl HO_274005 hb; replace HO_274006 := rbl HO_274006 hb; replace HO315 := rbl HO315 hb; replace HO318 := rbl HO318 hb; have BK325 := am (hbox); have GW325 := am ((by rw [hg]; exact (below_size (pkW HB.out)) : w.heap.size ≤ gb325)); have GE325 := am ((by rw [hg]; exact (below_size (pkW HB.out)) : w.heap.size ≤ gb325)); replace HB := bst HB hb; have NB273_325 := am ((by rw [hg]; exact Nat.ne_of_lt (blk_lt (g := gb273) (o := .cells #[.int .i64 x274000_1, .int .i64 x274001_1, .string x274002_1, .int .i64 x274003_1, .bool x274004_1, .slice Ao92 x274005_1.length co92, .slice Ao93 x274006_1.length co93] 29 (0, 0)) (pkK BK273.out)) : gb273 ≠ gb325)); have NB325_273 := am ((by rw [hg]; exact Nat.ne_of_gt (blk_lt (g := gb273) (o := .cells #[.int .i64 x274000_1, .int .i64 x274001_1, .string x274002_1, .int .i64 x274003_1, .bool x274004_1, .slice Ao92 x274005_1.length co92, .slice Ao93 x274006_1.length co93] 29 (0, 0)) (pkK BK273.out)) : gb325 ≠ gb273)); replace BK273 := bbk BK273 hb; have NB324_325 := am ((by rw [hg]; exact Nat.ne_of_lt (blk_lt (g := gb324) (o := .cells #[.int .i64 0, .int .i64 0, .string (⟨#[]⟩ : ByteArray), .int .i64 0, .bool false, .slice none 0 0, .slice none 0 0] 29 (0, 0)) (pkK BK324.out)) : gb324 ≠ gb325)); have NB325_324 := am ((by rw [hg]; exact Nat.ne_of_gt (blk_lt (g := gb324) (o := .cells #[.int .i64 0, .int .i64 0, .string (⟨#[]⟩ : ByteArray), .int .i64 0, .bool false, .slice none 0 0, .slice none 0 0] 29 (0, 0)) (pkK BK324.out)) : gb325 ≠ gb324)); replace BK324 := bbk BK324 hb; clear hb hbox hg; have hnb97 := NB324_273.out; have hnc97 := NB273_324.out; have hnb98 := NB324_325.out; have hnc98 := NB325_324.out; obtain ⟨hcz99_0, hcz99_1, hcz99_2, hcz99_3, hcz99_4, hcz99_5, hcz99_6, hfz99_0, hfz99_1, hfz99_2, hfz99_3, hfz99_4, hfz99_5, hfz99_6⟩ := bk7 BK324.out; obtain ⟨Ao100, co100, eo100⟩ := Kd.R_slice HO315.out; subst eo100; obtain ⟨Ao101, co101, eo101⟩ := Kd.R_slice HO318.out; subst eo101; have hnb102 := NB325_273.out; have hnc102 := NB273_325.out; obtain ⟨hcz103_0, hcz103_1, hcz103_2, hfz103_0, hfz103_1, hfz103_2⟩ := bk3 BK325.out))
               have n0_ : Aside0 (Kd.R (Kd.int .i64) 3 ((((((((((w96.setCell ⟨gb324, 0, none⟩ (.int .i64 t308)).setCell ⟨gb324, 1, none⟩ (.int .i64 t309)).setCell ⟨gb324, 2, none⟩ (.string t310)).setCell ⟨gb324, 3, none⟩ (.int .i64 t311)).setCell ⟨gb324, 4, none⟩ (.bool t312)).setCell ⟨gb324, 5, none⟩ (.slice Ao100 t313.length co100)).setCell ⟨gb324, 6, none⟩ (.slice Ao101 t316.length co101)).setCell ⟨gb325, 0, none⟩ (.int .i64 t319)).setCell ⟨gb325, 1, none⟩ (.int .i64 t320)).setCell ⟨gb325, 2, none⟩ (.string t321)) w.heap.size (fun k_ => some k_ ≠ (.slice Ao92 x274005_1.length co92 : Value).ownBlock ∧ some k_ ≠ (.slice Ao93 x274006_1.length co93 : Value).ownBlock ∧ some k_ ≠ (.slice Ao100 t313.length co100 : Value).ownBlock ∧ some k_ ≠ (.slice Ao101 t316.length co101 : Value).ownBlock) u4 x4_1) := ⟨by (with_reducible repeat (first | apply Kd.R_alloc | apply Kd.R_drewN | apply Kd.R_drew)); exact Kd.R_mono (Kd.R_far (p := ⟨gb325, 2, none⟩) (Kd.R_far (p := ⟨gb325, 1, none⟩) (Kd.R_far (p := ⟨gb325, 0, none⟩) (Kd.R_far (p := ⟨gb324, 6, none⟩) (Kd.R_far (p := ⟨gb324, 5, none⟩) (Kd.R_far (p := ⟨gb324, 4, none⟩) (Kd.R_far (p := ⟨gb324, 3, none⟩) (Kd.R_far (p := ⟨gb324, 2, none⟩) (Kd.R_far (p := ⟨gb324, 1, none⟩) (Kd.R_far (p := ⟨gb324, 0, none⟩) (Kd.R_types (Kd.R_types HO_4.out BK324.out (by decide)) BK325.out (by decide)) (fun _ hk => hk.1.2) (.int .i64 t308)) (fun _ hk => hk.1.2) (.int .i64 t309)) (fun _ hk => hk.1.2) (.string t310)) (fun _ hk => hk.1.2) (.int .i64 t311)) (fun _ hk => hk.1.2) (.bool t312)) (fun _ hk => hk.1.2) (.slice Ao100 t313.length co100)) (fun _ hk => hk.1.2) (.slice Ao101 t316.length co101)) (fun _ hk => hk.2) (.int .i64 t319)) (fun _ hk => hk.2) (.int .i64 t320)) (fun _ hk => hk.2) (.string t321)) (fun _ hk => ⟨hk.1.1.1.1.1, hk.1.1.1.1.2, hk.1.1.1.2, hk.1.1.2⟩)⟩
               have n1_ : Aside0 (Kd.R (Kd.int .i64) 3 ((((((((((w96.setCell ⟨gb324, 0, none⟩ (.int .i64 t308)).setCell ⟨gb324, 1, none⟩ (.int .i64 t309)).setCell ⟨gb324, 2, none⟩ (.string t310)).setCell ⟨gb324, 3, none⟩ (.int .i64 t311)).setCell ⟨gb324, 4, none⟩ (.bool t312)).setCell ⟨gb324, 5, none⟩ (.slice Ao100 t313.length co100)).setCell ⟨gb324, 6, none⟩ (.slice Ao101 t316.length co101)).setCell ⟨gb325, 0, none⟩ (.int .i64 t319)).setCell ⟨gb325, 1, none⟩ (.int .i64 t320)).setCell ⟨gb325, 2, none⟩ (.string t321)) w.heap.size (fun k_ => some k_ ≠ (u4 : Value).ownBlock ∧ some k_ ≠ (.slice Ao93 x274006_1.length co93 : Value).ownBlock ∧ some k_ ≠ (.slice Ao100 t313.length co100 : Value).ownBlock ∧ some k_ ≠ (.slice Ao101 t316.length co101 : Value).ownBlock) (.slice Ao92 x274005_1.length co92) x274005_1) := ⟨by (with_reducible repeat (first | apply Kd.R_alloc | apply Kd.R_drewN | apply Kd.R_drew)); exact Kd.R_mono (Kd.R_far (p := ⟨gb325, 2, none⟩) (Kd.R_far (p := ⟨gb325, 1, none⟩) (Kd.R_far (p := ⟨gb325, 0, none⟩) (Kd.R_far (p := ⟨gb324, 6, none⟩) (Kd.R_far (p := ⟨gb324, 5, none⟩) (Kd.R_far (p := ⟨gb324, 4, none⟩) (Kd.R_far (p := ⟨gb324, 3, none⟩) (Kd.R_far (p := ⟨gb324, 2, none⟩) (Kd.R_far (p := ⟨gb324, 1, none⟩) (Kd.R_far (p := ⟨gb324, 0, none⟩) (Kd.R_types (Kd.R_types HO_274005.out BK324.out (by decide)) BK325.out (by decide)) (fun _ hk => hk.1.2) (.int .i64 t308)) (fun _ hk => hk.1.2) (.int .i64 t309)) (fun _ hk => hk.1.2) (.string t310)) (fun _ hk => hk.1.2) (.int .i64 t311)) (fun _ hk => hk.1.2) (.bool t312)) (fun _ hk => hk.1.2) (.slice Ao100 t313.length co100)) (fun _ hk => hk.1.2) (.slice Ao101 t316.length co101)) (fun _ hk => hk.2) (.int .i64 t319)) (fun _ hk => hk.2) (.int .i64 t320)) (fun _ hk => hk.2) (.string t321)) (fun _ hk => ⟨hk.1.1.1.1.1, hk.1.1.1.1.2, hk.1.1.1.2, hk.1.1.2⟩)⟩
               have n2_ : Aside0 (Kd.R (Kd.int .i64) 3 ((((((((((w96.setCell ⟨gb324, 0, none⟩ (.int .i64 t308)).setCell ⟨gb324, 1, none⟩ (.int .i64 t309)).setCell ⟨gb324, 2, none⟩ (.string t310)).setCell ⟨gb324, 3, none⟩ (.int .i64 t311)).setCell ⟨gb324, 4, none⟩ (.bool t312)).setCell ⟨gb324, 5, none⟩ (.slice Ao100 t313.length co100)).setCell ⟨gb324, 6, none⟩ (.slice Ao101 t316.length co101)).setCell ⟨gb325, 0, none⟩ (.int .i64 t319)).setCell ⟨gb325, 1, none⟩ (.int .i64 t320)).setCell ⟨gb325, 2, none⟩ (.string t321)) w.heap.size (fun k_ => some k_ ≠ (u4 : Value).ownBlock ∧ some k_ ≠ (.slice Ao92 x274005_1.length co92 : Value).ownBlock ∧ some k_ ≠ (.slice Ao100 t313.length co100 : Value).ownBlock ∧ some k_ ≠ (.slice Ao101 t316.length co101 : Value).ownBlock) (.slice Ao93 x274006_1.length co93) x274006_1) := ⟨by (with_reducible repeat (first | apply Kd.R_alloc | apply Kd.R_drewN | apply Kd.R_drew)); exact Kd.R_mono (Kd.R_far (p := ⟨gb325, 2, none⟩) (Kd.R_far (p := ⟨gb325, 1, none⟩) (Kd.R_far (p := ⟨gb325, 0, none⟩) (Kd.R_far (p := ⟨gb324, 6, none⟩) (Kd.R_far (p := ⟨gb324, 5, none⟩) (Kd.R_far (p := ⟨gb324, 4, none⟩) (Kd.R_far (p := ⟨gb324, 3, none⟩) (Kd.R_far (p := ⟨gb324, 2, none⟩) (Kd.R_far (p := ⟨gb324, 1, none⟩) (Kd.R_far (p := ⟨gb324, 0, none⟩) (Kd.R_types (Kd.R_types HO_274006.out BK324.out (by decide)) BK325.out (by decide)) (fun _ hk => hk.1.2) (.int .i64 t308)) (fun _ hk => hk.1.2) (.int .i64 t309)) (fun _ hk => hk.1.2) (.string t310)) (fun _ hk => hk.1.2) (.int .i64 t311)) (fun _ hk => hk.1.2) (.bool t312)) (fun _ hk => hk.1.2) (.slice Ao100 t313.length co100)) (fun _ hk => hk.1.2) (.slice Ao101 t316.length co101)) (fun _ hk => hk.2) (.int .i64 t319)) (fun _ hk => hk.2) (.int .i64 t320)) (fun _ hk => hk.2) (.string t321)) (fun _ hk => ⟨hk.1.1.1.1.1, hk.1.1.1.1.2, hk.1.1.1.2, hk.1.1.2⟩)⟩
               have n3_ : Aside0 (Kd.R (Kd.int .i64) 3 ((((((((((w96.setCell ⟨gb324, 0, none⟩ (.int .i64 t308)).setCell ⟨gb324, 1, none⟩ (.int .i64 t309)).setCell ⟨gb324, 2, none⟩ (.string t310)).setCell ⟨gb324, 3, none⟩ (.int .i64 t311)).setCell ⟨gb324, 4, none⟩ (.bool t312)).setCell ⟨gb324, 5, none⟩ (.slice Ao100 t313.length co100)).setCell ⟨gb324, 6, none⟩ (.slice Ao101 t316.length co101)).setCell ⟨gb325, 0, none⟩ (.int .i64 t319)).setCell ⟨gb325, 1, none⟩ (.int .i64 t320)).setCell ⟨gb325, 2, none⟩ (.string t321)) w.heap.size (fun k_ => some k_ ≠ (u4 : Value).ownBlock ∧ some k_ ≠ (.slice Ao92 x274005_1.length co92 : Value).ownBlock ∧ some k_ ≠ (.slice Ao93 x274006_1.length co93 : Value).ownBlock ∧ some k_ ≠ (.slice Ao101 t316.length co101 : Value).ownBlock) (.slice Ao100 t313.length co100) t313) := ⟨by (with_reducible repeat (first | apply Kd.R_alloc | apply Kd.R_drewN | apply Kd.R_drew)); exact Kd.R_mono (Kd.R_far (p := ⟨gb325, 2, none⟩) (Kd.R_far (p := ⟨gb325, 1, none⟩) (Kd.R_far (p := ⟨gb325, 0, none⟩) (Kd.R_far (p := ⟨gb324, 6, none⟩) (Kd.R_far (p := ⟨gb324, 5, none⟩) (Kd.R_far (p := ⟨gb324, 4, none⟩) (Kd.R_far (p := ⟨gb324, 3, none⟩) (Kd.R_far (p := ⟨gb324, 2, none⟩) (Kd.R_far (p := ⟨gb324, 1, none⟩) (Kd.R_far (p := ⟨gb324, 0, none⟩) (Kd.R_types (Kd.R_types HO315.out BK324.out (by decide)) BK325.out (by decide)) (fun _ hk => hk.1.2) (.int .i64 t308)) (fun _ hk => hk.1.2) (.int .i64 t309)) (fun _ hk => hk.1.2) (.string t310)) (fun _ hk => hk.1.2) (.int .i64 t311)) (fun _ hk => hk.1.2) (.bool t312)) (fun _ hk => hk.1.2) (.slice Ao100 t313.length co100)) (fun _ hk => hk.1.2) (.slice Ao101 t316.length co101)) (fun _ hk => hk.2) (.int .i64 t319)) (fun _ hk => hk.2) (.int .i64 t320)) (fun _ hk => hk.2) (.string t321)) (fun _ hk => ⟨hk.1.1.1.1.2, hk.1.1.1.2, hk.1.1.2, hk.1.1.1.1.1⟩)⟩
               have n4_ : Aside0 (Kd.R (Kd.int .i64) 3 ((((((((((w96.setCell ⟨gb324, 0, none⟩ (.int .i64 t308)).setCell ⟨gb324, 1, none⟩ (.int .i64 t309)).setCell ⟨gb324, 2, none⟩ (.string t310)).setCell ⟨gb324, 3, none⟩ (.int .i64 t311)).setCell ⟨gb324, 4, none⟩ (.bool t312)).setCell ⟨gb324, 5, none⟩ (.slice Ao100 t313.length co100)).setCell ⟨gb324, 6, none⟩ (.slice Ao101 t316.length co101)).setCell ⟨gb325, 0, none⟩ (.int .i64 t319)).setCell ⟨gb325, 1, none⟩ (.int .i64 t320)).setCell ⟨gb325, 2, none⟩ (.string t321)) w.heap.size (fun k_ => some k_ ≠ (u4 : Value).ownBlock ∧ some k_ ≠ (.slice Ao92 x274005_1.length co92 : Value).ownBlock ∧ some k_ ≠ (.slice Ao93 x274006_1.length co93 : Value).ownBlock ∧ some k_ ≠ (.slice Ao100 t313.length co100 : Value).ownBlock) (.slice Ao101 t316.length co101) t316) := ⟨by (with_reducible repeat (first | apply Kd.R_alloc | apply Kd.R_drewN | apply Kd.R_drew)); exact Kd.R_mono (Kd.R_far (p := ⟨gb325, 2, none⟩) (Kd.R_far (p := ⟨gb325, 1, none⟩) (Kd.R_far (p := ⟨gb325, 0, none⟩) (Kd.R_far (p := ⟨gb324, 6, none⟩) (Kd.R_far (p := ⟨gb324, 5, none⟩) (Kd.R_far (p := ⟨gb324, 4, none⟩) (Kd.R_far (p := ⟨gb324, 3, none⟩) (Kd.R_far (p := ⟨gb324, 2, none⟩) (Kd.R_far (p := ⟨gb324, 1, none⟩) (Kd.R_far (p := ⟨gb324, 0, none⟩) (Kd.R_types (Kd.R_types HO318.out BK324.out (by decide)) BK325.out (by decide)) (fun _ hk => hk.1.2) (.int .i64 t308)) (fun _ hk => hk.1.2) (.int .i64 t309)) (fun _ hk => hk.1.2) (.string t310)) (fun _ hk => hk.1.2) (.int .i64 t311)) (fun _ hk => hk.1.2) (.bool t312)) (fun _ hk => hk.1.2) (.slice Ao100 t313.length co100)) (fun _ hk => hk.1.2) (.slice Ao101 t316.length co101)) (fun _ hk => hk.2) (.int .i64 t319)) (fun _ hk => hk.2) (.int .i64 t320)) (fun _ hk => hk.2) (.string t321)) (fun _ hk => ⟨hk.1.1.1.1.2, hk.1.1.1.2, hk.1.1.2, hk.1.1.1.1.1⟩)⟩
               have n5_ : Aside0 (((((((((((w96.setCell ⟨gb324, 0, none⟩ (.int .i64 t308)).setCell ⟨gb324, 1, none⟩ (.int .i64 t309)).setCell ⟨gb324, 2, none⟩ (.string t310)).setCell ⟨gb324, 3, none⟩ (.int .i64 t311)).setCell ⟨gb324, 4, none⟩ (.bool t312)).setCell ⟨gb324, 5, none⟩ (.slice Ao100 t313.length co100)).setCell ⟨gb324, 6, none⟩ (.slice Ao101 t316.length co101)).setCell ⟨gb325, 0, none⟩ (.int .i64 t319)).setCell ⟨gb325, 1, none⟩ (.int .i64 t320)).setCell ⟨gb325, 2, none⟩ (.string t321)).heap[gb273]? = some (.cells #[.int .i64 x274000_1, .int .i64 x274001_1, .string x274002_1, .int .i64 x274003_1, .bool x274004_1, .slice Ao92 x274005_1.length co92, .slice Ao93 x274006_1.length co93] 29 (0, 0))) := ⟨by (with_reducible repeat (first | refine blk_drewN ?_ _ | refine blk_drew ?_ | refine blk_alloc ?_ _)); refine blk_far ?_ NB273_325.out _; (with_reducible repeat (first | refine blk_drewN ?_ _ | refine blk_drew ?_ | refine blk_alloc ?_ _)); refine blk_far ?_ NB273_325.out _; (with_reducible repeat (first | refine blk_drewN ?_ _ | refine blk_drew ?_ | refine blk_alloc ?_ _)); refine blk_far ?_ NB273_325.out _; (with_reducible repeat (first | refine blk_drewN ?_ _ | refine blk_drew ?_ | refine blk_alloc ?_ _)); exact (fa7x48 (pkK BK273.out) NB273_324.out)⟩
               have n6_ : Aside0 (((((((((((w96.setCell ⟨gb324, 0, none⟩ (.int .i64 t308)).setCell ⟨gb324, 1, none⟩ (.int .i64 t309)).setCell ⟨gb324, 2, none⟩ (.string t310)).setCell ⟨gb324, 3, none⟩ (.int .i64 t311)).setCell ⟨gb324, 4, none⟩ (.bool t312)).setCell ⟨gb324, 5, none⟩ (.slice Ao100 t313.length co100)).setCell ⟨gb324, 6, none⟩ (.slice Ao101 t316.length co101)).setCell ⟨gb325, 0, none⟩ (.int .i64 t319)).setCell ⟨gb325, 1, none⟩ (.int .i64 t320)).setCell ⟨gb325, 2, none⟩ (.string t321)).heap[gb324]? = some (.cells #[.int .i64 t308, .int .i64 t309, .string t310, .int .i64 t311, .bool t312, .slice Ao100 t313.length co100, .slice Ao101 t316.length co101] 29 (0, 0))) := ⟨by (with_reducible repeat (first | refine blk_drewN ?_ _ | refine blk_drew ?_ | refine blk_alloc ?_ _)); refine blk_far ?_ NB324_325.out _; (with_reducible repeat (first | refine blk_drewN ?_ _ | refine blk_drew ?_ | refine blk_alloc ?_ _)); refine blk_far ?_ NB324_325.out _; (with_reducible repeat (first | refine blk_drewN ?_ _ | refine blk_drew ?_ | refine blk_alloc ?_ _)); refine blk_far ?_ NB324_325.out _; (with_reducible repeat (first | refine blk_drewN ?_ _ | refine blk_drew ?_ | refine blk_alloc ?_ _)); exact (pt7x48 (pkK BK324.out))⟩
               have n7_ : Aside0 (((((((((((w96.setCell ⟨gb324, 0, none⟩ (.int .i64 t308)).setCell ⟨gb324, 1, none⟩ (.int .i64 t309)).setCell ⟨gb324, 2, none⟩ (.string t310)).setCell ⟨gb324, 3, none⟩ (.int .i64 t311)).setCell ⟨gb324, 4, none⟩ (.bool t312)).setCell ⟨gb324, 5, none⟩ (.slice Ao100 t313.length co100)).setCell ⟨gb324, 6, none⟩ (.slice Ao101 t316.length co101)).setCell ⟨gb325, 0, none⟩ (.int .i64 t319)).setCell ⟨gb325, 1, none⟩ (.int .i64 t320)).setCell ⟨gb325, 2, none⟩ (.string t321)).heap[gb325]? = some (.cells #[.int .i64 t319, .int .i64 t320, .string t321] 25 (0, 0))) := ⟨by (with_reducible repeat (first | refine blk_drewN ?_ _ | refine blk_drew ?_ | refine blk_alloc ?_ _)); refine blk_put (cs := #[.int .i64 t319, .int .i64 t320, .string (⟨#[]⟩ : ByteArray)]) ?_ 2 _ rfl; (with_reducible repeat (first | refine blk_drewN ?_ _ | refine blk_drew ?_ | refine blk_alloc ?_ _)); refine blk_put (cs := #[.int .i64 t319, .int .i64 0, .string (⟨#[]⟩ : ByteArray)]) ?_ 1 _ rfl; (with_reducible repeat (first | refine blk_drewN ?_ _ | refine blk_drew ?_ | refine blk_alloc ?_ _)); refine blk_put (cs := #[.int .i64 0, .int .i64 0, .string (⟨#[]⟩ : ByteArray)]) ?_ 0 _ rfl; (with_reducible repeat (first | refine blk_drewN ?_ _ | refine blk_drew ?_ | refine blk_alloc ?_ _)); exact (fa7x48 (pkK BK325.out) NB325_324.out)⟩
               have n8_ : Aside0 (Below w.heap.size w ((((((((((w96.setCell ⟨gb324, 0, none⟩ (.int .i64 t308)).setCell ⟨gb324, 1, none⟩ (.int .i64 t309)).setCell ⟨gb324, 2, none⟩ (.string t310)).setCell ⟨gb324, 3, none⟩ (.int .i64 t311)).setCell ⟨gb324, 4, none⟩ (.bool t312)).setCell ⟨gb324, 5, none⟩ (.slice Ao100 t313.length co100)).setCell ⟨gb324, 6, none⟩ (.slice Ao101 t316.length co101)).setCell ⟨gb325, 0, none⟩ (.int .i64 t319)).setCell ⟨gb325, 1, none⟩ (.int .i64 t320)).setCell ⟨gb325, 2, none⟩ (.string t321))) := ⟨pkW HB.out⟩
               (try clear HO_4); (try clear HO_274005); (try clear HO_274006); (try clear HO315); (try clear HO318); (try clear BK273); (try clear BK324); (try clear BK325); (try clear HB)
               generalize ((((((((((w96.setCell ⟨gb324, 0, none⟩ (.int .i64 t308)).setCell ⟨gb324, 1, none⟩ (.int .i64 t309)).setCell ⟨gb324, 2, none⟩ (.string t310)).setCell ⟨gb324, 3, none⟩ (.int .i64 t311)).setCell ⟨gb324, 4, none⟩ (.bool t312)).setCell ⟨gb324, 5, none⟩ (.slice Ao100 t313.length co100)).setCell ⟨gb324, 6, none⟩ (.slice Ao101 t316.length co101)).setCell ⟨gb325, 0, none⟩ (.int .i64 t319)).setCell ⟨gb325, 1, none⟩ (.int .i64 t320)).setCell ⟨gb325, 2, none⟩ (.string t321)) = w104 at n0_ n1_ n2_ n3_ n4_ n5_ n6_ n7_ n8_ ⊢
               have HO_4 := n0_; have HO_274005 := n1_; have HO_274006 := n2_; have HO315 := n3_; have HO318 := n4_; have BK273 := n5_; have BK324 := n6_; have BK325 := n7_; have HB := n8_
               clear n0_ n1_ n2_ n3_ n4_ n5_ n6_ n7_ n8_
               replace HO_4 := am (Kd.R_drew HO_4.out)
               replace HO_274005 := am (Kd.R_drew HO_274005.out)
               replace HO_274006 := am (Kd.R_drew HO_274006.out)
               replace HO315 := am (Kd.R_drew HO315.out)
               replace HO318 := am (Kd.R_drew HO318.out)
               replace BK273 := am (blk_drew BK273.out)
               replace BK324 := am (blk_drew BK324.out)
               replace BK325 := am (blk_drew BK325.out)
               replace HB := am (below_drew1 HB.out)
               obtain ⟨Ao106, co106, eo106⟩ := Kd.R_slice HO_4.out
               (first | subst eo106 | (injection eo106 with f1_ f2_ f3_; have f4_ := f1_.symm; have f5_ := f3_.symm; clear f1_ f2_ f3_; subst f4_; subst f5_))
               have p326 : 0 ≤ (t322 : Int) := ofd
               have q326 : t322 < (x4_1.length : Int) := ofd
               obtain ⟨ad326, e326, hx326_0⟩ := Kd.at_int (Kd.R_reads' HO_4.out).2.2 t322 p326 q326
               cases e326
               replace p326 := eq_true p326
               replace q326 := eq_true q326
               refine start_ (n := 27) (S := fun w' => w'.cell? ⟨gb325, 0, none⟩ = some (.int .i64 t319) ∧ w'.cell? ⟨gb325, 1, none⟩ = some (.int .i64 t320) ∧ w'.cell? ⟨gb325, 2, none⟩ = some (.string t321) ∧ w'.cell? (ad326.add (t322).toNat) = some (.int .i64 (rd x4_1 t322))) (ds := []) #[false, false, false, false, false, false, false, false, false, false, false, false, false, false, false, false, false, false, false, false, false, false, false, false, false, false, false] (by kernel_rfl) rfl rfl ⟨(blk_cell BK325.out 0).trans rfl, (blk_cell BK325.out 1).trans rfl, (blk_cell BK325.out 2).trans rfl, hx326_0⟩ (fun hHeld => ?_); refine with_tabW laws_FnSees.tab20 laws_FnSees.bits20 (fun HT_ HW_ => ?_)
               generalize w104.drew = w105 at HO_4 HO_274005 HO_274006 HO315 HO318 BK273 BK324 BK325 HB hx326_0 hHeld ⊢
               refine pure_ (i := 0) (N := some 84) (v := ?_) (a' := ?_) #[true, false, false, false, false, false, false, false, false, false, false, false, false, false, false, false, false, false, false, false, false, false, false, false, false, false, false] rfl rfl (ayo HT_.out) (fun _ _ _ h => h) (Or.inl ⟨by rfl, ?_⟩) ?_ ?_; rotate_left; (intro w'; go_simp; with_reducible rfl); rotate_left; (simp only [Act.put, List.setIfInBounds_toArray, List.set_cons_zero, List.set_cons_succ, i64_w, i32_w]; rfl)
               refine pure_ (i := 1) (N := some 85) (v := ?_) (a' := ?_) #[true, true, false, false, false, false, false, false, false, false, false, false, false, false, false, false, false, false, false, false, false, false, false, false, false, false, false] rfl rfl (ayo HT_.out) (fun _ _ _ h => h) (Or.inl ⟨by rfl, ?_⟩) ?_ ?_; rotate_left; (intro w'; go_simp; with_reducible rfl); rotate_left; (simp only [Act.put, List.setIfInBounds_toArray, List.set_cons_zero, List.set_cons_succ, i64_w, i32_w]; rfl)
               refine pure_ (i := 2) (N := some 86) (v := ?_) (a' := ?_) #[true, true, true, false, false, false, false, false, false, false, false, false, false, false, false, false, false, false, false, false, false, false, false, false, false, false, false] rfl rfl (ayo HT_.out) (fun _ _ _ h => h) (Or.inl ⟨by rfl, ?_⟩) ?_ ?_; rotate_left; (intro w'; go_simp; with_reducible rfl); rotate_left; (simp only [Act.put, List.setIfInBounds_toArray, List.set_cons_zero, List.set_cons_succ, i64_w, i32_w]; rfl)
               refine pure_ (i := 3) (N := some 87) (v := ?_) (a' := ?_) #[true, true, true, true, false, false, false, false, false, false, false, false, false, false, false, false, false, false, false, false, false, false, false, false, false, false, false] rfl rfl (ayo HT_.out) (fun _ _ _ h => h) (Or.inl ⟨by rfl, ?_⟩) ?_ ?_; rotate_left; (intro w'; go_simp; with_reducible rfl); rotate_left; (simp only [Act.put, List.setIfInBounds_toArray, List.set_cons_zero, List.set_cons_succ, i64_w, i32_w]; rfl)
               refine pure_ (i := 4) (N := some 88) (v := ?_) (a' := ?_) #[true, true, true, true, true, false, false, false, false, false, false, false, false, false, false, false, false, false, false, false, false, false, false, false, false, false, false] rfl rfl (ayo HT_.out) (fun _ _ _ h => h) (Or.inl ⟨by rfl, ?_⟩) ?_ ?_; rotate_left; (intro w'; go_simp; with_reducible rfl); rotate_left; (simp only [Act.put, List.setIfInBounds_toArray, List.set_cons_zero, List.set_cons_succ, i64_w, i32_w]; rfl)
               refine pure_ (i := 5) (N := some 89) (v := ?_) (a' := ?_) #[true, true, true, true, true, true, false, false, false, false, false, false, false, false, false, false, false, false, false, false, false, false, false, false, false, false, false] rfl rfl (ayo HT_.out) (fun _ _ _ h => h) (Or.inl ⟨by rfl, ?_⟩) ?_ ?_; rotate_left; (intro w'; go_simp; with_reducible rfl); rotate_left; (simp only [Act.put, List.setIfInBounds_toArray, List.set_cons_zero, List.set_cons_succ, i64_w, i32_w]; rfl)
               refine pure_ (i := 6) (N := some 90) (v := ?_) (a' := ?_) #[true, true, true, true, true, true, true, false, false, false, false, false, false, false, false, false, false, false, false, false, false, false, false, false, false, false, false] rfl rfl (ayo HT_.out) (fun _ _ _ h => h) (Or.inl ⟨by rfl, ?_⟩) ?_ ?_; rotate_left; (intro w'; go_simp; with_reducible rfl); rotate_left; (simp only [Act.put, List.setIfInBounds_toArray, List.set_cons_zero, List.set_cons_succ, i64_w, i32_w]; rfl)
               refine pure_ (i := 7) (N := some 91) (v := ?_) (a' := ?_) #[true, true, true, true, true, true, true, true, false, false, false, false, false, false, false, false, false, false, false, false, false, false, false, false, false, false, false] rfl rfl (ayo HT_.out) (fun _ _ _ h => h) (Or.inl ⟨by rfl, ?_⟩) ?_ ?_; rotate_left; (intro w'; go_simp; with_reducible rfl); rotate_left; (simp only [Act.put, List.setIfInBounds_toArray, List.set_cons_zero, List.set_cons_succ, i64_w, i32_w]; rfl)
               refine pure_ (i := 8) (N := some 92) (v := ?_) (a' := ?_) #[true, true, true, true, true, true, true, true, true, false, false, false, false, false, false, false, false, false, false, false, false, false, false, false, false, false, false] rfl rfl (ayo HT_.out) (fun _ _ _ h => h) (Or.inl ⟨by rfl, ?_⟩) ?_ ?_; rotate_left; (intro w'; go_simp; with_reducible rfl); rotate_left; (simp only [Act.put, List.setIfInBounds_toArray, List.set_cons_zero, List.set_cons_succ, i64_w, i32_w]; rfl)
               refine pure_ (i := 9) (N := some 93) (v := ?_) (a' := ?_) #[true, true, true, true, true, true, true, true, true, true, false, false, false, false, false, false, false, false, false, false, false, false, false, false, false, false, false] rfl rfl (ayo HT_.out) (fun _ _ _ h => h) (Or.inl ⟨by rfl, ?_⟩) ?_ ?_; rotate_left; (intro w'; go_simp; with_reducible rfl); rotate_left; (simp only [Act.put, List.setIfInBounds_toArray, List.set_cons_zero, List.set_cons_succ, i64_w, i32_w]; rfl)
               refine pure_ (i := 10) (N := some 94) (v := ?_) (a' := ?_) #[true, true, true, true, true, true, true, true, true, true, true, false, false, false, false, false, false, false, false, false, false, false, false, false, false, false, false] rfl rfl (ayo HT_.out) (fun _ _ _ h => h) (Or.inl ⟨by rfl, ?_⟩) ?_ ?_; rotate_left; (intro w'; go_simp; with_reducible rfl); rotate_left; (simp only [Act.put, List.setIfInBounds_toArray, List.set_cons_zero, List.set_cons_succ, i64_w, i32_w]; rfl)
               refine pure_ (i := 11) (N := some 95) (v := ?_) (a' := ?_) #[true, true, true, true, true, true, true, true, true, true, true, true, false, false, false, false, false, false, false, false, false, false, false, false, false, false, false] rfl rfl (ayo HT_.out) (fun _ _ _ h => h) (Or.inl ⟨by rfl, ?_⟩) ?_ ?_; rotate_left; (intro w'; go_simp; with_reducible rfl); rotate_left; (simp only [Act.put, List.setIfInBounds_toArray, List.set_cons_zero, List.set_cons_succ, i64_w, i32_w]; rfl)
               refine pure_ (i := 12) (N := some 96) (v := ?_) (a' := ?_) #[true, true, true, true, true, true, true, true, true, true, true, true, true, false, false, false, false, false, false, false, false, false, false, false, false, false, false] rfl rfl (ayo HT_.out) (fun _ _ _ h => h) (Or.inl ⟨by rfl, ?_⟩) ?_ ?_; rotate_left; (intro w'; go_simp; with_reducible rfl); rotate_left; (simp only [Act.put, List.setIfInBounds_toArray, List.set_cons_zero, List.set_cons_succ, i64_w, i32_w]; rfl)
               refine pure_ (i := 13) (N := some 97) (v := ?_) (a' := ?_) #[true, true, true, true, true, true, true, true, true, true, true, true, true, true, false, false, false, false, false, false, false, false, false, false, false, false, false] rfl rfl (ayo HT_.out) (fun _ _ _ h => h) (Or.inl ⟨by rfl, ?_⟩) ?_ ?_; rotate_left; (intro w'; go_simp; with_reducible rfl); rotate_left; (simp only [Act.put, List.setIfInBounds_toArray, List.set_cons_zero, List.set_cons_succ, i64_w, i32_w]; rfl)
               refine pure_ (i := 14) (N := some 98) (v := ?_) (a' := ?_) #[true, true, true, true, true, true, true, true, true, true, true, true, true, true, true, false, false, false, false, false, false, false, false, false, false, false, false] rfl rfl (ayo HT_.out) (fun _ _ _ h => h) (Or.inl ⟨by rfl, ?_⟩) ?_ ?_; rotate_left; (intro w'; go_simp; with_reducible rfl); rotate_left; (simp only [Act.put, List.setIfInBounds_toArray, List.set_cons_zero, List.set_cons_succ, i64_w, i32_w]; rfl)
               refine pure_ (i := 16) (N := some 100) (v := ?_) (a' := ?_) #[true, true, true, true, true, true, true, true, true, true, true, true, true, true, true, false, true, false, false, false, false, false, false, false, false, false, false] rfl rfl (ayo HT_.out) (fun _ _ _ h => h) (Or.inl ⟨by rfl, ?_⟩) ?_ ?_; rotate_left; (intro w'; go_simp; with_reducible rfl); rotate_left; (simp only [Act.put, List.setIfInBounds_toArray, List.set_cons_zero, List.set_cons_succ, i64_w, i32_w]; rfl)
               refine pure_ (i := 17) (N := some 101) (v := ?_) (a' := ?_) #[true, true, true, true, true, true, true, true, true, true, true, true, true, true, true, false, true, true, false, false, false, false, false, false, false, false, false] rfl rfl (ayo HT_.out) (fun _ _ _ h => h) (Or.inl ⟨by rfl, ?_⟩) ?_ ?_; rotate_left; (intro w'; go_simp; with_reducible rfl); rotate_left; (simp only [Act.put, List.setIfInBounds_toArray, List.set_cons_zero, List.set_cons_succ, i64_w, i32_w]; rfl)
               refine pure_ (i := 18) (N := some 102) (v := ?_) (a' := ?_) #[true, true, true, true, true, true, true, true, true, true, true, true, true, true, true, false, true, true, true, false, false, false, false, false, false, false, false] rfl rfl (ayo HT_.out) (fun _ _ _ h => h) (Or.inl ⟨by rfl, ?_⟩) ?_ ?_; rotate_left; (intro w'; go_simp; with_reducible rfl); rotate_left; (simp only [Act.put, List.setIfInBounds_toArray, List.set_cons_zero, List.set_cons_succ, i64_w, i32_w]; rfl)
               refine take_ (i := 15) (N := some 99) (v := ?_) (a' := ?_) #[true, true, true, true, true, true, true, true, true, true, true, true, true, true, true, true, true, true, true, false, false, false, false, false, false, false, false] rfl rfl (take_ofW HT_.out HW_.out (by kernel_rfl)) (fun _ _ _ h => h) (Or.inl ⟨by rfl, ?_⟩) hHeld ?_ ?_
               rotate_left
               ·rintro w' ⟨s0, s1, s2, s3⟩
                go_simp
                with_reducible rfl
               rotate_left
               ·simp only [Act.put, List.setIfInBounds_toArray, List.set_cons_zero, List.set_cons_succ, i64_w, i32_w]
                rfl
               refine take_ (i := 19) (N := some 103) (v := ?_) (a' := ?_) #[true, true, true, true, true, true, true, true, true, true, true, true, true, true, true, true, true, true, true, true, false, false, false, false, false, false, false] rfl rfl (take_ofW HT_.out HW_.out (by kernel_rfl)) (fun _ _ _ h => h) (Or.inl ⟨by rfl, ?_⟩) hHeld ?_ ?_
               rotate_left
               ·rintro w' ⟨s0, s1, s2, s3⟩
                go_simp
                with_reducible rfl
               rotate_left
               ·simp only [Act.put, List.setIfInBounds_toArray, List.set_cons_zero, List.set_cons_succ, i64_w, i32_w]
                rfl
               refine pure_ (i := 20) (N := some 104) (v := ?_) (a' := ?_) #[true, true, true, true, true, true, true, true, true, true, true, true, true, true, true, true, true, true, true, true, true, false, false, false, false, false, false] rfl rfl (ayo HT_.out) (fun _ _ _ h => h) (Or.inl ⟨by rfl, ?_⟩) ?_ ?_; rotate_left; (intro w'; go_simp; with_reducible rfl); rotate_left; (simp only [Act.put, List.setIfInBounds_toArray, List.set_cons_zero, List.set_cons_succ, i64_w, i32_w]; rfl)
               refine pure_ (i := 21) (N := some 105) (v := ?_) (a' := ?_) #[true, true, true, true, true, true, true, true, true, true, true, true, true, true, true, true, true, true, true, true, true, true, false, false, false, false, false] rfl rfl (ayo HT_.out) (fun _ _ _ h => h) (Or.inl ⟨by rfl, ?_⟩) ?_ ?_; rotate_left; (intro w'; go_simp; with_reducible rfl); rotate_left; (simp only [Act.put, List.setIfInBounds_toArray, List.set_cons_zero, List.set_cons_succ, i64_w, i32_w]; rfl)
               refine pure_ (i := 22) (N := some 106) (v := ?_) (a' := ?_) #[true, true, true, true, true, true, true, true, true, true, true, true, true, true, true, true, true, true, true, true, true, true, true, false, false, false, false] rfl rfl (ayo HT_.out) (fun _ _ _ h => h) (Or.inl ⟨by rfl, ?_⟩) ?_ ?_; rotate_left; (intro w'; go_simp; with_reducible rfl); rotate_left; (simp only [Act.put, List.setIfInBounds_toArray, List.set_cons_zero, List.set_cons_succ, i64_w, i32_w]; rfl)
               refine pure_ (i := 23) (N := some 107) (v := ?_) (a' := ?_) #[true, true, true, true, true, true, true, true, true, true, true, true, true, true, true, true, true, true, true, true, true, true, true, true, false, false, false] rfl rfl (ayo HT_.out) (fun _ _ _ h => h) (Or.inl ⟨by rfl, ?_⟩) ?_ ?_; rotate_left; (intro w'; go_simp; with_reducible rfl); rotate_left; (simp only [Act.put, List.setIfInBounds_toArray, List.set_cons_zero, List.set_cons_succ, i64_w, i32_w]; rfl)
               refine pure_ (i := 24) (N := some 108) (v := ?_) (a' := ?_) #[true, true, true, true, true, true, true, true, true, true, true, true, true, true, true, true, true, true, true, true, true, true, true, true, true, false, false] rfl rfl (ayo HT_.out) (fun _ _ _ h => h) (Or.inl ⟨by rfl, ?_⟩) ?_ ?_; rotate_left; (intro w'; go_simp; with_reducible rfl); rotate_left; (simp only [Act.put, List.setIfInBounds_toArray, List.set_cons_zero, List.set_cons_succ, i64_w, i32_w]; rfl)
               refine pure_ (i := 25) (N := some 109) (v := ?_) (a' := ?_) #[true, true, true, true, true, true, true, true, true, true, true, true, true, true, true, true, true, true, true, true, true, true, true, true, true, true, false] rfl rfl (ayo HT_.out) (fun _ _ _ h => h) (Or.inl ⟨by rfl, ?_⟩) ?_ ?_; rotate_left; (intro w'; go_simp; with_reducible rfl); rotate_left; (simp only [Act.put, List.setIfInBounds_toArray, List.set_cons_zero, List.set_cons_succ, i64_w, i32_w]; rfl)
               refine pure_ (i := 26) (N := some 110) (v := ?_) (a' := ?_) #[true, true, true, true, true, true, true, true, true, true, true, true, true, true, true, true, true, true, true, true, true, true, true, true, true, true, true] rfl rfl (ayo HT_.out) (fun _ _ _ h => h) (Or.inl ⟨by rfl, ?_⟩) ?_ ?_; rotate_left; (intro w'; go_simp; with_reducible rfl); rotate_left; (simp only [Act.put, List.setIfInBounds_toArray, List.set_cons_zero, List.set_cons_succ, i64_w, i32_w]; rfl)
               refine done_ (done_of HT_.out (by kernel_rfl)) ?_
               obtain ⟨hcz107_0, hcz107_1, hcz107_2, hcz107_3, hcz107_4, hcz107_5, hcz107_6, hfz107_0, hfz107_1, hfz107_2, hfz107_3, hfz107_4, hfz107_5, hfz107_6⟩ := bk7 BK324.out
               obtain ⟨hcz108_0, hcz108_1, hcz108_2, hcz108_3, hcz108_4, hcz108_5, hcz108_6, hfz108_0, hfz108_1, hfz108_2, hfz108_3, hfz108_4, hfz108_5, hfz108_6⟩ := bk7 BK273.out
               try go_wp2
               go_roundg k1
               case measure => have := HK1.out; omega
               case rel => exact ⟨(x4_1), (t322), (t322), (false), (wrap64 (x8_1 + 1)), (t308), (t309), (t310), (t311), (t312), (t313), (t316), (.slice Ao100 t313.length co100), (.slice Ao101 t316.length co101), rfx, rfx, rfx, rfx, H', ⟨by have := HK1.out; omega⟩, ⟨by (with_reducible repeat (first | apply Kd.R_alloc | apply Kd.R_drewN | apply Kd.R_drew)); exact Kd.R_mono (fR7x48 HO_4.out BK273.out (by decide)) (fun _ hk => ⟨hk.2.2.1, hk.2.2.2⟩)⟩, ⟨by (with_reducible repeat (first | apply Kd.R_alloc | apply Kd.R_drewN | apply Kd.R_drew)); exact Kd.R_mono (fR7x48 HO315.out BK273.out (by decide)) (fun _ hk => ⟨hk.1, hk.2.2.2⟩)⟩, ⟨by (with_reducible repeat (first | apply Kd.R_alloc | apply Kd.R_drewN | apply Kd.R_drew)); exact Kd.R_mono (fR7x48 HO318.out BK273.out (by decide)) (fun _ hk => ⟨hk.1, hk.2.2.2⟩)⟩, ⟨by (with_reducible repeat (first | refine blk_drewN ?_ _ | refine blk_drew ?_ | refine blk_alloc ?_ _)); exact (pt7x48 (pkK BK273.out))⟩, ⟨pkW HB.out⟩⟩
             ·rw [if_neg c89] at H
              have c89b0 : (t320 == (rd x4_1 t322)) = false := beq_eq_false_iff_ne.mpr c89
              have c89b1 : (t320 != (rd x4_1 t322)) = true := bne_iff_ne.mpr c89
              exact absurd (Option.some.inj H) (by rw [HQ_.out]; simp)
            ·rw [if_neg c88] at H
             exact absurd H (by simp)
           ·rw [if_neg c87] at H
            exact absurd H (by simp)
        ·rw [if_neg c84] at H
         have c84b0 : (t323 == 0) = false := beq_eq_false_iff_ne.mpr c84
         have c84b1 : (t323 != 0) = true := bne_iff_ne.mpr c84
         exact absurd (Option.some.inj H) (by rw [HQ_.out]; simp)
      ·replace c66 := Bool.eq_false_iff.mpr c66
       subst c66
       replace H : ((impl_Watch.f k1 x274000_1 x274001_1 x274002_1 x274003_1 x274004_1 x274005_1 x274006_1 3 x5_1).bind fun bt327 => (if bt327.2.2.2.2.2.2.2 = 4 then (laws_FnSees.l0 k1 l0 x4_1 x5_1 x6_1 true (wrap64 (x8_1 + 1)) bt327.1 bt327.2.1 bt327.2.2.1 bt327.2.2.2.1 bt327.2.2.2.2.1 bt327.2.2.2.2.2.1 bt327.2.2.2.2.2.2.1) else ((impl_Look.f k1 bt327.1 bt327.2.1 bt327.2.2.1 bt327.2.2.2.1 bt327.2.2.2.2.1 bt327.2.2.2.2.2.1 bt327.2.2.2.2.2.2.1).bind fun bt340 => (if bt327.2.2.2.2.2.2.2 = 0 then (if bt340.2.2.2.2 = 0 then (if bt340.2.2.2.1 ≤ x5_1 then (some false) else (if 0 ≤ bt340.2.2.2.1 then (if bt340.2.2.2.1 < (x4_1.length : Int) then (if bt340.2.1 = (rd x4_1 bt340.2.2.2.1) then (laws_FnSees.l0 k1 l0 x4_1 bt340.2.2.2.1 bt340.2.2.2.1 false (wrap64 (x8_1 + 1)) bt327.1 bt327.2.1 bt327.2.2.1 bt327.2.2.2.1 bt327.2.2.2.2.1 bt327.2.2.2.2.2.1 bt327.2.2.2.2.2.2.1) else (some false)) else (none)) else (none))) else (some false)) else (some false))))) = some r := by rw [if_neg (show ¬ (false = true) by decide)] at H; exact H
       replace H := Option.bind_eq_some_iff.mp H
       obtain ⟨⟨t327, t328, t329, t330, t331, t332, t335, t338⟩, A1090, H⟩ := H
       replace H : (if t338 = 4 then (laws_FnSees.l0 k1 l0 x4_1 x5_1 x6_1 true (wrap64 (x8_1 + 1)) t327 t328 t329 t330 t331 t332 t335) else ((impl_Look.f k1 t327 t328 t329 t330 t331 t332 t335).bind fun bt340 => (if t338 = 0 then (if bt340.2.2.2.2 = 0 then (if bt340.2.2.2.1 ≤ x5_1 then (some false) else (if 0 ≤ bt340.2.2.2.1 then (if bt340.2.2.2.1 < (x4_1.length : Int) then (if bt340.2.1 = (rd x4_1 bt340.2.2.2.1) then (laws_FnSees.l0 k1 l0 x4_1 bt340.2.2.2.1 bt340.2.2.2.1 false (wrap64 (x8_1 + 1)) t327 t328 t329 t330 t331 t332 t335) else (some false)) else (none)) else (none))) else (some false)) else (some false)))) = some r := H
       have A109 := am A1090
       clear A1090
       by_cases c110 : t338 = 4
       ·rw [if_pos c110] at H
        have c110b0 : (t338 == 4) = true := beq_iff_eq.mpr c110
        have c110b1 : (t338 != 4) = false := bne_eq_false_iff_eq.mpr c110
        clear c110
        have H' := am H
        clear H
        go_wp2_with (first | ((with_reducible refine gate_callee (f := 17) rfl ?_); refine goesL_ (some 32) rfl rfl Try.func17 (by kernel_rfl) rfl #[.slice A0 l0.length c0, .int .i64 x8_1] rfl mpx ?_; (with_reducible refine (laws_at.calls _ _ l0 x8_1 t279 _ ?side1 ?side2 A11.out).mono ?_); (case side1 => exact pkC (Kd.C_below HR0.out HB.out)); (case side2 => exact HC0.out); rintro e w' ⟨rfl, nd, rfl⟩; refine ⟨_, rfl, ?_⟩; (try (rw [drewN_self wr]; generalize hq_ : World.drewN wr _ = wr; replace HO_274005 : Aside0 (Kd.R (Kd.int .i64) 3 wr w.heap.size (fun k_ => (some k_ ≠ (u4 : Value).ownBlock ∧ some k_ ≠ (u274006 : Value).ownBlock)) u274005 x274005_1) := ⟨by rw [← hq_]; exact (pkR HO_274005.out)⟩; replace HO_274006 : Aside0 (Kd.R (Kd.int .i64) 3 wr w.heap.size (fun k_ => (some k_ ≠ (u4 : Value).ownBlock ∧ some k_ ≠ (u274005 : Value).ownBlock)) u274006 x274006_1) := ⟨by rw [← hq_]; exact (pkR HO_274006.out)⟩; replace HO_4 : Aside0 (Kd.R (Kd.int .i64) 3 wr w.heap.size (fun k_ => (some k_ ≠ (u274005 : Value).ownBlock ∧ some k_ ≠ (u274006 : Value).ownBlock)) u4 x4_1) := ⟨by rw [← hq_]; exact (pkR HO_4.out)⟩; replace BK273 : Aside0 (wr.heap[gb273]? = some (.cells #[.int .i64 x274000_1, .int .i64 x274001_1, .string x274002_1, .int .i64 x274003_1, .bool x274004_1, u274005, u274006] 29 (0, 0))) := ⟨by rw [← hq_]; exact (pkK BK273.out)⟩; replace HB : Aside0 (Below w.heap.size w wr) := ⟨by rw [← hq_]; exact (pkW HB.out)⟩; clear hq_)); obtain ⟨hcz111_0, hcz111_1, hcz111_2, hcz111_3, hcz111_4, hcz111_5, hcz111_6, hfz111_0, hfz111_1, hfz111_2, hfz111_3, hfz111_4, hfz111_5, hfz111_6⟩ := bk7 BK273.out; obtain ⟨Ao112, co112, eo112⟩ := Kd.R_slice HO_274005.out; subst eo112; obtain ⟨Ao113, co113, eo113⟩ := Kd.R_slice HO_274006.out; subst eo113) | ((with_reducible refine gate_callee (f := 20) rfl ?_); refine goesL_ (some 117) rfl rfl Try.func20 (by kernel_rfl) rfl #[.agg #[.int .i64 x274000_1, .int .i64 x274001_1, .string x274002_1, .int .i64 x274003_1, .bool x274004_1, .slice Ao112 x274005_1.length co112, .slice Ao113 x274006_1.length co113], .int .i64 3, .int .i64 x5_1] rfl mpx ?_; (with_reducible refine (impl_Watch.calls k1 x274000_1 x274001_1 x274002_1 x274003_1 x274004_1 _ _ x274005_1 _ _ x274006_1 3 x5_1 t327 t328 t329 t330 t331 t332 t335 t338 _ ?side1 ?side2 ?side3 ?side4 A109.out).mono ?_); (case side1 => exact pkC (Kd.R_reads' HO_274005.out).2.2); (case side2 => exact (Kd.R_reads' HO_274005.out).2.1); (case side3 => exact pkC (Kd.R_reads' HO_274006.out).2.2); (case side4 => exact (Kd.R_reads' HO_274006.out).2.1); rintro e w114 ⟨v333, v336, rfl, ho0, ho1, hb⟩; refine ⟨_, rfl, ?_⟩; have HO334 := am (Kd.R_lower (Kd.R_new' (Kd.R_new' (Kd.R_new' ho0 (Kd.R_lt (pkR HO_4.out))) (Kd.R_lt (pkR HO_274005.out))) (Kd.R_lt (pkR HO_274006.out))) (below_size (pkW HB.out))); have HO337 := am (Kd.R_lower (Kd.R_new' (Kd.R_new' (Kd.R_new' ho1 (Kd.R_lt (pkR HO_4.out))) (Kd.R_lt (pkR HO_274005.out))) (Kd.R_lt (pkR HO_274006.out))) (below_size (pkW HB.out))); replace HO_4 := am (Kd.R_mono (Kd.R_told (Kd.R_told (Kd.R_old (pkR HO_4.out) hb) (Kd.R_base ho0)) (Kd.R_base ho1)) (fun _ h_ => h_.1)); replace HO_274005 := am (Kd.R_mono (Kd.R_told (Kd.R_told (Kd.R_old (pkR HO_274005.out) hb) (Kd.R_base ho0)) (Kd.R_base ho1)) (fun _ h_ => h_.1)); replace HO_274006 := am (Kd.R_mono (Kd.R_told (Kd.R_told (Kd.R_old (pkR HO_274006.out) hb) (Kd.R_base ho0)) (Kd.R_base ho1)) (fun _ h_ => h_.1)); replace BK273 := bbk BK273 hb; replace HB := bst HB hb; (try clear hb ho0 ho1)) | ((with_reducible refine gate_dst (N := 16) rfl ?_); (try (refine gate_guard (by rfl) ?_; dsimp only)); refine box_event ?hg (N := 16) ?hd (cs := #[.int .i64 0, .int .i64 0, .string (⟨#[]⟩ : ByteArray), .int .i64 0, .bool false, .slice none 0 0, .slice none 0 0]) (t := 29) ?hr ?_; (case hd => rfl); (case hg => rfl); (case hr => first | (go_simp; done) | (go_simp; rfl)); intro gb339 hg w115 hbox hb; replace HO_4 := rbl HO_4 hb; replace HO_274005 := rbl HO_274005 hb; replace HO_274006 := rbl HO_274006 hb; replace HO334 := rbl HO334 hb; replace HO337 := rbl HO337 hb; have BK339 := am (hbox); have GW339 := am ((by rw [hg]; exact (below_size (pkW HB.out)) : w.heap.size ≤ gb339)); have GE339 := am ((by rw [hg]; exact (below_size (pkW HB.out)) : w.heap.size ≤ gb339)); replace HB := bst HB hb; have NB273_339 := am ((by rw [hg]; exact Nat.ne_of_lt (blk_lt (g := gb273) (o := .cells #[.int .i64 x274000_1, .int .i64 x274001_1, .string x274002_1, .int .i64 x274003_1, .bool x274004_1, .slice Ao112 x274005_1.length co112, .slice Ao113 x274006_1.length co113] 29 (0, 0)) (pkK BK273.out)) : gb273 ≠ gb339)); have NB339_273 := am ((by rw [hg]; exact Nat.ne_of_gt (blk_lt (g := gb273) (o := .cells #[.int .i64 x274000_1, .int .i64 x274001_1, .string x274002_1, .int .i64 x274003_1, .bool x274004_1, .slice Ao112 x274005_1.length co112, .slice Ao113 x274006_1.length co113] 29 (0, 0)) (pkK BK273.out)) : gb339 ≠ gb273)); replace BK273 := bbk BK273 hb; clear hb hbox hg; have hnb116 := NB339_273.out; have hnc116 := NB273_339.out; obtain ⟨hcz117_0, hcz117_1, hcz117_2, hcz117_3, hcz117_4, hcz117_5, hcz117_6, hfz117_0, hfz117_1, hfz117_2, hfz117_3, hfz117_4, hfz117_5, hfz117_6⟩ := bk7 BK339.out; obtain ⟨Ao118, co118, eo118⟩ := Kd.R_slice HO334.out; subst eo118; obtain ⟨Ao119, co119, eo119⟩ := Kd.R_slice HO337.out; subst eo119; obtain ⟨hcz120_0, hcz120_1, hcz120_2, hcz120_3, hcz120_4, hcz120_5, hcz120_6, hfz120_0, hfz120_1, hfz120_2, hfz120_3, hfz120_4, hfz120_5, hfz120_6⟩ := bk7 BK273.out))
        go_roundg k1
        case measure => have := HK1.out; omega
        case rel => exact ⟨(x4_1), (x5_1), (x6_1), (true), (wrap64 (x8_1 + 1)), (t327), (t328), (t329), (t330), (t331), (t332), (t335), (.slice Ao118 t332.length co118), (.slice Ao119 t335.length co119), rfx, rfx, rfx, rfx, H', ⟨by have := HK1.out; omega⟩, ⟨by (with_reducible repeat (first | apply Kd.R_alloc | apply Kd.R_drewN | apply Kd.R_drew)); exact Kd.R_mono (Kd.R_far (p := ⟨gb273, 6, none⟩) (Kd.R_far (p := ⟨gb273, 5, none⟩) (Kd.R_far (p := ⟨gb273, 4, none⟩) (Kd.R_far (p := ⟨gb273, 3, none⟩) (Kd.R_far (p := ⟨gb273, 2, none⟩) (Kd.R_far (p := ⟨gb273, 1, none⟩) (Kd.R_far (p := ⟨gb273, 0, none⟩) (Kd.R_far (p := ⟨gb339, 6, none⟩) (Kd.R_far (p := ⟨gb339, 5, none⟩) (Kd.R_far (p := ⟨gb339, 4, none⟩) (Kd.R_far (p := ⟨gb339, 3, none⟩) (Kd.R_far (p := ⟨gb339, 2, none⟩) (Kd.R_far (p := ⟨gb339, 1, none⟩) (Kd.R_far (p := ⟨gb339, 0, none⟩) (Kd.R_types (Kd.R_types HO_4.out BK339.out (by decide)) BK273.out (by decide)) (fun _ hk => hk.1.2) (.int .i64 t327)) (fun _ hk => hk.1.2) (.int .i64 t328)) (fun _ hk => hk.1.2) (.string t329)) (fun _ hk => hk.1.2) (.int .i64 t330)) (fun _ hk => hk.1.2) (.bool t331)) (fun _ hk => hk.1.2) (.slice Ao118 t332.length co118)) (fun _ hk => hk.1.2) (.slice Ao119 t335.length co119)) (fun _ hk => hk.2) (.int .i64 t327)) (fun _ hk => hk.2) (.int .i64 t328)) (fun _ hk => hk.2) (.string t329)) (fun _ hk => hk.2) (.int .i64 t330)) (fun _ hk => hk.2) (.bool t331)) (fun _ hk => hk.2) (.slice Ao118 t332.length co118)) (fun _ hk => hk.2) (.slice Ao119 t335.length co119)) (fun _ hk => ⟨hk.1.1.1.2, hk.1.1.2⟩)⟩, ⟨by (with_reducible repeat (first | apply Kd.R_alloc | apply Kd.R_drewN | apply Kd.R_drew)); exact Kd.R_mono (Kd.R_far (p := ⟨gb273, 6, none⟩) (Kd.R_far (p := ⟨gb273, 5, none⟩) (Kd.R_far (p := ⟨gb273, 4, none⟩) (Kd.R_far (p := ⟨gb273, 3, none⟩) (Kd.R_far (p := ⟨gb273, 2, none⟩) (Kd.R_far (p := ⟨gb273, 1, none⟩) (Kd.R_far (p := ⟨gb273, 0, none⟩) (Kd.R_far (p := ⟨gb339, 6, none⟩) (Kd.R_far (p := ⟨gb339, 5, none⟩) (Kd.R_far (p := ⟨gb339, 4, none⟩) (Kd.R_far (p := ⟨gb339, 3, none⟩) (Kd.R_far (p := ⟨gb339, 2, none⟩) (Kd.R_far (p := ⟨gb339, 1, none⟩) (Kd.R_far (p := ⟨gb339, 0, none⟩) (Kd.R_types (Kd.R_types HO334.out BK339.out (by decide)) BK273.out (by decide)) (fun _ hk => hk.1.2) (.int .i64 t327)) (fun _ hk => hk.1.2) (.int .i64 t328)) (fun _ hk => hk.1.2) (.string t329)) (fun _ hk => hk.1.2) (.int .i64 t330)) (fun _ hk => hk.1.2) (.bool t331)) (fun _ hk => hk.1.2) (.slice Ao118 t332.length co118)) (fun _ hk => hk.1.2) (.slice Ao119 t335.length co119)) (fun _ hk => hk.2) (.int .i64 t327)) (fun _ hk => hk.2) (.int .i64 t328)) (fun _ hk => hk.2) (.string t329)) (fun _ hk => hk.2) (.int .i64 t330)) (fun _ hk => hk.2) (.bool t331)) (fun _ hk => hk.2) (.slice Ao118 t332.length co118)) (fun _ hk => hk.2) (.slice Ao119 t335.length co119)) (fun _ hk => ⟨hk.1.1.1.1.2, hk.1.1.1.1.1⟩)⟩, ⟨by (with_reducible repeat (first | apply Kd.R_alloc | apply Kd.R_drewN | apply Kd.R_drew)); exact Kd.R_mono (Kd.R_far (p := ⟨gb273, 6, none⟩) (Kd.R_far (p := ⟨gb273, 5, none⟩) (Kd.R_far (p := ⟨gb273, 4, none⟩) (Kd.R_far (p := ⟨gb273, 3, none⟩) (Kd.R_far (p := ⟨gb273, 2, none⟩) (Kd.R_far (p := ⟨gb273, 1, none⟩) (Kd.R_far (p := ⟨gb273, 0, none⟩) (Kd.R_far (p := ⟨gb339, 6, none⟩) (Kd.R_far (p := ⟨gb339, 5, none⟩) (Kd.R_far (p := ⟨gb339, 4, none⟩) (Kd.R_far (p := ⟨gb339, 3, none⟩) (Kd.R_far (p := ⟨gb339, 2, none⟩) (Kd.R_far (p := ⟨gb339, 1, none⟩) (Kd.R_far (p := ⟨gb339, 0, none⟩) (Kd.R_types (Kd.R_types HO337.out BK339.out (by decide)) BK273.out (by decide)) (fun _ hk => hk.1.2) (.int .i64 t327)) (fun _ hk => hk.1.2) (.int .i64 t328)) (fun _ hk => hk.1.2) (.string t329)) (fun _ hk => hk.1.2) (.int .i64 t330)) (fun _ hk => hk.1.2) (.bool t331)) (fun _ hk => hk.1.2) (.slice Ao118 t332.length co118)) (fun _ hk => hk.1.2) (.slice Ao119 t335.length co119)) (fun _ hk => hk.2) (.int .i64 t327)) (fun _ hk => hk.2) (.int .i64 t328)) (fun _ hk => hk.2) (.string t329)) (fun _ hk => hk.2) (.int .i64 t330)) (fun _ hk => hk.2) (.bool t331)) (fun _ hk => hk.2) (.slice Ao118 t332.length co118)) (fun _ hk => hk.2) (.slice Ao119 t335.length co119)) (fun _ hk => ⟨hk.1.1.1.1.2, hk.1.1.1.1.1⟩)⟩, ⟨by (with_reducible repeat (first | refine blk_drewN ?_ _ | refine blk_drew ?_ | refine blk_alloc ?_ _)); refine blk_put (cs := #[.int .i64 t327, .int .i64 t328, .string t329, .int .i64 t330, .bool t331, .slice Ao118 t332.length co118, .slice Ao113 x274006_1.length co113]) ?_ 6 _ rfl; (with_reducible repeat (first | refine blk_drewN ?_ _ | refine blk_drew ?_ | refine blk_alloc ?_ _)); refine blk_put (cs := #[.int .i64 t327, .int .i64 t328, .string t329, .int .i64 t330, .bool t331, .slice Ao112 x274005_1.length co112, .slice Ao113 x274006_1.length co113]) ?_ 5 _ rfl; (with_reducible repeat (first | refine blk_drewN ?_ _ | refine blk_drew ?_ | refine blk_alloc ?_ _)); refine blk_put (cs := #[.int .i64 t327, .int .i64 t328, .string t329, .int .i64 t330, .bool x274004_1, .slice Ao112 x274005_1.length co112, .slice Ao113 x274006_1.length co113]) ?_ 4 _ rfl; (with_reducible repeat (first | refine blk_drewN ?_ _ | refine blk_drew ?_ | refine blk_alloc ?_ _)); refine blk_put (cs := #[.int .i64 t327, .int .i64 t328, .string t329, .int .i64 x274003_1, .bool x274004_1, .slice Ao112 x274005_1.length co112, .slice Ao113 x274006_1.length co113]) ?_ 3 _ rfl; (with_reducible repeat (first | refine blk_drewN ?_ _ | refine blk_drew ?_ | refine blk_alloc ?_ _)); refine blk_put (cs := #[.int .i64 t327, .int .i64 t328, .string x274002_1, .int .i64 x274003_1, .bool x274004_1, .slice Ao112 x274005_1.length co112, .slice Ao113 x274006_1.length co113]) ?_ 2 _ rfl; (with_reducible repeat (first | refine blk_drewN ?_ _ | refine blk_drew ?_ | refine blk_alloc ?_ _)); refine blk_put (cs := #[.int .i64 t327, .int .i64 x274001_1, .string x274002_1, .int .i64 x274003_1, .bool x274004_1, .slice Ao112 x274005_1.length co112, .slice Ao113 x274006_1.length co113]) ?_ 1 _ rfl; (with_reducible repeat (first | refine blk_drewN ?_ _ | refine blk_drew ?_ | refine blk_alloc ?_ _)); refine blk_put (cs := #[.int .i64 x274000_1, .int .i64 x274001_1, .string x274002_1, .int .i64 x274003_1, .bool x274004_1, .slice Ao112 x274005_1.length co112, .slice Ao113 x274006_1.length co113]) ?_ 0 _ rfl; (with_reducible repeat (first | refine blk_drewN ?_ _ | refine blk_drew ?_ | refine blk_alloc ?_ _)); exact (fa7x48 (pkK BK273.out) NB273_339.out)⟩, ⟨pkW HB.out⟩⟩
       ·rw [if_neg c110] at H
        have c110b0 : (t338 == 4) = false := beq_eq_false_iff_ne.mpr c110
        have c110b1 : (t338 != 4) = true := bne_iff_ne.mpr c110
        replace H := Option.bind_eq_some_iff.mp H
        obtain ⟨⟨t340, t341, t342, t343, t344⟩, A1210, H⟩ := H
        replace H : (if t338 = 0 then (if t344 = 0 then (if t343 ≤ x5_1 then (some false) else (if 0 ≤ t343 then (if t343 < (x4_1.length : Int) then (if t341 = (rd x4_1 t343) then (laws_FnSees.l0 k1 l0 x4_1 t343 t343 false (wrap64 (x8_1 + 1)) t327 t328 t329 t330 t331 t332 t335) else (some false)) else (none)) else (none))) else (some false)) else (some false)) = some r := H
        have A121 := am A1210
        clear A1210
        by_cases c122 : t338 = 0
        ·rw [if_pos c122] at H
         have c122b0 : (t338 == 0) = true := beq_iff_eq.mpr c122
         have c122b1 : (t338 != 0) = false := bne_eq_false_iff_eq.mpr c122
         clear c122
         by_cases c123 : t344 = 0
         ·rw [if_pos c123] at H
          have c123b0 : (t344 == 0) = true := beq_iff_eq.mpr c123
          have c123b1 : (t344 != 0) = false := bne_eq_false_iff_eq.mpr c123
          clear c123
          by_cases c124 : t343 ≤ x5_1
          ·rw [if_pos c124] at H
           have c124b0 : decide (t343 ≤ x5_1) = true := decide_eq_true c124
           clear c124
           exact absurd (Option.some.inj H) (by rw [HQ_.out]; simp)
          ·rw [if_neg c124] at H
           have c124b0 : decide (t343 ≤ x5_1) = false := decide_eq_false c124
           clear c124
           by_cases c125 : 0 ≤ t343
           ·rw [if_pos c125] at H
            have c125b0 : decide (0 ≤ t343) = true := decide_eq_true c125
            clear c125
            by_cases c126 : t343 < (x4_1.length : Int)
            ·rw [if_pos c126] at H
             have c126b0 : decide (t343 < (x4_1.length : Int)) = true := decide_eq_true c126
             clear c126
             by_cases c127 : t341 = (rd x4_1 t343)
             ·rw [if_pos c127] at H
              have c127b0 : (t341 == (rd x4_1 t343)) = true := beq_iff_eq.mpr c127
              have c127b1 : (t341 != (rd x4_1 t343)) = false := bne_eq_false_iff_eq.mpr c127
              clear c127
              have H' := am H
              clear H
              try go_wp2_with (first | ((with_reducible refine gate_callee (f := 17) rfl ?_); refine goesL_ (some 32) rfl rfl Try.func17 (by kernel_rfl) rfl #[.slice A0 l0.length c0, .int .i64 x8_1] rfl mpx ?_; (with_reducible refine (laws_at.calls _ _ l0 x8_1 t279 _ ?side1 ?side2 A11.out).mono ?_); (case side1 => exact pkC (Kd.C_below HR0.out HB.out)); (case side2 => exact HC0.out); rintro e w' ⟨rfl, nd, rfl⟩; refine ⟨_, rfl, ?_⟩; (try (rw [drewN_self wr]; generalize hq_ : World.drewN wr _ = wr; replace HO_274005 : Aside0 (Kd.R (Kd.int .i64) 3 wr w.heap.size (fun k_ => (some k_ ≠ (u4 : Value).ownBlock ∧ some k_ ≠ (u274006 : Value).ownBlock)) u274005 x274005_1) := ⟨by rw [← hq_]; exact (pkR HO_274005.out)⟩; replace HO_274006 : Aside0 (Kd.R (Kd.int .i64) 3 wr w.heap.size (fun k_ => (some k_ ≠ (u4 : Value).ownBlock ∧ some k_ ≠ (u274005 : Value).ownBlock)) u274006 x274006_1) := ⟨by rw [← hq_]; exact (pkR HO_274006.out)⟩; replace HO_4 : Aside0 (Kd.R (Kd.int .i64) 3 wr w.heap.size (fun k_ => (some k_ ≠ (u274005 : Value).ownBlock ∧ some k_ ≠ (u274006 : Value).ownBlock)) u4 x4_1) := ⟨by rw [← hq_]; exact (pkR HO_4.out)⟩; replace BK273 : Aside0 (wr.heap[gb273]? = some (.cells #[.int .i64 x274000_1, .int .i64 x274001_1, .string x274002_1, .int .i64 x274003_1, .bool x274004_1, u274005, u274006] 29 (0, 0))) := ⟨by rw [← hq_]; exact (pkK BK273.out)⟩; replace HB : Aside0 (Below w.heap.size w wr) := ⟨by rw [← hq_]; exact (pkW HB.out)⟩; clear hq_)); obtain ⟨hcz128_0, hcz128_1, hcz128_2, hcz128_3, hcz128_4, hcz128_5, hcz128_6, hfz128_0, hfz128_1, hfz128_2, hfz128_3, hfz128_4, hfz128_5, hfz128_6⟩ := bk7 BK273.out; obtain ⟨Ao129, co129, eo129⟩ := Kd.R_slice HO_274005.out; subst eo129; obtain ⟨Ao130, co130, eo130⟩ := Kd.R_slice HO_274006.out; subst eo130) | ((with_reducible refine gate_callee (f := 20) rfl ?_); refine goesL_ (some 117) rfl rfl Try.func20 (by kernel_rfl) rfl #[.agg #[.int .i64 x274000_1, .int .i64 x274001_1, .string x274002_1, .int .i64 x274003_1, .bool x274004_1, .slice Ao129 x274005_1.length co129, .slice Ao130 x274006_1.length co130], .int .i64 3, .int .i64 x5_1] rfl mpx ?_; (with_reducible refine (impl_Watch.calls k1 x274000_1 x274001_1 x274002_1 x274003_1 x274004_1 _ _ x274005_1 _ _ x274006_1 3 x5_1 t327 t328 t329 t330 t331 t332 t335 t338 _ ?side1 ?side2 ?side3 ?side4 A109.out).mono ?_); (case side1 => exact pkC (Kd.R_reads' HO_274005.out).2.2); (case side2 => exact (Kd.R_reads' HO_274005.out).2.1); (case side3 => exact pkC (Kd.R_reads' HO_274006.out).2.2); (case side4 => exact (Kd.R_reads' HO_274006.out).2.1); rintro e w131 ⟨v333, v336, rfl, ho0, ho1, hb⟩; refine ⟨_, rfl, ?_⟩; have HO334 := am (Kd.R_lower (Kd.R_new' (Kd.R_new' (Kd.R_new' ho0 (Kd.R_lt (pkR HO_4.out))) (Kd.R_lt (pkR HO_274005.out))) (Kd.R_lt (pkR HO_274006.out))) (below_size (pkW HB.out))); have HO337 := am (Kd.R_lower (Kd.R_new' (Kd.R_new' (Kd.R_new' ho1 (Kd.R_lt (pkR HO_4.out))) (Kd.R_lt (pkR HO_274005.out))) (Kd.R_lt (pkR HO_274006.out))) (below_size (pkW HB.out))); replace HO_4 := am (Kd.R_mono (Kd.R_told (Kd.R_told (Kd.R_old (pkR HO_4.out) hb) (Kd.R_base ho0)) (Kd.R_base ho1)) (fun _ h_ => h_.1)); replace HO_274005 := am (Kd.R_mono (Kd.R_told (Kd.R_told (Kd.R_old (pkR HO_274005.out) hb) (Kd.R_base ho0)) (Kd.R_base ho1)) (fun _ h_ => h_.1)); replace HO_274006 := am (Kd.R_mono (Kd.R_told (Kd.R_told (Kd.R_old (pkR HO_274006.out) hb) (Kd.R_base ho0)) (Kd.R_base ho1)) (fun _ h_ => h_.1)); replace BK273 := bbk BK273 hb; replace HB := bst HB hb; (try clear hb ho0 ho1)) | ((with_reducible refine gate_dst (N := 16) rfl ?_); (try (refine gate_guard (by rfl) ?_; dsimp only)); refine box_event ?hg (N := 16) ?hd (cs := #[.int .i64 0, .int .i64 0, .string (⟨#[]⟩ : ByteArray), .int .i64 0, .bool false, .slice none 0 0, .slice none 0 0]) (t := 29) ?hr ?_; (case hd => rfl); (case hg => rfl); (case hr => first | (go_simp; done) | (go_simp; rfl)); intro gb339 hg w132 hbox hb; replace HO_4 := rbl HO_4 hb; replace HO_274005 := rbl HO_274005 hb; replace HO_274006 := rbl HO_274006 hb; replace HO334 := rbl HO334 hb; replace HO337 := rbl HO337 hb; have BK339 := am (hbox); have GW339 := am ((by rw [hg]; exact (below_size (pkW HB.out)) : w.heap.size ≤ gb339)); have GE339 := am ((by rw [hg]; exact (below_size (pkW HB.out)) : w.heap.size ≤ gb339)); replace HB := bst HB hb; have NB273_339 := am ((by rw [hg]; exact Nat.ne_of_lt (blk_lt (g := gb273) (o := .cells #[.int .i64 x274000_1, .int .i64 x274001_1, .string x274002_1, .int .i64 x274003_1, .bool x274004_1, .slice Ao129 x274005_1.length co129, .slice Ao130 x274006_1.length co130] 29 (0, 0)) (pkK BK273.out)) : gb273 ≠ gb339)); have NB339_273 := am ((by rw [hg]; exact Nat.ne_of_gt (blk_lt (g := gb273) (o := .cells #[.int .i64 x274000_1, .int .i64 x274001_1, .string x274002_1, .int .i64 x274003_1, .bool x274004_1, .slice Ao129 x274005_1.length co129, .slice Ao130 x274006_1.length co130] 29 (0, 0)) (pkK BK273.out)) : gb339 ≠ gb273)); replace BK273 := bbk BK273 hb; clear hb hbox hg; have hnb133 := NB339_273.out; have hnc133 := NB273_339.out; obtain ⟨hcz134_0, hcz134_1, hcz134_2, hcz134_3, hcz134_4, hcz134_5, hcz134_6, hfz134_0, hfz134_1, hfz134_2, hfz134_3, hfz134_4, hfz134_5, hfz134_6⟩ := bk7 BK339.out; obtain ⟨Ao135, co135, eo135⟩ := Kd.R_slice HO334.out; subst eo135; obtain ⟨Ao136, co136, eo136⟩ := Kd.R_slice HO337.out; subst eo136; obtain ⟨hcz137_0, hcz137_1, hcz137_2, hcz137_3, hcz137_4, hcz137_5, hcz137_6, hfz137_0, hfz137_1, hfz137_2, hfz137_3, hfz137_4, hfz137_5, hfz137_6⟩ := bk7 BK273.out) | ((with_reducible refine gate_callee (f := 21) rfl ?_); refine goesL_ (some 125) rfl rfl Try.func21 (by kernel_rfl) rfl #[.agg #[.int .i64 t327, .int .i64 t328, .string t329, .int .i64 t330, .bool t331, .slice Ao135 t332.length co135, .slice Ao136 t335.length co136]] rfl mpx ?_; (with_reducible refine (impl_Look.calls k1 t327 t328 t329 t330 t331 _ _ t332 _ _ t335 t340 t341 t342 t343 t344 _ ?side1 ?side2 ?side3 ?side4 A121.out).mono ?_); (case side1 => refine (Kd.R_reads' (e := 3) (base := w.heap.size) (ok := fun k_ => (((some k_ ≠ (.slice Ao136 t335.length co136 : Value).ownBlock ∧ some k_ ≠ (u4 : Value).ownBlock) ∧ some k_ ≠ (.slice Ao129 x274005_1.length co129 : Value).ownBlock) ∧ some k_ ≠ (.slice Ao130 x274006_1.length co130 : Value).ownBlock)) (n := t332.length) (c := co135) ?_).2.2; exact (by (with_reducible repeat (first | apply Kd.R_alloc | apply Kd.R_drewN | apply Kd.R_drew)); exact (Kd.R_mono (Kd.R_mono (Kd.R_far (p := ⟨gb273, 6, none⟩) (Kd.R_far (p := ⟨gb273, 5, none⟩) (Kd.R_far (p := ⟨gb273, 4, none⟩) (Kd.R_far (p := ⟨gb273, 3, none⟩) (Kd.R_far (p := ⟨gb273, 2, none⟩) (Kd.R_far (p := ⟨gb273, 1, none⟩) (Kd.R_far (p := ⟨gb273, 0, none⟩) (Kd.R_far (p := ⟨gb339, 6, none⟩) (Kd.R_far (p := ⟨gb339, 5, none⟩) (Kd.R_far (p := ⟨gb339, 4, none⟩) (Kd.R_far (p := ⟨gb339, 3, none⟩) (Kd.R_far (p := ⟨gb339, 2, none⟩) (Kd.R_far (p := ⟨gb339, 1, none⟩) (Kd.R_far (p := ⟨gb339, 0, none⟩) (Kd.R_types (Kd.R_types HO334.out BK339.out (by decide)) BK273.out (by decide)) (fun _ hk => hk.1.2) (.int .i64 t327)) (fun _ hk => hk.1.2) (.int .i64 t328)) (fun _ hk => hk.1.2) (.string t329)) (fun _ hk => hk.1.2) (.int .i64 t330)) (fun _ hk => hk.1.2) (.bool t331)) (fun _ hk => hk.1.2) (.slice Ao135 t332.length co135)) (fun _ hk => hk.1.2) (.slice Ao136 t335.length co136)) (fun _ hk => hk.2) (.int .i64 t327)) (fun _ hk => hk.2) (.int .i64 t328)) (fun _ hk => hk.2) (.string t329)) (fun _ hk => hk.2) (.int .i64 t330)) (fun _ hk => hk.2) (.bool t331)) (fun _ hk => hk.2) (.slice Ao135 t332.length co135)) (fun _ hk => hk.2) (.slice Ao136 t335.length co136)) (fun _ h_ => h_.1)) (fun _ h_ => h_.1)))); (case side2 => exact (Kd.R_reads' HO334.out).2.1); (case side3 => refine (Kd.R_reads' (e := 3) (base := w.heap.size) (ok := fun k_ => (((some k_ ≠ (.slice Ao135 t332.length co135 : Value).ownBlock ∧ some k_ ≠ (u4 : Value).ownBlock) ∧ some k_ ≠ (.slice Ao129 x274005_1.length co129 : Value).ownBlock) ∧ some k_ ≠ (.slice Ao130 x274006_1.length co130 : Value).ownBlock)) (n := t335.length) (c := co136) ?_).2.2; exact (by (with_reducible repeat (first | apply Kd.R_alloc | apply Kd.R_drewN | apply Kd.R_drew)); exact (Kd.R_mono (Kd.R_mono (Kd.R_far (p := ⟨gb273, 6, none⟩) (Kd.R_far (p := ⟨gb273, 5, none⟩) (Kd.R_far (p := ⟨gb273, 4, none⟩) (Kd.R_far (p := ⟨gb273, 3, none⟩) (Kd.R_far (p := ⟨gb273, 2, none⟩) (Kd.R_far (p := ⟨gb273, 1, none⟩) (Kd.R_far (p := ⟨gb273, 0, none⟩) (Kd.R_far (p := ⟨gb339, 6, none⟩) (Kd.R_far (p := ⟨gb339, 5, none⟩) (Kd.R_far (p := ⟨gb339, 4, none⟩) (Kd.R_far (p := ⟨gb339, 3, none⟩) (Kd.R_far (p := ⟨gb339, 2, none⟩) (Kd.R_far (p := ⟨gb339, 1, none⟩) (Kd.R_far (p := ⟨gb339, 0, none⟩) (Kd.R_types (Kd.R_types HO337.out BK339.out (by decide)) BK273.out (by decide)) (fun _ hk => hk.1.2) (.int .i64 t327)) (fun _ hk => hk.1.2) (.int .i64 t328)) (fun _ hk => hk.1.2) (.string t329)) (fun _ hk => hk.1.2) (.int .i64 t330)) (fun _ hk => hk.1.2) (.bool t331)) (fun _ hk => hk.1.2) (.slice Ao135 t332.length co135)) (fun _ hk => hk.1.2) (.slice Ao136 t335.length co136)) (fun _ hk => hk.2) (.int .i64 t327)) (fun _ hk => hk.2) (.int .i64 t328)) (fun _ hk => hk.2) (.string t329)) (fun _ hk => hk.2) (.int .i64 t330)) (fun _ hk => hk.2) (.bool t331)) (fun _ hk => hk.2) (.slice Ao135 t332.length co135)) (fun _ hk => hk.2) (.slice Ao136 t335.length co136)) (fun _ h_ => h_.1)) (fun _ h_ => h_.1)))); (case side4 => exact (Kd.R_reads' HO337.out).2.1); rintro e w138 ⟨rfl, hb⟩; refine ⟨_, rfl, ?_⟩; replace HO_4 := am (Kd.R_below (by (with_reducible repeat (first | apply Kd.R_alloc | apply Kd.R_drewN | apply Kd.R_drew)); exact (Kd.R_mono (Kd.R_mono (Kd.R_far (p := ⟨gb273, 6, none⟩) (Kd.R_far (p := ⟨gb273, 5, none⟩) (Kd.R_far (p := ⟨gb273, 4, none⟩) (Kd.R_far (p := ⟨gb273, 3, none⟩) (Kd.R_far (p := ⟨gb273, 2, none⟩) (Kd.R_far (p := ⟨gb273, 1, none⟩) (Kd.R_far (p := ⟨gb273, 0, none⟩) (Kd.R_far (p := ⟨gb339, 6, none⟩) (Kd.R_far (p := ⟨gb339, 5, none⟩) (Kd.R_far (p := ⟨gb339, 4, none⟩) (Kd.R_far (p := ⟨gb339, 3, none⟩) (Kd.R_far (p := ⟨gb339, 2, none⟩) (Kd.R_far (p := ⟨gb339, 1, none⟩) (Kd.R_far (p := ⟨gb339, 0, none⟩) (Kd.R_types (Kd.R_types HO_4.out BK339.out (by decide)) BK273.out (by decide)) (fun _ hk => hk.1.2) (.int .i64 t327)) (fun _ hk => hk.1.2) (.int .i64 t328)) (fun _ hk => hk.1.2) (.string t329)) (fun _ hk => hk.1.2) (.int .i64 t330)) (fun _ hk => hk.1.2) (.bool t331)) (fun _ hk => hk.1.2) (.slice Ao135 t332.length co135)) (fun _ hk => hk.1.2) (.slice Ao136 t335.length co136)) (fun _ hk => hk.2) (.int .i64 t327)) (fun _ hk => hk.2) (.int .i64 t328)) (fun _ hk => hk.2) (.string t329)) (fun _ hk => hk.2) (.int .i64 t330)) (fun _ hk => hk.2) (.bool t331)) (fun _ hk => hk.2) (.slice Ao135 t332.length co135)) (fun _ hk => hk.2) (.slice Ao136 t335.length co136)) (fun _ h_ => h_.1)) (fun _ h_ => h_.1))) hb); replace HO_274005 := am (Kd.R_below (by (with_reducible repeat (first | apply Kd.R_alloc | apply Kd.R_drewN | apply Kd.R_drew)); exact (Kd.R_mono (Kd.R_mono (Kd.R_far (p := ⟨gb273, 6, none⟩) (Kd.R_far (p := ⟨gb273, 5, none⟩) (Kd.R_far (p := ⟨gb273, 4, none⟩) (Kd.R_far (p := ⟨gb273, 3, none⟩) (Kd.R_far (p := ⟨gb273, 2, none⟩) (Kd.R_far (p := ⟨gb273, 1, none⟩) (Kd.R_far (p := ⟨gb273, 0, none⟩) (Kd.R_far (p := ⟨gb339, 6, none⟩) (Kd.R_far (p := ⟨gb339, 5, none⟩) (Kd.R_far (p := ⟨gb339, 4, none⟩) (Kd.R_far (p := ⟨gb339, 3, none⟩) (Kd.R_far (p := ⟨gb339, 2, none⟩) (Kd.R_far (p := ⟨gb339, 1, none⟩) (Kd.R_far (p := ⟨gb339, 0, none⟩) (Kd.R_types (Kd.R_types HO_274005.out BK339.out (by decide)) BK273.out (by decide)) (fun _ hk => hk.1.2) (.int .i64 t327)) (fun _ hk => hk.1.2) (.int .i64 t328)) (fun _ hk => hk.1.2) (.string t329)) (fun _ hk => hk.1.2) (.int .i64 t330)) (fun _ hk => hk.1.2) (.bool t331)) (fun _ hk => hk.1.2) (.slice Ao135 t332.length co135)) (fun _ hk => hk.1.2) (.slice Ao136 t335.length co136)) (fun _ hk => hk.2) (.int .i64 t327)) (fun _ hk => hk.2) (.int .i64 t328)) (fun _ hk => hk.2) (.string t329)) (fun _ hk => hk.2) (.int .i64 t330)) (fun _ hk => hk.2) (.bool t331)) (fun _ hk => hk.2) (.slice Ao135 t332.length co135)) (fun _ hk => hk.2) (.slice Ao136 t335.length co136)) (fun _ h_ => h_.1)) (fun _ h_ => h_.1))) hb); replace HO_274006 := am (Kd.R_below (by (with_reducible repeat (first | apply Kd.R_alloc | apply Kd.R_drewN | apply Kd.R_drew)); exact (Kd.R_mono (Kd.R_mono (Kd.R_far (p := ⟨gb273, 6, none⟩) (Kd.R_far (p := ⟨gb273, 5, none⟩) (Kd.R_far (p := ⟨gb273, 4, none⟩) (Kd.R_far (p := ⟨gb273, 3, none⟩) (Kd.R_far (p := ⟨gb273, 2, none⟩) (Kd.R_far (p := ⟨gb273, 1, none⟩) (Kd.R_far (p := ⟨gb273, 0, none⟩) (Kd.R_far (p := ⟨gb339, 6, none⟩) (Kd.R_far (p := ⟨gb339, 5, none⟩) (Kd.R_far (p := ⟨gb339, 4, none⟩) (Kd.R_far (p := ⟨gb339, 3, none⟩) (Kd.R_far (p := ⟨gb339, 2, none⟩) (Kd.R_far (p := ⟨gb339, 1, none⟩) (Kd.R_far (p := ⟨gb339, 0, none⟩) (Kd.R_types (Kd.R_types HO_274006.out BK339.out (by decide)) BK273.out (by decide)) (fun _ hk => hk.1.2) (.int .i64 t327)) (fun _ hk => hk.1.2) (.int .i64 t328)) (fun _ hk => hk.1.2) (.string t329)) (fun _ hk => hk.1.2) (.int .i64 t330)) (fun _ hk => hk.1.2) (.bool t331)) (fun _ hk => hk.1.2) (.slice Ao135 t332.length co135)) (fun _ hk => hk.1.2) (.slice Ao136 t335.length co136)) (fun _ hk => hk.2) (.int .i64 t327)) (fun _ hk => hk.2) (.int .i64 t328)) (fun _ hk => hk.2) (.string t329)) (fun _ hk => hk.2) (.int .i64 t330)) (fun _ hk => hk.2) (.bool t331)) (fun _ hk => hk.2) (.slice Ao135 t332.length co135)) (fun _ hk => hk.2) (.slice Ao136 t335.length co136)) (fun _ h_ => h_.1)) (fun _ h_ => h_.1))) hb); replace HO334 := am (Kd.R_below (by (with_reducible repeat (first | apply Kd.R_alloc | apply Kd.R_drewN | apply Kd.R_drew)); exact (Kd.R_mono (Kd.R_mono (Kd.R_far (p := ⟨gb273, 6, none⟩) (Kd.R_far (p := ⟨gb273, 5, none⟩) (Kd.R_far (p := ⟨gb273, 4, none⟩) (Kd.R_far (p := ⟨gb273, 3, none⟩) (Kd.R_far (p := ⟨gb273, 2, none⟩) (Kd.R_far (p := ⟨gb273, 1, none⟩) (Kd.R_far (p := ⟨gb273, 0, none⟩) (Kd.R_far (p := ⟨gb339, 6, none⟩) (Kd.R_far (p := ⟨gb339, 5, none⟩) (Kd.R_far (p := ⟨gb339, 4, none⟩) (Kd.R_far (p := ⟨gb339, 3, none⟩) (Kd.R_far (p := ⟨gb339, 2, none⟩) (Kd.R_far (p := ⟨gb339, 1, none⟩) (Kd.R_far (p := ⟨gb339, 0, none⟩) (Kd.R_types (Kd.R_types HO334.out BK339.out (by decide)) BK273.out (by decide)) (fun _ hk => hk.1.2) (.int .i64 t327)) (fun _ hk => hk.1.2) (.int .i64 t328)) (fun _ hk => hk.1.2) (.string t329)) (fun _ hk => hk.1.2) (.int .i64 t330)) (fun _ hk => hk.1.2) (.bool t331)) (fun _ hk => hk.1.2) (.slice Ao135 t332.length co135)) (fun _ hk => hk.1.2) (.slice Ao136 t335.length co136)) (fun _ hk => hk.2) (.int .i64 t327)) (fun _ hk => hk.2) (.int .i64 t328)) (fun _ hk => hk.2) (.string t329)) (fun _ hk => hk.2) (.int .i64 t330)) (fun _ hk => hk.2) (.bool t331)) (fun _ hk => hk.2) (.slice Ao135 t332.length co135)) (fun _ hk => hk.2) (.slice Ao136 t335.length co136)) (fun _ h_ => h_.1)) (fun _ h_ => h_.1))) hb); replace HO337 := am (Kd.R_below (by (with_reducible repeat (first | apply Kd.R_alloc | apply Kd.R_drewN | apply Kd.R_drew)); exact (Kd.R_mono (Kd.R_mono (Kd.R_far (p := ⟨gb273, 6, none⟩) (Kd.R_far (p := ⟨gb273, 5, none⟩) (Kd.R_far (p := ⟨gb273, 4, none⟩) (Kd.R_far (p := ⟨gb273, 3, none⟩) (Kd.R_far (p := ⟨gb273, 2, none⟩) (Kd.R_far (p := ⟨gb273, 1, none⟩) (Kd.R_far (p := ⟨gb273, 0, none⟩) (Kd.R_far (p := ⟨gb339, 6, none⟩) (Kd.R_far (p := ⟨gb339, 5, none⟩) (Kd.R_far (p := ⟨gb339, 4, none⟩) (Kd.R_far (p := ⟨gb339, 3, none⟩) (Kd.R_far (p := ⟨gb339, 2, none⟩) (Kd.R_far (p := ⟨gb339, 1, none⟩) (Kd.R_far (p := ⟨gb339, 0, none⟩) (Kd.R_types (Kd.R_types HO337.out BK339.out (by decide)) BK273.out (by decide)) (fun _ hk => hk.1.2) (.int .i64 t327)) (fun _ hk => hk.1.2) (.int .i64 t328)) (fun _ hk => hk.1.2) (.string t329)) (fun _ hk => hk.1.2) (.int .i64 t330)) (fun _ hk => hk.1.2) (.bool t331)) (fun _ hk => hk.1.2) (.slice Ao135 t332.length co135)) (fun _ hk => hk.1.2) (.slice Ao136 t335.length co136)) (fun _ hk => hk.2) (.int .i64 t327)) (fun _ hk => hk.2) (.int .i64 t328)) (fun _ hk => hk.2) (.string t329)) (fun _ hk => hk.2) (.int .i64 t330)) (fun _ hk => hk.2) (.bool t331)) (fun _ hk => hk.2) (.slice Ao135 t332.length co135)) (fun _ hk => hk.2) (.slice Ao136 t335.length co136)) (fun _ h_ => h_.1)) (fun _ h_ => h_.1))) hb); replace BK273 := am (blk_below (g := gb273) (o := .cells #[.int .i64 t327, .int .i64 t328, .string t329, .int .i64 t330, .bool t331, .slice Ao135 t332.length co135, .slice Ao136 t335.length co136] 29 (0, 0)) (by (with_reducible repeat (first | refine blk_drewN ?_ _ | refine blk_drew ?_ | refine blk_alloc ?_ _)); refine blk_put (cs := #[.int .i64 t327, .int .i64 t328, .string t329, .int .i64 t330, .bool t331, .slice Ao135 t332.length co135, .slice Ao130 x274006_1.length co130]) ?_ 6 _ rfl; (with_reducible repeat (first | refine blk_drewN ?_ _ | refine blk_drew ?_ | refine blk_alloc ?_ _)); refine blk_put (cs := #[.int .i64 t327, .int .i64 t328, .string t329, .int .i64 t330, .bool t331, .slice Ao129 x274005_1.length co129, .slice Ao130 x274006_1.length co130]) ?_ 5 _ rfl; (with_reducible repeat (first | refine blk_drewN ?_ _ | refine blk_drew ?_ | refine blk_alloc ?_ _)); refine blk_put (cs := #[.int .i64 t327, .int .i64 t328, .string t329, .int .i64 t330, .bool x274004_1, .slice Ao129 x274005_1.length co129, .slice Ao130 x274006_1.length co130]) ?_ 4 _ rfl; (with_reducible repeat (first | refine blk_drewN ?_ _ | refine blk_drew ?_ | refine blk_alloc ?_ _)); refine blk_put (cs := #[.int .i64 t327, .int .i64 t328, .string t329, .int .i64 x274003_1, .bool x274004_1, .slice Ao129 x274005_1.length co129, .slice Ao130 x274006_1.length co130]) ?_ 3 _ rfl; (with_reducible repeat (first | refine blk_drewN ?_ _ | refine blk_drew ?_ | refine blk_alloc ?_ _)); refine blk_put (cs := #[.int .i64 t327, .int .i64 t328, .string x274002_1, .int .i64 x274003_1, .bool x274004_1, .slice Ao129 x274005_1.length co129, .slice Ao130 x274006_1.length co130]) ?_ 2 _ rfl; (with_reducible repeat (first | refine blk_drewN ?_ _ | refine blk_drew ?_ | refine blk_alloc ?_ _)); refine blk_put (cs := #[.int .i64 t327, .int .i64 x274001_1, .string x274002_1, .int .i64 x274003_1, .bool x274004_1, .slice Ao129 x274005_1.length co129, .slice Ao130 x274006_1.length co130]) ?_ 1 _ rfl; (with_reducible repeat (first | refine blk_drewN ?_ _ | refine blk_drew ?_ | refine blk_alloc ?_ _)); refine blk_put (cs := #[.int .i64 x274000_1, .int .i64 x274001_1, .string x274002_1, .int .i64 x274003_1, .bool x274004_1, .slice Ao129 x274005_1.length co129, .slice Ao130 x274006_1.length co130]) ?_ 0 _ rfl; (with_reducible repeat (first | refine blk_drewN ?_ _ | refine blk_drew ?_ | refine blk_alloc ?_ _)); exact (fa7x48 (pkK BK273.out) NB273_339.out)) hb); replace BK339 := am (blk_below (g := gb339) (o := .cells #[.int .i64 t327, .int .i64 t328, .string t329, .int .i64 t330, .bool t331, .slice Ao135 t332.length co135, .slice Ao136 t335.length co136] 29 (0, 0)) (by (with_reducible repeat (first | refine blk_drewN ?_ _ | refine blk_drew ?_ | refine blk_alloc ?_ _)); refine blk_far ?_ NB339_273.out _; (with_reducible repeat (first | refine blk_drewN ?_ _ | refine blk_drew ?_ | refine blk_alloc ?_ _)); refine blk_far ?_ NB339_273.out _; (with_reducible repeat (first | refine blk_drewN ?_ _ | refine blk_drew ?_ | refine blk_alloc ?_ _)); refine blk_far ?_ NB339_273.out _; (with_reducible repeat (first | refine blk_drewN ?_ _ | refine blk_drew ?_ | refine blk_alloc ?_ _)); refine blk_far ?_ NB339_273.out _; (with_reducible repeat (first | refine blk_drewN ?_ _ | refine blk_drew ?_ | refine blk_alloc ?_ _)); refine blk_far ?_ NB339_273.out _; (with_reducible repeat (first | refine blk_drewN ?_ _ | refine blk_drew ?_ | refine blk_alloc ?_ _)); refine blk_far ?_ NB339_273.out _; (with_reducible repeat (first | refine blk_drewN ?_ _ | refine blk_drew ?_ | refine blk_alloc ?_ _)); refine blk_far ?_ NB339_273.out _; (with_reducible repeat (first | refine blk_drewN ?_ _ | refine blk_drew ?_ | refine blk_alloc ?_ _)); exact (pt7x48 (pkK BK339.out))) hb); replace HB := bst HB hb; (try clear hb)) | ((with_reducible refine gate_dst (N := 18) rfl ?_); (try (refine gate_guard (by rfl) ?_; dsimp only)); refine box_event ?hg (N := 18) ?hd (cs := #[.int .i64 0, .int .i64 0, .string (⟨#[]⟩ : ByteArray)]) (t := 25) ?hr ?_; (case hd => rfl); (case hg => rfl); (case hr => first | (go_simp; done) | (go_simp; rfl)); intro gb345 hg w139 hbox hb; replace HO_4 := rbl HO_4 hb; replace HO_274005 := rbl HO_274005 hb; replace HO_274006 := rbl HO_274006 hb; replace HO334 := rbl HO334 hb; replace HO337 := rbl HO337 hb; have BK345 := am (hbox); have GW345 := am ((by rw [hg]; exact (below_size (pkW HB.out)) : w.heap.size ≤ gb345)); have GE345 := am ((by rw [hg]; exact (below_size (pkW HB.out)) : w.heap.size ≤ gb345)); replace HB := bst HB hb; have NB273_345 := am ((by rw [hg]; exact Nat.ne_of_lt (blk_lt (g := gb273) (o := .cells #[.int .i64 t327, .int .i64 t328, .string t329, .int .i64 t330, .bool t331, .slice Ao135 t332.length co135, .slice Ao136 t335.length co136] 29 (0, 0)) (pkK BK273.out)) : gb273 ≠ gb345)); have NB345_273 := am ((by rw [hg]; exact Nat.ne_of_gt (blk_lt (g := gb273) (o := .cells #[.int .i64 t327, .int .i64 t328, .string t329, .int .i64 t330, .bool t331, .slice Ao135 t332.length co135, .slice Ao136 t335.length co136] 29 (0, 0)) (pkK BK273.out)) : gb345 ≠ gb273)); replace BK273 := bbk BK273 hb; have NB339_345 := am ((by rw [hg]; exact Nat.ne_of_lt (blk_lt (g := gb339) (o := .cells #[.int .i64 t327, .int .i64 t328, .string t329, .int .i64 t330, .bool t331, .slice Ao135 t332.length co135, .slice Ao136 t335.length co136] 29 (0, 0)) (pkK BK339.out)) : gb339 ≠ gb345)); have NB345_339 := am ((by rw [hg]; exact Nat.ne_of_gt (blk_lt (g := gb339) (o := .cells #[.int .i64 t327, .int .i64 t328, .string t329, .int .i64 t330, .bool t331, .slice Ao135 t332.length co135, .slice Ao136 t335.length co136] 29 (0, 0)) (pkK BK339.out)) : gb345 ≠ gb339)); replace BK339 := bbk BK339 hb; clear hb hbox hg; have hnb140 := NB345_273.out; have hnc140 := NB273_345.out; have hnb141 := NB345_339.out; have hnc141 := NB339_345.out; obtain ⟨hcz142_0, hcz142_1, hcz142_2, hfz142_0, hfz142_1, hfz142_2⟩ := bk3 BK345.out))
              have n0_ : Aside0 (Kd.R (Kd.int .i64) 3 (((w139.setCell ⟨gb345, 0, none⟩ (.int .i64 t340)).setCell ⟨gb345, 1, none⟩ (.int .i64 t341)).setCell ⟨gb345, 2, none⟩ (.string t342)) w.heap.size (fun k_ => some k_ ≠ (.slice Ao129 x274005_1.length co129 : Value).ownBlock ∧ some k_ ≠ (.slice Ao130 x274006_1.length co130 : Value).ownBlock ∧ some k_ ≠ (.slice Ao135 t332.length co135 : Value).ownBlock ∧ some k_ ≠ (.slice Ao136 t335.length co136 : Value).ownBlock) u4 x4_1) := ⟨by (with_reducible repeat (first | apply Kd.R_alloc | apply Kd.R_drewN | apply Kd.R_drew)); exact Kd.R_mono (fR3x48 HO_4.out BK345.out (by decide)) (fun _ hk => ⟨hk.1.1.1, hk.1.1.2, hk.1.2, hk.2⟩)⟩
              have n1_ : Aside0 (Kd.R (Kd.int .i64) 3 (((w139.setCell ⟨gb345, 0, none⟩ (.int .i64 t340)).setCell ⟨gb345, 1, none⟩ (.int .i64 t341)).setCell ⟨gb345, 2, none⟩ (.string t342)) w.heap.size (fun k_ => some k_ ≠ (u4 : Value).ownBlock ∧ some k_ ≠ (.slice Ao130 x274006_1.length co130 : Value).ownBlock ∧ some k_ ≠ (.slice Ao135 t332.length co135 : Value).ownBlock ∧ some k_ ≠ (.slice Ao136 t335.length co136 : Value).ownBlock) (.slice Ao129 x274005_1.length co129) x274005_1) := ⟨by (with_reducible repeat (first | apply Kd.R_alloc | apply Kd.R_drewN | apply Kd.R_drew)); exact Kd.R_mono (fR3x48 HO_274005.out BK345.out (by decide)) (fun _ hk => ⟨hk.1.1.1, hk.1.1.2, hk.1.2, hk.2⟩)⟩
              have n2_ : Aside0 (Kd.R (Kd.int .i64) 3 (((w139.setCell ⟨gb345, 0, none⟩ (.int .i64 t340)).setCell ⟨gb345, 1, none⟩ (.int .i64 t341)).setCell ⟨gb345, 2, none⟩ (.string t342)) w.heap.size (fun k_ => some k_ ≠ (u4 : Value).ownBlock ∧ some k_ ≠ (.slice Ao129 x274005_1.length co129 : Value).ownBlock ∧ some k_ ≠ (.slice Ao135 t332.length co135 : Value).ownBlock ∧ some k_ ≠ (.slice Ao136 t335.length co136 : Value).ownBlock) (.slice Ao130 x274006_1.length co130) x274006_1) := ⟨by (with_reducible repeat (first | apply Kd.R_alloc | apply Kd.R_drewN | apply Kd.R_drew)); exact Kd.R_mono (fR3x48 HO_274006.out BK345.out (by decide)) (fun _ hk => ⟨hk.1.1.1, hk.1.1.2, hk.1.2, hk.2⟩)⟩
              have n3_ : Aside0 (Kd.R (Kd.int .i64) 3 (((w139.setCell ⟨gb345, 0, none⟩ (.int .i64 t340)).setCell ⟨gb345, 1, none⟩ (.int .i64 t341)).setCell ⟨gb345, 2, none⟩ (.string t342)) w.heap.size (fun k_ => some k_ ≠ (u4 : Value).ownBlock ∧ some k_ ≠ (.slice Ao129 x274005_1.length co129 : Value).ownBlock ∧ some k_ ≠ (.slice Ao130 x274006_1.length co130 : Value).ownBlock ∧ some k_ ≠ (.slice Ao136 t335.length co136 : Value).ownBlock) (.slice Ao135 t332.length co135) t332) := ⟨by (with_reducible repeat (first | apply Kd.R_alloc | apply Kd.R_drewN | apply Kd.R_drew)); exact Kd.R_mono (fR3x48 HO334.out BK345.out (by decide)) (fun _ hk => ⟨hk.1.1.2, hk.1.2, hk.2, hk.1.1.1⟩)⟩
              have n4_ : Aside0 (Kd.R (Kd.int .i64) 3 (((w139.setCell ⟨gb345, 0, none⟩ (.int .i64 t340)).setCell ⟨gb345, 1, none⟩ (.int .i64 t341)).setCell ⟨gb345, 2, none⟩ (.string t342)) w.heap.size (fun k_ => some k_ ≠ (u4 : Value).ownBlock ∧ some k_ ≠ (.slice Ao129 x274005_1.length co129 : Value).ownBlock ∧ some k_ ≠ (.slice Ao130 x274006_1.length co130 : Value).ownBlock ∧ some k_ ≠ (.slice Ao135 t332.length co135 : Value).ownBlock) (.slice Ao136 t335.length co136) t335) := ⟨by (with_reducible repeat (first | apply Kd.R_alloc | apply Kd.R_drewN | apply Kd.R_drew)); exact Kd.R_mono (fR3x48 HO337.out BK345.out (by decide)) (fun _ hk => ⟨hk.1.1.2, hk.1.2, hk.2, hk.1.1.1⟩)⟩
              have n5_ : Aside0 ((((w139.setCell ⟨gb345, 0, none⟩ (.int .i64 t340)).setCell ⟨gb345, 1, none⟩ (.int .i64 t341)).setCell ⟨gb345, 2, none⟩ (.string t342)).heap[gb273]? = some (.cells #[.int .i64 t327, .int .i64 t328, .string t329, .int .i64 t330, .bool t331, .slice Ao135 t332.length co135, .slice Ao136 t335.length co136] 29 (0, 0))) := ⟨by (with_reducible repeat (first | refine blk_drewN ?_ _ | refine blk_drew ?_ | refine blk_alloc ?_ _)); exact (fa3x48 (pkK BK273.out) NB273_345.out)⟩
              have n6_ : Aside0 ((((w139.setCell ⟨gb345, 0, none⟩ (.int .i64 t340)).setCell ⟨gb345, 1, none⟩ (.int .i64 t341)).setCell ⟨gb345, 2, none⟩ (.string t342)).heap[gb339]? = some (.cells #[.int .i64 t327, .int .i64 t328, .string t329, .int .i64 t330, .bool t331, .slice Ao135 t332.length co135, .slice Ao136 t335.length co136] 29 (0, 0))) := ⟨by (with_reducible repeat (first | refine blk_drewN ?_ _ | refine blk_drew ?_ | refine blk_alloc ?_ _)); exact (fa3x48 (pkK BK339.out) NB339_345.out)⟩
              have n7_ : Aside0 ((((w139.setCell ⟨gb345, 0, none⟩ (.int .i64 t340)).setCell ⟨gb345, 1, none⟩ (.int .i64 t341)).setCell ⟨gb345, 2, none⟩ (.string t342)).heap[gb345]? = some (.cells #[.int .i64 t340, .int .i64 t341, .string t342] 25 (0, 0))) := ⟨by (with_reducible repeat (first | refine blk_drewN ?_ _ | refine blk_drew ?_ | refine blk_alloc ?_ _)); exact (pt3x48 (pkK BK345.out))⟩
              have n8_ : Aside0 (Below w.heap.size w (((w139.setCell ⟨gb345, 0, none⟩ (.int .i64 t340)).setCell ⟨gb345, 1, none⟩ (.int .i64 t341)).setCell ⟨gb345, 2, none⟩ (.string t342))) := ⟨pkW HB.out⟩
              (try clear HO_4); (try clear HO_274005); (try clear HO_274006); (try clear HO334); (try clear HO337); (try clear BK273); (try clear BK339); (try clear BK345); (try clear HB)
              generalize (((w139.setCell ⟨gb345, 0, none⟩ (.int .i64 t340)).setCell ⟨gb345, 1, none⟩ (.int .i64 t341)).setCell ⟨gb345, 2, none⟩ (.string t342)) = w143 at n0_ n1_ n2_ n3_ n4_ n5_ n6_ n7_ n8_ ⊢
              have HO_4 := n0_; have HO_274005 := n1_; have HO_274006 := n2_; have HO334 := n3_; have HO337 := n4_; have BK273 := n5_; have BK339 := n6_; have BK345 := n7_; have HB := n8_
              clear n0_ n1_ n2_ n3_ n4_ n5_ n6_ n7_ n8_
              replace HO_4 := am (Kd.R_drew HO_4.out)
              replace HO_274005 := am (Kd.R_drew HO_274005.out)
              replace HO_274006 := am (Kd.R_drew HO_274006.out)
              replace HO334 := am (Kd.R_drew HO334.out)
              replace HO337 := am (Kd.R_drew HO337.out)
              replace BK273 := am (blk_drew BK273.out)
              replace BK339 := am (blk_drew BK339.out)
              replace BK345 := am (blk_drew BK345.out)
              replace HB := am (below_drew1 HB.out)
              obtain ⟨Ao145, co145, eo145⟩ := Kd.R_slice HO_4.out
              (first | subst eo145 | (injection eo145 with f1_ f2_ f3_; have f4_ := f1_.symm; have f5_ := f3_.symm; clear f1_ f2_ f3_; subst f4_; subst f5_))
              have p346 : 0 ≤ (t343 : Int) := ofd
              have q346 : t343 < (x4_1.length : Int) := ofd
              obtain ⟨ad346, e346, hx346_0⟩ := Kd.at_int (Kd.R_reads' HO_4.out).2.2 t343 p346 q346
              cases e346
              replace p346 := eq_true p346
              replace q346 := eq_true q346
              refine start_ (n := 20) (S := fun w' => w'.cell? ⟨gb345, 0, none⟩ = some (.int .i64 t340) ∧ w'.cell? ⟨gb345, 1, none⟩ = some (.int .i64 t341) ∧ w'.cell? ⟨gb345, 2, none⟩ = some (.string t342) ∧ w'.cell? (ad346.add (t343).toNat) = some (.int .i64 (rd x4_1 t343))) (ds := []) #[false, false, false, false, false, false, false, false, false, false, false, false, false, false, false, false, false, false, false, false] (by kernel_rfl) rfl rfl ⟨(blk_cell BK345.out 0).trans rfl, (blk_cell BK345.out 1).trans rfl, (blk_cell BK345.out 2).trans rfl, hx346_0⟩ (fun hHeld => ?_); refine with_tabW laws_FnSees.tab29 laws_FnSees.bits29 (fun HT_ HW_ => ?_)
              generalize w143.drew = w144 at HO_4 HO_274005 HO_274006 HO334 HO337 BK273 BK339 BK345 HB hx346_0 hHeld ⊢
              refine pure_ (i := 0) (N := some 129) (v := ?_) (a' := ?_) #[true, false, false, false, false, false, false, false, false, false, false, false, false, false, false, false, false, false, false, false] rfl rfl (ayo HT_.out) (fun _ _ _ h => h) (Or.inl ⟨by rfl, ?_⟩) ?_ ?_; rotate_left; (intro w'; go_simp; with_reducible rfl); rotate_left; (simp only [Act.put, List.setIfInBounds_toArray, List.set_cons_zero, List.set_cons_succ, i64_w, i32_w]; rfl)
              refine pure_ (i := 1) (N := some 130) (v := ?_) (a' := ?_) #[true, true, false, false, false, false, false, false, false, false, false, false, false, false, false, false, false, false, false, false] rfl rfl (ayo HT_.out) (fun _ _ _ h => h) (Or.inl ⟨by rfl, ?_⟩) ?_ ?_; rotate_left; (intro w'; go_simp; with_reducible rfl); rotate_left; (simp only [Act.put, List.setIfInBounds_toArray, List.set_cons_zero, List.set_cons_succ, i64_w, i32_w]; rfl)
              refine pure_ (i := 2) (N := some 131) (v := ?_) (a' := ?_) #[true, true, true, false, false, false, false, false, false, false, false, false, false, false, false, false, false, false, false, false] rfl rfl (ayo HT_.out) (fun _ _ _ h => h) (Or.inl ⟨by rfl, ?_⟩) ?_ ?_; rotate_left; (intro w'; go_simp; with_reducible rfl); rotate_left; (simp only [Act.put, List.setIfInBounds_toArray, List.set_cons_zero, List.set_cons_succ, i64_w, i32_w]; rfl)
              refine pure_ (i := 3) (N := some 132) (v := ?_) (a' := ?_) #[true, true, true, true, false, false, false, false, false, false, false, false, false, false, false, false, false, false, false, false] rfl rfl (ayo HT_.out) (fun _ _ _ h => h) (Or.inl ⟨by rfl, ?_⟩) ?_ ?_; rotate_left; (intro w'; go_simp; with_reducible rfl); rotate_left; (simp only [Act.put, List.setIfInBounds_toArray, List.set_cons_zero, List.set_cons_succ, i64_w, i32_w]; rfl)
              refine pure_ (i := 4) (N := some 133) (v := ?_) (a' := ?_) #[true, true, true, true, true, false, false, false, false, false, false, false, false, false, false, false, false, false, false, false] rfl rfl (ayo HT_.out) (fun _ _ _ h => h) (Or.inl ⟨by rfl, ?_⟩) ?_ ?_; rotate_left; (intro w'; go_simp; with_reducible rfl); rotate_left; (simp only [Act.put, List.setIfInBounds_toArray, List.set_cons_zero, List.set_cons_succ, i64_w, i32_w]; rfl)
              refine pure_ (i := 5) (N := some 134) (v := ?_) (a' := ?_) #[true, true, true, true, true, true, false, false, false, false, false, false, false, false, false, false, false, false, false, false] rfl rfl (ayo HT_.out) (fun _ _ _ h => h) (Or.inl ⟨by rfl, ?_⟩) ?_ ?_; rotate_left; (intro w'; go_simp; with_reducible rfl); rotate_left; (simp only [Act.put, List.setIfInBounds_toArray, List.set_cons_zero, List.set_cons_succ, i64_w, i32_w]; rfl)
              refine pure_ (i := 6) (N := some 135) (v := ?_) (a' := ?_) #[true, true, true, true, true, true, true, false, false, false, false, false, false, false, false, false, false, false, false, false] rfl rfl (ayo HT_.out) (fun _ _ _ h => h) (Or.inl ⟨by rfl, ?_⟩) ?_ ?_; rotate_left; (intro w'; go_simp; with_reducible rfl); rotate_left; (simp only [Act.put, List.setIfInBounds_toArray, List.set_cons_zero, List.set_cons_succ, i64_w, i32_w]; rfl)
              refine pure_ (i := 7) (N := some 136) (v := ?_) (a' := ?_) #[true, true, true, true, true, true, true, true, false, false, false, false, false, false, false, false, false, false, false, false] rfl rfl (ayo HT_.out) (fun _ _ _ h => h) (Or.inl ⟨by rfl, ?_⟩) ?_ ?_; rotate_left; (intro w'; go_simp; with_reducible rfl); rotate_left; (simp only [Act.put, List.setIfInBounds_toArray, List.set_cons_zero, List.set_cons_succ, i64_w, i32_w]; rfl)
              refine pure_ (i := 8) (N := some 137) (v := ?_) (a' := ?_) #[true, true, true, true, true, true, true, true, true, false, false, false, false, false, false, false, false, false, false, false] rfl rfl (ayo HT_.out) (fun _ _ _ h => h) (Or.inl ⟨by rfl, ?_⟩) ?_ ?_; rotate_left; (intro w'; go_simp; with_reducible rfl); rotate_left; (simp only [Act.put, List.setIfInBounds_toArray, List.set_cons_zero, List.set_cons_succ, i64_w, i32_w]; rfl)
              refine pure_ (i := 9) (N := some 138) (v := ?_) (a' := ?_) #[true, true, true, true, true, true, true, true, true, true, false, false, false, false, false, false, false, false, false, false] rfl rfl (ayo HT_.out) (fun _ _ _ h => h) (Or.inl ⟨by rfl, ?_⟩) ?_ ?_; rotate_left; (intro w'; go_simp; with_reducible rfl); rotate_left; (simp only [Act.put, List.setIfInBounds_toArray, List.set_cons_zero, List.set_cons_succ, i64_w, i32_w]; rfl)
              refine pure_ (i := 10) (N := some 139) (v := ?_) (a' := ?_) #[true, true, true, true, true, true, true, true, true, true, true, false, false, false, false, false, false, false, false, false] rfl rfl (ayo HT_.out) (fun _ _ _ h => h) (Or.inl ⟨by rfl, ?_⟩) ?_ ?_; rotate_left; (intro w'; go_simp; with_reducible rfl); rotate_left; (simp only [Act.put, List.setIfInBounds_toArray, List.set_cons_zero, List.set_cons_succ, i64_w, i32_w]; rfl)
              refine pure_ (i := 11) (N := some 140) (v := ?_) (a' := ?_) #[true, true, true, true, true, true, true, true, true, true, true, true, false, false, false, false, false, false, false, false] rfl rfl (ayo HT_.out) (fun _ _ _ h => h) (Or.inl ⟨by rfl, ?_⟩) ?_ ?_; rotate_left; (intro w'; go_simp; with_reducible rfl); rotate_left; (simp only [Act.put, List.setIfInBounds_toArray, List.set_cons_zero, List.set_cons_succ, i64_w, i32_w]; rfl)
              refine pure_ (i := 12) (N := some 141) (v := ?_) (a' := ?_) #[true, true, true, true, true, true, true, true, true, true, true, true, true, false, false, false, false, false, false, false] rfl rfl (ayo HT_.out) (fun _ _ _ h => h) (Or.inl ⟨by rfl, ?_⟩) ?_ ?_; rotate_left; (intro w'; go_simp; with_reducible rfl); rotate_left; (simp only [Act.put, List.setIfInBounds_toArray, List.set_cons_zero, List.set_cons_succ, i64_w, i32_w]; rfl)
              refine pure_ (i := 14) (N := some 143) (v := ?_) (a' := ?_) #[true, true, true, true, true, true, true, true, true, true, true, true, true, false, true, false, false, false, false, false] rfl rfl (ayo HT_.out) (fun _ _ _ h => h) (Or.inl ⟨by rfl, ?_⟩) ?_ ?_; rotate_left; (intro w'; go_simp; with_reducible rfl); rotate_left; (simp only [Act.put, List.setIfInBounds_toArray, List.set_cons_zero, List.set_cons_succ, i64_w, i32_w]; rfl)
              refine pure_ (i := 15) (N := some 144) (v := ?_) (a' := ?_) #[true, true, true, true, true, true, true, true, true, true, true, true, true, false, true, true, false, false, false, false] rfl rfl (ayo HT_.out) (fun _ _ _ h => h) (Or.inl ⟨by rfl, ?_⟩) ?_ ?_; rotate_left; (intro w'; go_simp; with_reducible rfl); rotate_left; (simp only [Act.put, List.setIfInBounds_toArray, List.set_cons_zero, List.set_cons_succ, i64_w, i32_w]; rfl)
              refine pure_ (i := 16) (N := some 145) (v := ?_) (a' := ?_) #[true, true, true, true, true, true, true, true, true, true, true, true, true, false, true, true, true, false, false, false] rfl rfl (ayo HT_.out) (fun _ _ _ h => h) (Or.inl ⟨by rfl, ?_⟩) ?_ ?_; rotate_left; (intro w'; go_simp; with_reducible rfl); rotate_left; (simp only [Act.put, List.setIfInBounds_toArray, List.set_cons_zero, List.set_cons_succ, i64_w, i32_w]; rfl)
              refine take_ (i := 13) (N := some 142) (v := ?_) (a' := ?_) #[true, true, true, true, true, true, true, true, true, true, true, true, true, true, true, true, true, false, false, false] rfl rfl (take_ofW HT_.out HW_.out (by kernel_rfl)) (fun _ _ _ h => h) (Or.inl ⟨by rfl, ?_⟩) hHeld ?_ ?_
              rotate_left
              ·rintro w' ⟨s0, s1, s2, s3⟩
               go_simp
               with_reducible rfl
              rotate_left
              ·simp only [Act.put, List.setIfInBounds_toArray, List.set_cons_zero, List.set_cons_succ, i64_w, i32_w]
               rfl
              refine take_ (i := 17) (N := some 146) (v := ?_) (a' := ?_) #[true, true, true, true, true, true, true, true, true, true, true, true, true, true, true, true, true, true, false, false] rfl rfl (take_ofW HT_.out HW_.out (by kernel_rfl)) (fun _ _ _ h => h) (Or.inl ⟨by rfl, ?_⟩) hHeld ?_ ?_
              rotate_left
              ·rintro w' ⟨s0, s1, s2, s3⟩
               go_simp
               with_reducible rfl
              rotate_left
              ·simp only [Act.put, List.setIfInBounds_toArray, List.set_cons_zero, List.set_cons_succ, i64_w, i32_w]
               rfl
              refine pure_ (i := 18) (N := some 147) (v := ?_) (a' := ?_) #[true, true, true, true, true, true, true, true, true, true, true, true, true, true, true, true, true, true, true, false] rfl rfl (ayo HT_.out) (fun _ _ _ h => h) (Or.inl ⟨by rfl, ?_⟩) ?_ ?_; rotate_left; (intro w'; go_simp; with_reducible rfl); rotate_left; (simp only [Act.put, List.setIfInBounds_toArray, List.set_cons_zero, List.set_cons_succ, i64_w, i32_w]; rfl)
              refine pure_ (i := 19) (N := some 148) (v := ?_) (a' := ?_) #[true, true, true, true, true, true, true, true, true, true, true, true, true, true, true, true, true, true, true, true] rfl rfl (ayo HT_.out) (fun _ _ _ h => h) (Or.inl ⟨by rfl, ?_⟩) ?_ ?_; rotate_left; (intro w'; go_simp; with_reducible rfl); rotate_left; (simp only [Act.put, List.setIfInBounds_toArray, List.set_cons_zero, List.set_cons_succ, i64_w, i32_w]; rfl)
              refine done_ (done_of HT_.out (by kernel_rfl)) ?_
              try go_wp2
              go_roundg k1
              case measure => have := HK1.out; omega
              case rel => exact ⟨(x4_1), (t343), (t343), (false), (wrap64 (x8_1 + 1)), (t327), (t328), (t329), (t330), (t331), (t332), (t335), (.slice Ao135 t332.length co135), (.slice Ao136 t335.length co136), rfx, rfx, rfx, rfx, H', ⟨by have := HK1.out; omega⟩, ⟨by (with_reducible repeat (first | apply Kd.R_alloc | apply Kd.R_drewN | apply Kd.R_drew)); exact Kd.R_mono HO_4.out (fun _ hk => ⟨hk.2.2.1, hk.2.2.2⟩)⟩, ⟨by (with_reducible repeat (first | apply Kd.R_alloc | apply Kd.R_drewN | apply Kd.R_drew)); exact Kd.R_mono HO334.out (fun _ hk => ⟨hk.1, hk.2.2.2⟩)⟩, ⟨by (with_reducible repeat (first | apply Kd.R_alloc | apply Kd.R_drewN | apply Kd.R_drew)); exact Kd.R_mono HO337.out (fun _ hk => ⟨hk.1, hk.2.2.2⟩)⟩, ⟨pkK BK273.out⟩, ⟨pkW HB.out⟩⟩
             ·rw [if_neg c127] at H
              have c127b0 : (t341 == (rd x4_1 t343)) = false := beq_eq_false_iff_ne.mpr c127
              have c127b1 : (t341 != (rd x4_1 t343)) = true := bne_iff_ne.mpr c127
              exact absurd (Option.some.inj H) (by rw [HQ_.out]; simp)
            ·rw [if_neg c126] at H
             exact absurd H (by simp)
           ·rw [if_neg c125] at H
            exact absurd H (by simp)
         ·rw [if_neg c123] at H
          have c123b0 : (t344 == 0) = false := beq_eq_false_iff_ne.mpr c123
          have c123b1 : (t344 != 0) = true := bne_iff_ne.mpr c123
          exact absurd (Option.some.inj H) (by rw [HQ_.out]; simp)
        ·rw [if_neg c122] at H
         have c122b0 : (t338 == 0) = false := beq_eq_false_iff_ne.mpr c122
         have c122b1 : (t338 != 0) = true := bne_iff_ne.mpr c122
         exact absurd (Option.some.inj H) (by rw [HQ_.out]; simp)
    ·rw [if_neg c10] at H
     have c10b0 : decide (x8_1 < 30) = false := decide_eq_false c10
     clear c10
     by_cases c146 : x7_1 = true
     ·subst c146
      replace H : (if (x274005_1.length : Int) = 1 then (some (x274003_1 == x5_1)) else (if x274003_1 = (wrap64 ((x4_1.length : Int) - 1)) then ((spec_CellOk.f k1 x274000_1 x274001_1 x274002_1 x274003_1 x274004_1 x274005_1 x274006_1).bind fun t277 => (some t277)) else (some false))) = some r := by rw [if_pos rfl] at H; exact H
      by_cases c147 : (x274005_1.length : Int) = 1
      ·rw [if_pos c147] at H
       have c147b0 : ((x274005_1.length : Int) == 1) = true := beq_iff_eq.mpr c147
       have c147b1 : ((x274005_1.length : Int) != 1) = false := bne_eq_false_iff_eq.mpr c147
       clear c147
       obtain rfl := Option.some.inj H
       obtain ⟨hcz148_0, hcz148_1, hcz148_2, hcz148_3, hcz148_4, hcz148_5, hcz148_6, hfz148_0, hfz148_1, hfz148_2, hfz148_3, hfz148_4, hfz148_5, hfz148_6⟩ := bk7 BK273.out
       obtain ⟨Ao149, co149, eo149⟩ := Kd.R_slice HO_274005.out
       subst eo149
       go_wp2
       go_ret
       exact ⟨rfe, pkW HB.out⟩
      ·rw [if_neg c147] at H
       have c147b0 : ((x274005_1.length : Int) == 1) = false := beq_eq_false_iff_ne.mpr c147
       have c147b1 : ((x274005_1.length : Int) != 1) = true := bne_iff_ne.mpr c147
       by_cases c150 : x274003_1 = (wrap64 ((x4_1.length : Int) - 1))
       ·rw [if_pos c150] at H
        have c150b0 : (x274003_1 == (wrap64 ((x4_1.length : Int) - 1))) = true := beq_iff_eq.mpr c150
        have c150b1 : (x274003_1 != (wrap64 ((x4_1.length : Int) - 1))) = false := bne_eq_false_iff_eq.mpr c150
        clear c150
        replace H := Option.bind_eq_some_iff.mp H
        obtain ⟨t277, A1510, H⟩ := H
        replace H : (some t277) = some r := H
        have A151 := am A1510
        clear A1510
        obtain rfl := Option.some.inj H
        obtain ⟨hcz152_0, hcz152_1, hcz152_2, hcz152_3, hcz152_4, hcz152_5, hcz152_6, hfz152_0, hfz152_1, hfz152_2, hfz152_3, hfz152_4, hfz152_5, hfz152_6⟩ := bk7 BK273.out
        obtain ⟨Ao153, co153, eo153⟩ := Kd.R_slice HO_274005.out
        subst eo153
        obtain ⟨Ao154, co154, eo154⟩ := Kd.R_slice HO_4.out
        subst eo154
        obtain ⟨Ao155, co155, eo155⟩ := Kd.R_slice HO_274006.out
        subst eo155
        go_wp2_with (first | (go_at_call 22; (with_reducible refine (spec_CellOk.calls k1 x274000_1 x274001_1 x274002_1 x274003_1 x274004_1 _ _ x274005_1 _ _ x274006_1 t277 _ ?side1 ?side2 ?side3 ?side4 A151.out).mono ?_); (case side1 => exact pkC (Kd.R_reads' HO_274005.out).2.2); (case side2 => exact (Kd.R_reads' HO_274005.out).2.1); (case side3 => exact pkC (Kd.R_reads' HO_274006.out).2.2); (case side4 => exact (Kd.R_reads' HO_274006.out).2.1); rintro e w156 ⟨rfl, hb⟩; replace HO_4 := rbl HO_4 hb; replace HO_274005 := rbl HO_274005 hb; replace HO_274006 := rbl HO_274006 hb; replace BK273 := bbk BK273 hb; replace HB := bst HB hb; (try clear hb)))
        go_ret
        exact ⟨rfe, pkW HB.out⟩
       ·rw [if_neg c150] at H
        have c150b0 : (x274003_1 == (wrap64 ((x4_1.length : Int) - 1))) = false := beq_eq_false_iff_ne.mpr c150
        have c150b1 : (x274003_1 != (wrap64 ((x4_1.length : Int) - 1))) = true := bne_iff_ne.mpr c150
        exact absurd (Option.some.inj H) (by rw [HQ_.out]; simp)
     ·replace c146 := Bool.eq_false_iff.mpr c146
      subst c146
      replace H : (if x274003_1 = (wrap64 ((x4_1.length : Int) - 1)) then ((spec_CellOk.f k1 x274000_1 x274001_1 x274002_1 x274003_1 x274004_1 x274005_1 x274006_1).bind fun t278 => (some t278)) else (some false)) = some r := by rw [if_neg (show ¬ (false = true) by decide)] at H; exact H
      by_cases c157 : x274003_1 = (wrap64 ((x4_1.length : Int) - 1))
      ·rw [if_pos c157] at H
       have c157b0 : (x274003_1 == (wrap64 ((x4_1.length : Int) - 1))) = true := beq_iff_eq.mpr c157
       have c157b1 : (x274003_1 != (wrap64 ((x4_1.length : Int) - 1))) = false := bne_eq_false_iff_eq.mpr c157
       clear c157
       replace H := Option.bind_eq_some_iff.mp H
       obtain ⟨t278, A1580, H⟩ := H
       replace H : (some t278) = some r := H
       have A158 := am A1580
       clear A1580
       obtain rfl := Option.some.inj H
       obtain ⟨hcz159_0, hcz159_1, hcz159_2, hcz159_3, hcz159_4, hcz159_5, hcz159_6, hfz159_0, hfz159_1, hfz159_2, hfz159_3, hfz159_4, hfz159_5, hfz159_6⟩ := bk7 BK273.out
       obtain ⟨Ao160, co160, eo160⟩ := Kd.R_slice HO_4.out
       subst eo160
       obtain ⟨Ao161, co161, eo161⟩ := Kd.R_slice HO_274005.out
       subst eo161
       obtain ⟨Ao162, co162, eo162⟩ := Kd.R_slice HO_274006.out
       subst eo162
       go_wp2_with (first | (go_at_call 22; (with_reducible refine (spec_CellOk.calls k1 x274000_1 x274001_1 x274002_1 x274003_1 x274004_1 _ _ x274005_1 _ _ x274006_1 t278 _ ?side1 ?side2 ?side3 ?side4 A158.out).mono ?_); (case side1 => exact pkC (Kd.R_reads' HO_274005.out).2.2); (case side2 => exact (Kd.R_reads' HO_274005.out).2.1); (case side3 => exact pkC (Kd.R_reads' HO_274006.out).2.2); (case side4 => exact (Kd.R_reads' HO_274006.out).2.1); rintro e w163 ⟨rfl, hb⟩; replace HO_4 := rbl HO_4 hb; replace HO_274005 := rbl HO_274005 hb; replace HO_274006 := rbl HO_274006 hb; replace BK273 := bbk BK273 hb; replace HB := bst HB hb; (try clear hb)))
       go_ret
       exact ⟨rfe, pkW HB.out⟩
      ·rw [if_neg c157] at H
       have c157b0 : (x274003_1 == (wrap64 ((x4_1.length : Int) - 1))) = false := beq_eq_false_iff_ne.mpr c157
       have c157b1 : (x274003_1 != (wrap64 ((x4_1.length : Int) - 1))) = true := bne_iff_ne.mpr c157
       exact absurd (Option.some.inj H) (by rw [HQ_.out]; simp)
end Go.Proofs.Ytffcphplnilokaa.Z
