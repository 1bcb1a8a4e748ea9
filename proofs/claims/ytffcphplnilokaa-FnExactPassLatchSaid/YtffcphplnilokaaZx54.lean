/- The Go functions laws_FnExactPassLatch as Lean functions, each with a proof that its code comes to just these answers; conditions: those of each theorem. -/
import Derived.Test.YtffcphplnilokaaZx0
import Derived.Test.YtffcphplnilokaaZx20
import Derived.Test.YtffcphplnilokaaZx22
import Derived.Test.YtffcphplnilokaaZx24
import Derived.Test.YtffcphplnilokaaZx28
import Derived.Test.YtffcphplnilokaaZx32
import Derived.Test.YtffcphplnilokaaZx33
import Derived.Test.YtffcphplnilokaaZx38
namespace Go.Proofs.Ytffcphplnilokaa.Z
open Go.RowKit Go.Proofs.YtffcphplnilokaaW.PrintWords Go.Proofs.YtffcphplnilokaaW.PrintLast Go.Proofs.YtffcphplnilokaaW.PrintMore
attribute [local go_sem] max2_int min2_int max_two min_two max_three min_three max_four min_four   -- for this text's walks alone
set_option linter.unusedVariables false
set_option linter.unusedSimpArgs false
mutual
def laws_FnExactPassLatch.j0 : Nat → Int → Int → Int → Bool → Int → List Int → List Int → Int → List Int → List Int → Int → List Int → List Int → Int → List Int → List Int → Option (Bool)
 | 0, _, _, _, _, _, _, _, _, _, _, _, _, _, _, _, _ => none
 | k + 1, x1, x7, x10, x44, x906000, x906001, x906002, x923000, x923001, x923002, x931000, x931001, x931002, x940000, x940001, x940002 => if x44 = true then (some false) else ((laws_toLatch.f k x906000 x906001 x906002).bind fun bt941 => ((laws_eqLatch.f k x931000 x931001 x931002 bt941.1 bt941.2.1 bt941.2.2).bind fun t948 => (if t948 = true then ((laws_markLatch.f k x931000 x931001 x931002 1).bind fun bt949 => (if bt949.1 < 0 then (laws_FnExactPassLatch.j1 k x1 x7 true x906000 x906001 x906002 x923000 x923001 x923002 x940000 x940001 x940002) else ((laws_eqLatch.f k x940000 x940001 x940002 x923000 x923001 x923002).bind fun t952 => (if t952 = true then (laws_FnExactPassLatch.j1 k x1 x7 (x10 != x7) x906000 x906001 x906002 x923000 x923001 x923002 x940000 x940001 x940002) else (laws_FnExactPassLatch.j1 k x1 x7 true x906000 x906001 x906002 x923000 x923001 x923002 x940000 x940001 x940002))))) else (some false))))
def laws_FnExactPassLatch.j1 : Nat → Int → Int → Bool → Int → List Int → List Int → Int → List Int → List Int → Int → List Int → List Int → Option (Bool)
 | 0, _, _, _, _, _, _, _, _, _, _, _, _ => none
 | k + 1, x1, x7, x65, x906000, x906001, x906002, x923000, x923001, x923002, x940000, x940001, x940002 => if x65 = true then (some false) else ((laws_markLatch.f k x940000 x940001 x940002 1).bind fun bt953 => ((laws_heldLatch.f k x940000 bt953.2.1 bt953.2.2 1).bind fun t956 => (if t956 < 0 then (some false) else (if t956 = bt953.1 then ((laws_toLatch.f k x906000 x906001 x906002).bind fun bt957 => ((impl_PassLatch.f k bt957.1 bt957.2.1 bt957.2.2 x1).bind fun bt964 => ((laws_eqLatch.f k bt964.1 bt964.2.1 bt964.2.2.1 x923000 x923001 x923002).bind fun t973 => (if t973 = true then (laws_FnExactPassLatch.j2 k bt953.1 (bt964.2.2.2 != x7) x940000 bt953.2.1 bt953.2.2) else (laws_FnExactPassLatch.j2 k bt953.1 true x940000 bt953.2.1 bt953.2.2))))) else (some false)))))
def laws_FnExactPassLatch.j2 : Nat → Int → Bool → Int → List Int → List Int → Option (Bool)
 | 0, _, _, _, _, _ => none
 | k + 1, x12, x92, x940000, x940001, x940002 => if x92 = true then (some false) else ((laws_heldLatch.f k x940000 x940001 x940002 1).bind fun t974 => (if t974 < 0 then (some false) else (if t974 = x12 then (some true) else (some false))))
end
def laws_FnExactPassLatch.f (k : Nat) (a0_0 : Int) (l0_1 : List Int) (l0_2 : List Int) (a1 : Int) : Option (Bool) := (laws_szLatch.f a0_0 l0_1 l0_2 1048576).bind fun t906 => (if t906 < 0 then (some true) else ((laws_toLatch.f k a0_0 l0_1 l0_2).bind fun bt907 => ((spec_PassLatch.f k bt907.1 bt907.2.1 bt907.2.2 a1).bind fun bt914 => ((laws_toLatch.f k a0_0 l0_1 l0_2).bind fun bt923 => ((impl_PassLatch.f k bt923.1 bt923.2.1 bt923.2.2 a1).bind fun bt931 => ((laws_eqLatch.f k bt931.1 bt931.2.1 bt931.2.2.1 bt914.1 bt914.2.1 bt914.2.2.1).bind fun t940 => (if t940 = true then (laws_FnExactPassLatch.j0 k a1 bt914.2.2.2 bt931.2.2.2 (bt931.2.2.2 != bt914.2.2.2) a0_0 l0_1 l0_2 bt914.1 bt914.2.1 bt914.2.2.1 bt923.1 bt923.2.1 bt923.2.2 bt931.1 bt931.2.1 bt931.2.2.1) else (laws_FnExactPassLatch.j0 k a1 bt914.2.2.2 bt931.2.2.2 true a0_0 l0_1 l0_2 bt914.1 bt914.2.1 bt914.2.2.1 bt923.1 bt923.2.1 bt923.2.2 bt931.1 bt931.2.1 bt931.2.2.1))))))))
theorem laws_FnExactPassLatch.mono_l : ∀ k, (∀ y0 y1 y2 y3 y4 y5 y6 y7 y8 y9 y10 y11 y12 y13 y14 y15, LeO (laws_FnExactPassLatch.j0 k y0 y1 y2 y3 y4 y5 y6 y7 y8 y9 y10 y11 y12 y13 y14 y15) (laws_FnExactPassLatch.j0 (k + 1) y0 y1 y2 y3 y4 y5 y6 y7 y8 y9 y10 y11 y12 y13 y14 y15)) ∧ (∀ y0 y1 y2 y3 y4 y5 y6 y7 y8 y9 y10 y11, LeO (laws_FnExactPassLatch.j1 k y0 y1 y2 y3 y4 y5 y6 y7 y8 y9 y10 y11) (laws_FnExactPassLatch.j1 (k + 1) y0 y1 y2 y3 y4 y5 y6 y7 y8 y9 y10 y11)) ∧ (∀ y0 y1 y2 y3 y4, LeO (laws_FnExactPassLatch.j2 k y0 y1 y2 y3 y4) (laws_FnExactPassLatch.j2 (k + 1) y0 y1 y2 y3 y4))
 | 0 => ⟨fun _ _ _ _ _ _ _ _ _ _ _ _ _ _ _ _ r h => by simp [laws_FnExactPassLatch.j0] at h, fun _ _ _ _ _ _ _ _ _ _ _ _ r h => by simp [laws_FnExactPassLatch.j1] at h, fun _ _ _ _ _ r h => by simp [laws_FnExactPassLatch.j2] at h⟩
 | k + 1 => by
  obtain ⟨ih0, ih1, ih2⟩ := laws_FnExactPassLatch.mono_l k
  refine ⟨?_, ?_, ?_⟩
  ·intro y0 y1 y2 y3 y4 y5 y6 y7 y8 y9 y10 y11 y12 y13 y14 y15
   unfold laws_FnExactPassLatch.j0
   repeat' first
   | (with_reducible exact ih0 _ _ _ _ _ _ _ _ _ _ _ _ _ _ _ _)
   | (with_reducible exact ih1 _ _ _ _ _ _ _ _ _ _ _ _)
   | (with_reducible exact ih2 _ _ _ _ _)
   | (with_reducible exact impl_PassLatch.mono _ _ _ _ _)
   | (with_reducible exact laws_eqLatch.mono _ _ _ _ _ _ _)
   | (with_reducible exact laws_heldLatch.mono _ _ _ _ _)
   | (with_reducible exact laws_markLatch.mono _ _ _ _ _)
   | (with_reducible exact laws_toLatch.mono _ _ _ _)
   | (with_reducible exact spec_PassLatch.mono _ _ _ _ _)
   | (with_reducible exact LeO.refl _)
   | (with_reducible exact LeO.none _)
   | (with_reducible refine LeO.ite ?_ ?_)
   | (with_reducible refine LeO.bind ?_ (fun _ => ?_))
  ·intro y0 y1 y2 y3 y4 y5 y6 y7 y8 y9 y10 y11
   unfold laws_FnExactPassLatch.j1
   repeat' first
   | (with_reducible exact ih0 _ _ _ _ _ _ _ _ _ _ _ _ _ _ _ _)
   | (with_reducible exact ih1 _ _ _ _ _ _ _ _ _ _ _ _)
   | (with_reducible exact ih2 _ _ _ _ _)
   | (with_reducible exact impl_PassLatch.mono _ _ _ _ _)
   | (with_reducible exact laws_eqLatch.mono _ _ _ _ _ _ _)
   | (with_reducible exact laws_heldLatch.mono _ _ _ _ _)
   | (with_reducible exact laws_markLatch.mono _ _ _ _ _)
   | (with_reducible exact laws_toLatch.mono _ _ _ _)
   | (with_reducible exact spec_PassLatch.mono _ _ _ _ _)
   | (with_reducible exact LeO.refl _)
   | (with_reducible exact LeO.none _)
   | (with_reducible refine LeO.ite ?_ ?_)
   | (with_reducible refine LeO.bind ?_ (fun _ => ?_))
  ·intro y0 y1 y2 y3 y4
   unfold laws_FnExactPassLatch.j2
   repeat' first
   | (with_reducible exact ih0 _ _ _ _ _ _ _ _ _ _ _ _ _ _ _ _)
   | (with_reducible exact ih1 _ _ _ _ _ _ _ _ _ _ _ _)
   | (with_reducible exact ih2 _ _ _ _ _)
   | (with_reducible exact impl_PassLatch.mono _ _ _ _ _)
   | (with_reducible exact laws_eqLatch.mono _ _ _ _ _ _ _)
   | (with_reducible exact laws_heldLatch.mono _ _ _ _ _)
   | (with_reducible exact laws_markLatch.mono _ _ _ _ _)
   | (with_reducible exact laws_toLatch.mono _ _ _ _)
   | (with_reducible exact spec_PassLatch.mono _ _ _ _ _)
   | (with_reducible exact LeO.refl _)
   | (with_reducible exact LeO.none _)
   | (with_reducible refine LeO.ite ?_ ?_)
   | (with_reducible refine LeO.bind ?_ (fun _ => ?_))
theorem laws_FnExactPassLatch.mono : ∀ a0 a1 a2 a3 k, LeO (laws_FnExactPassLatch.f k a0 a1 a2 a3) (laws_FnExactPassLatch.f (k + 1) a0 a1 a2 a3) := by
 intro a0 a1 a2 a3 k
 obtain ⟨ih0, ih1, ih2⟩ := laws_FnExactPassLatch.mono_l k
 unfold laws_FnExactPassLatch.f
 repeat' first
   | (with_reducible exact ih0 _ _ _ _ _ _ _ _ _ _ _ _ _ _ _ _)
   | (with_reducible exact ih1 _ _ _ _ _ _ _ _ _ _ _ _)
   | (with_reducible exact ih2 _ _ _ _ _)
   | (with_reducible exact impl_PassLatch.mono _ _ _ _ _)
   | (with_reducible exact laws_eqLatch.mono _ _ _ _ _ _ _)
   | (with_reducible exact laws_heldLatch.mono _ _ _ _ _)
   | (with_reducible exact laws_markLatch.mono _ _ _ _ _)
   | (with_reducible exact laws_toLatch.mono _ _ _ _)
   | (with_reducible exact spec_PassLatch.mono _ _ _ _ _)
   | (with_reducible exact LeO.refl _)
   | (with_reducible exact LeO.none _)
   | (with_reducible refine LeO.ite ?_ ?_)
   | (with_reducible refine LeO.bind ?_ (fun _ => ?_))
set_option maxHeartbeats 8000000 in
set_option maxRecDepth 100000 in
theorem laws_FnExactPassLatch.calls (k : Nat) (a0_0 : Int) (A0_1 : Option Addr) (c0_1 : Nat) (l0_1 : List Int) (A0_2 : Option Addr) (c0_2 : Nat) (l0_2 : List Int) (a1 : Int) (r : Bool) (w : World) (hr0_1 : Kd.C (Kd.int .i64) w A0_1 l0_1.length l0_1) (hc0_1 : l0_1.length ≤ c0_1) (hr0_2 : Kd.C (Kd.int .i64) w A0_2 l0_2.length l0_2) (hc0_2 : l0_2.length ≤ c0_2) (HQ_ : Aside0 (r = true)) (h : laws_FnExactPassLatch.f k a0_0 l0_1 l0_2 a1 = some r) :
  Calls Try.prog 10 #[.agg #[.int .i64 a0_0, .slice A0_1 l0_1.length c0_1, .slice A0_2 l0_2.length c0_2], .int .i64 a1] w fun e w' => e = .returned (.bool r) ∧ Below w.heap.size w w' := by
 have hu43 := Try.underlying43
 have hu46 := Try.underlying46
 have HR0_1 := am hr0_1
 have HC0_1 := am hc0_1
 clear hr0_1 hc0_1
 have HR0_2 := am hr0_2
 have HC0_2 := am hc0_2
 clear hr0_2 hc0_2
 have HB := am (Below.refl w.heap.size w)
 have H : ((laws_szLatch.f a0_0 l0_1 l0_2 1048576).bind fun t906 => (if t906 < 0 then (some true) else ((laws_toLatch.f k a0_0 l0_1 l0_2).bind fun bt907 => ((spec_PassLatch.f k bt907.1 bt907.2.1 bt907.2.2 a1).bind fun bt914 => ((laws_toLatch.f k a0_0 l0_1 l0_2).bind fun bt923 => ((impl_PassLatch.f k bt923.1 bt923.2.1 bt923.2.2 a1).bind fun bt931 => ((laws_eqLatch.f k bt931.1 bt931.2.1 bt931.2.2.1 bt914.1 bt914.2.1 bt914.2.2.1).bind fun t940 => (if t940 = true then (laws_FnExactPassLatch.j0 k a1 bt914.2.2.2 bt931.2.2.2 (bt931.2.2.2 != bt914.2.2.2) a0_0 l0_1 l0_2 bt914.1 bt914.2.1 bt914.2.2.1 bt923.1 bt923.2.1 bt923.2.2 bt931.1 bt931.2.1 bt931.2.2.1) else (laws_FnExactPassLatch.j0 k a1 bt914.2.2.2 bt931.2.2.2 true a0_0 l0_1 l0_2 bt914.1 bt914.2.1 bt914.2.2.1 bt923.1 bt923.2.1 bt923.2.2 bt931.1 bt931.2.1 bt931.2.2.1))))))))) = some r := h
 clear h
 replace H := Option.bind_eq_some_iff.mp H
 obtain ⟨t906, A30, H⟩ := H
 replace H : (if t906 < 0 then (some true) else ((laws_toLatch.f k a0_0 l0_1 l0_2).bind fun bt907 => ((spec_PassLatch.f k bt907.1 bt907.2.1 bt907.2.2 a1).bind fun bt914 => ((laws_toLatch.f k a0_0 l0_1 l0_2).bind fun bt923 => ((impl_PassLatch.f k bt923.1 bt923.2.1 bt923.2.2 a1).bind fun bt931 => ((laws_eqLatch.f k bt931.1 bt931.2.1 bt931.2.2.1 bt914.1 bt914.2.1 bt914.2.2.1).bind fun t940 => (if t940 = true then (laws_FnExactPassLatch.j0 k a1 bt914.2.2.2 bt931.2.2.2 (bt931.2.2.2 != bt914.2.2.2) a0_0 l0_1 l0_2 bt914.1 bt914.2.1 bt914.2.2.1 bt923.1 bt923.2.1 bt923.2.2 bt931.1 bt931.2.1 bt931.2.2.1) else (laws_FnExactPassLatch.j0 k a1 bt914.2.2.2 bt931.2.2.2 true a0_0 l0_1 l0_2 bt914.1 bt914.2.1 bt914.2.2.1 bt923.1 bt923.2.1 bt923.2.2 bt931.1 bt931.2.1 bt931.2.2.1)))))))) = some r := H
 have A3 := am A30
 clear A30
 by_cases c4 : t906 < 0
 ·rw [if_pos c4] at H
  have c4b0 : decide (t906 < 0) = true := decide_eq_true c4
  clear c4
  obtain rfl := Option.some.inj H
  go_enter Try.func10, Try.ntmps10
  go_wp2_with (first | ((with_reducible refine gate_dst (N := 2) rfl ?_); refine box_event ?hg (N := 2) ?hd (cs := #[.int .i64 a0_0, .slice A0_1 l0_1.length c0_1, .slice A0_2 l0_2.length c0_2]) (t := 43) ?hr ?_; (case hd => rfl); (case hg => rfl); (case hr => first | (go_simp; done) | (go_simp; rfl)); intro gb905 hg w5 hbox hb; have BK905 := am (hbox); have GW905 := am ((by rw [hg]; exact (below_size (pkB HB.out)) : w.heap.size ≤ gb905)); have GE905 := am ((by rw [hg]; exact (below_size (pkB HB.out)) : w.heap.size ≤ gb905)); replace HB := am (below_step (pkB HB.out) hb); clear hb hbox hg; obtain ⟨hcz6_0, hcz6_1, hcz6_2, hfz6_0, hfz6_1, hfz6_2⟩ := bk3 BK905.out) | ((with_reducible refine gate_callee (f := 23) rfl ?_); refine goesL_ (some 18) rfl rfl Try.func23 (by kernel_rfl) rfl #[.agg #[.int .i64 a0_0, .slice A0_1 l0_1.length c0_1, .slice A0_2 l0_2.length c0_2], .int .i64 1048576] rfl mpx ?_; (with_reducible refine (laws_szLatch.calls a0_0 _ _ l0_1 _ _ l0_2 1048576 t906 _ ?side1 ?side2 ?side3 ?side4 A3.out).mono ?_); (case side1 => exact pkC (Kd.C_below HR0_1.out HB.out)); (case side2 => exact HC0_1.out); (case side3 => exact pkC (Kd.C_below HR0_2.out HB.out)); (case side4 => exact HC0_2.out); rintro e w7 ⟨rfl, hb⟩; refine ⟨_, rfl, ?_⟩; replace BK905 := am (blk_below (pkK BK905.out) hb); replace HB := am (below_step (pkW HB.out) hb); (try clear hb)))
  go_ret
  exact ⟨rfe, pkW HB.out⟩
 ·rw [if_neg c4] at H
  have c4b0 : decide (t906 < 0) = false := decide_eq_false c4
  clear c4
  replace H := Option.bind_eq_some_iff.mp H
  obtain ⟨⟨t907, t908, t911⟩, A80, H⟩ := H
  replace H : ((spec_PassLatch.f k t907 t908 t911 a1).bind fun bt914 => ((laws_toLatch.f k a0_0 l0_1 l0_2).bind fun bt923 => ((impl_PassLatch.f k bt923.1 bt923.2.1 bt923.2.2 a1).bind fun bt931 => ((laws_eqLatch.f k bt931.1 bt931.2.1 bt931.2.2.1 bt914.1 bt914.2.1 bt914.2.2.1).bind fun t940 => (if t940 = true then (laws_FnExactPassLatch.j0 k a1 bt914.2.2.2 bt931.2.2.2 (bt931.2.2.2 != bt914.2.2.2) a0_0 l0_1 l0_2 bt914.1 bt914.2.1 bt914.2.2.1 bt923.1 bt923.2.1 bt923.2.2 bt931.1 bt931.2.1 bt931.2.2.1) else (laws_FnExactPassLatch.j0 k a1 bt914.2.2.2 bt931.2.2.2 true a0_0 l0_1 l0_2 bt914.1 bt914.2.1 bt914.2.2.1 bt923.1 bt923.2.1 bt923.2.2 bt931.1 bt931.2.1 bt931.2.2.1)))))) = some r := H
  have A8 := am A80
  clear A80
  replace H := Option.bind_eq_some_iff.mp H
  obtain ⟨⟨t914, t915, t918, t921⟩, A90, H⟩ := H
  replace H : ((laws_toLatch.f k a0_0 l0_1 l0_2).bind fun bt923 => ((impl_PassLatch.f k bt923.1 bt923.2.1 bt923.2.2 a1).bind fun bt931 => ((laws_eqLatch.f k bt931.1 bt931.2.1 bt931.2.2.1 t914 t915 t918).bind fun t940 => (if t940 = true then (laws_FnExactPassLatch.j0 k a1 t921 bt931.2.2.2 (bt931.2.2.2 != t921) a0_0 l0_1 l0_2 t914 t915 t918 bt923.1 bt923.2.1 bt923.2.2 bt931.1 bt931.2.1 bt931.2.2.1) else (laws_FnExactPassLatch.j0 k a1 t921 bt931.2.2.2 true a0_0 l0_1 l0_2 t914 t915 t918 bt923.1 bt923.2.1 bt923.2.2 bt931.1 bt931.2.1 bt931.2.2.1))))) = some r := H
  have A9 := am A90
  clear A90
  replace H := Option.bind_eq_some_iff.mp H
  obtain ⟨⟨t923, t924, t927⟩, A100, H⟩ := H
  replace H : ((impl_PassLatch.f k t923 t924 t927 a1).bind fun bt931 => ((laws_eqLatch.f k bt931.1 bt931.2.1 bt931.2.2.1 t914 t915 t918).bind fun t940 => (if t940 = true then (laws_FnExactPassLatch.j0 k a1 t921 bt931.2.2.2 (bt931.2.2.2 != t921) a0_0 l0_1 l0_2 t914 t915 t918 t923 t924 t927 bt931.1 bt931.2.1 bt931.2.2.1) else (laws_FnExactPassLatch.j0 k a1 t921 bt931.2.2.2 true a0_0 l0_1 l0_2 t914 t915 t918 t923 t924 t927 bt931.1 bt931.2.1 bt931.2.2.1)))) = some r := H
  have A10 := am A100
  clear A100
  replace H := Option.bind_eq_some_iff.mp H
  obtain ⟨⟨t931, t932, t935, t938⟩, A110, H⟩ := H
  replace H : ((laws_eqLatch.f k t931 t932 t935 t914 t915 t918).bind fun t940 => (if t940 = true then (laws_FnExactPassLatch.j0 k a1 t921 t938 (t938 != t921) a0_0 l0_1 l0_2 t914 t915 t918 t923 t924 t927 t931 t932 t935) else (laws_FnExactPassLatch.j0 k a1 t921 t938 true a0_0 l0_1 l0_2 t914 t915 t918 t923 t924 t927 t931 t932 t935))) = some r := H
  have A11 := am A110
  clear A110
  have HC12 := am H
  clear H
  go_enter Try.func10, Try.ntmps10
  go_upto_region 8 with (first | ((with_reducible refine gate_dst (N := 2) rfl ?_); refine box_event ?hg (N := 2) ?hd (cs := #[.int .i64 a0_0, .slice A0_1 l0_1.length c0_1, .slice A0_2 l0_2.length c0_2]) (t := 43) ?hr ?_; (case hd => rfl); (case hg => rfl); (case hr => first | (go_simp; done) | (go_simp; rfl)); intro gb905 hg w13 hbox hb; have BK905 := am (hbox); have GW905 := am ((by rw [hg]; exact (below_size (pkB HB.out)) : w.heap.size ≤ gb905)); have GE905 := am ((by rw [hg]; exact (below_size (pkB HB.out)) : w.heap.size ≤ gb905)); replace HB := am (below_step (pkB HB.out) hb); clear hb hbox hg; obtain ⟨hcz14_0, hcz14_1, hcz14_2, hfz14_0, hfz14_1, hfz14_2⟩ := bk3 BK905.out) | ((with_reducible refine gate_callee (f := 23) rfl ?_); refine goesL_ (some 18) rfl rfl Try.func23 (by kernel_rfl) rfl #[.agg #[.int .i64 a0_0, .slice A0_1 l0_1.length c0_1, .slice A0_2 l0_2.length c0_2], .int .i64 1048576] rfl mpx ?_; (with_reducible refine (laws_szLatch.calls a0_0 _ _ l0_1 _ _ l0_2 1048576 t906 _ ?side1 ?side2 ?side3 ?side4 A3.out).mono ?_); (case side1 => exact pkC (Kd.C_below HR0_1.out HB.out)); (case side2 => exact HC0_1.out); (case side3 => exact pkC (Kd.C_below HR0_2.out HB.out)); (case side4 => exact HC0_2.out); rintro e w15 ⟨rfl, hb⟩; refine ⟨_, rfl, ?_⟩; replace BK905 := am (blk_below (pkK BK905.out) hb); replace HB := am (below_step (pkW HB.out) hb); (try clear hb); obtain ⟨hcz16_0, hcz16_1, hcz16_2, hfz16_0, hfz16_1, hfz16_2⟩ := bk3 BK905.out) | ((with_reducible refine gate_callee (f := 25) rfl ?_); refine goesL_ (some 23) rfl rfl Try.func25 (by kernel_rfl) rfl #[.agg #[.int .i64 a0_0, .slice A0_1 l0_1.length c0_1, .slice A0_2 l0_2.length c0_2]] rfl mpx ?_; (with_reducible refine (laws_toLatch.calls k a0_0 _ _ l0_1 _ _ l0_2 t907 t908 t911 _ ?side1 ?side2 ?side3 ?side4 A8.out).mono ?_); (case side1 => exact pkC (Kd.C_below HR0_1.out HB.out)); (case side2 => exact HC0_1.out); (case side3 => exact pkC (Kd.C_below HR0_2.out HB.out)); (case side4 => exact HC0_2.out); rintro e w17 ⟨v909, v912, rfl, ho0, ho1, hb⟩; refine ⟨_, rfl, ?_⟩; have HO910 := am (Kd.R_lower ho0 (below_size (pkW HB.out))); have HO913 := am (Kd.R_lower ho1 (below_size (pkW HB.out))); replace BK905 := am (blk_below (pkK BK905.out) hb); replace HB := am (below_step (pkW HB.out) hb); (try clear hb ho0 ho1); obtain ⟨Ao18, co18, eo18⟩ := Kd.R_slice HO910.out; subst eo18; obtain ⟨Ao19, co19, eo19⟩ := Kd.R_slice HO913.out; subst eo19) | ((with_reducible refine gate_callee (f := 42) rfl ?_); refine goesL_ (some 25) rfl rfl Try.func42 (by kernel_rfl) rfl #[.agg #[.int .i64 t907, .slice Ao18 t908.length co18, .slice Ao19 t911.length co19], .int .i64 a1] rfl mpx ?_; (with_reducible refine (spec_PassLatch.calls k t907 _ _ t908 _ _ t911 a1 t914 t915 t918 t921 _ ?side1 ?side2 ?side3 ?side4 A9.out).mono ?_); (case side1 => exact pkC (Kd.R_reads' HO910.out).2.2); (case side2 => exact (Kd.R_reads' HO910.out).2.1); (case side3 => exact pkC (Kd.R_reads' HO913.out).2.2); (case side4 => exact (Kd.R_reads' HO913.out).2.1); rintro e w20 ⟨v916, v919, rfl, ho0, ho1, hb⟩; refine ⟨_, rfl, ?_⟩; have HO917 := am (Kd.R_lower (Kd.R_new' (Kd.R_new' ho0 (Kd.R_lt (pkR HO910.out))) (Kd.R_lt (pkR HO913.out))) (below_size (pkW HB.out))); have HO920 := am (Kd.R_lower (Kd.R_new' (Kd.R_new' ho1 (Kd.R_lt (pkR HO910.out))) (Kd.R_lt (pkR HO913.out))) (below_size (pkW HB.out))); replace HO910 := am (Kd.R_mono (Kd.R_told (Kd.R_told (Kd.R_old (pkR HO910.out) hb) (Kd.R_base ho0)) (Kd.R_base ho1)) (fun _ h_ => h_.1)); replace HO913 := am (Kd.R_mono (Kd.R_told (Kd.R_told (Kd.R_old (pkR HO913.out) hb) (Kd.R_base ho0)) (Kd.R_base ho1)) (fun _ h_ => h_.1)); replace BK905 := am (blk_below (pkK BK905.out) hb); replace HB := am (below_step (pkW HB.out) hb); (try clear hb ho0 ho1)) | ((with_reducible refine gate_dst (N := 6) rfl ?_); refine box_event ?hg (N := 6) ?hd (cs := #[.int .i64 0, .slice none 0 0, .slice none 0 0]) (t := 46) ?hr ?_; (case hd => rfl); (case hg => rfl); (case hr => first | (go_simp; done) | (go_simp; rfl)); intro gb922 hg w21 hbox hb; replace HO910 := am (Kd.R_below (pkR HO910.out) hb); replace HO913 := am (Kd.R_below (pkR HO913.out) hb); replace HO917 := am (Kd.R_below (pkR HO917.out) hb); replace HO920 := am (Kd.R_below (pkR HO920.out) hb); have BK922 := am (hbox); have GW922 := am ((by rw [hg]; exact (below_size (pkW HB.out)) : w.heap.size ≤ gb922)); have GE922 := am ((by rw [hg]; exact (below_size (pkW HB.out)) : w.heap.size ≤ gb922)); replace HB := am (below_step (pkW HB.out) hb); have NB905_922 := am ((by rw [hg]; exact Nat.ne_of_lt (blk_lt (g := gb905) (o := .cells #[.int .i64 a0_0, .slice A0_1 l0_1.length c0_1, .slice A0_2 l0_2.length c0_2] 43 (0, 0)) (pkK BK905.out)) : gb905 ≠ gb922)); have NB922_905 := am ((by rw [hg]; exact Nat.ne_of_gt (blk_lt (g := gb905) (o := .cells #[.int .i64 a0_0, .slice A0_1 l0_1.length c0_1, .slice A0_2 l0_2.length c0_2] 43 (0, 0)) (pkK BK905.out)) : gb922 ≠ gb905)); replace BK905 := am (blk_below (pkK BK905.out) hb); clear hb hbox hg; have hnb22 := NB922_905.out; have hnc22 := NB905_922.out; obtain ⟨hcz23_0, hcz23_1, hcz23_2, hfz23_0, hfz23_1, hfz23_2⟩ := bk3 BK922.out; obtain ⟨Ao24, co24, eo24⟩ := Kd.R_slice HO917.out; subst eo24; obtain ⟨Ao25, co25, eo25⟩ := Kd.R_slice HO920.out; subst eo25; obtain ⟨hcz26_0, hcz26_1, hcz26_2, hfz26_0, hfz26_1, hfz26_2⟩ := bk3 BK905.out) | ((with_reducible refine gate_callee (f := 25) rfl ?_); refine goesL_ (some 29) rfl rfl Try.func25 (by kernel_rfl) rfl #[.agg #[.int .i64 a0_0, .slice A0_1 l0_1.length c0_1, .slice A0_2 l0_2.length c0_2]] rfl mpx ?_; (with_reducible refine (laws_toLatch.calls k a0_0 _ _ l0_1 _ _ l0_2 t923 t924 t927 _ ?side1 ?side2 ?side3 ?side4 A10.out).mono ?_); (case side1 => exact Kd.C_below HR0_1.out (pkW HB.out)); (case side2 => exact HC0_1.out); (case side3 => exact Kd.C_below HR0_2.out (pkW HB.out)); (case side4 => exact HC0_2.out); rintro e w27 ⟨v925, v928, rfl, ho0, ho1, hb⟩; refine ⟨_, rfl, ?_⟩; have HO926 := am (Kd.R_lower (Kd.R_new' (Kd.R_new' (Kd.R_new' (Kd.R_new' ho0 (Kd.R_lt (by (with_reducible repeat (first | apply Kd.R_alloc | apply Kd.R_drewN | apply Kd.R_drew)); exact (Kd.R_mono (Kd.R_far (p := ⟨gb922, 2, none⟩) (Kd.R_far (p := ⟨gb922, 1, none⟩) (Kd.R_far (p := ⟨gb922, 0, none⟩) (Kd.R_types HO910.out BK922.out (by decide)) (fun _ hk => hk.2) (.int .i64 t914)) (fun _ hk => hk.2) (.slice Ao24 t915.length co24)) (fun _ hk => hk.2) (.slice Ao25 t918.length co25)) (fun _ h_ => h_.1))))) (Kd.R_lt (by (with_reducible repeat (first | apply Kd.R_alloc | apply Kd.R_drewN | apply Kd.R_drew)); exact (Kd.R_mono (Kd.R_far (p := ⟨gb922, 2, none⟩) (Kd.R_far (p := ⟨gb922, 1, none⟩) (Kd.R_far (p := ⟨gb922, 0, none⟩) (Kd.R_types HO913.out BK922.out (by decide)) (fun _ hk => hk.2) (.int .i64 t914)) (fun _ hk => hk.2) (.slice Ao24 t915.length co24)) (fun _ hk => hk.2) (.slice Ao25 t918.length co25)) (fun _ h_ => h_.1))))) (Kd.R_lt (by (with_reducible repeat (first | apply Kd.R_alloc | apply Kd.R_drewN | apply Kd.R_drew)); exact (Kd.R_mono (Kd.R_far (p := ⟨gb922, 2, none⟩) (Kd.R_far (p := ⟨gb922, 1, none⟩) (Kd.R_far (p := ⟨gb922, 0, none⟩) (Kd.R_types HO917.out BK922.out (by decide)) (fun _ hk => hk.2) (.int .i64 t914)) (fun _ hk => hk.2) (.slice Ao24 t915.length co24)) (fun _ hk => hk.2) (.slice Ao25 t918.length co25)) (fun _ h_ => h_.1))))) (Kd.R_lt (by (with_reducible repeat (first | apply Kd.R_alloc | apply Kd.R_drewN | apply Kd.R_drew)); exact (Kd.R_mono (Kd.R_far (p := ⟨gb922, 2, none⟩) (Kd.R_far (p := ⟨gb922, 1, none⟩) (Kd.R_far (p := ⟨gb922, 0, none⟩) (Kd.R_types HO920.out BK922.out (by decide)) (fun _ hk => hk.2) (.int .i64 t914)) (fun _ hk => hk.2) (.slice Ao24 t915.length co24)) (fun _ hk => hk.2) (.slice Ao25 t918.length co25)) (fun _ h_ => h_.1))))) (below_size (pkW HB.out))); have HO929 := am (Kd.R_lower (Kd.R_new' (Kd.R_new' (Kd.R_new' (Kd.R_new' ho1 (Kd.R_lt (by (with_reducible repeat (first | apply Kd.R_alloc | apply Kd.R_drewN | apply Kd.R_drew)); exact (Kd.R_mono (Kd.R_far (p := ⟨gb922, 2, none⟩) (Kd.R_far (p := ⟨gb922, 1, none⟩) (Kd.R_far (p := ⟨gb922, 0, none⟩) (Kd.R_types HO910.out BK922.out (by decide)) (fun _ hk => hk.2) (.int .i64 t914)) (fun _ hk => hk.2) (.slice Ao24 t915.length co24)) (fun _ hk => hk.2) (.slice Ao25 t918.length co25)) (fun _ h_ => h_.1))))) (Kd.R_lt (by (with_reducible repeat (first | apply Kd.R_alloc | apply Kd.R_drewN | apply Kd.R_drew)); exact (Kd.R_mono (Kd.R_far (p := ⟨gb922, 2, none⟩) (Kd.R_far (p := ⟨gb922, 1, none⟩) (Kd.R_far (p := ⟨gb922, 0, none⟩) (Kd.R_types HO913.out BK922.out (by decide)) (fun _ hk => hk.2) (.int .i64 t914)) (fun _ hk => hk.2) (.slice Ao24 t915.length co24)) (fun _ hk => hk.2) (.slice Ao25 t918.length co25)) (fun _ h_ => h_.1))))) (Kd.R_lt (by (with_reducible repeat (first | apply Kd.R_alloc | apply Kd.R_drewN | apply Kd.R_drew)); exact (Kd.R_mono (Kd.R_far (p := ⟨gb922, 2, none⟩) (Kd.R_far (p := ⟨gb922, 1, none⟩) (Kd.R_far (p := ⟨gb922, 0, none⟩) (Kd.R_types HO917.out BK922.out (by decide)) (fun _ hk => hk.2) (.int .i64 t914)) (fun _ hk => hk.2) (.slice Ao24 t915.length co24)) (fun _ hk => hk.2) (.slice Ao25 t918.length co25)) (fun _ h_ => h_.1))))) (Kd.R_lt (by (with_reducible repeat (first | apply Kd.R_alloc | apply Kd.R_drewN | apply Kd.R_drew)); exact (Kd.R_mono (Kd.R_far (p := ⟨gb922, 2, none⟩) (Kd.R_far (p := ⟨gb922, 1, none⟩) (Kd.R_far (p := ⟨gb922, 0, none⟩) (Kd.R_types HO920.out BK922.out (by decide)) (fun _ hk => hk.2) (.int .i64 t914)) (fun _ hk => hk.2) (.slice Ao24 t915.length co24)) (fun _ hk => hk.2) (.slice Ao25 t918.length co25)) (fun _ h_ => h_.1))))) (below_size (pkW HB.out))); replace HO910 := am (Kd.R_mono (Kd.R_told (Kd.R_told (Kd.R_old (by (with_reducible repeat (first | apply Kd.R_alloc | apply Kd.R_drewN | apply Kd.R_drew)); exact (Kd.R_mono (Kd.R_far (p := ⟨gb922, 2, none⟩) (Kd.R_far (p := ⟨gb922, 1, none⟩) (Kd.R_far (p := ⟨gb922, 0, none⟩) (Kd.R_types HO910.out BK922.out (by decide)) (fun _ hk => hk.2) (.int .i64 t914)) (fun _ hk => hk.2) (.slice Ao24 t915.length co24)) (fun _ hk => hk.2) (.slice Ao25 t918.length co25)) (fun _ h_ => h_.1))) hb) (Kd.R_base ho0)) (Kd.R_base ho1)) (fun _ h_ => h_.1)); replace HO913 := am (Kd.R_mono (Kd.R_told (Kd.R_told (Kd.R_old (by (with_reducible repeat (first | apply Kd.R_alloc | apply Kd.R_drewN | apply Kd.R_drew)); exact (Kd.R_mono (Kd.R_far (p := ⟨gb922, 2, none⟩) (Kd.R_far (p := ⟨gb922, 1, none⟩) (Kd.R_far (p := ⟨gb922, 0, none⟩) (Kd.R_types HO913.out BK922.out (by decide)) (fun _ hk => hk.2) (.int .i64 t914)) (fun _ hk => hk.2) (.slice Ao24 t915.length co24)) (fun _ hk => hk.2) (.slice Ao25 t918.length co25)) (fun _ h_ => h_.1))) hb) (Kd.R_base ho0)) (Kd.R_base ho1)) (fun _ h_ => h_.1)); replace HO917 := am (Kd.R_mono (Kd.R_told (Kd.R_told (Kd.R_old (by (with_reducible repeat (first | apply Kd.R_alloc | apply Kd.R_drewN | apply Kd.R_drew)); exact (Kd.R_mono (Kd.R_far (p := ⟨gb922, 2, none⟩) (Kd.R_far (p := ⟨gb922, 1, none⟩) (Kd.R_far (p := ⟨gb922, 0, none⟩) (Kd.R_types HO917.out BK922.out (by decide)) (fun _ hk => hk.2) (.int .i64 t914)) (fun _ hk => hk.2) (.slice Ao24 t915.length co24)) (fun _ hk => hk.2) (.slice Ao25 t918.length co25)) (fun _ h_ => h_.1))) hb) (Kd.R_base ho0)) (Kd.R_base ho1)) (fun _ h_ => h_.1)); replace HO920 := am (Kd.R_mono (Kd.R_told (Kd.R_told (Kd.R_old (by (with_reducible repeat (first | apply Kd.R_alloc | apply Kd.R_drewN | apply Kd.R_drew)); exact (Kd.R_mono (Kd.R_far (p := ⟨gb922, 2, none⟩) (Kd.R_far (p := ⟨gb922, 1, none⟩) (Kd.R_far (p := ⟨gb922, 0, none⟩) (Kd.R_types HO920.out BK922.out (by decide)) (fun _ hk => hk.2) (.int .i64 t914)) (fun _ hk => hk.2) (.slice Ao24 t915.length co24)) (fun _ hk => hk.2) (.slice Ao25 t918.length co25)) (fun _ h_ => h_.1))) hb) (Kd.R_base ho0)) (Kd.R_base ho1)) (fun _ h_ => h_.1)); replace BK905 := am (blk_below (g := gb905) (o := .cells #[.int .i64 a0_0, .slice A0_1 l0_1.length c0_1, .slice A0_2 l0_2.length c0_2] 43 (0, 0)) (by (with_reducible repeat (first | refine blk_drewN ?_ _ | refine blk_drew ?_ | refine blk_alloc ?_ _)); refine blk_far ?_ NB905_922.out _; (with_reducible repeat (first | refine blk_drewN ?_ _ | refine blk_drew ?_ | refine blk_alloc ?_ _)); refine blk_far ?_ NB905_922.out _; (with_reducible repeat (first | refine blk_drewN ?_ _ | refine blk_drew ?_ | refine blk_alloc ?_ _)); refine blk_far ?_ NB905_922.out _; exact pkK BK905.out) hb); replace BK922 := am (blk_below (g := gb922) (o := .cells #[.int .i64 t914, .slice Ao24 t915.length co24, .slice Ao25 t918.length co25] 46 (0, 0)) (by (with_reducible repeat (first | refine blk_drewN ?_ _ | refine blk_drew ?_ | refine blk_alloc ?_ _)); refine blk_put (cs := #[.int .i64 t914, .slice Ao24 t915.length co24, .slice none 0 0]) ?_ 2 _ rfl; (with_reducible repeat (first | refine blk_drewN ?_ _ | refine blk_drew ?_ | refine blk_alloc ?_ _)); refine blk_put (cs := #[.int .i64 t914, .slice none 0 0, .slice none 0 0]) ?_ 1 _ rfl; (with_reducible repeat (first | refine blk_drewN ?_ _ | refine blk_drew ?_ | refine blk_alloc ?_ _)); refine blk_put (cs := #[.int .i64 0, .slice none 0 0, .slice none 0 0]) ?_ 0 _ rfl; exact pkK BK922.out) hb); replace HB := am (below_step (pkW HB.out) hb); (try clear hb ho0 ho1)) | ((with_reducible refine gate_dst (N := 8) rfl ?_); refine box_event ?hg (N := 8) ?hd (cs := #[.int .i64 0, .slice none 0 0, .slice none 0 0]) (t := 46) ?hr ?_; (case hd => rfl); (case hg => rfl); (case hr => first | (go_simp; done) | (go_simp; rfl)); intro gb930 hg w28 hbox hb; replace HO910 := am (Kd.R_below (pkR HO910.out) hb); replace HO913 := am (Kd.R_below (pkR HO913.out) hb); replace HO917 := am (Kd.R_below (pkR HO917.out) hb); replace HO920 := am (Kd.R_below (pkR HO920.out) hb); replace HO926 := am (Kd.R_below (pkR HO926.out) hb); replace HO929 := am (Kd.R_below (pkR HO929.out) hb); have BK930 := am (hbox); have GW930 := am ((by rw [hg]; exact (below_size (pkW HB.out)) : w.heap.size ≤ gb930)); have GE930 := am ((by rw [hg]; exact (below_size (pkW HB.out)) : w.heap.size ≤ gb930)); replace HB := am (below_step (pkW HB.out) hb); have NB905_930 := am ((by rw [hg]; exact Nat.ne_of_lt (blk_lt (g := gb905) (o := .cells #[.int .i64 a0_0, .slice A0_1 l0_1.length c0_1, .slice A0_2 l0_2.length c0_2] 43 (0, 0)) (pkK BK905.out)) : gb905 ≠ gb930)); have NB930_905 := am ((by rw [hg]; exact Nat.ne_of_gt (blk_lt (g := gb905) (o := .cells #[.int .i64 a0_0, .slice A0_1 l0_1.length c0_1, .slice A0_2 l0_2.length c0_2] 43 (0, 0)) (pkK BK905.out)) : gb930 ≠ gb905)); replace BK905 := am (blk_below (pkK BK905.out) hb); have NB922_930 := am ((by rw [hg]; exact Nat.ne_of_lt (blk_lt (g := gb922) (o := .cells #[.int .i64 t914, .slice Ao24 t915.length co24, .slice Ao25 t918.length co25] 46 (0, 0)) (pkK BK922.out)) : gb922 ≠ gb930)); have NB930_922 := am ((by rw [hg]; exact Nat.ne_of_gt (blk_lt (g := gb922) (o := .cells #[.int .i64 t914, .slice Ao24 t915.length co24, .slice Ao25 t918.length co25] 46 (0, 0)) (pkK BK922.out)) : gb930 ≠ gb922)); replace BK922 := am (blk_below (pkK BK922.out) hb); clear hb hbox hg; have hnb29 := NB930_905.out; have hnc29 := NB905_930.out; have hnb30 := NB930_922.out; have hnc30 := NB922_930.out; obtain ⟨hcz31_0, hcz31_1, hcz31_2, hfz31_0, hfz31_1, hfz31_2⟩ := bk3 BK930.out; obtain ⟨Ao32, co32, eo32⟩ := Kd.R_slice HO926.out; subst eo32; obtain ⟨Ao33, co33, eo33⟩ := Kd.R_slice HO929.out; subst eo33) | ((with_reducible refine gate_callee (f := 30) rfl ?_); refine goesL_ (some 33) rfl rfl Try.func30 (by kernel_rfl) rfl #[.agg #[.int .i64 t923, .slice Ao32 t924.length co32, .slice Ao33 t927.length co33], .int .i64 a1] rfl mpx ?_; (with_reducible refine (impl_PassLatch.calls k t923 _ _ t924 _ _ t927 a1 t931 t932 t935 t938 _ ?side1 ?side2 ?side3 ?side4 A11.out).mono ?_); (case side1 => refine (Kd.R_reads' (e := 3) (base := w.heap.size) (ok := fun k_ => ((((some k_ ≠ (.slice Ao33 t927.length co33 : Value).ownBlock ∧ some k_ ≠ (.slice Ao18 t908.length co18 : Value).ownBlock) ∧ some k_ ≠ (.slice Ao19 t911.length co19 : Value).ownBlock) ∧ some k_ ≠ (.slice Ao24 t915.length co24 : Value).ownBlock) ∧ some k_ ≠ (.slice Ao25 t918.length co25 : Value).ownBlock)) (n := t924.length) (c := co32) ?_).2.2; exact (by (with_reducible repeat (first | apply Kd.R_alloc | apply Kd.R_drewN | apply Kd.R_drew)); exact (Kd.R_mono (Kd.R_far (p := ⟨gb930, 2, none⟩) (Kd.R_far (p := ⟨gb930, 1, none⟩) (Kd.R_far (p := ⟨gb930, 0, none⟩) (Kd.R_types HO926.out BK930.out (by decide)) (fun _ hk => hk.2) (.int .i64 t923)) (fun _ hk => hk.2) (.slice Ao32 t924.length co32)) (fun _ hk => hk.2) (.slice Ao33 t927.length co33)) (fun _ h_ => h_.1)))); (case side2 => exact (Kd.R_reads' HO926.out).2.1); (case side3 => refine (Kd.R_reads' (e := 3) (base := w.heap.size) (ok := fun k_ => ((((some k_ ≠ (.slice Ao32 t924.length co32 : Value).ownBlock ∧ some k_ ≠ (.slice Ao18 t908.length co18 : Value).ownBlock) ∧ some k_ ≠ (.slice Ao19 t911.length co19 : Value).ownBlock) ∧ some k_ ≠ (.slice Ao24 t915.length co24 : Value).ownBlock) ∧ some k_ ≠ (.slice Ao25 t918.length co25 : Value).ownBlock)) (n := t927.length) (c := co33) ?_).2.2; exact (by (with_reducible repeat (first | apply Kd.R_alloc | apply Kd.R_drewN | apply Kd.R_drew)); exact (Kd.R_mono (Kd.R_far (p := ⟨gb930, 2, none⟩) (Kd.R_far (p := ⟨gb930, 1, none⟩) (Kd.R_far (p := ⟨gb930, 0, none⟩) (Kd.R_types HO929.out BK930.out (by decide)) (fun _ hk => hk.2) (.int .i64 t923)) (fun _ hk => hk.2) (.slice Ao32 t924.length co32)) (fun _ hk => hk.2) (.slice Ao33 t927.length co33)) (fun _ h_ => h_.1)))); (case side4 => exact (Kd.R_reads' HO929.out).2.1); rintro e w34 ⟨v933, v936, rfl, ho0, ho1, hb⟩; refine ⟨_, rfl, ?_⟩; have HO934 := am (Kd.R_lower (Kd.R_new' (Kd.R_new' (Kd.R_new' (Kd.R_new' (Kd.R_new' (Kd.R_new' ho0 (Kd.R_lt (by (with_reducible repeat (first | apply Kd.R_alloc | apply Kd.R_drewN | apply Kd.R_drew)); exact (Kd.R_mono (Kd.R_far (p := ⟨gb930, 2, none⟩) (Kd.R_far (p := ⟨gb930, 1, none⟩) (Kd.R_far (p := ⟨gb930, 0, none⟩) (Kd.R_types HO910.out BK930.out (by decide)) (fun _ hk => hk.2) (.int .i64 t923)) (fun _ hk => hk.2) (.slice Ao32 t924.length co32)) (fun _ hk => hk.2) (.slice Ao33 t927.length co33)) (fun _ h_ => h_.1))))) (Kd.R_lt (by (with_reducible repeat (first | apply Kd.R_alloc | apply Kd.R_drewN | apply Kd.R_drew)); exact (Kd.R_mono (Kd.R_far (p := ⟨gb930, 2, none⟩) (Kd.R_far (p := ⟨gb930, 1, none⟩) (Kd.R_far (p := ⟨gb930, 0, none⟩) (Kd.R_types HO913.out BK930.out (by decide)) (fun _ hk => hk.2) (.int .i64 t923)) (fun _ hk => hk.2) (.slice Ao32 t924.length co32)) (fun _ hk => hk.2) (.slice Ao33 t927.length co33)) (fun _ h_ => h_.1))))) (Kd.R_lt (by (with_reducible repeat (first | apply Kd.R_alloc | apply Kd.R_drewN | apply Kd.R_drew)); exact (Kd.R_mono (Kd.R_far (p := ⟨gb930, 2, none⟩) (Kd.R_far (p := ⟨gb930, 1, none⟩) (Kd.R_far (p := ⟨gb930, 0, none⟩) (Kd.R_types HO917.out BK930.out (by decide)) (fun _ hk => hk.2) (.int .i64 t923)) (fun _ hk => hk.2) (.slice Ao32 t924.length co32)) (fun _ hk => hk.2) (.slice Ao33 t927.length co33)) (fun _ h_ => h_.1))))) (Kd.R_lt (by (with_reducible repeat (first | apply Kd.R_alloc | apply Kd.R_drewN | apply Kd.R_drew)); exact (Kd.R_mono (Kd.R_far (p := ⟨gb930, 2, none⟩) (Kd.R_far (p := ⟨gb930, 1, none⟩) (Kd.R_far (p := ⟨gb930, 0, none⟩) (Kd.R_types HO920.out BK930.out (by decide)) (fun _ hk => hk.2) (.int .i64 t923)) (fun _ hk => hk.2) (.slice Ao32 t924.length co32)) (fun _ hk => hk.2) (.slice Ao33 t927.length co33)) (fun _ h_ => h_.1))))) (Kd.R_lt (by (with_reducible repeat (first | apply Kd.R_alloc | apply Kd.R_drewN | apply Kd.R_drew)); exact (Kd.R_mono (Kd.R_far (p := ⟨gb930, 2, none⟩) (Kd.R_far (p := ⟨gb930, 1, none⟩) (Kd.R_far (p := ⟨gb930, 0, none⟩) (Kd.R_types HO926.out BK930.out (by decide)) (fun _ hk => hk.2) (.int .i64 t923)) (fun _ hk => hk.2) (.slice Ao32 t924.length co32)) (fun _ hk => hk.2) (.slice Ao33 t927.length co33)) (fun _ h_ => h_.1))))) (Kd.R_lt (by (with_reducible repeat (first | apply Kd.R_alloc | apply Kd.R_drewN | apply Kd.R_drew)); exact (Kd.R_mono (Kd.R_far (p := ⟨gb930, 2, none⟩) (Kd.R_far (p := ⟨gb930, 1, none⟩) (Kd.R_far (p := ⟨gb930, 0, none⟩) (Kd.R_types HO929.out BK930.out (by decide)) (fun _ hk => hk.2) (.int .i64 t923)) (fun _ hk => hk.2) (.slice Ao32 t924.length co32)) (fun _ hk => hk.2) (.slice Ao33 t927.length co33)) (fun _ h_ => h_.1))))) (below_size (pkW HB.out))); have HO937 := am (Kd.R_lower (Kd.R_new' (Kd.R_new' (Kd.R_new' (Kd.R_new' (Kd.R_new' (Kd.R_new' ho1 (Kd.R_lt (by (with_reducible repeat (first | apply Kd.R_alloc | apply Kd.R_drewN | apply Kd.R_drew)); exact (Kd.R_mono (Kd.R_far (p := ⟨gb930, 2, none⟩) (Kd.R_far (p := ⟨gb930, 1, none⟩) (Kd.R_far (p := ⟨gb930, 0, none⟩) (Kd.R_types HO910.out BK930.out (by decide)) (fun _ hk => hk.2) (.int .i64 t923)) (fun _ hk => hk.2) (.slice Ao32 t924.length co32)) (fun _ hk => hk.2) (.slice Ao33 t927.length co33)) (fun _ h_ => h_.1))))) (Kd.R_lt (by (with_reducible repeat (first | apply Kd.R_alloc | apply Kd.R_drewN | apply Kd.R_drew)); exact (Kd.R_mono (Kd.R_far (p := ⟨gb930, 2, none⟩) (Kd.R_far (p := ⟨gb930, 1, none⟩) (Kd.R_far (p := ⟨gb930, 0, none⟩) (Kd.R_types HO913.out BK930.out (by decide)) (fun _ hk => hk.2) (.int .i64 t923)) (fun _ hk => hk.2) (.slice Ao32 t924.length co32)) (fun _ hk => hk.2) (.slice Ao33 t927.length co33)) (fun _ h_ => h_.1))))) (Kd.R_lt (by (with_reducible repeat (first | apply Kd.R_alloc | apply Kd.R_drewN | apply Kd.R_drew)); exact (Kd.R_mono (Kd.R_far (p := ⟨gb930, 2, none⟩) (Kd.R_far (p := ⟨gb930, 1, none⟩) (Kd.R_far (p := ⟨gb930, 0, none⟩) (Kd.R_types HO917.out BK930.out (by decide)) (fun _ hk => hk.2) (.int .i64 t923)) (fun _ hk => hk.2) (.slice Ao32 t924.length co32)) (fun _ hk => hk.2) (.slice Ao33 t927.length co33)) (fun _ h_ => h_.1))))) (Kd.R_lt (by (with_reducible repeat (first | apply Kd.R_alloc | apply Kd.R_drewN | apply Kd.R_drew)); exact (Kd.R_mono (Kd.R_far (p := ⟨gb930, 2, none⟩) (Kd.R_far (p := ⟨gb930, 1, none⟩) (Kd.R_far (p := ⟨gb930, 0, none⟩) (Kd.R_types HO920.out BK930.out (by decide)) (fun _ hk => hk.2) (.int .i64 t923)) (fun _ hk => hk.2) (.slice Ao32 t924.length co32)) (fun _ hk => hk.2) (.slice Ao33 t927.length co33)) (fun _ h_ => h_.1))))) (Kd.R_lt (by (with_reducible repeat (first | apply Kd.R_alloc | apply Kd.R_drewN | apply Kd.R_drew)); exact (Kd.R_mono (Kd.R_far (p := ⟨gb930, 2, none⟩) (Kd.R_far (p := ⟨gb930, 1, none⟩) (Kd.R_far (p := ⟨gb930, 0, none⟩) (Kd.R_types HO926.out BK930.out (by decide)) (fun _ hk => hk.2) (.int .i64 t923)) (fun _ hk => hk.2) (.slice Ao32 t924.length co32)) (fun _ hk => hk.2) (.slice Ao33 t927.length co33)) (fun _ h_ => h_.1))))) (Kd.R_lt (by (with_reducible repeat (first | apply Kd.R_alloc | apply Kd.R_drewN | apply Kd.R_drew)); exact (Kd.R_mono (Kd.R_far (p := ⟨gb930, 2, none⟩) (Kd.R_far (p := ⟨gb930, 1, none⟩) (Kd.R_far (p := ⟨gb930, 0, none⟩) (Kd.R_types HO929.out BK930.out (by decide)) (fun _ hk => hk.2) (.int .i64 t923)) (fun _ hk => hk.2) (.slice Ao32 t924.length co32)) (fun _ hk => hk.2) (.slice Ao33 t927.length co33)) (fun _ h_ => h_.1))))) (below_size (pkW HB.out))); replace HO910 := am (Kd.R_mono (Kd.R_told (Kd.R_told (Kd.R_old (by (with_reducible repeat (first | apply Kd.R_alloc | apply Kd.R_drewN | apply Kd.R_drew)); exact (Kd.R_mono (Kd.R_far (p := ⟨gb930, 2, none⟩) (Kd.R_far (p := ⟨gb930, 1, none⟩) (Kd.R_far (p := ⟨gb930, 0, none⟩) (Kd.R_types HO910.out BK930.out (by decide)) (fun _ hk => hk.2) (.int .i64 t923)) (fun _ hk => hk.2) (.slice Ao32 t924.length co32)) (fun _ hk => hk.2) (.slice Ao33 t927.length co33)) (fun _ h_ => h_.1))) hb) (Kd.R_base ho0)) (Kd.R_base ho1)) (fun _ h_ => h_.1)); replace HO913 := am (Kd.R_mono (Kd.R_told (Kd.R_told (Kd.R_old (by (with_reducible repeat (first | apply Kd.R_alloc | apply Kd.R_drewN | apply Kd.R_drew)); exact (Kd.R_mono (Kd.R_far (p := ⟨gb930, 2, none⟩) (Kd.R_far (p := ⟨gb930, 1, none⟩) (Kd.R_far (p := ⟨gb930, 0, none⟩) (Kd.R_types HO913.out BK930.out (by decide)) (fun _ hk => hk.2) (.int .i64 t923)) (fun _ hk => hk.2) (.slice Ao32 t924.length co32)) (fun _ hk => hk.2) (.slice Ao33 t927.length co33)) (fun _ h_ => h_.1))) hb) (Kd.R_base ho0)) (Kd.R_base ho1)) (fun _ h_ => h_.1)); replace HO917 := am (Kd.R_mono (Kd.R_told (Kd.R_told (Kd.R_old (by (with_reducible repeat (first | apply Kd.R_alloc | apply Kd.R_drewN | apply Kd.R_drew)); exact (Kd.R_mono (Kd.R_far (p := ⟨gb930, 2, none⟩) (Kd.R_far (p := ⟨gb930, 1, none⟩) (Kd.R_far (p := ⟨gb930, 0, none⟩) (Kd.R_types HO917.out BK930.out (by decide)) (fun _ hk => hk.2) (.int .i64 t923)) (fun _ hk => hk.2) (.slice Ao32 t924.length co32)) (fun _ hk => hk.2) (.slice Ao33 t927.length co33)) (fun _ h_ => h_.1))) hb) (Kd.R_base ho0)) (Kd.R_base ho1)) (fun _ h_ => h_.1)); replace HO920 := am (Kd.R_mono (Kd.R_told (Kd.R_told (Kd.R_old (by (with_reducible repeat (first | apply Kd.R_alloc | apply Kd.R_drewN | apply Kd.R_drew)); exact (Kd.R_mono (Kd.R_far (p := ⟨gb930, 2, none⟩) (Kd.R_far (p := ⟨gb930, 1, none⟩) (Kd.R_far (p := ⟨gb930, 0, none⟩) (Kd.R_types HO920.out BK930.out (by decide)) (fun _ hk => hk.2) (.int .i64 t923)) (fun _ hk => hk.2) (.slice Ao32 t924.length co32)) (fun _ hk => hk.2) (.slice Ao33 t927.length co33)) (fun _ h_ => h_.1))) hb) (Kd.R_base ho0)) (Kd.R_base ho1)) (fun _ h_ => h_.1)); replace HO926 := am (Kd.R_mono (Kd.R_told (Kd.R_told (Kd.R_old (by (with_reducible repeat (first | apply Kd.R_alloc | apply Kd.R_drewN | apply Kd.R_drew)); exact (Kd.R_mono (Kd.R_far (p := ⟨gb930, 2, none⟩) (Kd.R_far (p := ⟨gb930, 1, none⟩) (Kd.R_far (p := ⟨gb930, 0, none⟩) (Kd.R_types HO926.out BK930.out (by decide)) (fun _ hk => hk.2) (.int .i64 t923)) (fun _ hk => hk.2) (.slice Ao32 t924.length co32)) (fun _ hk => hk.2) (.slice Ao33 t927.length co33)) (fun _ h_ => h_.1))) hb) (Kd.R_base ho0)) (Kd.R_base ho1)) (fun _ h_ => h_.1)); replace HO929 := am (Kd.R_mono (Kd.R_told (Kd.R_told (Kd.R_old (by (with_reducible repeat (first | apply Kd.R_alloc | apply Kd.R_drewN | apply Kd.R_drew)); exact (Kd.R_mono (Kd.R_far (p := ⟨gb930, 2, none⟩) (Kd.R_far (p := ⟨gb930, 1, none⟩) (Kd.R_far (p := ⟨gb930, 0, none⟩) (Kd.R_types HO929.out BK930.out (by decide)) (fun _ hk => hk.2) (.int .i64 t923)) (fun _ hk => hk.2) (.slice Ao32 t924.length co32)) (fun _ hk => hk.2) (.slice Ao33 t927.length co33)) (fun _ h_ => h_.1))) hb) (Kd.R_base ho0)) (Kd.R_base ho1)) (fun _ h_ => h_.1)); replace BK905 := am (blk_below (g := gb905) (o := .cells #[.int .i64 a0_0, .slice A0_1 l0_1.length c0_1, .slice A0_2 l0_2.length c0_2] 43 (0, 0)) (by (with_reducible repeat (first | refine blk_drewN ?_ _ | refine blk_drew ?_ | refine blk_alloc ?_ _)); refine blk_far ?_ NB905_930.out _; (with_reducible repeat (first | refine blk_drewN ?_ _ | refine blk_drew ?_ | refine blk_alloc ?_ _)); refine blk_far ?_ NB905_930.out _; (with_reducible repeat (first | refine blk_drewN ?_ _ | refine blk_drew ?_ | refine blk_alloc ?_ _)); refine blk_far ?_ NB905_930.out _; exact pkK BK905.out) hb); replace BK922 := am (blk_below (g := gb922) (o := .cells #[.int .i64 t914, .slice Ao24 t915.length co24, .slice Ao25 t918.length co25] 46 (0, 0)) (by (with_reducible repeat (first | refine blk_drewN ?_ _ | refine blk_drew ?_ | refine blk_alloc ?_ _)); refine blk_far ?_ NB922_930.out _; (with_reducible repeat (first | refine blk_drewN ?_ _ | refine blk_drew ?_ | refine blk_alloc ?_ _)); refine blk_far ?_ NB922_930.out _; (with_reducible repeat (first | refine blk_drewN ?_ _ | refine blk_drew ?_ | refine blk_alloc ?_ _)); refine blk_far ?_ NB922_930.out _; exact pkK BK922.out) hb); replace BK930 := am (blk_below (g := gb930) (o := .cells #[.int .i64 t923, .slice Ao32 t924.length co32, .slice Ao33 t927.length co33] 46 (0, 0)) (by (with_reducible repeat (first | refine blk_drewN ?_ _ | refine blk_drew ?_ | refine blk_alloc ?_ _)); refine blk_put (cs := #[.int .i64 t923, .slice Ao32 t924.length co32, .slice none 0 0]) ?_ 2 _ rfl; (with_reducible repeat (first | refine blk_drewN ?_ _ | refine blk_drew ?_ | refine blk_alloc ?_ _)); refine blk_put (cs := #[.int .i64 t923, .slice none 0 0, .slice none 0 0]) ?_ 1 _ rfl; (with_reducible repeat (first | refine blk_drewN ?_ _ | refine blk_drew ?_ | refine blk_alloc ?_ _)); refine blk_put (cs := #[.int .i64 0, .slice none 0 0, .slice none 0 0]) ?_ 0 _ rfl; exact pkK BK930.out) hb); replace HB := am (below_step (pkW HB.out) hb); (try clear hb ho0 ho1)) | ((with_reducible refine gate_dst (N := 9) rfl ?_); refine box_event ?hg (N := 9) ?hd (cs := #[.int .i64 0, .slice none 0 0, .slice none 0 0]) (t := 46) ?hr ?_; (case hd => rfl); (case hg => rfl); (case hr => first | (go_simp; done) | (go_simp; rfl)); intro gb939 hg w35 hbox hb; replace HO910 := am (Kd.R_below (pkR HO910.out) hb); replace HO913 := am (Kd.R_below (pkR HO913.out) hb); replace HO917 := am (Kd.R_below (pkR HO917.out) hb); replace HO920 := am (Kd.R_below (pkR HO920.out) hb); replace HO926 := am (Kd.R_below (pkR HO926.out) hb); replace HO929 := am (Kd.R_below (pkR HO929.out) hb); replace HO934 := am (Kd.R_below (pkR HO934.out) hb); replace HO937 := am (Kd.R_below (pkR HO937.out) hb); have BK939 := am (hbox); have GW939 := am ((by rw [hg]; exact (below_size (pkW HB.out)) : w.heap.size ≤ gb939)); have GE939 := am ((by rw [hg]; exact (below_size (pkW HB.out)) : w.heap.size ≤ gb939)); replace HB := am (below_step (pkW HB.out) hb); have NB905_939 := am ((by rw [hg]; exact Nat.ne_of_lt (blk_lt (g := gb905) (o := .cells #[.int .i64 a0_0, .slice A0_1 l0_1.length c0_1, .slice A0_2 l0_2.length c0_2] 43 (0, 0)) (pkK BK905.out)) : gb905 ≠ gb939)); have NB939_905 := am ((by rw [hg]; exact Nat.ne_of_gt (blk_lt (g := gb905) (o := .cells #[.int .i64 a0_0, .slice A0_1 l0_1.length c0_1, .slice A0_2 l0_2.length c0_2] 43 (0, 0)) (pkK BK905.out)) : gb939 ≠ gb905)); replace BK905 := am (blk_below (pkK BK905.out) hb); have NB922_939 := am ((by rw [hg]; exact Nat.ne_of_lt (blk_lt (g := gb922) (o := .cells #[.int .i64 t914, .slice Ao24 t915.length co24, .slice Ao25 t918.length co25] 46 (0, 0)) (pkK BK922.out)) : gb922 ≠ gb939)); have NB939_922 := am ((by rw [hg]; exact Nat.ne_of_gt (blk_lt (g := gb922) (o := .cells #[.int .i64 t914, .slice Ao24 t915.length co24, .slice Ao25 t918.length co25] 46 (0, 0)) (pkK BK922.out)) : gb939 ≠ gb922)); replace BK922 := am (blk_below (pkK BK922.out) hb); have NB930_939 := am ((by rw [hg]; exact Nat.ne_of_lt (blk_lt (g := gb930) (o := .cells #[.int .i64 t923, .slice Ao32 t924.length co32, .slice Ao33 t927.length co33] 46 (0, 0)) (pkK BK930.out)) : gb930 ≠ gb939)); have NB939_930 := am ((by rw [hg]; exact Nat.ne_of_gt (blk_lt (g := gb930) (o := .cells #[.int .i64 t923, .slice Ao32 t924.length co32, .slice Ao33 t927.length co33] 46 (0, 0)) (pkK BK930.out)) : gb939 ≠ gb930)); replace BK930 := am (blk_below (pkK BK930.out) hb); clear hb hbox hg; have hnb36 := NB939_905.out; have hnc36 := NB905_939.out; have hnb37 := NB939_922.out; have hnc37 := NB922_939.out; have hnb38 := NB939_930.out; have hnc38 := NB930_939.out; obtain ⟨hcz39_0, hcz39_1, hcz39_2, hfz39_0, hfz39_1, hfz39_2⟩ := bk3 BK939.out; obtain ⟨Ao40, co40, eo40⟩ := Kd.R_slice HO934.out; subst eo40; obtain ⟨Ao41, co41, eo41⟩ := Kd.R_slice HO937.out; subst eo41))
  (try simp only [Act.put, List.setIfInBounds_toArray, List.set_cons_zero, List.set_cons_succ])
  go_cut [44] (fun v44 wc => ∃ (kq : Nat) (x44_11 : Bool), v44 = .bool x44_11 ∧ Aside0 (laws_FnExactPassLatch.j0 kq a1 t921 t938 x44_11 a0_0 l0_1 l0_2 t914 t915 t918 t923 t924 t927 t931 t932 t935 = some r) ∧ Aside0 (kq ≤ k) ∧ Aside0 (Kd.R (Kd.int .i64) 3 wc w.heap.size (fun k_ => some k_ ≠ ((.slice Ao25 t918.length co25) : Value).ownBlock ∧ some k_ ≠ ((.slice Ao32 t924.length co32) : Value).ownBlock ∧ some k_ ≠ ((.slice Ao33 t927.length co33) : Value).ownBlock ∧ some k_ ≠ ((.slice Ao40 t932.length co40) : Value).ownBlock ∧ some k_ ≠ ((.slice Ao41 t935.length co41) : Value).ownBlock) (.slice Ao24 t915.length co24) t915) ∧ Aside0 (Kd.R (Kd.int .i64) 3 wc w.heap.size (fun k_ => some k_ ≠ ((.slice Ao24 t915.length co24) : Value).ownBlock ∧ some k_ ≠ ((.slice Ao32 t924.length co32) : Value).ownBlock ∧ some k_ ≠ ((.slice Ao33 t927.length co33) : Value).ownBlock ∧ some k_ ≠ ((.slice Ao40 t932.length co40) : Value).ownBlock ∧ some k_ ≠ ((.slice Ao41 t935.length co41) : Value).ownBlock) (.slice Ao25 t918.length co25) t918) ∧ Aside0 (Kd.R (Kd.int .i64) 3 wc w.heap.size (fun k_ => some k_ ≠ ((.slice Ao24 t915.length co24) : Value).ownBlock ∧ some k_ ≠ ((.slice Ao25 t918.length co25) : Value).ownBlock ∧ some k_ ≠ ((.slice Ao33 t927.length co33) : Value).ownBlock ∧ some k_ ≠ ((.slice Ao40 t932.length co40) : Value).ownBlock ∧ some k_ ≠ ((.slice Ao41 t935.length co41) : Value).ownBlock) (.slice Ao32 t924.length co32) t924) ∧ Aside0 (Kd.R (Kd.int .i64) 3 wc w.heap.size (fun k_ => some k_ ≠ ((.slice Ao24 t915.length co24) : Value).ownBlock ∧ some k_ ≠ ((.slice Ao25 t918.length co25) : Value).ownBlock ∧ some k_ ≠ ((.slice Ao32 t924.length co32) : Value).ownBlock ∧ some k_ ≠ ((.slice Ao40 t932.length co40) : Value).ownBlock ∧ some k_ ≠ ((.slice Ao41 t935.length co41) : Value).ownBlock) (.slice Ao33 t927.length co33) t927) ∧ Aside0 (Kd.R (Kd.int .i64) 3 wc w.heap.size (fun k_ => some k_ ≠ ((.slice Ao24 t915.length co24) : Value).ownBlock ∧ some k_ ≠ ((.slice Ao25 t918.length co25) : Value).ownBlock ∧ some k_ ≠ ((.slice Ao32 t924.length co32) : Value).ownBlock ∧ some k_ ≠ ((.slice Ao33 t927.length co33) : Value).ownBlock ∧ some k_ ≠ ((.slice Ao41 t935.length co41) : Value).ownBlock) (.slice Ao40 t932.length co40) t932) ∧ Aside0 (Kd.R (Kd.int .i64) 3 wc w.heap.size (fun k_ => some k_ ≠ ((.slice Ao24 t915.length co24) : Value).ownBlock ∧ some k_ ≠ ((.slice Ao25 t918.length co25) : Value).ownBlock ∧ some k_ ≠ ((.slice Ao32 t924.length co32) : Value).ownBlock ∧ some k_ ≠ ((.slice Ao33 t927.length co33) : Value).ownBlock ∧ some k_ ≠ ((.slice Ao40 t932.length co40) : Value).ownBlock) (.slice Ao41 t935.length co41) t935) ∧ Aside0 (wc.heap[gb905]? = some (.cells #[.int .i64 a0_0, (.slice A0_1 l0_1.length c0_1), (.slice A0_2 l0_2.length c0_2)] 43 (0, 0))) ∧ Aside0 (wc.heap[gb922]? = some (.cells #[.int .i64 t914, (.slice Ao24 t915.length co24), (.slice Ao25 t918.length co25)] 46 (0, 0))) ∧ Aside0 (wc.heap[gb930]? = some (.cells #[.int .i64 t923, (.slice Ao32 t924.length co32), (.slice Ao33 t927.length co33)] 46 (0, 0))) ∧ Aside0 (wc.heap[gb939]? = some (.cells #[.int .i64 t931, (.slice Ao40 t932.length co40), (.slice Ao41 t935.length co41)] 46 (0, 0))) ∧ Aside0 (Below w.heap.size w wc))
  case first =>
   have H := HC12.out
   clear HC12
   replace H := Option.bind_eq_some_iff.mp H
   obtain ⟨t940, A420, H⟩ := H
   replace H : (if t940 = true then (laws_FnExactPassLatch.j0 k a1 t921 t938 (t938 != t921) a0_0 l0_1 l0_2 t914 t915 t918 t923 t924 t927 t931 t932 t935) else (laws_FnExactPassLatch.j0 k a1 t921 t938 true a0_0 l0_1 l0_2 t914 t915 t918 t923 t924 t927 t931 t932 t935)) = some r := H
   have A42 := am A420
   clear A420
   by_cases c43 : t940 = true
   ·subst c43
    replace H : (laws_FnExactPassLatch.j0 k a1 t921 t938 (t938 != t921) a0_0 l0_1 l0_2 t914 t915 t918 t923 t924 t927 t931 t932 t935) = some r := by rw [if_pos rfl] at H; exact H
    have H' := am H
    clear H
    have hnb44 := NB939_905.out
    have hnc44 := NB905_939.out
    have hnb45 := NB939_922.out
    have hnc45 := NB922_939.out
    have hnb46 := NB939_930.out
    have hnc46 := NB930_939.out
    obtain ⟨hcz47_0, hcz47_1, hcz47_2, hfz47_0, hfz47_1, hfz47_2⟩ := bk3 BK939.out
    have hnb48 := NB922_905.out
    have hnc48 := NB905_922.out
    have hnb49 := NB922_930.out
    have hnc49 := NB930_922.out
    obtain ⟨hcz50_0, hcz50_1, hcz50_2, hfz50_0, hfz50_1, hfz50_2⟩ := bk3 BK922.out
    go_wp2_with (first | ((with_reducible refine gate_callee (f := 27) rfl ?_); refine goesL_ (some 38) rfl rfl Try.func27 (by kernel_rfl) rfl #[.agg #[.int .i64 t931, .slice Ao40 t932.length co40, .slice Ao41 t935.length co41], .agg #[.int .i64 t914, .slice Ao24 t915.length co24, .slice Ao25 t918.length co25]] rfl mpx ?_; (with_reducible refine (laws_eqLatch.calls k t931 _ _ t932 _ _ t935 t914 _ _ t915 _ _ t918 true _ ?side1 ?side2 ?side3 ?side4 ?side5 ?side6 ?side7 ?side8 A42.out).mono ?_); (case side1 => refine (Kd.R_reads' (e := 3) (base := w.heap.size) (ok := fun k_ => ((((((some k_ ≠ (.slice Ao41 t935.length co41 : Value).ownBlock ∧ some k_ ≠ (.slice Ao18 t908.length co18 : Value).ownBlock) ∧ some k_ ≠ (.slice Ao19 t911.length co19 : Value).ownBlock) ∧ some k_ ≠ (.slice Ao24 t915.length co24 : Value).ownBlock) ∧ some k_ ≠ (.slice Ao25 t918.length co25 : Value).ownBlock) ∧ some k_ ≠ (.slice Ao32 t924.length co32 : Value).ownBlock) ∧ some k_ ≠ (.slice Ao33 t927.length co33 : Value).ownBlock)) (n := t932.length) (c := co40) ?_).2.2; exact (by (with_reducible repeat (first | apply Kd.R_alloc | apply Kd.R_drewN | apply Kd.R_drew)); exact (Kd.R_mono (Kd.R_far (p := ⟨gb939, 2, none⟩) (Kd.R_far (p := ⟨gb939, 1, none⟩) (Kd.R_far (p := ⟨gb939, 0, none⟩) (Kd.R_types HO934.out BK939.out (by decide)) (fun _ hk => hk.2) (.int .i64 t931)) (fun _ hk => hk.2) (.slice Ao40 t932.length co40)) (fun _ hk => hk.2) (.slice Ao41 t935.length co41)) (fun _ h_ => h_.1)))); (case side2 => exact (Kd.R_reads' HO934.out).2.1); (case side3 => refine (Kd.R_reads' (e := 3) (base := w.heap.size) (ok := fun k_ => ((((((some k_ ≠ (.slice Ao40 t932.length co40 : Value).ownBlock ∧ some k_ ≠ (.slice Ao18 t908.length co18 : Value).ownBlock) ∧ some k_ ≠ (.slice Ao19 t911.length co19 : Value).ownBlock) ∧ some k_ ≠ (.slice Ao24 t915.length co24 : Value).ownBlock) ∧ some k_ ≠ (.slice Ao25 t918.length co25 : Value).ownBlock) ∧ some k_ ≠ (.slice Ao32 t924.length co32 : Value).ownBlock) ∧ some k_ ≠ (.slice Ao33 t927.length co33 : Value).ownBlock)) (n := t935.length) (c := co41) ?_).2.2; exact (by (with_reducible repeat (first | apply Kd.R_alloc | apply Kd.R_drewN | apply Kd.R_drew)); exact (Kd.R_mono (Kd.R_far (p := ⟨gb939, 2, none⟩) (Kd.R_far (p := ⟨gb939, 1, none⟩) (Kd.R_far (p := ⟨gb939, 0, none⟩) (Kd.R_types HO937.out BK939.out (by decide)) (fun _ hk => hk.2) (.int .i64 t931)) (fun _ hk => hk.2) (.slice Ao40 t932.length co40)) (fun _ hk => hk.2) (.slice Ao41 t935.length co41)) (fun _ h_ => h_.1)))); (case side4 => exact (Kd.R_reads' HO937.out).2.1); (case side5 => refine (Kd.R_reads' (e := 3) (base := w.heap.size) (ok := fun k_ => ((((((some k_ ≠ (.slice Ao25 t918.length co25 : Value).ownBlock ∧ some k_ ≠ (.slice Ao18 t908.length co18 : Value).ownBlock) ∧ some k_ ≠ (.slice Ao19 t911.length co19 : Value).ownBlock) ∧ some k_ ≠ (.slice Ao32 t924.length co32 : Value).ownBlock) ∧ some k_ ≠ (.slice Ao33 t927.length co33 : Value).ownBlock) ∧ some k_ ≠ (.slice Ao40 t932.length co40 : Value).ownBlock) ∧ some k_ ≠ (.slice Ao41 t935.length co41 : Value).ownBlock)) (n := t915.length) (c := co24) ?_).2.2; exact (by (with_reducible repeat (first | apply Kd.R_alloc | apply Kd.R_drewN | apply Kd.R_drew)); exact (Kd.R_mono (Kd.R_far (p := ⟨gb939, 2, none⟩) (Kd.R_far (p := ⟨gb939, 1, none⟩) (Kd.R_far (p := ⟨gb939, 0, none⟩) (Kd.R_types HO917.out BK939.out (by decide)) (fun _ hk => hk.2) (.int .i64 t931)) (fun _ hk => hk.2) (.slice Ao40 t932.length co40)) (fun _ hk => hk.2) (.slice Ao41 t935.length co41)) (fun _ h_ => h_.1)))); (case side6 => exact (Kd.R_reads' HO917.out).2.1); (case side7 => refine (Kd.R_reads' (e := 3) (base := w.heap.size) (ok := fun k_ => ((((((some k_ ≠ (.slice Ao24 t915.length co24 : Value).ownBlock ∧ some k_ ≠ (.slice Ao18 t908.length co18 : Value).ownBlock) ∧ some k_ ≠ (.slice Ao19 t911.length co19 : Value).ownBlock) ∧ some k_ ≠ (.slice Ao32 t924.length co32 : Value).ownBlock) ∧ some k_ ≠ (.slice Ao33 t927.length co33 : Value).ownBlock) ∧ some k_ ≠ (.slice Ao40 t932.length co40 : Value).ownBlock) ∧ some k_ ≠ (.slice Ao41 t935.length co41 : Value).ownBlock)) (n := t918.length) (c := co25) ?_).2.2; exact (by (with_reducible repeat (first | apply Kd.R_alloc | apply Kd.R_drewN | apply Kd.R_drew)); exact (Kd.R_mono (Kd.R_far (p := ⟨gb939, 2, none⟩) (Kd.R_far (p := ⟨gb939, 1, none⟩) (Kd.R_far (p := ⟨gb939, 0, none⟩) (Kd.R_types HO920.out BK939.out (by decide)) (fun _ hk => hk.2) (.int .i64 t931)) (fun _ hk => hk.2) (.slice Ao40 t932.length co40)) (fun _ hk => hk.2) (.slice Ao41 t935.length co41)) (fun _ h_ => h_.1)))); (case side8 => exact (Kd.R_reads' HO920.out).2.1); rintro e w51 ⟨rfl, hb⟩; refine ⟨_, rfl, ?_⟩; replace HO910 := am (Kd.R_below (by (with_reducible repeat (first | apply Kd.R_alloc | apply Kd.R_drewN | apply Kd.R_drew)); exact (Kd.R_mono (Kd.R_far (p := ⟨gb939, 2, none⟩) (Kd.R_far (p := ⟨gb939, 1, none⟩) (Kd.R_far (p := ⟨gb939, 0, none⟩) (Kd.R_types HO910.out BK939.out (by decide)) (fun _ hk => hk.2) (.int .i64 t931)) (fun _ hk => hk.2) (.slice Ao40 t932.length co40)) (fun _ hk => hk.2) (.slice Ao41 t935.length co41)) (fun _ h_ => h_.1))) hb); replace HO913 := am (Kd.R_below (by (with_reducible repeat (first | apply Kd.R_alloc | apply Kd.R_drewN | apply Kd.R_drew)); exact (Kd.R_mono (Kd.R_far (p := ⟨gb939, 2, none⟩) (Kd.R_far (p := ⟨gb939, 1, none⟩) (Kd.R_far (p := ⟨gb939, 0, none⟩) (Kd.R_types HO913.out BK939.out (by decide)) (fun _ hk => hk.2) (.int .i64 t931)) (fun _ hk => hk.2) (.slice Ao40 t932.length co40)) (fun _ hk => hk.2) (.slice Ao41 t935.length co41)) (fun _ h_ => h_.1))) hb); replace HO917 := am (Kd.R_below (by (with_reducible repeat (first | apply Kd.R_alloc | apply Kd.R_drewN | apply Kd.R_drew)); exact (Kd.R_mono (Kd.R_far (p := ⟨gb939, 2, none⟩) (Kd.R_far (p := ⟨gb939, 1, none⟩) (Kd.R_far (p := ⟨gb939, 0, none⟩) (Kd.R_types HO917.out BK939.out (by decide)) (fun _ hk => hk.2) (.int .i64 t931)) (fun _ hk => hk.2) (.slice Ao40 t932.length co40)) (fun _ hk => hk.2) (.slice Ao41 t935.length co41)) (fun _ h_ => h_.1))) hb); replace HO920 := am (Kd.R_below (by (with_reducible repeat (first | apply Kd.R_alloc | apply Kd.R_drewN | apply Kd.R_drew)); exact (Kd.R_mono (Kd.R_far (p := ⟨gb939, 2, none⟩) (Kd.R_far (p := ⟨gb939, 1, none⟩) (Kd.R_far (p := ⟨gb939, 0, none⟩) (Kd.R_types HO920.out BK939.out (by decide)) (fun _ hk => hk.2) (.int .i64 t931)) (fun _ hk => hk.2) (.slice Ao40 t932.length co40)) (fun _ hk => hk.2) (.slice Ao41 t935.length co41)) (fun _ h_ => h_.1))) hb); replace HO926 := am (Kd.R_below (by (with_reducible repeat (first | apply Kd.R_alloc | apply Kd.R_drewN | apply Kd.R_drew)); exact (Kd.R_mono (Kd.R_far (p := ⟨gb939, 2, none⟩) (Kd.R_far (p := ⟨gb939, 1, none⟩) (Kd.R_far (p := ⟨gb939, 0, none⟩) (Kd.R_types HO926.out BK939.out (by decide)) (fun _ hk => hk.2) (.int .i64 t931)) (fun _ hk => hk.2) (.slice Ao40 t932.length co40)) (fun _ hk => hk.2) (.slice Ao41 t935.length co41)) (fun _ h_ => h_.1))) hb); replace HO929 := am (Kd.R_below (by (with_reducible repeat (first | apply Kd.R_alloc | apply Kd.R_drewN | apply Kd.R_drew)); exact (Kd.R_mono (Kd.R_far (p := ⟨gb939, 2, none⟩) (Kd.R_far (p := ⟨gb939, 1, none⟩) (Kd.R_far (p := ⟨gb939, 0, none⟩) (Kd.R_types HO929.out BK939.out (by decide)) (fun _ hk => hk.2) (.int .i64 t931)) (fun _ hk => hk.2) (.slice Ao40 t932.length co40)) (fun _ hk => hk.2) (.slice Ao41 t935.length co41)) (fun _ h_ => h_.1))) hb); replace HO934 := am (Kd.R_below (by (with_reducible repeat (first | apply Kd.R_alloc | apply Kd.R_drewN | apply Kd.R_drew)); exact (Kd.R_mono (Kd.R_far (p := ⟨gb939, 2, none⟩) (Kd.R_far (p := ⟨gb939, 1, none⟩) (Kd.R_far (p := ⟨gb939, 0, none⟩) (Kd.R_types HO934.out BK939.out (by decide)) (fun _ hk => hk.2) (.int .i64 t931)) (fun _ hk => hk.2) (.slice Ao40 t932.length co40)) (fun _ hk => hk.2) (.slice Ao41 t935.length co41)) (fun _ h_ => h_.1))) hb); replace HO937 := am (Kd.R_below (by (with_reducible repeat (first | apply Kd.R_alloc | apply Kd.R_drewN | apply Kd.R_drew)); exact (Kd.R_mono (Kd.R_far (p := ⟨gb939, 2, none⟩) (Kd.R_far (p := ⟨gb939, 1, none⟩) (Kd.R_far (p := ⟨gb939, 0, none⟩) (Kd.R_types HO937.out BK939.out (by decide)) (fun _ hk => hk.2) (.int .i64 t931)) (fun _ hk => hk.2) (.slice Ao40 t932.length co40)) (fun _ hk => hk.2) (.slice Ao41 t935.length co41)) (fun _ h_ => h_.1))) hb); replace BK905 := am (blk_below (g := gb905) (o := .cells #[.int .i64 a0_0, .slice A0_1 l0_1.length c0_1, .slice A0_2 l0_2.length c0_2] 43 (0, 0)) (by (with_reducible repeat (first | refine blk_drewN ?_ _ | refine blk_drew ?_ | refine blk_alloc ?_ _)); refine blk_far ?_ NB905_939.out _; (with_reducible repeat (first | refine blk_drewN ?_ _ | refine blk_drew ?_ | refine blk_alloc ?_ _)); refine blk_far ?_ NB905_939.out _; (with_reducible repeat (first | refine blk_drewN ?_ _ | refine blk_drew ?_ | refine blk_alloc ?_ _)); refine blk_far ?_ NB905_939.out _; exact pkK BK905.out) hb); replace BK922 := am (blk_below (g := gb922) (o := .cells #[.int .i64 t914, .slice Ao24 t915.length co24, .slice Ao25 t918.length co25] 46 (0, 0)) (by (with_reducible repeat (first | refine blk_drewN ?_ _ | refine blk_drew ?_ | refine blk_alloc ?_ _)); refine blk_far ?_ NB922_939.out _; (with_reducible repeat (first | refine blk_drewN ?_ _ | refine blk_drew ?_ | refine blk_alloc ?_ _)); refine blk_far ?_ NB922_939.out _; (with_reducible repeat (first | refine blk_drewN ?_ _ | refine blk_drew ?_ | refine blk_alloc ?_ _)); refine blk_far ?_ NB922_939.out _; exact pkK BK922.out) hb); replace BK930 := am (blk_below (g := gb930) (o := .cells #[.int .i64 t923, .slice Ao32 t924.length co32, .slice Ao33 t927.length co33] 46 (0, 0)) (by (with_reducible repeat (first | refine blk_drewN ?_ _ | refine blk_drew ?_ | refine blk_alloc ?_ _)); refine blk_far ?_ NB930_939.out _; (with_reducible repeat (first | refine blk_drewN ?_ _ | refine blk_drew ?_ | refine blk_alloc ?_ _)); refine blk_far ?_ NB930_939.out _; (with_reducible repeat (first | refine blk_drewN ?_ _ | refine blk_drew ?_ | refine blk_alloc ?_ _)); refine blk_far ?_ NB930_939.out _; exact pkK BK930.out) hb); replace BK939 := am (blk_below (g := gb939) (o := .cells #[.int .i64 t931, .slice Ao40 t932.length co40, .slice Ao41 t935.length co41] 46 (0, 0)) (by (with_reducible repeat (first | refine blk_drewN ?_ _ | refine blk_drew ?_ | refine blk_alloc ?_ _)); refine blk_put (cs := #[.int .i64 t931, .slice Ao40 t932.length co40, .slice none 0 0]) ?_ 2 _ rfl; (with_reducible repeat (first | refine blk_drewN ?_ _ | refine blk_drew ?_ | refine blk_alloc ?_ _)); refine blk_put (cs := #[.int .i64 t931, .slice none 0 0, .slice none 0 0]) ?_ 1 _ rfl; (with_reducible repeat (first | refine blk_drewN ?_ _ | refine blk_drew ?_ | refine blk_alloc ?_ _)); refine blk_put (cs := #[.int .i64 0, .slice none 0 0, .slice none 0 0]) ?_ 0 _ rfl; exact pkK BK939.out) hb); replace HB := am (below_step (pkW HB.out) hb); (try clear hb)))
    go_meet
    case rel => exact ⟨_, ((t938 != t921)), rfx, H', ⟨by first | omega | exact Nat.le_refl _⟩, ⟨by (with_reducible repeat (first | apply Kd.R_alloc | apply Kd.R_drewN | apply Kd.R_drew)); exact Kd.R_mono HO917.out (fun _ hk => ⟨hk.1.1.1.1.1.1, ⟨hk.1.1.1.2, ⟨hk.1.1.2, ⟨hk.1.2, hk.2⟩⟩⟩⟩)⟩, ⟨by (with_reducible repeat (first | apply Kd.R_alloc | apply Kd.R_drewN | apply Kd.R_drew)); exact Kd.R_mono HO920.out (fun _ hk => ⟨hk.1.1.1.1.1.1, ⟨hk.1.1.1.2, ⟨hk.1.1.2, ⟨hk.1.2, hk.2⟩⟩⟩⟩)⟩, ⟨by (with_reducible repeat (first | apply Kd.R_alloc | apply Kd.R_drewN | apply Kd.R_drew)); exact Kd.R_mono HO926.out (fun _ hk => ⟨hk.1.1.1.2, ⟨hk.1.1.2, ⟨hk.1.1.1.1.1.1, ⟨hk.1.2, hk.2⟩⟩⟩⟩)⟩, ⟨by (with_reducible repeat (first | apply Kd.R_alloc | apply Kd.R_drewN | apply Kd.R_drew)); exact Kd.R_mono HO929.out (fun _ hk => ⟨hk.1.1.1.2, ⟨hk.1.1.2, ⟨hk.1.1.1.1.1.1, ⟨hk.1.2, hk.2⟩⟩⟩⟩)⟩, ⟨by (with_reducible repeat (first | apply Kd.R_alloc | apply Kd.R_drewN | apply Kd.R_drew)); exact Kd.R_mono HO934.out (fun _ hk => ⟨hk.1.1.1.2, ⟨hk.1.1.2, ⟨hk.1.2, ⟨hk.2, hk.1.1.1.1.1.1⟩⟩⟩⟩)⟩, ⟨by (with_reducible repeat (first | apply Kd.R_alloc | apply Kd.R_drewN | apply Kd.R_drew)); exact Kd.R_mono HO937.out (fun _ hk => ⟨hk.1.1.1.2, ⟨hk.1.1.2, ⟨hk.1.2, ⟨hk.2, hk.1.1.1.1.1.1⟩⟩⟩⟩)⟩, ⟨pkK BK905.out⟩, ⟨pkK BK922.out⟩, ⟨pkK BK930.out⟩, ⟨pkK BK939.out⟩, ⟨pkW HB.out⟩⟩
   ·replace c43 := Bool.eq_false_iff.mpr c43
    subst c43
    replace H : (laws_FnExactPassLatch.j0 k a1 t921 t938 true a0_0 l0_1 l0_2 t914 t915 t918 t923 t924 t927 t931 t932 t935) = some r := by rw [if_neg (show ¬ (false = true) by decide)] at H; exact H
    cases k with
    | zero => exact absurd H (by simp [laws_FnExactPassLatch.j0])
    | succ k_ => (simp only [laws_FnExactPassLatch.j0, if_pos] at H; exact absurd (Option.some.inj H) (by rw [HQ_.out]; simp))
  case rest =>
   clear HC12
   try clear c1
   try clear c2
   try clear p2
   try clear c3
   try clear c4
   try clear c4b0
   try clear c10
   try clear c22
   try clear c23
   try clear c25
   try clear c27
   try clear c29
   try clear c30
   try clear c36
   try clear c37
   try clear c38
   try clear c42
   try clear c43
   try clear c44
   try clear c45
   try clear c46
   try clear c48
   try clear c49
   try clear hcz14_0
   try clear hcz14_1
   try clear hcz14_2
   try clear hcz16_0
   try clear hcz16_1
   try clear hcz16_2
   try clear hcz23_0
   try clear hcz23_1
   try clear hcz23_2
   try clear hcz26_0
   try clear hcz26_1
   try clear hcz26_2
   try clear hcz31_0
   try clear hcz31_1
   try clear hcz31_2
   try clear hcz39_0
   try clear hcz39_1
   try clear hcz39_2
   try clear hcz47_0
   try clear hcz47_1
   try clear hcz47_2
   try clear hcz50_0
   try clear hcz50_1
   try clear hcz50_2
   try clear hcz6_0
   try clear hcz6_1
   try clear hcz6_2
   try clear hfz14_0
   try clear hfz14_1
   try clear hfz14_2
   try clear hfz16_0
   try clear hfz16_1
   try clear hfz16_2
   try clear hfz23_0
   try clear hfz23_1
   try clear hfz23_2
   try clear hfz26_0
   try clear hfz26_1
   try clear hfz26_2
   try clear hfz31_0
   try clear hfz31_1
   try clear hfz31_2
   try clear hfz39_0
   try clear hfz39_1
   try clear hfz39_2
   try clear hfz47_0
   try clear hfz47_1
   try clear hfz47_2
   try clear hfz50_0
   try clear hfz50_1
   try clear hfz50_2
   try clear hfz6_0
   try clear hfz6_1
   try clear hfz6_2
   obtain ⟨kq, x44_11, rfl, HA, HJ11, HO_923001, HO_923002, HO_931001, HO_931002, HO_940001, HO_940002, BK905, BK922, BK930, BK939, HB⟩ := hcut
   cases kq with
   | zero => exact absurd HA.out (by simp [laws_FnExactPassLatch.j0])
   | succ kj11 =>
    have H := HA.out
    clear HA
    simp only [laws_FnExactPassLatch.j0] at H
    by_cases c52 : x44_11 = true
    ·subst c52
     replace H : (some false) = some r := by rw [if_pos rfl] at H; exact H
     exact absurd (Option.some.inj H) (by rw [HQ_.out]; simp)
    ·replace c52 := Bool.eq_false_iff.mpr c52
     subst c52
     replace H : ((laws_toLatch.f kj11 a0_0 l0_1 l0_2).bind fun bt941 => ((laws_eqLatch.f kj11 t923 t924 t927 bt941.1 bt941.2.1 bt941.2.2).bind fun t948 => (if t948 = true then ((laws_markLatch.f kj11 t923 t924 t927 1).bind fun bt949 => (if bt949.1 < 0 then (laws_FnExactPassLatch.j1 kj11 a1 t921 true a0_0 l0_1 l0_2 t914 t915 t918 t931 t932 t935) else ((laws_eqLatch.f kj11 t931 t932 t935 t914 t915 t918).bind fun t952 => (if t952 = true then (laws_FnExactPassLatch.j1 kj11 a1 t921 (t938 != t921) a0_0 l0_1 l0_2 t914 t915 t918 t931 t932 t935) else (laws_FnExactPassLatch.j1 kj11 a1 t921 true a0_0 l0_1 l0_2 t914 t915 t918 t931 t932 t935))))) else (some false)))) = some r := by rw [if_neg (show ¬ (false = true) by decide)] at H; exact H
     replace H := Option.bind_eq_some_iff.mp H
     obtain ⟨⟨t941, t942, t945⟩, A530, H⟩ := H
     replace H : ((laws_eqLatch.f kj11 t923 t924 t927 t941 t942 t945).bind fun t948 => (if t948 = true then ((laws_markLatch.f kj11 t923 t924 t927 1).bind fun bt949 => (if bt949.1 < 0 then (laws_FnExactPassLatch.j1 kj11 a1 t921 true a0_0 l0_1 l0_2 t914 t915 t918 t931 t932 t935) else ((laws_eqLatch.f kj11 t931 t932 t935 t914 t915 t918).bind fun t952 => (if t952 = true then (laws_FnExactPassLatch.j1 kj11 a1 t921 (t938 != t921) a0_0 l0_1 l0_2 t914 t915 t918 t931 t932 t935) else (laws_FnExactPassLatch.j1 kj11 a1 t921 true a0_0 l0_1 l0_2 t914 t915 t918 t931 t932 t935))))) else (some false))) = some r := H
     have A53 := am A530
     clear A530
     replace H := Option.bind_eq_some_iff.mp H
     obtain ⟨t948, A540, H⟩ := H
     replace H : (if t948 = true then ((laws_markLatch.f kj11 t923 t924 t927 1).bind fun bt949 => (if bt949.1 < 0 then (laws_FnExactPassLatch.j1 kj11 a1 t921 true a0_0 l0_1 l0_2 t914 t915 t918 t931 t932 t935) else ((laws_eqLatch.f kj11 t931 t932 t935 t914 t915 t918).bind fun t952 => (if t952 = true then (laws_FnExactPassLatch.j1 kj11 a1 t921 (t938 != t921) a0_0 l0_1 l0_2 t914 t915 t918 t931 t932 t935) else (laws_FnExactPassLatch.j1 kj11 a1 t921 true a0_0 l0_1 l0_2 t914 t915 t918 t931 t932 t935))))) else (some false)) = some r := H
     have A54 := am A540
     clear A540
     by_cases c55 : t948 = true
     ·subst c55
      replace H : ((laws_markLatch.f kj11 t923 t924 t927 1).bind fun bt949 => (if bt949.1 < 0 then (laws_FnExactPassLatch.j1 kj11 a1 t921 true a0_0 l0_1 l0_2 t914 t915 t918 t931 t932 t935) else ((laws_eqLatch.f kj11 t931 t932 t935 t914 t915 t918).bind fun t952 => (if t952 = true then (laws_FnExactPassLatch.j1 kj11 a1 t921 (t938 != t921) a0_0 l0_1 l0_2 t914 t915 t918 t931 t932 t935) else (laws_FnExactPassLatch.j1 kj11 a1 t921 true a0_0 l0_1 l0_2 t914 t915 t918 t931 t932 t935))))) = some r := by rw [if_pos rfl] at H; exact H
      replace H := Option.bind_eq_some_iff.mp H
      obtain ⟨⟨t949, t950, t951⟩, A560, H⟩ := H
      replace H : (if t949 < 0 then (laws_FnExactPassLatch.j1 kj11 a1 t921 true a0_0 l0_1 l0_2 t914 t915 t918 t931 t932 t935) else ((laws_eqLatch.f kj11 t931 t932 t935 t914 t915 t918).bind fun t952 => (if t952 = true then (laws_FnExactPassLatch.j1 kj11 a1 t921 (t938 != t921) a0_0 l0_1 l0_2 t914 t915 t918 t931 t932 t935) else (laws_FnExactPassLatch.j1 kj11 a1 t921 true a0_0 l0_1 l0_2 t914 t915 t918 t931 t932 t935)))) = some r := H
      have A56 := am A560
      clear A560
      have HC57 := am H
      clear H
      try go_wp2
      replace HO_923001 := am (Kd.R_drew HO_923001.out)
      replace HO_923002 := am (Kd.R_drew HO_923002.out)
      replace HO_931001 := am (Kd.R_drew HO_931001.out)
      replace HO_931002 := am (Kd.R_drew HO_931002.out)
      replace HO_940001 := am (Kd.R_drew HO_940001.out)
      replace HO_940002 := am (Kd.R_drew HO_940002.out)
      replace BK905 := am (blk_drew BK905.out)
      replace BK922 := am (blk_drew BK922.out)
      replace BK930 := am (blk_drew BK930.out)
      replace BK939 := am (blk_drew BK939.out)
      replace HB := am (below_drew1 HB.out)
      refine start_ (n := 5) (S := fun w' => w'.cell? ⟨gb930, 0, none⟩ = some (.int .i64 t923) ∧ w'.cell? ⟨gb930, 1, none⟩ = some (.slice Ao32 t924.length co32) ∧ w'.cell? ⟨gb930, 2, none⟩ = some (.slice Ao33 t927.length co33) ∧ w'.cell? ⟨gb905, 0, none⟩ = some (.int .i64 a0_0) ∧ w'.cell? ⟨gb905, 1, none⟩ = some (.slice A0_1 l0_1.length c0_1) ∧ w'.cell? ⟨gb905, 2, none⟩ = some (.slice A0_2 l0_2.length c0_2)) (ds := []) #[false, false, false, false, false] (by kernel_rfl) rfl rfl ⟨(blk_cell BK930.out 0).trans rfl, (blk_cell BK930.out 1).trans rfl, (blk_cell BK930.out 2).trans rfl, (blk_cell BK905.out 0).trans rfl, (blk_cell BK905.out 1).trans rfl, (blk_cell BK905.out 2).trans rfl⟩ (fun hHeld => ?_)
      generalize wc.drew = w58 at HO_923001 HO_923002 HO_931001 HO_931002 HO_940001 HO_940002 BK905 BK922 BK930 BK939 HB hHeld ⊢
      refine take_ (i := 0) (N := some 45) (v := ?_) (a' := ?_) #[true, false, false, false, false] rfl rfl (by kernel_rfl) (fun _ _ _ h => h) (Or.inl ⟨by rfl, ?_⟩) hHeld ?_ ?_
      rotate_left
      ·rintro w' ⟨s0, s1, s2, s3, s4, s5⟩
       go_simp
       with_reducible rfl
      rotate_left
      ·simp only [Act.put, List.setIfInBounds_toArray, List.set_cons_zero, List.set_cons_succ, i64_w, i32_w]
       rfl
      refine take_ (i := 1) (N := some 46) (v := ?_) (a' := ?_) #[true, true, false, false, false] rfl rfl (by kernel_rfl) (fun _ _ _ h => h) (Or.inl ⟨by rfl, ?_⟩) hHeld ?_ ?_
      rotate_left
      ·rintro w' ⟨s0, s1, s2, s3, s4, s5⟩
       go_simp
       with_reducible rfl
      rotate_left
      ·simp only [Act.put, List.setIfInBounds_toArray, List.set_cons_zero, List.set_cons_succ, i64_w, i32_w]
       rfl
      refine one_ (i := 2) (N := some 47) #[true, true, true, false, false] rfl rfl (by kernel_rfl) (by decide) (fun K hK => ?_)
      refine goes_ Try.func25 (by kernel_rfl) rfl #[.agg #[.int .i64 a0_0, .slice A0_1 l0_1.length c0_1, .slice A0_2 l0_2.length c0_2]] (by rfl) rfl rfl mpx ?_
      with_reducible refine (laws_toLatch.calls kj11 a0_0 _ _ l0_1 _ _ l0_2 t941 t942 t945 _ ?side1 ?side2 ?side3 ?side4 A53.out).mono ?_
      (case side1 => exact pkC (Kd.C_below HR0_1.out HB.out))
      (case side2 => exact HC0_1.out)
      (case side3 => exact pkC (Kd.C_below HR0_2.out HB.out))
      (case side4 => exact HC0_2.out)
      rintro e w59 ⟨v943, v946, rfl, ho0, ho1, hb⟩
      refine ⟨_, rfl, ?_⟩
      have HO944 := am (Kd.R_lower (Kd.R_new' (Kd.R_new' (Kd.R_new' (Kd.R_new' (Kd.R_new' (Kd.R_new' ho0 (Kd.R_lt (pkR HO_923001.out))) (Kd.R_lt (pkR HO_923002.out))) (Kd.R_lt (pkR HO_931001.out))) (Kd.R_lt (pkR HO_931002.out))) (Kd.R_lt (pkR HO_940001.out))) (Kd.R_lt (pkR HO_940002.out))) (below_size (pkW HB.out)))
      have HO947 := am (Kd.R_lower (Kd.R_new' (Kd.R_new' (Kd.R_new' (Kd.R_new' (Kd.R_new' (Kd.R_new' ho1 (Kd.R_lt (pkR HO_923001.out))) (Kd.R_lt (pkR HO_923002.out))) (Kd.R_lt (pkR HO_931001.out))) (Kd.R_lt (pkR HO_931002.out))) (Kd.R_lt (pkR HO_940001.out))) (Kd.R_lt (pkR HO_940002.out))) (below_size (pkW HB.out)))
      replace HO_923001 := am (Kd.R_mono (Kd.R_told (Kd.R_told (Kd.R_old (pkR HO_923001.out) hb) (Kd.R_base ho0)) (Kd.R_base ho1)) (fun _ h_ => h_.1))
      replace HO_923002 := am (Kd.R_mono (Kd.R_told (Kd.R_told (Kd.R_old (pkR HO_923002.out) hb) (Kd.R_base ho0)) (Kd.R_base ho1)) (fun _ h_ => h_.1))
      replace HO_931001 := am (Kd.R_mono (Kd.R_told (Kd.R_told (Kd.R_old (pkR HO_931001.out) hb) (Kd.R_base ho0)) (Kd.R_base ho1)) (fun _ h_ => h_.1))
      replace HO_931002 := am (Kd.R_mono (Kd.R_told (Kd.R_told (Kd.R_old (pkR HO_931002.out) hb) (Kd.R_base ho0)) (Kd.R_base ho1)) (fun _ h_ => h_.1))
      replace HO_940001 := am (Kd.R_mono (Kd.R_told (Kd.R_told (Kd.R_old (pkR HO_940001.out) hb) (Kd.R_base ho0)) (Kd.R_base ho1)) (fun _ h_ => h_.1))
      replace HO_940002 := am (Kd.R_mono (Kd.R_told (Kd.R_told (Kd.R_old (pkR HO_940002.out) hb) (Kd.R_base ho0)) (Kd.R_base ho1)) (fun _ h_ => h_.1))
      replace BK905 := am (blk_below (pkK BK905.out) hb)
      replace BK922 := am (blk_below (pkK BK922.out) hb)
      replace BK930 := am (blk_below (pkK BK930.out) hb)
      replace BK939 := am (blk_below (pkK BK939.out) hb)
      replace HB := am (below_step (pkW HB.out) hb)
      (try clear hb); (try clear ho0 ho1)
      obtain ⟨Ao60, co60, eo60⟩ := Kd.R_slice HO944.out
      (first | subst eo60 | (injection eo60 with f1_ f2_ f3_; have f4_ := f1_.symm; have f5_ := f3_.symm; clear f1_ f2_ f3_; subst f4_; subst f5_))
      obtain ⟨Ao61, co61, eo61⟩ := Kd.R_slice HO947.out
      (first | subst eo61 | (injection eo61 with f1_ f2_ f3_; have f4_ := f1_.symm; have f5_ := f3_.symm; clear f1_ f2_ f3_; subst f4_; subst f5_))
      refine hK.out _ _ ⟨(blk_cell BK930.out 0).trans rfl, (blk_cell BK930.out 1).trans rfl, (blk_cell BK930.out 2).trans rfl, (blk_cell BK905.out 0).trans rfl, (blk_cell BK905.out 1).trans rfl, (blk_cell BK905.out 2).trans rfl⟩ (fun hHeld => ?_)
      clear hK K
      refine norm_ (a' := ?_) ?_ ?_
      rotate_left
      ·show Act.put _ (some 47) _ = _
       simp only [Act.put, List.setIfInBounds_toArray, List.set_cons_zero, List.set_cons_succ, i64_w, i32_w]
       rfl
      refine one_ (i := 3) (N := some 48) #[true, true, true, true, false] rfl rfl (by kernel_rfl) (by decide) (fun K hK => ?_)
      refine goes_ Try.func27 (by kernel_rfl) rfl #[.agg #[.int .i64 t923, .slice Ao32 t924.length co32, .slice Ao33 t927.length co33], .agg #[.int .i64 t941, .slice Ao60 t942.length co60, .slice Ao61 t945.length co61]] (by rfl) rfl rfl mpx ?_
      with_reducible refine (laws_eqLatch.calls kj11 t923 _ _ t924 _ _ t927 t941 _ _ t942 _ _ t945 true _ ?side1 ?side2 ?side3 ?side4 ?side5 ?side6 ?side7 ?side8 A54.out).mono ?_
      (case side1 => exact pkC (Kd.R_reads' HO_931001.out).2.2)
      (case side2 => exact (Kd.R_reads' HO_931001.out).2.1)
      (case side3 => exact pkC (Kd.R_reads' HO_931002.out).2.2)
      (case side4 => exact (Kd.R_reads' HO_931002.out).2.1)
      (case side5 => exact pkC (Kd.R_reads' HO944.out).2.2)
      (case side6 => exact (Kd.R_reads' HO944.out).2.1)
      (case side7 => exact pkC (Kd.R_reads' HO947.out).2.2)
      (case side8 => exact (Kd.R_reads' HO947.out).2.1)
      rintro e w62 ⟨rfl, hb⟩
      refine ⟨_, rfl, ?_⟩
      replace HO_923001 := am (Kd.R_below (pkR HO_923001.out) hb)
      replace HO_923002 := am (Kd.R_below (pkR HO_923002.out) hb)
      replace HO_931001 := am (Kd.R_below (pkR HO_931001.out) hb)
      replace HO_931002 := am (Kd.R_below (pkR HO_931002.out) hb)
      replace HO_940001 := am (Kd.R_below (pkR HO_940001.out) hb)
      replace HO_940002 := am (Kd.R_below (pkR HO_940002.out) hb)
      replace HO944 := am (Kd.R_below (pkR HO944.out) hb)
      replace HO947 := am (Kd.R_below (pkR HO947.out) hb)
      replace BK905 := am (blk_below (pkK BK905.out) hb)
      replace BK922 := am (blk_below (pkK BK922.out) hb)
      replace BK930 := am (blk_below (pkK BK930.out) hb)
      replace BK939 := am (blk_below (pkK BK939.out) hb)
      replace HB := am (below_step (pkW HB.out) hb)
      (try clear hb)
      refine hK.out _ _ ⟨(blk_cell BK930.out 0).trans rfl, (blk_cell BK930.out 1).trans rfl, (blk_cell BK930.out 2).trans rfl, (blk_cell BK905.out 0).trans rfl, (blk_cell BK905.out 1).trans rfl, (blk_cell BK905.out 2).trans rfl⟩ (fun hHeld => ?_)
      clear hK K
      refine norm_ (a' := ?_) ?_ ?_
      rotate_left
      ·show Act.put _ (some 48) _ = _
       simp only [Act.put, List.setIfInBounds_toArray, List.set_cons_zero, List.set_cons_succ, i64_w, i32_w]
       rfl
      refine pure_ (i := 4) (N := some 49) (v := ?_) (a' := ?_) #[true, true, true, true, true] rfl rfl (by kernel_rfl) (fun _ _ _ h => h) (Or.inl ⟨by rfl, ?_⟩) ?_ ?_
      rotate_left
      ·intro w'
       go_simp
       with_reducible rfl
      rotate_left
      ·simp only [Act.put, List.setIfInBounds_toArray, List.set_cons_zero, List.set_cons_succ, i64_w, i32_w]
       rfl
      refine done_ (by kernel_rfl) ?_
      have hnb63 := NB930_905.out
      have hnc63 := NB905_930.out
      have hnb64 := NB930_922.out
      have hnc64 := NB922_930.out
      have hnb65 := NB930_939.out
      have hnc65 := NB939_930.out
      obtain ⟨hcz66_0, hcz66_1, hcz66_2, hfz66_0, hfz66_1, hfz66_2⟩ := bk3 BK930.out
      go_upto_region 14 with (first | ((with_reducible refine gate_callee (f := 36) rfl ?_); refine goesL_ (some 52) rfl rfl Try.func36 (by kernel_rfl) rfl #[.agg #[.int .i64 t923, .slice Ao32 t924.length co32, .slice Ao33 t927.length co33], .int .i64 1] rfl mpx ?_; (with_reducible refine (laws_markLatch.calls kj11 t923 (fun k_ => some k_ = (.slice Ao32 t924.length co32 : Value).ownBlock) (.slice Ao32 t924.length co32) t924 (fun k_ => some k_ = (.slice Ao33 t927.length co33 : Value).ownBlock) (.slice Ao33 t927.length co33) t927 1 t949 t950 t951 w _ ?side1 ?side2 ?side3 ?side4 ?side5 A56.out).mono ?_); (case side1 => repeat (first | (with_reducible first | exact HB.out | apply below_alloc | apply pw_below_drewN | apply below_drew1 | refine below_set ?_ GE905.out | refine below_set ?_ GE922.out | refine below_set ?_ GE930.out | refine below_set ?_ GE939.out) | exact HB.out)); (case side2 => exact Kd.R_tight rfl HO_931001.out); (case side3 => exact fun k_ e_ => (HO_931001.out.1 k_ e_.symm).1.1.2.2.1); (case side4 => exact Kd.R_tight rfl HO_931002.out); (case side5 => exact fun k_ e_ => (HO_931002.out.1 k_ e_.symm).1.1.2.2.1); rintro e w67 ⟨rfl, hy0, hy1, hb, hkp⟩; refine ⟨_, rfl, ?_⟩; replace HO_923001 := am (Kd.R_mono (ok' := fun k_ => some k_ ≠ (.slice Ao25 t918.length co25 : Value).ownBlock ∧ some k_ ≠ (.slice Ao32 t924.length co32 : Value).ownBlock ∧ some k_ ≠ (.slice Ao33 t927.length co33 : Value).ownBlock ∧ some k_ ≠ (.slice Ao40 t932.length co40 : Value).ownBlock ∧ some k_ ≠ (.slice Ao41 t935.length co41 : Value).ownBlock ∧ some k_ ≠ (.slice Ao60 t942.length co60 : Value).ownBlock ∧ some k_ ≠ (.slice Ao61 t945.length co61 : Value).ownBlock) (Kd.R_keptB (HO_923001.out) hkp (fun k_ hk_ hs_ => Or.elim hs_ (fun e_ => (hk_.1.1.2.1) e_) (fun e_ => (hk_.1.1.2.2.1) e_))) (fun k_ hk_ => ⟨hk_.1.1.1.1, hk_.1.1.1.2.1, hk_.1.1.1.2.2.1, hk_.1.1.1.2.2.2.1, hk_.1.1.1.2.2.2.2, hk_.1.1.2, hk_.1.2⟩)); replace HO_923002 := am (Kd.R_mono (ok' := fun k_ => some k_ ≠ (.slice Ao24 t915.length co24 : Value).ownBlock ∧ some k_ ≠ (.slice Ao32 t924.length co32 : Value).ownBlock ∧ some k_ ≠ (.slice Ao33 t927.length co33 : Value).ownBlock ∧ some k_ ≠ (.slice Ao40 t932.length co40 : Value).ownBlock ∧ some k_ ≠ (.slice Ao41 t935.length co41 : Value).ownBlock ∧ some k_ ≠ (.slice Ao60 t942.length co60 : Value).ownBlock ∧ some k_ ≠ (.slice Ao61 t945.length co61 : Value).ownBlock) (Kd.R_keptB (HO_923002.out) hkp (fun k_ hk_ hs_ => Or.elim hs_ (fun e_ => (hk_.1.1.2.1) e_) (fun e_ => (hk_.1.1.2.2.1) e_))) (fun k_ hk_ => ⟨hk_.1.1.1.1, hk_.1.1.1.2.1, hk_.1.1.1.2.2.1, hk_.1.1.1.2.2.2.1, hk_.1.1.1.2.2.2.2, hk_.1.1.2, hk_.1.2⟩)); replace HO_940001 := am (Kd.R_mono (ok' := fun k_ => some k_ ≠ (.slice Ao24 t915.length co24 : Value).ownBlock ∧ some k_ ≠ (.slice Ao25 t918.length co25 : Value).ownBlock ∧ some k_ ≠ (.slice Ao32 t924.length co32 : Value).ownBlock ∧ some k_ ≠ (.slice Ao33 t927.length co33 : Value).ownBlock ∧ some k_ ≠ (.slice Ao41 t935.length co41 : Value).ownBlock ∧ some k_ ≠ (.slice Ao60 t942.length co60 : Value).ownBlock ∧ some k_ ≠ (.slice Ao61 t945.length co61 : Value).ownBlock) (Kd.R_keptB (HO_940001.out) hkp (fun k_ hk_ hs_ => Or.elim hs_ (fun e_ => (hk_.1.1.2.2.1) e_) (fun e_ => (hk_.1.1.2.2.2.1) e_))) (fun k_ hk_ => ⟨hk_.1.1.1.1, hk_.1.1.1.2.1, hk_.1.1.1.2.2.1, hk_.1.1.1.2.2.2.1, hk_.1.1.1.2.2.2.2, hk_.1.1.2, hk_.1.2⟩)); replace HO_940002 := am (Kd.R_mono (ok' := fun k_ => some k_ ≠ (.slice Ao24 t915.length co24 : Value).ownBlock ∧ some k_ ≠ (.slice Ao25 t918.length co25 : Value).ownBlock ∧ some k_ ≠ (.slice Ao32 t924.length co32 : Value).ownBlock ∧ some k_ ≠ (.slice Ao33 t927.length co33 : Value).ownBlock ∧ some k_ ≠ (.slice Ao40 t932.length co40 : Value).ownBlock ∧ some k_ ≠ (.slice Ao60 t942.length co60 : Value).ownBlock ∧ some k_ ≠ (.slice Ao61 t945.length co61 : Value).ownBlock) (Kd.R_keptB (HO_940002.out) hkp (fun k_ hk_ hs_ => Or.elim hs_ (fun e_ => (hk_.1.1.2.2.1) e_) (fun e_ => (hk_.1.1.2.2.2.1) e_))) (fun k_ hk_ => ⟨hk_.1.1.1.1, hk_.1.1.1.2.1, hk_.1.1.1.2.2.1, hk_.1.1.1.2.2.2.1, hk_.1.1.1.2.2.2.2, hk_.1.1.2, hk_.1.2⟩)); replace BK905 := am (blk_kept (pkK BK905.out) hkp (fun hs_ => Or.elim hs_ (fun e_ => (fun e_ => (Kd.R_ne HO_931001.out BK905.out (by decide)) e_) e_) (fun e_ => (fun e_ => (Kd.R_ne HO_931002.out BK905.out (by decide)) e_) e_))); replace BK922 := am (blk_kept (pkK BK922.out) hkp (fun hs_ => Or.elim hs_ (fun e_ => (fun e_ => (Kd.R_ne HO_931001.out BK922.out (by decide)) e_) e_) (fun e_ => (fun e_ => (Kd.R_ne HO_931002.out BK922.out (by decide)) e_) e_))); replace BK930 := am (blk_kept (pkK BK930.out) hkp (fun hs_ => Or.elim hs_ (fun e_ => (fun e_ => (Kd.R_ne HO_931001.out BK930.out (by decide)) e_) e_) (fun e_ => (fun e_ => (Kd.R_ne HO_931002.out BK930.out (by decide)) e_) e_))); replace BK939 := am (blk_kept (pkK BK939.out) hkp (fun hs_ => Or.elim hs_ (fun e_ => (fun e_ => (Kd.R_ne HO_931001.out BK939.out (by decide)) e_) e_) (fun e_ => (fun e_ => (Kd.R_ne HO_931002.out BK939.out (by decide)) e_) e_))); replace HO_931001 := am (Kd.R_reok rfl hy0 (fun k_ e_ => HO_931001.out.1 k_ e_)); replace HO_931002 := am (Kd.R_reok rfl hy1 (fun k_ e_ => HO_931002.out.1 k_ e_)); replace HO944 := am (Kd.R_mono (ok' := fun k_ => some k_ ≠ (.slice Ao24 t915.length co24 : Value).ownBlock ∧ some k_ ≠ (.slice Ao25 t918.length co25 : Value).ownBlock ∧ some k_ ≠ (.slice Ao32 t924.length co32 : Value).ownBlock ∧ some k_ ≠ (.slice Ao33 t927.length co33 : Value).ownBlock ∧ some k_ ≠ (.slice Ao40 t932.length co40 : Value).ownBlock ∧ some k_ ≠ (.slice Ao41 t935.length co41 : Value).ownBlock ∧ some k_ ≠ (.slice Ao61 t945.length co61 : Value).ownBlock) (Kd.R_keptB (HO944.out) hkp (fun k_ hk_ hs_ => Or.elim hs_ (fun e_ => (hk_.1.1.1.2) e_) (fun e_ => (hk_.1.1.2) e_))) (fun k_ hk_ => ⟨hk_.1.1.1.1.1.1.2, hk_.1.1.1.1.1.2, hk_.1.1.1.1.2, hk_.1.1.1.2, hk_.1.1.2, hk_.1.2, hk_.1.1.1.1.1.1.1⟩)); replace HO947 := am (Kd.R_mono (ok' := fun k_ => some k_ ≠ (.slice Ao24 t915.length co24 : Value).ownBlock ∧ some k_ ≠ (.slice Ao25 t918.length co25 : Value).ownBlock ∧ some k_ ≠ (.slice Ao32 t924.length co32 : Value).ownBlock ∧ some k_ ≠ (.slice Ao33 t927.length co33 : Value).ownBlock ∧ some k_ ≠ (.slice Ao40 t932.length co40 : Value).ownBlock ∧ some k_ ≠ (.slice Ao41 t935.length co41 : Value).ownBlock ∧ some k_ ≠ (.slice Ao60 t942.length co60 : Value).ownBlock) (Kd.R_keptB (HO947.out) hkp (fun k_ hk_ hs_ => Or.elim hs_ (fun e_ => (hk_.1.1.1.2) e_) (fun e_ => (hk_.1.1.2) e_))) (fun k_ hk_ => ⟨hk_.1.1.1.1.1.1.2, hk_.1.1.1.1.1.2, hk_.1.1.1.1.2, hk_.1.1.1.2, hk_.1.1.2, hk_.1.2, hk_.1.1.1.1.1.1.1⟩)); replace HB := am (hb); (try clear hb); (try clear hkp); (try clear hy0); (try clear hy1)))
      (try simp only [Act.put, List.setIfInBounds_toArray, List.set_cons_zero, List.set_cons_succ])
      go_cut [65] (fun v65 wc => ∃ (kq : Nat) (x65_56 : Bool), v65 = .bool x65_56 ∧ Aside0 (laws_FnExactPassLatch.j1 kq a1 t921 x65_56 a0_0 l0_1 l0_2 t914 t915 t918 t931 t932 t935 = some r) ∧ Aside0 (kq ≤ kj11) ∧ Aside0 (Kd.R (Kd.int .i64) 3 wc w.heap.size (fun k_ => some k_ ≠ ((.slice Ao25 t918.length co25) : Value).ownBlock ∧ some k_ ≠ ((.slice Ao32 t924.length co32) : Value).ownBlock ∧ some k_ ≠ ((.slice Ao33 t927.length co33) : Value).ownBlock ∧ some k_ ≠ ((.slice Ao40 t932.length co40) : Value).ownBlock ∧ some k_ ≠ ((.slice Ao41 t935.length co41) : Value).ownBlock) (.slice Ao24 t915.length co24) t915) ∧ Aside0 (Kd.R (Kd.int .i64) 3 wc w.heap.size (fun k_ => some k_ ≠ ((.slice Ao24 t915.length co24) : Value).ownBlock ∧ some k_ ≠ ((.slice Ao32 t924.length co32) : Value).ownBlock ∧ some k_ ≠ ((.slice Ao33 t927.length co33) : Value).ownBlock ∧ some k_ ≠ ((.slice Ao40 t932.length co40) : Value).ownBlock ∧ some k_ ≠ ((.slice Ao41 t935.length co41) : Value).ownBlock) (.slice Ao25 t918.length co25) t918) ∧ Aside0 (Kd.R (Kd.int .i64) 3 wc w.heap.size (fun k_ => some k_ ≠ ((.slice Ao24 t915.length co24) : Value).ownBlock ∧ some k_ ≠ ((.slice Ao25 t918.length co25) : Value).ownBlock ∧ some k_ ≠ ((.slice Ao33 t927.length co33) : Value).ownBlock ∧ some k_ ≠ ((.slice Ao40 t932.length co40) : Value).ownBlock ∧ some k_ ≠ ((.slice Ao41 t935.length co41) : Value).ownBlock) (.slice Ao32 t924.length co32) t950) ∧ Aside0 (Kd.R (Kd.int .i64) 3 wc w.heap.size (fun k_ => some k_ ≠ ((.slice Ao24 t915.length co24) : Value).ownBlock ∧ some k_ ≠ ((.slice Ao25 t918.length co25) : Value).ownBlock ∧ some k_ ≠ ((.slice Ao32 t924.length co32) : Value).ownBlock ∧ some k_ ≠ ((.slice Ao40 t932.length co40) : Value).ownBlock ∧ some k_ ≠ ((.slice Ao41 t935.length co41) : Value).ownBlock) (.slice Ao33 t927.length co33) t951) ∧ Aside0 (Kd.R (Kd.int .i64) 3 wc w.heap.size (fun k_ => some k_ ≠ ((.slice Ao24 t915.length co24) : Value).ownBlock ∧ some k_ ≠ ((.slice Ao25 t918.length co25) : Value).ownBlock ∧ some k_ ≠ ((.slice Ao32 t924.length co32) : Value).ownBlock ∧ some k_ ≠ ((.slice Ao33 t927.length co33) : Value).ownBlock ∧ some k_ ≠ ((.slice Ao41 t935.length co41) : Value).ownBlock) (.slice Ao40 t932.length co40) t932) ∧ Aside0 (Kd.R (Kd.int .i64) 3 wc w.heap.size (fun k_ => some k_ ≠ ((.slice Ao24 t915.length co24) : Value).ownBlock ∧ some k_ ≠ ((.slice Ao25 t918.length co25) : Value).ownBlock ∧ some k_ ≠ ((.slice Ao32 t924.length co32) : Value).ownBlock ∧ some k_ ≠ ((.slice Ao33 t927.length co33) : Value).ownBlock ∧ some k_ ≠ ((.slice Ao40 t932.length co40) : Value).ownBlock) (.slice Ao41 t935.length co41) t935) ∧ Aside0 (wc.heap[gb905]? = some (.cells #[.int .i64 a0_0, (.slice A0_1 l0_1.length c0_1), (.slice A0_2 l0_2.length c0_2)] 43 (0, 0))) ∧ Aside0 (wc.heap[gb922]? = some (.cells #[.int .i64 t914, (.slice Ao24 t915.length co24), (.slice Ao25 t918.length co25)] 46 (0, 0))) ∧ Aside0 (wc.heap[gb930]? = some (.cells #[.int .i64 t923, (.slice Ao32 t924.length co32), (.slice Ao33 t927.length co33)] 46 (0, 0))) ∧ Aside0 (wc.heap[gb939]? = some (.cells #[.int .i64 t931, (.slice Ao40 t932.length co40), (.slice Ao41 t935.length co41)] 46 (0, 0))) ∧ Aside0 (Below w.heap.size w wc))
      case first =>
       have H := HC57.out
       clear HC57
       by_cases c68 : t949 < 0
       ·rw [if_pos c68] at H
        have c68b0 : decide (t949 < 0) = true := decide_eq_true c68
        clear c68
        (first | rw [c68b0] | (simp only [i64_w, i32_w]; rw [c68b0]) | skip)
        cases kj11 with
        | zero => exact absurd H (by simp [laws_FnExactPassLatch.j1])
        | succ k_ => (simp only [laws_FnExactPassLatch.j1, if_pos] at H; exact absurd (Option.some.inj H) (by rw [HQ_.out]; simp))
       ·rw [if_neg c68] at H
        have c68b0 : decide (t949 < 0) = false := decide_eq_false c68
        clear c68
        (first | rw [c68b0] | (simp only [i64_w, i32_w]; rw [c68b0]) | skip)
        replace H := Option.bind_eq_some_iff.mp H
        obtain ⟨t952, A690, H⟩ := H
        replace H : (if t952 = true then (laws_FnExactPassLatch.j1 kj11 a1 t921 (t938 != t921) a0_0 l0_1 l0_2 t914 t915 t918 t931 t932 t935) else (laws_FnExactPassLatch.j1 kj11 a1 t921 true a0_0 l0_1 l0_2 t914 t915 t918 t931 t932 t935)) = some r := H
        have A69 := am A690
        clear A690
        by_cases c70 : t952 = true
        ·subst c70
         replace H : (laws_FnExactPassLatch.j1 kj11 a1 t921 (t938 != t921) a0_0 l0_1 l0_2 t914 t915 t918 t931 t932 t935) = some r := by rw [if_pos rfl] at H; exact H
         have H' := am H
         clear H
         have hnb71 := NB939_905.out
         have hnc71 := NB905_939.out
         have hnb72 := NB939_922.out
         have hnc72 := NB922_939.out
         have hnb73 := NB939_930.out
         have hnc73 := NB930_939.out
         obtain ⟨hcz74_0, hcz74_1, hcz74_2, hfz74_0, hfz74_1, hfz74_2⟩ := bk3 BK939.out
         have hnb75 := NB922_905.out
         have hnc75 := NB905_922.out
         have hnb76 := NB922_930.out
         have hnc76 := NB930_922.out
         obtain ⟨hcz77_0, hcz77_1, hcz77_2, hfz77_0, hfz77_1, hfz77_2⟩ := bk3 BK922.out
         go_wp2_with (first | (go_at_call 27; (with_reducible refine (laws_eqLatch.calls kj11 t931 _ _ t932 _ _ t935 t914 _ _ t915 _ _ t918 true _ ?side1 ?side2 ?side3 ?side4 ?side5 ?side6 ?side7 ?side8 A69.out).mono ?_); (case side1 => exact pkC (Kd.R_reads' HO_940001.out).2.2); (case side2 => exact (Kd.R_reads' HO_940001.out).2.1); (case side3 => exact pkC (Kd.R_reads' HO_940002.out).2.2); (case side4 => exact (Kd.R_reads' HO_940002.out).2.1); (case side5 => exact pkC (Kd.R_reads' HO_923001.out).2.2); (case side6 => exact (Kd.R_reads' HO_923001.out).2.1); (case side7 => exact pkC (Kd.R_reads' HO_923002.out).2.2); (case side8 => exact (Kd.R_reads' HO_923002.out).2.1); rintro e w78 ⟨rfl, hb⟩; replace HO_923001 := am (Kd.R_below (pkR HO_923001.out) hb); replace HO_923002 := am (Kd.R_below (pkR HO_923002.out) hb); replace HO_931001 := am (Kd.R_below (pkR HO_931001.out) hb); replace HO_931002 := am (Kd.R_below (pkR HO_931002.out) hb); replace HO_940001 := am (Kd.R_below (pkR HO_940001.out) hb); replace HO_940002 := am (Kd.R_below (pkR HO_940002.out) hb); replace HO944 := am (Kd.R_below (pkR HO944.out) hb); replace HO947 := am (Kd.R_below (pkR HO947.out) hb); replace BK905 := am (blk_below (pkK BK905.out) hb); replace BK922 := am (blk_below (pkK BK922.out) hb); replace BK930 := am (blk_below (pkK BK930.out) hb); replace BK939 := am (blk_below (pkK BK939.out) hb); replace HB := am (below_step (pkW HB.out) hb); (try clear hb)))
         go_meet
         case rel => exact ⟨_, ((t938 != t921)), rfx, H', ⟨by have := HJ11.out; first | omega | exact Nat.le_refl _⟩, ⟨by (with_reducible repeat (first | apply Kd.R_alloc | apply Kd.R_drewN | apply Kd.R_drew)); exact Kd.R_mono HO_923001.out (fun _ hk => ⟨hk.1, ⟨hk.2.1, ⟨hk.2.2.1, ⟨hk.2.2.2.1, hk.2.2.2.2.1⟩⟩⟩⟩)⟩, ⟨by (with_reducible repeat (first | apply Kd.R_alloc | apply Kd.R_drewN | apply Kd.R_drew)); exact Kd.R_mono HO_923002.out (fun _ hk => ⟨hk.1, ⟨hk.2.1, ⟨hk.2.2.1, ⟨hk.2.2.2.1, hk.2.2.2.2.1⟩⟩⟩⟩)⟩, ⟨by (with_reducible repeat (first | apply Kd.R_alloc | apply Kd.R_drewN | apply Kd.R_drew)); exact Kd.R_mono HO_931001.out (fun _ hk => ⟨hk.1.1.1, ⟨hk.1.1.2.1, ⟨hk.1.1.2.2.1, ⟨hk.1.1.2.2.2.1, hk.1.1.2.2.2.2⟩⟩⟩⟩)⟩, ⟨by (with_reducible repeat (first | apply Kd.R_alloc | apply Kd.R_drewN | apply Kd.R_drew)); exact Kd.R_mono HO_931002.out (fun _ hk => ⟨hk.1.1.1, ⟨hk.1.1.2.1, ⟨hk.1.1.2.2.1, ⟨hk.1.1.2.2.2.1, hk.1.1.2.2.2.2⟩⟩⟩⟩)⟩, ⟨by (with_reducible repeat (first | apply Kd.R_alloc | apply Kd.R_drewN | apply Kd.R_drew)); exact Kd.R_mono HO_940001.out (fun _ hk => ⟨hk.1, ⟨hk.2.1, ⟨hk.2.2.1, ⟨hk.2.2.2.1, hk.2.2.2.2.1⟩⟩⟩⟩)⟩, ⟨by (with_reducible repeat (first | apply Kd.R_alloc | apply Kd.R_drewN | apply Kd.R_drew)); exact Kd.R_mono HO_940002.out (fun _ hk => ⟨hk.1, ⟨hk.2.1, ⟨hk.2.2.1, ⟨hk.2.2.2.1, hk.2.2.2.2.1⟩⟩⟩⟩)⟩, ⟨pkK BK905.out⟩, ⟨pkK BK922.out⟩, ⟨pkK BK930.out⟩, ⟨pkK BK939.out⟩, ⟨pkW HB.out⟩⟩
        ·replace c70 := Bool.eq_false_iff.mpr c70
         subst c70
         replace H : (laws_FnExactPassLatch.j1 kj11 a1 t921 true a0_0 l0_1 l0_2 t914 t915 t918 t931 t932 t935) = some r := by rw [if_neg (show ¬ (false = true) by decide)] at H; exact H
         cases kj11 with
         | zero => exact absurd H (by simp [laws_FnExactPassLatch.j1])
         | succ k_ => (simp only [laws_FnExactPassLatch.j1, if_pos] at H; exact absurd (Option.some.inj H) (by rw [HQ_.out]; simp))
      case rest =>
       clear HC57
       try clear c1
       try clear c2
       try clear p2
       try clear c3
       try clear c4
       try clear c4b0
       try clear c5
       try clear c6
       try clear c7
       try clear c10
       try clear c22
       try clear c23
       try clear c25
       try clear c27
       try clear c29
       try clear c30
       try clear c36
       try clear c37
       try clear c38
       try clear c42
       try clear c43
       try clear c44
       try clear c45
       try clear c46
       try clear c48
       try clear c49
       try clear c52
       try clear c55
       try clear c63
       try clear c64
       try clear c65
       try clear c68
       try clear c68b0
       try clear c70
       try clear c71
       try clear c72
       try clear c73
       try clear c75
       try clear c76
       try clear hcz14_0
       try clear hcz14_1
       try clear hcz14_2
       try clear hcz16_0
       try clear hcz16_1
       try clear hcz16_2
       try clear hcz23_0
       try clear hcz23_1
       try clear hcz23_2
       try clear hcz26_0
       try clear hcz26_1
       try clear hcz26_2
       try clear hcz31_0
       try clear hcz31_1
       try clear hcz31_2
       try clear hcz39_0
       try clear hcz39_1
       try clear hcz39_2
       try clear hcz47_0
       try clear hcz47_1
       try clear hcz47_2
       try clear hcz50_0
       try clear hcz50_1
       try clear hcz50_2
       try clear hcz66_0
       try clear hcz66_1
       try clear hcz66_2
       try clear hcz6_0
       try clear hcz6_1
       try clear hcz6_2
       try clear hcz74_0
       try clear hcz74_1
       try clear hcz74_2
       try clear hcz77_0
       try clear hcz77_1
       try clear hcz77_2
       try clear hfz14_0
       try clear hfz14_1
       try clear hfz14_2
       try clear hfz16_0
       try clear hfz16_1
       try clear hfz16_2
       try clear hfz23_0
       try clear hfz23_1
       try clear hfz23_2
       try clear hfz26_0
       try clear hfz26_1
       try clear hfz26_2
       try clear hfz31_0
       try clear hfz31_1
       try clear hfz31_2
       try clear hfz39_0
       try clear hfz39_1
       try clear hfz39_2
       try clear hfz47_0
       try clear hfz47_1
       try clear hfz47_2
       try clear hfz50_0
       try clear hfz50_1
       try clear hfz50_2
       try clear hfz66_0
       try clear hfz66_1
       try clear hfz66_2
       try clear hfz6_0
       try clear hfz6_1
       try clear hfz6_2
       try clear hfz74_0
       try clear hfz74_1
       try clear hfz74_2
       try clear hfz77_0
       try clear hfz77_1
       try clear hfz77_2
       try clear p2
       obtain ⟨kq, x65_56, rfl, HA, HJ56, HO_923001, HO_923002, HO_931001, HO_931002, HO_940001, HO_940002, BK905, BK922, BK930, BK939, HB⟩ := hcut
       have hl931001_56 := (Kd.R_reads' HO_931001.out).1
       rw [hl931001_56] at HO_931001
       (try simp only [hl931001_56])
       (try simp only [hl931001_56] at BK905)
       (try simp only [hl931001_56] at BK922)
       (try simp only [hl931001_56] at BK930)
       (try simp only [hl931001_56] at BK939)
       (try simp only [hl931001_56] at HO_923001)
       (try simp only [hl931001_56] at HO_923002)
       (try simp only [hl931001_56] at HO_931002)
       (try simp only [hl931001_56] at HO_940001)
       (try simp only [hl931001_56] at HO_940002)
       have hl931002_56 := (Kd.R_reads' HO_931002.out).1
       rw [hl931002_56] at HO_931002
       (try simp only [hl931002_56])
       (try simp only [hl931002_56] at BK905)
       (try simp only [hl931002_56] at BK922)
       (try simp only [hl931002_56] at BK930)
       (try simp only [hl931002_56] at BK939)
       (try simp only [hl931002_56] at HO_923001)
       (try simp only [hl931002_56] at HO_923002)
       (try simp only [hl931002_56] at HO_931001)
       (try simp only [hl931002_56] at HO_940001)
       (try simp only [hl931002_56] at HO_940002)
       cases kq with
       | zero => exact absurd HA.out (by simp [laws_FnExactPassLatch.j1])
       | succ kj56 =>
        have H := HA.out
        clear HA
        simp only [laws_FnExactPassLatch.j1] at H
        by_cases c79 : x65_56 = true
        ·subst c79
         replace H : (some false) = some r := by rw [if_pos rfl] at H; exact H
         exact absurd (Option.some.inj H) (by rw [HQ_.out]; simp)
        ·replace c79 := Bool.eq_false_iff.mpr c79
         subst c79
         replace H : ((laws_markLatch.f kj56 t931 t932 t935 1).bind fun bt953 => ((laws_heldLatch.f kj56 t931 bt953.2.1 bt953.2.2 1).bind fun t956 => (if t956 < 0 then (some false) else (if t956 = bt953.1 then ((laws_toLatch.f kj56 a0_0 l0_1 l0_2).bind fun bt957 => ((impl_PassLatch.f kj56 bt957.1 bt957.2.1 bt957.2.2 a1).bind fun bt964 => ((laws_eqLatch.f kj56 bt964.1 bt964.2.1 bt964.2.2.1 t914 t915 t918).bind fun t973 => (if t973 = true then (laws_FnExactPassLatch.j2 kj56 bt953.1 (bt964.2.2.2 != t921) t931 bt953.2.1 bt953.2.2) else (laws_FnExactPassLatch.j2 kj56 bt953.1 true t931 bt953.2.1 bt953.2.2))))) else (some false))))) = some r := by rw [if_neg (show ¬ (false = true) by decide)] at H; exact H
         replace H := Option.bind_eq_some_iff.mp H
         obtain ⟨⟨t953, t954, t955⟩, A800, H⟩ := H
         replace H : ((laws_heldLatch.f kj56 t931 t954 t955 1).bind fun t956 => (if t956 < 0 then (some false) else (if t956 = t953 then ((laws_toLatch.f kj56 a0_0 l0_1 l0_2).bind fun bt957 => ((impl_PassLatch.f kj56 bt957.1 bt957.2.1 bt957.2.2 a1).bind fun bt964 => ((laws_eqLatch.f kj56 bt964.1 bt964.2.1 bt964.2.2.1 t914 t915 t918).bind fun t973 => (if t973 = true then (laws_FnExactPassLatch.j2 kj56 t953 (bt964.2.2.2 != t921) t931 t954 t955) else (laws_FnExactPassLatch.j2 kj56 t953 true t931 t954 t955))))) else (some false)))) = some r := H
         have A80 := am A800
         clear A800
         replace H := Option.bind_eq_some_iff.mp H
         obtain ⟨t956, A810, H⟩ := H
         replace H : (if t956 < 0 then (some false) else (if t956 = t953 then ((laws_toLatch.f kj56 a0_0 l0_1 l0_2).bind fun bt957 => ((impl_PassLatch.f kj56 bt957.1 bt957.2.1 bt957.2.2 a1).bind fun bt964 => ((laws_eqLatch.f kj56 bt964.1 bt964.2.1 bt964.2.2.1 t914 t915 t918).bind fun t973 => (if t973 = true then (laws_FnExactPassLatch.j2 kj56 t953 (bt964.2.2.2 != t921) t931 t954 t955) else (laws_FnExactPassLatch.j2 kj56 t953 true t931 t954 t955))))) else (some false))) = some r := H
         have A81 := am A810
         clear A810
         by_cases c82 : t956 < 0
         ·rw [if_pos c82] at H
          have c82b0 : decide (t956 < 0) = true := decide_eq_true c82
          clear c82
          exact absurd (Option.some.inj H) (by rw [HQ_.out]; simp)
         ·rw [if_neg c82] at H
          have c82b0 : decide (t956 < 0) = false := decide_eq_false c82
          clear c82
          by_cases c83 : t956 = t953
          ·rw [if_pos c83] at H
           have c83b0 : (t956 == t953) = true := beq_iff_eq.mpr c83
           have c83b1 : (t956 != t953) = false := bne_eq_false_iff_eq.mpr c83
           clear c83
           replace H := Option.bind_eq_some_iff.mp H
           obtain ⟨⟨t957, t958, t961⟩, A840, H⟩ := H
           replace H : ((impl_PassLatch.f kj56 t957 t958 t961 a1).bind fun bt964 => ((laws_eqLatch.f kj56 bt964.1 bt964.2.1 bt964.2.2.1 t914 t915 t918).bind fun t973 => (if t973 = true then (laws_FnExactPassLatch.j2 kj56 t953 (bt964.2.2.2 != t921) t931 t954 t955) else (laws_FnExactPassLatch.j2 kj56 t953 true t931 t954 t955)))) = some r := H
           have A84 := am A840
           clear A840
           replace H := Option.bind_eq_some_iff.mp H
           obtain ⟨⟨t964, t965, t968, t971⟩, A850, H⟩ := H
           replace H : ((laws_eqLatch.f kj56 t964 t965 t968 t914 t915 t918).bind fun t973 => (if t973 = true then (laws_FnExactPassLatch.j2 kj56 t953 (t971 != t921) t931 t954 t955) else (laws_FnExactPassLatch.j2 kj56 t953 true t931 t954 t955))) = some r := H
           have A85 := am A850
           clear A850
           have HC86 := am H
           clear H
           have hnb87 := NB939_905.out
           have hnc87 := NB905_939.out
           have hnb88 := NB939_922.out
           have hnc88 := NB922_939.out
           have hnb89 := NB939_930.out
           have hnc89 := NB930_939.out
           obtain ⟨hcz90_0, hcz90_1, hcz90_2, hfz90_0, hfz90_1, hfz90_2⟩ := bk3 BK939.out
           go_upto_region 25 with (first | ((with_reducible refine gate_callee (f := 36) rfl ?_); refine goesL_ (some 68) rfl rfl Try.func36 (by kernel_rfl) rfl #[.agg #[.int .i64 t931, .slice Ao40 t932.length co40, .slice Ao41 t935.length co41], .int .i64 1] rfl mpx ?_; (with_reducible refine (laws_markLatch.calls kj56 t931 (fun k_ => some k_ = (.slice Ao40 t932.length co40 : Value).ownBlock) (.slice Ao40 t932.length co40) t932 (fun k_ => some k_ = (.slice Ao41 t935.length co41 : Value).ownBlock) (.slice Ao41 t935.length co41) t935 1 t953 t954 t955 w _ ?side1 ?side2 ?side3 ?side4 ?side5 A80.out).mono ?_); (case side1 => repeat (first | (with_reducible first | exact HB.out | apply below_alloc | apply pw_below_drewN | apply below_drew1 | refine below_set ?_ GE905.out | refine below_set ?_ GE922.out | refine below_set ?_ GE930.out | refine below_set ?_ GE939.out) | exact HB.out)); (case side2 => exact Kd.R_tight rfl HO_940001.out); (case side3 => exact fun k_ e_ => (HO_940001.out.1 k_ e_.symm).2.2.2.2); (case side4 => exact Kd.R_tight rfl HO_940002.out); (case side5 => exact fun k_ e_ => (HO_940002.out.1 k_ e_.symm).2.2.2.2); rintro e w91 ⟨rfl, hy0, hy1, hb, hkp⟩; refine ⟨_, rfl, ?_⟩; replace HO_923001 := am (Kd.R_mono (ok' := fun k_ => some k_ ≠ (.slice Ao25 t918.length co25 : Value).ownBlock ∧ some k_ ≠ (.slice Ao32 t950.length co32 : Value).ownBlock ∧ some k_ ≠ (.slice Ao33 t951.length co33 : Value).ownBlock ∧ some k_ ≠ (.slice Ao40 t932.length co40 : Value).ownBlock ∧ some k_ ≠ (.slice Ao41 t935.length co41 : Value).ownBlock) (Kd.R_keptB (HO_923001.out) hkp (fun k_ hk_ hs_ => Or.elim hs_ (fun e_ => (hk_.2.2.2.1) e_) (fun e_ => (hk_.2.2.2.2) e_))) (fun k_ hk_ => ⟨hk_.1.1, hk_.1.2.1, hk_.1.2.2.1, hk_.1.2.2.2.1, hk_.1.2.2.2.2⟩)); replace HO_923002 := am (Kd.R_mono (ok' := fun k_ => some k_ ≠ (.slice Ao24 t915.length co24 : Value).ownBlock ∧ some k_ ≠ (.slice Ao32 t950.length co32 : Value).ownBlock ∧ some k_ ≠ (.slice Ao33 t951.length co33 : Value).ownBlock ∧ some k_ ≠ (.slice Ao40 t932.length co40 : Value).ownBlock ∧ some k_ ≠ (.slice Ao41 t935.length co41 : Value).ownBlock) (Kd.R_keptB (HO_923002.out) hkp (fun k_ hk_ hs_ => Or.elim hs_ (fun e_ => (hk_.2.2.2.1) e_) (fun e_ => (hk_.2.2.2.2) e_))) (fun k_ hk_ => ⟨hk_.1.1, hk_.1.2.1, hk_.1.2.2.1, hk_.1.2.2.2.1, hk_.1.2.2.2.2⟩)); replace HO_931001 := am (Kd.R_mono (ok' := fun k_ => some k_ ≠ (.slice Ao24 t915.length co24 : Value).ownBlock ∧ some k_ ≠ (.slice Ao25 t918.length co25 : Value).ownBlock ∧ some k_ ≠ (.slice Ao33 t951.length co33 : Value).ownBlock ∧ some k_ ≠ (.slice Ao40 t932.length co40 : Value).ownBlock ∧ some k_ ≠ (.slice Ao41 t935.length co41 : Value).ownBlock) (Kd.R_keptB (HO_931001.out) hkp (fun k_ hk_ hs_ => Or.elim hs_ (fun e_ => (hk_.2.2.2.1) e_) (fun e_ => (hk_.2.2.2.2) e_))) (fun k_ hk_ => ⟨hk_.1.1, hk_.1.2.1, hk_.1.2.2.1, hk_.1.2.2.2.1, hk_.1.2.2.2.2⟩)); replace HO_931002 := am (Kd.R_mono (ok' := fun k_ => some k_ ≠ (.slice Ao24 t915.length co24 : Value).ownBlock ∧ some k_ ≠ (.slice Ao25 t918.length co25 : Value).ownBlock ∧ some k_ ≠ (.slice Ao32 t950.length co32 : Value).ownBlock ∧ some k_ ≠ (.slice Ao40 t932.length co40 : Value).ownBlock ∧ some k_ ≠ (.slice Ao41 t935.length co41 : Value).ownBlock) (Kd.R_keptB (HO_931002.out) hkp (fun k_ hk_ hs_ => Or.elim hs_ (fun e_ => (hk_.2.2.2.1) e_) (fun e_ => (hk_.2.2.2.2) e_))) (fun k_ hk_ => ⟨hk_.1.1, hk_.1.2.1, hk_.1.2.2.1, hk_.1.2.2.2.1, hk_.1.2.2.2.2⟩)); replace BK905 := am (blk_kept (pkK BK905.out) hkp (fun hs_ => Or.elim hs_ (fun e_ => (fun e_ => (Kd.R_ne HO_940001.out BK905.out (by decide)) e_) e_) (fun e_ => (fun e_ => (Kd.R_ne HO_940002.out BK905.out (by decide)) e_) e_))); replace BK922 := am (blk_kept (pkK BK922.out) hkp (fun hs_ => Or.elim hs_ (fun e_ => (fun e_ => (Kd.R_ne HO_940001.out BK922.out (by decide)) e_) e_) (fun e_ => (fun e_ => (Kd.R_ne HO_940002.out BK922.out (by decide)) e_) e_))); replace BK930 := am (blk_kept (pkK BK930.out) hkp (fun hs_ => Or.elim hs_ (fun e_ => (fun e_ => (Kd.R_ne HO_940001.out BK930.out (by decide)) e_) e_) (fun e_ => (fun e_ => (Kd.R_ne HO_940002.out BK930.out (by decide)) e_) e_))); replace BK939 := am (blk_kept (pkK BK939.out) hkp (fun hs_ => Or.elim hs_ (fun e_ => (fun e_ => (Kd.R_ne HO_940001.out BK939.out (by decide)) e_) e_) (fun e_ => (fun e_ => (Kd.R_ne HO_940002.out BK939.out (by decide)) e_) e_))); replace HO_940001 := am (Kd.R_reok rfl hy0 (fun k_ e_ => HO_940001.out.1 k_ e_)); replace HO_940002 := am (Kd.R_reok rfl hy1 (fun k_ e_ => HO_940002.out.1 k_ e_)); replace HB := am (hb); (try clear hb); (try clear hkp); (try clear hy0); (try clear hy1); obtain ⟨hcz92_0, hcz92_1, hcz92_2, hfz92_0, hfz92_1, hfz92_2⟩ := bk3 BK939.out) | ((with_reducible refine gate_callee (f := 37) rfl ?_); refine goesL_ (some 71) rfl rfl Try.func37 (by kernel_rfl) rfl #[.agg #[.int .i64 t931, .slice Ao40 t954.length co40, .slice Ao41 t955.length co41], .int .i64 1] rfl (by (try simp only [List.map_toArray, List.map_cons, List.map_nil]); first | done | (rw [show t954.length = t932.length from (Kd.R_reads' HO_940001.out).1.symm, show t955.length = t935.length from (Kd.R_reads' HO_940002.out).1.symm] <;> rfl) | rfl | (simp only [List.length_drop, List.length_take]; rfl) | (go_simp; done) | (simp [*]; done)) ?_; (with_reducible refine (laws_heldLatch.calls kj56 t931 _ _ t954 _ _ t955 1 t956 _ ?side1 ?side2 ?side3 ?side4 A81.out).mono ?_); (case side1 => exact pkC (Kd.R_reads' HO_940001.out).2.2); (case side2 => rw [show t954.length = t932.length from (Kd.R_reads' HO_940001.out).1.symm]; exact (Kd.R_reads' HO_940001.out).2.1); (case side3 => exact pkC (Kd.R_reads' HO_940002.out).2.2); (case side4 => rw [show t955.length = t935.length from (Kd.R_reads' HO_940002.out).1.symm]; exact (Kd.R_reads' HO_940002.out).2.1); rintro e w93 ⟨rfl, hb⟩; refine ⟨_, rfl, ?_⟩; replace HO_923001 := am (Kd.R_below (pkR HO_923001.out) hb); replace HO_923002 := am (Kd.R_below (pkR HO_923002.out) hb); replace HO_931001 := am (Kd.R_below (pkR HO_931001.out) hb); replace HO_931002 := am (Kd.R_below (pkR HO_931002.out) hb); replace HO_940001 := am (Kd.R_below (pkR HO_940001.out) hb); replace HO_940002 := am (Kd.R_below (pkR HO_940002.out) hb); replace BK905 := am (blk_below (pkK BK905.out) hb); replace BK922 := am (blk_below (pkK BK922.out) hb); replace BK930 := am (blk_below (pkK BK930.out) hb); replace BK939 := am (blk_below (pkK BK939.out) hb); replace HB := am (below_step (pkW HB.out) hb); (try clear hb); have hnb94 := NB905_922.out; have hnc94 := NB922_905.out; have hnb95 := NB905_930.out; have hnc95 := NB930_905.out; obtain ⟨hcz96_0, hcz96_1, hcz96_2, hfz96_0, hfz96_1, hfz96_2⟩ := bk3 BK905.out) | ((with_reducible refine gate_callee (f := 25) rfl ?_); refine goesL_ (some 79) rfl rfl Try.func25 (by kernel_rfl) rfl #[.agg #[.int .i64 a0_0, .slice A0_1 l0_1.length c0_1, .slice A0_2 l0_2.length c0_2]] rfl mpx ?_; (with_reducible refine (laws_toLatch.calls kj56 a0_0 _ _ l0_1 _ _ l0_2 t957 t958 t961 _ ?side1 ?side2 ?side3 ?side4 A84.out).mono ?_); (case side1 => exact pkC (Kd.C_below HR0_1.out HB.out)); (case side2 => exact HC0_1.out); (case side3 => exact pkC (Kd.C_below HR0_2.out HB.out)); (case side4 => exact HC0_2.out); rintro e w97 ⟨v959, v962, rfl, ho0, ho1, hb⟩; refine ⟨_, rfl, ?_⟩; have HO960 := am (Kd.R_lower (Kd.R_new' (Kd.R_new' (Kd.R_new' (Kd.R_new' (Kd.R_new' (Kd.R_new' ho0 (Kd.R_lt (pkR HO_923001.out))) (Kd.R_lt (pkR HO_923002.out))) (Kd.R_lt (pkR HO_931001.out))) (Kd.R_lt (pkR HO_931002.out))) (Kd.R_lt (pkR HO_940001.out))) (Kd.R_lt (pkR HO_940002.out))) (below_size (pkW HB.out))); have HO963 := am (Kd.R_lower (Kd.R_new' (Kd.R_new' (Kd.R_new' (Kd.R_new' (Kd.R_new' (Kd.R_new' ho1 (Kd.R_lt (pkR HO_923001.out))) (Kd.R_lt (pkR HO_923002.out))) (Kd.R_lt (pkR HO_931001.out))) (Kd.R_lt (pkR HO_931002.out))) (Kd.R_lt (pkR HO_940001.out))) (Kd.R_lt (pkR HO_940002.out))) (below_size (pkW HB.out))); replace HO_923001 := am (Kd.R_mono (Kd.R_told (Kd.R_told (Kd.R_old (pkR HO_923001.out) hb) (Kd.R_base ho0)) (Kd.R_base ho1)) (fun _ h_ => h_.1)); replace HO_923002 := am (Kd.R_mono (Kd.R_told (Kd.R_told (Kd.R_old (pkR HO_923002.out) hb) (Kd.R_base ho0)) (Kd.R_base ho1)) (fun _ h_ => h_.1)); replace HO_931001 := am (Kd.R_mono (Kd.R_told (Kd.R_told (Kd.R_old (pkR HO_931001.out) hb) (Kd.R_base ho0)) (Kd.R_base ho1)) (fun _ h_ => h_.1)); replace HO_931002 := am (Kd.R_mono (Kd.R_told (Kd.R_told (Kd.R_old (pkR HO_931002.out) hb) (Kd.R_base ho0)) (Kd.R_base ho1)) (fun _ h_ => h_.1)); replace HO_940001 := am (Kd.R_mono (Kd.R_told (Kd.R_told (Kd.R_old (pkR HO_940001.out) hb) (Kd.R_base ho0)) (Kd.R_base ho1)) (fun _ h_ => h_.1)); replace HO_940002 := am (Kd.R_mono (Kd.R_told (Kd.R_told (Kd.R_old (pkR HO_940002.out) hb) (Kd.R_base ho0)) (Kd.R_base ho1)) (fun _ h_ => h_.1)); replace BK905 := am (blk_below (pkK BK905.out) hb); replace BK922 := am (blk_below (pkK BK922.out) hb); replace BK930 := am (blk_below (pkK BK930.out) hb); replace BK939 := am (blk_below (pkK BK939.out) hb); replace HB := am (below_step (pkW HB.out) hb); (try clear hb ho0 ho1); obtain ⟨Ao98, co98, eo98⟩ := Kd.R_slice HO960.out; subst eo98; obtain ⟨Ao99, co99, eo99⟩ := Kd.R_slice HO963.out; subst eo99) | ((with_reducible refine gate_callee (f := 30) rfl ?_); refine goesL_ (some 81) rfl rfl Try.func30 (by kernel_rfl) rfl #[.agg #[.int .i64 t957, .slice Ao98 t958.length co98, .slice Ao99 t961.length co99], .int .i64 a1] rfl mpx ?_; (with_reducible refine (impl_PassLatch.calls kj56 t957 _ _ t958 _ _ t961 a1 t964 t965 t968 t971 _ ?side1 ?side2 ?side3 ?side4 A85.out).mono ?_); (case side1 => exact pkC (Kd.R_reads' HO960.out).2.2); (case side2 => exact (Kd.R_reads' HO960.out).2.1); (case side3 => exact pkC (Kd.R_reads' HO963.out).2.2); (case side4 => exact (Kd.R_reads' HO963.out).2.1); rintro e w100 ⟨v966, v969, rfl, ho0, ho1, hb⟩; refine ⟨_, rfl, ?_⟩; have HO967 := am (Kd.R_lower (Kd.R_new' (Kd.R_new' (Kd.R_new' (Kd.R_new' (Kd.R_new' (Kd.R_new' (Kd.R_new' (Kd.R_new' ho0 (Kd.R_lt (pkR HO_923001.out))) (Kd.R_lt (pkR HO_923002.out))) (Kd.R_lt (pkR HO_931001.out))) (Kd.R_lt (pkR HO_931002.out))) (Kd.R_lt (pkR HO_940001.out))) (Kd.R_lt (pkR HO_940002.out))) (Kd.R_lt (pkR HO960.out))) (Kd.R_lt (pkR HO963.out))) (below_size (pkW HB.out))); have HO970 := am (Kd.R_lower (Kd.R_new' (Kd.R_new' (Kd.R_new' (Kd.R_new' (Kd.R_new' (Kd.R_new' (Kd.R_new' (Kd.R_new' ho1 (Kd.R_lt (pkR HO_923001.out))) (Kd.R_lt (pkR HO_923002.out))) (Kd.R_lt (pkR HO_931001.out))) (Kd.R_lt (pkR HO_931002.out))) (Kd.R_lt (pkR HO_940001.out))) (Kd.R_lt (pkR HO_940002.out))) (Kd.R_lt (pkR HO960.out))) (Kd.R_lt (pkR HO963.out))) (below_size (pkW HB.out))); replace HO_923001 := am (Kd.R_mono (Kd.R_told (Kd.R_told (Kd.R_old (pkR HO_923001.out) hb) (Kd.R_base ho0)) (Kd.R_base ho1)) (fun _ h_ => h_.1)); replace HO_923002 := am (Kd.R_mono (Kd.R_told (Kd.R_told (Kd.R_old (pkR HO_923002.out) hb) (Kd.R_base ho0)) (Kd.R_base ho1)) (fun _ h_ => h_.1)); replace HO_931001 := am (Kd.R_mono (Kd.R_told (Kd.R_told (Kd.R_old (pkR HO_931001.out) hb) (Kd.R_base ho0)) (Kd.R_base ho1)) (fun _ h_ => h_.1)); replace HO_931002 := am (Kd.R_mono (Kd.R_told (Kd.R_told (Kd.R_old (pkR HO_931002.out) hb) (Kd.R_base ho0)) (Kd.R_base ho1)) (fun _ h_ => h_.1)); replace HO_940001 := am (Kd.R_mono (Kd.R_told (Kd.R_told (Kd.R_old (pkR HO_940001.out) hb) (Kd.R_base ho0)) (Kd.R_base ho1)) (fun _ h_ => h_.1)); replace HO_940002 := am (Kd.R_mono (Kd.R_told (Kd.R_told (Kd.R_old (pkR HO_940002.out) hb) (Kd.R_base ho0)) (Kd.R_base ho1)) (fun _ h_ => h_.1)); replace HO960 := am (Kd.R_mono (Kd.R_told (Kd.R_told (Kd.R_old (pkR HO960.out) hb) (Kd.R_base ho0)) (Kd.R_base ho1)) (fun _ h_ => h_.1)); replace HO963 := am (Kd.R_mono (Kd.R_told (Kd.R_told (Kd.R_old (pkR HO963.out) hb) (Kd.R_base ho0)) (Kd.R_base ho1)) (fun _ h_ => h_.1)); replace BK905 := am (blk_below (pkK BK905.out) hb); replace BK922 := am (blk_below (pkK BK922.out) hb); replace BK930 := am (blk_below (pkK BK930.out) hb); replace BK939 := am (blk_below (pkK BK939.out) hb); replace HB := am (below_step (pkW HB.out) hb); (try clear hb ho0 ho1)) | ((with_reducible refine gate_dst (N := 14) rfl ?_); refine box_event ?hg (N := 14) ?hd (cs := #[.int .i64 0, .slice none 0 0, .slice none 0 0]) (t := 46) ?hr ?_; (case hd => rfl); (case hg => rfl); (case hr => first | (go_simp; done) | (go_simp; rfl)); intro gb972 hg w101 hbox hb; replace HO_923001 := am (Kd.R_below (pkR HO_923001.out) hb); replace HO_923002 := am (Kd.R_below (pkR HO_923002.out) hb); replace HO_931001 := am (Kd.R_below (pkR HO_931001.out) hb); replace HO_931002 := am (Kd.R_below (pkR HO_931002.out) hb); replace HO_940001 := am (Kd.R_below (pkR HO_940001.out) hb); replace HO_940002 := am (Kd.R_below (pkR HO_940002.out) hb); replace HO960 := am (Kd.R_below (pkR HO960.out) hb); replace HO963 := am (Kd.R_below (pkR HO963.out) hb); replace HO967 := am (Kd.R_below (pkR HO967.out) hb); replace HO970 := am (Kd.R_below (pkR HO970.out) hb); have BK972 := am (hbox); have GW972 := am ((by rw [hg]; exact (below_size (pkW HB.out)) : w.heap.size ≤ gb972)); have GE972 := am ((by rw [hg]; exact (below_size (pkW HB.out)) : w.heap.size ≤ gb972)); replace HB := am (below_step (pkW HB.out) hb); have NB905_972 := am ((by rw [hg]; exact Nat.ne_of_lt (blk_lt (g := gb905) (o := .cells #[.int .i64 a0_0, .slice A0_1 l0_1.length c0_1, .slice A0_2 l0_2.length c0_2] 43 (0, 0)) (pkK BK905.out)) : gb905 ≠ gb972)); have NB972_905 := am ((by rw [hg]; exact Nat.ne_of_gt (blk_lt (g := gb905) (o := .cells #[.int .i64 a0_0, .slice A0_1 l0_1.length c0_1, .slice A0_2 l0_2.length c0_2] 43 (0, 0)) (pkK BK905.out)) : gb972 ≠ gb905)); replace BK905 := am (blk_below (pkK BK905.out) hb); have NB922_972 := am ((by rw [hg]; exact Nat.ne_of_lt (blk_lt (g := gb922) (o := .cells #[.int .i64 t914, .slice Ao24 t915.length co24, .slice Ao25 t918.length co25] 46 (0, 0)) (pkK BK922.out)) : gb922 ≠ gb972)); have NB972_922 := am ((by rw [hg]; exact Nat.ne_of_gt (blk_lt (g := gb922) (o := .cells #[.int .i64 t914, .slice Ao24 t915.length co24, .slice Ao25 t918.length co25] 46 (0, 0)) (pkK BK922.out)) : gb972 ≠ gb922)); replace BK922 := am (blk_below (pkK BK922.out) hb); have NB930_972 := am ((by rw [hg]; exact Nat.ne_of_lt (blk_lt (g := gb930) (o := .cells #[.int .i64 t923, .slice Ao32 t950.length co32, .slice Ao33 t951.length co33] 46 (0, 0)) (pkK BK930.out)) : gb930 ≠ gb972)); have NB972_930 := am ((by rw [hg]; exact Nat.ne_of_gt (blk_lt (g := gb930) (o := .cells #[.int .i64 t923, .slice Ao32 t950.length co32, .slice Ao33 t951.length co33] 46 (0, 0)) (pkK BK930.out)) : gb972 ≠ gb930)); replace BK930 := am (blk_below (pkK BK930.out) hb); have NB939_972 := am ((by rw [hg]; exact Nat.ne_of_lt (blk_lt (g := gb939) (o := .cells #[.int .i64 t931, .slice Ao40 t932.length co40, .slice Ao41 t935.length co41] 46 (0, 0)) (pkK BK939.out)) : gb939 ≠ gb972)); have NB972_939 := am ((by rw [hg]; exact Nat.ne_of_gt (blk_lt (g := gb939) (o := .cells #[.int .i64 t931, .slice Ao40 t932.length co40, .slice Ao41 t935.length co41] 46 (0, 0)) (pkK BK939.out)) : gb972 ≠ gb939)); replace BK939 := am (blk_below (pkK BK939.out) hb); clear hb hbox hg; have hnb102 := NB972_905.out; have hnc102 := NB905_972.out; have hnb103 := NB972_922.out; have hnc103 := NB922_972.out; have hnb104 := NB972_930.out; have hnc104 := NB930_972.out; have hnb105 := NB972_939.out; have hnc105 := NB939_972.out; obtain ⟨hcz106_0, hcz106_1, hcz106_2, hfz106_0, hfz106_1, hfz106_2⟩ := bk3 BK972.out; obtain ⟨Ao107, co107, eo107⟩ := Kd.R_slice HO967.out; subst eo107; obtain ⟨Ao108, co108, eo108⟩ := Kd.R_slice HO970.out; subst eo108))
           (try simp only [Act.put, List.setIfInBounds_toArray, List.set_cons_zero, List.set_cons_succ])
           go_cut [92] (fun v92 wc => ∃ (kq : Nat) (x92_85 : Bool), v92 = .bool x92_85 ∧ Aside0 (laws_FnExactPassLatch.j2 kq t953 x92_85 t931 t954 t955 = some r) ∧ Aside0 (kq ≤ kj56) ∧ Aside0 (Kd.R (Kd.int .i64) 3 wc w.heap.size (fun k_ => some k_ ≠ ((.slice Ao25 t918.length co25) : Value).ownBlock ∧ some k_ ≠ ((.slice Ao32 t950.length co32) : Value).ownBlock ∧ some k_ ≠ ((.slice Ao33 t951.length co33) : Value).ownBlock ∧ some k_ ≠ ((.slice Ao40 t932.length co40) : Value).ownBlock ∧ some k_ ≠ ((.slice Ao41 t935.length co41) : Value).ownBlock ∧ some k_ ≠ ((.slice Ao107 t965.length co107) : Value).ownBlock ∧ some k_ ≠ ((.slice Ao108 t968.length co108) : Value).ownBlock) (.slice Ao24 t915.length co24) t915) ∧ Aside0 (Kd.R (Kd.int .i64) 3 wc w.heap.size (fun k_ => some k_ ≠ ((.slice Ao24 t915.length co24) : Value).ownBlock ∧ some k_ ≠ ((.slice Ao32 t950.length co32) : Value).ownBlock ∧ some k_ ≠ ((.slice Ao33 t951.length co33) : Value).ownBlock ∧ some k_ ≠ ((.slice Ao40 t932.length co40) : Value).ownBlock ∧ some k_ ≠ ((.slice Ao41 t935.length co41) : Value).ownBlock ∧ some k_ ≠ ((.slice Ao107 t965.length co107) : Value).ownBlock ∧ some k_ ≠ ((.slice Ao108 t968.length co108) : Value).ownBlock) (.slice Ao25 t918.length co25) t918) ∧ Aside0 (Kd.R (Kd.int .i64) 3 wc w.heap.size (fun k_ => some k_ ≠ ((.slice Ao24 t915.length co24) : Value).ownBlock ∧ some k_ ≠ ((.slice Ao25 t918.length co25) : Value).ownBlock ∧ some k_ ≠ ((.slice Ao33 t951.length co33) : Value).ownBlock ∧ some k_ ≠ ((.slice Ao40 t932.length co40) : Value).ownBlock ∧ some k_ ≠ ((.slice Ao41 t935.length co41) : Value).ownBlock ∧ some k_ ≠ ((.slice Ao107 t965.length co107) : Value).ownBlock ∧ some k_ ≠ ((.slice Ao108 t968.length co108) : Value).ownBlock) (.slice Ao32 t950.length co32) t950) ∧ Aside0 (Kd.R (Kd.int .i64) 3 wc w.heap.size (fun k_ => some k_ ≠ ((.slice Ao24 t915.length co24) : Value).ownBlock ∧ some k_ ≠ ((.slice Ao25 t918.length co25) : Value).ownBlock ∧ some k_ ≠ ((.slice Ao32 t950.length co32) : Value).ownBlock ∧ some k_ ≠ ((.slice Ao40 t932.length co40) : Value).ownBlock ∧ some k_ ≠ ((.slice Ao41 t935.length co41) : Value).ownBlock ∧ some k_ ≠ ((.slice Ao107 t965.length co107) : Value).ownBlock ∧ some k_ ≠ ((.slice Ao108 t968.length co108) : Value).ownBlock) (.slice Ao33 t951.length co33) t951) ∧ Aside0 (Kd.R (Kd.int .i64) 3 wc w.heap.size (fun k_ => some k_ ≠ ((.slice Ao24 t915.length co24) : Value).ownBlock ∧ some k_ ≠ ((.slice Ao25 t918.length co25) : Value).ownBlock ∧ some k_ ≠ ((.slice Ao32 t950.length co32) : Value).ownBlock ∧ some k_ ≠ ((.slice Ao33 t951.length co33) : Value).ownBlock ∧ some k_ ≠ ((.slice Ao41 t935.length co41) : Value).ownBlock ∧ some k_ ≠ ((.slice Ao107 t965.length co107) : Value).ownBlock ∧ some k_ ≠ ((.slice Ao108 t968.length co108) : Value).ownBlock) (.slice Ao40 t932.length co40) t954) ∧ Aside0 (Kd.R (Kd.int .i64) 3 wc w.heap.size (fun k_ => some k_ ≠ ((.slice Ao24 t915.length co24) : Value).ownBlock ∧ some k_ ≠ ((.slice Ao25 t918.length co25) : Value).ownBlock ∧ some k_ ≠ ((.slice Ao32 t950.length co32) : Value).ownBlock ∧ some k_ ≠ ((.slice Ao33 t951.length co33) : Value).ownBlock ∧ some k_ ≠ ((.slice Ao40 t932.length co40) : Value).ownBlock ∧ some k_ ≠ ((.slice Ao107 t965.length co107) : Value).ownBlock ∧ some k_ ≠ ((.slice Ao108 t968.length co108) : Value).ownBlock) (.slice Ao41 t935.length co41) t955) ∧ Aside0 (Kd.R (Kd.int .i64) 3 wc w.heap.size (fun k_ => some k_ ≠ ((.slice Ao24 t915.length co24) : Value).ownBlock ∧ some k_ ≠ ((.slice Ao25 t918.length co25) : Value).ownBlock ∧ some k_ ≠ ((.slice Ao32 t950.length co32) : Value).ownBlock ∧ some k_ ≠ ((.slice Ao33 t951.length co33) : Value).ownBlock ∧ some k_ ≠ ((.slice Ao40 t932.length co40) : Value).ownBlock ∧ some k_ ≠ ((.slice Ao41 t935.length co41) : Value).ownBlock ∧ some k_ ≠ ((.slice Ao108 t968.length co108) : Value).ownBlock) (.slice Ao107 t965.length co107) t965) ∧ Aside0 (Kd.R (Kd.int .i64) 3 wc w.heap.size (fun k_ => some k_ ≠ ((.slice Ao24 t915.length co24) : Value).ownBlock ∧ some k_ ≠ ((.slice Ao25 t918.length co25) : Value).ownBlock ∧ some k_ ≠ ((.slice Ao32 t950.length co32) : Value).ownBlock ∧ some k_ ≠ ((.slice Ao33 t951.length co33) : Value).ownBlock ∧ some k_ ≠ ((.slice Ao40 t932.length co40) : Value).ownBlock ∧ some k_ ≠ ((.slice Ao41 t935.length co41) : Value).ownBlock ∧ some k_ ≠ ((.slice Ao107 t965.length co107) : Value).ownBlock) (.slice Ao108 t968.length co108) t968) ∧ Aside0 (wc.heap[gb905]? = some (.cells #[.int .i64 a0_0, (.slice A0_1 l0_1.length c0_1), (.slice A0_2 l0_2.length c0_2)] 43 (0, 0))) ∧ Aside0 (wc.heap[gb922]? = some (.cells #[.int .i64 t914, (.slice Ao24 t915.length co24), (.slice Ao25 t918.length co25)] 46 (0, 0))) ∧ Aside0 (wc.heap[gb930]? = some (.cells #[.int .i64 t923, (.slice Ao32 t950.length co32), (.slice Ao33 t951.length co33)] 46 (0, 0))) ∧ Aside0 (wc.heap[gb939]? = some (.cells #[.int .i64 t931, (.slice Ao40 t932.length co40), (.slice Ao41 t935.length co41)] 46 (0, 0))) ∧ Aside0 (wc.heap[gb972]? = some (.cells #[.int .i64 t964, (.slice Ao107 t965.length co107), (.slice Ao108 t968.length co108)] 46 (0, 0))) ∧ Aside0 (Below w.heap.size w wc))
           case first =>
            have H := HC86.out
            clear HC86
            replace H := Option.bind_eq_some_iff.mp H
            obtain ⟨t973, A1090, H⟩ := H
            replace H : (if t973 = true then (laws_FnExactPassLatch.j2 kj56 t953 (t971 != t921) t931 t954 t955) else (laws_FnExactPassLatch.j2 kj56 t953 true t931 t954 t955)) = some r := H
            have A109 := am A1090
            clear A1090
            by_cases c110 : t973 = true
            ·subst c110
             replace H : (laws_FnExactPassLatch.j2 kj56 t953 (t971 != t921) t931 t954 t955) = some r := by rw [if_pos rfl] at H; exact H
             have H' := am H
             clear H
             have hnb111 := NB972_905.out
             have hnc111 := NB905_972.out
             have hnb112 := NB972_922.out
             have hnc112 := NB922_972.out
             have hnb113 := NB972_930.out
             have hnc113 := NB930_972.out
             have hnb114 := NB972_939.out
             have hnc114 := NB939_972.out
             obtain ⟨hcz115_0, hcz115_1, hcz115_2, hfz115_0, hfz115_1, hfz115_2⟩ := bk3 BK972.out
             have hnb116 := NB922_905.out
             have hnc116 := NB905_922.out
             have hnb117 := NB922_930.out
             have hnc117 := NB930_922.out
             have hnb118 := NB922_939.out
             have hnc118 := NB939_922.out
             obtain ⟨hcz119_0, hcz119_1, hcz119_2, hfz119_0, hfz119_1, hfz119_2⟩ := bk3 BK922.out
             go_wp2_with (first | ((with_reducible refine gate_callee (f := 27) rfl ?_); refine goesL_ (some 86) rfl rfl Try.func27 (by kernel_rfl) rfl #[.agg #[.int .i64 t964, .slice Ao107 t965.length co107, .slice Ao108 t968.length co108], .agg #[.int .i64 t914, .slice Ao24 t915.length co24, .slice Ao25 t918.length co25]] rfl mpx ?_; (with_reducible refine (laws_eqLatch.calls kj56 t964 _ _ t965 _ _ t968 t914 _ _ t915 _ _ t918 true _ ?side1 ?side2 ?side3 ?side4 ?side5 ?side6 ?side7 ?side8 A109.out).mono ?_); (case side1 => refine (Kd.R_reads' (e := 3) (base := w.heap.size) (ok := fun k_ => ((((((((some k_ ≠ (.slice Ao108 t968.length co108 : Value).ownBlock ∧ some k_ ≠ (.slice Ao24 t915.length co24 : Value).ownBlock) ∧ some k_ ≠ (.slice Ao25 t918.length co25 : Value).ownBlock) ∧ some k_ ≠ (.slice Ao32 t950.length co32 : Value).ownBlock) ∧ some k_ ≠ (.slice Ao33 t951.length co33 : Value).ownBlock) ∧ some k_ ≠ (.slice Ao40 t932.length co40 : Value).ownBlock) ∧ some k_ ≠ (.slice Ao41 t935.length co41 : Value).ownBlock) ∧ some k_ ≠ (.slice Ao98 t958.length co98 : Value).ownBlock) ∧ some k_ ≠ (.slice Ao99 t961.length co99 : Value).ownBlock)) (n := t965.length) (c := co107) ?_).2.2; exact (by (with_reducible repeat (first | apply Kd.R_alloc | apply Kd.R_drewN | apply Kd.R_drew)); exact (Kd.R_mono (Kd.R_far (p := ⟨gb972, 2, none⟩) (Kd.R_far (p := ⟨gb972, 1, none⟩) (Kd.R_far (p := ⟨gb972, 0, none⟩) (Kd.R_types HO967.out BK972.out (by decide)) (fun _ hk => hk.2) (.int .i64 t964)) (fun _ hk => hk.2) (.slice Ao107 t965.length co107)) (fun _ hk => hk.2) (.slice Ao108 t968.length co108)) (fun _ h_ => h_.1)))); (case side2 => exact (Kd.R_reads' HO967.out).2.1); (case side3 => refine (Kd.R_reads' (e := 3) (base := w.heap.size) (ok := fun k_ => ((((((((some k_ ≠ (.slice Ao107 t965.length co107 : Value).ownBlock ∧ some k_ ≠ (.slice Ao24 t915.length co24 : Value).ownBlock) ∧ some k_ ≠ (.slice Ao25 t918.length co25 : Value).ownBlock) ∧ some k_ ≠ (.slice Ao32 t950.length co32 : Value).ownBlock) ∧ some k_ ≠ (.slice Ao33 t951.length co33 : Value).ownBlock) ∧ some k_ ≠ (.slice Ao40 t932.length co40 : Value).ownBlock) ∧ some k_ ≠ (.slice Ao41 t935.length co41 : Value).ownBlock) ∧ some k_ ≠ (.slice Ao98 t958.length co98 : Value).ownBlock) ∧ some k_ ≠ (.slice Ao99 t961.length co99 : Value).ownBlock)) (n := t968.length) (c := co108) ?_).2.2; exact (by (with_reducible repeat (first | apply Kd.R_alloc | apply Kd.R_drewN | apply Kd.R_drew)); exact (Kd.R_mono (Kd.R_far (p := ⟨gb972, 2, none⟩) (Kd.R_far (p := ⟨gb972, 1, none⟩) (Kd.R_far (p := ⟨gb972, 0, none⟩) (Kd.R_types HO970.out BK972.out (by decide)) (fun _ hk => hk.2) (.int .i64 t964)) (fun _ hk => hk.2) (.slice Ao107 t965.length co107)) (fun _ hk => hk.2) (.slice Ao108 t968.length co108)) (fun _ h_ => h_.1)))); (case side4 => exact (Kd.R_reads' HO970.out).2.1); (case side5 => refine (Kd.R_reads' (e := 3) (base := w.heap.size) (ok := fun k_ => (((((some k_ ≠ (.slice Ao25 t918.length co25 : Value).ownBlock ∧ (some k_ ≠ (.slice Ao32 t950.length co32 : Value).ownBlock ∧ (some k_ ≠ (.slice Ao33 t951.length co33 : Value).ownBlock ∧ (some k_ ≠ (.slice Ao40 t932.length co40 : Value).ownBlock ∧ some k_ ≠ (.slice Ao41 t935.length co41 : Value).ownBlock)))) ∧ some k_ ≠ (.slice Ao98 t958.length co98 : Value).ownBlock) ∧ some k_ ≠ (.slice Ao99 t961.length co99 : Value).ownBlock) ∧ some k_ ≠ (.slice Ao107 t965.length co107 : Value).ownBlock) ∧ some k_ ≠ (.slice Ao108 t968.length co108 : Value).ownBlock)) (n := t915.length) (c := co24) ?_).2.2; exact (by (with_reducible repeat (first | apply Kd.R_alloc | apply Kd.R_drewN | apply Kd.R_drew)); exact (Kd.R_mono (Kd.R_far (p := ⟨gb972, 2, none⟩) (Kd.R_far (p := ⟨gb972, 1, none⟩) (Kd.R_far (p := ⟨gb972, 0, none⟩) (Kd.R_types HO_923001.out BK972.out (by decide)) (fun _ hk => hk.2) (.int .i64 t964)) (fun _ hk => hk.2) (.slice Ao107 t965.length co107)) (fun _ hk => hk.2) (.slice Ao108 t968.length co108)) (fun _ h_ => h_.1)))); (case side6 => exact (Kd.R_reads' HO_923001.out).2.1); (case side7 => refine (Kd.R_reads' (e := 3) (base := w.heap.size) (ok := fun k_ => (((((some k_ ≠ (.slice Ao24 t915.length co24 : Value).ownBlock ∧ (some k_ ≠ (.slice Ao32 t950.length co32 : Value).ownBlock ∧ (some k_ ≠ (.slice Ao33 t951.length co33 : Value).ownBlock ∧ (some k_ ≠ (.slice Ao40 t932.length co40 : Value).ownBlock ∧ some k_ ≠ (.slice Ao41 t935.length co41 : Value).ownBlock)))) ∧ some k_ ≠ (.slice Ao98 t958.length co98 : Value).ownBlock) ∧ some k_ ≠ (.slice Ao99 t961.length co99 : Value).ownBlock) ∧ some k_ ≠ (.slice Ao107 t965.length co107 : Value).ownBlock) ∧ some k_ ≠ (.slice Ao108 t968.length co108 : Value).ownBlock)) (n := t918.length) (c := co25) ?_).2.2; exact (by (with_reducible repeat (first | apply Kd.R_alloc | apply Kd.R_drewN | apply Kd.R_drew)); exact (Kd.R_mono (Kd.R_far (p := ⟨gb972, 2, none⟩) (Kd.R_far (p := ⟨gb972, 1, none⟩) (Kd.R_far (p := ⟨gb972, 0, none⟩) (Kd.R_types HO_923002.out BK972.out (by decide)) (fun _ hk => hk.2) (.int .i64 t964)) (fun _ hk => hk.2) (.slice Ao107 t965.length co107)) (fun _ hk => hk.2) (.slice Ao108 t968.length co108)) (fun _ h_ => h_.1)))); (case side8 => exact (Kd.R_reads' HO_923002.out).2.1); rintro e w120 ⟨rfl, hb⟩; refine ⟨_, rfl, ?_⟩; replace HO_923001 := am (Kd.R_below (by (with_reducible repeat (first | apply Kd.R_alloc | apply Kd.R_drewN | apply Kd.R_drew)); exact (Kd.R_mono (Kd.R_far (p := ⟨gb972, 2, none⟩) (Kd.R_far (p := ⟨gb972, 1, none⟩) (Kd.R_far (p := ⟨gb972, 0, none⟩) (Kd.R_types HO_923001.out BK972.out (by decide)) (fun _ hk => hk.2) (.int .i64 t964)) (fun _ hk => hk.2) (.slice Ao107 t965.length co107)) (fun _ hk => hk.2) (.slice Ao108 t968.length co108)) (fun _ h_ => h_.1))) hb); replace HO_923002 := am (Kd.R_below (by (with_reducible repeat (first | apply Kd.R_alloc | apply Kd.R_drewN | apply Kd.R_drew)); exact (Kd.R_mono (Kd.R_far (p := ⟨gb972, 2, none⟩) (Kd.R_far (p := ⟨gb972, 1, none⟩) (Kd.R_far (p := ⟨gb972, 0, none⟩) (Kd.R_types HO_923002.out BK972.out (by decide)) (fun _ hk => hk.2) (.int .i64 t964)) (fun _ hk => hk.2) (.slice Ao107 t965.length co107)) (fun _ hk => hk.2) (.slice Ao108 t968.length co108)) (fun _ h_ => h_.1))) hb); replace HO_931001 := am (Kd.R_below (by (with_reducible repeat (first | apply Kd.R_alloc | apply Kd.R_drewN | apply Kd.R_drew)); exact (Kd.R_mono (Kd.R_far (p := ⟨gb972, 2, none⟩) (Kd.R_far (p := ⟨gb972, 1, none⟩) (Kd.R_far (p := ⟨gb972, 0, none⟩) (Kd.R_types HO_931001.out BK972.out (by decide)) (fun _ hk => hk.2) (.int .i64 t964)) (fun _ hk => hk.2) (.slice Ao107 t965.length co107)) (fun _ hk => hk.2) (.slice Ao108 t968.length co108)) (fun _ h_ => h_.1))) hb); replace HO_931002 := am (Kd.R_below (by (with_reducible repeat (first | apply Kd.R_alloc | apply Kd.R_drewN | apply Kd.R_drew)); exact (Kd.R_mono (Kd.R_far (p := ⟨gb972, 2, none⟩) (Kd.R_far (p := ⟨gb972, 1, none⟩) (Kd.R_far (p := ⟨gb972, 0, none⟩) (Kd.R_types HO_931002.out BK972.out (by decide)) (fun _ hk => hk.2) (.int .i64 t964)) (fun _ hk => hk.2) (.slice Ao107 t965.length co107)) (fun _ hk => hk.2) (.slice Ao108 t968.length co108)) (fun _ h_ => h_.1))) hb); replace HO_940001 := am (Kd.R_below (by (with_reducible repeat (first | apply Kd.R_alloc | apply Kd.R_drewN | apply Kd.R_drew)); exact (Kd.R_mono (Kd.R_far (p := ⟨gb972, 2, none⟩) (Kd.R_far (p := ⟨gb972, 1, none⟩) (Kd.R_far (p := ⟨gb972, 0, none⟩) (Kd.R_types HO_940001.out BK972.out (by decide)) (fun _ hk => hk.2) (.int .i64 t964)) (fun _ hk => hk.2) (.slice Ao107 t965.length co107)) (fun _ hk => hk.2) (.slice Ao108 t968.length co108)) (fun _ h_ => h_.1))) hb); replace HO_940002 := am (Kd.R_below (by (with_reducible repeat (first | apply Kd.R_alloc | apply Kd.R_drewN | apply Kd.R_drew)); exact (Kd.R_mono (Kd.R_far (p := ⟨gb972, 2, none⟩) (Kd.R_far (p := ⟨gb972, 1, none⟩) (Kd.R_far (p := ⟨gb972, 0, none⟩) (Kd.R_types HO_940002.out BK972.out (by decide)) (fun _ hk => hk.2) (.int .i64 t964)) (fun _ hk => hk.2) (.slice Ao107 t965.length co107)) (fun _ hk => hk.2) (.slice Ao108 t968.length co108)) (fun _ h_ => h_.1))) hb); replace HO960 := am (Kd.R_below (by (with_reducible repeat (first | apply Kd.R_alloc | apply Kd.R_drewN | apply Kd.R_drew)); exact (Kd.R_mono (Kd.R_far (p := ⟨gb972, 2, none⟩) (Kd.R_far (p := ⟨gb972, 1, none⟩) (Kd.R_far (p := ⟨gb972, 0, none⟩) (Kd.R_types HO960.out BK972.out (by decide)) (fun _ hk => hk.2) (.int .i64 t964)) (fun _ hk => hk.2) (.slice Ao107 t965.length co107)) (fun _ hk => hk.2) (.slice Ao108 t968.length co108)) (fun _ h_ => h_.1))) hb); replace HO963 := am (Kd.R_below (by (with_reducible repeat (first | apply Kd.R_alloc | apply Kd.R_drewN | apply Kd.R_drew)); exact (Kd.R_mono (Kd.R_far (p := ⟨gb972, 2, none⟩) (Kd.R_far (p := ⟨gb972, 1, none⟩) (Kd.R_far (p := ⟨gb972, 0, none⟩) (Kd.R_types HO963.out BK972.out (by decide)) (fun _ hk => hk.2) (.int .i64 t964)) (fun _ hk => hk.2) (.slice Ao107 t965.length co107)) (fun _ hk => hk.2) (.slice Ao108 t968.length co108)) (fun _ h_ => h_.1))) hb); replace HO967 := am (Kd.R_below (by (with_reducible repeat (first | apply Kd.R_alloc | apply Kd.R_drewN | apply Kd.R_drew)); exact (Kd.R_mono (Kd.R_far (p := ⟨gb972, 2, none⟩) (Kd.R_far (p := ⟨gb972, 1, none⟩) (Kd.R_far (p := ⟨gb972, 0, none⟩) (Kd.R_types HO967.out BK972.out (by decide)) (fun _ hk => hk.2) (.int .i64 t964)) (fun _ hk => hk.2) (.slice Ao107 t965.length co107)) (fun _ hk => hk.2) (.slice Ao108 t968.length co108)) (fun _ h_ => h_.1))) hb); replace HO970 := am (Kd.R_below (by (with_reducible repeat (first | apply Kd.R_alloc | apply Kd.R_drewN | apply Kd.R_drew)); exact (Kd.R_mono (Kd.R_far (p := ⟨gb972, 2, none⟩) (Kd.R_far (p := ⟨gb972, 1, none⟩) (Kd.R_far (p := ⟨gb972, 0, none⟩) (Kd.R_types HO970.out BK972.out (by decide)) (fun _ hk => hk.2) (.int .i64 t964)) (fun _ hk => hk.2) (.slice Ao107 t965.length co107)) (fun _ hk => hk.2) (.slice Ao108 t968.length co108)) (fun _ h_ => h_.1))) hb); replace BK905 := am (blk_below (g := gb905) (o := .cells #[.int .i64 a0_0, .slice A0_1 l0_1.length c0_1, .slice A0_2 l0_2.length c0_2] 43 (0, 0)) (by (with_reducible repeat (first | refine blk_drewN ?_ _ | refine blk_drew ?_ | refine blk_alloc ?_ _)); refine blk_far ?_ NB905_972.out _; (with_reducible repeat (first | refine blk_drewN ?_ _ | refine blk_drew ?_ | refine blk_alloc ?_ _)); refine blk_far ?_ NB905_972.out _; (with_reducible repeat (first | refine blk_drewN ?_ _ | refine blk_drew ?_ | refine blk_alloc ?_ _)); refine blk_far ?_ NB905_972.out _; exact pkK BK905.out) hb); replace BK922 := am (blk_below (g := gb922) (o := .cells #[.int .i64 t914, .slice Ao24 t915.length co24, .slice Ao25 t918.length co25] 46 (0, 0)) (by (with_reducible repeat (first | refine blk_drewN ?_ _ | refine blk_drew ?_ | refine blk_alloc ?_ _)); refine blk_far ?_ NB922_972.out _; (with_reducible repeat (first | refine blk_drewN ?_ _ | refine blk_drew ?_ | refine blk_alloc ?_ _)); refine blk_far ?_ NB922_972.out _; (with_reducible repeat (first | refine blk_drewN ?_ _ | refine blk_drew ?_ | refine blk_alloc ?_ _)); refine blk_far ?_ NB922_972.out _; exact pkK BK922.out) hb); replace BK930 := am (blk_below (g := gb930) (o := .cells #[.int .i64 t923, .slice Ao32 t950.length co32, .slice Ao33 t951.length co33] 46 (0, 0)) (by (with_reducible repeat (first | refine blk_drewN ?_ _ | refine blk_drew ?_ | refine blk_alloc ?_ _)); refine blk_far ?_ NB930_972.out _; (with_reducible repeat (first | refine blk_drewN ?_ _ | refine blk_drew ?_ | refine blk_alloc ?_ _)); refine blk_far ?_ NB930_972.out _; (with_reducible repeat (first | refine blk_drewN ?_ _ | refine blk_drew ?_ | refine blk_alloc ?_ _)); refine blk_far ?_ NB930_972.out _; exact pkK BK930.out) hb); replace BK939 := am (blk_below (g := gb939) (o := .cells #[.int .i64 t931, .slice Ao40 t932.length co40, .slice Ao41 t935.length co41] 46 (0, 0)) (by (with_reducible repeat (first | refine blk_drewN ?_ _ | refine blk_drew ?_ | refine blk_alloc ?_ _)); refine blk_far ?_ NB939_972.out _; (with_reducible repeat (first | refine blk_drewN ?_ _ | refine blk_drew ?_ | refine blk_alloc ?_ _)); refine blk_far ?_ NB939_972.out _; (with_reducible repeat (first | refine blk_drewN ?_ _ | refine blk_drew ?_ | refine blk_alloc ?_ _)); refine blk_far ?_ NB939_972.out _; exact pkK BK939.out) hb); replace BK972 := am (blk_below (g := gb972) (o := .cells #[.int .i64 t964, .slice Ao107 t965.length co107, .slice Ao108 t968.length co108] 46 (0, 0)) (by (with_reducible repeat (first | refine blk_drewN ?_ _ | refine blk_drew ?_ | refine blk_alloc ?_ _)); refine blk_put (cs := #[.int .i64 t964, .slice Ao107 t965.length co107, .slice none 0 0]) ?_ 2 _ rfl; (with_reducible repeat (first | refine blk_drewN ?_ _ | refine blk_drew ?_ | refine blk_alloc ?_ _)); refine blk_put (cs := #[.int .i64 t964, .slice none 0 0, .slice none 0 0]) ?_ 1 _ rfl; (with_reducible repeat (first | refine blk_drewN ?_ _ | refine blk_drew ?_ | refine blk_alloc ?_ _)); refine blk_put (cs := #[.int .i64 0, .slice none 0 0, .slice none 0 0]) ?_ 0 _ rfl; exact pkK BK972.out) hb); replace HB := am (below_step (pkW HB.out) hb); (try clear hb)))
             go_meet
             case rel => exact ⟨_, ((t971 != t921)), rfx, H', ⟨by have := HJ11.out; have := HJ56.out; first | omega | exact Nat.le_refl _⟩, ⟨by (try simp only [hl931001_56]); (try simp only [hl931002_56]); (with_reducible repeat (first | apply Kd.R_alloc | apply Kd.R_drewN | apply Kd.R_drew)); exact Kd.R_mono HO_923001.out (fun _ hk => ⟨hk.1.1.1.1.1, ⟨hk.1.1.1.1.2.1, ⟨hk.1.1.1.1.2.2.1, ⟨hk.1.1.1.1.2.2.2.1, ⟨hk.1.1.1.1.2.2.2.2, ⟨hk.1.2, hk.2⟩⟩⟩⟩⟩⟩)⟩, ⟨by (try simp only [hl931001_56]); (try simp only [hl931002_56]); (with_reducible repeat (first | apply Kd.R_alloc | apply Kd.R_drewN | apply Kd.R_drew)); exact Kd.R_mono HO_923002.out (fun _ hk => ⟨hk.1.1.1.1.1, ⟨hk.1.1.1.1.2.1, ⟨hk.1.1.1.1.2.2.1, ⟨hk.1.1.1.1.2.2.2.1, ⟨hk.1.1.1.1.2.2.2.2, ⟨hk.1.2, hk.2⟩⟩⟩⟩⟩⟩)⟩, ⟨by (try simp only [hl931001_56]); (try simp only [hl931002_56]); (with_reducible repeat (first | apply Kd.R_alloc | apply Kd.R_drewN | apply Kd.R_drew)); exact Kd.R_mono HO_931001.out (fun _ hk => ⟨hk.1.1.1.1.1, ⟨hk.1.1.1.1.2.1, ⟨hk.1.1.1.1.2.2.1, ⟨hk.1.1.1.1.2.2.2.1, ⟨hk.1.1.1.1.2.2.2.2, ⟨hk.1.2, hk.2⟩⟩⟩⟩⟩⟩)⟩, ⟨by (try simp only [hl931001_56]); (try simp only [hl931002_56]); (with_reducible repeat (first | apply Kd.R_alloc | apply Kd.R_drewN | apply Kd.R_drew)); exact Kd.R_mono HO_931002.out (fun _ hk => ⟨hk.1.1.1.1.1, ⟨hk.1.1.1.1.2.1, ⟨hk.1.1.1.1.2.2.1, ⟨hk.1.1.1.1.2.2.2.1, ⟨hk.1.1.1.1.2.2.2.2, ⟨hk.1.2, hk.2⟩⟩⟩⟩⟩⟩)⟩, ⟨by (try simp only [hl931001_56]); (try simp only [hl931002_56]); (with_reducible repeat (first | apply Kd.R_alloc | apply Kd.R_drewN | apply Kd.R_drew)); exact Kd.R_mono HO_940001.out (fun _ hk => ⟨hk.1.1.1.1.1, ⟨hk.1.1.1.1.2.1, ⟨hk.1.1.1.1.2.2.1, ⟨hk.1.1.1.1.2.2.2.1, ⟨hk.1.1.1.1.2.2.2.2, ⟨hk.1.2, hk.2⟩⟩⟩⟩⟩⟩)⟩, ⟨by (try simp only [hl931001_56]); (try simp only [hl931002_56]); (with_reducible repeat (first | apply Kd.R_alloc | apply Kd.R_drewN | apply Kd.R_drew)); exact Kd.R_mono HO_940002.out (fun _ hk => ⟨hk.1.1.1.1.1, ⟨hk.1.1.1.1.2.1, ⟨hk.1.1.1.1.2.2.1, ⟨hk.1.1.1.1.2.2.2.1, ⟨hk.1.1.1.1.2.2.2.2, ⟨hk.1.2, hk.2⟩⟩⟩⟩⟩⟩)⟩, ⟨by (try simp only [hl931001_56]); (try simp only [hl931002_56]); (with_reducible repeat (first | apply Kd.R_alloc | apply Kd.R_drewN | apply Kd.R_drew)); exact Kd.R_mono HO967.out (fun _ hk => ⟨hk.1.1.1.1.1.1.1.2, ⟨hk.1.1.1.1.1.1.2, ⟨hk.1.1.1.1.1.2, ⟨hk.1.1.1.1.2, ⟨hk.1.1.1.2, ⟨hk.1.1.2, hk.1.1.1.1.1.1.1.1⟩⟩⟩⟩⟩⟩)⟩, ⟨by (try simp only [hl931001_56]); (try simp only [hl931002_56]); (with_reducible repeat (first | apply Kd.R_alloc | apply Kd.R_drewN | apply Kd.R_drew)); exact Kd.R_mono HO970.out (fun _ hk => ⟨hk.1.1.1.1.1.1.1.2, ⟨hk.1.1.1.1.1.1.2, ⟨hk.1.1.1.1.1.2, ⟨hk.1.1.1.1.2, ⟨hk.1.1.1.2, ⟨hk.1.1.2, hk.1.1.1.1.1.1.1.1⟩⟩⟩⟩⟩⟩)⟩, ⟨by (try simp only [hl931001_56]); (try simp only [hl931002_56]); exact pkK BK905.out⟩, ⟨by (try simp only [hl931001_56]); (try simp only [hl931002_56]); exact pkK BK922.out⟩, ⟨by (try simp only [hl931001_56]); (try simp only [hl931002_56]); exact pkK BK930.out⟩, ⟨by (try simp only [hl931001_56]); (try simp only [hl931002_56]); exact pkK BK939.out⟩, ⟨by (try simp only [hl931001_56]); (try simp only [hl931002_56]); exact pkK BK972.out⟩, ⟨pkW HB.out⟩⟩
            ·replace c110 := Bool.eq_false_iff.mpr c110
             subst c110
             replace H : (laws_FnExactPassLatch.j2 kj56 t953 true t931 t954 t955) = some r := by rw [if_neg (show ¬ (false = true) by decide)] at H; exact H
             cases kj56 with
             | zero => exact absurd H (by simp [laws_FnExactPassLatch.j2])
             | succ k_ => (simp only [laws_FnExactPassLatch.j2, if_pos] at H; exact absurd (Option.some.inj H) (by rw [HQ_.out]; simp))
           case rest =>
            clear HC86
            try clear c1
            try clear c2
            try clear p2
            try clear c3
            try clear c4
            try clear c4b0
            try clear c5
            try clear c6
            try clear c7
            try clear c8
            try clear c9
            try clear c10
            try clear c11
            try clear c22
            try clear c23
            try clear c25
            try clear c27
            try clear c29
            try clear c30
            try clear c36
            try clear c37
            try clear c38
            try clear c42
            try clear c43
            try clear c44
            try clear c45
            try clear c46
            try clear c48
            try clear c49
            try clear c52
            try clear c55
            try clear c63
            try clear c64
            try clear c65
            try clear c68
            try clear c68b0
            try clear c70
            try clear c71
            try clear c72
            try clear c73
            try clear c75
            try clear c76
            try clear c79
            try clear c82
            try clear c82b0
            try clear c83
            try clear c83b0
            try clear c83b1
            try clear c87
            try clear c88
            try clear c89
            try clear c94
            try clear c95
            try clear c102
            try clear c103
            try clear c104
            try clear c105
            try clear c110
            try clear c111
            try clear c112
            try clear c113
            try clear c114
            try clear c116
            try clear c117
            try clear c118
            try clear hcz106_0
            try clear hcz106_1
            try clear hcz106_2
            try clear hcz115_0
            try clear hcz115_1
            try clear hcz115_2
            try clear hcz119_0
            try clear hcz119_1
            try clear hcz119_2
            try clear hcz14_0
            try clear hcz14_1
            try clear hcz14_2
            try clear hcz16_0
            try clear hcz16_1
            try clear hcz16_2
            try clear hcz23_0
            try clear hcz23_1
            try clear hcz23_2
            try clear hcz26_0
            try clear hcz26_1
            try clear hcz26_2
            try clear hcz31_0
            try clear hcz31_1
            try clear hcz31_2
            try clear hcz39_0
            try clear hcz39_1
            try clear hcz39_2
            try clear hcz47_0
            try clear hcz47_1
            try clear hcz47_2
            try clear hcz50_0
            try clear hcz50_1
            try clear hcz50_2
            try clear hcz66_0
            try clear hcz66_1
            try clear hcz66_2
            try clear hcz6_0
            try clear hcz6_1
            try clear hcz6_2
            try clear hcz74_0
            try clear hcz74_1
            try clear hcz74_2
            try clear hcz77_0
            try clear hcz77_1
            try clear hcz77_2
            try clear hcz90_0
            try clear hcz90_1
            try clear hcz90_2
            try clear hcz92_0
            try clear hcz92_1
            try clear hcz92_2
            try clear hcz96_0
            try clear hcz96_1
            try clear hcz96_2
            try clear hfz106_0
            try clear hfz106_1
            try clear hfz106_2
            try clear hfz115_0
            try clear hfz115_1
            try clear hfz115_2
            try clear hfz119_0
            try clear hfz119_1
            try clear hfz119_2
            try clear hfz14_0
            try clear hfz14_1
            try clear hfz14_2
            try clear hfz16_0
            try clear hfz16_1
            try clear hfz16_2
            try clear hfz23_0
            try clear hfz23_1
            try clear hfz23_2
            try clear hfz26_0
            try clear hfz26_1
            try clear hfz26_2
            try clear hfz31_0
            try clear hfz31_1
            try clear hfz31_2
            try clear hfz39_0
            try clear hfz39_1
            try clear hfz39_2
            try clear hfz47_0
            try clear hfz47_1
            try clear hfz47_2
            try clear hfz50_0
            try clear hfz50_1
            try clear hfz50_2
            try clear hfz66_0
            try clear hfz66_1
            try clear hfz66_2
            try clear hfz6_0
            try clear hfz6_1
            try clear hfz6_2
            try clear hfz74_0
            try clear hfz74_1
            try clear hfz74_2
            try clear hfz77_0
            try clear hfz77_1
            try clear hfz77_2
            try clear hfz90_0
            try clear hfz90_1
            try clear hfz90_2
            try clear hfz92_0
            try clear hfz92_1
            try clear hfz92_2
            try clear hfz96_0
            try clear hfz96_1
            try clear hfz96_2
            try clear p2
            obtain ⟨kq, x92_85, rfl, HA, HJ85, HO_923001, HO_923002, HO_931001, HO_931002, HO_940001, HO_940002, HO_973001, HO_973002, BK905, BK922, BK930, BK939, BK972, HB⟩ := hcut
            have hl940001_85 := (Kd.R_reads' HO_940001.out).1
            rw [hl940001_85] at HO_940001
            (try simp only [hl940001_85])
            (try simp only [hl940001_85] at BK905)
            (try simp only [hl940001_85] at BK922)
            (try simp only [hl940001_85] at BK930)
            (try simp only [hl940001_85] at BK939)
            (try simp only [hl940001_85] at BK972)
            (try simp only [hl940001_85] at HO_923001)
            (try simp only [hl940001_85] at HO_923002)
            (try simp only [hl940001_85] at HO_931001)
            (try simp only [hl940001_85] at HO_931002)
            (try simp only [hl940001_85] at HO_940002)
            (try simp only [hl940001_85] at HO_973001)
            (try simp only [hl940001_85] at HO_973002)
            have hl940002_85 := (Kd.R_reads' HO_940002.out).1
            rw [hl940002_85] at HO_940002
            (try simp only [hl940002_85])
            (try simp only [hl940002_85] at BK905)
            (try simp only [hl940002_85] at BK922)
            (try simp only [hl940002_85] at BK930)
            (try simp only [hl940002_85] at BK939)
            (try simp only [hl940002_85] at BK972)
            (try simp only [hl940002_85] at HO_923001)
            (try simp only [hl940002_85] at HO_923002)
            (try simp only [hl940002_85] at HO_931001)
            (try simp only [hl940002_85] at HO_931002)
            (try simp only [hl940002_85] at HO_940001)
            (try simp only [hl940002_85] at HO_973001)
            (try simp only [hl940002_85] at HO_973002)
            cases kq with
            | zero => exact absurd HA.out (by simp [laws_FnExactPassLatch.j2])
            | succ kj85 =>
             have H := HA.out
             clear HA
             simp only [laws_FnExactPassLatch.j2] at H
             by_cases c121 : x92_85 = true
             ·subst c121
              replace H : (some false) = some r := by rw [if_pos rfl] at H; exact H
              exact absurd (Option.some.inj H) (by rw [HQ_.out]; simp)
             ·replace c121 := Bool.eq_false_iff.mpr c121
              subst c121
              replace H : ((laws_heldLatch.f kj85 t931 t954 t955 1).bind fun t974 => (if t974 < 0 then (some false) else (if t974 = t953 then (some true) else (some false)))) = some r := by rw [if_neg (show ¬ (false = true) by decide)] at H; exact H
              replace H := Option.bind_eq_some_iff.mp H
              obtain ⟨t974, A1220, H⟩ := H
              replace H : (if t974 < 0 then (some false) else (if t974 = t953 then (some true) else (some false))) = some r := H
              have A122 := am A1220
              clear A1220
              by_cases c123 : t974 < 0
              ·rw [if_pos c123] at H
               have c123b0 : decide (t974 < 0) = true := decide_eq_true c123
               clear c123
               exact absurd (Option.some.inj H) (by rw [HQ_.out]; simp)
              ·rw [if_neg c123] at H
               have c123b0 : decide (t974 < 0) = false := decide_eq_false c123
               clear c123
               by_cases c124 : t974 = t953
               ·rw [if_pos c124] at H
                have c124b0 : (t974 == t953) = true := beq_iff_eq.mpr c124
                have c124b1 : (t974 != t953) = false := bne_eq_false_iff_eq.mpr c124
                clear c124
                obtain rfl := Option.some.inj H
                have hnb125 := NB939_905.out
                have hnc125 := NB905_939.out
                have hnb126 := NB939_922.out
                have hnc126 := NB922_939.out
                have hnb127 := NB939_930.out
                have hnc127 := NB930_939.out
                have hnb128 := NB939_972.out
                have hnc128 := NB972_939.out
                obtain ⟨hcz129_0, hcz129_1, hcz129_2, hfz129_0, hfz129_1, hfz129_2⟩ := bk3 BK939.out
                go_wp2_with (first | ((with_reducible refine gate_callee (f := 37) rfl ?_); refine goesL_ (some 95) rfl rfl Try.func37 (by kernel_rfl) rfl #[.agg #[.int .i64 t931, .slice Ao40 t954.length co40, .slice Ao41 t955.length co41], .int .i64 1] rfl mpx ?_; (with_reducible refine (laws_heldLatch.calls kj85 t931 _ _ t954 _ _ t955 1 t974 _ ?side1 ?side2 ?side3 ?side4 A122.out).mono ?_); (case side1 => exact pkC (Kd.R_reads' HO_940001.out).2.2); (case side2 => exact (Kd.R_reads' HO_940001.out).2.1); (case side3 => exact pkC (Kd.R_reads' HO_940002.out).2.2); (case side4 => exact (Kd.R_reads' HO_940002.out).2.1); rintro e w130 ⟨rfl, hb⟩; refine ⟨_, rfl, ?_⟩; replace HO_923001 := am (Kd.R_below (pkR HO_923001.out) hb); replace HO_923002 := am (Kd.R_below (pkR HO_923002.out) hb); replace HO_931001 := am (Kd.R_below (pkR HO_931001.out) hb); replace HO_931002 := am (Kd.R_below (pkR HO_931002.out) hb); replace HO_940001 := am (Kd.R_below (pkR HO_940001.out) hb); replace HO_940002 := am (Kd.R_below (pkR HO_940002.out) hb); replace HO_973001 := am (Kd.R_below (pkR HO_973001.out) hb); replace HO_973002 := am (Kd.R_below (pkR HO_973002.out) hb); replace BK905 := am (blk_below (pkK BK905.out) hb); replace BK922 := am (blk_below (pkK BK922.out) hb); replace BK930 := am (blk_below (pkK BK930.out) hb); replace BK939 := am (blk_below (pkK BK939.out) hb); replace BK972 := am (blk_below (pkK BK972.out) hb); replace HB := am (below_step (pkW HB.out) hb); (try clear hb)))
                go_ret
                exact ⟨rfe, pkW HB.out⟩
               ·rw [if_neg c124] at H
                have c124b0 : (t974 == t953) = false := beq_eq_false_iff_ne.mpr c124
                have c124b1 : (t974 != t953) = true := bne_iff_ne.mpr c124
                exact absurd (Option.some.inj H) (by rw [HQ_.out]; simp)
          ·rw [if_neg c83] at H
           have c83b0 : (t956 == t953) = false := beq_eq_false_iff_ne.mpr c83
           have c83b1 : (t956 != t953) = true := bne_iff_ne.mpr c83
           exact absurd (Option.some.inj H) (by rw [HQ_.out]; simp)
     ·replace c55 := Bool.eq_false_iff.mpr c55
      subst c55
      replace H : (some false) = some r := by rw [if_neg (show ¬ (false = true) by decide)] at H; exact H
      exact absurd (Option.some.inj H) (by rw [HQ_.out]; simp)
end Go.Proofs.Ytffcphplnilokaa.Z
