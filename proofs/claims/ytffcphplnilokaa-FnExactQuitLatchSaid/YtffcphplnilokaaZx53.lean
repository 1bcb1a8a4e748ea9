/- The Go functions laws_FnExactQuitLatch as Lean functions, each with a proof that its code comes to just these answers; conditions: those of each theorem. -/
import Derived.Test.YtffcphplnilokaaZx0
import Derived.Test.YtffcphplnilokaaZx20
import Derived.Test.YtffcphplnilokaaZx22
import Derived.Test.YtffcphplnilokaaZx24
import Derived.Test.YtffcphplnilokaaZx32
import Derived.Test.YtffcphplnilokaaZx33
import Derived.Test.YtffcphplnilokaaZx36
import Derived.Test.YtffcphplnilokaaZx37
namespace Go.Proofs.Ytffcphplnilokaa.Z
open Go.RowKit Go.Proofs.YtffcphplnilokaaW.PrintWords Go.Proofs.YtffcphplnilokaaW.PrintLast Go.Proofs.YtffcphplnilokaaW.PrintMore
attribute [local go_sem] max2_int min2_int max_two min_two max_three min_three max_four min_four   -- for this text's walks alone
set_option linter.unusedVariables false
set_option linter.unusedSimpArgs false
mutual
def laws_FnExactQuitLatch.j0 : Nat → Int → Int → Int → Bool → Int → List Int → List Int → Int → List Int → List Int → Int → List Int → List Int → Int → List Int → List Int → Option (Bool)
 | 0, _, _, _, _, _, _, _, _, _, _, _, _, _, _, _, _ => none
 | k + 1, x1, x7, x10, x44, x820000, x820001, x820002, x837000, x837001, x837002, x845000, x845001, x845002, x854000, x854001, x854002 => if x44 = true then (some false) else ((laws_toLatch.f k x820000 x820001 x820002).bind fun bt855 => ((laws_eqLatch.f k x845000 x845001 x845002 bt855.1 bt855.2.1 bt855.2.2).bind fun t862 => (if t862 = true then ((laws_markLatch.f k x845000 x845001 x845002 1).bind fun bt863 => (if bt863.1 < 0 then (laws_FnExactQuitLatch.j1 k x1 x7 true x820000 x820001 x820002 x837000 x837001 x837002 x854000 x854001 x854002) else ((laws_eqLatch.f k x854000 x854001 x854002 x837000 x837001 x837002).bind fun t866 => (if t866 = true then (laws_FnExactQuitLatch.j1 k x1 x7 (x10 != x7) x820000 x820001 x820002 x837000 x837001 x837002 x854000 x854001 x854002) else (laws_FnExactQuitLatch.j1 k x1 x7 true x820000 x820001 x820002 x837000 x837001 x837002 x854000 x854001 x854002))))) else (some false))))
def laws_FnExactQuitLatch.j1 : Nat → Int → Int → Bool → Int → List Int → List Int → Int → List Int → List Int → Int → List Int → List Int → Option (Bool)
 | 0, _, _, _, _, _, _, _, _, _, _, _, _ => none
 | k + 1, x1, x7, x65, x820000, x820001, x820002, x837000, x837001, x837002, x854000, x854001, x854002 => if x65 = true then (some false) else ((laws_markLatch.f k x854000 x854001 x854002 1).bind fun bt867 => ((laws_heldLatch.f k x854000 bt867.2.1 bt867.2.2 1).bind fun t870 => (if t870 < 0 then (some false) else (if t870 = bt867.1 then ((laws_toLatch.f k x820000 x820001 x820002).bind fun bt871 => ((impl_QuitLatch.f k bt871.1 bt871.2.1 bt871.2.2 x1).bind fun bt878 => ((laws_eqLatch.f k bt878.1 bt878.2.1 bt878.2.2.1 x837000 x837001 x837002).bind fun t887 => (if t887 = true then (laws_FnExactQuitLatch.j2 k bt867.1 (bt878.2.2.2 != x7) x854000 bt867.2.1 bt867.2.2) else (laws_FnExactQuitLatch.j2 k bt867.1 true x854000 bt867.2.1 bt867.2.2))))) else (some false)))))
def laws_FnExactQuitLatch.j2 : Nat → Int → Bool → Int → List Int → List Int → Option (Bool)
 | 0, _, _, _, _, _ => none
 | k + 1, x12, x92, x854000, x854001, x854002 => if x92 = true then (some false) else ((laws_heldLatch.f k x854000 x854001 x854002 1).bind fun t888 => (if t888 < 0 then (some false) else (if t888 = x12 then (some true) else (some false))))
end
def laws_FnExactQuitLatch.f (k : Nat) (a0_0 : Int) (l0_1 : List Int) (l0_2 : List Int) (a1 : Int) : Option (Bool) := (laws_szLatch.f a0_0 l0_1 l0_2 1048576).bind fun t820 => (if t820 < 0 then (some true) else ((laws_toLatch.f k a0_0 l0_1 l0_2).bind fun bt821 => ((spec_QuitLatch.f k bt821.1 bt821.2.1 bt821.2.2 a1).bind fun bt828 => ((laws_toLatch.f k a0_0 l0_1 l0_2).bind fun bt837 => ((impl_QuitLatch.f k bt837.1 bt837.2.1 bt837.2.2 a1).bind fun bt845 => ((laws_eqLatch.f k bt845.1 bt845.2.1 bt845.2.2.1 bt828.1 bt828.2.1 bt828.2.2.1).bind fun t854 => (if t854 = true then (laws_FnExactQuitLatch.j0 k a1 bt828.2.2.2 bt845.2.2.2 (bt845.2.2.2 != bt828.2.2.2) a0_0 l0_1 l0_2 bt828.1 bt828.2.1 bt828.2.2.1 bt837.1 bt837.2.1 bt837.2.2 bt845.1 bt845.2.1 bt845.2.2.1) else (laws_FnExactQuitLatch.j0 k a1 bt828.2.2.2 bt845.2.2.2 true a0_0 l0_1 l0_2 bt828.1 bt828.2.1 bt828.2.2.1 bt837.1 bt837.2.1 bt837.2.2 bt845.1 bt845.2.1 bt845.2.2.1))))))))
theorem laws_FnExactQuitLatch.mono_l : ∀ k, (∀ y0 y1 y2 y3 y4 y5 y6 y7 y8 y9 y10 y11 y12 y13 y14 y15, LeO (laws_FnExactQuitLatch.j0 k y0 y1 y2 y3 y4 y5 y6 y7 y8 y9 y10 y11 y12 y13 y14 y15) (laws_FnExactQuitLatch.j0 (k + 1) y0 y1 y2 y3 y4 y5 y6 y7 y8 y9 y10 y11 y12 y13 y14 y15)) ∧ (∀ y0 y1 y2 y3 y4 y5 y6 y7 y8 y9 y10 y11, LeO (laws_FnExactQuitLatch.j1 k y0 y1 y2 y3 y4 y5 y6 y7 y8 y9 y10 y11) (laws_FnExactQuitLatch.j1 (k + 1) y0 y1 y2 y3 y4 y5 y6 y7 y8 y9 y10 y11)) ∧ (∀ y0 y1 y2 y3 y4, LeO (laws_FnExactQuitLatch.j2 k y0 y1 y2 y3 y4) (laws_FnExactQuitLatch.j2 (k + 1) y0 y1 y2 y3 y4))
 | 0 => ⟨fun _ _ _ _ _ _ _ _ _ _ _ _ _ _ _ _ r h => by simp [laws_FnExactQuitLatch.j0] at h, fun _ _ _ _ _ _ _ _ _ _ _ _ r h => by simp [laws_FnExactQuitLatch.j1] at h, fun _ _ _ _ _ r h => by simp [laws_FnExactQuitLatch.j2] at h⟩
 | k + 1 => by
  obtain ⟨ih0, ih1, ih2⟩ := laws_FnExactQuitLatch.mono_l k
  refine ⟨?_, ?_, ?_⟩
  ·intro y0 y1 y2 y3 y4 y5 y6 y7 y8 y9 y10 y11 y12 y13 y14 y15
   unfold laws_FnExactQuitLatch.j0
   repeat' first
   | (with_reducible exact ih0 _ _ _ _ _ _ _ _ _ _ _ _ _ _ _ _)
   | (with_reducible exact ih1 _ _ _ _ _ _ _ _ _ _ _ _)
   | (with_reducible exact ih2 _ _ _ _ _)
   | (with_reducible exact impl_QuitLatch.mono _ _ _ _ _)
   | (with_reducible exact laws_eqLatch.mono _ _ _ _ _ _ _)
   | (with_reducible exact laws_heldLatch.mono _ _ _ _ _)
   | (with_reducible exact laws_markLatch.mono _ _ _ _ _)
   | (with_reducible exact laws_toLatch.mono _ _ _ _)
   | (with_reducible exact spec_QuitLatch.mono _ _ _ _ _)
   | (with_reducible exact LeO.refl _)
   | (with_reducible exact LeO.none _)
   | (with_reducible refine LeO.ite ?_ ?_)
   | (with_reducible refine LeO.bind ?_ (fun _ => ?_))
  ·intro y0 y1 y2 y3 y4 y5 y6 y7 y8 y9 y10 y11
   unfold laws_FnExactQuitLatch.j1
   repeat' first
   | (with_reducible exact ih0 _ _ _ _ _ _ _ _ _ _ _ _ _ _ _ _)
   | (with_reducible exact ih1 _ _ _ _ _ _ _ _ _ _ _ _)
   | (with_reducible exact ih2 _ _ _ _ _)
   | (with_reducible exact impl_QuitLatch.mono _ _ _ _ _)
   | (with_reducible exact laws_eqLatch.mono _ _ _ _ _ _ _)
   | (with_reducible exact laws_heldLatch.mono _ _ _ _ _)
   | (with_reducible exact laws_markLatch.mono _ _ _ _ _)
   | (with_reducible exact laws_toLatch.mono _ _ _ _)
   | (with_reducible exact spec_QuitLatch.mono _ _ _ _ _)
   | (with_reducible exact LeO.refl _)
   | (with_reducible exact LeO.none _)
   | (with_reducible refine LeO.ite ?_ ?_)
   | (with_reducible refine LeO.bind ?_ (fun _ => ?_))
  ·intro y0 y1 y2 y3 y4
   unfold laws_FnExactQuitLatch.j2
   repeat' first
   | (with_reducible exact ih0 _ _ _ _ _ _ _ _ _ _ _ _ _ _ _ _)
   | (with_reducible exact ih1 _ _ _ _ _ _ _ _ _ _ _ _)
   | (with_reducible exact ih2 _ _ _ _ _)
   | (with_reducible exact impl_QuitLatch.mono _ _ _ _ _)
   | (with_reducible exact laws_eqLatch.mono _ _ _ _ _ _ _)
   | (with_reducible exact laws_heldLatch.mono _ _ _ _ _)
   | (with_reducible exact laws_markLatch.mono _ _ _ _ _)
   | (with_reducible exact laws_toLatch.mono _ _ _ _)
   | (with_reducible exact spec_QuitLatch.mono _ _ _ _ _)
   | (with_reducible exact LeO.refl _)
   | (with_reducible exact LeO.none _)
   | (with_reducible refine LeO.ite ?_ ?_)
   | (with_reducible refine LeO.bind ?_ (fun _ => ?_))
theorem laws_FnExactQuitLatch.mono : ∀ a0 a1 a2 a3 k, LeO (laws_FnExactQuitLatch.f k a0 a1 a2 a3) (laws_FnExactQuitLatch.f (k + 1) a0 a1 a2 a3) := by
 intro a0 a1 a2 a3 k
 obtain ⟨ih0, ih1, ih2⟩ := laws_FnExactQuitLatch.mono_l k
 unfold laws_FnExactQuitLatch.f
 repeat' first
   | (with_reducible exact ih0 _ _ _ _ _ _ _ _ _ _ _ _ _ _ _ _)
   | (with_reducible exact ih1 _ _ _ _ _ _ _ _ _ _ _ _)
   | (with_reducible exact ih2 _ _ _ _ _)
   | (with_reducible exact impl_QuitLatch.mono _ _ _ _ _)
   | (with_reducible exact laws_eqLatch.mono _ _ _ _ _ _ _)
   | (with_reducible exact laws_heldLatch.mono _ _ _ _ _)
   | (with_reducible exact laws_markLatch.mono _ _ _ _ _)
   | (with_reducible exact laws_toLatch.mono _ _ _ _)
   | (with_reducible exact spec_QuitLatch.mono _ _ _ _ _)
   | (with_reducible exact LeO.refl _)
   | (with_reducible exact LeO.none _)
   | (with_reducible refine LeO.ite ?_ ?_)
   | (with_reducible refine LeO.bind ?_ (fun _ => ?_))
set_option maxHeartbeats 8000000 in
set_option maxRecDepth 100000 in
theorem laws_FnExactQuitLatch.calls (k : Nat) (a0_0 : Int) (A0_1 : Option Addr) (c0_1 : Nat) (l0_1 : List Int) (A0_2 : Option Addr) (c0_2 : Nat) (l0_2 : List Int) (a1 : Int) (r : Bool) (w : World) (hr0_1 : Kd.C (Kd.int .i64) w A0_1 l0_1.length l0_1) (hc0_1 : l0_1.length ≤ c0_1) (hr0_2 : Kd.C (Kd.int .i64) w A0_2 l0_2.length l0_2) (hc0_2 : l0_2.length ≤ c0_2) (HQ_ : Aside0 (r = true)) (h : laws_FnExactQuitLatch.f k a0_0 l0_1 l0_2 a1 = some r) :
  Calls Try.prog 9 #[.agg #[.int .i64 a0_0, .slice A0_1 l0_1.length c0_1, .slice A0_2 l0_2.length c0_2], .int .i64 a1] w fun e w' => e = .returned (.bool r) ∧ Below w.heap.size w w' := by
 have hu43 := Try.underlying43
 have hu46 := Try.underlying46
 have HR0_1 := am hr0_1
 have HC0_1 := am hc0_1
 clear hr0_1 hc0_1
 have HR0_2 := am hr0_2
 have HC0_2 := am hc0_2
 clear hr0_2 hc0_2
 have HB := am (Below.refl w.heap.size w)
 have H : ((laws_szLatch.f a0_0 l0_1 l0_2 1048576).bind fun t820 => (if t820 < 0 then (some true) else ((laws_toLatch.f k a0_0 l0_1 l0_2).bind fun bt821 => ((spec_QuitLatch.f k bt821.1 bt821.2.1 bt821.2.2 a1).bind fun bt828 => ((laws_toLatch.f k a0_0 l0_1 l0_2).bind fun bt837 => ((impl_QuitLatch.f k bt837.1 bt837.2.1 bt837.2.2 a1).bind fun bt845 => ((laws_eqLatch.f k bt845.1 bt845.2.1 bt845.2.2.1 bt828.1 bt828.2.1 bt828.2.2.1).bind fun t854 => (if t854 = true then (laws_FnExactQuitLatch.j0 k a1 bt828.2.2.2 bt845.2.2.2 (bt845.2.2.2 != bt828.2.2.2) a0_0 l0_1 l0_2 bt828.1 bt828.2.1 bt828.2.2.1 bt837.1 bt837.2.1 bt837.2.2 bt845.1 bt845.2.1 bt845.2.2.1) else (laws_FnExactQuitLatch.j0 k a1 bt828.2.2.2 bt845.2.2.2 true a0_0 l0_1 l0_2 bt828.1 bt828.2.1 bt828.2.2.1 bt837.1 bt837.2.1 bt837.2.2 bt845.1 bt845.2.1 bt845.2.2.1))))))))) = some r := h
 clear h
 replace H := Option.bind_eq_some_iff.mp H
 obtain ⟨t820, A30, H⟩ := H
 replace H : (if t820 < 0 then (some true) else ((laws_toLatch.f k a0_0 l0_1 l0_2).bind fun bt821 => ((spec_QuitLatch.f k bt821.1 bt821.2.1 bt821.2.2 a1).bind fun bt828 => ((laws_toLatch.f k a0_0 l0_1 l0_2).bind fun bt837 => ((impl_QuitLatch.f k bt837.1 bt837.2.1 bt837.2.2 a1).bind fun bt845 => ((laws_eqLatch.f k bt845.1 bt845.2.1 bt845.2.2.1 bt828.1 bt828.2.1 bt828.2.2.1).bind fun t854 => (if t854 = true then (laws_FnExactQuitLatch.j0 k a1 bt828.2.2.2 bt845.2.2.2 (bt845.2.2.2 != bt828.2.2.2) a0_0 l0_1 l0_2 bt828.1 bt828.2.1 bt828.2.2.1 bt837.1 bt837.2.1 bt837.2.2 bt845.1 bt845.2.1 bt845.2.2.1) else (laws_FnExactQuitLatch.j0 k a1 bt828.2.2.2 bt845.2.2.2 true a0_0 l0_1 l0_2 bt828.1 bt828.2.1 bt828.2.2.1 bt837.1 bt837.2.1 bt837.2.2 bt845.1 bt845.2.1 bt845.2.2.1)))))))) = some r := H
 have A3 := am A30
 clear A30
 by_cases c4 : t820 < 0
 ·rw [if_pos c4] at H
  have c4b0 : decide (t820 < 0) = true := decide_eq_true c4
  clear c4
  obtain rfl := Option.some.inj H
  go_enter Try.func9, Try.ntmps9
  go_wp2_with (first | ((with_reducible refine gate_dst (N := 2) rfl ?_); refine box_event ?hg (N := 2) ?hd (cs := #[.int .i64 a0_0, .slice A0_1 l0_1.length c0_1, .slice A0_2 l0_2.length c0_2]) (t := 43) ?hr ?_; (case hd => rfl); (case hg => rfl); (case hr => first | (go_simp; done) | (go_simp; rfl)); intro gb819 hg w5 hbox hb; have BK819 := am (hbox); have GW819 := am ((by rw [hg]; exact (below_size (pkB HB.out)) : w.heap.size ≤ gb819)); have GE819 := am ((by rw [hg]; exact (below_size (pkB HB.out)) : w.heap.size ≤ gb819)); replace HB := am (below_step (pkB HB.out) hb); clear hb hbox hg; obtain ⟨hcz6_0, hcz6_1, hcz6_2, hfz6_0, hfz6_1, hfz6_2⟩ := bk3 BK819.out) | ((with_reducible refine gate_callee (f := 23) rfl ?_); refine goesL_ (some 18) rfl rfl Try.func23 (by kernel_rfl) rfl #[.agg #[.int .i64 a0_0, .slice A0_1 l0_1.length c0_1, .slice A0_2 l0_2.length c0_2], .int .i64 1048576] rfl mpx ?_; (with_reducible refine (laws_szLatch.calls a0_0 _ _ l0_1 _ _ l0_2 1048576 t820 _ ?side1 ?side2 ?side3 ?side4 A3.out).mono ?_); (case side1 => exact pkC (Kd.C_below HR0_1.out HB.out)); (case side2 => exact HC0_1.out); (case side3 => exact pkC (Kd.C_below HR0_2.out HB.out)); (case side4 => exact HC0_2.out); rintro e w7 ⟨rfl, hb⟩; refine ⟨_, rfl, ?_⟩; replace BK819 := am (blk_below (pkK BK819.out) hb); replace HB := am (below_step (pkW HB.out) hb); (try clear hb)))
  go_ret
  exact ⟨rfe, pkW HB.out⟩
 ·rw [if_neg c4] at H
  have c4b0 : decide (t820 < 0) = false := decide_eq_false c4
  clear c4
  replace H := Option.bind_eq_some_iff.mp H
  obtain ⟨⟨t821, t822, t825⟩, A80, H⟩ := H
  replace H : ((spec_QuitLatch.f k t821 t822 t825 a1).bind fun bt828 => ((laws_toLatch.f k a0_0 l0_1 l0_2).bind fun bt837 => ((impl_QuitLatch.f k bt837.1 bt837.2.1 bt837.2.2 a1).bind fun bt845 => ((laws_eqLatch.f k bt845.1 bt845.2.1 bt845.2.2.1 bt828.1 bt828.2.1 bt828.2.2.1).bind fun t854 => (if t854 = true then (laws_FnExactQuitLatch.j0 k a1 bt828.2.2.2 bt845.2.2.2 (bt845.2.2.2 != bt828.2.2.2) a0_0 l0_1 l0_2 bt828.1 bt828.2.1 bt828.2.2.1 bt837.1 bt837.2.1 bt837.2.2 bt845.1 bt845.2.1 bt845.2.2.1) else (laws_FnExactQuitLatch.j0 k a1 bt828.2.2.2 bt845.2.2.2 true a0_0 l0_1 l0_2 bt828.1 bt828.2.1 bt828.2.2.1 bt837.1 bt837.2.1 bt837.2.2 bt845.1 bt845.2.1 bt845.2.2.1)))))) = some r := H
  have A8 := am A80
  clear A80
  replace H := Option.bind_eq_some_iff.mp H
  obtain ⟨⟨t828, t829, t832, t835⟩, A90, H⟩ := H
  replace H : ((laws_toLatch.f k a0_0 l0_1 l0_2).bind fun bt837 => ((impl_QuitLatch.f k bt837.1 bt837.2.1 bt837.2.2 a1).bind fun bt845 => ((laws_eqLatch.f k bt845.1 bt845.2.1 bt845.2.2.1 t828 t829 t832).bind fun t854 => (if t854 = true then (laws_FnExactQuitLatch.j0 k a1 t835 bt845.2.2.2 (bt845.2.2.2 != t835) a0_0 l0_1 l0_2 t828 t829 t832 bt837.1 bt837.2.1 bt837.2.2 bt845.1 bt845.2.1 bt845.2.2.1) else (laws_FnExactQuitLatch.j0 k a1 t835 bt845.2.2.2 true a0_0 l0_1 l0_2 t828 t829 t832 bt837.1 bt837.2.1 bt837.2.2 bt845.1 bt845.2.1 bt845.2.2.1))))) = some r := H
  have A9 := am A90
  clear A90
  replace H := Option.bind_eq_some_iff.mp H
  obtain ⟨⟨t837, t838, t841⟩, A100, H⟩ := H
  replace H : ((impl_QuitLatch.f k t837 t838 t841 a1).bind fun bt845 => ((laws_eqLatch.f k bt845.1 bt845.2.1 bt845.2.2.1 t828 t829 t832).bind fun t854 => (if t854 = true then (laws_FnExactQuitLatch.j0 k a1 t835 bt845.2.2.2 (bt845.2.2.2 != t835) a0_0 l0_1 l0_2 t828 t829 t832 t837 t838 t841 bt845.1 bt845.2.1 bt845.2.2.1) else (laws_FnExactQuitLatch.j0 k a1 t835 bt845.2.2.2 true a0_0 l0_1 l0_2 t828 t829 t832 t837 t838 t841 bt845.1 bt845.2.1 bt845.2.2.1)))) = some r := H
  have A10 := am A100
  clear A100
  replace H := Option.bind_eq_some_iff.mp H
  obtain ⟨⟨t845, t846, t849, t852⟩, A110, H⟩ := H
  replace H : ((laws_eqLatch.f k t845 t846 t849 t828 t829 t832).bind fun t854 => (if t854 = true then (laws_FnExactQuitLatch.j0 k a1 t835 t852 (t852 != t835) a0_0 l0_1 l0_2 t828 t829 t832 t837 t838 t841 t845 t846 t849) else (laws_FnExactQuitLatch.j0 k a1 t835 t852 true a0_0 l0_1 l0_2 t828 t829 t832 t837 t838 t841 t845 t846 t849))) = some r := H
  have A11 := am A110
  clear A110
  have HC12 := am H
  clear H
  go_enter Try.func9, Try.ntmps9
  go_upto_region 8 with (first | ((with_reducible refine gate_dst (N := 2) rfl ?_); refine box_event ?hg (N := 2) ?hd (cs := #[.int .i64 a0_0, .slice A0_1 l0_1.length c0_1, .slice A0_2 l0_2.length c0_2]) (t := 43) ?hr ?_; (case hd => rfl); (case hg => rfl); (case hr => first | (go_simp; done) | (go_simp; rfl)); intro gb819 hg w13 hbox hb; have BK819 := am (hbox); have GW819 := am ((by rw [hg]; exact (below_size (pkB HB.out)) : w.heap.size ≤ gb819)); have GE819 := am ((by rw [hg]; exact (below_size (pkB HB.out)) : w.heap.size ≤ gb819)); replace HB := am (below_step (pkB HB.out) hb); clear hb hbox hg; obtain ⟨hcz14_0, hcz14_1, hcz14_2, hfz14_0, hfz14_1, hfz14_2⟩ := bk3 BK819.out) | ((with_reducible refine gate_callee (f := 23) rfl ?_); refine goesL_ (some 18) rfl rfl Try.func23 (by kernel_rfl) rfl #[.agg #[.int .i64 a0_0, .slice A0_1 l0_1.length c0_1, .slice A0_2 l0_2.length c0_2], .int .i64 1048576] rfl mpx ?_; (with_reducible refine (laws_szLatch.calls a0_0 _ _ l0_1 _ _ l0_2 1048576 t820 _ ?side1 ?side2 ?side3 ?side4 A3.out).mono ?_); (case side1 => exact pkC (Kd.C_below HR0_1.out HB.out)); (case side2 => exact HC0_1.out); (case side3 => exact pkC (Kd.C_below HR0_2.out HB.out)); (case side4 => exact HC0_2.out); rintro e w15 ⟨rfl, hb⟩; refine ⟨_, rfl, ?_⟩; replace BK819 := am (blk_below (pkK BK819.out) hb); replace HB := am (below_step (pkW HB.out) hb); (try clear hb); obtain ⟨hcz16_0, hcz16_1, hcz16_2, hfz16_0, hfz16_1, hfz16_2⟩ := bk3 BK819.out) | ((with_reducible refine gate_callee (f := 25) rfl ?_); refine goesL_ (some 23) rfl rfl Try.func25 (by kernel_rfl) rfl #[.agg #[.int .i64 a0_0, .slice A0_1 l0_1.length c0_1, .slice A0_2 l0_2.length c0_2]] rfl mpx ?_; (with_reducible refine (laws_toLatch.calls k a0_0 _ _ l0_1 _ _ l0_2 t821 t822 t825 _ ?side1 ?side2 ?side3 ?side4 A8.out).mono ?_); (case side1 => exact pkC (Kd.C_below HR0_1.out HB.out)); (case side2 => exact HC0_1.out); (case side3 => exact pkC (Kd.C_below HR0_2.out HB.out)); (case side4 => exact HC0_2.out); rintro e w17 ⟨v823, v826, rfl, ho0, ho1, hb⟩; refine ⟨_, rfl, ?_⟩; have HO824 := am (Kd.R_lower ho0 (below_size (pkW HB.out))); have HO827 := am (Kd.R_lower ho1 (below_size (pkW HB.out))); replace BK819 := am (blk_below (pkK BK819.out) hb); replace HB := am (below_step (pkW HB.out) hb); (try clear hb ho0 ho1); obtain ⟨Ao18, co18, eo18⟩ := Kd.R_slice HO824.out; subst eo18; obtain ⟨Ao19, co19, eo19⟩ := Kd.R_slice HO827.out; subst eo19) | ((with_reducible refine gate_callee (f := 40) rfl ?_); refine goesL_ (some 25) rfl rfl Try.func40 (by kernel_rfl) rfl #[.agg #[.int .i64 t821, .slice Ao18 t822.length co18, .slice Ao19 t825.length co19], .int .i64 a1] rfl mpx ?_; (with_reducible refine (spec_QuitLatch.calls k t821 _ _ t822 _ _ t825 a1 t828 t829 t832 t835 _ ?side1 ?side2 ?side3 ?side4 A9.out).mono ?_); (case side1 => exact pkC (Kd.R_reads' HO824.out).2.2); (case side2 => exact (Kd.R_reads' HO824.out).2.1); (case side3 => exact pkC (Kd.R_reads' HO827.out).2.2); (case side4 => exact (Kd.R_reads' HO827.out).2.1); rintro e w20 ⟨v830, v833, rfl, ho0, ho1, hb⟩; refine ⟨_, rfl, ?_⟩; have HO831 := am (Kd.R_lower (Kd.R_new' (Kd.R_new' ho0 (Kd.R_lt (pkR HO824.out))) (Kd.R_lt (pkR HO827.out))) (below_size (pkW HB.out))); have HO834 := am (Kd.R_lower (Kd.R_new' (Kd.R_new' ho1 (Kd.R_lt (pkR HO824.out))) (Kd.R_lt (pkR HO827.out))) (below_size (pkW HB.out))); replace HO824 := am (Kd.R_mono (Kd.R_told (Kd.R_told (Kd.R_old (pkR HO824.out) hb) (Kd.R_base ho0)) (Kd.R_base ho1)) (fun _ h_ => h_.1)); replace HO827 := am (Kd.R_mono (Kd.R_told (Kd.R_told (Kd.R_old (pkR HO827.out) hb) (Kd.R_base ho0)) (Kd.R_base ho1)) (fun _ h_ => h_.1)); replace BK819 := am (blk_below (pkK BK819.out) hb); replace HB := am (below_step (pkW HB.out) hb); (try clear hb ho0 ho1)) | ((with_reducible refine gate_dst (N := 6) rfl ?_); refine box_event ?hg (N := 6) ?hd (cs := #[.int .i64 0, .slice none 0 0, .slice none 0 0]) (t := 46) ?hr ?_; (case hd => rfl); (case hg => rfl); (case hr => first | (go_simp; done) | (go_simp; rfl)); intro gb836 hg w21 hbox hb; replace HO824 := am (Kd.R_below (pkR HO824.out) hb); replace HO827 := am (Kd.R_below (pkR HO827.out) hb); replace HO831 := am (Kd.R_below (pkR HO831.out) hb); replace HO834 := am (Kd.R_below (pkR HO834.out) hb); have BK836 := am (hbox); have GW836 := am ((by rw [hg]; exact (below_size (pkW HB.out)) : w.heap.size ≤ gb836)); have GE836 := am ((by rw [hg]; exact (below_size (pkW HB.out)) : w.heap.size ≤ gb836)); replace HB := am (below_step (pkW HB.out) hb); have NB819_836 := am ((by rw [hg]; exact Nat.ne_of_lt (blk_lt (g := gb819) (o := .cells #[.int .i64 a0_0, .slice A0_1 l0_1.length c0_1, .slice A0_2 l0_2.length c0_2] 43 (0, 0)) (pkK BK819.out)) : gb819 ≠ gb836)); have NB836_819 := am ((by rw [hg]; exact Nat.ne_of_gt (blk_lt (g := gb819) (o := .cells #[.int .i64 a0_0, .slice A0_1 l0_1.length c0_1, .slice A0_2 l0_2.length c0_2] 43 (0, 0)) (pkK BK819.out)) : gb836 ≠ gb819)); replace BK819 := am (blk_below (pkK BK819.out) hb); clear hb hbox hg; have hnb22 := NB836_819.out; have hnc22 := NB819_836.out; obtain ⟨hcz23_0, hcz23_1, hcz23_2, hfz23_0, hfz23_1, hfz23_2⟩ := bk3 BK836.out; obtain ⟨Ao24, co24, eo24⟩ := Kd.R_slice HO831.out; subst eo24; obtain ⟨Ao25, co25, eo25⟩ := Kd.R_slice HO834.out; subst eo25; obtain ⟨hcz26_0, hcz26_1, hcz26_2, hfz26_0, hfz26_1, hfz26_2⟩ := bk3 BK819.out) | ((with_reducible refine gate_callee (f := 25) rfl ?_); refine goesL_ (some 29) rfl rfl Try.func25 (by kernel_rfl) rfl #[.agg #[.int .i64 a0_0, .slice A0_1 l0_1.length c0_1, .slice A0_2 l0_2.length c0_2]] rfl mpx ?_; (with_reducible refine (laws_toLatch.calls k a0_0 _ _ l0_1 _ _ l0_2 t837 t838 t841 _ ?side1 ?side2 ?side3 ?side4 A10.out).mono ?_); (case side1 => exact Kd.C_below HR0_1.out (pkW HB.out)); (case side2 => exact HC0_1.out); (case side3 => exact Kd.C_below HR0_2.out (pkW HB.out)); (case side4 => exact HC0_2.out); rintro e w27 ⟨v839, v842, rfl, ho0, ho1, hb⟩; refine ⟨_, rfl, ?_⟩; have HO840 := am (Kd.R_lower (Kd.R_new' (Kd.R_new' (Kd.R_new' (Kd.R_new' ho0 (Kd.R_lt (by (with_reducible repeat (first | apply Kd.R_alloc | apply Kd.R_drewN | apply Kd.R_drew)); exact (Kd.R_mono (Kd.R_far (p := ⟨gb836, 2, none⟩) (Kd.R_far (p := ⟨gb836, 1, none⟩) (Kd.R_far (p := ⟨gb836, 0, none⟩) (Kd.R_types HO824.out BK836.out (by decide)) (fun _ hk => hk.2) (.int .i64 t828)) (fun _ hk => hk.2) (.slice Ao24 t829.length co24)) (fun _ hk => hk.2) (.slice Ao25 t832.length co25)) (fun _ h_ => h_.1))))) (Kd.R_lt (by (with_reducible repeat (first | apply Kd.R_alloc | apply Kd.R_drewN | apply Kd.R_drew)); exact (Kd.R_mono (Kd.R_far (p := ⟨gb836, 2, none⟩) (Kd.R_far (p := ⟨gb836, 1, none⟩) (Kd.R_far (p := ⟨gb836, 0, none⟩) (Kd.R_types HO827.out BK836.out (by decide)) (fun _ hk => hk.2) (.int .i64 t828)) (fun _ hk => hk.2) (.slice Ao24 t829.length co24)) (fun _ hk => hk.2) (.slice Ao25 t832.length co25)) (fun _ h_ => h_.1))))) (Kd.R_lt (by (with_reducible repeat (first | apply Kd.R_alloc | apply Kd.R_drewN | apply Kd.R_drew)); exact (Kd.R_mono (Kd.R_far (p := ⟨gb836, 2, none⟩) (Kd.R_far (p := ⟨gb836, 1, none⟩) (Kd.R_far (p := ⟨gb836, 0, none⟩) (Kd.R_types HO831.out BK836.out (by decide)) (fun _ hk => hk.2) (.int .i64 t828)) (fun _ hk => hk.2) (.slice Ao24 t829.length co24)) (fun _ hk => hk.2) (.slice Ao25 t832.length co25)) (fun _ h_ => h_.1))))) (Kd.R_lt (by (with_reducible repeat (first | apply Kd.R_alloc | apply Kd.R_drewN | apply Kd.R_drew)); exact (Kd.R_mono (Kd.R_far (p := ⟨gb836, 2, none⟩) (Kd.R_far (p := ⟨gb836, 1, none⟩) (Kd.R_far (p := ⟨gb836, 0, none⟩) (Kd.R_types HO834.out BK836.out (by decide)) (fun _ hk => hk.2) (.int .i64 t828)) (fun _ hk => hk.2) (.slice Ao24 t829.length co24)) (fun _ hk => hk.2) (.slice Ao25 t832.length co25)) (fun _ h_ => h_.1))))) (below_size (pkW HB.out))); have HO843 := am (Kd.R_lower (Kd.R_new' (Kd.R_new' (Kd.R_new' (Kd.R_new' ho1 (Kd.R_lt (by (with_reducible repeat (first | apply Kd.R_alloc | apply Kd.R_drewN | apply Kd.R_drew)); exact (Kd.R_mono (Kd.R_far (p := ⟨gb836, 2, none⟩) (Kd.R_far (p := ⟨gb836, 1, none⟩) (Kd.R_far (p := ⟨gb836, 0, none⟩) (Kd.R_types HO824.out BK836.out (by decide)) (fun _ hk => hk.2) (.int .i64 t828)) (fun _ hk => hk.2) (.slice Ao24 t829.length co24)) (fun _ hk => hk.2) (.slice Ao25 t832.length co25)) (fun _ h_ => h_.1))))) (Kd.R_lt (by (with_reducible repeat (first | apply Kd.R_alloc | apply Kd.R_drewN | apply Kd.R_drew)); exact (Kd.R_mono (Kd.R_far (p := ⟨gb836, 2, none⟩) (Kd.R_far (p := ⟨gb836, 1, none⟩) (Kd.R_far (p := ⟨gb836, 0, none⟩) (Kd.R_types HO827.out BK836.out (by decide)) (fun _ hk => hk.2) (.int .i64 t828)) (fun _ hk => hk.2) (.slice Ao24 t829.length co24)) (fun _ hk => hk.2) (.slice Ao25 t832.length co25)) (fun _ h_ => h_.1))))) (Kd.R_lt (by (with_reducible repeat (first | apply Kd.R_alloc | apply Kd.R_drewN | apply Kd.R_drew)); exact (Kd.R_mono (Kd.R_far (p := ⟨gb836, 2, none⟩) (Kd.R_far (p := ⟨gb836, 1, none⟩) (Kd.R_far (p := ⟨gb836, 0, none⟩) (Kd.R_types HO831.out BK836.out (by decide)) (fun _ hk => hk.2) (.int .i64 t828)) (fun _ hk => hk.2) (.slice Ao24 t829.length co24)) (fun _ hk => hk.2) (.slice Ao25 t832.length co25)) (fun _ h_ => h_.1))))) (Kd.R_lt (by (with_reducible repeat (first | apply Kd.R_alloc | apply Kd.R_drewN | apply Kd.R_drew)); exact (Kd.R_mono (Kd.R_far (p := ⟨gb836, 2, none⟩) (Kd.R_far (p := ⟨gb836, 1, none⟩) (Kd.R_far (p := ⟨gb836, 0, none⟩) (Kd.R_types HO834.out BK836.out (by decide)) (fun _ hk => hk.2) (.int .i64 t828)) (fun _ hk => hk.2) (.slice Ao24 t829.length co24)) (fun _ hk => hk.2) (.slice Ao25 t832.length co25)) (fun _ h_ => h_.1))))) (below_size (pkW HB.out))); replace HO824 := am (Kd.R_mono (Kd.R_told (Kd.R_told (Kd.R_old (by (with_reducible repeat (first | apply Kd.R_alloc | apply Kd.R_drewN | apply Kd.R_drew)); exact (Kd.R_mono (Kd.R_far (p := ⟨gb836, 2, none⟩) (Kd.R_far (p := ⟨gb836, 1, none⟩) (Kd.R_far (p := ⟨gb836, 0, none⟩) (Kd.R_types HO824.out BK836.out (by decide)) (fun _ hk => hk.2) (.int .i64 t828)) (fun _ hk => hk.2) (.slice Ao24 t829.length co24)) (fun _ hk => hk.2) (.slice Ao25 t832.length co25)) (fun _ h_ => h_.1))) hb) (Kd.R_base ho0)) (Kd.R_base ho1)) (fun _ h_ => h_.1)); replace HO827 := am (Kd.R_mono (Kd.R_told (Kd.R_told (Kd.R_old (by (with_reducible repeat (first | apply Kd.R_alloc | apply Kd.R_drewN | apply Kd.R_drew)); exact (Kd.R_mono (Kd.R_far (p := ⟨gb836, 2, none⟩) (Kd.R_far (p := ⟨gb836, 1, none⟩) (Kd.R_far (p := ⟨gb836, 0, none⟩) (Kd.R_types HO827.out BK836.out (by decide)) (fun _ hk => hk.2) (.int .i64 t828)) (fun _ hk => hk.2) (.slice Ao24 t829.length co24)) (fun _ hk => hk.2) (.slice Ao25 t832.length co25)) (fun _ h_ => h_.1))) hb) (Kd.R_base ho0)) (Kd.R_base ho1)) (fun _ h_ => h_.1)); replace HO831 := am (Kd.R_mono (Kd.R_told (Kd.R_told (Kd.R_old (by (with_reducible repeat (first | apply Kd.R_alloc | apply Kd.R_drewN | apply Kd.R_drew)); exact (Kd.R_mono (Kd.R_far (p := ⟨gb836, 2, none⟩) (Kd.R_far (p := ⟨gb836, 1, none⟩) (Kd.R_far (p := ⟨gb836, 0, none⟩) (Kd.R_types HO831.out BK836.out (by decide)) (fun _ hk => hk.2) (.int .i64 t828)) (fun _ hk => hk.2) (.slice Ao24 t829.length co24)) (fun _ hk => hk.2) (.slice Ao25 t832.length co25)) (fun _ h_ => h_.1))) hb) (Kd.R_base ho0)) (Kd.R_base ho1)) (fun _ h_ => h_.1)); replace HO834 := am (Kd.R_mono (Kd.R_told (Kd.R_told (Kd.R_old (by (with_reducible repeat (first | apply Kd.R_alloc | apply Kd.R_drewN | apply Kd.R_drew)); exact (Kd.R_mono (Kd.R_far (p := ⟨gb836, 2, none⟩) (Kd.R_far (p := ⟨gb836, 1, none⟩) (Kd.R_far (p := ⟨gb836, 0, none⟩) (Kd.R_types HO834.out BK836.out (by decide)) (fun _ hk => hk.2) (.int .i64 t828)) (fun _ hk => hk.2) (.slice Ao24 t829.length co24)) (fun _ hk => hk.2) (.slice Ao25 t832.length co25)) (fun _ h_ => h_.1))) hb) (Kd.R_base ho0)) (Kd.R_base ho1)) (fun _ h_ => h_.1)); replace BK819 := am (blk_below (g := gb819) (o := .cells #[.int .i64 a0_0, .slice A0_1 l0_1.length c0_1, .slice A0_2 l0_2.length c0_2] 43 (0, 0)) (by (with_reducible repeat (first | refine blk_drewN ?_ _ | refine blk_drew ?_ | refine blk_alloc ?_ _)); refine blk_far ?_ NB819_836.out _; (with_reducible repeat (first | refine blk_drewN ?_ _ | refine blk_drew ?_ | refine blk_alloc ?_ _)); refine blk_far ?_ NB819_836.out _; (with_reducible repeat (first | refine blk_drewN ?_ _ | refine blk_drew ?_ | refine blk_alloc ?_ _)); refine blk_far ?_ NB819_836.out _; exact pkK BK819.out) hb); replace BK836 := am (blk_below (g := gb836) (o := .cells #[.int .i64 t828, .slice Ao24 t829.length co24, .slice Ao25 t832.length co25] 46 (0, 0)) (by (with_reducible repeat (first | refine blk_drewN ?_ _ | refine blk_drew ?_ | refine blk_alloc ?_ _)); refine blk_put (cs := #[.int .i64 t828, .slice Ao24 t829.length co24, .slice none 0 0]) ?_ 2 _ rfl; (with_reducible repeat (first | refine blk_drewN ?_ _ | refine blk_drew ?_ | refine blk_alloc ?_ _)); refine blk_put (cs := #[.int .i64 t828, .slice none 0 0, .slice none 0 0]) ?_ 1 _ rfl; (with_reducible repeat (first | refine blk_drewN ?_ _ | refine blk_drew ?_ | refine blk_alloc ?_ _)); refine blk_put (cs := #[.int .i64 0, .slice none 0 0, .slice none 0 0]) ?_ 0 _ rfl; exact pkK BK836.out) hb); replace HB := am (below_step (pkW HB.out) hb); (try clear hb ho0 ho1)) | ((with_reducible refine gate_dst (N := 8) rfl ?_); refine box_event ?hg (N := 8) ?hd (cs := #[.int .i64 0, .slice none 0 0, .slice none 0 0]) (t := 46) ?hr ?_; (case hd => rfl); (case hg => rfl); (case hr => first | (go_simp; done) | (go_simp; rfl)); intro gb844 hg w28 hbox hb; replace HO824 := am (Kd.R_below (pkR HO824.out) hb); replace HO827 := am (Kd.R_below (pkR HO827.out) hb); replace HO831 := am (Kd.R_below (pkR HO831.out) hb); replace HO834 := am (Kd.R_below (pkR HO834.out) hb); replace HO840 := am (Kd.R_below (pkR HO840.out) hb); replace HO843 := am (Kd.R_below (pkR HO843.out) hb); have BK844 := am (hbox); have GW844 := am ((by rw [hg]; exact (below_size (pkW HB.out)) : w.heap.size ≤ gb844)); have GE844 := am ((by rw [hg]; exact (below_size (pkW HB.out)) : w.heap.size ≤ gb844)); replace HB := am (below_step (pkW HB.out) hb); have NB819_844 := am ((by rw [hg]; exact Nat.ne_of_lt (blk_lt (g := gb819) (o := .cells #[.int .i64 a0_0, .slice A0_1 l0_1.length c0_1, .slice A0_2 l0_2.length c0_2] 43 (0, 0)) (pkK BK819.out)) : gb819 ≠ gb844)); have NB844_819 := am ((by rw [hg]; exact Nat.ne_of_gt (blk_lt (g := gb819) (o := .cells #[.int .i64 a0_0, .slice A0_1 l0_1.length c0_1, .slice A0_2 l0_2.length c0_2] 43 (0, 0)) (pkK BK819.out)) : gb844 ≠ gb819)); replace BK819 := am (blk_below (pkK BK819.out) hb); have NB836_844 := am ((by rw [hg]; exact Nat.ne_of_lt (blk_lt (g := gb836) (o := .cells #[.int .i64 t828, .slice Ao24 t829.length co24, .slice Ao25 t832.length co25] 46 (0, 0)) (pkK BK836.out)) : gb836 ≠ gb844)); have NB844_836 := am ((by rw [hg]; exact Nat.ne_of_gt (blk_lt (g := gb836) (o := .cells #[.int .i64 t828, .slice Ao24 t829.length co24, .slice Ao25 t832.length co25] 46 (0, 0)) (pkK BK836.out)) : gb844 ≠ gb836)); replace BK836 := am (blk_below (pkK BK836.out) hb); clear hb hbox hg; have hnb29 := NB844_819.out; have hnc29 := NB819_844.out; have hnb30 := NB844_836.out; have hnc30 := NB836_844.out; obtain ⟨hcz31_0, hcz31_1, hcz31_2, hfz31_0, hfz31_1, hfz31_2⟩ := bk3 BK844.out; obtain ⟨Ao32, co32, eo32⟩ := Kd.R_slice HO840.out; subst eo32; obtain ⟨Ao33, co33, eo33⟩ := Kd.R_slice HO843.out; subst eo33) | ((with_reducible refine gate_callee (f := 41) rfl ?_); refine goesL_ (some 33) rfl rfl Try.func41 (by kernel_rfl) rfl #[.agg #[.int .i64 t837, .slice Ao32 t838.length co32, .slice Ao33 t841.length co33], .int .i64 a1] rfl mpx ?_; (with_reducible refine (impl_QuitLatch.calls k t837 _ _ t838 _ _ t841 a1 t845 t846 t849 t852 _ ?side1 ?side2 ?side3 ?side4 A11.out).mono ?_); (case side1 => refine (Kd.R_reads' (e := 3) (base := w.heap.size) (ok := fun k_ => ((((some k_ ≠ (.slice Ao33 t841.length co33 : Value).ownBlock ∧ some k_ ≠ (.slice Ao18 t822.length co18 : Value).ownBlock) ∧ some k_ ≠ (.slice Ao19 t825.length co19 : Value).ownBlock) ∧ some k_ ≠ (.slice Ao24 t829.length co24 : Value).ownBlock) ∧ some k_ ≠ (.slice Ao25 t832.length co25 : Value).ownBlock)) (n := t838.length) (c := co32) ?_).2.2; exact (by (with_reducible repeat (first | apply Kd.R_alloc | apply Kd.R_drewN | apply Kd.R_drew)); exact (Kd.R_mono (Kd.R_far (p := ⟨gb844, 2, none⟩) (Kd.R_far (p := ⟨gb844, 1, none⟩) (Kd.R_far (p := ⟨gb844, 0, none⟩) (Kd.R_types HO840.out BK844.out (by decide)) (fun _ hk => hk.2) (.int .i64 t837)) (fun _ hk => hk.2) (.slice Ao32 t838.length co32)) (fun _ hk => hk.2) (.slice Ao33 t841.length co33)) (fun _ h_ => h_.1)))); (case side2 => exact (Kd.R_reads' HO840.out).2.1); (case side3 => refine (Kd.R_reads' (e := 3) (base := w.heap.size) (ok := fun k_ => ((((some k_ ≠ (.slice Ao32 t838.length co32 : Value).ownBlock ∧ some k_ ≠ (.slice Ao18 t822.length co18 : Value).ownBlock) ∧ some k_ ≠ (.slice Ao19 t825.length co19 : Value).ownBlock) ∧ some k_ ≠ (.slice Ao24 t829.length co24 : Value).ownBlock) ∧ some k_ ≠ (.slice Ao25 t832.length co25 : Value).ownBlock)) (n := t841.length) (c := co33) ?_).2.2; exact (by (with_reducible repeat (first | apply Kd.R_alloc | apply Kd.R_drewN | apply Kd.R_drew)); exact (Kd.R_mono (Kd.R_far (p := ⟨gb844, 2, none⟩) (Kd.R_far (p := ⟨gb844, 1, none⟩) (Kd.R_far (p := ⟨gb844, 0, none⟩) (Kd.R_types HO843.out BK844.out (by decide)) (fun _ hk => hk.2) (.int .i64 t837)) (fun _ hk => hk.2) (.slice Ao32 t838.length co32)) (fun _ hk => hk.2) (.slice Ao33 t841.length co33)) (fun _ h_ => h_.1)))); (case side4 => exact (Kd.R_reads' HO843.out).2.1); rintro e w34 ⟨v847, v850, rfl, ho0, ho1, hb⟩; refine ⟨_, rfl, ?_⟩; have HO848 := am (Kd.R_lower (Kd.R_new' (Kd.R_new' (Kd.R_new' (Kd.R_new' (Kd.R_new' (Kd.R_new' ho0 (Kd.R_lt (by (with_reducible repeat (first | apply Kd.R_alloc | apply Kd.R_drewN | apply Kd.R_drew)); exact (Kd.R_mono (Kd.R_far (p := ⟨gb844, 2, none⟩) (Kd.R_far (p := ⟨gb844, 1, none⟩) (Kd.R_far (p := ⟨gb844, 0, none⟩) (Kd.R_types HO824.out BK844.out (by decide)) (fun _ hk => hk.2) (.int .i64 t837)) (fun _ hk => hk.2) (.slice Ao32 t838.length co32)) (fun _ hk => hk.2) (.slice Ao33 t841.length co33)) (fun _ h_ => h_.1))))) (Kd.R_lt (by (with_reducible repeat (first | apply Kd.R_alloc | apply Kd.R_drewN | apply Kd.R_drew)); exact (Kd.R_mono (Kd.R_far (p := ⟨gb844, 2, none⟩) (Kd.R_far (p := ⟨gb844, 1, none⟩) (Kd.R_far (p := ⟨gb844, 0, none⟩) (Kd.R_types HO827.out BK844.out (by decide)) (fun _ hk => hk.2) (.int .i64 t837)) (fun _ hk => hk.2) (.slice Ao32 t838.length co32)) (fun _ hk => hk.2) (.slice Ao33 t841.length co33)) (fun _ h_ => h_.1))))) (Kd.R_lt (by (with_reducible repeat (first | apply Kd.R_alloc | apply Kd.R_drewN | apply Kd.R_drew)); exact (Kd.R_mono (Kd.R_far (p := ⟨gb844, 2, none⟩) (Kd.R_far (p := ⟨gb844, 1, none⟩) (Kd.R_far (p := ⟨gb844, 0, none⟩) (Kd.R_types HO831.out BK844.out (by decide)) (fun _ hk => hk.2) (.int .i64 t837)) (fun _ hk => hk.2) (.slice Ao32 t838.length co32)) (fun _ hk => hk.2) (.slice Ao33 t841.length co33)) (fun _ h_ => h_.1))))) (Kd.R_lt (by (with_reducible repeat (first | apply Kd.R_alloc | apply Kd.R_drewN | apply Kd.R_drew)); exact (Kd.R_mono (Kd.R_far (p := ⟨gb844, 2, none⟩) (Kd.R_far (p := ⟨gb844, 1, none⟩) (Kd.R_far (p := ⟨gb844, 0, none⟩) (Kd.R_types HO834.out BK844.out (by decide)) (fun _ hk => hk.2) (.int .i64 t837)) (fun _ hk => hk.2) (.slice Ao32 t838.length co32)) (fun _ hk => hk.2) (.slice Ao33 t841.length co33)) (fun _ h_ => h_.1))))) (Kd.R_lt (by (with_reducible repeat (first | apply Kd.R_alloc | apply Kd.R_drewN | apply Kd.R_drew)); exact (Kd.R_mono (Kd.R_far (p := ⟨gb844, 2, none⟩) (Kd.R_far (p := ⟨gb844, 1, none⟩) (Kd.R_far (p := ⟨gb844, 0, none⟩) (Kd.R_types HO840.out BK844.out (by decide)) (fun _ hk => hk.2) (.int .i64 t837)) (fun _ hk => hk.2) (.slice Ao32 t838.length co32)) (fun _ hk => hk.2) (.slice Ao33 t841.length co33)) (fun _ h_ => h_.1))))) (Kd.R_lt (by (with_reducible repeat (first | apply Kd.R_alloc | apply Kd.R_drewN | apply Kd.R_drew)); exact (Kd.R_mono (Kd.R_far (p := ⟨gb844, 2, none⟩) (Kd.R_far (p := ⟨gb844, 1, none⟩) (Kd.R_far (p := ⟨gb844, 0, none⟩) (Kd.R_types HO843.out BK844.out (by decide)) (fun _ hk => hk.2) (.int .i64 t837)) (fun _ hk => hk.2) (.slice Ao32 t838.length co32)) (fun _ hk => hk.2) (.slice Ao33 t841.length co33)) (fun _ h_ => h_.1))))) (below_size (pkW HB.out))); have HO851 := am (Kd.R_lower (Kd.R_new' (Kd.R_new' (Kd.R_new' (Kd.R_new' (Kd.R_new' (Kd.R_new' ho1 (Kd.R_lt (by (with_reducible repeat (first | apply Kd.R_alloc | apply Kd.R_drewN | apply Kd.R_drew)); exact (Kd.R_mono (Kd.R_far (p := ⟨gb844, 2, none⟩) (Kd.R_far (p := ⟨gb844, 1, none⟩) (Kd.R_far (p := ⟨gb844, 0, none⟩) (Kd.R_types HO824.out BK844.out (by decide)) (fun _ hk => hk.2) (.int .i64 t837)) (fun _ hk => hk.2) (.slice Ao32 t838.length co32)) (fun _ hk => hk.2) (.slice Ao33 t841.length co33)) (fun _ h_ => h_.1))))) (Kd.R_lt (by (with_reducible repeat (first | apply Kd.R_alloc | apply Kd.R_drewN | apply Kd.R_drew)); exact (Kd.R_mono (Kd.R_far (p := ⟨gb844, 2, none⟩) (Kd.R_far (p := ⟨gb844, 1, none⟩) (Kd.R_far (p := ⟨gb844, 0, none⟩) (Kd.R_types HO827.out BK844.out (by decide)) (fun _ hk => hk.2) (.int .i64 t837)) (fun _ hk => hk.2) (.slice Ao32 t838.length co32)) (fun _ hk => hk.2) (.slice Ao33 t841.length co33)) (fun _ h_ => h_.1))))) (Kd.R_lt (by (with_reducible repeat (first | apply Kd.R_alloc | apply Kd.R_drewN | apply Kd.R_drew)); exact (Kd.R_mono (Kd.R_far (p := ⟨gb844, 2, none⟩) (Kd.R_far (p := ⟨gb844, 1, none⟩) (Kd.R_far (p := ⟨gb844, 0, none⟩) (Kd.R_types HO831.out BK844.out (by decide)) (fun _ hk => hk.2) (.int .i64 t837)) (fun _ hk => hk.2) (.slice Ao32 t838.length co32)) (fun _ hk => hk.2) (.slice Ao33 t841.length co33)) (fun _ h_ => h_.1))))) (Kd.R_lt (by (with_reducible repeat (first | apply Kd.R_alloc | apply Kd.R_drewN | apply Kd.R_drew)); exact (Kd.R_mono (Kd.R_far (p := ⟨gb844, 2, none⟩) (Kd.R_far (p := ⟨gb844, 1, none⟩) (Kd.R_far (p := ⟨gb844, 0, none⟩) (Kd.R_types HO834.out BK844.out (by decide)) (fun _ hk => hk.2) (.int .i64 t837)) (fun _ hk => hk.2) (.slice Ao32 t838.length co32)) (fun _ hk => hk.2) (.slice Ao33 t841.length co33)) (fun _ h_ => h_.1))))) (Kd.R_lt (by (with_reducible repeat (first | apply Kd.R_alloc | apply Kd.R_drewN | apply Kd.R_drew)); exact (Kd.R_mono (Kd.R_far (p := ⟨gb844, 2, none⟩) (Kd.R_far (p := ⟨gb844, 1, none⟩) (Kd.R_far (p := ⟨gb844, 0, none⟩) (Kd.R_types HO840.out BK844.out (by decide)) (fun _ hk => hk.2) (.int .i64 t837)) (fun _ hk => hk.2) (.slice Ao32 t838.length co32)) (fun _ hk => hk.2) (.slice Ao33 t841.length co33)) (fun _ h_ => h_.1))))) (Kd.R_lt (by (with_reducible repeat (first | apply Kd.R_alloc | apply Kd.R_drewN | apply Kd.R_drew)); exact (Kd.R_mono (Kd.R_far (p := ⟨gb844, 2, none⟩) (Kd.R_far (p := ⟨gb844, 1, none⟩) (Kd.R_far (p := ⟨gb844, 0, none⟩) (Kd.R_types HO843.out BK844.out (by decide)) (fun _ hk => hk.2) (.int .i64 t837)) (fun _ hk => hk.2) (.slice Ao32 t838.length co32)) (fun _ hk => hk.2) (.slice Ao33 t841.length co33)) (fun _ h_ => h_.1))))) (below_size (pkW HB.out))); replace HO824 := am (Kd.R_mono (Kd.R_told (Kd.R_told (Kd.R_old (by (with_reducible repeat (first | apply Kd.R_alloc | apply Kd.R_drewN | apply Kd.R_drew)); exact (Kd.R_mono (Kd.R_far (p := ⟨gb844, 2, none⟩) (Kd.R_far (p := ⟨gb844, 1, none⟩) (Kd.R_far (p := ⟨gb844, 0, none⟩) (Kd.R_types HO824.out BK844.out (by decide)) (fun _ hk => hk.2) (.int .i64 t837)) (fun _ hk => hk.2) (.slice Ao32 t838.length co32)) (fun _ hk => hk.2) (.slice Ao33 t841.length co33)) (fun _ h_ => h_.1))) hb) (Kd.R_base ho0)) (Kd.R_base ho1)) (fun _ h_ => h_.1)); replace HO827 := am (Kd.R_mono (Kd.R_told (Kd.R_told (Kd.R_old (by (with_reducible repeat (first | apply Kd.R_alloc | apply Kd.R_drewN | apply Kd.R_drew)); exact (Kd.R_mono (Kd.R_far (p := ⟨gb844, 2, none⟩) (Kd.R_far (p := ⟨gb844, 1, none⟩) (Kd.R_far (p := ⟨gb844, 0, none⟩) (Kd.R_types HO827.out BK844.out (by decide)) (fun _ hk => hk.2) (.int .i64 t837)) (fun _ hk => hk.2) (.slice Ao32 t838.length co32)) (fun _ hk => hk.2) (.slice Ao33 t841.length co33)) (fun _ h_ => h_.1))) hb) (Kd.R_base ho0)) (Kd.R_base ho1)) (fun _ h_ => h_.1)); replace HO831 := am (Kd.R_mono (Kd.R_told (Kd.R_told (Kd.R_old (by (with_reducible repeat (first | apply Kd.R_alloc | apply Kd.R_drewN | apply Kd.R_drew)); exact (Kd.R_mono (Kd.R_far (p := ⟨gb844, 2, none⟩) (Kd.R_far (p := ⟨gb844, 1, none⟩) (Kd.R_far (p := ⟨gb844, 0, none⟩) (Kd.R_types HO831.out BK844.out (by decide)) (fun _ hk => hk.2) (.int .i64 t837)) (fun _ hk => hk.2) (.slice Ao32 t838.length co32)) (fun _ hk => hk.2) (.slice Ao33 t841.length co33)) (fun _ h_ => h_.1))) hb) (Kd.R_base ho0)) (Kd.R_base ho1)) (fun _ h_ => h_.1)); replace HO834 := am (Kd.R_mono (Kd.R_told (Kd.R_told (Kd.R_old (by (with_reducible repeat (first | apply Kd.R_alloc | apply Kd.R_drewN | apply Kd.R_drew)); exact (Kd.R_mono (Kd.R_far (p := ⟨gb844, 2, none⟩) (Kd.R_far (p := ⟨gb844, 1, none⟩) (Kd.R_far (p := ⟨gb844, 0, none⟩) (Kd.R_types HO834.out BK844.out (by decide)) (fun _ hk => hk.2) (.int .i64 t837)) (fun _ hk => hk.2) (.slice Ao32 t838.length co32)) (fun _ hk => hk.2) (.slice Ao33 t841.length co33)) (fun _ h_ => h_.1))) hb) (Kd.R_base ho0)) (Kd.R_base ho1)) (fun _ h_ => h_.1)); replace HO840 := am (Kd.R_mono (Kd.R_told (Kd.R_told (Kd.R_old (by (with_reducible repeat (first | apply Kd.R_alloc | apply Kd.R_drewN | apply Kd.R_drew)); exact (Kd.R_mono (Kd.R_far (p := ⟨gb844, 2, none⟩) (Kd.R_far (p := ⟨gb844, 1, none⟩) (Kd.R_far (p := ⟨gb844, 0, none⟩) (Kd.R_types HO840.out BK844.out (by decide)) (fun _ hk => hk.2) (.int .i64 t837)) (fun _ hk => hk.2) (.slice Ao32 t838.length co32)) (fun _ hk => hk.2) (.slice Ao33 t841.length co33)) (fun _ h_ => h_.1))) hb) (Kd.R_base ho0)) (Kd.R_base ho1)) (fun _ h_ => h_.1)); replace HO843 := am (Kd.R_mono (Kd.R_told (Kd.R_told (Kd.R_old (by (with_reducible repeat (first | apply Kd.R_alloc | apply Kd.R_drewN | apply Kd.R_drew)); exact (Kd.R_mono (Kd.R_far (p := ⟨gb844, 2, none⟩) (Kd.R_far (p := ⟨gb844, 1, none⟩) (Kd.R_far (p := ⟨gb844, 0, none⟩) (Kd.R_types HO843.out BK844.out (by decide)) (fun _ hk => hk.2) (.int .i64 t837)) (fun _ hk => hk.2) (.slice Ao32 t838.length co32)) (fun _ hk => hk.2) (.slice Ao33 t841.length co33)) (fun _ h_ => h_.1))) hb) (Kd.R_base ho0)) (Kd.R_base ho1)) (fun _ h_ => h_.1)); replace BK819 := am (blk_below (g := gb819) (o := .cells #[.int .i64 a0_0, .slice A0_1 l0_1.length c0_1, .slice A0_2 l0_2.length c0_2] 43 (0, 0)) (by (with_reducible repeat (first | refine blk_drewN ?_ _ | refine blk_drew ?_ | refine blk_alloc ?_ _)); refine blk_far ?_ NB819_844.out _; (with_reducible repeat (first | refine blk_drewN ?_ _ | refine blk_drew ?_ | refine blk_alloc ?_ _)); refine blk_far ?_ NB819_844.out _; (with_reducible repeat (first | refine blk_drewN ?_ _ | refine blk_drew ?_ | refine blk_alloc ?_ _)); refine blk_far ?_ NB819_844.out _; exact pkK BK819.out) hb); replace BK836 := am (blk_below (g := gb836) (o := .cells #[.int .i64 t828, .slice Ao24 t829.length co24, .slice Ao25 t832.length co25] 46 (0, 0)) (by (with_reducible repeat (first | refine blk_drewN ?_ _ | refine blk_drew ?_ | refine blk_alloc ?_ _)); refine blk_far ?_ NB836_844.out _; (with_reducible repeat (first | refine blk_drewN ?_ _ | refine blk_drew ?_ | refine blk_alloc ?_ _)); refine blk_far ?_ NB836_844.out _; (with_reducible repeat (first | refine blk_drewN ?_ _ | refine blk_drew ?_ | refine blk_alloc ?_ _)); refine blk_far ?_ NB836_844.out _; exact pkK BK836.out) hb); replace BK844 := am (blk_below (g := gb844) (o := .cells #[.int .i64 t837, .slice Ao32 t838.length co32, .slice Ao33 t841.length co33] 46 (0, 0)) (by (with_reducible repeat (first | refine blk_drewN ?_ _ | refine blk_drew ?_ | refine blk_alloc ?_ _)); refine blk_put (cs := #[.int .i64 t837, .slice Ao32 t838.length co32, .slice none 0 0]) ?_ 2 _ rfl; (with_reducible repeat (first | refine blk_drewN ?_ _ | refine blk_drew ?_ | refine blk_alloc ?_ _)); refine blk_put (cs := #[.int .i64 t837, .slice none 0 0, .slice none 0 0]) ?_ 1 _ rfl; (with_reducible repeat (first | refine blk_drewN ?_ _ | refine blk_drew ?_ | refine blk_alloc ?_ _)); refine blk_put (cs := #[.int .i64 0, .slice none 0 0, .slice none 0 0]) ?_ 0 _ rfl; exact pkK BK844.out) hb); replace HB := am (below_step (pkW HB.out) hb); (try clear hb ho0 ho1)) | ((with_reducible refine gate_dst (N := 9) rfl ?_); refine box_event ?hg (N := 9) ?hd (cs := #[.int .i64 0, .slice none 0 0, .slice none 0 0]) (t := 46) ?hr ?_; (case hd => rfl); (case hg => rfl); (case hr => first | (go_simp; done) | (go_simp; rfl)); intro gb853 hg w35 hbox hb; replace HO824 := am (Kd.R_below (pkR HO824.out) hb); replace HO827 := am (Kd.R_below (pkR HO827.out) hb); replace HO831 := am (Kd.R_below (pkR HO831.out) hb); replace HO834 := am (Kd.R_below (pkR HO834.out) hb); replace HO840 := am (Kd.R_below (pkR HO840.out) hb); replace HO843 := am (Kd.R_below (pkR HO843.out) hb); replace HO848 := am (Kd.R_below (pkR HO848.out) hb); replace HO851 := am (Kd.R_below (pkR HO851.out) hb); have BK853 := am (hbox); have GW853 := am ((by rw [hg]; exact (below_size (pkW HB.out)) : w.heap.size ≤ gb853)); have GE853 := am ((by rw [hg]; exact (below_size (pkW HB.out)) : w.heap.size ≤ gb853)); replace HB := am (below_step (pkW HB.out) hb); have NB819_853 := am ((by rw [hg]; exact Nat.ne_of_lt (blk_lt (g := gb819) (o := .cells #[.int .i64 a0_0, .slice A0_1 l0_1.length c0_1, .slice A0_2 l0_2.length c0_2] 43 (0, 0)) (pkK BK819.out)) : gb819 ≠ gb853)); have NB853_819 := am ((by rw [hg]; exact Nat.ne_of_gt (blk_lt (g := gb819) (o := .cells #[.int .i64 a0_0, .slice A0_1 l0_1.length c0_1, .slice A0_2 l0_2.length c0_2] 43 (0, 0)) (pkK BK819.out)) : gb853 ≠ gb819)); replace BK819 := am (blk_below (pkK BK819.out) hb); have NB836_853 := am ((by rw [hg]; exact Nat.ne_of_lt (blk_lt (g := gb836) (o := .cells #[.int .i64 t828, .slice Ao24 t829.length co24, .slice Ao25 t832.length co25] 46 (0, 0)) (pkK BK836.out)) : gb836 ≠ gb853)); have NB853_836 := am ((by rw [hg]; exact Nat.ne_of_gt (blk_lt (g := gb836) (o := .cells #[.int .i64 t828, .slice Ao24 t829.length co24, .slice Ao25 t832.length co25] 46 (0, 0)) (pkK BK836.out)) : gb853 ≠ gb836)); replace BK836 := am (blk_below (pkK BK836.out) hb); have NB844_853 := am ((by rw [hg]; exact Nat.ne_of_lt (blk_lt (g := gb844) (o := .cells #[.int .i64 t837, .slice Ao32 t838.length co32, .slice Ao33 t841.length co33] 46 (0, 0)) (pkK BK844.out)) : gb844 ≠ gb853)); have NB853_844 := am ((by rw [hg]; exact Nat.ne_of_gt (blk_lt (g := gb844) (o := .cells #[.int .i64 t837, .slice Ao32 t838.length co32, .slice Ao33 t841.length co33] 46 (0, 0)) (pkK BK844.out)) : gb853 ≠ gb844)); replace BK844 := am (blk_below (pkK BK844.out) hb); clear hb hbox hg; have hnb36 := NB853_819.out; have hnc36 := NB819_853.out; have hnb37 := NB853_836.out; have hnc37 := NB836_853.out; have hnb38 := NB853_844.out; have hnc38 := NB844_853.out; obtain ⟨hcz39_0, hcz39_1, hcz39_2, hfz39_0, hfz39_1, hfz39_2⟩ := bk3 BK853.out; obtain ⟨Ao40, co40, eo40⟩ := Kd.R_slice HO848.out; subst eo40; obtain ⟨Ao41, co41, eo41⟩ := Kd.R_slice HO851.out; subst eo41))
  (try simp only [Act.put, List.setIfInBounds_toArray, List.set_cons_zero, List.set_cons_succ])
  go_cut [44] (fun v44 wc => ∃ (kq : Nat) (x44_11 : Bool), v44 = .bool x44_11 ∧ Aside0 (laws_FnExactQuitLatch.j0 kq a1 t835 t852 x44_11 a0_0 l0_1 l0_2 t828 t829 t832 t837 t838 t841 t845 t846 t849 = some r) ∧ Aside0 (kq ≤ k) ∧ Aside0 (Kd.R (Kd.int .i64) 3 wc w.heap.size (fun k_ => some k_ ≠ ((.slice Ao25 t832.length co25) : Value).ownBlock ∧ some k_ ≠ ((.slice Ao32 t838.length co32) : Value).ownBlock ∧ some k_ ≠ ((.slice Ao33 t841.length co33) : Value).ownBlock ∧ some k_ ≠ ((.slice Ao40 t846.length co40) : Value).ownBlock ∧ some k_ ≠ ((.slice Ao41 t849.length co41) : Value).ownBlock) (.slice Ao24 t829.length co24) t829) ∧ Aside0 (Kd.R (Kd.int .i64) 3 wc w.heap.size (fun k_ => some k_ ≠ ((.slice Ao24 t829.length co24) : Value).ownBlock ∧ some k_ ≠ ((.slice Ao32 t838.length co32) : Value).ownBlock ∧ some k_ ≠ ((.slice Ao33 t841.length co33) : Value).ownBlock ∧ some k_ ≠ ((.slice Ao40 t846.length co40) : Value).ownBlock ∧ some k_ ≠ ((.slice Ao41 t849.length co41) : Value).ownBlock) (.slice Ao25 t832.length co25) t832) ∧ Aside0 (Kd.R (Kd.int .i64) 3 wc w.heap.size (fun k_ => some k_ ≠ ((.slice Ao24 t829.length co24) : Value).ownBlock ∧ some k_ ≠ ((.slice Ao25 t832.length co25) : Value).ownBlock ∧ some k_ ≠ ((.slice Ao33 t841.length co33) : Value).ownBlock ∧ some k_ ≠ ((.slice Ao40 t846.length co40) : Value).ownBlock ∧ some k_ ≠ ((.slice Ao41 t849.length co41) : Value).ownBlock) (.slice Ao32 t838.length co32) t838) ∧ Aside0 (Kd.R (Kd.int .i64) 3 wc w.heap.size (fun k_ => some k_ ≠ ((.slice Ao24 t829.length co24) : Value).ownBlock ∧ some k_ ≠ ((.slice Ao25 t832.length co25) : Value).ownBlock ∧ some k_ ≠ ((.slice Ao32 t838.length co32) : Value).ownBlock ∧ some k_ ≠ ((.slice Ao40 t846.length co40) : Value).ownBlock ∧ some k_ ≠ ((.slice Ao41 t849.length co41) : Value).ownBlock) (.slice Ao33 t841.length co33) t841) ∧ Aside0 (Kd.R (Kd.int .i64) 3 wc w.heap.size (fun k_ => some k_ ≠ ((.slice Ao24 t829.length co24) : Value).ownBlock ∧ some k_ ≠ ((.slice Ao25 t832.length co25) : Value).ownBlock ∧ some k_ ≠ ((.slice Ao32 t838.length co32) : Value).ownBlock ∧ some k_ ≠ ((.slice Ao33 t841.length co33) : Value).ownBlock ∧ some k_ ≠ ((.slice Ao41 t849.length co41) : Value).ownBlock) (.slice Ao40 t846.length co40) t846) ∧ Aside0 (Kd.R (Kd.int .i64) 3 wc w.heap.size (fun k_ => some k_ ≠ ((.slice Ao24 t829.length co24) : Value).ownBlock ∧ some k_ ≠ ((.slice Ao25 t832.length co25) : Value).ownBlock ∧ some k_ ≠ ((.slice Ao32 t838.length co32) : Value).ownBlock ∧ some k_ ≠ ((.slice Ao33 t841.length co33) : Value).ownBlock ∧ some k_ ≠ ((.slice Ao40 t846.length co40) : Value).ownBlock) (.slice Ao41 t849.length co41) t849) ∧ Aside0 (wc.heap[gb819]? = some (.cells #[.int .i64 a0_0, (.slice A0_1 l0_1.length c0_1), (.slice A0_2 l0_2.length c0_2)] 43 (0, 0))) ∧ Aside0 (wc.heap[gb836]? = some (.cells #[.int .i64 t828, (.slice Ao24 t829.length co24), (.slice Ao25 t832.length co25)] 46 (0, 0))) ∧ Aside0 (wc.heap[gb844]? = some (.cells #[.int .i64 t837, (.slice Ao32 t838.length co32), (.slice Ao33 t841.length co33)] 46 (0, 0))) ∧ Aside0 (wc.heap[gb853]? = some (.cells #[.int .i64 t845, (.slice Ao40 t846.length co40), (.slice Ao41 t849.length co41)] 46 (0, 0))) ∧ Aside0 (Below w.heap.size w wc))
  case first =>
   have H := HC12.out
   clear HC12
   replace H := Option.bind_eq_some_iff.mp H
   obtain ⟨t854, A420, H⟩ := H
   replace H : (if t854 = true then (laws_FnExactQuitLatch.j0 k a1 t835 t852 (t852 != t835) a0_0 l0_1 l0_2 t828 t829 t832 t837 t838 t841 t845 t846 t849) else (laws_FnExactQuitLatch.j0 k a1 t835 t852 true a0_0 l0_1 l0_2 t828 t829 t832 t837 t838 t841 t845 t846 t849)) = some r := H
   have A42 := am A420
   clear A420
   by_cases c43 : t854 = true
   ·subst c43
    replace H : (laws_FnExactQuitLatch.j0 k a1 t835 t852 (t852 != t835) a0_0 l0_1 l0_2 t828 t829 t832 t837 t838 t841 t845 t846 t849) = some r := by rw [if_pos rfl] at H; exact H
    have H' := am H
    clear H
    have hnb44 := NB853_819.out
    have hnc44 := NB819_853.out
    have hnb45 := NB853_836.out
    have hnc45 := NB836_853.out
    have hnb46 := NB853_844.out
    have hnc46 := NB844_853.out
    obtain ⟨hcz47_0, hcz47_1, hcz47_2, hfz47_0, hfz47_1, hfz47_2⟩ := bk3 BK853.out
    have hnb48 := NB836_819.out
    have hnc48 := NB819_836.out
    have hnb49 := NB836_844.out
    have hnc49 := NB844_836.out
    obtain ⟨hcz50_0, hcz50_1, hcz50_2, hfz50_0, hfz50_1, hfz50_2⟩ := bk3 BK836.out
    go_wp2_with (first | ((with_reducible refine gate_callee (f := 27) rfl ?_); refine goesL_ (some 38) rfl rfl Try.func27 (by kernel_rfl) rfl #[.agg #[.int .i64 t845, .slice Ao40 t846.length co40, .slice Ao41 t849.length co41], .agg #[.int .i64 t828, .slice Ao24 t829.length co24, .slice Ao25 t832.length co25]] rfl mpx ?_; (with_reducible refine (laws_eqLatch.calls k t845 _ _ t846 _ _ t849 t828 _ _ t829 _ _ t832 true _ ?side1 ?side2 ?side3 ?side4 ?side5 ?side6 ?side7 ?side8 A42.out).mono ?_); (case side1 => refine (Kd.R_reads' (e := 3) (base := w.heap.size) (ok := fun k_ => ((((((some k_ ≠ (.slice Ao41 t849.length co41 : Value).ownBlock ∧ some k_ ≠ (.slice Ao18 t822.length co18 : Value).ownBlock) ∧ some k_ ≠ (.slice Ao19 t825.length co19 : Value).ownBlock) ∧ some k_ ≠ (.slice Ao24 t829.length co24 : Value).ownBlock) ∧ some k_ ≠ (.slice Ao25 t832.length co25 : Value).ownBlock) ∧ some k_ ≠ (.slice Ao32 t838.length co32 : Value).ownBlock) ∧ some k_ ≠ (.slice Ao33 t841.length co33 : Value).ownBlock)) (n := t846.length) (c := co40) ?_).2.2; exact (by (with_reducible repeat (first | apply Kd.R_alloc | apply Kd.R_drewN | apply Kd.R_drew)); exact (Kd.R_mono (Kd.R_far (p := ⟨gb853, 2, none⟩) (Kd.R_far (p := ⟨gb853, 1, none⟩) (Kd.R_far (p := ⟨gb853, 0, none⟩) (Kd.R_types HO848.out BK853.out (by decide)) (fun _ hk => hk.2) (.int .i64 t845)) (fun _ hk => hk.2) (.slice Ao40 t846.length co40)) (fun _ hk => hk.2) (.slice Ao41 t849.length co41)) (fun _ h_ => h_.1)))); (case side2 => exact (Kd.R_reads' HO848.out).2.1); (case side3 => refine (Kd.R_reads' (e := 3) (base := w.heap.size) (ok := fun k_ => ((((((some k_ ≠ (.slice Ao40 t846.length co40 : Value).ownBlock ∧ some k_ ≠ (.slice Ao18 t822.length co18 : Value).ownBlock) ∧ some k_ ≠ (.slice Ao19 t825.length co19 : Value).ownBlock) ∧ some k_ ≠ (.slice Ao24 t829.length co24 : Value).ownBlock) ∧ some k_ ≠ (.slice Ao25 t832.length co25 : Value).ownBlock) ∧ some k_ ≠ (.slice Ao32 t838.length co32 : Value).ownBlock) ∧ some k_ ≠ (.slice Ao33 t841.length co33 : Value).ownBlock)) (n := t849.length) (c := co41) ?_).2.2; exact (by (with_reducible repeat (first | apply Kd.R_alloc | apply Kd.R_drewN | apply Kd.R_drew)); exact (Kd.R_mono (Kd.R_far (p := ⟨gb853, 2, none⟩) (Kd.R_far (p := ⟨gb853, 1, none⟩) (Kd.R_far (p := ⟨gb853, 0, none⟩) (Kd.R_types HO851.out BK853.out (by decide)) (fun _ hk => hk.2) (.int .i64 t845)) (fun _ hk => hk.2) (.slice Ao40 t846.length co40)) (fun _ hk => hk.2) (.slice Ao41 t849.length co41)) (fun _ h_ => h_.1)))); (case side4 => exact (Kd.R_reads' HO851.out).2.1); (case side5 => refine (Kd.R_reads' (e := 3) (base := w.heap.size) (ok := fun k_ => ((((((some k_ ≠ (.slice Ao25 t832.length co25 : Value).ownBlock ∧ some k_ ≠ (.slice Ao18 t822.length co18 : Value).ownBlock) ∧ some k_ ≠ (.slice Ao19 t825.length co19 : Value).ownBlock) ∧ some k_ ≠ (.slice Ao32 t838.length co32 : Value).ownBlock) ∧ some k_ ≠ (.slice Ao33 t841.length co33 : Value).ownBlock) ∧ some k_ ≠ (.slice Ao40 t846.length co40 : Value).ownBlock) ∧ some k_ ≠ (.slice Ao41 t849.length co41 : Value).ownBlock)) (n := t829.length) (c := co24) ?_).2.2; exact (by (with_reducible repeat (first | apply Kd.R_alloc | apply Kd.R_drewN | apply Kd.R_drew)); exact (Kd.R_mono (Kd.R_far (p := ⟨gb853, 2, none⟩) (Kd.R_far (p := ⟨gb853, 1, none⟩) (Kd.R_far (p := ⟨gb853, 0, none⟩) (Kd.R_types HO831.out BK853.out (by decide)) (fun _ hk => hk.2) (.int .i64 t845)) (fun _ hk => hk.2) (.slice Ao40 t846.length co40)) (fun _ hk => hk.2) (.slice Ao41 t849.length co41)) (fun _ h_ => h_.1)))); (case side6 => exact (Kd.R_reads' HO831.out).2.1); (case side7 => refine (Kd.R_reads' (e := 3) (base := w.heap.size) (ok := fun k_ => ((((((some k_ ≠ (.slice Ao24 t829.length co24 : Value).ownBlock ∧ some k_ ≠ (.slice Ao18 t822.length co18 : Value).ownBlock) ∧ some k_ ≠ (.slice Ao19 t825.length co19 : Value).ownBlock) ∧ some k_ ≠ (.slice Ao32 t838.length co32 : Value).ownBlock) ∧ some k_ ≠ (.slice Ao33 t841.length co33 : Value).ownBlock) ∧ some k_ ≠ (.slice Ao40 t846.length co40 : Value).ownBlock) ∧ some k_ ≠ (.slice Ao41 t849.length co41 : Value).ownBlock)) (n := t832.length) (c := co25) ?_).2.2; exact (by (with_reducible repeat (first | apply Kd.R_alloc | apply Kd.R_drewN | apply Kd.R_drew)); exact (Kd.R_mono (Kd.R_far (p := ⟨gb853, 2, none⟩) (Kd.R_far (p := ⟨gb853, 1, none⟩) (Kd.R_far (p := ⟨gb853, 0, none⟩) (Kd.R_types HO834.out BK853.out (by decide)) (fun _ hk => hk.2) (.int .i64 t845)) (fun _ hk => hk.2) (.slice Ao40 t846.length co40)) (fun _ hk => hk.2) (.slice Ao41 t849.length co41)) (fun _ h_ => h_.1)))); (case side8 => exact (Kd.R_reads' HO834.out).2.1); rintro e w51 ⟨rfl, hb⟩; refine ⟨_, rfl, ?_⟩; replace HO824 := am (Kd.R_below (by (with_reducible repeat (first | apply Kd.R_alloc | apply Kd.R_drewN | apply Kd.R_drew)); exact (Kd.R_mono (Kd.R_far (p := ⟨gb853, 2, none⟩) (Kd.R_far (p := ⟨gb853, 1, none⟩) (Kd.R_far (p := ⟨gb853, 0, none⟩) (Kd.R_types HO824.out BK853.out (by decide)) (fun _ hk => hk.2) (.int .i64 t845)) (fun _ hk => hk.2) (.slice Ao40 t846.length co40)) (fun _ hk => hk.2) (.slice Ao41 t849.length co41)) (fun _ h_ => h_.1))) hb); replace HO827 := am (Kd.R_below (by (with_reducible repeat (first | apply Kd.R_alloc | apply Kd.R_drewN | apply Kd.R_drew)); exact (Kd.R_mono (Kd.R_far (p := ⟨gb853, 2, none⟩) (Kd.R_far (p := ⟨gb853, 1, none⟩) (Kd.R_far (p := ⟨gb853, 0, none⟩) (Kd.R_types HO827.out BK853.out (by decide)) (fun _ hk => hk.2) (.int .i64 t845)) (fun _ hk => hk.2) (.slice Ao40 t846.length co40)) (fun _ hk => hk.2) (.slice Ao41 t849.length co41)) (fun _ h_ => h_.1))) hb); replace HO831 := am (Kd.R_below (by (with_reducible repeat (first | apply Kd.R_alloc | apply Kd.R_drewN | apply Kd.R_drew)); exact (Kd.R_mono (Kd.R_far (p := ⟨gb853, 2, none⟩) (Kd.R_far (p := ⟨gb853, 1, none⟩) (Kd.R_far (p := ⟨gb853, 0, none⟩) (Kd.R_types HO831.out BK853.out (by decide)) (fun _ hk => hk.2) (.int .i64 t845)) (fun _ hk => hk.2) (.slice Ao40 t846.length co40)) (fun _ hk => hk.2) (.slice Ao41 t849.length co41)) (fun _ h_ => h_.1))) hb); replace HO834 := am (Kd.R_below (by (with_reducible repeat (first | apply Kd.R_alloc | apply Kd.R_drewN | apply Kd.R_drew)); exact (Kd.R_mono (Kd.R_far (p := ⟨gb853, 2, none⟩) (Kd.R_far (p := ⟨gb853, 1, none⟩) (Kd.R_far (p := ⟨gb853, 0, none⟩) (Kd.R_types HO834.out BK853.out (by decide)) (fun _ hk => hk.2) (.int .i64 t845)) (fun _ hk => hk.2) (.slice Ao40 t846.length co40)) (fun _ hk => hk.2) (.slice Ao41 t849.length co41)) (fun _ h_ => h_.1))) hb); replace HO840 := am (Kd.R_below (by (with_reducible repeat (first | apply Kd.R_alloc | apply Kd.R_drewN | apply Kd.R_drew)); exact (Kd.R_mono (Kd.R_far (p := ⟨gb853, 2, none⟩) (Kd.R_far (p := ⟨gb853, 1, none⟩) (Kd.R_far (p := ⟨gb853, 0, none⟩) (Kd.R_types HO840.out BK853.out (by decide)) (fun _ hk => hk.2) (.int .i64 t845)) (fun _ hk => hk.2) (.slice Ao40 t846.length co40)) (fun _ hk => hk.2) (.slice Ao41 t849.length co41)) (fun _ h_ => h_.1))) hb); replace HO843 := am (Kd.R_below (by (with_reducible repeat (first | apply Kd.R_alloc | apply Kd.R_drewN | apply Kd.R_drew)); exact (Kd.R_mono (Kd.R_far (p := ⟨gb853, 2, none⟩) (Kd.R_far (p := ⟨gb853, 1, none⟩) (Kd.R_far (p := ⟨gb853, 0, none⟩) (Kd.R_types HO843.out BK853.out (by decide)) (fun _ hk => hk.2) (.int .i64 t845)) (fun _ hk => hk.2) (.slice Ao40 t846.length co40)) (fun _ hk => hk.2) (.slice Ao41 t849.length co41)) (fun _ h_ => h_.1))) hb); replace HO848 := am (Kd.R_below (by (with_reducible repeat (first | apply Kd.R_alloc | apply Kd.R_drewN | apply Kd.R_drew)); exact (Kd.R_mono (Kd.R_far (p := ⟨gb853, 2, none⟩) (Kd.R_far (p := ⟨gb853, 1, none⟩) (Kd.R_far (p := ⟨gb853, 0, none⟩) (Kd.R_types HO848.out BK853.out (by decide)) (fun _ hk => hk.2) (.int .i64 t845)) (fun _ hk => hk.2) (.slice Ao40 t846.length co40)) (fun _ hk => hk.2) (.slice Ao41 t849.length co41)) (fun _ h_ => h_.1))) hb); replace HO851 := am (Kd.R_below (by (with_reducible repeat (first | apply Kd.R_alloc | apply Kd.R_drewN | apply Kd.R_drew)); exact (Kd.R_mono (Kd.R_far (p := ⟨gb853, 2, none⟩) (Kd.R_far (p := ⟨gb853, 1, none⟩) (Kd.R_far (p := ⟨gb853, 0, none⟩) (Kd.R_types HO851.out BK853.out (by decide)) (fun _ hk => hk.2) (.int .i64 t845)) (fun _ hk => hk.2) (.slice Ao40 t846.length co40)) (fun _ hk => hk.2) (.slice Ao41 t849.length co41)) (fun _ h_ => h_.1))) hb); replace BK819 := am (blk_below (g := gb819) (o := .cells #[.int .i64 a0_0, .slice A0_1 l0_1.length c0_1, .slice A0_2 l0_2.length c0_2] 43 (0, 0)) (by (with_reducible repeat (first | refine blk_drewN ?_ _ | refine blk_drew ?_ | refine blk_alloc ?_ _)); refine blk_far ?_ NB819_853.out _; (with_reducible repeat (first | refine blk_drewN ?_ _ | refine blk_drew ?_ | refine blk_alloc ?_ _)); refine blk_far ?_ NB819_853.out _; (with_reducible repeat (first | refine blk_drewN ?_ _ | refine blk_drew ?_ | refine blk_alloc ?_ _)); refine blk_far ?_ NB819_853.out _; exact pkK BK819.out) hb); replace BK836 := am (blk_below (g := gb836) (o := .cells #[.int .i64 t828, .slice Ao24 t829.length co24, .slice Ao25 t832.length co25] 46 (0, 0)) (by (with_reducible repeat (first | refine blk_drewN ?_ _ | refine blk_drew ?_ | refine blk_alloc ?_ _)); refine blk_far ?_ NB836_853.out _; (with_reducible repeat (first | refine blk_drewN ?_ _ | refine blk_drew ?_ | refine blk_alloc ?_ _)); refine blk_far ?_ NB836_853.out _; (with_reducible repeat (first | refine blk_drewN ?_ _ | refine blk_drew ?_ | refine blk_alloc ?_ _)); refine blk_far ?_ NB836_853.out _; exact pkK BK836.out) hb); replace BK844 := am (blk_below (g := gb844) (o := .cells #[.int .i64 t837, .slice Ao32 t838.length co32, .slice Ao33 t841.length co33] 46 (0, 0)) (by (with_reducible repeat (first | refine blk_drewN ?_ _ | refine blk_drew ?_ | refine blk_alloc ?_ _)); refine blk_far ?_ NB844_853.out _; (with_reducible repeat (first | refine blk_drewN ?_ _ | refine blk_drew ?_ | refine blk_alloc ?_ _)); refine blk_far ?_ NB844_853.out _; (with_reducible repeat (first | refine blk_drewN ?_ _ | refine blk_drew ?_ | refine blk_alloc ?_ _)); refine blk_far ?_ NB844_853.out _; exact pkK BK844.out) hb); replace BK853 := am (blk_below (g := gb853) (o := .cells #[.int .i64 t845, .slice Ao40 t846.length co40, .slice Ao41 t849.length co41] 46 (0, 0)) (by (with_reducible repeat (first | refine blk_drewN ?_ _ | refine blk_drew ?_ | refine blk_alloc ?_ _)); refine blk_put (cs := #[.int .i64 t845, .slice Ao40 t846.length co40, .slice none 0 0]) ?_ 2 _ rfl; (with_reducible repeat (first | refine blk_drewN ?_ _ | refine blk_drew ?_ | refine blk_alloc ?_ _)); refine blk_put (cs := #[.int .i64 t845, .slice none 0 0, .slice none 0 0]) ?_ 1 _ rfl; (with_reducible repeat (first | refine blk_drewN ?_ _ | refine blk_drew ?_ | refine blk_alloc ?_ _)); refine blk_put (cs := #[.int .i64 0, .slice none 0 0, .slice none 0 0]) ?_ 0 _ rfl; exact pkK BK853.out) hb); replace HB := am (below_step (pkW HB.out) hb); (try clear hb)))
    go_meet
    case rel => exact ⟨_, ((t852 != t835)), rfx, H', ⟨by first | omega | exact Nat.le_refl _⟩, ⟨by (with_reducible repeat (first | apply Kd.R_alloc | apply Kd.R_drewN | apply Kd.R_drew)); exact Kd.R_mono HO831.out (fun _ hk => ⟨hk.1.1.1.1.1.1, ⟨hk.1.1.1.2, ⟨hk.1.1.2, ⟨hk.1.2, hk.2⟩⟩⟩⟩)⟩, ⟨by (with_reducible repeat (first | apply Kd.R_alloc | apply Kd.R_drewN | apply Kd.R_drew)); exact Kd.R_mono HO834.out (fun _ hk => ⟨hk.1.1.1.1.1.1, ⟨hk.1.1.1.2, ⟨hk.1.1.2, ⟨hk.1.2, hk.2⟩⟩⟩⟩)⟩, ⟨by (with_reducible repeat (first | apply Kd.R_alloc | apply Kd.R_drewN | apply Kd.R_drew)); exact Kd.R_mono HO840.out (fun _ hk => ⟨hk.1.1.1.2, ⟨hk.1.1.2, ⟨hk.1.1.1.1.1.1, ⟨hk.1.2, hk.2⟩⟩⟩⟩)⟩, ⟨by (with_reducible repeat (first | apply Kd.R_alloc | apply Kd.R_drewN | apply Kd.R_drew)); exact Kd.R_mono HO843.out (fun _ hk => ⟨hk.1.1.1.2, ⟨hk.1.1.2, ⟨hk.1.1.1.1.1.1, ⟨hk.1.2, hk.2⟩⟩⟩⟩)⟩, ⟨by (with_reducible repeat (first | apply Kd.R_alloc | apply Kd.R_drewN | apply Kd.R_drew)); exact Kd.R_mono HO848.out (fun _ hk => ⟨hk.1.1.1.2, ⟨hk.1.1.2, ⟨hk.1.2, ⟨hk.2, hk.1.1.1.1.1.1⟩⟩⟩⟩)⟩, ⟨by (with_reducible repeat (first | apply Kd.R_alloc | apply Kd.R_drewN | apply Kd.R_drew)); exact Kd.R_mono HO851.out (fun _ hk => ⟨hk.1.1.1.2, ⟨hk.1.1.2, ⟨hk.1.2, ⟨hk.2, hk.1.1.1.1.1.1⟩⟩⟩⟩)⟩, ⟨pkK BK819.out⟩, ⟨pkK BK836.out⟩, ⟨pkK BK844.out⟩, ⟨pkK BK853.out⟩, ⟨pkW HB.out⟩⟩
   ·replace c43 := Bool.eq_false_iff.mpr c43
    subst c43
    replace H : (laws_FnExactQuitLatch.j0 k a1 t835 t852 true a0_0 l0_1 l0_2 t828 t829 t832 t837 t838 t841 t845 t846 t849) = some r := by rw [if_neg (show ¬ (false = true) by decide)] at H; exact H
    cases k with
    | zero => exact absurd H (by simp [laws_FnExactQuitLatch.j0])
    | succ k_ => (simp only [laws_FnExactQuitLatch.j0, if_pos] at H; exact absurd (Option.some.inj H) (by rw [HQ_.out]; simp))
  case rest =>
   clear HC12
   try clear c2
   try clear p2
   try clear c3
   try clear c4
   try clear c4b0
   try clear c9
   try clear c22
   try clear c23
   try clear c25
   try clear c27
   try clear c29
   try clear c30
   try clear c36
   try clear c37
   try clear c38
   try clear c40
   try clear c41
   try clear c43
   try clear c44
   try clear c45
   try clear c46
   try clear c48
   try clear c49
   try clear hcz14_0
   try clear hcz14_1
   try clear hcz14_2
   try clear hcz16_0
   try clear hcz16_1
   try clear hcz16_2
   try clear hcz23_0
   try clear hcz23_1
   try clear hcz23_2
   try clear hcz26_0
   try clear hcz26_1
   try clear hcz26_2
   try clear hcz31_0
   try clear hcz31_1
   try clear hcz31_2
   try clear hcz39_0
   try clear hcz39_1
   try clear hcz39_2
   try clear hcz47_0
   try clear hcz47_1
   try clear hcz47_2
   try clear hcz50_0
   try clear hcz50_1
   try clear hcz50_2
   try clear hcz6_0
   try clear hcz6_1
   try clear hcz6_2
   try clear hfz14_0
   try clear hfz14_1
   try clear hfz14_2
   try clear hfz16_0
   try clear hfz16_1
   try clear hfz16_2
   try clear hfz23_0
   try clear hfz23_1
   try clear hfz23_2
   try clear hfz26_0
   try clear hfz26_1
   try clear hfz26_2
   try clear hfz31_0
   try clear hfz31_1
   try clear hfz31_2
   try clear hfz39_0
   try clear hfz39_1
   try clear hfz39_2
   try clear hfz47_0
   try clear hfz47_1
   try clear hfz47_2
   try clear hfz50_0
   try clear hfz50_1
   try clear hfz50_2
   try clear hfz6_0
   try clear hfz6_1
   try clear hfz6_2
   obtain ⟨kq, x44_11, rfl, HA, HJ11, HO_837001, HO_837002, HO_845001, HO_845002, HO_854001, HO_854002, BK819, BK836, BK844, BK853, HB⟩ := hcut
   cases kq with
   | zero => exact absurd HA.out (by simp [laws_FnExactQuitLatch.j0])
   | succ kj11 =>
    have H := HA.out
    clear HA
    simp only [laws_FnExactQuitLatch.j0] at H
    by_cases c52 : x44_11 = true
    ·subst c52
     replace H : (some false) = some r := by rw [if_pos rfl] at H; exact H
     exact absurd (Option.some.inj H) (by rw [HQ_.out]; simp)
    ·replace c52 := Bool.eq_false_iff.mpr c52
     subst c52
     replace H : ((laws_toLatch.f kj11 a0_0 l0_1 l0_2).bind fun bt855 => ((laws_eqLatch.f kj11 t837 t838 t841 bt855.1 bt855.2.1 bt855.2.2).bind fun t862 => (if t862 = true then ((laws_markLatch.f kj11 t837 t838 t841 1).bind fun bt863 => (if bt863.1 < 0 then (laws_FnExactQuitLatch.j1 kj11 a1 t835 true a0_0 l0_1 l0_2 t828 t829 t832 t845 t846 t849) else ((laws_eqLatch.f kj11 t845 t846 t849 t828 t829 t832).bind fun t866 => (if t866 = true then (laws_FnExactQuitLatch.j1 kj11 a1 t835 (t852 != t835) a0_0 l0_1 l0_2 t828 t829 t832 t845 t846 t849) else (laws_FnExactQuitLatch.j1 kj11 a1 t835 true a0_0 l0_1 l0_2 t828 t829 t832 t845 t846 t849))))) else (some false)))) = some r := by rw [if_neg (show ¬ (false = true) by decide)] at H; exact H
     replace H := Option.bind_eq_some_iff.mp H
     obtain ⟨⟨t855, t856, t859⟩, A530, H⟩ := H
     replace H : ((laws_eqLatch.f kj11 t837 t838 t841 t855 t856 t859).bind fun t862 => (if t862 = true then ((laws_markLatch.f kj11 t837 t838 t841 1).bind fun bt863 => (if bt863.1 < 0 then (laws_FnExactQuitLatch.j1 kj11 a1 t835 true a0_0 l0_1 l0_2 t828 t829 t832 t845 t846 t849) else ((laws_eqLatch.f kj11 t845 t846 t849 t828 t829 t832).bind fun t866 => (if t866 = true then (laws_FnExactQuitLatch.j1 kj11 a1 t835 (t852 != t835) a0_0 l0_1 l0_2 t828 t829 t832 t845 t846 t849) else (laws_FnExactQuitLatch.j1 kj11 a1 t835 true a0_0 l0_1 l0_2 t828 t829 t832 t845 t846 t849))))) else (some false))) = some r := H
     have A53 := am A530
     clear A530
     replace H := Option.bind_eq_some_iff.mp H
     obtain ⟨t862, A540, H⟩ := H
     replace H : (if t862 = true then ((laws_markLatch.f kj11 t837 t838 t841 1).bind fun bt863 => (if bt863.1 < 0 then (laws_FnExactQuitLatch.j1 kj11 a1 t835 true a0_0 l0_1 l0_2 t828 t829 t832 t845 t846 t849) else ((laws_eqLatch.f kj11 t845 t846 t849 t828 t829 t832).bind fun t866 => (if t866 = true then (laws_FnExactQuitLatch.j1 kj11 a1 t835 (t852 != t835) a0_0 l0_1 l0_2 t828 t829 t832 t845 t846 t849) else (laws_FnExactQuitLatch.j1 kj11 a1 t835 true a0_0 l0_1 l0_2 t828 t829 t832 t845 t846 t849))))) else (some false)) = some r := H
     have A54 := am A540
     clear A540
     by_cases c55 : t862 = true
     ·subst c55
      replace H : ((laws_markLatch.f kj11 t837 t838 t841 1).bind fun bt863 => (if bt863.1 < 0 then (laws_FnExactQuitLatch.j1 kj11 a1 t835 true a0_0 l0_1 l0_2 t828 t829 t832 t845 t846 t849) else ((laws_eqLatch.f kj11 t845 t846 t849 t828 t829 t832).bind fun t866 => (if t866 = true then (laws_FnExactQuitLatch.j1 kj11 a1 t835 (t852 != t835) a0_0 l0_1 l0_2 t828 t829 t832 t845 t846 t849) else (laws_FnExactQuitLatch.j1 kj11 a1 t835 true a0_0 l0_1 l0_2 t828 t829 t832 t845 t846 t849))))) = some r := by rw [if_pos rfl] at H; exact H
      replace H := Option.bind_eq_some_iff.mp H
      obtain ⟨⟨t863, t864, t865⟩, A560, H⟩ := H
      replace H : (if t863 < 0 then (laws_FnExactQuitLatch.j1 kj11 a1 t835 true a0_0 l0_1 l0_2 t828 t829 t832 t845 t846 t849) else ((laws_eqLatch.f kj11 t845 t846 t849 t828 t829 t832).bind fun t866 => (if t866 = true then (laws_FnExactQuitLatch.j1 kj11 a1 t835 (t852 != t835) a0_0 l0_1 l0_2 t828 t829 t832 t845 t846 t849) else (laws_FnExactQuitLatch.j1 kj11 a1 t835 true a0_0 l0_1 l0_2 t828 t829 t832 t845 t846 t849)))) = some r := H
      have A56 := am A560
      clear A560
      have HC57 := am H
      clear H
      try go_wp2
      replace HO_837001 := am (Kd.R_drew HO_837001.out)
      replace HO_837002 := am (Kd.R_drew HO_837002.out)
      replace HO_845001 := am (Kd.R_drew HO_845001.out)
      replace HO_845002 := am (Kd.R_drew HO_845002.out)
      replace HO_854001 := am (Kd.R_drew HO_854001.out)
      replace HO_854002 := am (Kd.R_drew HO_854002.out)
      replace BK819 := am (blk_drew BK819.out)
      replace BK836 := am (blk_drew BK836.out)
      replace BK844 := am (blk_drew BK844.out)
      replace BK853 := am (blk_drew BK853.out)
      replace HB := am (below_drew1 HB.out)
      refine start_ (n := 5) (S := fun w' => w'.cell? ⟨gb844, 0, none⟩ = some (.int .i64 t837) ∧ w'.cell? ⟨gb844, 1, none⟩ = some (.slice Ao32 t838.length co32) ∧ w'.cell? ⟨gb844, 2, none⟩ = some (.slice Ao33 t841.length co33) ∧ w'.cell? ⟨gb819, 0, none⟩ = some (.int .i64 a0_0) ∧ w'.cell? ⟨gb819, 1, none⟩ = some (.slice A0_1 l0_1.length c0_1) ∧ w'.cell? ⟨gb819, 2, none⟩ = some (.slice A0_2 l0_2.length c0_2)) (ds := []) #[false, false, false, false, false] (by kernel_rfl) rfl rfl ⟨(blk_cell BK844.out 0).trans rfl, (blk_cell BK844.out 1).trans rfl, (blk_cell BK844.out 2).trans rfl, (blk_cell BK819.out 0).trans rfl, (blk_cell BK819.out 1).trans rfl, (blk_cell BK819.out 2).trans rfl⟩ (fun hHeld => ?_)
      generalize wc.drew = w58 at HO_837001 HO_837002 HO_845001 HO_845002 HO_854001 HO_854002 BK819 BK836 BK844 BK853 HB hHeld ⊢
      refine take_ (i := 0) (N := some 45) (v := ?_) (a' := ?_) #[true, false, false, false, false] rfl rfl (by kernel_rfl) (fun _ _ _ h => h) (Or.inl ⟨by rfl, ?_⟩) hHeld ?_ ?_
      rotate_left
      ·rintro w' ⟨s0, s1, s2, s3, s4, s5⟩
       go_simp
       with_reducible rfl
      rotate_left
      ·simp only [Act.put, List.setIfInBounds_toArray, List.set_cons_zero, List.set_cons_succ, i64_w, i32_w]
       rfl
      refine take_ (i := 1) (N := some 46) (v := ?_) (a' := ?_) #[true, true, false, false, false] rfl rfl (by kernel_rfl) (fun _ _ _ h => h) (Or.inl ⟨by rfl, ?_⟩) hHeld ?_ ?_
      rotate_left
      ·rintro w' ⟨s0, s1, s2, s3, s4, s5⟩
       go_simp
       with_reducible rfl
      rotate_left
      ·simp only [Act.put, List.setIfInBounds_toArray, List.set_cons_zero, List.set_cons_succ, i64_w, i32_w]
       rfl
      refine one_ (i := 2) (N := some 47) #[true, true, true, false, false] rfl rfl (by kernel_rfl) (by decide) (fun K hK => ?_)
      refine goes_ Try.func25 (by kernel_rfl) rfl #[.agg #[.int .i64 a0_0, .slice A0_1 l0_1.length c0_1, .slice A0_2 l0_2.length c0_2]] (by rfl) rfl rfl mpx ?_
      with_reducible refine (laws_toLatch.calls kj11 a0_0 _ _ l0_1 _ _ l0_2 t855 t856 t859 _ ?side1 ?side2 ?side3 ?side4 A53.out).mono ?_
      (case side1 => exact pkC (Kd.C_below HR0_1.out HB.out))
      (case side2 => exact HC0_1.out)
      (case side3 => exact pkC (Kd.C_below HR0_2.out HB.out))
      (case side4 => exact HC0_2.out)
      rintro e w59 ⟨v857, v860, rfl, ho0, ho1, hb⟩
      refine ⟨_, rfl, ?_⟩
      have HO858 := am (Kd.R_lower (Kd.R_new' (Kd.R_new' (Kd.R_new' (Kd.R_new' (Kd.R_new' (Kd.R_new' ho0 (Kd.R_lt (pkR HO_837001.out))) (Kd.R_lt (pkR HO_837002.out))) (Kd.R_lt (pkR HO_845001.out))) (Kd.R_lt (pkR HO_845002.out))) (Kd.R_lt (pkR HO_854001.out))) (Kd.R_lt (pkR HO_854002.out))) (below_size (pkW HB.out)))
      have HO861 := am (Kd.R_lower (Kd.R_new' (Kd.R_new' (Kd.R_new' (Kd.R_new' (Kd.R_new' (Kd.R_new' ho1 (Kd.R_lt (pkR HO_837001.out))) (Kd.R_lt (pkR HO_837002.out))) (Kd.R_lt (pkR HO_845001.out))) (Kd.R_lt (pkR HO_845002.out))) (Kd.R_lt (pkR HO_854001.out))) (Kd.R_lt (pkR HO_854002.out))) (below_size (pkW HB.out)))
      replace HO_837001 := am (Kd.R_mono (Kd.R_told (Kd.R_told (Kd.R_old (pkR HO_837001.out) hb) (Kd.R_base ho0)) (Kd.R_base ho1)) (fun _ h_ => h_.1))
      replace HO_837002 := am (Kd.R_mono (Kd.R_told (Kd.R_told (Kd.R_old (pkR HO_837002.out) hb) (Kd.R_base ho0)) (Kd.R_base ho1)) (fun _ h_ => h_.1))
      replace HO_845001 := am (Kd.R_mono (Kd.R_told (Kd.R_told (Kd.R_old (pkR HO_845001.out) hb) (Kd.R_base ho0)) (Kd.R_base ho1)) (fun _ h_ => h_.1))
      replace HO_845002 := am (Kd.R_mono (Kd.R_told (Kd.R_told (Kd.R_old (pkR HO_845002.out) hb) (Kd.R_base ho0)) (Kd.R_base ho1)) (fun _ h_ => h_.1))
      replace HO_854001 := am (Kd.R_mono (Kd.R_told (Kd.R_told (Kd.R_old (pkR HO_854001.out) hb) (Kd.R_base ho0)) (Kd.R_base ho1)) (fun _ h_ => h_.1))
      replace HO_854002 := am (Kd.R_mono (Kd.R_told (Kd.R_told (Kd.R_old (pkR HO_854002.out) hb) (Kd.R_base ho0)) (Kd.R_base ho1)) (fun _ h_ => h_.1))
      replace BK819 := am (blk_below (pkK BK819.out) hb)
      replace BK836 := am (blk_below (pkK BK836.out) hb)
      replace BK844 := am (blk_below (pkK BK844.out) hb)
      replace BK853 := am (blk_below (pkK BK853.out) hb)
      replace HB := am (below_step (pkW HB.out) hb)
      (try clear hb); (try clear ho0 ho1)
      obtain ⟨Ao60, co60, eo60⟩ := Kd.R_slice HO858.out
      (first | subst eo60 | (injection eo60 with f1_ f2_ f3_; have f4_ := f1_.symm; have f5_ := f3_.symm; clear f1_ f2_ f3_; subst f4_; subst f5_))
      obtain ⟨Ao61, co61, eo61⟩ := Kd.R_slice HO861.out
      (first | subst eo61 | (injection eo61 with f1_ f2_ f3_; have f4_ := f1_.symm; have f5_ := f3_.symm; clear f1_ f2_ f3_; subst f4_; subst f5_))
      refine hK.out _ _ ⟨(blk_cell BK844.out 0).trans rfl, (blk_cell BK844.out 1).trans rfl, (blk_cell BK844.out 2).trans rfl, (blk_cell BK819.out 0).trans rfl, (blk_cell BK819.out 1).trans rfl, (blk_cell BK819.out 2).trans rfl⟩ (fun hHeld => ?_)
      clear hK K
      refine norm_ (a' := ?_) ?_ ?_
      rotate_left
      ·show Act.put _ (some 47) _ = _
       simp only [Act.put, List.setIfInBounds_toArray, List.set_cons_zero, List.set_cons_succ, i64_w, i32_w]
       rfl
      refine one_ (i := 3) (N := some 48) #[true, true, true, true, false] rfl rfl (by kernel_rfl) (by decide) (fun K hK => ?_)
      refine goes_ Try.func27 (by kernel_rfl) rfl #[.agg #[.int .i64 t837, .slice Ao32 t838.length co32, .slice Ao33 t841.length co33], .agg #[.int .i64 t855, .slice Ao60 t856.length co60, .slice Ao61 t859.length co61]] (by rfl) rfl rfl mpx ?_
      with_reducible refine (laws_eqLatch.calls kj11 t837 _ _ t838 _ _ t841 t855 _ _ t856 _ _ t859 true _ ?side1 ?side2 ?side3 ?side4 ?side5 ?side6 ?side7 ?side8 A54.out).mono ?_
      (case side1 => exact pkC (Kd.R_reads' HO_845001.out).2.2)
      (case side2 => exact (Kd.R_reads' HO_845001.out).2.1)
      (case side3 => exact pkC (Kd.R_reads' HO_845002.out).2.2)
      (case side4 => exact (Kd.R_reads' HO_845002.out).2.1)
      (case side5 => exact pkC (Kd.R_reads' HO858.out).2.2)
      (case side6 => exact (Kd.R_reads' HO858.out).2.1)
      (case side7 => exact pkC (Kd.R_reads' HO861.out).2.2)
      (case side8 => exact (Kd.R_reads' HO861.out).2.1)
      rintro e w62 ⟨rfl, hb⟩
      refine ⟨_, rfl, ?_⟩
      replace HO_837001 := am (Kd.R_below (pkR HO_837001.out) hb)
      replace HO_837002 := am (Kd.R_below (pkR HO_837002.out) hb)
      replace HO_845001 := am (Kd.R_below (pkR HO_845001.out) hb)
      replace HO_845002 := am (Kd.R_below (pkR HO_845002.out) hb)
      replace HO_854001 := am (Kd.R_below (pkR HO_854001.out) hb)
      replace HO_854002 := am (Kd.R_below (pkR HO_854002.out) hb)
      replace HO858 := am (Kd.R_below (pkR HO858.out) hb)
      replace HO861 := am (Kd.R_below (pkR HO861.out) hb)
      replace BK819 := am (blk_below (pkK BK819.out) hb)
      replace BK836 := am (blk_below (pkK BK836.out) hb)
      replace BK844 := am (blk_below (pkK BK844.out) hb)
      replace BK853 := am (blk_below (pkK BK853.out) hb)
      replace HB := am (below_step (pkW HB.out) hb)
      (try clear hb)
      refine hK.out _ _ ⟨(blk_cell BK844.out 0).trans rfl, (blk_cell BK844.out 1).trans rfl, (blk_cell BK844.out 2).trans rfl, (blk_cell BK819.out 0).trans rfl, (blk_cell BK819.out 1).trans rfl, (blk_cell BK819.out 2).trans rfl⟩ (fun hHeld => ?_)
      clear hK K
      refine norm_ (a' := ?_) ?_ ?_
      rotate_left
      ·show Act.put _ (some 48) _ = _
       simp only [Act.put, List.setIfInBounds_toArray, List.set_cons_zero, List.set_cons_succ, i64_w, i32_w]
       rfl
      refine pure_ (i := 4) (N := some 49) (v := ?_) (a' := ?_) #[true, true, true, true, true] rfl rfl (by kernel_rfl) (fun _ _ _ h => h) (Or.inl ⟨by rfl, ?_⟩) ?_ ?_
      rotate_left
      ·intro w'
       go_simp
       with_reducible rfl
      rotate_left
      ·simp only [Act.put, List.setIfInBounds_toArray, List.set_cons_zero, List.set_cons_succ, i64_w, i32_w]
       rfl
      refine done_ (by kernel_rfl) ?_
      have hnb63 := NB844_819.out
      have hnc63 := NB819_844.out
      have hnb64 := NB844_836.out
      have hnc64 := NB836_844.out
      have hnb65 := NB844_853.out
      have hnc65 := NB853_844.out
      obtain ⟨hcz66_0, hcz66_1, hcz66_2, hfz66_0, hfz66_1, hfz66_2⟩ := bk3 BK844.out
      go_upto_region 14 with (first | ((with_reducible refine gate_callee (f := 36) rfl ?_); refine goesL_ (some 52) rfl rfl Try.func36 (by kernel_rfl) rfl #[.agg #[.int .i64 t837, .slice Ao32 t838.length co32, .slice Ao33 t841.length co33], .int .i64 1] rfl mpx ?_; (with_reducible refine (laws_markLatch.calls kj11 t837 (fun k_ => some k_ = (.slice Ao32 t838.length co32 : Value).ownBlock) (.slice Ao32 t838.length co32) t838 (fun k_ => some k_ = (.slice Ao33 t841.length co33 : Value).ownBlock) (.slice Ao33 t841.length co33) t841 1 t863 t864 t865 w _ ?side1 ?side2 ?side3 ?side4 ?side5 A56.out).mono ?_); (case side1 => repeat (first | (with_reducible first | exact HB.out | apply below_alloc | apply pw_below_drewN | apply below_drew1 | refine below_set ?_ GE819.out | refine below_set ?_ GE836.out | refine below_set ?_ GE844.out | refine below_set ?_ GE853.out) | exact HB.out)); (case side2 => exact Kd.R_tight rfl HO_845001.out); (case side3 => exact fun k_ e_ => (HO_845001.out.1 k_ e_.symm).1.1.2.2.1); (case side4 => exact Kd.R_tight rfl HO_845002.out); (case side5 => exact fun k_ e_ => (HO_845002.out.1 k_ e_.symm).1.1.2.2.1); rintro e w67 ⟨rfl, hy0, hy1, hb, hkp⟩; refine ⟨_, rfl, ?_⟩; replace HO_837001 := am (Kd.R_mono (ok' := fun k_ => some k_ ≠ (.slice Ao25 t832.length co25 : Value).ownBlock ∧ some k_ ≠ (.slice Ao32 t838.length co32 : Value).ownBlock ∧ some k_ ≠ (.slice Ao33 t841.length co33 : Value).ownBlock ∧ some k_ ≠ (.slice Ao40 t846.length co40 : Value).ownBlock ∧ some k_ ≠ (.slice Ao41 t849.length co41 : Value).ownBlock ∧ some k_ ≠ (.slice Ao60 t856.length co60 : Value).ownBlock ∧ some k_ ≠ (.slice Ao61 t859.length co61 : Value).ownBlock) (Kd.R_keptB (HO_837001.out) hkp (fun k_ hk_ hs_ => Or.elim hs_ (fun e_ => (hk_.1.1.2.1) e_) (fun e_ => (hk_.1.1.2.2.1) e_))) (fun k_ hk_ => ⟨hk_.1.1.1.1, hk_.1.1.1.2.1, hk_.1.1.1.2.2.1, hk_.1.1.1.2.2.2.1, hk_.1.1.1.2.2.2.2, hk_.1.1.2, hk_.1.2⟩)); replace HO_837002 := am (Kd.R_mono (ok' := fun k_ => some k_ ≠ (.slice Ao24 t829.length co24 : Value).ownBlock ∧ some k_ ≠ (.slice Ao32 t838.length co32 : Value).ownBlock ∧ some k_ ≠ (.slice Ao33 t841.length co33 : Value).ownBlock ∧ some k_ ≠ (.slice Ao40 t846.length co40 : Value).ownBlock ∧ some k_ ≠ (.slice Ao41 t849.length co41 : Value).ownBlock ∧ some k_ ≠ (.slice Ao60 t856.length co60 : Value).ownBlock ∧ some k_ ≠ (.slice Ao61 t859.length co61 : Value).ownBlock) (Kd.R_keptB (HO_837002.out) hkp (fun k_ hk_ hs_ => Or.elim hs_ (fun e_ => (hk_.1.1.2.1) e_) (fun e_ => (hk_.1.1.2.2.1) e_))) (fun k_ hk_ => ⟨hk_.1.1.1.1, hk_.1.1.1.2.1, hk_.1.1.1.2.2.1, hk_.1.1.1.2.2.2.1, hk_.1.1.1.2.2.2.2, hk_.1.1.2, hk_.1.2⟩)); replace HO_854001 := am (Kd.R_mono (ok' := fun k_ => some k_ ≠ (.slice Ao24 t829.length co24 : Value).ownBlock ∧ some k_ ≠ (.slice Ao25 t832.length co25 : Value).ownBlock ∧ some k_ ≠ (.slice Ao32 t838.length co32 : Value).ownBlock ∧ some k_ ≠ (.slice Ao33 t841.length co33 : Value).ownBlock ∧ some k_ ≠ (.slice Ao41 t849.length co41 : Value).ownBlock ∧ some k_ ≠ (.slice Ao60 t856.length co60 : Value).ownBlock ∧ some k_ ≠ (.slice Ao61 t859.length co61 : Value).ownBlock) (Kd.R_keptB (HO_854001.out) hkp (fun k_ hk_ hs_ => Or.elim hs_ (fun e_ => (hk_.1.1.2.2.1) e_) (fun e_ => (hk_.1.1.2.2.2.1) e_))) (fun k_ hk_ => ⟨hk_.1.1.1.1, hk_.1.1.1.2.1, hk_.1.1.1.2.2.1, hk_.1.1.1.2.2.2.1, hk_.1.1.1.2.2.2.2, hk_.1.1.2, hk_.1.2⟩)); replace HO_854002 := am (Kd.R_mono (ok' := fun k_ => some k_ ≠ (.slice Ao24 t829.length co24 : Value).ownBlock ∧ some k_ ≠ (.slice Ao25 t832.length co25 : Value).ownBlock ∧ some k_ ≠ (.slice Ao32 t838.length co32 : Value).ownBlock ∧ some k_ ≠ (.slice Ao33 t841.length co33 : Value).ownBlock ∧ some k_ ≠ (.slice Ao40 t846.length co40 : Value).ownBlock ∧ some k_ ≠ (.slice Ao60 t856.length co60 : Value).ownBlock ∧ some k_ ≠ (.slice Ao61 t859.length co61 : Value).ownBlock) (Kd.R_keptB (HO_854002.out) hkp (fun k_ hk_ hs_ => Or.elim hs_ (fun e_ => (hk_.1.1.2.2.1) e_) (fun e_ => (hk_.1.1.2.2.2.1) e_))) (fun k_ hk_ => ⟨hk_.1.1.1.1, hk_.1.1.1.2.1, hk_.1.1.1.2.2.1, hk_.1.1.1.2.2.2.1, hk_.1.1.1.2.2.2.2, hk_.1.1.2, hk_.1.2⟩)); replace BK819 := am (blk_kept (pkK BK819.out) hkp (fun hs_ => Or.elim hs_ (fun e_ => (fun e_ => (Kd.R_ne HO_845001.out BK819.out (by decide)) e_) e_) (fun e_ => (fun e_ => (Kd.R_ne HO_845002.out BK819.out (by decide)) e_) e_))); replace BK836 := am (blk_kept (pkK BK836.out) hkp (fun hs_ => Or.elim hs_ (fun e_ => (fun e_ => (Kd.R_ne HO_845001.out BK836.out (by decide)) e_) e_) (fun e_ => (fun e_ => (Kd.R_ne HO_845002.out BK836.out (by decide)) e_) e_))); replace BK844 := am (blk_kept (pkK BK844.out) hkp (fun hs_ => Or.elim hs_ (fun e_ => (fun e_ => (Kd.R_ne HO_845001.out BK844.out (by decide)) e_) e_) (fun e_ => (fun e_ => (Kd.R_ne HO_845002.out BK844.out (by decide)) e_) e_))); replace BK853 := am (blk_kept (pkK BK853.out) hkp (fun hs_ => Or.elim hs_ (fun e_ => (fun e_ => (Kd.R_ne HO_845001.out BK853.out (by decide)) e_) e_) (fun e_ => (fun e_ => (Kd.R_ne HO_845002.out BK853.out (by decide)) e_) e_))); replace HO_845001 := am (Kd.R_reok rfl hy0 (fun k_ e_ => HO_845001.out.1 k_ e_)); replace HO_845002 := am (Kd.R_reok rfl hy1 (fun k_ e_ => HO_845002.out.1 k_ e_)); replace HO858 := am (Kd.R_mono (ok' := fun k_ => some k_ ≠ (.slice Ao24 t829.length co24 : Value).ownBlock ∧ some k_ ≠ (.slice Ao25 t832.length co25 : Value).ownBlock ∧ some k_ ≠ (.slice Ao32 t838.length co32 : Value).ownBlock ∧ some k_ ≠ (.slice Ao33 t841.length co33 : Value).ownBlock ∧ some k_ ≠ (.slice Ao40 t846.length co40 : Value).ownBlock ∧ some k_ ≠ (.slice Ao41 t849.length co41 : Value).ownBlock ∧ some k_ ≠ (.slice Ao61 t859.length co61 : Value).ownBlock) (Kd.R_keptB (HO858.out) hkp (fun k_ hk_ hs_ => Or.elim hs_ (fun e_ => (hk_.1.1.1.2) e_) (fun e_ => (hk_.1.1.2) e_))) (fun k_ hk_ => ⟨hk_.1.1.1.1.1.1.2, hk_.1.1.1.1.1.2, hk_.1.1.1.1.2, hk_.1.1.1.2, hk_.1.1.2, hk_.1.2, hk_.1.1.1.1.1.1.1⟩)); replace HO861 := am (Kd.R_mono (ok' := fun k_ => some k_ ≠ (.slice Ao24 t829.length co24 : Value).ownBlock ∧ some k_ ≠ (.slice Ao25 t832.length co25 : Value).ownBlock ∧ some k_ ≠ (.slice Ao32 t838.length co32 : Value).ownBlock ∧ some k_ ≠ (.slice Ao33 t841.length co33 : Value).ownBlock ∧ some k_ ≠ (.slice Ao40 t846.length co40 : Value).ownBlock ∧ some k_ ≠ (.slice Ao41 t849.length co41 : Value).ownBlock ∧ some k_ ≠ (.slice Ao60 t856.length co60 : Value).ownBlock) (Kd.R_keptB (HO861.out) hkp (fun k_ hk_ hs_ => Or.elim hs_ (fun e_ => (hk_.1.1.1.2) e_) (fun e_ => (hk_.1.1.2) e_))) (fun k_ hk_ => ⟨hk_.1.1.1.1.1.1.2, hk_.1.1.1.1.1.2, hk_.1.1.1.1.2, hk_.1.1.1.2, hk_.1.1.2, hk_.1.2, hk_.1.1.1.1.1.1.1⟩)); replace HB := am (hb); (try clear hb); (try clear hkp); (try clear hy0); (try clear hy1)))
      (try simp only [Act.put, List.setIfInBounds_toArray, List.set_cons_zero, List.set_cons_succ])
      go_cut [65] (fun v65 wc => ∃ (kq : Nat) (x65_56 : Bool), v65 = .bool x65_56 ∧ Aside0 (laws_FnExactQuitLatch.j1 kq a1 t835 x65_56 a0_0 l0_1 l0_2 t828 t829 t832 t845 t846 t849 = some r) ∧ Aside0 (kq ≤ kj11) ∧ Aside0 (Kd.R (Kd.int .i64) 3 wc w.heap.size (fun k_ => some k_ ≠ ((.slice Ao25 t832.length co25) : Value).ownBlock ∧ some k_ ≠ ((.slice Ao32 t838.length co32) : Value).ownBlock ∧ some k_ ≠ ((.slice Ao33 t841.length co33) : Value).ownBlock ∧ some k_ ≠ ((.slice Ao40 t846.length co40) : Value).ownBlock ∧ some k_ ≠ ((.slice Ao41 t849.length co41) : Value).ownBlock) (.slice Ao24 t829.length co24) t829) ∧ Aside0 (Kd.R (Kd.int .i64) 3 wc w.heap.size (fun k_ => some k_ ≠ ((.slice Ao24 t829.length co24) : Value).ownBlock ∧ some k_ ≠ ((.slice Ao32 t838.length co32) : Value).ownBlock ∧ some k_ ≠ ((.slice Ao33 t841.length co33) : Value).ownBlock ∧ some k_ ≠ ((.slice Ao40 t846.length co40) : Value).ownBlock ∧ some k_ ≠ ((.slice Ao41 t849.length co41) : Value).ownBlock) (.slice Ao25 t832.length co25) t832) ∧ Aside0 (Kd.R (Kd.int .i64) 3 wc w.heap.size (fun k_ => some k_ ≠ ((.slice Ao24 t829.length co24) : Value).ownBlock ∧ some k_ ≠ ((.slice Ao25 t832.length co25) : Value).ownBlock ∧ some k_ ≠ ((.slice Ao33 t841.length co33) : Value).ownBlock ∧ some k_ ≠ ((.slice Ao40 t846.length co40) : Value).ownBlock ∧ some k_ ≠ ((.slice Ao41 t849.length co41) : Value).ownBlock) (.slice Ao32 t838.length co32) t864) ∧ Aside0 (Kd.R (Kd.int .i64) 3 wc w.heap.size (fun k_ => some k_ ≠ ((.slice Ao24 t829.length co24) : Value).ownBlock ∧ some k_ ≠ ((.slice Ao25 t832.length co25) : Value).ownBlock ∧ some k_ ≠ ((.slice Ao32 t838.length co32) : Value).ownBlock ∧ some k_ ≠ ((.slice Ao40 t846.length co40) : Value).ownBlock ∧ some k_ ≠ ((.slice Ao41 t849.length co41) : Value).ownBlock) (.slice Ao33 t841.length co33) t865) ∧ Aside0 (Kd.R (Kd.int .i64) 3 wc w.heap.size (fun k_ => some k_ ≠ ((.slice Ao24 t829.length co24) : Value).ownBlock ∧ some k_ ≠ ((.slice Ao25 t832.length co25) : Value).ownBlock ∧ some k_ ≠ ((.slice Ao32 t838.length co32) : Value).ownBlock ∧ some k_ ≠ ((.slice Ao33 t841.length co33) : Value).ownBlock ∧ some k_ ≠ ((.slice Ao41 t849.length co41) : Value).ownBlock) (.slice Ao40 t846.length co40) t846) ∧ Aside0 (Kd.R (Kd.int .i64) 3 wc w.heap.size (fun k_ => some k_ ≠ ((.slice Ao24 t829.length co24) : Value).ownBlock ∧ some k_ ≠ ((.slice Ao25 t832.length co25) : Value).ownBlock ∧ some k_ ≠ ((.slice Ao32 t838.length co32) : Value).ownBlock ∧ some k_ ≠ ((.slice Ao33 t841.length co33) : Value).ownBlock ∧ some k_ ≠ ((.slice Ao40 t846.length co40) : Value).ownBlock) (.slice Ao41 t849.length co41) t849) ∧ Aside0 (wc.heap[gb819]? = some (.cells #[.int .i64 a0_0, (.slice A0_1 l0_1.length c0_1), (.slice A0_2 l0_2.length c0_2)] 43 (0, 0))) ∧ Aside0 (wc.heap[gb836]? = some (.cells #[.int .i64 t828, (.slice Ao24 t829.length co24), (.slice Ao25 t832.length co25)] 46 (0, 0))) ∧ Aside0 (wc.heap[gb844]? = some (.cells #[.int .i64 t837, (.slice Ao32 t838.length co32), (.slice Ao33 t841.length co33)] 46 (0, 0))) ∧ Aside0 (wc.heap[gb853]? = some (.cells #[.int .i64 t845, (.slice Ao40 t846.length co40), (.slice Ao41 t849.length co41)] 46 (0, 0))) ∧ Aside0 (Below w.heap.size w wc))
      case first =>
       have H := HC57.out
       clear HC57
       by_cases c68 : t863 < 0
       ·rw [if_pos c68] at H
        have c68b0 : decide (t863 < 0) = true := decide_eq_true c68
        clear c68
        (first | rw [c68b0] | (simp only [i64_w, i32_w]; rw [c68b0]) | skip)
        cases kj11 with
        | zero => exact absurd H (by simp [laws_FnExactQuitLatch.j1])
        | succ k_ => (simp only [laws_FnExactQuitLatch.j1, if_pos] at H; exact absurd (Option.some.inj H) (by rw [HQ_.out]; simp))
       ·rw [if_neg c68] at H
        have c68b0 : decide (t863 < 0) = false := decide_eq_false c68
        clear c68
        (first | rw [c68b0] | (simp only [i64_w, i32_w]; rw [c68b0]) | skip)
        replace H := Option.bind_eq_some_iff.mp H
        obtain ⟨t866, A690, H⟩ := H
        replace H : (if t866 = true then (laws_FnExactQuitLatch.j1 kj11 a1 t835 (t852 != t835) a0_0 l0_1 l0_2 t828 t829 t832 t845 t846 t849) else (laws_FnExactQuitLatch.j1 kj11 a1 t835 true a0_0 l0_1 l0_2 t828 t829 t832 t845 t846 t849)) = some r := H
        have A69 := am A690
        clear A690
        by_cases c70 : t866 = true
        ·subst c70
         replace H : (laws_FnExactQuitLatch.j1 kj11 a1 t835 (t852 != t835) a0_0 l0_1 l0_2 t828 t829 t832 t845 t846 t849) = some r := by rw [if_pos rfl] at H; exact H
         have H' := am H
         clear H
         have hnb71 := NB853_819.out
         have hnc71 := NB819_853.out
         have hnb72 := NB853_836.out
         have hnc72 := NB836_853.out
         have hnb73 := NB853_844.out
         have hnc73 := NB844_853.out
         obtain ⟨hcz74_0, hcz74_1, hcz74_2, hfz74_0, hfz74_1, hfz74_2⟩ := bk3 BK853.out
         have hnb75 := NB836_819.out
         have hnc75 := NB819_836.out
         have hnb76 := NB836_844.out
         have hnc76 := NB844_836.out
         obtain ⟨hcz77_0, hcz77_1, hcz77_2, hfz77_0, hfz77_1, hfz77_2⟩ := bk3 BK836.out
         go_wp2_with (first | (go_at_call 27; (with_reducible refine (laws_eqLatch.calls kj11 t845 _ _ t846 _ _ t849 t828 _ _ t829 _ _ t832 true _ ?side1 ?side2 ?side3 ?side4 ?side5 ?side6 ?side7 ?side8 A69.out).mono ?_); (case side1 => exact pkC (Kd.R_reads' HO_854001.out).2.2); (case side2 => exact (Kd.R_reads' HO_854001.out).2.1); (case side3 => exact pkC (Kd.R_reads' HO_854002.out).2.2); (case side4 => exact (Kd.R_reads' HO_854002.out).2.1); (case side5 => exact pkC (Kd.R_reads' HO_837001.out).2.2); (case side6 => exact (Kd.R_reads' HO_837001.out).2.1); (case side7 => exact pkC (Kd.R_reads' HO_837002.out).2.2); (case side8 => exact (Kd.R_reads' HO_837002.out).2.1); rintro e w78 ⟨rfl, hb⟩; replace HO_837001 := am (Kd.R_below (pkR HO_837001.out) hb); replace HO_837002 := am (Kd.R_below (pkR HO_837002.out) hb); replace HO_845001 := am (Kd.R_below (pkR HO_845001.out) hb); replace HO_845002 := am (Kd.R_below (pkR HO_845002.out) hb); replace HO_854001 := am (Kd.R_below (pkR HO_854001.out) hb); replace HO_854002 := am (Kd.R_below (pkR HO_854002.out) hb); replace HO858 := am (Kd.R_below (pkR HO858.out) hb); replace HO861 := am (Kd.R_below (pkR HO861.out) hb); replace BK819 := am (blk_below (pkK BK819.out) hb); replace BK836 := am (blk_below (pkK BK836.out) hb); replace BK844 := am (blk_below (pkK BK844.out) hb); replace BK853 := am (blk_below (pkK BK853.out) hb); replace HB := am (below_step (pkW HB.out) hb); (try clear hb)))
         go_meet
         case rel => exact ⟨_, ((t852 != t835)), rfx, H', ⟨by have := HJ11.out; first | omega | exact Nat.le_refl _⟩, ⟨by (with_reducible repeat (first | apply Kd.R_alloc | apply Kd.R_drewN | apply Kd.R_drew)); exact Kd.R_mono HO_837001.out (fun _ hk => ⟨hk.1, ⟨hk.2.1, ⟨hk.2.2.1, ⟨hk.2.2.2.1, hk.2.2.2.2.1⟩⟩⟩⟩)⟩, ⟨by (with_reducible repeat (first | apply Kd.R_alloc | apply Kd.R_drewN | apply Kd.R_drew)); exact Kd.R_mono HO_837002.out (fun _ hk => ⟨hk.1, ⟨hk.2.1, ⟨hk.2.2.1, ⟨hk.2.2.2.1, hk.2.2.2.2.1⟩⟩⟩⟩)⟩, ⟨by (with_reducible repeat (first | apply Kd.R_alloc | apply Kd.R_drewN | apply Kd.R_drew)); exact Kd.R_mono HO_845001.out (fun _ hk => ⟨hk.1.1.1, ⟨hk.1.1.2.1, ⟨hk.1.1.2.2.1, ⟨hk.1.1.2.2.2.1, hk.1.1.2.2.2.2⟩⟩⟩⟩)⟩, ⟨by (with_reducible repeat (first | apply Kd.R_alloc | apply Kd.R_drewN | apply Kd.R_drew)); exact Kd.R_mono HO_845002.out (fun _ hk => ⟨hk.1.1.1, ⟨hk.1.1.2.1, ⟨hk.1.1.2.2.1, ⟨hk.1.1.2.2.2.1, hk.1.1.2.2.2.2⟩⟩⟩⟩)⟩, ⟨by (with_reducible repeat (first | apply Kd.R_alloc | apply Kd.R_drewN | apply Kd.R_drew)); exact Kd.R_mono HO_854001.out (fun _ hk => ⟨hk.1, ⟨hk.2.1, ⟨hk.2.2.1, ⟨hk.2.2.2.1, hk.2.2.2.2.1⟩⟩⟩⟩)⟩, ⟨by (with_reducible repeat (first | apply Kd.R_alloc | apply Kd.R_drewN | apply Kd.R_drew)); exact Kd.R_mono HO_854002.out (fun _ hk => ⟨hk.1, ⟨hk.2.1, ⟨hk.2.2.1, ⟨hk.2.2.2.1, hk.2.2.2.2.1⟩⟩⟩⟩)⟩, ⟨pkK BK819.out⟩, ⟨pkK BK836.out⟩, ⟨pkK BK844.out⟩, ⟨pkK BK853.out⟩, ⟨pkW HB.out⟩⟩
        ·replace c70 := Bool.eq_false_iff.mpr c70
         subst c70
         replace H : (laws_FnExactQuitLatch.j1 kj11 a1 t835 true a0_0 l0_1 l0_2 t828 t829 t832 t845 t846 t849) = some r := by rw [if_neg (show ¬ (false = true) by decide)] at H; exact H
         cases kj11 with
         | zero => exact absurd H (by simp [laws_FnExactQuitLatch.j1])
         | succ k_ => (simp only [laws_FnExactQuitLatch.j1, if_pos] at H; exact absurd (Option.some.inj H) (by rw [HQ_.out]; simp))
      case rest =>
       clear HC57
       try clear c2
       try clear p2
       try clear c3
       try clear c4
       try clear c4b0
       try clear c5
       try clear c6
       try clear c7
       try clear c9
       try clear c22
       try clear c23
       try clear c25
       try clear c27
       try clear c29
       try clear c30
       try clear c36
       try clear c37
       try clear c38
       try clear c40
       try clear c41
       try clear c43
       try clear c44
       try clear c45
       try clear c46
       try clear c48
       try clear c49
       try clear c52
       try clear c55
       try clear c63
       try clear c64
       try clear c65
       try clear c68
       try clear c68b0
       try clear c70
       try clear c71
       try clear c72
       try clear c73
       try clear c75
       try clear c76
       try clear hcz14_0
       try clear hcz14_1
       try clear hcz14_2
       try clear hcz16_0
       try clear hcz16_1
       try clear hcz16_2
       try clear hcz23_0
       try clear hcz23_1
       try clear hcz23_2
       try clear hcz26_0
       try clear hcz26_1
       try clear hcz26_2
       try clear hcz31_0
       try clear hcz31_1
       try clear hcz31_2
       try clear hcz39_0
       try clear hcz39_1
       try clear hcz39_2
       try clear hcz47_0
       try clear hcz47_1
       try clear hcz47_2
       try clear hcz50_0
       try clear hcz50_1
       try clear hcz50_2
       try clear hcz66_0
       try clear hcz66_1
       try clear hcz66_2
       try clear hcz6_0
       try clear hcz6_1
       try clear hcz6_2
       try clear hcz74_0
       try clear hcz74_1
       try clear hcz74_2
       try clear hcz77_0
       try clear hcz77_1
       try clear hcz77_2
       try clear hfz14_0
       try clear hfz14_1
       try clear hfz14_2
       try clear hfz16_0
       try clear hfz16_1
       try clear hfz16_2
       try clear hfz23_0
       try clear hfz23_1
       try clear hfz23_2
       try clear hfz26_0
       try clear hfz26_1
       try clear hfz26_2
       try clear hfz31_0
       try clear hfz31_1
       try clear hfz31_2
       try clear hfz39_0
       try clear hfz39_1
       try clear hfz39_2
       try clear hfz47_0
       try clear hfz47_1
       try clear hfz47_2
       try clear hfz50_0
       try clear hfz50_1
       try clear hfz50_2
       try clear hfz66_0
       try clear hfz66_1
       try clear hfz66_2
       try clear hfz6_0
       try clear hfz6_1
       try clear hfz6_2
       try clear hfz74_0
       try clear hfz74_1
       try clear hfz74_2
       try clear hfz77_0
       try clear hfz77_1
       try clear hfz77_2
       try clear p2
       obtain ⟨kq, x65_56, rfl, HA, HJ56, HO_837001, HO_837002, HO_845001, HO_845002, HO_854001, HO_854002, BK819, BK836, BK844, BK853, HB⟩ := hcut
       have hl845001_56 := (Kd.R_reads' HO_845001.out).1
       rw [hl845001_56] at HO_845001
       (try simp only [hl845001_56])
       (try simp only [hl845001_56] at BK819)
       (try simp only [hl845001_56] at BK836)
       (try simp only [hl845001_56] at BK844)
       (try simp only [hl845001_56] at BK853)
       (try simp only [hl845001_56] at HO_837001)
       (try simp only [hl845001_56] at HO_837002)
       (try simp only [hl845001_56] at HO_845002)
       (try simp only [hl845001_56] at HO_854001)
       (try simp only [hl845001_56] at HO_854002)
       have hl845002_56 := (Kd.R_reads' HO_845002.out).1
       rw [hl845002_56] at HO_845002
       (try simp only [hl845002_56])
       (try simp only [hl845002_56] at BK819)
       (try simp only [hl845002_56] at BK836)
       (try simp only [hl845002_56] at BK844)
       (try simp only [hl845002_56] at BK853)
       (try simp only [hl845002_56] at HO_837001)
       (try simp only [hl845002_56] at HO_837002)
       (try simp only [hl845002_56] at HO_845001)
       (try simp only [hl845002_56] at HO_854001)
       (try simp only [hl845002_56] at HO_854002)
       cases kq with
       | zero => exact absurd HA.out (by simp [laws_FnExactQuitLatch.j1])
       | succ kj56 =>
        have H := HA.out
        clear HA
        simp only [laws_FnExactQuitLatch.j1] at H
        by_cases c79 : x65_56 = true
        ·subst c79
         replace H : (some false) = some r := by rw [if_pos rfl] at H; exact H
         exact absurd (Option.some.inj H) (by rw [HQ_.out]; simp)
        ·replace c79 := Bool.eq_false_iff.mpr c79
         subst c79
         replace H : ((laws_markLatch.f kj56 t845 t846 t849 1).bind fun bt867 => ((laws_heldLatch.f kj56 t845 bt867.2.1 bt867.2.2 1).bind fun t870 => (if t870 < 0 then (some false) else (if t870 = bt867.1 then ((laws_toLatch.f kj56 a0_0 l0_1 l0_2).bind fun bt871 => ((impl_QuitLatch.f kj56 bt871.1 bt871.2.1 bt871.2.2 a1).bind fun bt878 => ((laws_eqLatch.f kj56 bt878.1 bt878.2.1 bt878.2.2.1 t828 t829 t832).bind fun t887 => (if t887 = true then (laws_FnExactQuitLatch.j2 kj56 bt867.1 (bt878.2.2.2 != t835) t845 bt867.2.1 bt867.2.2) else (laws_FnExactQuitLatch.j2 kj56 bt867.1 true t845 bt867.2.1 bt867.2.2))))) else (some false))))) = some r := by rw [if_neg (show ¬ (false = true) by decide)] at H; exact H
         replace H := Option.bind_eq_some_iff.mp H
         obtain ⟨⟨t867, t868, t869⟩, A800, H⟩ := H
         replace H : ((laws_heldLatch.f kj56 t845 t868 t869 1).bind fun t870 => (if t870 < 0 then (some false) else (if t870 = t867 then ((laws_toLatch.f kj56 a0_0 l0_1 l0_2).bind fun bt871 => ((impl_QuitLatch.f kj56 bt871.1 bt871.2.1 bt871.2.2 a1).bind fun bt878 => ((laws_eqLatch.f kj56 bt878.1 bt878.2.1 bt878.2.2.1 t828 t829 t832).bind fun t887 => (if t887 = true then (laws_FnExactQuitLatch.j2 kj56 t867 (bt878.2.2.2 != t835) t845 t868 t869) else (laws_FnExactQuitLatch.j2 kj56 t867 true t845 t868 t869))))) else (some false)))) = some r := H
         have A80 := am A800
         clear A800
         replace H := Option.bind_eq_some_iff.mp H
         obtain ⟨t870, A810, H⟩ := H
         replace H : (if t870 < 0 then (some false) else (if t870 = t867 then ((laws_toLatch.f kj56 a0_0 l0_1 l0_2).bind fun bt871 => ((impl_QuitLatch.f kj56 bt871.1 bt871.2.1 bt871.2.2 a1).bind fun bt878 => ((laws_eqLatch.f kj56 bt878.1 bt878.2.1 bt878.2.2.1 t828 t829 t832).bind fun t887 => (if t887 = true then (laws_FnExactQuitLatch.j2 kj56 t867 (bt878.2.2.2 != t835) t845 t868 t869) else (laws_FnExactQuitLatch.j2 kj56 t867 true t845 t868 t869))))) else (some false))) = some r := H
         have A81 := am A810
         clear A810
         by_cases c82 : t870 < 0
         ·rw [if_pos c82] at H
          have c82b0 : decide (t870 < 0) = true := decide_eq_true c82
          clear c82
          exact absurd (Option.some.inj H) (by rw [HQ_.out]; simp)
         ·rw [if_neg c82] at H
          have c82b0 : decide (t870 < 0) = false := decide_eq_false c82
          clear c82
          by_cases c83 : t870 = t867
          ·rw [if_pos c83] at H
           have c83b0 : (t870 == t867) = true := beq_iff_eq.mpr c83
           have c83b1 : (t870 != t867) = false := bne_eq_false_iff_eq.mpr c83
           clear c83
           replace H := Option.bind_eq_some_iff.mp H
           obtain ⟨⟨t871, t872, t875⟩, A840, H⟩ := H
           replace H : ((impl_QuitLatch.f kj56 t871 t872 t875 a1).bind fun bt878 => ((laws_eqLatch.f kj56 bt878.1 bt878.2.1 bt878.2.2.1 t828 t829 t832).bind fun t887 => (if t887 = true then (laws_FnExactQuitLatch.j2 kj56 t867 (bt878.2.2.2 != t835) t845 t868 t869) else (laws_FnExactQuitLatch.j2 kj56 t867 true t845 t868 t869)))) = some r := H
           have A84 := am A840
           clear A840
           replace H := Option.bind_eq_some_iff.mp H
           obtain ⟨⟨t878, t879, t882, t885⟩, A850, H⟩ := H
           replace H : ((laws_eqLatch.f kj56 t878 t879 t882 t828 t829 t832).bind fun t887 => (if t887 = true then (laws_FnExactQuitLatch.j2 kj56 t867 (t885 != t835) t845 t868 t869) else (laws_FnExactQuitLatch.j2 kj56 t867 true t845 t868 t869))) = some r := H
           have A85 := am A850
           clear A850
           have HC86 := am H
           clear H
           have hnb87 := NB853_819.out
           have hnc87 := NB819_853.out
           have hnb88 := NB853_836.out
           have hnc88 := NB836_853.out
           have hnb89 := NB853_844.out
           have hnc89 := NB844_853.out
           obtain ⟨hcz90_0, hcz90_1, hcz90_2, hfz90_0, hfz90_1, hfz90_2⟩ := bk3 BK853.out
           go_upto_region 25 with (first | ((with_reducible refine gate_callee (f := 36) rfl ?_); refine goesL_ (some 68) rfl rfl Try.func36 (by kernel_rfl) rfl #[.agg #[.int .i64 t845, .slice Ao40 t846.length co40, .slice Ao41 t849.length co41], .int .i64 1] rfl mpx ?_; (with_reducible refine (laws_markLatch.calls kj56 t845 (fun k_ => some k_ = (.slice Ao40 t846.length co40 : Value).ownBlock) (.slice Ao40 t846.length co40) t846 (fun k_ => some k_ = (.slice Ao41 t849.length co41 : Value).ownBlock) (.slice Ao41 t849.length co41) t849 1 t867 t868 t869 w _ ?side1 ?side2 ?side3 ?side4 ?side5 A80.out).mono ?_); (case side1 => repeat (first | (with_reducible first | exact HB.out | apply below_alloc | apply pw_below_drewN | apply below_drew1 | refine below_set ?_ GE819.out | refine below_set ?_ GE836.out | refine below_set ?_ GE844.out | refine below_set ?_ GE853.out) | exact HB.out)); (case side2 => exact Kd.R_tight rfl HO_854001.out); (case side3 => exact fun k_ e_ => (HO_854001.out.1 k_ e_.symm).2.2.2.2); (case side4 => exact Kd.R_tight rfl HO_854002.out); (case side5 => exact fun k_ e_ => (HO_854002.out.1 k_ e_.symm).2.2.2.2); rintro e w91 ⟨rfl, hy0, hy1, hb, hkp⟩; refine ⟨_, rfl, ?_⟩; replace HO_837001 := am (Kd.R_mono (ok' := fun k_ => some k_ ≠ (.slice Ao25 t832.length co25 : Value).ownBlock ∧ some k_ ≠ (.slice Ao32 t864.length co32 : Value).ownBlock ∧ some k_ ≠ (.slice Ao33 t865.length co33 : Value).ownBlock ∧ some k_ ≠ (.slice Ao40 t846.length co40 : Value).ownBlock ∧ some k_ ≠ (.slice Ao41 t849.length co41 : Value).ownBlock) (Kd.R_keptB (HO_837001.out) hkp (fun k_ hk_ hs_ => Or.elim hs_ (fun e_ => (hk_.2.2.2.1) e_) (fun e_ => (hk_.2.2.2.2) e_))) (fun k_ hk_ => ⟨hk_.1.1, hk_.1.2.1, hk_.1.2.2.1, hk_.1.2.2.2.1, hk_.1.2.2.2.2⟩)); replace HO_837002 := am (Kd.R_mono (ok' := fun k_ => some k_ ≠ (.slice Ao24 t829.length co24 : Value).ownBlock ∧ some k_ ≠ (.slice Ao32 t864.length co32 : Value).ownBlock ∧ some k_ ≠ (.slice Ao33 t865.length co33 : Value).ownBlock ∧ some k_ ≠ (.slice Ao40 t846.length co40 : Value).ownBlock ∧ some k_ ≠ (.slice Ao41 t849.length co41 : Value).ownBlock) (Kd.R_keptB (HO_837002.out) hkp (fun k_ hk_ hs_ => Or.elim hs_ (fun e_ => (hk_.2.2.2.1) e_) (fun e_ => (hk_.2.2.2.2) e_))) (fun k_ hk_ => ⟨hk_.1.1, hk_.1.2.1, hk_.1.2.2.1, hk_.1.2.2.2.1, hk_.1.2.2.2.2⟩)); replace HO_845001 := am (Kd.R_mono (ok' := fun k_ => some k_ ≠ (.slice Ao24 t829.length co24 : Value).ownBlock ∧ some k_ ≠ (.slice Ao25 t832.length co25 : Value).ownBlock ∧ some k_ ≠ (.slice Ao33 t865.length co33 : Value).ownBlock ∧ some k_ ≠ (.slice Ao40 t846.length co40 : Value).ownBlock ∧ some k_ ≠ (.slice Ao41 t849.length co41 : Value).ownBlock) (Kd.R_keptB (HO_845001.out) hkp (fun k_ hk_ hs_ => Or.elim hs_ (fun e_ => (hk_.2.2.2.1) e_) (fun e_ => (hk_.2.2.2.2) e_))) (fun k_ hk_ => ⟨hk_.1.1, hk_.1.2.1, hk_.1.2.2.1, hk_.1.2.2.2.1, hk_.1.2.2.2.2⟩)); replace HO_845002 := am (Kd.R_mono (ok' := fun k_ => some k_ ≠ (.slice Ao24 t829.length co24 : Value).ownBlock ∧ some k_ ≠ (.slice Ao25 t832.length co25 : Value).ownBlock ∧ some k_ ≠ (.slice Ao32 t864.length co32 : Value).ownBlock ∧ some k_ ≠ (.slice Ao40 t846.length co40 : Value).ownBlock ∧ some k_ ≠ (.slice Ao41 t849.length co41 : Value).ownBlock) (Kd.R_keptB (HO_845002.out) hkp (fun k_ hk_ hs_ => Or.elim hs_ (fun e_ => (hk_.2.2.2.1) e_) (fun e_ => (hk_.2.2.2.2) e_))) (fun k_ hk_ => ⟨hk_.1.1, hk_.1.2.1, hk_.1.2.2.1, hk_.1.2.2.2.1, hk_.1.2.2.2.2⟩)); replace BK819 := am (blk_kept (pkK BK819.out) hkp (fun hs_ => Or.elim hs_ (fun e_ => (fun e_ => (Kd.R_ne HO_854001.out BK819.out (by decide)) e_) e_) (fun e_ => (fun e_ => (Kd.R_ne HO_854002.out BK819.out (by decide)) e_) e_))); replace BK836 := am (blk_kept (pkK BK836.out) hkp (fun hs_ => Or.elim hs_ (fun e_ => (fun e_ => (Kd.R_ne HO_854001.out BK836.out (by decide)) e_) e_) (fun e_ => (fun e_ => (Kd.R_ne HO_854002.out BK836.out (by decide)) e_) e_))); replace BK844 := am (blk_kept (pkK BK844.out) hkp (fun hs_ => Or.elim hs_ (fun e_ => (fun e_ => (Kd.R_ne HO_854001.out BK844.out (by decide)) e_) e_) (fun e_ => (fun e_ => (Kd.R_ne HO_854002.out BK844.out (by decide)) e_) e_))); replace BK853 := am (blk_kept (pkK BK853.out) hkp (fun hs_ => Or.elim hs_ (fun e_ => (fun e_ => (Kd.R_ne HO_854001.out BK853.out (by decide)) e_) e_) (fun e_ => (fun e_ => (Kd.R_ne HO_854002.out BK853.out (by decide)) e_) e_))); replace HO_854001 := am (Kd.R_reok rfl hy0 (fun k_ e_ => HO_854001.out.1 k_ e_)); replace HO_854002 := am (Kd.R_reok rfl hy1 (fun k_ e_ => HO_854002.out.1 k_ e_)); replace HB := am (hb); (try clear hb); (try clear hkp); (try clear hy0); (try clear hy1); obtain ⟨hcz92_0, hcz92_1, hcz92_2, hfz92_0, hfz92_1, hfz92_2⟩ := bk3 BK853.out) | ((with_reducible refine gate_callee (f := 37) rfl ?_); refine goesL_ (some 71) rfl rfl Try.func37 (by kernel_rfl) rfl #[.agg #[.int .i64 t845, .slice Ao40 t868.length co40, .slice Ao41 t869.length co41], .int .i64 1] rfl (by (try simp only [List.map_toArray, List.map_cons, List.map_nil]); first | done | (rw [show t868.length = t846.length from (Kd.R_reads' HO_854001.out).1.symm, show t869.length = t849.length from (Kd.R_reads' HO_854002.out).1.symm] <;> rfl) | rfl | (simp only [List.length_drop, List.length_take]; rfl) | (go_simp; done) | (simp [*]; done)) ?_; (with_reducible refine (laws_heldLatch.calls kj56 t845 _ _ t868 _ _ t869 1 t870 _ ?side1 ?side2 ?side3 ?side4 A81.out).mono ?_); (case side1 => exact pkC (Kd.R_reads' HO_854001.out).2.2); (case side2 => rw [show t868.length = t846.length from (Kd.R_reads' HO_854001.out).1.symm]; exact (Kd.R_reads' HO_854001.out).2.1); (case side3 => exact pkC (Kd.R_reads' HO_854002.out).2.2); (case side4 => rw [show t869.length = t849.length from (Kd.R_reads' HO_854002.out).1.symm]; exact (Kd.R_reads' HO_854002.out).2.1); rintro e w93 ⟨rfl, hb⟩; refine ⟨_, rfl, ?_⟩; replace HO_837001 := am (Kd.R_below (pkR HO_837001.out) hb); replace HO_837002 := am (Kd.R_below (pkR HO_837002.out) hb); replace HO_845001 := am (Kd.R_below (pkR HO_845001.out) hb); replace HO_845002 := am (Kd.R_below (pkR HO_845002.out) hb); replace HO_854001 := am (Kd.R_below (pkR HO_854001.out) hb); replace HO_854002 := am (Kd.R_below (pkR HO_854002.out) hb); replace BK819 := am (blk_below (pkK BK819.out) hb); replace BK836 := am (blk_below (pkK BK836.out) hb); replace BK844 := am (blk_below (pkK BK844.out) hb); replace BK853 := am (blk_below (pkK BK853.out) hb); replace HB := am (below_step (pkW HB.out) hb); (try clear hb); have hnb94 := NB819_836.out; have hnc94 := NB836_819.out; have hnb95 := NB819_844.out; have hnc95 := NB844_819.out; obtain ⟨hcz96_0, hcz96_1, hcz96_2, hfz96_0, hfz96_1, hfz96_2⟩ := bk3 BK819.out) | ((with_reducible refine gate_callee (f := 25) rfl ?_); refine goesL_ (some 79) rfl rfl Try.func25 (by kernel_rfl) rfl #[.agg #[.int .i64 a0_0, .slice A0_1 l0_1.length c0_1, .slice A0_2 l0_2.length c0_2]] rfl mpx ?_; (with_reducible refine (laws_toLatch.calls kj56 a0_0 _ _ l0_1 _ _ l0_2 t871 t872 t875 _ ?side1 ?side2 ?side3 ?side4 A84.out).mono ?_); (case side1 => exact pkC (Kd.C_below HR0_1.out HB.out)); (case side2 => exact HC0_1.out); (case side3 => exact pkC (Kd.C_below HR0_2.out HB.out)); (case side4 => exact HC0_2.out); rintro e w97 ⟨v873, v876, rfl, ho0, ho1, hb⟩; refine ⟨_, rfl, ?_⟩; have HO874 := am (Kd.R_lower (Kd.R_new' (Kd.R_new' (Kd.R_new' (Kd.R_new' (Kd.R_new' (Kd.R_new' ho0 (Kd.R_lt (pkR HO_837001.out))) (Kd.R_lt (pkR HO_837002.out))) (Kd.R_lt (pkR HO_845001.out))) (Kd.R_lt (pkR HO_845002.out))) (Kd.R_lt (pkR HO_854001.out))) (Kd.R_lt (pkR HO_854002.out))) (below_size (pkW HB.out))); have HO877 := am (Kd.R_lower (Kd.R_new' (Kd.R_new' (Kd.R_new' (Kd.R_new' (Kd.R_new' (Kd.R_new' ho1 (Kd.R_lt (pkR HO_837001.out))) (Kd.R_lt (pkR HO_837002.out))) (Kd.R_lt (pkR HO_845001.out))) (Kd.R_lt (pkR HO_845002.out))) (Kd.R_lt (pkR HO_854001.out))) (Kd.R_lt (pkR HO_854002.out))) (below_size (pkW HB.out))); replace HO_837001 := am (Kd.R_mono (Kd.R_told (Kd.R_told (Kd.R_old (pkR HO_837001.out) hb) (Kd.R_base ho0)) (Kd.R_base ho1)) (fun _ h_ => h_.1)); replace HO_837002 := am (Kd.R_mono (Kd.R_told (Kd.R_told (Kd.R_old (pkR HO_837002.out) hb) (Kd.R_base ho0)) (Kd.R_base ho1)) (fun _ h_ => h_.1)); replace HO_845001 := am (Kd.R_mono (Kd.R_told (Kd.R_told (Kd.R_old (pkR HO_845001.out) hb) (Kd.R_base ho0)) (Kd.R_base ho1)) (fun _ h_ => h_.1)); replace HO_845002 := am (Kd.R_mono (Kd.R_told (Kd.R_told (Kd.R_old (pkR HO_845002.out) hb) (Kd.R_base ho0)) (Kd.R_base ho1)) (fun _ h_ => h_.1)); replace HO_854001 := am (Kd.R_mono (Kd.R_told (Kd.R_told (Kd.R_old (pkR HO_854001.out) hb) (Kd.R_base ho0)) (Kd.R_base ho1)) (fun _ h_ => h_.1)); replace HO_854002 := am (Kd.R_mono (Kd.R_told (Kd.R_told (Kd.R_old (pkR HO_854002.out) hb) (Kd.R_base ho0)) (Kd.R_base ho1)) (fun _ h_ => h_.1)); replace BK819 := am (blk_below (pkK BK819.out) hb); replace BK836 := am (blk_below (pkK BK836.out) hb); replace BK844 := am (blk_below (pkK BK844.out) hb); replace BK853 := am (blk_below (pkK BK853.out) hb); replace HB := am (below_step (pkW HB.out) hb); (try clear hb ho0 ho1); obtain ⟨Ao98, co98, eo98⟩ := Kd.R_slice HO874.out; subst eo98; obtain ⟨Ao99, co99, eo99⟩ := Kd.R_slice HO877.out; subst eo99) | ((with_reducible refine gate_callee (f := 41) rfl ?_); refine goesL_ (some 81) rfl rfl Try.func41 (by kernel_rfl) rfl #[.agg #[.int .i64 t871, .slice Ao98 t872.length co98, .slice Ao99 t875.length co99], .int .i64 a1] rfl mpx ?_; (with_reducible refine (impl_QuitLatch.calls kj56 t871 _ _ t872 _ _ t875 a1 t878 t879 t882 t885 _ ?side1 ?side2 ?side3 ?side4 A85.out).mono ?_); (case side1 => exact pkC (Kd.R_reads' HO874.out).2.2); (case side2 => exact (Kd.R_reads' HO874.out).2.1); (case side3 => exact pkC (Kd.R_reads' HO877.out).2.2); (case side4 => exact (Kd.R_reads' HO877.out).2.1); rintro e w100 ⟨v880, v883, rfl, ho0, ho1, hb⟩; refine ⟨_, rfl, ?_⟩; have HO881 := am (Kd.R_lower (Kd.R_new' (Kd.R_new' (Kd.R_new' (Kd.R_new' (Kd.R_new' (Kd.R_new' (Kd.R_new' (Kd.R_new' ho0 (Kd.R_lt (pkR HO_837001.out))) (Kd.R_lt (pkR HO_837002.out))) (Kd.R_lt (pkR HO_845001.out))) (Kd.R_lt (pkR HO_845002.out))) (Kd.R_lt (pkR HO_854001.out))) (Kd.R_lt (pkR HO_854002.out))) (Kd.R_lt (pkR HO874.out))) (Kd.R_lt (pkR HO877.out))) (below_size (pkW HB.out))); have HO884 := am (Kd.R_lower (Kd.R_new' (Kd.R_new' (Kd.R_new' (Kd.R_new' (Kd.R_new' (Kd.R_new' (Kd.R_new' (Kd.R_new' ho1 (Kd.R_lt (pkR HO_837001.out))) (Kd.R_lt (pkR HO_837002.out))) (Kd.R_lt (pkR HO_845001.out))) (Kd.R_lt (pkR HO_845002.out))) (Kd.R_lt (pkR HO_854001.out))) (Kd.R_lt (pkR HO_854002.out))) (Kd.R_lt (pkR HO874.out))) (Kd.R_lt (pkR HO877.out))) (below_size (pkW HB.out))); replace HO_837001 := am (Kd.R_mono (Kd.R_told (Kd.R_told (Kd.R_old (pkR HO_837001.out) hb) (Kd.R_base ho0)) (Kd.R_base ho1)) (fun _ h_ => h_.1)); replace HO_837002 := am (Kd.R_mono (Kd.R_told (Kd.R_told (Kd.R_old (pkR HO_837002.out) hb) (Kd.R_base ho0)) (Kd.R_base ho1)) (fun _ h_ => h_.1)); replace HO_845001 := am (Kd.R_mono (Kd.R_told (Kd.R_told (Kd.R_old (pkR HO_845001.out) hb) (Kd.R_base ho0)) (Kd.R_base ho1)) (fun _ h_ => h_.1)); replace HO_845002 := am (Kd.R_mono (Kd.R_told (Kd.R_told (Kd.R_old (pkR HO_845002.out) hb) (Kd.R_base ho0)) (Kd.R_base ho1)) (fun _ h_ => h_.1)); replace HO_854001 := am (Kd.R_mono (Kd.R_told (Kd.R_told (Kd.R_old (pkR HO_854001.out) hb) (Kd.R_base ho0)) (Kd.R_base ho1)) (fun _ h_ => h_.1)); replace HO_854002 := am (Kd.R_mono (Kd.R_told (Kd.R_told (Kd.R_old (pkR HO_854002.out) hb) (Kd.R_base ho0)) (Kd.R_base ho1)) (fun _ h_ => h_.1)); replace HO874 := am (Kd.R_mono (Kd.R_told (Kd.R_told (Kd.R_old (pkR HO874.out) hb) (Kd.R_base ho0)) (Kd.R_base ho1)) (fun _ h_ => h_.1)); replace HO877 := am (Kd.R_mono (Kd.R_told (Kd.R_told (Kd.R_old (pkR HO877.out) hb) (Kd.R_base ho0)) (Kd.R_base ho1)) (fun _ h_ => h_.1)); replace BK819 := am (blk_below (pkK BK819.out) hb); replace BK836 := am (blk_below (pkK BK836.out) hb); replace BK844 := am (blk_below (pkK BK844.out) hb); replace BK853 := am (blk_below (pkK BK853.out) hb); replace HB := am (below_step (pkW HB.out) hb); (try clear hb ho0 ho1)) | ((with_reducible refine gate_dst (N := 14) rfl ?_); refine box_event ?hg (N := 14) ?hd (cs := #[.int .i64 0, .slice none 0 0, .slice none 0 0]) (t := 46) ?hr ?_; (case hd => rfl); (case hg => rfl); (case hr => first | (go_simp; done) | (go_simp; rfl)); intro gb886 hg w101 hbox hb; replace HO_837001 := am (Kd.R_below (pkR HO_837001.out) hb); replace HO_837002 := am (Kd.R_below (pkR HO_837002.out) hb); replace HO_845001 := am (Kd.R_below (pkR HO_845001.out) hb); replace HO_845002 := am (Kd.R_below (pkR HO_845002.out) hb); replace HO_854001 := am (Kd.R_below (pkR HO_854001.out) hb); replace HO_854002 := am (Kd.R_below (pkR HO_854002.out) hb); replace HO874 := am (Kd.R_below (pkR HO874.out) hb); replace HO877 := am (Kd.R_below (pkR HO877.out) hb); replace HO881 := am (Kd.R_below (pkR HO881.out) hb); replace HO884 := am (Kd.R_below (pkR HO884.out) hb); have BK886 := am (hbox); have GW886 := am ((by rw [hg]; exact (below_size (pkW HB.out)) : w.heap.size ≤ gb886)); have GE886 := am ((by rw [hg]; exact (below_size (pkW HB.out)) : w.heap.size ≤ gb886)); replace HB := am (below_step (pkW HB.out) hb); have NB819_886 := am ((by rw [hg]; exact Nat.ne_of_lt (blk_lt (g := gb819) (o := .cells #[.int .i64 a0_0, .slice A0_1 l0_1.length c0_1, .slice A0_2 l0_2.length c0_2] 43 (0, 0)) (pkK BK819.out)) : gb819 ≠ gb886)); have NB886_819 := am ((by rw [hg]; exact Nat.ne_of_gt (blk_lt (g := gb819) (o := .cells #[.int .i64 a0_0, .slice A0_1 l0_1.length c0_1, .slice A0_2 l0_2.length c0_2] 43 (0, 0)) (pkK BK819.out)) : gb886 ≠ gb819)); replace BK819 := am (blk_below (pkK BK819.out) hb); have NB836_886 := am ((by rw [hg]; exact Nat.ne_of_lt (blk_lt (g := gb836) (o := .cells #[.int .i64 t828, .slice Ao24 t829.length co24, .slice Ao25 t832.length co25] 46 (0, 0)) (pkK BK836.out)) : gb836 ≠ gb886)); have NB886_836 := am ((by rw [hg]; exact Nat.ne_of_gt (blk_lt (g := gb836) (o := .cells #[.int .i64 t828, .slice Ao24 t829.length co24, .slice Ao25 t832.length co25] 46 (0, 0)) (pkK BK836.out)) : gb886 ≠ gb836)); replace BK836 := am (blk_below (pkK BK836.out) hb); have NB844_886 := am ((by rw [hg]; exact Nat.ne_of_lt (blk_lt (g := gb844) (o := .cells #[.int .i64 t837, .slice Ao32 t864.length co32, .slice Ao33 t865.length co33] 46 (0, 0)) (pkK BK844.out)) : gb844 ≠ gb886)); have NB886_844 := am ((by rw [hg]; exact Nat.ne_of_gt (blk_lt (g := gb844) (o := .cells #[.int .i64 t837, .slice Ao32 t864.length co32, .slice Ao33 t865.length co33] 46 (0, 0)) (pkK BK844.out)) : gb886 ≠ gb844)); replace BK844 := am (blk_below (pkK BK844.out) hb); have NB853_886 := am ((by rw [hg]; exact Nat.ne_of_lt (blk_lt (g := gb853) (o := .cells #[.int .i64 t845, .slice Ao40 t846.length co40, .slice Ao41 t849.length co41] 46 (0, 0)) (pkK BK853.out)) : gb853 ≠ gb886)); have NB886_853 := am ((by rw [hg]; exact Nat.ne_of_gt (blk_lt (g := gb853) (o := .cells #[.int .i64 t845, .slice Ao40 t846.length co40, .slice Ao41 t849.length co41] 46 (0, 0)) (pkK BK853.out)) : gb886 ≠ gb853)); replace BK853 := am (blk_below (pkK BK853.out) hb); clear hb hbox hg; have hnb102 := NB886_819.out; have hnc102 := NB819_886.out; have hnb103 := NB886_836.out; have hnc103 := NB836_886.out; have hnb104 := NB886_844.out; have hnc104 := NB844_886.out; have hnb105 := NB886_853.out; have hnc105 := NB853_886.out; obtain ⟨hcz106_0, hcz106_1, hcz106_2, hfz106_0, hfz106_1, hfz106_2⟩ := bk3 BK886.out; obtain ⟨Ao107, co107, eo107⟩ := Kd.R_slice HO881.out; subst eo107; obtain ⟨Ao108, co108, eo108⟩ := Kd.R_slice HO884.out; subst eo108))
           (try simp only [Act.put, List.setIfInBounds_toArray, List.set_cons_zero, List.set_cons_succ])
           go_cut [92] (fun v92 wc => ∃ (kq : Nat) (x92_85 : Bool), v92 = .bool x92_85 ∧ Aside0 (laws_FnExactQuitLatch.j2 kq t867 x92_85 t845 t868 t869 = some r) ∧ Aside0 (kq ≤ kj56) ∧ Aside0 (Kd.R (Kd.int .i64) 3 wc w.heap.size (fun k_ => some k_ ≠ ((.slice Ao25 t832.length co25) : Value).ownBlock ∧ some k_ ≠ ((.slice Ao32 t864.length co32) : Value).ownBlock ∧ some k_ ≠ ((.slice Ao33 t865.length co33) : Value).ownBlock ∧ some k_ ≠ ((.slice Ao40 t846.length co40) : Value).ownBlock ∧ some k_ ≠ ((.slice Ao41 t849.length co41) : Value).ownBlock ∧ some k_ ≠ ((.slice Ao107 t879.length co107) : Value).ownBlock ∧ some k_ ≠ ((.slice Ao108 t882.length co108) : Value).ownBlock) (.slice Ao24 t829.length co24) t829) ∧ Aside0 (Kd.R (Kd.int .i64) 3 wc w.heap.size (fun k_ => some k_ ≠ ((.slice Ao24 t829.length co24) : Value).ownBlock ∧ some k_ ≠ ((.slice Ao32 t864.length co32) : Value).ownBlock ∧ some k_ ≠ ((.slice Ao33 t865.length co33) : Value).ownBlock ∧ some k_ ≠ ((.slice Ao40 t846.length co40) : Value).ownBlock ∧ some k_ ≠ ((.slice Ao41 t849.length co41) : Value).ownBlock ∧ some k_ ≠ ((.slice Ao107 t879.length co107) : Value).ownBlock ∧ some k_ ≠ ((.slice Ao108 t882.length co108) : Value).ownBlock) (.slice Ao25 t832.length co25) t832) ∧ Aside0 (Kd.R (Kd.int .i64) 3 wc w.heap.size (fun k_ => some k_ ≠ ((.slice Ao24 t829.length co24) : Value).ownBlock ∧ some k_ ≠ ((.slice Ao25 t832.length co25) : Value).ownBlock ∧ some k_ ≠ ((.slice Ao33 t865.length co33) : Value).ownBlock ∧ some k_ ≠ ((.slice Ao40 t846.length co40) : Value).ownBlock ∧ some k_ ≠ ((.slice Ao41 t849.length co41) : Value).ownBlock ∧ some k_ ≠ ((.slice Ao107 t879.length co107) : Value).ownBlock ∧ some k_ ≠ ((.slice Ao108 t882.length co108) : Value).ownBlock) (.slice Ao32 t864.length co32) t864) ∧ Aside0 (Kd.R (Kd.int .i64) 3 wc w.heap.size (fun k_ => some k_ ≠ ((.slice Ao24 t829.length co24) : Value).ownBlock ∧ some k_ ≠ ((.slice Ao25 t832.length co25) : Value).ownBlock ∧ some k_ ≠ ((.slice Ao32 t864.length co32) : Value).ownBlock ∧ some k_ ≠ ((.slice Ao40 t846.length co40) : Value).ownBlock ∧ some k_ ≠ ((.slice Ao41 t849.length co41) : Value).ownBlock ∧ some k_ ≠ ((.slice Ao107 t879.length co107) : Value).ownBlock ∧ some k_ ≠ ((.slice Ao108 t882.length co108) : Value).ownBlock) (.slice Ao33 t865.length co33) t865) ∧ Aside0 (Kd.R (Kd.int .i64) 3 wc w.heap.size (fun k_ => some k_ ≠ ((.slice Ao24 t829.length co24) : Value).ownBlock ∧ some k_ ≠ ((.slice Ao25 t832.length co25) : Value).ownBlock ∧ some k_ ≠ ((.slice Ao32 t864.length co32) : Value).ownBlock ∧ some k_ ≠ ((.slice Ao33 t865.length co33) : Value).ownBlock ∧ some k_ ≠ ((.slice Ao41 t849.length co41) : Value).ownBlock ∧ some k_ ≠ ((.slice Ao107 t879.length co107) : Value).ownBlock ∧ some k_ ≠ ((.slice Ao108 t882.length co108) : Value).ownBlock) (.slice Ao40 t846.length co40) t868) ∧ Aside0 (Kd.R (Kd.int .i64) 3 wc w.heap.size (fun k_ => some k_ ≠ ((.slice Ao24 t829.length co24) : Value).ownBlock ∧ some k_ ≠ ((.slice Ao25 t832.length co25) : Value).ownBlock ∧ some k_ ≠ ((.slice Ao32 t864.length co32) : Value).ownBlock ∧ some k_ ≠ ((.slice Ao33 t865.length co33) : Value).ownBlock ∧ some k_ ≠ ((.slice Ao40 t846.length co40) : Value).ownBlock ∧ some k_ ≠ ((.slice Ao107 t879.length co107) : Value).ownBlock ∧ some k_ ≠ ((.slice Ao108 t882.length co108) : Value).ownBlock) (.slice Ao41 t849.length co41) t869) ∧ Aside0 (Kd.R (Kd.int .i64) 3 wc w.heap.size (fun k_ => some k_ ≠ ((.slice Ao24 t829.length co24) : Value).ownBlock ∧ some k_ ≠ ((.slice Ao25 t832.length co25) : Value).ownBlock ∧ some k_ ≠ ((.slice Ao32 t864.length co32) : Value).ownBlock ∧ some k_ ≠ ((.slice Ao33 t865.length co33) : Value).ownBlock ∧ some k_ ≠ ((.slice Ao40 t846.length co40) : Value).ownBlock ∧ some k_ ≠ ((.slice Ao41 t849.length co41) : Value).ownBlock ∧ some k_ ≠ ((.slice Ao108 t882.length co108) : Value).ownBlock) (.slice Ao107 t879.length co107) t879) ∧ Aside0 (Kd.R (Kd.int .i64) 3 wc w.heap.size (fun k_ => some k_ ≠ ((.slice Ao24 t829.length co24) : Value).ownBlock ∧ some k_ ≠ ((.slice Ao25 t832.length co25) : Value).ownBlock ∧ some k_ ≠ ((.slice Ao32 t864.length co32) : Value).ownBlock ∧ some k_ ≠ ((.slice Ao33 t865.length co33) : Value).ownBlock ∧ some k_ ≠ ((.slice Ao40 t846.length co40) : Value).ownBlock ∧ some k_ ≠ ((.slice Ao41 t849.length co41) : Value).ownBlock ∧ some k_ ≠ ((.slice Ao107 t879.length co107) : Value).ownBlock) (.slice Ao108 t882.length co108) t882) ∧ Aside0 (wc.heap[gb819]? = some (.cells #[.int .i64 a0_0, (.slice A0_1 l0_1.length c0_1), (.slice A0_2 l0_2.length c0_2)] 43 (0, 0))) ∧ Aside0 (wc.heap[gb836]? = some (.cells #[.int .i64 t828, (.slice Ao24 t829.length co24), (.slice Ao25 t832.length co25)] 46 (0, 0))) ∧ Aside0 (wc.heap[gb844]? = some (.cells #[.int .i64 t837, (.slice Ao32 t864.length co32), (.slice Ao33 t865.length co33)] 46 (0, 0))) ∧ Aside0 (wc.heap[gb853]? = some (.cells #[.int .i64 t845, (.slice Ao40 t846.length co40), (.slice Ao41 t849.length co41)] 46 (0, 0))) ∧ Aside0 (wc.heap[gb886]? = some (.cells #[.int .i64 t878, (.slice Ao107 t879.length co107), (.slice Ao108 t882.length co108)] 46 (0, 0))) ∧ Aside0 (Below w.heap.size w wc))
           case first =>
            have H := HC86.out
            clear HC86
            replace H := Option.bind_eq_some_iff.mp H
            obtain ⟨t887, A1090, H⟩ := H
            replace H : (if t887 = true then (laws_FnExactQuitLatch.j2 kj56 t867 (t885 != t835) t845 t868 t869) else (laws_FnExactQuitLatch.j2 kj56 t867 true t845 t868 t869)) = some r := H
            have A109 := am A1090
            clear A1090
            by_cases c110 : t887 = true
            ·subst c110
             replace H : (laws_FnExactQuitLatch.j2 kj56 t867 (t885 != t835) t845 t868 t869) = some r := by rw [if_pos rfl] at H; exact H
             have H' := am H
             clear H
             have hnb111 := NB886_819.out
             have hnc111 := NB819_886.out
             have hnb112 := NB886_836.out
             have hnc112 := NB836_886.out
             have hnb113 := NB886_844.out
             have hnc113 := NB844_886.out
             have hnb114 := NB886_853.out
             have hnc114 := NB853_886.out
             obtain ⟨hcz115_0, hcz115_1, hcz115_2, hfz115_0, hfz115_1, hfz115_2⟩ := bk3 BK886.out
             have hnb116 := NB836_819.out
             have hnc116 := NB819_836.out
             have hnb117 := NB836_844.out
             have hnc117 := NB844_836.out
             have hnb118 := NB836_853.out
             have hnc118 := NB853_836.out
             obtain ⟨hcz119_0, hcz119_1, hcz119_2, hfz119_0, hfz119_1, hfz119_2⟩ := bk3 BK836.out
             go_wp2_with (first | ((with_reducible refine gate_callee (f := 27) rfl ?_); refine goesL_ (some 86) rfl rfl Try.func27 (by kernel_rfl) rfl #[.agg #[.int .i64 t878, .slice Ao107 t879.length co107, .slice Ao108 t882.length co108], .agg #[.int .i64 t828, .slice Ao24 t829.length co24, .slice Ao25 t832.length co25]] rfl mpx ?_; (with_reducible refine (laws_eqLatch.calls kj56 t878 _ _ t879 _ _ t882 t828 _ _ t829 _ _ t832 true _ ?side1 ?side2 ?side3 ?side4 ?side5 ?side6 ?side7 ?side8 A109.out).mono ?_); (case side1 => refine (Kd.R_reads' (e := 3) (base := w.heap.size) (ok := fun k_ => ((((((((some k_ ≠ (.slice Ao108 t882.length co108 : Value).ownBlock ∧ some k_ ≠ (.slice Ao24 t829.length co24 : Value).ownBlock) ∧ some k_ ≠ (.slice Ao25 t832.length co25 : Value).ownBlock) ∧ some k_ ≠ (.slice Ao32 t864.length co32 : Value).ownBlock) ∧ some k_ ≠ (.slice Ao33 t865.length co33 : Value).ownBlock) ∧ some k_ ≠ (.slice Ao40 t846.length co40 : Value).ownBlock) ∧ some k_ ≠ (.slice Ao41 t849.length co41 : Value).ownBlock) ∧ some k_ ≠ (.slice Ao98 t872.length co98 : Value).ownBlock) ∧ some k_ ≠ (.slice Ao99 t875.length co99 : Value).ownBlock)) (n := t879.length) (c := co107) ?_).2.2; exact (by (with_reducible repeat (first | apply Kd.R_alloc | apply Kd.R_drewN | apply Kd.R_drew)); exact (Kd.R_mono (Kd.R_far (p := ⟨gb886, 2, none⟩) (Kd.R_far (p := ⟨gb886, 1, none⟩) (Kd.R_far (p := ⟨gb886, 0, none⟩) (Kd.R_types HO881.out BK886.out (by decide)) (fun _ hk => hk.2) (.int .i64 t878)) (fun _ hk => hk.2) (.slice Ao107 t879.length co107)) (fun _ hk => hk.2) (.slice Ao108 t882.length co108)) (fun _ h_ => h_.1)))); (case side2 => exact (Kd.R_reads' HO881.out).2.1); (case side3 => refine (Kd.R_reads' (e := 3) (base := w.heap.size) (ok := fun k_ => ((((((((some k_ ≠ (.slice Ao107 t879.length co107 : Value).ownBlock ∧ some k_ ≠ (.slice Ao24 t829.length co24 : Value).ownBlock) ∧ some k_ ≠ (.slice Ao25 t832.length co25 : Value).ownBlock) ∧ some k_ ≠ (.slice Ao32 t864.length co32 : Value).ownBlock) ∧ some k_ ≠ (.slice Ao33 t865.length co33 : Value).ownBlock) ∧ some k_ ≠ (.slice Ao40 t846.length co40 : Value).ownBlock) ∧ some k_ ≠ (.slice Ao41 t849.length co41 : Value).ownBlock) ∧ some k_ ≠ (.slice Ao98 t872.length co98 : Value).ownBlock) ∧ some k_ ≠ (.slice Ao99 t875.length co99 : Value).ownBlock)) (n := t882.length) (c := co108) ?_).2.2; exact (by (with_reducible repeat (first | apply Kd.R_alloc | apply Kd.R_drewN | apply Kd.R_drew)); exact (Kd.R_mono (Kd.R_far (p := ⟨gb886, 2, none⟩) (Kd.R_far (p := ⟨gb886, 1, none⟩) (Kd.R_far (p := ⟨gb886, 0, none⟩) (Kd.R_types HO884.out BK886.out (by decide)) (fun _ hk => hk.2) (.int .i64 t878)) (fun _ hk => hk.2) (.slice Ao107 t879.length co107)) (fun _ hk => hk.2) (.slice Ao108 t882.length co108)) (fun _ h_ => h_.1)))); (case side4 => exact (Kd.R_reads' HO884.out).2.1); (case side5 => refine (Kd.R_reads' (e := 3) (base := w.heap.size) (ok := fun k_ => (((((some k_ ≠ (.slice Ao25 t832.length co25 : Value).ownBlock ∧ (some k_ ≠ (.slice Ao32 t864.length co32 : Value).ownBlock ∧ (some k_ ≠ (.slice Ao33 t865.length co33 : Value).ownBlock ∧ (some k_ ≠ (.slice Ao40 t846.length co40 : Value).ownBlock ∧ some k_ ≠ (.slice Ao41 t849.length co41 : Value).ownBlock)))) ∧ some k_ ≠ (.slice Ao98 t872.length co98 : Value).ownBlock) ∧ some k_ ≠ (.slice Ao99 t875.length co99 : Value).ownBlock) ∧ some k_ ≠ (.slice Ao107 t879.length co107 : Value).ownBlock) ∧ some k_ ≠ (.slice Ao108 t882.length co108 : Value).ownBlock)) (n := t829.length) (c := co24) ?_).2.2; exact (by (with_reducible repeat (first | apply Kd.R_alloc | apply Kd.R_drewN | apply Kd.R_drew)); exact (Kd.R_mono (Kd.R_far (p := ⟨gb886, 2, none⟩) (Kd.R_far (p := ⟨gb886, 1, none⟩) (Kd.R_far (p := ⟨gb886, 0, none⟩) (Kd.R_types HO_837001.out BK886.out (by decide)) (fun _ hk => hk.2) (.int .i64 t878)) (fun _ hk => hk.2) (.slice Ao107 t879.length co107)) (fun _ hk => hk.2) (.slice Ao108 t882.length co108)) (fun _ h_ => h_.1)))); (case side6 => exact (Kd.R_reads' HO_837001.out).2.1); (case side7 => refine (Kd.R_reads' (e := 3) (base := w.heap.size) (ok := fun k_ => (((((some k_ ≠ (.slice Ao24 t829.length co24 : Value).ownBlock ∧ (some k_ ≠ (.slice Ao32 t864.length co32 : Value).ownBlock ∧ (some k_ ≠ (.slice Ao33 t865.length co33 : Value).ownBlock ∧ (some k_ ≠ (.slice Ao40 t846.length co40 : Value).ownBlock ∧ some k_ ≠ (.slice Ao41 t849.length co41 : Value).ownBlock)))) ∧ some k_ ≠ (.slice Ao98 t872.length co98 : Value).ownBlock) ∧ some k_ ≠ (.slice Ao99 t875.length co99 : Value).ownBlock) ∧ some k_ ≠ (.slice Ao107 t879.length co107 : Value).ownBlock) ∧ some k_ ≠ (.slice Ao108 t882.length co108 : Value).ownBlock)) (n := t832.length) (c := co25) ?_).2.2; exact (by (with_reducible repeat (first | apply Kd.R_alloc | apply Kd.R_drewN | apply Kd.R_drew)); exact (Kd.R_mono (Kd.R_far (p := ⟨gb886, 2, none⟩) (Kd.R_far (p := ⟨gb886, 1, none⟩) (Kd.R_far (p := ⟨gb886, 0, none⟩) (Kd.R_types HO_837002.out BK886.out (by decide)) (fun _ hk => hk.2) (.int .i64 t878)) (fun _ hk => hk.2) (.slice Ao107 t879.length co107)) (fun _ hk => hk.2) (.slice Ao108 t882.length co108)) (fun _ h_ => h_.1)))); (case side8 => exact (Kd.R_reads' HO_837002.out).2.1); rintro e w120 ⟨rfl, hb⟩; refine ⟨_, rfl, ?_⟩; replace HO_837001 := am (Kd.R_below (by (with_reducible repeat (first | apply Kd.R_alloc | apply Kd.R_drewN | apply Kd.R_drew)); exact (Kd.R_mono (Kd.R_far (p := ⟨gb886, 2, none⟩) (Kd.R_far (p := ⟨gb886, 1, none⟩) (Kd.R_far (p := ⟨gb886, 0, none⟩) (Kd.R_types HO_837001.out BK886.out (by decide)) (fun _ hk => hk.2) (.int .i64 t878)) (fun _ hk => hk.2) (.slice Ao107 t879.length co107)) (fun _ hk => hk.2) (.slice Ao108 t882.length co108)) (fun _ h_ => h_.1))) hb); replace HO_837002 := am (Kd.R_below (by (with_reducible repeat (first | apply Kd.R_alloc | apply Kd.R_drewN | apply Kd.R_drew)); exact (Kd.R_mono (Kd.R_far (p := ⟨gb886, 2, none⟩) (Kd.R_far (p := ⟨gb886, 1, none⟩) (Kd.R_far (p := ⟨gb886, 0, none⟩) (Kd.R_types HO_837002.out BK886.out (by decide)) (fun _ hk => hk.2) (.int .i64 t878)) (fun _ hk => hk.2) (.slice Ao107 t879.length co107)) (fun _ hk => hk.2) (.slice Ao108 t882.length co108)) (fun _ h_ => h_.1))) hb); replace HO_845001 := am (Kd.R_below (by (with_reducible repeat (first | apply Kd.R_alloc | apply Kd.R_drewN | apply Kd.R_drew)); exact (Kd.R_mono (Kd.R_far (p := ⟨gb886, 2, none⟩) (Kd.R_far (p := ⟨gb886, 1, none⟩) (Kd.R_far (p := ⟨gb886, 0, none⟩) (Kd.R_types HO_845001.out BK886.out (by decide)) (fun _ hk => hk.2) (.int .i64 t878)) (fun _ hk => hk.2) (.slice Ao107 t879.length co107)) (fun _ hk => hk.2) (.slice Ao108 t882.length co108)) (fun _ h_ => h_.1))) hb); replace HO_845002 := am (Kd.R_below (by (with_reducible repeat (first | apply Kd.R_alloc | apply Kd.R_drewN | apply Kd.R_drew)); exact (Kd.R_mono (Kd.R_far (p := ⟨gb886, 2, none⟩) (Kd.R_far (p := ⟨gb886, 1, none⟩) (Kd.R_far (p := ⟨gb886, 0, none⟩) (Kd.R_types HO_845002.out BK886.out (by decide)) (fun _ hk => hk.2) (.int .i64 t878)) (fun _ hk => hk.2) (.slice Ao107 t879.length co107)) (fun _ hk => hk.2) (.slice Ao108 t882.length co108)) (fun _ h_ => h_.1))) hb); replace HO_854001 := am (Kd.R_below (by (with_reducible repeat (first | apply Kd.R_alloc | apply Kd.R_drewN | apply Kd.R_drew)); exact (Kd.R_mono (Kd.R_far (p := ⟨gb886, 2, none⟩) (Kd.R_far (p := ⟨gb886, 1, none⟩) (Kd.R_far (p := ⟨gb886, 0, none⟩) (Kd.R_types HO_854001.out BK886.out (by decide)) (fun _ hk => hk.2) (.int .i64 t878)) (fun _ hk => hk.2) (.slice Ao107 t879.length co107)) (fun _ hk => hk.2) (.slice Ao108 t882.length co108)) (fun _ h_ => h_.1))) hb); replace HO_854002 := am (Kd.R_below (by (with_reducible repeat (first | apply Kd.R_alloc | apply Kd.R_drewN | apply Kd.R_drew)); exact (Kd.R_mono (Kd.R_far (p := ⟨gb886, 2, none⟩) (Kd.R_far (p := ⟨gb886, 1, none⟩) (Kd.R_far (p := ⟨gb886, 0, none⟩) (Kd.R_types HO_854002.out BK886.out (by decide)) (fun _ hk => hk.2) (.int .i64 t878)) (fun _ hk => hk.2) (.slice Ao107 t879.length co107)) (fun _ hk => hk.2) (.slice Ao108 t882.length co108)) (fun _ h_ => h_.1))) hb); replace HO874 := am (Kd.R_below (by (with_reducible repeat (first | apply Kd.R_alloc | apply Kd.R_drewN | apply Kd.R_drew)); exact (Kd.R_mono (Kd.R_far (p := ⟨gb886, 2, none⟩) (Kd.R_far (p := ⟨gb886, 1, none⟩) (Kd.R_far (p := ⟨gb886, 0, none⟩) (Kd.R_types HO874.out BK886.out (by decide)) (fun _ hk => hk.2) (.int .i64 t878)) (fun _ hk => hk.2) (.slice Ao107 t879.length co107)) (fun _ hk => hk.2) (.slice Ao108 t882.length co108)) (fun _ h_ => h_.1))) hb); replace HO877 := am (Kd.R_below (by (with_reducible repeat (first | apply Kd.R_alloc | apply Kd.R_drewN | apply Kd.R_drew)); exact (Kd.R_mono (Kd.R_far (p := ⟨gb886, 2, none⟩) (Kd.R_far (p := ⟨gb886, 1, none⟩) (Kd.R_far (p := ⟨gb886, 0, none⟩) (Kd.R_types HO877.out BK886.out (by decide)) (fun _ hk => hk.2) (.int .i64 t878)) (fun _ hk => hk.2) (.slice Ao107 t879.length co107)) (fun _ hk => hk.2) (.slice Ao108 t882.length co108)) (fun _ h_ => h_.1))) hb); replace HO881 := am (Kd.R_below (by (with_reducible repeat (first | apply Kd.R_alloc | apply Kd.R_drewN | apply Kd.R_drew)); exact (Kd.R_mono (Kd.R_far (p := ⟨gb886, 2, none⟩) (Kd.R_far (p := ⟨gb886, 1, none⟩) (Kd.R_far (p := ⟨gb886, 0, none⟩) (Kd.R_types HO881.out BK886.out (by decide)) (fun _ hk => hk.2) (.int .i64 t878)) (fun _ hk => hk.2) (.slice Ao107 t879.length co107)) (fun _ hk => hk.2) (.slice Ao108 t882.length co108)) (fun _ h_ => h_.1))) hb); replace HO884 := am (Kd.R_below (by (with_reducible repeat (first | apply Kd.R_alloc | apply Kd.R_drewN | apply Kd.R_drew)); exact (Kd.R_mono (Kd.R_far (p := ⟨gb886, 2, none⟩) (Kd.R_far (p := ⟨gb886, 1, none⟩) (Kd.R_far (p := ⟨gb886, 0, none⟩) (Kd.R_types HO884.out BK886.out (by decide)) (fun _ hk => hk.2) (.int .i64 t878)) (fun _ hk => hk.2) (.slice Ao107 t879.length co107)) (fun _ hk => hk.2) (.slice Ao108 t882.length co108)) (fun _ h_ => h_.1))) hb); replace BK819 := am (blk_below (g := gb819) (o := .cells #[.int .i64 a0_0, .slice A0_1 l0_1.length c0_1, .slice A0_2 l0_2.length c0_2] 43 (0, 0)) (by (with_reducible repeat (first | refine blk_drewN ?_ _ | refine blk_drew ?_ | refine blk_alloc ?_ _)); refine blk_far ?_ NB819_886.out _; (with_reducible repeat (first | refine blk_drewN ?_ _ | refine blk_drew ?_ | refine blk_alloc ?_ _)); refine blk_far ?_ NB819_886.out _; (with_reducible repeat (first | refine blk_drewN ?_ _ | refine blk_drew ?_ | refine blk_alloc ?_ _)); refine blk_far ?_ NB819_886.out _; exact pkK BK819.out) hb); replace BK836 := am (blk_below (g := gb836) (o := .cells #[.int .i64 t828, .slice Ao24 t829.length co24, .slice Ao25 t832.length co25] 46 (0, 0)) (by (with_reducible repeat (first | refine blk_drewN ?_ _ | refine blk_drew ?_ | refine blk_alloc ?_ _)); refine blk_far ?_ NB836_886.out _; (with_reducible repeat (first | refine blk_drewN ?_ _ | refine blk_drew ?_ | refine blk_alloc ?_ _)); refine blk_far ?_ NB836_886.out _; (with_reducible repeat (first | refine blk_drewN ?_ _ | refine blk_drew ?_ | refine blk_alloc ?_ _)); refine blk_far ?_ NB836_886.out _; exact pkK BK836.out) hb); replace BK844 := am (blk_below (g := gb844) (o := .cells #[.int .i64 t837, .slice Ao32 t864.length co32, .slice Ao33 t865.length co33] 46 (0, 0)) (by (with_reducible repeat (first | refine blk_drewN ?_ _ | refine blk_drew ?_ | refine blk_alloc ?_ _)); refine blk_far ?_ NB844_886.out _; (with_reducible repeat (first | refine blk_drewN ?_ _ | refine blk_drew ?_ | refine blk_alloc ?_ _)); refine blk_far ?_ NB844_886.out _; (with_reducible repeat (first | refine blk_drewN ?_ _ | refine blk_drew ?_ | refine blk_alloc ?_ _)); refine blk_far ?_ NB844_886.out _; exact pkK BK844.out) hb); replace BK853 := am (blk_below (g := gb853) (o := .cells #[.int .i64 t845, .slice Ao40 t846.length co40, .slice Ao41 t849.length co41] 46 (0, 0)) (by (with_reducible repeat (first | refine blk_drewN ?_ _ | refine blk_drew ?_ | refine blk_alloc ?_ _)); refine blk_far ?_ NB853_886.out _; (with_reducible repeat (first | refine blk_drewN ?_ _ | refine blk_drew ?_ | refine blk_alloc ?_ _)); refine blk_far ?_ NB853_886.out _; (with_reducible repeat (first | refine blk_drewN ?_ _ | refine blk_drew ?_ | refine blk_alloc ?_ _)); refine blk_far ?_ NB853_886.out _; exact pkK BK853.out) hb); replace BK886 := am (blk_below (g := gb886) (o := .cells #[.int .i64 t878, .slice Ao107 t879.length co107, .slice Ao108 t882.length co108] 46 (0, 0)) (by (with_reducible repeat (first | refine blk_drewN ?_ _ | refine blk_drew ?_ | refine blk_alloc ?_ _)); refine blk_put (cs := #[.int .i64 t878, .slice Ao107 t879.length co107, .slice none 0 0]) ?_ 2 _ rfl; (with_reducible repeat (first | refine blk_drewN ?_ _ | refine blk_drew ?_ | refine blk_alloc ?_ _)); refine blk_put (cs := #[.int .i64 t878, .slice none 0 0, .slice none 0 0]) ?_ 1 _ rfl; (with_reducible repeat (first | refine blk_drewN ?_ _ | refine blk_drew ?_ | refine blk_alloc ?_ _)); refine blk_put (cs := #[.int .i64 0, .slice none 0 0, .slice none 0 0]) ?_ 0 _ rfl; exact pkK BK886.out) hb); replace HB := am (below_step (pkW HB.out) hb); (try clear hb)))
             go_meet
             case rel => exact ⟨_, ((t885 != t835)), rfx, H', ⟨by have := HJ11.out; have := HJ56.out; first | omega | exact Nat.le_refl _⟩, ⟨by (try simp only [hl845001_56]); (try simp only [hl845002_56]); (with_reducible repeat (first | apply Kd.R_alloc | apply Kd.R_drewN | apply Kd.R_drew)); exact Kd.R_mono HO_837001.out (fun _ hk => ⟨hk.1.1.1.1.1, ⟨hk.1.1.1.1.2.1, ⟨hk.1.1.1.1.2.2.1, ⟨hk.1.1.1.1.2.2.2.1, ⟨hk.1.1.1.1.2.2.2.2, ⟨hk.1.2, hk.2⟩⟩⟩⟩⟩⟩)⟩, ⟨by (try simp only [hl845001_56]); (try simp only [hl845002_56]); (with_reducible repeat (first | apply Kd.R_alloc | apply Kd.R_drewN | apply Kd.R_drew)); exact Kd.R_mono HO_837002.out (fun _ hk => ⟨hk.1.1.1.1.1, ⟨hk.1.1.1.1.2.1, ⟨hk.1.1.1.1.2.2.1, ⟨hk.1.1.1.1.2.2.2.1, ⟨hk.1.1.1.1.2.2.2.2, ⟨hk.1.2, hk.2⟩⟩⟩⟩⟩⟩)⟩, ⟨by (try simp only [hl845001_56]); (try simp only [hl845002_56]); (with_reducible repeat (first | apply Kd.R_alloc | apply Kd.R_drewN | apply Kd.R_drew)); exact Kd.R_mono HO_845001.out (fun _ hk => ⟨hk.1.1.1.1.1, ⟨hk.1.1.1.1.2.1, ⟨hk.1.1.1.1.2.2.1, ⟨hk.1.1.1.1.2.2.2.1, ⟨hk.1.1.1.1.2.2.2.2, ⟨hk.1.2, hk.2⟩⟩⟩⟩⟩⟩)⟩, ⟨by (try simp only [hl845001_56]); (try simp only [hl845002_56]); (with_reducible repeat (first | apply Kd.R_alloc | apply Kd.R_drewN | apply Kd.R_drew)); exact Kd.R_mono HO_845002.out (fun _ hk => ⟨hk.1.1.1.1.1, ⟨hk.1.1.1.1.2.1, ⟨hk.1.1.1.1.2.2.1, ⟨hk.1.1.1.1.2.2.2.1, ⟨hk.1.1.1.1.2.2.2.2, ⟨hk.1.2, hk.2⟩⟩⟩⟩⟩⟩)⟩, ⟨by (try simp only [hl845001_56]); (try simp only [hl845002_56]); (with_reducible repeat (first | apply Kd.R_alloc | apply Kd.R_drewN | apply Kd.R_drew)); exact Kd.R_mono HO_854001.out (fun _ hk => ⟨hk.1.1.1.1.1, ⟨hk.1.1.1.1.2.1, ⟨hk.1.1.1.1.2.2.1, ⟨hk.1.1.1.1.2.2.2.1, ⟨hk.1.1.1.1.2.2.2.2, ⟨hk.1.2, hk.2⟩⟩⟩⟩⟩⟩)⟩, ⟨by (try simp only [hl845001_56]); (try simp only [hl845002_56]); (with_reducible repeat (first | apply Kd.R_alloc | apply Kd.R_drewN | apply Kd.R_drew)); exact Kd.R_mono HO_854002.out (fun _ hk => ⟨hk.1.1.1.1.1, ⟨hk.1.1.1.1.2.1, ⟨hk.1.1.1.1.2.2.1, ⟨hk.1.1.1.1.2.2.2.1, ⟨hk.1.1.1.1.2.2.2.2, ⟨hk.1.2, hk.2⟩⟩⟩⟩⟩⟩)⟩, ⟨by (try simp only [hl845001_56]); (try simp only [hl845002_56]); (with_reducible repeat (first | apply Kd.R_alloc | apply Kd.R_drewN | apply Kd.R_drew)); exact Kd.R_mono HO881.out (fun _ hk => ⟨hk.1.1.1.1.1.1.1.2, ⟨hk.1.1.1.1.1.1.2, ⟨hk.1.1.1.1.1.2, ⟨hk.1.1.1.1.2, ⟨hk.1.1.1.2, ⟨hk.1.1.2, hk.1.1.1.1.1.1.1.1⟩⟩⟩⟩⟩⟩)⟩, ⟨by (try simp only [hl845001_56]); (try simp only [hl845002_56]); (with_reducible repeat (first | apply Kd.R_alloc | apply Kd.R_drewN | apply Kd.R_drew)); exact Kd.R_mono HO884.out (fun _ hk => ⟨hk.1.1.1.1.1.1.1.2, ⟨hk.1.1.1.1.1.1.2, ⟨hk.1.1.1.1.1.2, ⟨hk.1.1.1.1.2, ⟨hk.1.1.1.2, ⟨hk.1.1.2, hk.1.1.1.1.1.1.1.1⟩⟩⟩⟩⟩⟩)⟩, ⟨by (try simp only [hl845001_56]); (try simp only [hl845002_56]); exact pkK BK819.out⟩, ⟨by (try simp only [hl845001_56]); (try simp only [hl845002_56]); exact pkK BK836.out⟩, ⟨by (try simp only [hl845001_56]); (try simp only [hl845002_56]); exact pkK BK844.out⟩, ⟨by (try simp only [hl845001_56]); (try simp only [hl845002_56]); exact pkK BK853.out⟩, ⟨by (try simp only [hl845001_56]); (try simp only [hl845002_56]); exact pkK BK886.out⟩, ⟨pkW HB.out⟩⟩
            ·replace c110 := Bool.eq_false_iff.mpr c110
             subst c110
             replace H : (laws_FnExactQuitLatch.j2 kj56 t867 true t845 t868 t869) = some r := by rw [if_neg (show ¬ (false = true) by decide)] at H; exact H
             cases kj56 with
             | zero => exact absurd H (by simp [laws_FnExactQuitLatch.j2])
             | succ k_ => (simp only [laws_FnExactQuitLatch.j2, if_pos] at H; exact absurd (Option.some.inj H) (by rw [HQ_.out]; simp))
           case rest =>
            clear HC86
            try clear c1
            try clear c2
            try clear p2
            try clear c3
            try clear c4
            try clear c4b0
            try clear c5
            try clear c6
            try clear c7
            try clear c8
            try clear c9
            try clear c10
            try clear c11
            try clear c22
            try clear c23
            try clear c25
            try clear c27
            try clear c29
            try clear c30
            try clear c36
            try clear c37
            try clear c38
            try clear c40
            try clear c41
            try clear c43
            try clear c44
            try clear c45
            try clear c46
            try clear c48
            try clear c49
            try clear c52
            try clear c55
            try clear c63
            try clear c64
            try clear c65
            try clear c68
            try clear c68b0
            try clear c70
            try clear c71
            try clear c72
            try clear c73
            try clear c75
            try clear c76
            try clear c79
            try clear c82
            try clear c82b0
            try clear c83
            try clear c83b0
            try clear c83b1
            try clear c87
            try clear c88
            try clear c89
            try clear c94
            try clear c95
            try clear c102
            try clear c103
            try clear c104
            try clear c105
            try clear c110
            try clear c111
            try clear c112
            try clear c113
            try clear c114
            try clear c116
            try clear c117
            try clear c118
            try clear hcz106_0
            try clear hcz106_1
            try clear hcz106_2
            try clear hcz115_0
            try clear hcz115_1
            try clear hcz115_2
            try clear hcz119_0
            try clear hcz119_1
            try clear hcz119_2
            try clear hcz14_0
            try clear hcz14_1
            try clear hcz14_2
            try clear hcz16_0
            try clear hcz16_1
            try clear hcz16_2
            try clear hcz23_0
            try clear hcz23_1
            try clear hcz23_2
            try clear hcz26_0
            try clear hcz26_1
            try clear hcz26_2
            try clear hcz31_0
            try clear hcz31_1
            try clear hcz31_2
            try clear hcz39_0
            try clear hcz39_1
            try clear hcz39_2
            try clear hcz47_0
            try clear hcz47_1
            try clear hcz47_2
            try clear hcz50_0
            try clear hcz50_1
            try clear hcz50_2
            try clear hcz66_0
            try clear hcz66_1
            try clear hcz66_2
            try clear hcz6_0
            try clear hcz6_1
            try clear hcz6_2
            try clear hcz74_0
            try clear hcz74_1
            try clear hcz74_2
            try clear hcz77_0
            try clear hcz77_1
            try clear hcz77_2
            try clear hcz90_0
            try clear hcz90_1
            try clear hcz90_2
            try clear hcz92_0
            try clear hcz92_1
            try clear hcz92_2
            try clear hcz96_0
            try clear hcz96_1
            try clear hcz96_2
            try clear hfz106_0
            try clear hfz106_1
            try clear hfz106_2
            try clear hfz115_0
            try clear hfz115_1
            try clear hfz115_2
            try clear hfz119_0
            try clear hfz119_1
            try clear hfz119_2
            try clear hfz14_0
            try clear hfz14_1
            try clear hfz14_2
            try clear hfz16_0
            try clear hfz16_1
            try clear hfz16_2
            try clear hfz23_0
            try clear hfz23_1
            try clear hfz23_2
            try clear hfz26_0
            try clear hfz26_1
            try clear hfz26_2
            try clear hfz31_0
            try clear hfz31_1
            try clear hfz31_2
            try clear hfz39_0
            try clear hfz39_1
            try clear hfz39_2
            try clear hfz47_0
            try clear hfz47_1
            try clear hfz47_2
            try clear hfz50_0
            try clear hfz50_1
            try clear hfz50_2
            try clear hfz66_0
            try clear hfz66_1
            try clear hfz66_2
            try clear hfz6_0
            try clear hfz6_1
            try clear hfz6_2
            try clear hfz74_0
            try clear hfz74_1
            try clear hfz74_2
            try clear hfz77_0
            try clear hfz77_1
            try clear hfz77_2
            try clear hfz90_0
            try clear hfz90_1
            try clear hfz90_2
            try clear hfz92_0
            try clear hfz92_1
            try clear hfz92_2
            try clear hfz96_0
            try clear hfz96_1
            try clear hfz96_2
            try clear p2
            obtain ⟨kq, x92_85, rfl, HA, HJ85, HO_837001, HO_837002, HO_845001, HO_845002, HO_854001, HO_854002, HO_887001, HO_887002, BK819, BK836, BK844, BK853, BK886, HB⟩ := hcut
            have hl854001_85 := (Kd.R_reads' HO_854001.out).1
            rw [hl854001_85] at HO_854001
            (try simp only [hl854001_85])
            (try simp only [hl854001_85] at BK819)
            (try simp only [hl854001_85] at BK836)
            (try simp only [hl854001_85] at BK844)
            (try simp only [hl854001_85] at BK853)
            (try simp only [hl854001_85] at BK886)
            (try simp only [hl854001_85] at HO_837001)
            (try simp only [hl854001_85] at HO_837002)
            (try simp only [hl854001_85] at HO_845001)
            (try simp only [hl854001_85] at HO_845002)
            (try simp only [hl854001_85] at HO_854002)
            (try simp only [hl854001_85] at HO_887001)
            (try simp only [hl854001_85] at HO_887002)
            have hl854002_85 := (Kd.R_reads' HO_854002.out).1
            rw [hl854002_85] at HO_854002
            (try simp only [hl854002_85])
            (try simp only [hl854002_85] at BK819)
            (try simp only [hl854002_85] at BK836)
            (try simp only [hl854002_85] at BK844)
            (try simp only [hl854002_85] at BK853)
            (try simp only [hl854002_85] at BK886)
            (try simp only [hl854002_85] at HO_837001)
            (try simp only [hl854002_85] at HO_837002)
            (try simp only [hl854002_85] at HO_845001)
            (try simp only [hl854002_85] at HO_845002)
            (try simp only [hl854002_85] at HO_854001)
            (try simp only [hl854002_85] at HO_887001)
            (try simp only [hl854002_85] at HO_887002)
            cases kq with
            | zero => exact absurd HA.out (by simp [laws_FnExactQuitLatch.j2])
            | succ kj85 =>
             have H := HA.out
             clear HA
             simp only [laws_FnExactQuitLatch.j2] at H
             by_cases c121 : x92_85 = true
             ·subst c121
              replace H : (some false) = some r := by rw [if_pos rfl] at H; exact H
              exact absurd (Option.some.inj H) (by rw [HQ_.out]; simp)
             ·replace c121 := Bool.eq_false_iff.mpr c121
              subst c121
              replace H : ((laws_heldLatch.f kj85 t845 t868 t869 1).bind fun t888 => (if t888 < 0 then (some false) else (if t888 = t867 then (some true) else (some false)))) = some r := by rw [if_neg (show ¬ (false = true) by decide)] at H; exact H
              replace H := Option.bind_eq_some_iff.mp H
              obtain ⟨t888, A1220, H⟩ := H
              replace H : (if t888 < 0 then (some false) else (if t888 = t867 then (some true) else (some false))) = some r := H
              have A122 := am A1220
              clear A1220
              by_cases c123 : t888 < 0
              ·rw [if_pos c123] at H
               have c123b0 : decide (t888 < 0) = true := decide_eq_true c123
               clear c123
               exact absurd (Option.some.inj H) (by rw [HQ_.out]; simp)
              ·rw [if_neg c123] at H
               have c123b0 : decide (t888 < 0) = false := decide_eq_false c123
               clear c123
               by_cases c124 : t888 = t867
               ·rw [if_pos c124] at H
                have c124b0 : (t888 == t867) = true := beq_iff_eq.mpr c124
                have c124b1 : (t888 != t867) = false := bne_eq_false_iff_eq.mpr c124
                clear c124
                obtain rfl := Option.some.inj H
                have hnb125 := NB853_819.out
                have hnc125 := NB819_853.out
                have hnb126 := NB853_836.out
                have hnc126 := NB836_853.out
                have hnb127 := NB853_844.out
                have hnc127 := NB844_853.out
                have hnb128 := NB853_886.out
                have hnc128 := NB886_853.out
                obtain ⟨hcz129_0, hcz129_1, hcz129_2, hfz129_0, hfz129_1, hfz129_2⟩ := bk3 BK853.out
                go_wp2_with (first | ((with_reducible refine gate_callee (f := 37) rfl ?_); refine goesL_ (some 95) rfl rfl Try.func37 (by kernel_rfl) rfl #[.agg #[.int .i64 t845, .slice Ao40 t868.length co40, .slice Ao41 t869.length co41], .int .i64 1] rfl mpx ?_; (with_reducible refine (laws_heldLatch.calls kj85 t845 _ _ t868 _ _ t869 1 t888 _ ?side1 ?side2 ?side3 ?side4 A122.out).mono ?_); (case side1 => exact pkC (Kd.R_reads' HO_854001.out).2.2); (case side2 => exact (Kd.R_reads' HO_854001.out).2.1); (case side3 => exact pkC (Kd.R_reads' HO_854002.out).2.2); (case side4 => exact (Kd.R_reads' HO_854002.out).2.1); rintro e w130 ⟨rfl, hb⟩; refine ⟨_, rfl, ?_⟩; replace HO_837001 := am (Kd.R_below (pkR HO_837001.out) hb); replace HO_837002 := am (Kd.R_below (pkR HO_837002.out) hb); replace HO_845001 := am (Kd.R_below (pkR HO_845001.out) hb); replace HO_845002 := am (Kd.R_below (pkR HO_845002.out) hb); replace HO_854001 := am (Kd.R_below (pkR HO_854001.out) hb); replace HO_854002 := am (Kd.R_below (pkR HO_854002.out) hb); replace HO_887001 := am (Kd.R_below (pkR HO_887001.out) hb); replace HO_887002 := am (Kd.R_below (pkR HO_887002.out) hb); replace BK819 := am (blk_below (pkK BK819.out) hb); replace BK836 := am (blk_below (pkK BK836.out) hb); replace BK844 := am (blk_below (pkK BK844.out) hb); replace BK853 := am (blk_below (pkK BK853.out) hb); replace BK886 := am (blk_below (pkK BK886.out) hb); replace HB := am (below_step (pkW HB.out) hb); (try clear hb)))
                go_ret
                exact ⟨rfe, pkW HB.out⟩
               ·rw [if_neg c124] at H
                have c124b0 : (t888 == t867) = false := beq_eq_false_iff_ne.mpr c124
                have c124b1 : (t888 != t867) = true := bne_iff_ne.mpr c124
                exact absurd (Option.some.inj H) (by rw [HQ_.out]; simp)
          ·rw [if_neg c83] at H
           have c83b0 : (t870 == t867) = false := beq_eq_false_iff_ne.mpr c83
           have c83b1 : (t870 != t867) = true := bne_iff_ne.mpr c83
           exact absurd (Option.some.inj H) (by rw [HQ_.out]; simp)
     ·replace c55 := Bool.eq_false_iff.mpr c55
      subst c55
      replace H : (some false) = some r := by rw [if_neg (show ¬ (false = true) by decide)] at H; exact H
      exact absurd (Option.some.inj H) (by rw [HQ_.out]; simp)
end Go.Proofs.Ytffcphplnilokaa.Z
