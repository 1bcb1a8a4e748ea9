/- The Go functions laws_FnExactLook as Lean functions, each with a proof that its code comes to just these answers; conditions: those of each theorem. -/
import Derived.Test.YtffcphplnilokaaZx0
import Derived.Test.YtffcphplnilokaaZx15
import Derived.Test.YtffcphplnilokaaZx28
import Derived.Test.YtffcphplnilokaaZx29
import Derived.Test.YtffcphplnilokaaZx34
namespace Go.Proofs.Ytffcphplnilokaa.Z
open Go.RowKit Go.Proofs.YtffcphplnilokaaW.PrintWords Go.Proofs.YtffcphplnilokaaW.PrintLast Go.Proofs.YtffcphplnilokaaW.PrintMore
attribute [local go_sem] max2_int min2_int max_two min_two max_three min_three max_four min_four   -- for this text's walks alone
set_option linter.unusedVariables false
set_option linter.unusedSimpArgs false
def laws_FnExactLook.j0 : Nat → Bool → Int → Int → ByteArray → Int → Bool → List Int → List Int → Int → Int → ByteArray → Int → Bool → List Int → List Int → Option (Bool)
 | 0, _, _, _, _, _, _, _, _, _, _, _, _, _, _, _ => none
 | k + 1, x44, x720000, x720001, x720002, x720003, x720004, x720005, x720006, x750000, x750001, x750002, x750003, x750004, x750005, x750006 => if x44 = true then (some false) else ((laws_toCell.f k x720000 x720001 x720002 x720003 x720004 x720005 x720006).bind fun bt757 => ((laws_eqCell.f k x750000 x750001 x750002 x750003 x750004 x750005 x750006 bt757.1 bt757.2.1 bt757.2.2.1 bt757.2.2.2.1 bt757.2.2.2.2.1 bt757.2.2.2.2.2.1 bt757.2.2.2.2.2.2).bind fun t768 => (if t768 = true then (some true) else (some false))))
def laws_FnExactLook.f (k : Nat) (a0_0 : Int) (a0_1 : Int) (a0_2 : ByteArray) (a0_3 : Int) (a0_4 : Bool) (l0_5 : List Int) (l0_6 : List Int) : Option (Bool) := (laws_szCell.f a0_0 a0_1 a0_2 a0_3 a0_4 l0_5 l0_6 1048576).bind fun t720 => (if t720 < 0 then (some true) else ((laws_toCell.f k a0_0 a0_1 a0_2 a0_3 a0_4 l0_5 l0_6).bind fun bt721 => ((spec_Look.f k bt721.1 bt721.2.1 bt721.2.2.1 bt721.2.2.2.1 bt721.2.2.2.2.1 bt721.2.2.2.2.2.1 bt721.2.2.2.2.2.2).bind fun bt732 => ((laws_toCell.f k a0_0 a0_1 a0_2 a0_3 a0_4 l0_5 l0_6).bind fun bt738 => ((impl_Look.f k bt738.1 bt738.2.1 bt738.2.2.1 bt738.2.2.2.1 bt738.2.2.2.2.1 bt738.2.2.2.2.2.1 bt738.2.2.2.2.2.2).bind fun bt750 => ((laws_eqMsg.f bt750.1 bt750.2.1 bt750.2.2.1 bt732.1 bt732.2.1 bt732.2.2.1).bind fun t756 => (if t756 = true then (if bt750.2.2.2.1 = bt732.2.2.2.1 then (laws_FnExactLook.j0 k (bt750.2.2.2.2 != bt732.2.2.2.2) a0_0 a0_1 a0_2 a0_3 a0_4 l0_5 l0_6 bt738.1 bt738.2.1 bt738.2.2.1 bt738.2.2.2.1 bt738.2.2.2.2.1 bt738.2.2.2.2.2.1 bt738.2.2.2.2.2.2) else (laws_FnExactLook.j0 k true a0_0 a0_1 a0_2 a0_3 a0_4 l0_5 l0_6 bt738.1 bt738.2.1 bt738.2.2.1 bt738.2.2.2.1 bt738.2.2.2.2.1 bt738.2.2.2.2.2.1 bt738.2.2.2.2.2.2)) else (laws_FnExactLook.j0 k true a0_0 a0_1 a0_2 a0_3 a0_4 l0_5 l0_6 bt738.1 bt738.2.1 bt738.2.2.1 bt738.2.2.2.1 bt738.2.2.2.2.1 bt738.2.2.2.2.2.1 bt738.2.2.2.2.2.2))))))))
theorem laws_FnExactLook.mono_l : ∀ k, (∀ y0 y1 y2 y3 y4 y5 y6 y7 y8 y9 y10 y11 y12 y13 y14, LeO (laws_FnExactLook.j0 k y0 y1 y2 y3 y4 y5 y6 y7 y8 y9 y10 y11 y12 y13 y14) (laws_FnExactLook.j0 (k + 1) y0 y1 y2 y3 y4 y5 y6 y7 y8 y9 y10 y11 y12 y13 y14))
 | 0 => fun _ _ _ _ _ _ _ _ _ _ _ _ _ _ _ r h => by simp [laws_FnExactLook.j0] at h
 | k + 1 => by
  have ih0 := laws_FnExactLook.mono_l k
  ·intro y0 y1 y2 y3 y4 y5 y6 y7 y8 y9 y10 y11 y12 y13 y14
   unfold laws_FnExactLook.j0
   repeat' first
   | (with_reducible exact ih0 _ _ _ _ _ _ _ _ _ _ _ _ _ _ _)
   | (with_reducible exact impl_Look.mono _ _ _ _ _ _ _ _)
   | (with_reducible exact laws_eqCell.mono _ _ _ _ _ _ _ _ _ _ _ _ _ _ _)
   | (with_reducible exact laws_toCell.mono _ _ _ _ _ _ _ _)
   | (with_reducible exact spec_Look.mono _ _ _ _ _ _ _ _)
   | (with_reducible exact LeO.refl _)
   | (with_reducible exact LeO.none _)
   | (with_reducible refine LeO.ite ?_ ?_)
   | (with_reducible refine LeO.bind ?_ (fun _ => ?_))
theorem laws_FnExactLook.mono : ∀ a0 a1 a2 a3 a4 a5 a6 k, LeO (laws_FnExactLook.f k a0 a1 a2 a3 a4 a5 a6) (laws_FnExactLook.f (k + 1) a0 a1 a2 a3 a4 a5 a6) := by
 intro a0 a1 a2 a3 a4 a5 a6 k
 have ih0 := laws_FnExactLook.mono_l k
 unfold laws_FnExactLook.f
 repeat' first
   | (with_reducible exact ih0 _ _ _ _ _ _ _ _ _ _ _ _ _ _ _)
   | (with_reducible exact impl_Look.mono _ _ _ _ _ _ _ _)
   | (with_reducible exact laws_eqCell.mono _ _ _ _ _ _ _ _ _ _ _ _ _ _ _)
   | (with_reducible exact laws_toCell.mono _ _ _ _ _ _ _ _)
   | (with_reducible exact spec_Look.mono _ _ _ _ _ _ _ _)
   | (with_reducible exact LeO.refl _)
   | (with_reducible exact LeO.none _)
   | (with_reducible refine LeO.ite ?_ ?_)
   | (with_reducible refine LeO.bind ?_ (fun _ => ?_))
set_option maxHeartbeats 8000000 in
set_option maxRecDepth 100000 in
theorem laws_FnExactLook.calls (k : Nat) (a0_0 : Int) (a0_1 : Int) (a0_2 : ByteArray) (a0_3 : Int) (a0_4 : Bool) (A0_5 : Option Addr) (c0_5 : Nat) (l0_5 : List Int) (A0_6 : Option Addr) (c0_6 : Nat) (l0_6 : List Int) (r : Bool) (w : World) (hr0_5 : Kd.C (Kd.int .i64) w A0_5 l0_5.length l0_5) (hc0_5 : l0_5.length ≤ c0_5) (hr0_6 : Kd.C (Kd.int .i64) w A0_6 l0_6.length l0_6) (hc0_6 : l0_6.length ≤ c0_6) (HQ_ : Aside0 (r = true)) (h : laws_FnExactLook.f k a0_0 a0_1 a0_2 a0_3 a0_4 l0_5 l0_6 = some r) :
  Calls Try.prog 8 #[.agg #[.int .i64 a0_0, .int .i64 a0_1, .string a0_2, .int .i64 a0_3, .bool a0_4, .slice A0_5 l0_5.length c0_5, .slice A0_6 l0_6.length c0_6]] w fun e w' => e = .returned (.bool r) ∧ Below w.heap.size w w' := by
 have hu56 := Try.underlying56
 have hu25 := Try.underlying25
 have hu29 := Try.underlying29
 have HR0_5 := am hr0_5
 have HC0_5 := am hc0_5
 clear hr0_5 hc0_5
 have HR0_6 := am hr0_6
 have HC0_6 := am hc0_6
 clear hr0_6 hc0_6
 have HB := am (Below.refl w.heap.size w)
 have H : ((laws_szCell.f a0_0 a0_1 a0_2 a0_3 a0_4 l0_5 l0_6 1048576).bind fun t720 => (if t720 < 0 then (some true) else ((laws_toCell.f k a0_0 a0_1 a0_2 a0_3 a0_4 l0_5 l0_6).bind fun bt721 => ((spec_Look.f k bt721.1 bt721.2.1 bt721.2.2.1 bt721.2.2.2.1 bt721.2.2.2.2.1 bt721.2.2.2.2.2.1 bt721.2.2.2.2.2.2).bind fun bt732 => ((laws_toCell.f k a0_0 a0_1 a0_2 a0_3 a0_4 l0_5 l0_6).bind fun bt738 => ((impl_Look.f k bt738.1 bt738.2.1 bt738.2.2.1 bt738.2.2.2.1 bt738.2.2.2.2.1 bt738.2.2.2.2.2.1 bt738.2.2.2.2.2.2).bind fun bt750 => ((laws_eqMsg.f bt750.1 bt750.2.1 bt750.2.2.1 bt732.1 bt732.2.1 bt732.2.2.1).bind fun t756 => (if t756 = true then (if bt750.2.2.2.1 = bt732.2.2.2.1 then (laws_FnExactLook.j0 k (bt750.2.2.2.2 != bt732.2.2.2.2) a0_0 a0_1 a0_2 a0_3 a0_4 l0_5 l0_6 bt738.1 bt738.2.1 bt738.2.2.1 bt738.2.2.2.1 bt738.2.2.2.2.1 bt738.2.2.2.2.2.1 bt738.2.2.2.2.2.2) else (laws_FnExactLook.j0 k true a0_0 a0_1 a0_2 a0_3 a0_4 l0_5 l0_6 bt738.1 bt738.2.1 bt738.2.2.1 bt738.2.2.2.1 bt738.2.2.2.2.1 bt738.2.2.2.2.2.1 bt738.2.2.2.2.2.2)) else (laws_FnExactLook.j0 k true a0_0 a0_1 a0_2 a0_3 a0_4 l0_5 l0_6 bt738.1 bt738.2.1 bt738.2.2.1 bt738.2.2.2.1 bt738.2.2.2.2.1 bt738.2.2.2.2.2.1 bt738.2.2.2.2.2.2))))))))) = some r := h
 clear h
 replace H := Option.bind_eq_some_iff.mp H
 obtain ⟨t720, A20, H⟩ := H
 replace H : (if t720 < 0 then (some true) else ((laws_toCell.f k a0_0 a0_1 a0_2 a0_3 a0_4 l0_5 l0_6).bind fun bt721 => ((spec_Look.f k bt721.1 bt721.2.1 bt721.2.2.1 bt721.2.2.2.1 bt721.2.2.2.2.1 bt721.2.2.2.2.2.1 bt721.2.2.2.2.2.2).bind fun bt732 => ((laws_toCell.f k a0_0 a0_1 a0_2 a0_3 a0_4 l0_5 l0_6).bind fun bt738 => ((impl_Look.f k bt738.1 bt738.2.1 bt738.2.2.1 bt738.2.2.2.1 bt738.2.2.2.2.1 bt738.2.2.2.2.2.1 bt738.2.2.2.2.2.2).bind fun bt750 => ((laws_eqMsg.f bt750.1 bt750.2.1 bt750.2.2.1 bt732.1 bt732.2.1 bt732.2.2.1).bind fun t756 => (if t756 = true then (if bt750.2.2.2.1 = bt732.2.2.2.1 then (laws_FnExactLook.j0 k (bt750.2.2.2.2 != bt732.2.2.2.2) a0_0 a0_1 a0_2 a0_3 a0_4 l0_5 l0_6 bt738.1 bt738.2.1 bt738.2.2.1 bt738.2.2.2.1 bt738.2.2.2.2.1 bt738.2.2.2.2.2.1 bt738.2.2.2.2.2.2) else (laws_FnExactLook.j0 k true a0_0 a0_1 a0_2 a0_3 a0_4 l0_5 l0_6 bt738.1 bt738.2.1 bt738.2.2.1 bt738.2.2.2.1 bt738.2.2.2.2.1 bt738.2.2.2.2.2.1 bt738.2.2.2.2.2.2)) else (laws_FnExactLook.j0 k true a0_0 a0_1 a0_2 a0_3 a0_4 l0_5 l0_6 bt738.1 bt738.2.1 bt738.2.2.1 bt738.2.2.2.1 bt738.2.2.2.2.1 bt738.2.2.2.2.2.1 bt738.2.2.2.2.2.2)))))))) = some r := H
 have A2 := am A20
 clear A20
 by_cases c3 : t720 < 0
 ·rw [if_pos c3] at H
  have c3b0 : decide (t720 < 0) = true := decide_eq_true c3
  clear c3
  obtain rfl := Option.some.inj H
  go_enter Try.func8, Try.ntmps8
  go_wp2_with (first | ((with_reducible refine gate_dst (N := 1) rfl ?_); refine box_event ?hg (N := 1) ?hd (cs := #[.int .i64 a0_0, .int .i64 a0_1, .string a0_2, .int .i64 a0_3, .bool a0_4, .slice A0_5 l0_5.length c0_5, .slice A0_6 l0_6.length c0_6]) (t := 56) ?hr ?_; (case hd => rfl); (case hg => rfl); (case hr => first | (go_simp; done) | (go_simp; rfl)); intro gb719 hg w4 hbox hb; have BK719 := am (hbox); have GW719 := am ((by rw [hg]; exact (below_size (pkB HB.out)) : w.heap.size ≤ gb719)); have GE719 := am ((by rw [hg]; exact (below_size (pkB HB.out)) : w.heap.size ≤ gb719)); replace HB := am (below_step (pkB HB.out) hb); clear hb hbox hg; obtain ⟨hcz5_0, hcz5_1, hcz5_2, hcz5_3, hcz5_4, hcz5_5, hcz5_6, hfz5_0, hfz5_1, hfz5_2, hfz5_3, hfz5_4, hfz5_5, hfz5_6⟩ := bk7 BK719.out) | ((with_reducible refine gate_callee (f := 31) rfl ?_); refine goesL_ (some 13) rfl rfl Try.func31 (by kernel_rfl) rfl #[.agg #[.int .i64 a0_0, .int .i64 a0_1, .string a0_2, .int .i64 a0_3, .bool a0_4, .slice A0_5 l0_5.length c0_5, .slice A0_6 l0_6.length c0_6], .int .i64 1048576] rfl mpx ?_; (with_reducible refine (laws_szCell.calls a0_0 a0_1 a0_2 a0_3 a0_4 _ _ l0_5 _ _ l0_6 1048576 t720 _ ?side1 ?side2 ?side3 ?side4 A2.out).mono ?_); (case side1 => exact pkC (Kd.C_below HR0_5.out HB.out)); (case side2 => exact HC0_5.out); (case side3 => exact pkC (Kd.C_below HR0_6.out HB.out)); (case side4 => exact HC0_6.out); rintro e w6 ⟨rfl, hb⟩; refine ⟨_, rfl, ?_⟩; replace BK719 := am (blk_below (pkK BK719.out) hb); replace HB := am (below_step (pkW HB.out) hb); (try clear hb)))
  go_ret
  exact ⟨rfe, pkW HB.out⟩
 ·rw [if_neg c3] at H
  have c3b0 : decide (t720 < 0) = false := decide_eq_false c3
  clear c3
  replace H := Option.bind_eq_some_iff.mp H
  obtain ⟨⟨t721, t722, t723, t724, t725, t726, t729⟩, A70, H⟩ := H
  replace H : ((spec_Look.f k t721 t722 t723 t724 t725 t726 t729).bind fun bt732 => ((laws_toCell.f k a0_0 a0_1 a0_2 a0_3 a0_4 l0_5 l0_6).bind fun bt738 => ((impl_Look.f k bt738.1 bt738.2.1 bt738.2.2.1 bt738.2.2.2.1 bt738.2.2.2.2.1 bt738.2.2.2.2.2.1 bt738.2.2.2.2.2.2).bind fun bt750 => ((laws_eqMsg.f bt750.1 bt750.2.1 bt750.2.2.1 bt732.1 bt732.2.1 bt732.2.2.1).bind fun t756 => (if t756 = true then (if bt750.2.2.2.1 = bt732.2.2.2.1 then (laws_FnExactLook.j0 k (bt750.2.2.2.2 != bt732.2.2.2.2) a0_0 a0_1 a0_2 a0_3 a0_4 l0_5 l0_6 bt738.1 bt738.2.1 bt738.2.2.1 bt738.2.2.2.1 bt738.2.2.2.2.1 bt738.2.2.2.2.2.1 bt738.2.2.2.2.2.2) else (laws_FnExactLook.j0 k true a0_0 a0_1 a0_2 a0_3 a0_4 l0_5 l0_6 bt738.1 bt738.2.1 bt738.2.2.1 bt738.2.2.2.1 bt738.2.2.2.2.1 bt738.2.2.2.2.2.1 bt738.2.2.2.2.2.2)) else (laws_FnExactLook.j0 k true a0_0 a0_1 a0_2 a0_3 a0_4 l0_5 l0_6 bt738.1 bt738.2.1 bt738.2.2.1 bt738.2.2.2.1 bt738.2.2.2.2.1 bt738.2.2.2.2.2.1 bt738.2.2.2.2.2.2)))))) = some r := H
  have A7 := am A70
  clear A70
  replace H := Option.bind_eq_some_iff.mp H
  obtain ⟨⟨t732, t733, t734, t735, t736⟩, A80, H⟩ := H
  replace H : ((laws_toCell.f k a0_0 a0_1 a0_2 a0_3 a0_4 l0_5 l0_6).bind fun bt738 => ((impl_Look.f k bt738.1 bt738.2.1 bt738.2.2.1 bt738.2.2.2.1 bt738.2.2.2.2.1 bt738.2.2.2.2.2.1 bt738.2.2.2.2.2.2).bind fun bt750 => ((laws_eqMsg.f bt750.1 bt750.2.1 bt750.2.2.1 t732 t733 t734).bind fun t756 => (if t756 = true then (if bt750.2.2.2.1 = t735 then (laws_FnExactLook.j0 k (bt750.2.2.2.2 != t736) a0_0 a0_1 a0_2 a0_3 a0_4 l0_5 l0_6 bt738.1 bt738.2.1 bt738.2.2.1 bt738.2.2.2.1 bt738.2.2.2.2.1 bt738.2.2.2.2.2.1 bt738.2.2.2.2.2.2) else (laws_FnExactLook.j0 k true a0_0 a0_1 a0_2 a0_3 a0_4 l0_5 l0_6 bt738.1 bt738.2.1 bt738.2.2.1 bt738.2.2.2.1 bt738.2.2.2.2.1 bt738.2.2.2.2.2.1 bt738.2.2.2.2.2.2)) else (laws_FnExactLook.j0 k true a0_0 a0_1 a0_2 a0_3 a0_4 l0_5 l0_6 bt738.1 bt738.2.1 bt738.2.2.1 bt738.2.2.2.1 bt738.2.2.2.2.1 bt738.2.2.2.2.2.1 bt738.2.2.2.2.2.2))))) = some r := H
  have A8 := am A80
  clear A80
  replace H := Option.bind_eq_some_iff.mp H
  obtain ⟨⟨t738, t739, t740, t741, t742, t743, t746⟩, A90, H⟩ := H
  replace H : ((impl_Look.f k t738 t739 t740 t741 t742 t743 t746).bind fun bt750 => ((laws_eqMsg.f bt750.1 bt750.2.1 bt750.2.2.1 t732 t733 t734).bind fun t756 => (if t756 = true then (if bt750.2.2.2.1 = t735 then (laws_FnExactLook.j0 k (bt750.2.2.2.2 != t736) a0_0 a0_1 a0_2 a0_3 a0_4 l0_5 l0_6 t738 t739 t740 t741 t742 t743 t746) else (laws_FnExactLook.j0 k true a0_0 a0_1 a0_2 a0_3 a0_4 l0_5 l0_6 t738 t739 t740 t741 t742 t743 t746)) else (laws_FnExactLook.j0 k true a0_0 a0_1 a0_2 a0_3 a0_4 l0_5 l0_6 t738 t739 t740 t741 t742 t743 t746)))) = some r := H
  have A9 := am A90
  clear A90
  replace H := Option.bind_eq_some_iff.mp H
  obtain ⟨⟨t750, t751, t752, t753, t754⟩, A100, H⟩ := H
  replace H : ((laws_eqMsg.f t750 t751 t752 t732 t733 t734).bind fun t756 => (if t756 = true then (if t753 = t735 then (laws_FnExactLook.j0 k (t754 != t736) a0_0 a0_1 a0_2 a0_3 a0_4 l0_5 l0_6 t738 t739 t740 t741 t742 t743 t746) else (laws_FnExactLook.j0 k true a0_0 a0_1 a0_2 a0_3 a0_4 l0_5 l0_6 t738 t739 t740 t741 t742 t743 t746)) else (laws_FnExactLook.j0 k true a0_0 a0_1 a0_2 a0_3 a0_4 l0_5 l0_6 t738 t739 t740 t741 t742 t743 t746))) = some r := H
  have A10 := am A100
  clear A100
  have HC11 := am H
  clear H
  go_enter Try.func8, Try.ntmps8
  go_upto_region 8 with (first | ((with_reducible refine gate_dst (N := 1) rfl ?_); refine box_event ?hg (N := 1) ?hd (cs := #[.int .i64 a0_0, .int .i64 a0_1, .string a0_2, .int .i64 a0_3, .bool a0_4, .slice A0_5 l0_5.length c0_5, .slice A0_6 l0_6.length c0_6]) (t := 56) ?hr ?_; (case hd => rfl); (case hg => rfl); (case hr => first | (go_simp; done) | (go_simp; rfl)); intro gb719 hg w12 hbox hb; have BK719 := am (hbox); have GW719 := am ((by rw [hg]; exact (below_size (pkB HB.out)) : w.heap.size ≤ gb719)); have GE719 := am ((by rw [hg]; exact (below_size (pkB HB.out)) : w.heap.size ≤ gb719)); replace HB := am (below_step (pkB HB.out) hb); clear hb hbox hg; obtain ⟨hcz13_0, hcz13_1, hcz13_2, hcz13_3, hcz13_4, hcz13_5, hcz13_6, hfz13_0, hfz13_1, hfz13_2, hfz13_3, hfz13_4, hfz13_5, hfz13_6⟩ := bk7 BK719.out) | ((with_reducible refine gate_callee (f := 31) rfl ?_); refine goesL_ (some 13) rfl rfl Try.func31 (by kernel_rfl) rfl #[.agg #[.int .i64 a0_0, .int .i64 a0_1, .string a0_2, .int .i64 a0_3, .bool a0_4, .slice A0_5 l0_5.length c0_5, .slice A0_6 l0_6.length c0_6], .int .i64 1048576] rfl mpx ?_; (with_reducible refine (laws_szCell.calls a0_0 a0_1 a0_2 a0_3 a0_4 _ _ l0_5 _ _ l0_6 1048576 t720 _ ?side1 ?side2 ?side3 ?side4 A2.out).mono ?_); (case side1 => exact pkC (Kd.C_below HR0_5.out HB.out)); (case side2 => exact HC0_5.out); (case side3 => exact pkC (Kd.C_below HR0_6.out HB.out)); (case side4 => exact HC0_6.out); rintro e w14 ⟨rfl, hb⟩; refine ⟨_, rfl, ?_⟩; replace BK719 := am (blk_below (pkK BK719.out) hb); replace HB := am (below_step (pkW HB.out) hb); (try clear hb); obtain ⟨hcz15_0, hcz15_1, hcz15_2, hcz15_3, hcz15_4, hcz15_5, hcz15_6, hfz15_0, hfz15_1, hfz15_2, hfz15_3, hfz15_4, hfz15_5, hfz15_6⟩ := bk7 BK719.out) | ((with_reducible refine gate_callee (f := 32) rfl ?_); refine goesL_ (some 18) rfl rfl Try.func32 (by kernel_rfl) rfl #[.agg #[.int .i64 a0_0, .int .i64 a0_1, .string a0_2, .int .i64 a0_3, .bool a0_4, .slice A0_5 l0_5.length c0_5, .slice A0_6 l0_6.length c0_6]] rfl mpx ?_; (with_reducible refine (laws_toCell.calls k a0_0 a0_1 a0_2 a0_3 a0_4 _ _ l0_5 _ _ l0_6 t721 t722 t723 t724 t725 t726 t729 _ ?side1 ?side2 ?side3 ?side4 A7.out).mono ?_); (case side1 => exact pkC (Kd.C_below HR0_5.out HB.out)); (case side2 => exact HC0_5.out); (case side3 => exact pkC (Kd.C_below HR0_6.out HB.out)); (case side4 => exact HC0_6.out); rintro e w16 ⟨v727, v730, rfl, ho0, ho1, hb⟩; refine ⟨_, rfl, ?_⟩; have HO728 := am (Kd.R_lower ho0 (below_size (pkW HB.out))); have HO731 := am (Kd.R_lower ho1 (below_size (pkW HB.out))); replace BK719 := am (blk_below (pkK BK719.out) hb); replace HB := am (below_step (pkW HB.out) hb); (try clear hb ho0 ho1); obtain ⟨Ao17, co17, eo17⟩ := Kd.R_slice HO728.out; subst eo17; obtain ⟨Ao18, co18, eo18⟩ := Kd.R_slice HO731.out; subst eo18) | ((with_reducible refine gate_callee (f := 38) rfl ?_); refine goesL_ (some 19) rfl rfl Try.func38 (by kernel_rfl) rfl #[.agg #[.int .i64 t721, .int .i64 t722, .string t723, .int .i64 t724, .bool t725, .slice Ao17 t726.length co17, .slice Ao18 t729.length co18]] rfl mpx ?_; (with_reducible refine (spec_Look.calls k t721 t722 t723 t724 t725 _ _ t726 _ _ t729 t732 t733 t734 t735 t736 _ ?side1 ?side2 ?side3 ?side4 A8.out).mono ?_); (case side1 => exact pkC (Kd.R_reads' HO728.out).2.2); (case side2 => exact (Kd.R_reads' HO728.out).2.1); (case side3 => exact pkC (Kd.R_reads' HO731.out).2.2); (case side4 => exact (Kd.R_reads' HO731.out).2.1); rintro e w19 ⟨rfl, hb⟩; refine ⟨_, rfl, ?_⟩; replace HO728 := am (Kd.R_below (pkR HO728.out) hb); replace HO731 := am (Kd.R_below (pkR HO731.out) hb); replace BK719 := am (blk_below (pkK BK719.out) hb); replace HB := am (below_step (pkW HB.out) hb); (try clear hb)) | ((with_reducible refine gate_dst (N := 4) rfl ?_); refine box_event ?hg (N := 4) ?hd (cs := #[.int .i64 0, .int .i64 0, .string (⟨#[]⟩ : ByteArray)]) (t := 25) ?hr ?_; (case hd => rfl); (case hg => rfl); (case hr => first | (go_simp; done) | (go_simp; rfl)); intro gb737 hg w20 hbox hb; replace HO728 := am (Kd.R_below (pkR HO728.out) hb); replace HO731 := am (Kd.R_below (pkR HO731.out) hb); have BK737 := am (hbox); have GW737 := am ((by rw [hg]; exact (below_size (pkW HB.out)) : w.heap.size ≤ gb737)); have GE737 := am ((by rw [hg]; exact (below_size (pkW HB.out)) : w.heap.size ≤ gb737)); replace HB := am (below_step (pkW HB.out) hb); have NB719_737 := am ((by rw [hg]; exact Nat.ne_of_lt (blk_lt (g := gb719) (o := .cells #[.int .i64 a0_0, .int .i64 a0_1, .string a0_2, .int .i64 a0_3, .bool a0_4, .slice A0_5 l0_5.length c0_5, .slice A0_6 l0_6.length c0_6] 56 (0, 0)) (pkK BK719.out)) : gb719 ≠ gb737)); have NB737_719 := am ((by rw [hg]; exact Nat.ne_of_gt (blk_lt (g := gb719) (o := .cells #[.int .i64 a0_0, .int .i64 a0_1, .string a0_2, .int .i64 a0_3, .bool a0_4, .slice A0_5 l0_5.length c0_5, .slice A0_6 l0_6.length c0_6] 56 (0, 0)) (pkK BK719.out)) : gb737 ≠ gb719)); replace BK719 := am (blk_below (pkK BK719.out) hb); clear hb hbox hg; have hnb21 := NB737_719.out; have hnc21 := NB719_737.out; obtain ⟨hcz22_0, hcz22_1, hcz22_2, hfz22_0, hfz22_1, hfz22_2⟩ := bk3 BK737.out; obtain ⟨hcz23_0, hcz23_1, hcz23_2, hcz23_3, hcz23_4, hcz23_5, hcz23_6, hfz23_0, hfz23_1, hfz23_2, hfz23_3, hfz23_4, hfz23_5, hfz23_6⟩ := bk7 BK719.out) | ((with_reducible refine gate_callee (f := 32) rfl ?_); refine goesL_ (some 24) rfl rfl Try.func32 (by kernel_rfl) rfl #[.agg #[.int .i64 a0_0, .int .i64 a0_1, .string a0_2, .int .i64 a0_3, .bool a0_4, .slice A0_5 l0_5.length c0_5, .slice A0_6 l0_6.length c0_6]] rfl mpx ?_; (with_reducible refine (laws_toCell.calls k a0_0 a0_1 a0_2 a0_3 a0_4 _ _ l0_5 _ _ l0_6 t738 t739 t740 t741 t742 t743 t746 _ ?side1 ?side2 ?side3 ?side4 A9.out).mono ?_); (case side1 => exact Kd.C_below HR0_5.out (pkW HB.out)); (case side2 => exact HC0_5.out); (case side3 => exact Kd.C_below HR0_6.out (pkW HB.out)); (case side4 => exact HC0_6.out); rintro e w24 ⟨v744, v747, rfl, ho0, ho1, hb⟩; refine ⟨_, rfl, ?_⟩; have HO745 := am (Kd.R_lower (Kd.R_new' (Kd.R_new' ho0 (Kd.R_lt (by (with_reducible repeat (first | apply Kd.R_alloc | apply Kd.R_drewN | apply Kd.R_drew)); exact (Kd.R_mono (Kd.R_far (p := ⟨gb737, 2, none⟩) (Kd.R_far (p := ⟨gb737, 1, none⟩) (Kd.R_far (p := ⟨gb737, 0, none⟩) (Kd.R_types HO728.out BK737.out (by decide)) (fun _ hk => hk.2) (.int .i64 t732)) (fun _ hk => hk.2) (.int .i64 t733)) (fun _ hk => hk.2) (.string t734)) (fun _ h_ => h_.1))))) (Kd.R_lt (by (with_reducible repeat (first | apply Kd.R_alloc | apply Kd.R_drewN | apply Kd.R_drew)); exact (Kd.R_mono (Kd.R_far (p := ⟨gb737, 2, none⟩) (Kd.R_far (p := ⟨gb737, 1, none⟩) (Kd.R_far (p := ⟨gb737, 0, none⟩) (Kd.R_types HO731.out BK737.out (by decide)) (fun _ hk => hk.2) (.int .i64 t732)) (fun _ hk => hk.2) (.int .i64 t733)) (fun _ hk => hk.2) (.string t734)) (fun _ h_ => h_.1))))) (below_size (pkW HB.out))); have HO748 := am (Kd.R_lower (Kd.R_new' (Kd.R_new' ho1 (Kd.R_lt (by (with_reducible repeat (first | apply Kd.R_alloc | apply Kd.R_drewN | apply Kd.R_drew)); exact (Kd.R_mono (Kd.R_far (p := ⟨gb737, 2, none⟩) (Kd.R_far (p := ⟨gb737, 1, none⟩) (Kd.R_far (p := ⟨gb737, 0, none⟩) (Kd.R_types HO728.out BK737.out (by decide)) (fun _ hk => hk.2) (.int .i64 t732)) (fun _ hk => hk.2) (.int .i64 t733)) (fun _ hk => hk.2) (.string t734)) (fun _ h_ => h_.1))))) (Kd.R_lt (by (with_reducible repeat (first | apply Kd.R_alloc | apply Kd.R_drewN | apply Kd.R_drew)); exact (Kd.R_mono (Kd.R_far (p := ⟨gb737, 2, none⟩) (Kd.R_far (p := ⟨gb737, 1, none⟩) (Kd.R_far (p := ⟨gb737, 0, none⟩) (Kd.R_types HO731.out BK737.out (by decide)) (fun _ hk => hk.2) (.int .i64 t732)) (fun _ hk => hk.2) (.int .i64 t733)) (fun _ hk => hk.2) (.string t734)) (fun _ h_ => h_.1))))) (below_size (pkW HB.out))); replace HO728 := am (Kd.R_mono (Kd.R_told (Kd.R_told (Kd.R_old (by (with_reducible repeat (first | apply Kd.R_alloc | apply Kd.R_drewN | apply Kd.R_drew)); exact (Kd.R_mono (Kd.R_far (p := ⟨gb737, 2, none⟩) (Kd.R_far (p := ⟨gb737, 1, none⟩) (Kd.R_far (p := ⟨gb737, 0, none⟩) (Kd.R_types HO728.out BK737.out (by decide)) (fun _ hk => hk.2) (.int .i64 t732)) (fun _ hk => hk.2) (.int .i64 t733)) (fun _ hk => hk.2) (.string t734)) (fun _ h_ => h_.1))) hb) (Kd.R_base ho0)) (Kd.R_base ho1)) (fun _ h_ => h_.1)); replace HO731 := am (Kd.R_mono (Kd.R_told (Kd.R_told (Kd.R_old (by (with_reducible repeat (first | apply Kd.R_alloc | apply Kd.R_drewN | apply Kd.R_drew)); exact (Kd.R_mono (Kd.R_far (p := ⟨gb737, 2, none⟩) (Kd.R_far (p := ⟨gb737, 1, none⟩) (Kd.R_far (p := ⟨gb737, 0, none⟩) (Kd.R_types HO731.out BK737.out (by decide)) (fun _ hk => hk.2) (.int .i64 t732)) (fun _ hk => hk.2) (.int .i64 t733)) (fun _ hk => hk.2) (.string t734)) (fun _ h_ => h_.1))) hb) (Kd.R_base ho0)) (Kd.R_base ho1)) (fun _ h_ => h_.1)); replace BK719 := am (blk_below (g := gb719) (o := .cells #[.int .i64 a0_0, .int .i64 a0_1, .string a0_2, .int .i64 a0_3, .bool a0_4, .slice A0_5 l0_5.length c0_5, .slice A0_6 l0_6.length c0_6] 56 (0, 0)) (by (with_reducible repeat (first | refine blk_drewN ?_ _ | refine blk_drew ?_ | refine blk_alloc ?_ _)); refine blk_far ?_ NB719_737.out _; (with_reducible repeat (first | refine blk_drewN ?_ _ | refine blk_drew ?_ | refine blk_alloc ?_ _)); refine blk_far ?_ NB719_737.out _; (with_reducible repeat (first | refine blk_drewN ?_ _ | refine blk_drew ?_ | refine blk_alloc ?_ _)); refine blk_far ?_ NB719_737.out _; exact pkK BK719.out) hb); replace BK737 := am (blk_below (g := gb737) (o := .cells #[.int .i64 t732, .int .i64 t733, .string t734] 25 (0, 0)) (by (with_reducible repeat (first | refine blk_drewN ?_ _ | refine blk_drew ?_ | refine blk_alloc ?_ _)); refine blk_put (cs := #[.int .i64 t732, .int .i64 t733, .string (⟨#[]⟩ : ByteArray)]) ?_ 2 _ rfl; (with_reducible repeat (first | refine blk_drewN ?_ _ | refine blk_drew ?_ | refine blk_alloc ?_ _)); refine blk_put (cs := #[.int .i64 t732, .int .i64 0, .string (⟨#[]⟩ : ByteArray)]) ?_ 1 _ rfl; (with_reducible repeat (first | refine blk_drewN ?_ _ | refine blk_drew ?_ | refine blk_alloc ?_ _)); refine blk_put (cs := #[.int .i64 0, .int .i64 0, .string (⟨#[]⟩ : ByteArray)]) ?_ 0 _ rfl; exact pkK BK737.out) hb); replace HB := am (below_step (pkW HB.out) hb); (try clear hb ho0 ho1)) | ((with_reducible refine gate_dst (N := 7) rfl ?_); refine box_event ?hg (N := 7) ?hd (cs := #[.int .i64 0, .int .i64 0, .string (⟨#[]⟩ : ByteArray), .int .i64 0, .bool false, .slice none 0 0, .slice none 0 0]) (t := 29) ?hr ?_; (case hd => rfl); (case hg => rfl); (case hr => first | (go_simp; done) | (go_simp; rfl)); intro gb749 hg w25 hbox hb; replace HO728 := am (Kd.R_below (pkR HO728.out) hb); replace HO731 := am (Kd.R_below (pkR HO731.out) hb); replace HO745 := am (Kd.R_below (pkR HO745.out) hb); replace HO748 := am (Kd.R_below (pkR HO748.out) hb); have BK749 := am (hbox); have GW749 := am ((by rw [hg]; exact (below_size (pkW HB.out)) : w.heap.size ≤ gb749)); have GE749 := am ((by rw [hg]; exact (below_size (pkW HB.out)) : w.heap.size ≤ gb749)); replace HB := am (below_step (pkW HB.out) hb); have NB719_749 := am ((by rw [hg]; exact Nat.ne_of_lt (blk_lt (g := gb719) (o := .cells #[.int .i64 a0_0, .int .i64 a0_1, .string a0_2, .int .i64 a0_3, .bool a0_4, .slice A0_5 l0_5.length c0_5, .slice A0_6 l0_6.length c0_6] 56 (0, 0)) (pkK BK719.out)) : gb719 ≠ gb749)); have NB749_719 := am ((by rw [hg]; exact Nat.ne_of_gt (blk_lt (g := gb719) (o := .cells #[.int .i64 a0_0, .int .i64 a0_1, .string a0_2, .int .i64 a0_3, .bool a0_4, .slice A0_5 l0_5.length c0_5, .slice A0_6 l0_6.length c0_6] 56 (0, 0)) (pkK BK719.out)) : gb749 ≠ gb719)); replace BK719 := am (blk_below (pkK BK719.out) hb); have NB737_749 := am ((by rw [hg]; exact Nat.ne_of_lt (blk_lt (g := gb737) (o := .cells #[.int .i64 t732, .int .i64 t733, .string t734] 25 (0, 0)) (pkK BK737.out)) : gb737 ≠ gb749)); have NB749_737 := am ((by rw [hg]; exact Nat.ne_of_gt (blk_lt (g := gb737) (o := .cells #[.int .i64 t732, .int .i64 t733, .string t734] 25 (0, 0)) (pkK BK737.out)) : gb749 ≠ gb737)); replace BK737 := am (blk_below (pkK BK737.out) hb); clear hb hbox hg; have hnb26 := NB749_719.out; have hnc26 := NB719_749.out; have hnb27 := NB749_737.out; have hnc27 := NB737_749.out; obtain ⟨hcz28_0, hcz28_1, hcz28_2, hcz28_3, hcz28_4, hcz28_5, hcz28_6, hfz28_0, hfz28_1, hfz28_2, hfz28_3, hfz28_4, hfz28_5, hfz28_6⟩ := bk7 BK749.out; obtain ⟨Ao29, co29, eo29⟩ := Kd.R_slice HO745.out; subst eo29; obtain ⟨Ao30, co30, eo30⟩ := Kd.R_slice HO748.out; subst eo30) | ((with_reducible refine gate_callee (f := 21) rfl ?_); refine goesL_ (some 27) rfl rfl Try.func21 (by kernel_rfl) rfl #[.agg #[.int .i64 t738, .int .i64 t739, .string t740, .int .i64 t741, .bool t742, .slice Ao29 t743.length co29, .slice Ao30 t746.length co30]] rfl mpx ?_; (with_reducible refine (impl_Look.calls k t738 t739 t740 t741 t742 _ _ t743 _ _ t746 t750 t751 t752 t753 t754 _ ?side1 ?side2 ?side3 ?side4 A10.out).mono ?_); (case side1 => refine (Kd.R_reads' (e := 3) (base := w.heap.size) (ok := fun k_ => ((some k_ ≠ (.slice Ao30 t746.length co30 : Value).ownBlock ∧ some k_ ≠ (.slice Ao17 t726.length co17 : Value).ownBlock) ∧ some k_ ≠ (.slice Ao18 t729.length co18 : Value).ownBlock)) (n := t743.length) (c := co29) ?_).2.2; exact (by (with_reducible repeat (first | apply Kd.R_alloc | apply Kd.R_drewN | apply Kd.R_drew)); exact (Kd.R_mono (Kd.R_far (p := ⟨gb749, 6, none⟩) (Kd.R_far (p := ⟨gb749, 5, none⟩) (Kd.R_far (p := ⟨gb749, 4, none⟩) (Kd.R_far (p := ⟨gb749, 3, none⟩) (Kd.R_far (p := ⟨gb749, 2, none⟩) (Kd.R_far (p := ⟨gb749, 1, none⟩) (Kd.R_far (p := ⟨gb749, 0, none⟩) (Kd.R_types HO745.out BK749.out (by decide)) (fun _ hk => hk.2) (.int .i64 t738)) (fun _ hk => hk.2) (.int .i64 t739)) (fun _ hk => hk.2) (.string t740)) (fun _ hk => hk.2) (.int .i64 t741)) (fun _ hk => hk.2) (.bool t742)) (fun _ hk => hk.2) (.slice Ao29 t743.length co29)) (fun _ hk => hk.2) (.slice Ao30 t746.length co30)) (fun _ h_ => h_.1)))); (case side2 => exact (Kd.R_reads' HO745.out).2.1); (case side3 => refine (Kd.R_reads' (e := 3) (base := w.heap.size) (ok := fun k_ => ((some k_ ≠ (.slice Ao29 t743.length co29 : Value).ownBlock ∧ some k_ ≠ (.slice Ao17 t726.length co17 : Value).ownBlock) ∧ some k_ ≠ (.slice Ao18 t729.length co18 : Value).ownBlock)) (n := t746.length) (c := co30) ?_).2.2; exact (by (with_reducible repeat (first | apply Kd.R_alloc | apply Kd.R_drewN | apply Kd.R_drew)); exact (Kd.R_mono (Kd.R_far (p := ⟨gb749, 6, none⟩) (Kd.R_far (p := ⟨gb749, 5, none⟩) (Kd.R_far (p := ⟨gb749, 4, none⟩) (Kd.R_far (p := ⟨gb749, 3, none⟩) (Kd.R_far (p := ⟨gb749, 2, none⟩) (Kd.R_far (p := ⟨gb749, 1, none⟩) (Kd.R_far (p := ⟨gb749, 0, none⟩) (Kd.R_types HO748.out BK749.out (by decide)) (fun _ hk => hk.2) (.int .i64 t738)) (fun _ hk => hk.2) (.int .i64 t739)) (fun _ hk => hk.2) (.string t740)) (fun _ hk => hk.2) (.int .i64 t741)) (fun _ hk => hk.2) (.bool t742)) (fun _ hk => hk.2) (.slice Ao29 t743.length co29)) (fun _ hk => hk.2) (.slice Ao30 t746.length co30)) (fun _ h_ => h_.1)))); (case side4 => exact (Kd.R_reads' HO748.out).2.1); rintro e w31 ⟨rfl, hb⟩; refine ⟨_, rfl, ?_⟩; replace HO728 := am (Kd.R_below (by (with_reducible repeat (first | apply Kd.R_alloc | apply Kd.R_drewN | apply Kd.R_drew)); exact (Kd.R_mono (Kd.R_far (p := ⟨gb749, 6, none⟩) (Kd.R_far (p := ⟨gb749, 5, none⟩) (Kd.R_far (p := ⟨gb749, 4, none⟩) (Kd.R_far (p := ⟨gb749, 3, none⟩) (Kd.R_far (p := ⟨gb749, 2, none⟩) (Kd.R_far (p := ⟨gb749, 1, none⟩) (Kd.R_far (p := ⟨gb749, 0, none⟩) (Kd.R_types HO728.out BK749.out (by decide)) (fun _ hk => hk.2) (.int .i64 t738)) (fun _ hk => hk.2) (.int .i64 t739)) (fun _ hk => hk.2) (.string t740)) (fun _ hk => hk.2) (.int .i64 t741)) (fun _ hk => hk.2) (.bool t742)) (fun _ hk => hk.2) (.slice Ao29 t743.length co29)) (fun _ hk => hk.2) (.slice Ao30 t746.length co30)) (fun _ h_ => h_.1))) hb); replace HO731 := am (Kd.R_below (by (with_reducible repeat (first | apply Kd.R_alloc | apply Kd.R_drewN | apply Kd.R_drew)); exact (Kd.R_mono (Kd.R_far (p := ⟨gb749, 6, none⟩) (Kd.R_far (p := ⟨gb749, 5, none⟩) (Kd.R_far (p := ⟨gb749, 4, none⟩) (Kd.R_far (p := ⟨gb749, 3, none⟩) (Kd.R_far (p := ⟨gb749, 2, none⟩) (Kd.R_far (p := ⟨gb749, 1, none⟩) (Kd.R_far (p := ⟨gb749, 0, none⟩) (Kd.R_types HO731.out BK749.out (by decide)) (fun _ hk => hk.2) (.int .i64 t738)) (fun _ hk => hk.2) (.int .i64 t739)) (fun _ hk => hk.2) (.string t740)) (fun _ hk => hk.2) (.int .i64 t741)) (fun _ hk => hk.2) (.bool t742)) (fun _ hk => hk.2) (.slice Ao29 t743.length co29)) (fun _ hk => hk.2) (.slice Ao30 t746.length co30)) (fun _ h_ => h_.1))) hb); replace HO745 := am (Kd.R_below (by (with_reducible repeat (first | apply Kd.R_alloc | apply Kd.R_drewN | apply Kd.R_drew)); exact (Kd.R_mono (Kd.R_far (p := ⟨gb749, 6, none⟩) (Kd.R_far (p := ⟨gb749, 5, none⟩) (Kd.R_far (p := ⟨gb749, 4, none⟩) (Kd.R_far (p := ⟨gb749, 3, none⟩) (Kd.R_far (p := ⟨gb749, 2, none⟩) (Kd.R_far (p := ⟨gb749, 1, none⟩) (Kd.R_far (p := ⟨gb749, 0, none⟩) (Kd.R_types HO745.out BK749.out (by decide)) (fun _ hk => hk.2) (.int .i64 t738)) (fun _ hk => hk.2) (.int .i64 t739)) (fun _ hk => hk.2) (.string t740)) (fun _ hk => hk.2) (.int .i64 t741)) (fun _ hk => hk.2) (.bool t742)) (fun _ hk => hk.2) (.slice Ao29 t743.length co29)) (fun _ hk => hk.2) (.slice Ao30 t746.length co30)) (fun _ h_ => h_.1))) hb); replace HO748 := am (Kd.R_below (by (with_reducible repeat (first | apply Kd.R_alloc | apply Kd.R_drewN | apply Kd.R_drew)); exact (Kd.R_mono (Kd.R_far (p := ⟨gb749, 6, none⟩) (Kd.R_far (p := ⟨gb749, 5, none⟩) (Kd.R_far (p := ⟨gb749, 4, none⟩) (Kd.R_far (p := ⟨gb749, 3, none⟩) (Kd.R_far (p := ⟨gb749, 2, none⟩) (Kd.R_far (p := ⟨gb749, 1, none⟩) (Kd.R_far (p := ⟨gb749, 0, none⟩) (Kd.R_types HO748.out BK749.out (by decide)) (fun _ hk => hk.2) (.int .i64 t738)) (fun _ hk => hk.2) (.int .i64 t739)) (fun _ hk => hk.2) (.string t740)) (fun _ hk => hk.2) (.int .i64 t741)) (fun _ hk => hk.2) (.bool t742)) (fun _ hk => hk.2) (.slice Ao29 t743.length co29)) (fun _ hk => hk.2) (.slice Ao30 t746.length co30)) (fun _ h_ => h_.1))) hb); replace BK719 := am (blk_below (g := gb719) (o := .cells #[.int .i64 a0_0, .int .i64 a0_1, .string a0_2, .int .i64 a0_3, .bool a0_4, .slice A0_5 l0_5.length c0_5, .slice A0_6 l0_6.length c0_6] 56 (0, 0)) (by (with_reducible repeat (first | refine blk_drewN ?_ _ | refine blk_drew ?_ | refine blk_alloc ?_ _)); refine blk_far ?_ NB719_749.out _; (with_reducible repeat (first | refine blk_drewN ?_ _ | refine blk_drew ?_ | refine blk_alloc ?_ _)); refine blk_far ?_ NB719_749.out _; (with_reducible repeat (first | refine blk_drewN ?_ _ | refine blk_drew ?_ | refine blk_alloc ?_ _)); refine blk_far ?_ NB719_749.out _; (with_reducible repeat (first | refine blk_drewN ?_ _ | refine blk_drew ?_ | refine blk_alloc ?_ _)); refine blk_far ?_ NB719_749.out _; (with_reducible repeat (first | refine blk_drewN ?_ _ | refine blk_drew ?_ | refine blk_alloc ?_ _)); refine blk_far ?_ NB719_749.out _; (with_reducible repeat (first | refine blk_drewN ?_ _ | refine blk_drew ?_ | refine blk_alloc ?_ _)); refine blk_far ?_ NB719_749.out _; (with_reducible repeat (first | refine blk_drewN ?_ _ | refine blk_drew ?_ | refine blk_alloc ?_ _)); refine blk_far ?_ NB719_749.out _; exact pkK BK719.out) hb); replace BK737 := am (blk_below (g := gb737) (o := .cells #[.int .i64 t732, .int .i64 t733, .string t734] 25 (0, 0)) (by (with_reducible repeat (first | refine blk_drewN ?_ _ | refine blk_drew ?_ | refine blk_alloc ?_ _)); refine blk_far ?_ NB737_749.out _; (with_reducible repeat (first | refine blk_drewN ?_ _ | refine blk_drew ?_ | refine blk_alloc ?_ _)); refine blk_far ?_ NB737_749.out _; (with_reducible repeat (first | refine blk_drewN ?_ _ | refine blk_drew ?_ | refine blk_alloc ?_ _)); refine blk_far ?_ NB737_749.out _; (with_reducible repeat (first | refine blk_drewN ?_ _ | refine blk_drew ?_ | refine blk_alloc ?_ _)); refine blk_far ?_ NB737_749.out _; (with_reducible repeat (first | refine blk_drewN ?_ _ | refine blk_drew ?_ | refine blk_alloc ?_ _)); refine blk_far ?_ NB737_749.out _; (with_reducible repeat (first | refine blk_drewN ?_ _ | refine blk_drew ?_ | refine blk_alloc ?_ _)); refine blk_far ?_ NB737_749.out _; (with_reducible repeat (first | refine blk_drewN ?_ _ | refine blk_drew ?_ | refine blk_alloc ?_ _)); refine blk_far ?_ NB737_749.out _; exact pkK BK737.out) hb); replace BK749 := am (blk_below (g := gb749) (o := .cells #[.int .i64 t738, .int .i64 t739, .string t740, .int .i64 t741, .bool t742, .slice Ao29 t743.length co29, .slice Ao30 t746.length co30] 29 (0, 0)) (by (with_reducible repeat (first | refine blk_drewN ?_ _ | refine blk_drew ?_ | refine blk_alloc ?_ _)); refine blk_put (cs := #[.int .i64 t738, .int .i64 t739, .string t740, .int .i64 t741, .bool t742, .slice Ao29 t743.length co29, .slice none 0 0]) ?_ 6 _ rfl; (with_reducible repeat (first | refine blk_drewN ?_ _ | refine blk_drew ?_ | refine blk_alloc ?_ _)); refine blk_put (cs := #[.int .i64 t738, .int .i64 t739, .string t740, .int .i64 t741, .bool t742, .slice none 0 0, .slice none 0 0]) ?_ 5 _ rfl; (with_reducible repeat (first | refine blk_drewN ?_ _ | refine blk_drew ?_ | refine blk_alloc ?_ _)); refine blk_put (cs := #[.int .i64 t738, .int .i64 t739, .string t740, .int .i64 t741, .bool false, .slice none 0 0, .slice none 0 0]) ?_ 4 _ rfl; (with_reducible repeat (first | refine blk_drewN ?_ _ | refine blk_drew ?_ | refine blk_alloc ?_ _)); refine blk_put (cs := #[.int .i64 t738, .int .i64 t739, .string t740, .int .i64 0, .bool false, .slice none 0 0, .slice none 0 0]) ?_ 3 _ rfl; (with_reducible repeat (first | refine blk_drewN ?_ _ | refine blk_drew ?_ | refine blk_alloc ?_ _)); refine blk_put (cs := #[.int .i64 t738, .int .i64 t739, .string (⟨#[]⟩ : ByteArray), .int .i64 0, .bool false, .slice none 0 0, .slice none 0 0]) ?_ 2 _ rfl; (with_reducible repeat (first | refine blk_drewN ?_ _ | refine blk_drew ?_ | refine blk_alloc ?_ _)); refine blk_put (cs := #[.int .i64 t738, .int .i64 0, .string (⟨#[]⟩ : ByteArray), .int .i64 0, .bool false, .slice none 0 0, .slice none 0 0]) ?_ 1 _ rfl; (with_reducible repeat (first | refine blk_drewN ?_ _ | refine blk_drew ?_ | refine blk_alloc ?_ _)); refine blk_put (cs := #[.int .i64 0, .int .i64 0, .string (⟨#[]⟩ : ByteArray), .int .i64 0, .bool false, .slice none 0 0, .slice none 0 0]) ?_ 0 _ rfl; exact pkK BK749.out) hb); replace HB := am (below_step (pkW HB.out) hb); (try clear hb)) | ((with_reducible refine gate_dst (N := 8) rfl ?_); refine box_event ?hg (N := 8) ?hd (cs := #[.int .i64 0, .int .i64 0, .string (⟨#[]⟩ : ByteArray)]) (t := 25) ?hr ?_; (case hd => rfl); (case hg => rfl); (case hr => first | (go_simp; done) | (go_simp; rfl)); intro gb755 hg w32 hbox hb; replace HO728 := am (Kd.R_below (pkR HO728.out) hb); replace HO731 := am (Kd.R_below (pkR HO731.out) hb); replace HO745 := am (Kd.R_below (pkR HO745.out) hb); replace HO748 := am (Kd.R_below (pkR HO748.out) hb); have BK755 := am (hbox); have GW755 := am ((by rw [hg]; exact (below_size (pkW HB.out)) : w.heap.size ≤ gb755)); have GE755 := am ((by rw [hg]; exact (below_size (pkW HB.out)) : w.heap.size ≤ gb755)); replace HB := am (below_step (pkW HB.out) hb); have NB719_755 := am ((by rw [hg]; exact Nat.ne_of_lt (blk_lt (g := gb719) (o := .cells #[.int .i64 a0_0, .int .i64 a0_1, .string a0_2, .int .i64 a0_3, .bool a0_4, .slice A0_5 l0_5.length c0_5, .slice A0_6 l0_6.length c0_6] 56 (0, 0)) (pkK BK719.out)) : gb719 ≠ gb755)); have NB755_719 := am ((by rw [hg]; exact Nat.ne_of_gt (blk_lt (g := gb719) (o := .cells #[.int .i64 a0_0, .int .i64 a0_1, .string a0_2, .int .i64 a0_3, .bool a0_4, .slice A0_5 l0_5.length c0_5, .slice A0_6 l0_6.length c0_6] 56 (0, 0)) (pkK BK719.out)) : gb755 ≠ gb719)); replace BK719 := am (blk_below (pkK BK719.out) hb); have NB737_755 := am ((by rw [hg]; exact Nat.ne_of_lt (blk_lt (g := gb737) (o := .cells #[.int .i64 t732, .int .i64 t733, .string t734] 25 (0, 0)) (pkK BK737.out)) : gb737 ≠ gb755)); have NB755_737 := am ((by rw [hg]; exact Nat.ne_of_gt (blk_lt (g := gb737) (o := .cells #[.int .i64 t732, .int .i64 t733, .string t734] 25 (0, 0)) (pkK BK737.out)) : gb755 ≠ gb737)); replace BK737 := am (blk_below (pkK BK737.out) hb); have NB749_755 := am ((by rw [hg]; exact Nat.ne_of_lt (blk_lt (g := gb749) (o := .cells #[.int .i64 t738, .int .i64 t739, .string t740, .int .i64 t741, .bool t742, .slice Ao29 t743.length co29, .slice Ao30 t746.length co30] 29 (0, 0)) (pkK BK749.out)) : gb749 ≠ gb755)); have NB755_749 := am ((by rw [hg]; exact Nat.ne_of_gt (blk_lt (g := gb749) (o := .cells #[.int .i64 t738, .int .i64 t739, .string t740, .int .i64 t741, .bool t742, .slice Ao29 t743.length co29, .slice Ao30 t746.length co30] 29 (0, 0)) (pkK BK749.out)) : gb755 ≠ gb749)); replace BK749 := am (blk_below (pkK BK749.out) hb); clear hb hbox hg; have hnb33 := NB755_719.out; have hnc33 := NB719_755.out; have hnb34 := NB755_737.out; have hnc34 := NB737_755.out; have hnb35 := NB755_749.out; have hnc35 := NB749_755.out; obtain ⟨hcz36_0, hcz36_1, hcz36_2, hfz36_0, hfz36_1, hfz36_2⟩ := bk3 BK755.out))
  (try simp only [Act.put, List.setIfInBounds_toArray, List.set_cons_zero, List.set_cons_succ])
  go_cut [44] (fun v44 wc => ∃ (kq : Nat) (x44_10 : Bool), v44 = .bool x44_10 ∧ Aside0 (laws_FnExactLook.j0 kq x44_10 a0_0 a0_1 a0_2 a0_3 a0_4 l0_5 l0_6 t738 t739 t740 t741 t742 t743 t746 = some r) ∧ Aside0 (kq ≤ k) ∧ Aside0 (Kd.R (Kd.int .i64) 3 wc w.heap.size (fun k_ => some k_ ≠ ((.slice Ao30 t746.length co30) : Value).ownBlock) (.slice Ao29 t743.length co29) t743) ∧ Aside0 (Kd.R (Kd.int .i64) 3 wc w.heap.size (fun k_ => some k_ ≠ ((.slice Ao29 t743.length co29) : Value).ownBlock) (.slice Ao30 t746.length co30) t746) ∧ Aside0 (wc.heap[gb719]? = some (.cells #[.int .i64 a0_0, .int .i64 a0_1, .string a0_2, .int .i64 a0_3, .bool a0_4, (.slice A0_5 l0_5.length c0_5), (.slice A0_6 l0_6.length c0_6)] 56 (0, 0))) ∧ Aside0 (wc.heap[gb737]? = some (.cells #[.int .i64 t732, .int .i64 t733, .string t734] 25 (0, 0))) ∧ Aside0 (wc.heap[gb749]? = some (.cells #[.int .i64 t738, .int .i64 t739, .string t740, .int .i64 t741, .bool t742, (.slice Ao29 t743.length co29), (.slice Ao30 t746.length co30)] 29 (0, 0))) ∧ Aside0 (wc.heap[gb755]? = some (.cells #[.int .i64 t750, .int .i64 t751, .string t752] 25 (0, 0))) ∧ Aside0 (Below w.heap.size w wc))
  case first =>
   have H := HC11.out
   clear HC11
   replace H := Option.bind_eq_some_iff.mp H
   obtain ⟨t756, A370, H⟩ := H
   replace H : (if t756 = true then (if t753 = t735 then (laws_FnExactLook.j0 k (t754 != t736) a0_0 a0_1 a0_2 a0_3 a0_4 l0_5 l0_6 t738 t739 t740 t741 t742 t743 t746) else (laws_FnExactLook.j0 k true a0_0 a0_1 a0_2 a0_3 a0_4 l0_5 l0_6 t738 t739 t740 t741 t742 t743 t746)) else (laws_FnExactLook.j0 k true a0_0 a0_1 a0_2 a0_3 a0_4 l0_5 l0_6 t738 t739 t740 t741 t742 t743 t746)) = some r := H
   have A37 := am A370
   clear A370
   by_cases c38 : t756 = true
   ·subst c38
    replace H : (if t753 = t735 then (laws_FnExactLook.j0 k (t754 != t736) a0_0 a0_1 a0_2 a0_3 a0_4 l0_5 l0_6 t738 t739 t740 t741 t742 t743 t746) else (laws_FnExactLook.j0 k true a0_0 a0_1 a0_2 a0_3 a0_4 l0_5 l0_6 t738 t739 t740 t741 t742 t743 t746)) = some r := by rw [if_pos rfl] at H; exact H
    by_cases c39 : t753 = t735
    ·rw [if_pos c39] at H
     have c39b0 : (t753 == t735) = true := beq_iff_eq.mpr c39
     have c39b1 : (t753 != t735) = false := bne_eq_false_iff_eq.mpr c39
     clear c39
     (first | rw [c39b0] | (simp only [i64_w, i32_w]; rw [c39b0]) | skip)
     have H' := am H
     clear H
     have hnb40 := NB755_719.out
     have hnc40 := NB719_755.out
     have hnb41 := NB755_737.out
     have hnc41 := NB737_755.out
     have hnb42 := NB755_749.out
     have hnc42 := NB749_755.out
     obtain ⟨hcz43_0, hcz43_1, hcz43_2, hfz43_0, hfz43_1, hfz43_2⟩ := bk3 BK755.out
     have hnb44 := NB737_719.out
     have hnc44 := NB719_737.out
     have hnb45 := NB737_749.out
     have hnc45 := NB749_737.out
     obtain ⟨hcz46_0, hcz46_1, hcz46_2, hfz46_0, hfz46_1, hfz46_2⟩ := bk3 BK737.out
     go_wp2_with (first | ((with_reducible refine gate_callee (f := 39) rfl ?_); refine goesL_ (some 33) rfl rfl Try.func39 (by kernel_rfl) rfl #[.agg #[.int .i64 t750, .int .i64 t751, .string t752], .agg #[.int .i64 t732, .int .i64 t733, .string t734]] rfl mpx ?_; (with_reducible refine (laws_eqMsg.calls t750 t751 t752 t732 t733 t734 true _ A37.out).mono ?_); rintro e w47 ⟨rfl, hb⟩; refine ⟨_, rfl, ?_⟩; replace HO728 := am (Kd.R_below (by (with_reducible repeat (first | apply Kd.R_alloc | apply Kd.R_drewN | apply Kd.R_drew)); exact (Kd.R_mono (Kd.R_far (p := ⟨gb755, 2, none⟩) (Kd.R_far (p := ⟨gb755, 1, none⟩) (Kd.R_far (p := ⟨gb755, 0, none⟩) (Kd.R_types HO728.out BK755.out (by decide)) (fun _ hk => hk.2) (.int .i64 t750)) (fun _ hk => hk.2) (.int .i64 t751)) (fun _ hk => hk.2) (.string t752)) (fun _ h_ => h_.1))) hb); replace HO731 := am (Kd.R_below (by (with_reducible repeat (first | apply Kd.R_alloc | apply Kd.R_drewN | apply Kd.R_drew)); exact (Kd.R_mono (Kd.R_far (p := ⟨gb755, 2, none⟩) (Kd.R_far (p := ⟨gb755, 1, none⟩) (Kd.R_far (p := ⟨gb755, 0, none⟩) (Kd.R_types HO731.out BK755.out (by decide)) (fun _ hk => hk.2) (.int .i64 t750)) (fun _ hk => hk.2) (.int .i64 t751)) (fun _ hk => hk.2) (.string t752)) (fun _ h_ => h_.1))) hb); replace HO745 := am (Kd.R_below (by (with_reducible repeat (first | apply Kd.R_alloc | apply Kd.R_drewN | apply Kd.R_drew)); exact (Kd.R_mono (Kd.R_far (p := ⟨gb755, 2, none⟩) (Kd.R_far (p := ⟨gb755, 1, none⟩) (Kd.R_far (p := ⟨gb755, 0, none⟩) (Kd.R_types HO745.out BK755.out (by decide)) (fun _ hk => hk.2) (.int .i64 t750)) (fun _ hk => hk.2) (.int .i64 t751)) (fun _ hk => hk.2) (.string t752)) (fun _ h_ => h_.1))) hb); replace HO748 := am (Kd.R_below (by (with_reducible repeat (first | apply Kd.R_alloc | apply Kd.R_drewN | apply Kd.R_drew)); exact (Kd.R_mono (Kd.R_far (p := ⟨gb755, 2, none⟩) (Kd.R_far (p := ⟨gb755, 1, none⟩) (Kd.R_far (p := ⟨gb755, 0, none⟩) (Kd.R_types HO748.out BK755.out (by decide)) (fun _ hk => hk.2) (.int .i64 t750)) (fun _ hk => hk.2) (.int .i64 t751)) (fun _ hk => hk.2) (.string t752)) (fun _ h_ => h_.1))) hb); replace BK719 := am (blk_below (g := gb719) (o := .cells #[.int .i64 a0_0, .int .i64 a0_1, .string a0_2, .int .i64 a0_3, .bool a0_4, .slice A0_5 l0_5.length c0_5, .slice A0_6 l0_6.length c0_6] 56 (0, 0)) (by (with_reducible repeat (first | refine blk_drewN ?_ _ | refine blk_drew ?_ | refine blk_alloc ?_ _)); refine blk_far ?_ NB719_755.out _; (with_reducible repeat (first | refine blk_drewN ?_ _ | refine blk_drew ?_ | refine blk_alloc ?_ _)); refine blk_far ?_ NB719_755.out _; (with_reducible repeat (first | refine blk_drewN ?_ _ | refine blk_drew ?_ | refine blk_alloc ?_ _)); refine blk_far ?_ NB719_755.out _; exact pkK BK719.out) hb); replace BK737 := am (blk_below (g := gb737) (o := .cells #[.int .i64 t732, .int .i64 t733, .string t734] 25 (0, 0)) (by (with_reducible repeat (first | refine blk_drewN ?_ _ | refine blk_drew ?_ | refine blk_alloc ?_ _)); refine blk_far ?_ NB737_755.out _; (with_reducible repeat (first | refine blk_drewN ?_ _ | refine blk_drew ?_ | refine blk_alloc ?_ _)); refine blk_far ?_ NB737_755.out _; (with_reducible repeat (first | refine blk_drewN ?_ _ | refine blk_drew ?_ | refine blk_alloc ?_ _)); refine blk_far ?_ NB737_755.out _; exact pkK BK737.out) hb); replace BK749 := am (blk_below (g := gb749) (o := .cells #[.int .i64 t738, .int .i64 t739, .string t740, .int .i64 t741, .bool t742, .slice Ao29 t743.length co29, .slice Ao30 t746.length co30] 29 (0, 0)) (by (with_reducible repeat (first | refine blk_drewN ?_ _ | refine blk_drew ?_ | refine blk_alloc ?_ _)); refine blk_far ?_ NB749_755.out _; (with_reducible repeat (first | refine blk_drewN ?_ _ | refine blk_drew ?_ | refine blk_alloc ?_ _)); refine blk_far ?_ NB749_755.out _; (with_reducible repeat (first | refine blk_drewN ?_ _ | refine blk_drew ?_ | refine blk_alloc ?_ _)); refine blk_far ?_ NB749_755.out _; exact pkK BK749.out) hb); replace BK755 := am (blk_below (g := gb755) (o := .cells #[.int .i64 t750, .int .i64 t751, .string t752] 25 (0, 0)) (by (with_reducible repeat (first | refine blk_drewN ?_ _ | refine blk_drew ?_ | refine blk_alloc ?_ _)); refine blk_put (cs := #[.int .i64 t750, .int .i64 t751, .string (⟨#[]⟩ : ByteArray)]) ?_ 2 _ rfl; (with_reducible repeat (first | refine blk_drewN ?_ _ | refine blk_drew ?_ | refine blk_alloc ?_ _)); refine blk_put (cs := #[.int .i64 t750, .int .i64 0, .string (⟨#[]⟩ : ByteArray)]) ?_ 1 _ rfl; (with_reducible repeat (first | refine blk_drewN ?_ _ | refine blk_drew ?_ | refine blk_alloc ?_ _)); refine blk_put (cs := #[.int .i64 0, .int .i64 0, .string (⟨#[]⟩ : ByteArray)]) ?_ 0 _ rfl; exact pkK BK755.out) hb); replace HB := am (below_step (pkW HB.out) hb); (try clear hb)))
     go_meet
     case rel => exact ⟨_, ((t754 != t736)), rfx, H', ⟨by first | omega | exact Nat.le_refl _⟩, ⟨by (with_reducible repeat (first | apply Kd.R_alloc | apply Kd.R_drewN | apply Kd.R_drew)); exact Kd.R_mono HO745.out (fun _ hk => hk.1.1)⟩, ⟨by (with_reducible repeat (first | apply Kd.R_alloc | apply Kd.R_drewN | apply Kd.R_drew)); exact Kd.R_mono HO748.out (fun _ hk => hk.1.1)⟩, ⟨pkK BK719.out⟩, ⟨pkK BK737.out⟩, ⟨pkK BK749.out⟩, ⟨pkK BK755.out⟩, ⟨pkW HB.out⟩⟩
    ·rw [if_neg c39] at H
     have c39b0 : (t753 == t735) = false := beq_eq_false_iff_ne.mpr c39
     have c39b1 : (t753 != t735) = true := bne_iff_ne.mpr c39
     (first | rw [c39b0] | (simp only [i64_w, i32_w]; rw [c39b0]) | skip)
     cases k with
     | zero => exact absurd H (by simp [laws_FnExactLook.j0])
     | succ k_ => (simp only [laws_FnExactLook.j0, if_pos] at H; exact absurd (Option.some.inj H) (by rw [HQ_.out]; simp))
   ·replace c38 := Bool.eq_false_iff.mpr c38
    subst c38
    replace H : (laws_FnExactLook.j0 k true a0_0 a0_1 a0_2 a0_3 a0_4 l0_5 l0_6 t738 t739 t740 t741 t742 t743 t746) = some r := by rw [if_neg (show ¬ (false = true) by decide)] at H; exact H
    cases k with
    | zero => exact absurd H (by simp [laws_FnExactLook.j0])
    | succ k_ => (simp only [laws_FnExactLook.j0, if_pos] at H; exact absurd (Option.some.inj H) (by rw [HQ_.out]; simp))
  case rest =>
   clear HC11
   try clear c2
   try clear p2
   try clear c3
   try clear c3b0
   try clear c4
   try clear c8
   try clear c21
   try clear c26
   try clear c27
   try clear c31
   try clear c32
   try clear c33
   try clear c34
   try clear c35
   try clear c38
   try clear c39
   try clear c39b0
   try clear c39b1
   try clear c40
   try clear c41
   try clear c42
   try clear c44
   try clear c45
   try clear hcz13_0
   try clear hcz13_1
   try clear hcz13_2
   try clear hcz13_3
   try clear hcz13_4
   try clear hcz13_5
   try clear hcz13_6
   try clear hcz15_0
   try clear hcz15_1
   try clear hcz15_2
   try clear hcz15_3
   try clear hcz15_4
   try clear hcz15_5
   try clear hcz15_6
   try clear hcz22_0
   try clear hcz22_1
   try clear hcz22_2
   try clear hcz23_0
   try clear hcz23_1
   try clear hcz23_2
   try clear hcz23_3
   try clear hcz23_4
   try clear hcz23_5
   try clear hcz23_6
   try clear hcz28_0
   try clear hcz28_1
   try clear hcz28_2
   try clear hcz28_3
   try clear hcz28_4
   try clear hcz28_5
   try clear hcz28_6
   try clear hcz36_0
   try clear hcz36_1
   try clear hcz36_2
   try clear hcz43_0
   try clear hcz43_1
   try clear hcz43_2
   try clear hcz46_0
   try clear hcz46_1
   try clear hcz46_2
   try clear hcz5_0
   try clear hcz5_1
   try clear hcz5_2
   try clear hcz5_3
   try clear hcz5_4
   try clear hcz5_5
   try clear hcz5_6
   try clear hfz13_0
   try clear hfz13_1
   try clear hfz13_2
   try clear hfz13_3
   try clear hfz13_4
   try clear hfz13_5
   try clear hfz13_6
   try clear hfz15_0
   try clear hfz15_1
   try clear hfz15_2
   try clear hfz15_3
   try clear hfz15_4
   try clear hfz15_5
   try clear hfz15_6
   try clear hfz22_0
   try clear hfz22_1
   try clear hfz22_2
   try clear hfz23_0
   try clear hfz23_1
   try clear hfz23_2
   try clear hfz23_3
   try clear hfz23_4
   try clear hfz23_5
   try clear hfz23_6
   try clear hfz28_0
   try clear hfz28_1
   try clear hfz28_2
   try clear hfz28_3
   try clear hfz28_4
   try clear hfz28_5
   try clear hfz28_6
   try clear hfz36_0
   try clear hfz36_1
   try clear hfz36_2
   try clear hfz43_0
   try clear hfz43_1
   try clear hfz43_2
   try clear hfz46_0
   try clear hfz46_1
   try clear hfz46_2
   try clear hfz5_0
   try clear hfz5_1
   try clear hfz5_2
   try clear hfz5_3
   try clear hfz5_4
   try clear hfz5_5
   try clear hfz5_6
   obtain ⟨kq, x44_10, rfl, HA, HJ10, HO_750005, HO_750006, BK719, BK737, BK749, BK755, HB⟩ := hcut
   cases kq with
   | zero => exact absurd HA.out (by simp [laws_FnExactLook.j0])
   | succ kj10 =>
    have H := HA.out
    clear HA
    simp only [laws_FnExactLook.j0] at H
    by_cases c48 : x44_10 = true
    ·subst c48
     replace H : (some false) = some r := by rw [if_pos rfl] at H; exact H
     exact absurd (Option.some.inj H) (by rw [HQ_.out]; simp)
    ·replace c48 := Bool.eq_false_iff.mpr c48
     subst c48
     replace H : ((laws_toCell.f kj10 a0_0 a0_1 a0_2 a0_3 a0_4 l0_5 l0_6).bind fun bt757 => ((laws_eqCell.f kj10 t738 t739 t740 t741 t742 t743 t746 bt757.1 bt757.2.1 bt757.2.2.1 bt757.2.2.2.1 bt757.2.2.2.2.1 bt757.2.2.2.2.2.1 bt757.2.2.2.2.2.2).bind fun t768 => (if t768 = true then (some true) else (some false)))) = some r := by rw [if_neg (show ¬ (false = true) by decide)] at H; exact H
     replace H := Option.bind_eq_some_iff.mp H
     obtain ⟨⟨t757, t758, t759, t760, t761, t762, t765⟩, A490, H⟩ := H
     replace H : ((laws_eqCell.f kj10 t738 t739 t740 t741 t742 t743 t746 t757 t758 t759 t760 t761 t762 t765).bind fun t768 => (if t768 = true then (some true) else (some false))) = some r := H
     have A49 := am A490
     clear A490
     replace H := Option.bind_eq_some_iff.mp H
     obtain ⟨t768, A500, H⟩ := H
     replace H : (if t768 = true then (some true) else (some false)) = some r := H
     have A50 := am A500
     clear A500
     by_cases c51 : t768 = true
     ·subst c51
      replace H : (some true) = some r := by rw [if_pos rfl] at H; exact H
      obtain rfl := Option.some.inj H
      try go_wp2
      replace HO_750005 := am (Kd.R_drew HO_750005.out)
      replace HO_750006 := am (Kd.R_drew HO_750006.out)
      replace BK719 := am (blk_drew BK719.out)
      replace BK737 := am (blk_drew BK737.out)
      replace BK749 := am (blk_drew BK749.out)
      replace BK755 := am (blk_drew BK755.out)
      replace HB := am (below_drew1 HB.out)
      refine start_ (n := 5) (S := fun w' => w'.cell? ⟨gb749, 0, none⟩ = some (.int .i64 t738) ∧ w'.cell? ⟨gb749, 1, none⟩ = some (.int .i64 t739) ∧ w'.cell? ⟨gb749, 2, none⟩ = some (.string t740) ∧ w'.cell? ⟨gb749, 3, none⟩ = some (.int .i64 t741) ∧ w'.cell? ⟨gb749, 4, none⟩ = some (.bool t742) ∧ w'.cell? ⟨gb749, 5, none⟩ = some (.slice Ao29 t743.length co29) ∧ w'.cell? ⟨gb749, 6, none⟩ = some (.slice Ao30 t746.length co30) ∧ w'.cell? ⟨gb719, 0, none⟩ = some (.int .i64 a0_0) ∧ w'.cell? ⟨gb719, 1, none⟩ = some (.int .i64 a0_1) ∧ w'.cell? ⟨gb719, 2, none⟩ = some (.string a0_2) ∧ w'.cell? ⟨gb719, 3, none⟩ = some (.int .i64 a0_3) ∧ w'.cell? ⟨gb719, 4, none⟩ = some (.bool a0_4) ∧ w'.cell? ⟨gb719, 5, none⟩ = some (.slice A0_5 l0_5.length c0_5) ∧ w'.cell? ⟨gb719, 6, none⟩ = some (.slice A0_6 l0_6.length c0_6)) (ds := []) #[false, false, false, false, false] (by kernel_rfl) rfl rfl ⟨(blk_cell BK749.out 0).trans rfl, (blk_cell BK749.out 1).trans rfl, (blk_cell BK749.out 2).trans rfl, (blk_cell BK749.out 3).trans rfl, (blk_cell BK749.out 4).trans rfl, (blk_cell BK749.out 5).trans rfl, (blk_cell BK749.out 6).trans rfl, (blk_cell BK719.out 0).trans rfl, (blk_cell BK719.out 1).trans rfl, (blk_cell BK719.out 2).trans rfl, (blk_cell BK719.out 3).trans rfl, (blk_cell BK719.out 4).trans rfl, (blk_cell BK719.out 5).trans rfl, (blk_cell BK719.out 6).trans rfl⟩ (fun hHeld => ?_)
      generalize wc.drew = w52 at HO_750005 HO_750006 BK719 BK737 BK749 BK755 HB hHeld ⊢
      refine take_ (i := 0) (N := some 45) (v := ?_) (a' := ?_) #[true, false, false, false, false] rfl rfl (by kernel_rfl) (fun _ _ _ h => h) (Or.inl ⟨by rfl, ?_⟩) hHeld ?_ ?_
      rotate_left
      ·rintro w' ⟨s0, s1, s2, s3, s4, s5, s6, s7, s8, s9, s10, s11, s12, s13⟩
       go_simp
       with_reducible rfl
      rotate_left
      ·simp only [Act.put, List.setIfInBounds_toArray, List.set_cons_zero, List.set_cons_succ, i64_w, i32_w]
       rfl
      refine take_ (i := 1) (N := some 46) (v := ?_) (a' := ?_) #[true, true, false, false, false] rfl rfl (by kernel_rfl) (fun _ _ _ h => h) (Or.inl ⟨by rfl, ?_⟩) hHeld ?_ ?_
      rotate_left
      ·rintro w' ⟨s0, s1, s2, s3, s4, s5, s6, s7, s8, s9, s10, s11, s12, s13⟩
       go_simp
       with_reducible rfl
      rotate_left
      ·simp only [Act.put, List.setIfInBounds_toArray, List.set_cons_zero, List.set_cons_succ, i64_w, i32_w]
       rfl
      refine one_ (i := 2) (N := some 47) #[true, true, true, false, false] rfl rfl (by kernel_rfl) (by decide) (fun K hK => ?_)
      refine goes_ Try.func32 (by kernel_rfl) rfl #[.agg #[.int .i64 a0_0, .int .i64 a0_1, .string a0_2, .int .i64 a0_3, .bool a0_4, .slice A0_5 l0_5.length c0_5, .slice A0_6 l0_6.length c0_6]] (by rfl) rfl rfl mpx ?_
      with_reducible refine (laws_toCell.calls kj10 a0_0 a0_1 a0_2 a0_3 a0_4 _ _ l0_5 _ _ l0_6 t757 t758 t759 t760 t761 t762 t765 _ ?side1 ?side2 ?side3 ?side4 A49.out).mono ?_
      (case side1 => exact pkC (Kd.C_below HR0_5.out HB.out))
      (case side2 => exact HC0_5.out)
      (case side3 => exact pkC (Kd.C_below HR0_6.out HB.out))
      (case side4 => exact HC0_6.out)
      rintro e w53 ⟨v763, v766, rfl, ho0, ho1, hb⟩
      refine ⟨_, rfl, ?_⟩
      have HO764 := am (Kd.R_lower (Kd.R_new' (Kd.R_new' ho0 (Kd.R_lt (pkR HO_750005.out))) (Kd.R_lt (pkR HO_750006.out))) (below_size (pkW HB.out)))
      have HO767 := am (Kd.R_lower (Kd.R_new' (Kd.R_new' ho1 (Kd.R_lt (pkR HO_750005.out))) (Kd.R_lt (pkR HO_750006.out))) (below_size (pkW HB.out)))
      replace HO_750005 := am (Kd.R_mono (Kd.R_told (Kd.R_told (Kd.R_old (pkR HO_750005.out) hb) (Kd.R_base ho0)) (Kd.R_base ho1)) (fun _ h_ => h_.1))
      replace HO_750006 := am (Kd.R_mono (Kd.R_told (Kd.R_told (Kd.R_old (pkR HO_750006.out) hb) (Kd.R_base ho0)) (Kd.R_base ho1)) (fun _ h_ => h_.1))
      replace BK719 := am (blk_below (pkK BK719.out) hb)
      replace BK737 := am (blk_below (pkK BK737.out) hb)
      replace BK749 := am (blk_below (pkK BK749.out) hb)
      replace BK755 := am (blk_below (pkK BK755.out) hb)
      replace HB := am (below_step (pkW HB.out) hb)
      (try clear hb); (try clear ho0 ho1)
      obtain ⟨Ao54, co54, eo54⟩ := Kd.R_slice HO764.out
      (first | subst eo54 | (injection eo54 with f1_ f2_ f3_; have f4_ := f1_.symm; have f5_ := f3_.symm; clear f1_ f2_ f3_; subst f4_; subst f5_))
      obtain ⟨Ao55, co55, eo55⟩ := Kd.R_slice HO767.out
      (first | subst eo55 | (injection eo55 with f1_ f2_ f3_; have f4_ := f1_.symm; have f5_ := f3_.symm; clear f1_ f2_ f3_; subst f4_; subst f5_))
      refine hK.out _ _ ⟨(blk_cell BK749.out 0).trans rfl, (blk_cell BK749.out 1).trans rfl, (blk_cell BK749.out 2).trans rfl, (blk_cell BK749.out 3).trans rfl, (blk_cell BK749.out 4).trans rfl, (blk_cell BK749.out 5).trans rfl, (blk_cell BK749.out 6).trans rfl, (blk_cell BK719.out 0).trans rfl, (blk_cell BK719.out 1).trans rfl, (blk_cell BK719.out 2).trans rfl, (blk_cell BK719.out 3).trans rfl, (blk_cell BK719.out 4).trans rfl, (blk_cell BK719.out 5).trans rfl, (blk_cell BK719.out 6).trans rfl⟩ (fun hHeld => ?_)
      clear hK K
      refine norm_ (a' := ?_) ?_ ?_
      rotate_left
      ·show Act.put _ (some 47) _ = _
       simp only [Act.put, List.setIfInBounds_toArray, List.set_cons_zero, List.set_cons_succ, i64_w, i32_w]
       rfl
      refine one_ (i := 3) (N := some 48) #[true, true, true, true, false] rfl rfl (by kernel_rfl) (by decide) (fun K hK => ?_)
      refine goes_ Try.func34 (by kernel_rfl) rfl #[.agg #[.int .i64 t738, .int .i64 t739, .string t740, .int .i64 t741, .bool t742, .slice Ao29 t743.length co29, .slice Ao30 t746.length co30], .agg #[.int .i64 t757, .int .i64 t758, .string t759, .int .i64 t760, .bool t761, .slice Ao54 t762.length co54, .slice Ao55 t765.length co55]] (by rfl) rfl rfl mpx ?_
      with_reducible refine (laws_eqCell.calls kj10 t738 t739 t740 t741 t742 _ _ t743 _ _ t746 t757 t758 t759 t760 t761 _ _ t762 _ _ t765 true _ ?side1 ?side2 ?side3 ?side4 ?side5 ?side6 ?side7 ?side8 A50.out).mono ?_
      (case side1 => exact pkC (Kd.R_reads' HO_750005.out).2.2)
      (case side2 => exact (Kd.R_reads' HO_750005.out).2.1)
      (case side3 => exact pkC (Kd.R_reads' HO_750006.out).2.2)
      (case side4 => exact (Kd.R_reads' HO_750006.out).2.1)
      (case side5 => exact pkC (Kd.R_reads' HO764.out).2.2)
      (case side6 => exact (Kd.R_reads' HO764.out).2.1)
      (case side7 => exact pkC (Kd.R_reads' HO767.out).2.2)
      (case side8 => exact (Kd.R_reads' HO767.out).2.1)
      rintro e w56 ⟨rfl, hb⟩
      refine ⟨_, rfl, ?_⟩
      replace HO_750005 := am (Kd.R_below (pkR HO_750005.out) hb)
      replace HO_750006 := am (Kd.R_below (pkR HO_750006.out) hb)
      replace HO764 := am (Kd.R_below (pkR HO764.out) hb)
      replace HO767 := am (Kd.R_below (pkR HO767.out) hb)
      replace BK719 := am (blk_below (pkK BK719.out) hb)
      replace BK737 := am (blk_below (pkK BK737.out) hb)
      replace BK749 := am (blk_below (pkK BK749.out) hb)
      replace BK755 := am (blk_below (pkK BK755.out) hb)
      replace HB := am (below_step (pkW HB.out) hb)
      (try clear hb)
      refine hK.out _ _ ⟨(blk_cell BK749.out 0).trans rfl, (blk_cell BK749.out 1).trans rfl, (blk_cell BK749.out 2).trans rfl, (blk_cell BK749.out 3).trans rfl, (blk_cell BK749.out 4).trans rfl, (blk_cell BK749.out 5).trans rfl, (blk_cell BK749.out 6).trans rfl, (blk_cell BK719.out 0).trans rfl, (blk_cell BK719.out 1).trans rfl, (blk_cell BK719.out 2).trans rfl, (blk_cell BK719.out 3).trans rfl, (blk_cell BK719.out 4).trans rfl, (blk_cell BK719.out 5).trans rfl, (blk_cell BK719.out 6).trans rfl⟩ (fun hHeld => ?_)
      clear hK K
      refine norm_ (a' := ?_) ?_ ?_
      rotate_left
      ·show Act.put _ (some 48) _ = _
       simp only [Act.put, List.setIfInBounds_toArray, List.set_cons_zero, List.set_cons_succ, i64_w, i32_w]
       rfl
      refine pure_ (i := 4) (N := some 49) (v := ?_) (a' := ?_) #[true, true, true, true, true] rfl rfl (by kernel_rfl) (fun _ _ _ h => h) (Or.inl ⟨by rfl, ?_⟩) ?_ ?_
      rotate_left
      ·intro w'
       go_simp
       with_reducible rfl
      rotate_left
      ·simp only [Act.put, List.setIfInBounds_toArray, List.set_cons_zero, List.set_cons_succ, i64_w, i32_w]
       rfl
      refine done_ (by kernel_rfl) ?_
      try go_wp2
      go_ret
      exact ⟨rfe, pkW HB.out⟩
     ·replace c51 := Bool.eq_false_iff.mpr c51
      subst c51
      replace H : (some false) = some r := by rw [if_neg (show ¬ (false = true) by decide)] at H; exact H
      exact absurd (Option.some.inj H) (by rw [HQ_.out]; simp)
end Go.Proofs.Ytffcphplnilokaa.Z
