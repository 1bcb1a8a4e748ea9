import Derived.Test.YtffcphplnilokaaZx0
import Derived.Test.YtffcphplnilokaaZx12
import Derived.Test.YtffcphplnilokaaZx25
import Derived.Test.YtffcphplnilokaaZx26
import Derived.Test.YtffcphplnilokaaZx27
import Derived.Test.YtffcphplnilokaaZx31
namespace Go.Proofs.Ytffcphplnilokaa.Z
open Go.RowKit Go.Proofs.YtffcphplnilokaaW.PrintWords Go.Proofs.YtffcphplnilokaaW.PrintLast Go.Proofs.YtffcphplnilokaaW.PrintMore
attribute [local go_sem] max2_int min2_int max_two min_two max_three min_three max_four min_four   -- for this text's walks alone
set_option linter.unusedVariables false
set_option linter.unusedSimpArgs false
def laws_FnExactLook.j0 : Nat → Bool → Int → Int → ByteArray → Int → Bool → List Int → List Int → Int → Int → ByteArray → Int → Bool → List Int → List Int → Option (Bool)
  | 0, _, _, _, _, _, _, _, _, _, _, _, _, _, _, _ => none
  | k + 1, x44, x570000, x570001, x570002, x570003, x570004, x570005, x570006, x600000, x600001, x600002, x600003, x600004, x600005, x600006 => if x44 = true then (some false) else ((laws_toCell.f k x570000 x570001 x570002 x570003 x570004 x570005 x570006).bind fun bt607 => ((laws_eqCell.f k x600000 x600001 x600002 x600003 x600004 x600005 x600006 bt607.1 bt607.2.1 bt607.2.2.1 bt607.2.2.2.1 bt607.2.2.2.2.1 bt607.2.2.2.2.2.1 bt607.2.2.2.2.2.2).bind fun t618 => (if t618 = true then (some true) else (some false))))
def laws_FnExactLook.f (k : Nat) (a0_0 : Int) (a0_1 : Int) (a0_2 : ByteArray) (a0_3 : Int) (a0_4 : Bool) (l0_5 : List Int) (l0_6 : List Int) : Option (Bool) := (laws_szCell.f a0_0 a0_1 a0_2 a0_3 a0_4 l0_5 l0_6 1048576).bind fun t570 => (if t570 < 0 then (some true) else ((laws_toCell.f k a0_0 a0_1 a0_2 a0_3 a0_4 l0_5 l0_6).bind fun bt571 => ((spec_Look.f k bt571.1 bt571.2.1 bt571.2.2.1 bt571.2.2.2.1 bt571.2.2.2.2.1 bt571.2.2.2.2.2.1 bt571.2.2.2.2.2.2).bind fun bt582 => ((laws_toCell.f k a0_0 a0_1 a0_2 a0_3 a0_4 l0_5 l0_6).bind fun bt588 => ((impl_Look.f k bt588.1 bt588.2.1 bt588.2.2.1 bt588.2.2.2.1 bt588.2.2.2.2.1 bt588.2.2.2.2.2.1 bt588.2.2.2.2.2.2).bind fun bt600 => ((laws_eqMsg.f bt600.1 bt600.2.1 bt600.2.2.1 bt582.1 bt582.2.1 bt582.2.2.1).bind fun t606 => (if t606 = true then (if bt600.2.2.2.1 = bt582.2.2.2.1 then (laws_FnExactLook.j0 k (bt600.2.2.2.2 != bt582.2.2.2.2) a0_0 a0_1 a0_2 a0_3 a0_4 l0_5 l0_6 bt588.1 bt588.2.1 bt588.2.2.1 bt588.2.2.2.1 bt588.2.2.2.2.1 bt588.2.2.2.2.2.1 bt588.2.2.2.2.2.2) else (laws_FnExactLook.j0 k true a0_0 a0_1 a0_2 a0_3 a0_4 l0_5 l0_6 bt588.1 bt588.2.1 bt588.2.2.1 bt588.2.2.2.1 bt588.2.2.2.2.1 bt588.2.2.2.2.2.1 bt588.2.2.2.2.2.2)) else (laws_FnExactLook.j0 k true a0_0 a0_1 a0_2 a0_3 a0_4 l0_5 l0_6 bt588.1 bt588.2.1 bt588.2.2.1 bt588.2.2.2.1 bt588.2.2.2.2.1 bt588.2.2.2.2.2.1 bt588.2.2.2.2.2.2))))))))
theorem laws_FnExactLook.mono_l : ∀ k, (∀ y0 y1 y2 y3 y4 y5 y6 y7 y8 y9 y10 y11 y12 y13 y14, LeO (laws_FnExactLook.j0 k y0 y1 y2 y3 y4 y5 y6 y7 y8 y9 y10 y11 y12 y13 y14) (laws_FnExactLook.j0 (k + 1) y0 y1 y2 y3 y4 y5 y6 y7 y8 y9 y10 y11 y12 y13 y14))
  | 0 => fun _ _ _ _ _ _ _ _ _ _ _ _ _ _ _ r h => by simp [laws_FnExactLook.j0] at h
  | k + 1 => by
    have ih0 := laws_FnExactLook.mono_l k
    · intro y0 y1 y2 y3 y4 y5 y6 y7 y8 y9 y10 y11 y12 y13 y14
      unfold laws_FnExactLook.j0
      repeat' first
      | (with_reducible exact ih0 _ _ _ _ _ _ _ _ _ _ _ _ _ _ _)
      | (with_reducible exact impl_Look.mono _ _ _ _ _ _ _ _)
      | (with_reducible exact laws_eqCell.mono _ _ _ _ _ _ _ _ _ _ _ _ _ _ _)
      | (with_reducible exact laws_toCell.mono _ _ _ _ _ _ _ _)
      | (with_reducible exact spec_Look.mono _ _ _ _ _ _ _ _)
      | (with_reducible exact LeO.refl _)
      | (with_reducible exact LeO.none _)
      | (with_reducible refine LeO.ite ?_ ?_)
      | (with_reducible refine LeO.bind ?_ (fun _ => ?_))
      | exact ih0 _ _ _ _ _ _ _ _ _ _ _ _ _ _ _
      | exact impl_Look.mono _ _ _ _ _ _ _ _
      | exact laws_eqCell.mono _ _ _ _ _ _ _ _ _ _ _ _ _ _ _
      | exact laws_toCell.mono _ _ _ _ _ _ _ _
      | exact spec_Look.mono _ _ _ _ _ _ _ _
      | exact LeO.none _
      | refine LeO.ite ?_ ?_
      | refine LeO.bind ?_ (fun _ => ?_)
theorem laws_FnExactLook.mono : ∀ a0 a1 a2 a3 a4 a5 a6 k, LeO (laws_FnExactLook.f k a0 a1 a2 a3 a4 a5 a6) (laws_FnExactLook.f (k + 1) a0 a1 a2 a3 a4 a5 a6) := by
  intro a0 a1 a2 a3 a4 a5 a6 k
  have ih0 := laws_FnExactLook.mono_l k
  unfold laws_FnExactLook.f
  repeat' first
      | (with_reducible exact ih0 _ _ _ _ _ _ _ _ _ _ _ _ _ _ _)
      | (with_reducible exact impl_Look.mono _ _ _ _ _ _ _ _)
      | (with_reducible exact laws_eqCell.mono _ _ _ _ _ _ _ _ _ _ _ _ _ _ _)
      | (with_reducible exact laws_toCell.mono _ _ _ _ _ _ _ _)
      | (with_reducible exact spec_Look.mono _ _ _ _ _ _ _ _)
      | (with_reducible exact LeO.refl _)
      | (with_reducible exact LeO.none _)
      | (with_reducible refine LeO.ite ?_ ?_)
      | (with_reducible refine LeO.bind ?_ (fun _ => ?_))
      | exact ih0 _ _ _ _ _ _ _ _ _ _ _ _ _ _ _
      | exact impl_Look.mono _ _ _ _ _ _ _ _
      | exact laws_eqCell.mono _ _ _ _ _ _ _ _ _ _ _ _ _ _ _
      | exact laws_toCell.mono _ _ _ _ _ _ _ _
      | exact spec_Look.mono _ _ _ _ _ _ _ _
      | exact LeO.none _
      | refine LeO.ite ?_ ?_
      | refine LeO.bind ?_ (fun _ => ?_)
set_option maxHeartbeats 8000000 in
set_option maxRecDepth 100000 in
theorem laws_FnExactLook.calls (k : Nat) (a0_0 : Int) (a0_1 : Int) (a0_2 : ByteArray) (a0_3 : Int) (a0_4 : Bool) (A0_5 : Option Addr) (c0_5 : Nat) (l0_5 : List Int) (A0_6 : Option Addr) (c0_6 : Nat) (l0_6 : List Int) (r : Bool) (w : World) (hr0_5 : Kd.C (Kd.int .i64) w A0_5 l0_5.length l0_5) (hc0_5 : l0_5.length ≤ c0_5) (hr0_6 : Kd.C (Kd.int .i64) w A0_6 l0_6.length l0_6) (hc0_6 : l0_6.length ≤ c0_6) (HQ_ : Aside0 (r = true)) (h : laws_FnExactLook.f k a0_0 a0_1 a0_2 a0_3 a0_4 l0_5 l0_6 = some r) :
    Calls Try.prog 8 #[.agg #[.int .i64 a0_0, .int .i64 a0_1, .string a0_2, .int .i64 a0_3, .bool a0_4, .slice A0_5 l0_5.length c0_5, .slice A0_6 l0_6.length c0_6]] w fun e w' => e = .returned (.bool r) ∧ Below w.heap.size w w' := by
  have hu56 := Try.underlying56
  have hu25 := Try.underlying25
  have hu29 := Try.underlying29
  have HR0_5 := Aside0.mk hr0_5
  have HC0_5 := Aside0.mk hc0_5
  clear hr0_5 hc0_5
  have HR0_6 := Aside0.mk hr0_6
  have HC0_6 := Aside0.mk hc0_6
  clear hr0_6 hc0_6
  have HB := Aside0.mk (Below.refl w.heap.size w)
  have H : ((laws_szCell.f a0_0 a0_1 a0_2 a0_3 a0_4 l0_5 l0_6 1048576).bind fun t570 => (if t570 < 0 then (some true) else ((laws_toCell.f k a0_0 a0_1 a0_2 a0_3 a0_4 l0_5 l0_6).bind fun bt571 => ((spec_Look.f k bt571.1 bt571.2.1 bt571.2.2.1 bt571.2.2.2.1 bt571.2.2.2.2.1 bt571.2.2.2.2.2.1 bt571.2.2.2.2.2.2).bind fun bt582 => ((laws_toCell.f k a0_0 a0_1 a0_2 a0_3 a0_4 l0_5 l0_6).bind fun bt588 => ((impl_Look.f k bt588.1 bt588.2.1 bt588.2.2.1 bt588.2.2.2.1 bt588.2.2.2.2.1 bt588.2.2.2.2.2.1 bt588.2.2.2.2.2.2).bind fun bt600 => ((laws_eqMsg.f bt600.1 bt600.2.1 bt600.2.2.1 bt582.1 bt582.2.1 bt582.2.2.1).bind fun t606 => (if t606 = true then (if bt600.2.2.2.1 = bt582.2.2.2.1 then (laws_FnExactLook.j0 k (bt600.2.2.2.2 != bt582.2.2.2.2) a0_0 a0_1 a0_2 a0_3 a0_4 l0_5 l0_6 bt588.1 bt588.2.1 bt588.2.2.1 bt588.2.2.2.1 bt588.2.2.2.2.1 bt588.2.2.2.2.2.1 bt588.2.2.2.2.2.2) else (laws_FnExactLook.j0 k true a0_0 a0_1 a0_2 a0_3 a0_4 l0_5 l0_6 bt588.1 bt588.2.1 bt588.2.2.1 bt588.2.2.2.1 bt588.2.2.2.2.1 bt588.2.2.2.2.2.1 bt588.2.2.2.2.2.2)) else (laws_FnExactLook.j0 k true a0_0 a0_1 a0_2 a0_3 a0_4 l0_5 l0_6 bt588.1 bt588.2.1 bt588.2.2.1 bt588.2.2.2.1 bt588.2.2.2.2.1 bt588.2.2.2.2.2.1 bt588.2.2.2.2.2.2))))))))) = some r := h
  clear h
  replace H := Option.bind_eq_some_iff.mp H
  obtain ⟨t570, A20, H⟩ := H
  replace H : (if t570 < 0 then (some true) else ((laws_toCell.f k a0_0 a0_1 a0_2 a0_3 a0_4 l0_5 l0_6).bind fun bt571 => ((spec_Look.f k bt571.1 bt571.2.1 bt571.2.2.1 bt571.2.2.2.1 bt571.2.2.2.2.1 bt571.2.2.2.2.2.1 bt571.2.2.2.2.2.2).bind fun bt582 => ((laws_toCell.f k a0_0 a0_1 a0_2 a0_3 a0_4 l0_5 l0_6).bind fun bt588 => ((impl_Look.f k bt588.1 bt588.2.1 bt588.2.2.1 bt588.2.2.2.1 bt588.2.2.2.2.1 bt588.2.2.2.2.2.1 bt588.2.2.2.2.2.2).bind fun bt600 => ((laws_eqMsg.f bt600.1 bt600.2.1 bt600.2.2.1 bt582.1 bt582.2.1 bt582.2.2.1).bind fun t606 => (if t606 = true then (if bt600.2.2.2.1 = bt582.2.2.2.1 then (laws_FnExactLook.j0 k (bt600.2.2.2.2 != bt582.2.2.2.2) a0_0 a0_1 a0_2 a0_3 a0_4 l0_5 l0_6 bt588.1 bt588.2.1 bt588.2.2.1 bt588.2.2.2.1 bt588.2.2.2.2.1 bt588.2.2.2.2.2.1 bt588.2.2.2.2.2.2) else (laws_FnExactLook.j0 k true a0_0 a0_1 a0_2 a0_3 a0_4 l0_5 l0_6 bt588.1 bt588.2.1 bt588.2.2.1 bt588.2.2.2.1 bt588.2.2.2.2.1 bt588.2.2.2.2.2.1 bt588.2.2.2.2.2.2)) else (laws_FnExactLook.j0 k true a0_0 a0_1 a0_2 a0_3 a0_4 l0_5 l0_6 bt588.1 bt588.2.1 bt588.2.2.1 bt588.2.2.2.1 bt588.2.2.2.2.1 bt588.2.2.2.2.2.1 bt588.2.2.2.2.2.2)))))))) = some r := H
  have A2 := Aside0.mk A20
  clear A20
  by_cases c3 : t570 < 0
  · rw [if_pos c3] at H
    have c3b0 : decide (t570 < 0) = true := decide_eq_true c3
    clear c3
    obtain rfl := Option.some.inj H
    go_enter Try.func8, Try.ntmps8
    go_wp2_with (first | ((with_reducible refine gate_dst (N := 1) rfl ?_); refine box_event ?hg (N := 1) ?hd (cs := #[.int .i64 a0_0, .int .i64 a0_1, .string a0_2, .int .i64 a0_3, .bool a0_4, .slice A0_5 l0_5.length c0_5, .slice A0_6 l0_6.length c0_6]) (t := 56) ?hr ?_; (case hd => rfl); (case hg => rfl); (case hr => first | (go_simp; done) | (go_simp; rfl)); intro gb569 hg w4 hbox hb; have n0_ := Aside0.mk (below_step (pkB HB.out) hb); have n1_ := Aside0.mk (hbox); have n2_ := Aside0.mk ((by rw [hg]; exact (below_size (pkB HB.out)) : w.heap.size ≤ gb569)); have n3_ := Aside0.mk ((by rw [hg]; exact (below_size (pkB HB.out)) : w.heap.size ≤ gb569)); clear HB; have HB := n0_; have BK569 := n1_; have GW569 := n2_; have GE569 := n3_; clear n0_ n1_ n2_ n3_; clear hb hbox hg; have hcz5_0 : w4.cell? ⟨gb569, 0, none⟩ = some (.int .i64 a0_0) := (blk_cell BK569.out 0).trans rfl; have hcz5_1 : w4.cell? ⟨gb569, 1, none⟩ = some (.int .i64 a0_1) := (blk_cell BK569.out 1).trans rfl; have hcz5_2 : w4.cell? ⟨gb569, 2, none⟩ = some (.string a0_2) := (blk_cell BK569.out 2).trans rfl; have hcz5_3 : w4.cell? ⟨gb569, 3, none⟩ = some (.int .i64 a0_3) := (blk_cell BK569.out 3).trans rfl; have hcz5_4 : w4.cell? ⟨gb569, 4, none⟩ = some (.bool a0_4) := (blk_cell BK569.out 4).trans rfl; have hcz5_5 : w4.cell? ⟨gb569, 5, none⟩ = some (.slice A0_5 l0_5.length c0_5) := (blk_cell BK569.out 5).trans rfl; have hcz5_6 : w4.cell? ⟨gb569, 6, none⟩ = some (.slice A0_6 l0_6.length c0_6) := (blk_cell BK569.out 6).trans rfl; have hfz5_0 := blk_frozen BK569.out 0; have hfz5_1 := blk_frozen BK569.out 1; have hfz5_2 := blk_frozen BK569.out 2; have hfz5_3 := blk_frozen BK569.out 3; have hfz5_4 := blk_frozen BK569.out 4; have hfz5_5 := blk_frozen BK569.out 5; have hfz5_6 := blk_frozen BK569.out 6) | ((with_reducible refine gate_callee (f := 31) rfl ?_); refine goesL_ (some 13) rfl rfl Try.func31 (by kernel_rfl) rfl #[.agg #[.int .i64 a0_0, .int .i64 a0_1, .string a0_2, .int .i64 a0_3, .bool a0_4, .slice A0_5 l0_5.length c0_5, .slice A0_6 l0_6.length c0_6], .int .i64 1048576] rfl (by (try simp only [List.map_toArray, List.map_cons, List.map_nil]); first | done | rfl | (simp only [List.length_drop, List.length_take]; rfl) | (go_simp; done) | (simp [*]; done)) ?_; (with_reducible refine (laws_szCell.calls a0_0 a0_1 a0_2 a0_3 a0_4 _ _ l0_5 _ _ l0_6 1048576 t570 _ ?side1 ?side2 ?side3 ?side4 A2.out).mono ?_); (case side1 => exact pkC (Kd.C_below HR0_5.out HB.out)); (case side2 => exact HC0_5.out); (case side3 => exact pkC (Kd.C_below HR0_6.out HB.out)); (case side4 => exact HC0_6.out); rintro e w6 ⟨rfl, hb⟩; refine ⟨_, rfl, ?_⟩; have n0_ := Aside0.mk (blk_below (g := gb569) (o := .cells #[.int .i64 a0_0, .int .i64 a0_1, .string a0_2, .int .i64 a0_3, .bool a0_4, .slice A0_5 l0_5.length c0_5, .slice A0_6 l0_6.length c0_6] 56 (0, 0)) (pkK BK569.out) hb); have n1_ := Aside0.mk (below_step (by repeat (first | (with_reducible first | exact HB.out | apply below_alloc | apply pw_below_drewN | apply below_drew1 | refine below_set ?_ GE569.out) | exact HB.out)) hb); clear BK569 HB; have BK569 := n0_; have HB := n1_; clear n0_ n1_; (try clear hb); (try clear hb2); (try clear hk); (try clear hi)))
    go_ret
    exact ⟨by first | rfl | (simp [errW_none, errW_some] <;> rfl) | (simp [*, errW_none, errW_some] <;> rfl), by repeat (first | (with_reducible first | exact HB.out | apply below_alloc | apply pw_below_drewN | apply below_drew1 | refine below_set ?_ GE569.out) | exact HB.out)⟩
  · rw [if_neg c3] at H
    have c3b0 : decide (t570 < 0) = false := decide_eq_false c3
    clear c3
    replace H := Option.bind_eq_some_iff.mp H
    obtain ⟨⟨t571, t572, t573, t574, t575, t576, t579⟩, A70, H⟩ := H
    replace H : ((spec_Look.f k t571 t572 t573 t574 t575 t576 t579).bind fun bt582 => ((laws_toCell.f k a0_0 a0_1 a0_2 a0_3 a0_4 l0_5 l0_6).bind fun bt588 => ((impl_Look.f k bt588.1 bt588.2.1 bt588.2.2.1 bt588.2.2.2.1 bt588.2.2.2.2.1 bt588.2.2.2.2.2.1 bt588.2.2.2.2.2.2).bind fun bt600 => ((laws_eqMsg.f bt600.1 bt600.2.1 bt600.2.2.1 bt582.1 bt582.2.1 bt582.2.2.1).bind fun t606 => (if t606 = true then (if bt600.2.2.2.1 = bt582.2.2.2.1 then (laws_FnExactLook.j0 k (bt600.2.2.2.2 != bt582.2.2.2.2) a0_0 a0_1 a0_2 a0_3 a0_4 l0_5 l0_6 bt588.1 bt588.2.1 bt588.2.2.1 bt588.2.2.2.1 bt588.2.2.2.2.1 bt588.2.2.2.2.2.1 bt588.2.2.2.2.2.2) else (laws_FnExactLook.j0 k true a0_0 a0_1 a0_2 a0_3 a0_4 l0_5 l0_6 bt588.1 bt588.2.1 bt588.2.2.1 bt588.2.2.2.1 bt588.2.2.2.2.1 bt588.2.2.2.2.2.1 bt588.2.2.2.2.2.2)) else (laws_FnExactLook.j0 k true a0_0 a0_1 a0_2 a0_3 a0_4 l0_5 l0_6 bt588.1 bt588.2.1 bt588.2.2.1 bt588.2.2.2.1 bt588.2.2.2.2.1 bt588.2.2.2.2.2.1 bt588.2.2.2.2.2.2)))))) = some r := H
    have A7 := Aside0.mk A70
    clear A70
    replace H := Option.bind_eq_some_iff.mp H
    obtain ⟨⟨t582, t583, t584, t585, t586⟩, A80, H⟩ := H
    replace H : ((laws_toCell.f k a0_0 a0_1 a0_2 a0_3 a0_4 l0_5 l0_6).bind fun bt588 => ((impl_Look.f k bt588.1 bt588.2.1 bt588.2.2.1 bt588.2.2.2.1 bt588.2.2.2.2.1 bt588.2.2.2.2.2.1 bt588.2.2.2.2.2.2).bind fun bt600 => ((laws_eqMsg.f bt600.1 bt600.2.1 bt600.2.2.1 t582 t583 t584).bind fun t606 => (if t606 = true then (if bt600.2.2.2.1 = t585 then (laws_FnExactLook.j0 k (bt600.2.2.2.2 != t586) a0_0 a0_1 a0_2 a0_3 a0_4 l0_5 l0_6 bt588.1 bt588.2.1 bt588.2.2.1 bt588.2.2.2.1 bt588.2.2.2.2.1 bt588.2.2.2.2.2.1 bt588.2.2.2.2.2.2) else (laws_FnExactLook.j0 k true a0_0 a0_1 a0_2 a0_3 a0_4 l0_5 l0_6 bt588.1 bt588.2.1 bt588.2.2.1 bt588.2.2.2.1 bt588.2.2.2.2.1 bt588.2.2.2.2.2.1 bt588.2.2.2.2.2.2)) else (laws_FnExactLook.j0 k true a0_0 a0_1 a0_2 a0_3 a0_4 l0_5 l0_6 bt588.1 bt588.2.1 bt588.2.2.1 bt588.2.2.2.1 bt588.2.2.2.2.1 bt588.2.2.2.2.2.1 bt588.2.2.2.2.2.2))))) = some r := H
    have A8 := Aside0.mk A80
    clear A80
    replace H := Option.bind_eq_some_iff.mp H
    obtain ⟨⟨t588, t589, t590, t591, t592, t593, t596⟩, A90, H⟩ := H
    replace H : ((impl_Look.f k t588 t589 t590 t591 t592 t593 t596).bind fun bt600 => ((laws_eqMsg.f bt600.1 bt600.2.1 bt600.2.2.1 t582 t583 t584).bind fun t606 => (if t606 = true then (if bt600.2.2.2.1 = t585 then (laws_FnExactLook.j0 k (bt600.2.2.2.2 != t586) a0_0 a0_1 a0_2 a0_3 a0_4 l0_5 l0_6 t588 t589 t590 t591 t592 t593 t596) else (laws_FnExactLook.j0 k true a0_0 a0_1 a0_2 a0_3 a0_4 l0_5 l0_6 t588 t589 t590 t591 t592 t593 t596)) else (laws_FnExactLook.j0 k true a0_0 a0_1 a0_2 a0_3 a0_4 l0_5 l0_6 t588 t589 t590 t591 t592 t593 t596)))) = some r := H
    have A9 := Aside0.mk A90
    clear A90
    replace H := Option.bind_eq_some_iff.mp H
    obtain ⟨⟨t600, t601, t602, t603, t604⟩, A100, H⟩ := H
    replace H : ((laws_eqMsg.f t600 t601 t602 t582 t583 t584).bind fun t606 => (if t606 = true then (if t603 = t585 then (laws_FnExactLook.j0 k (t604 != t586) a0_0 a0_1 a0_2 a0_3 a0_4 l0_5 l0_6 t588 t589 t590 t591 t592 t593 t596) else (laws_FnExactLook.j0 k true a0_0 a0_1 a0_2 a0_3 a0_4 l0_5 l0_6 t588 t589 t590 t591 t592 t593 t596)) else (laws_FnExactLook.j0 k true a0_0 a0_1 a0_2 a0_3 a0_4 l0_5 l0_6 t588 t589 t590 t591 t592 t593 t596))) = some r := H
    have A10 := Aside0.mk A100
    clear A100
    have HC11 := Aside0.mk H
    clear H
    go_enter Try.func8, Try.ntmps8
    go_upto_region 8 with (first | ((with_reducible refine gate_dst (N := 1) rfl ?_); refine box_event ?hg (N := 1) ?hd (cs := #[.int .i64 a0_0, .int .i64 a0_1, .string a0_2, .int .i64 a0_3, .bool a0_4, .slice A0_5 l0_5.length c0_5, .slice A0_6 l0_6.length c0_6]) (t := 56) ?hr ?_; (case hd => rfl); (case hg => rfl); (case hr => first | (go_simp; done) | (go_simp; rfl)); intro gb569 hg w12 hbox hb; have n0_ := Aside0.mk (below_step (pkB HB.out) hb); have n1_ := Aside0.mk (hbox); have n2_ := Aside0.mk ((by rw [hg]; exact (below_size (pkB HB.out)) : w.heap.size ≤ gb569)); have n3_ := Aside0.mk ((by rw [hg]; exact (below_size (pkB HB.out)) : w.heap.size ≤ gb569)); clear HB; have HB := n0_; have BK569 := n1_; have GW569 := n2_; have GE569 := n3_; clear n0_ n1_ n2_ n3_; clear hb hbox hg; have hcz13_0 : w12.cell? ⟨gb569, 0, none⟩ = some (.int .i64 a0_0) := (blk_cell BK569.out 0).trans rfl; have hcz13_1 : w12.cell? ⟨gb569, 1, none⟩ = some (.int .i64 a0_1) := (blk_cell BK569.out 1).trans rfl; have hcz13_2 : w12.cell? ⟨gb569, 2, none⟩ = some (.string a0_2) := (blk_cell BK569.out 2).trans rfl; have hcz13_3 : w12.cell? ⟨gb569, 3, none⟩ = some (.int .i64 a0_3) := (blk_cell BK569.out 3).trans rfl; have hcz13_4 : w12.cell? ⟨gb569, 4, none⟩ = some (.bool a0_4) := (blk_cell BK569.out 4).trans rfl; have hcz13_5 : w12.cell? ⟨gb569, 5, none⟩ = some (.slice A0_5 l0_5.length c0_5) := (blk_cell BK569.out 5).trans rfl; have hcz13_6 : w12.cell? ⟨gb569, 6, none⟩ = some (.slice A0_6 l0_6.length c0_6) := (blk_cell BK569.out 6).trans rfl; have hfz13_0 := blk_frozen BK569.out 0; have hfz13_1 := blk_frozen BK569.out 1; have hfz13_2 := blk_frozen BK569.out 2; have hfz13_3 := blk_frozen BK569.out 3; have hfz13_4 := blk_frozen BK569.out 4; have hfz13_5 := blk_frozen BK569.out 5; have hfz13_6 := blk_frozen BK569.out 6) | ((with_reducible refine gate_callee (f := 31) rfl ?_); refine goesL_ (some 13) rfl rfl Try.func31 (by kernel_rfl) rfl #[.agg #[.int .i64 a0_0, .int .i64 a0_1, .string a0_2, .int .i64 a0_3, .bool a0_4, .slice A0_5 l0_5.length c0_5, .slice A0_6 l0_6.length c0_6], .int .i64 1048576] rfl (by (try simp only [List.map_toArray, List.map_cons, List.map_nil]); first | done | rfl | (simp only [List.length_drop, List.length_take]; rfl) | (go_simp; done) | (simp [*]; done)) ?_; (with_reducible refine (laws_szCell.calls a0_0 a0_1 a0_2 a0_3 a0_4 _ _ l0_5 _ _ l0_6 1048576 t570 _ ?side1 ?side2 ?side3 ?side4 A2.out).mono ?_); (case side1 => exact pkC (Kd.C_below HR0_5.out HB.out)); (case side2 => exact HC0_5.out); (case side3 => exact pkC (Kd.C_below HR0_6.out HB.out)); (case side4 => exact HC0_6.out); rintro e w14 ⟨rfl, hb⟩; refine ⟨_, rfl, ?_⟩; have n0_ := Aside0.mk (blk_below (g := gb569) (o := .cells #[.int .i64 a0_0, .int .i64 a0_1, .string a0_2, .int .i64 a0_3, .bool a0_4, .slice A0_5 l0_5.length c0_5, .slice A0_6 l0_6.length c0_6] 56 (0, 0)) (pkK BK569.out) hb); have n1_ := Aside0.mk (below_step (by repeat (first | (with_reducible first | exact HB.out | apply below_alloc | apply pw_below_drewN | apply below_drew1 | refine below_set ?_ GE569.out) | exact HB.out)) hb); clear BK569 HB; have BK569 := n0_; have HB := n1_; clear n0_ n1_; (try clear hb); (try clear hb2); (try clear hk); (try clear hi); have hcz15_0 : w14.cell? ⟨gb569, 0, none⟩ = some (.int .i64 a0_0) := (blk_cell BK569.out 0).trans rfl; have hcz15_1 : w14.cell? ⟨gb569, 1, none⟩ = some (.int .i64 a0_1) := (blk_cell BK569.out 1).trans rfl; have hcz15_2 : w14.cell? ⟨gb569, 2, none⟩ = some (.string a0_2) := (blk_cell BK569.out 2).trans rfl; have hcz15_3 : w14.cell? ⟨gb569, 3, none⟩ = some (.int .i64 a0_3) := (blk_cell BK569.out 3).trans rfl; have hcz15_4 : w14.cell? ⟨gb569, 4, none⟩ = some (.bool a0_4) := (blk_cell BK569.out 4).trans rfl; have hcz15_5 : w14.cell? ⟨gb569, 5, none⟩ = some (.slice A0_5 l0_5.length c0_5) := (blk_cell BK569.out 5).trans rfl; have hcz15_6 : w14.cell? ⟨gb569, 6, none⟩ = some (.slice A0_6 l0_6.length c0_6) := (blk_cell BK569.out 6).trans rfl; have hfz15_0 := blk_frozen BK569.out 0; have hfz15_1 := blk_frozen BK569.out 1; have hfz15_2 := blk_frozen BK569.out 2; have hfz15_3 := blk_frozen BK569.out 3; have hfz15_4 := blk_frozen BK569.out 4; have hfz15_5 := blk_frozen BK569.out 5; have hfz15_6 := blk_frozen BK569.out 6) | ((with_reducible refine gate_callee (f := 32) rfl ?_); refine goesL_ (some 18) rfl rfl Try.func32 (by kernel_rfl) rfl #[.agg #[.int .i64 a0_0, .int .i64 a0_1, .string a0_2, .int .i64 a0_3, .bool a0_4, .slice A0_5 l0_5.length c0_5, .slice A0_6 l0_6.length c0_6]] rfl (by (try simp only [List.map_toArray, List.map_cons, List.map_nil]); first | done | rfl | (simp only [List.length_drop, List.length_take]; rfl) | (go_simp; done) | (simp [*]; done)) ?_; (with_reducible refine (laws_toCell.calls k a0_0 a0_1 a0_2 a0_3 a0_4 _ _ l0_5 _ _ l0_6 t571 t572 t573 t574 t575 t576 t579 _ ?side1 ?side2 ?side3 ?side4 A7.out).mono ?_); (case side1 => exact pkC (Kd.C_below HR0_5.out HB.out)); (case side2 => exact HC0_5.out); (case side3 => exact pkC (Kd.C_below HR0_6.out HB.out)); (case side4 => exact HC0_6.out); rintro e w16 ⟨v577, v580, rfl, ho0, ho1, hb⟩; refine ⟨_, rfl, ?_⟩; have n0_ := Aside0.mk (Kd.R_lower ho0 (below_size (by repeat (first | (with_reducible first | exact HB.out | apply below_alloc | apply pw_below_drewN | apply below_drew1 | refine below_set ?_ GE569.out) | exact HB.out)))); have n1_ := Aside0.mk (Kd.R_lower ho1 (below_size (by repeat (first | (with_reducible first | exact HB.out | apply below_alloc | apply pw_below_drewN | apply below_drew1 | refine below_set ?_ GE569.out) | exact HB.out)))); have n2_ := Aside0.mk (blk_below (g := gb569) (o := .cells #[.int .i64 a0_0, .int .i64 a0_1, .string a0_2, .int .i64 a0_3, .bool a0_4, .slice A0_5 l0_5.length c0_5, .slice A0_6 l0_6.length c0_6] 56 (0, 0)) (pkK BK569.out) hb); have n3_ := Aside0.mk (below_step (by repeat (first | (with_reducible first | exact HB.out | apply below_alloc | apply pw_below_drewN | apply below_drew1 | refine below_set ?_ GE569.out) | exact HB.out)) hb); clear BK569 HB; have HO578 := n0_; have HO581 := n1_; have BK569 := n2_; have HB := n3_; clear n0_ n1_ n2_ n3_; (try clear hb); (try clear hb2); (try clear hk); (try clear hi); (try clear ho0); (try clear ho1); obtain ⟨Ao17, co17, eo17⟩ := Kd.R_slice HO578.out; subst eo17; obtain ⟨Ao18, co18, eo18⟩ := Kd.R_slice HO581.out; subst eo18) | ((with_reducible refine gate_callee (f := 38) rfl ?_); refine goesL_ (some 19) rfl rfl Try.func38 (by kernel_rfl) rfl #[.agg #[.int .i64 t571, .int .i64 t572, .string t573, .int .i64 t574, .bool t575, .slice Ao17 t576.length co17, .slice Ao18 t579.length co18]] rfl (by (try simp only [List.map_toArray, List.map_cons, List.map_nil]); first | done | rfl | (simp only [List.length_drop, List.length_take]; rfl) | (go_simp; done) | (simp [*]; done)) ?_; (with_reducible refine (spec_Look.calls k t571 t572 t573 t574 t575 _ _ t576 _ _ t579 t582 t583 t584 t585 t586 _ ?side1 ?side2 ?side3 ?side4 A8.out).mono ?_); (case side1 => exact pkC (Kd.R_reads' HO578.out).2.2); (case side2 => exact (Kd.R_reads' HO578.out).2.1); (case side3 => exact pkC (Kd.R_reads' HO581.out).2.2); (case side4 => exact (Kd.R_reads' HO581.out).2.1); rintro e w19 ⟨rfl, hb⟩; refine ⟨_, rfl, ?_⟩; have n0_ := Aside0.mk (Kd.R_below (pkR HO578.out) hb); have n1_ := Aside0.mk (Kd.R_below (pkR HO581.out) hb); have n2_ := Aside0.mk (blk_below (g := gb569) (o := .cells #[.int .i64 a0_0, .int .i64 a0_1, .string a0_2, .int .i64 a0_3, .bool a0_4, .slice A0_5 l0_5.length c0_5, .slice A0_6 l0_6.length c0_6] 56 (0, 0)) (pkK BK569.out) hb); have n3_ := Aside0.mk (below_step (by repeat (first | (with_reducible first | exact HB.out | apply below_alloc | apply pw_below_drewN | apply below_drew1 | refine below_set ?_ GE569.out) | exact HB.out)) hb); clear HO578 HO581 BK569 HB; have HO578 := n0_; have HO581 := n1_; have BK569 := n2_; have HB := n3_; clear n0_ n1_ n2_ n3_; (try clear hb); (try clear hb2); (try clear hk); (try clear hi)) | ((with_reducible refine gate_dst (N := 4) rfl ?_); refine box_event ?hg (N := 4) ?hd (cs := #[.int .i64 0, .int .i64 0, .string (⟨#[]⟩ : ByteArray)]) (t := 25) ?hr ?_; (case hd => rfl); (case hg => rfl); (case hr => first | (go_simp; done) | (go_simp; rfl)); intro gb587 hg w20 hbox hb; have n0_ := Aside0.mk (Kd.R_below (pkR HO578.out) hb); have n1_ := Aside0.mk (Kd.R_below (pkR HO581.out) hb); have n2_ := Aside0.mk (blk_below (g := gb569) (o := .cells #[.int .i64 a0_0, .int .i64 a0_1, .string a0_2, .int .i64 a0_3, .bool a0_4, .slice A0_5 l0_5.length c0_5, .slice A0_6 l0_6.length c0_6] 56 (0, 0)) (pkK BK569.out) hb); have n3_ := Aside0.mk (below_step (by repeat (first | (with_reducible first | exact HB.out | apply below_alloc | apply pw_below_drewN | apply below_drew1 | refine below_set ?_ GE569.out) | exact HB.out)) hb); have n4_ := Aside0.mk (hbox); have n5_ := Aside0.mk ((by rw [hg]; exact (below_size (by repeat (first | (with_reducible first | exact HB.out | apply below_alloc | apply pw_below_drewN | apply below_drew1 | refine below_set ?_ GE569.out) | exact HB.out))) : w.heap.size ≤ gb587)); have n6_ := Aside0.mk ((by rw [hg]; exact (below_size (by repeat (first | (with_reducible first | exact HB.out | apply below_alloc | apply pw_below_drewN | apply below_drew1 | refine below_set ?_ GE569.out) | exact HB.out))) : w.heap.size ≤ gb587)); have n7_ := Aside0.mk ((by rw [hg]; exact Nat.ne_of_lt (blk_lt (g := gb569) (o := .cells #[.int .i64 a0_0, .int .i64 a0_1, .string a0_2, .int .i64 a0_3, .bool a0_4, .slice A0_5 l0_5.length c0_5, .slice A0_6 l0_6.length c0_6] 56 (0, 0)) (pkK BK569.out)) : gb569 ≠ gb587)); have n8_ := Aside0.mk ((by rw [hg]; exact Nat.ne_of_gt (blk_lt (g := gb569) (o := .cells #[.int .i64 a0_0, .int .i64 a0_1, .string a0_2, .int .i64 a0_3, .bool a0_4, .slice A0_5 l0_5.length c0_5, .slice A0_6 l0_6.length c0_6] 56 (0, 0)) (pkK BK569.out)) : gb587 ≠ gb569)); clear HO578 HO581 BK569 HB; have HO578 := n0_; have HO581 := n1_; have BK569 := n2_; have HB := n3_; have BK587 := n4_; have GW587 := n5_; have GE587 := n6_; have NB569_587 := n7_; have NB587_569 := n8_; clear n0_ n1_ n2_ n3_ n4_ n5_ n6_ n7_ n8_; clear hb hbox hg; have hnb21 := NB587_569.out; have hnc21 := NB569_587.out; have hcz22_0 : w20.cell? ⟨gb587, 0, none⟩ = some (.int .i64 0) := (blk_cell BK587.out 0).trans rfl; have hcz22_1 : w20.cell? ⟨gb587, 1, none⟩ = some (.int .i64 0) := (blk_cell BK587.out 1).trans rfl; have hcz22_2 : w20.cell? ⟨gb587, 2, none⟩ = some (.string (⟨#[]⟩ : ByteArray)) := (blk_cell BK587.out 2).trans rfl; have hfz22_0 := blk_frozen BK587.out 0; have hfz22_1 := blk_frozen BK587.out 1; have hfz22_2 := blk_frozen BK587.out 2; have hcz23_0 : w20.cell? ⟨gb569, 0, none⟩ = some (.int .i64 a0_0) := (blk_cell BK569.out 0).trans rfl; have hcz23_1 : w20.cell? ⟨gb569, 1, none⟩ = some (.int .i64 a0_1) := (blk_cell BK569.out 1).trans rfl; have hcz23_2 : w20.cell? ⟨gb569, 2, none⟩ = some (.string a0_2) := (blk_cell BK569.out 2).trans rfl; have hcz23_3 : w20.cell? ⟨gb569, 3, none⟩ = some (.int .i64 a0_3) := (blk_cell BK569.out 3).trans rfl; have hcz23_4 : w20.cell? ⟨gb569, 4, none⟩ = some (.bool a0_4) := (blk_cell BK569.out 4).trans rfl; have hcz23_5 : w20.cell? ⟨gb569, 5, none⟩ = some (.slice A0_5 l0_5.length c0_5) := (blk_cell BK569.out 5).trans rfl; have hcz23_6 : w20.cell? ⟨gb569, 6, none⟩ = some (.slice A0_6 l0_6.length c0_6) := (blk_cell BK569.out 6).trans rfl; have hfz23_0 := blk_frozen BK569.out 0; have hfz23_1 := blk_frozen BK569.out 1; have hfz23_2 := blk_frozen BK569.out 2; have hfz23_3 := blk_frozen BK569.out 3; have hfz23_4 := blk_frozen BK569.out 4; have hfz23_5 := blk_frozen BK569.out 5; have hfz23_6 := blk_frozen BK569.out 6) | ((with_reducible refine gate_callee (f := 32) rfl ?_); refine goesL_ (some 24) rfl rfl Try.func32 (by kernel_rfl) rfl #[.agg #[.int .i64 a0_0, .int .i64 a0_1, .string a0_2, .int .i64 a0_3, .bool a0_4, .slice A0_5 l0_5.length c0_5, .slice A0_6 l0_6.length c0_6]] rfl (by (try simp only [List.map_toArray, List.map_cons, List.map_nil]); first | done | rfl | (simp only [List.length_drop, List.length_take]; rfl) | (go_simp; done) | (simp [*]; done)) ?_; (with_reducible refine (laws_toCell.calls k a0_0 a0_1 a0_2 a0_3 a0_4 _ _ l0_5 _ _ l0_6 t588 t589 t590 t591 t592 t593 t596 _ ?side1 ?side2 ?side3 ?side4 A9.out).mono ?_); (case side1 => exact Kd.C_below HR0_5.out (by repeat (first | (with_reducible first | exact HB.out | apply below_alloc | apply pw_below_drewN | apply below_drew1 | refine below_set ?_ GE569.out | refine below_set ?_ GE587.out) | exact HB.out))); (case side2 => exact HC0_5.out); (case side3 => exact Kd.C_below HR0_6.out (by repeat (first | (with_reducible first | exact HB.out | apply below_alloc | apply pw_below_drewN | apply below_drew1 | refine below_set ?_ GE569.out | refine below_set ?_ GE587.out) | exact HB.out))); (case side4 => exact HC0_6.out); rintro e w24 ⟨v594, v597, rfl, ho0, ho1, hb⟩; refine ⟨_, rfl, ?_⟩; have n0_ := Aside0.mk (Kd.R_mono (Kd.R_told (Kd.R_told (Kd.R_old (by (with_reducible repeat (first | apply Kd.R_alloc | apply Kd.R_drewN | apply Kd.R_drew)); exact (Kd.R_mono (Kd.R_far (p := ⟨gb587, 2, none⟩) (Kd.R_far (p := ⟨gb587, 1, none⟩) (Kd.R_far (p := ⟨gb587, 0, none⟩) (Kd.R_types HO578.out BK587.out (by decide)) (fun _ hk => hk.2) (.int .i64 t582)) (fun _ hk => hk.2) (.int .i64 t583)) (fun _ hk => hk.2) (.string t584)) (fun _ h_ => h_.1))) hb) (Kd.R_base ho0)) (Kd.R_base ho1)) (fun _ h_ => h_.1)); have n1_ := Aside0.mk (Kd.R_mono (Kd.R_told (Kd.R_told (Kd.R_old (by (with_reducible repeat (first | apply Kd.R_alloc | apply Kd.R_drewN | apply Kd.R_drew)); exact (Kd.R_mono (Kd.R_far (p := ⟨gb587, 2, none⟩) (Kd.R_far (p := ⟨gb587, 1, none⟩) (Kd.R_far (p := ⟨gb587, 0, none⟩) (Kd.R_types HO581.out BK587.out (by decide)) (fun _ hk => hk.2) (.int .i64 t582)) (fun _ hk => hk.2) (.int .i64 t583)) (fun _ hk => hk.2) (.string t584)) (fun _ h_ => h_.1))) hb) (Kd.R_base ho0)) (Kd.R_base ho1)) (fun _ h_ => h_.1)); have n2_ := Aside0.mk (Kd.R_lower (Kd.R_new' (Kd.R_new' ho0 (Kd.R_lt (by (with_reducible repeat (first | apply Kd.R_alloc | apply Kd.R_drewN | apply Kd.R_drew)); exact (Kd.R_mono (Kd.R_far (p := ⟨gb587, 2, none⟩) (Kd.R_far (p := ⟨gb587, 1, none⟩) (Kd.R_far (p := ⟨gb587, 0, none⟩) (Kd.R_types HO578.out BK587.out (by decide)) (fun _ hk => hk.2) (.int .i64 t582)) (fun _ hk => hk.2) (.int .i64 t583)) (fun _ hk => hk.2) (.string t584)) (fun _ h_ => h_.1))))) (Kd.R_lt (by (with_reducible repeat (first | apply Kd.R_alloc | apply Kd.R_drewN | apply Kd.R_drew)); exact (Kd.R_mono (Kd.R_far (p := ⟨gb587, 2, none⟩) (Kd.R_far (p := ⟨gb587, 1, none⟩) (Kd.R_far (p := ⟨gb587, 0, none⟩) (Kd.R_types HO581.out BK587.out (by decide)) (fun _ hk => hk.2) (.int .i64 t582)) (fun _ hk => hk.2) (.int .i64 t583)) (fun _ hk => hk.2) (.string t584)) (fun _ h_ => h_.1))))) (below_size (by repeat (first | (with_reducible first | exact HB.out | apply below_alloc | apply pw_below_drewN | apply below_drew1 | refine below_set ?_ GE569.out | refine below_set ?_ GE587.out) | exact HB.out)))); have n3_ := Aside0.mk (Kd.R_lower (Kd.R_new' (Kd.R_new' ho1 (Kd.R_lt (by (with_reducible repeat (first | apply Kd.R_alloc | apply Kd.R_drewN | apply Kd.R_drew)); exact (Kd.R_mono (Kd.R_far (p := ⟨gb587, 2, none⟩) (Kd.R_far (p := ⟨gb587, 1, none⟩) (Kd.R_far (p := ⟨gb587, 0, none⟩) (Kd.R_types HO578.out BK587.out (by decide)) (fun _ hk => hk.2) (.int .i64 t582)) (fun _ hk => hk.2) (.int .i64 t583)) (fun _ hk => hk.2) (.string t584)) (fun _ h_ => h_.1))))) (Kd.R_lt (by (with_reducible repeat (first | apply Kd.R_alloc | apply Kd.R_drewN | apply Kd.R_drew)); exact (Kd.R_mono (Kd.R_far (p := ⟨gb587, 2, none⟩) (Kd.R_far (p := ⟨gb587, 1, none⟩) (Kd.R_far (p := ⟨gb587, 0, none⟩) (Kd.R_types HO581.out BK587.out (by decide)) (fun _ hk => hk.2) (.int .i64 t582)) (fun _ hk => hk.2) (.int .i64 t583)) (fun _ hk => hk.2) (.string t584)) (fun _ h_ => h_.1))))) (below_size (by repeat (first | (with_reducible first | exact HB.out | apply below_alloc | apply pw_below_drewN | apply below_drew1 | refine below_set ?_ GE569.out | refine below_set ?_ GE587.out) | exact HB.out)))); have n4_ := Aside0.mk (blk_below (g := gb569) (o := .cells #[.int .i64 a0_0, .int .i64 a0_1, .string a0_2, .int .i64 a0_3, .bool a0_4, .slice A0_5 l0_5.length c0_5, .slice A0_6 l0_6.length c0_6] 56 (0, 0)) (by (with_reducible repeat (first | refine blk_drewN ?_ _ | refine blk_drew ?_ | refine blk_alloc ?_ _)); refine blk_far ?_ NB569_587.out _; (with_reducible repeat (first | refine blk_drewN ?_ _ | refine blk_drew ?_ | refine blk_alloc ?_ _)); refine blk_far ?_ NB569_587.out _; (with_reducible repeat (first | refine blk_drewN ?_ _ | refine blk_drew ?_ | refine blk_alloc ?_ _)); refine blk_far ?_ NB569_587.out _; (with_reducible repeat (first | refine blk_drewN ?_ _ | refine blk_drew ?_ | refine blk_alloc ?_ _)); exact BK569.out) hb); have n5_ := Aside0.mk (blk_below (g := gb587) (o := .cells #[.int .i64 t582, .int .i64 t583, .string t584] 25 (0, 0)) (by (with_reducible repeat (first | refine blk_drewN ?_ _ | refine blk_drew ?_ | refine blk_alloc ?_ _)); refine blk_put (cs := #[.int .i64 t582, .int .i64 t583, .string (⟨#[]⟩ : ByteArray)]) ?_ 2 _ rfl; (with_reducible repeat (first | refine blk_drewN ?_ _ | refine blk_drew ?_ | refine blk_alloc ?_ _)); refine blk_put (cs := #[.int .i64 t582, .int .i64 0, .string (⟨#[]⟩ : ByteArray)]) ?_ 1 _ rfl; (with_reducible repeat (first | refine blk_drewN ?_ _ | refine blk_drew ?_ | refine blk_alloc ?_ _)); refine blk_put (cs := #[.int .i64 0, .int .i64 0, .string (⟨#[]⟩ : ByteArray)]) ?_ 0 _ rfl; (with_reducible repeat (first | refine blk_drewN ?_ _ | refine blk_drew ?_ | refine blk_alloc ?_ _)); exact BK587.out) hb); have n6_ := Aside0.mk (below_step (by repeat (first | (with_reducible first | exact HB.out | apply below_alloc | apply pw_below_drewN | apply below_drew1 | refine below_set ?_ GE569.out | refine below_set ?_ GE587.out) | exact HB.out)) hb); clear HO578 HO581 BK569 BK587 HB; have HO578 := n0_; have HO581 := n1_; have HO595 := n2_; have HO598 := n3_; have BK569 := n4_; have BK587 := n5_; have HB := n6_; clear n0_ n1_ n2_ n3_ n4_ n5_ n6_; (try clear hb); (try clear hb2); (try clear hk); (try clear hi); (try clear ho0); (try clear ho1)) | ((with_reducible refine gate_dst (N := 7) rfl ?_); refine box_event ?hg (N := 7) ?hd (cs := #[.int .i64 0, .int .i64 0, .string (⟨#[]⟩ : ByteArray), .int .i64 0, .bool false, .slice none 0 0, .slice none 0 0]) (t := 29) ?hr ?_; (case hd => rfl); (case hg => rfl); (case hr => first | (go_simp; done) | (go_simp; rfl)); intro gb599 hg w25 hbox hb; have n0_ := Aside0.mk (Kd.R_below (pkR HO578.out) hb); have n1_ := Aside0.mk (Kd.R_below (pkR HO581.out) hb); have n2_ := Aside0.mk (Kd.R_below (pkR HO595.out) hb); have n3_ := Aside0.mk (Kd.R_below (pkR HO598.out) hb); have n4_ := Aside0.mk (blk_below (g := gb569) (o := .cells #[.int .i64 a0_0, .int .i64 a0_1, .string a0_2, .int .i64 a0_3, .bool a0_4, .slice A0_5 l0_5.length c0_5, .slice A0_6 l0_6.length c0_6] 56 (0, 0)) (pkK BK569.out) hb); have n5_ := Aside0.mk (blk_below (g := gb587) (o := .cells #[.int .i64 t582, .int .i64 t583, .string t584] 25 (0, 0)) (pkK BK587.out) hb); have n6_ := Aside0.mk (below_step (by repeat (first | (with_reducible first | exact HB.out | apply below_alloc | apply pw_below_drewN | apply below_drew1 | refine below_set ?_ GE569.out | refine below_set ?_ GE587.out) | exact HB.out)) hb); have n7_ := Aside0.mk (hbox); have n8_ := Aside0.mk ((by rw [hg]; exact (below_size (by repeat (first | (with_reducible first | exact HB.out | apply below_alloc | apply pw_below_drewN | apply below_drew1 | refine below_set ?_ GE569.out | refine below_set ?_ GE587.out) | exact HB.out))) : w.heap.size ≤ gb599)); have n9_ := Aside0.mk ((by rw [hg]; exact (below_size (by repeat (first | (with_reducible first | exact HB.out | apply below_alloc | apply pw_below_drewN | apply below_drew1 | refine below_set ?_ GE569.out | refine below_set ?_ GE587.out) | exact HB.out))) : w.heap.size ≤ gb599)); have n10_ := Aside0.mk ((by rw [hg]; exact Nat.ne_of_lt (blk_lt (g := gb569) (o := .cells #[.int .i64 a0_0, .int .i64 a0_1, .string a0_2, .int .i64 a0_3, .bool a0_4, .slice A0_5 l0_5.length c0_5, .slice A0_6 l0_6.length c0_6] 56 (0, 0)) (pkK BK569.out)) : gb569 ≠ gb599)); have n11_ := Aside0.mk ((by rw [hg]; exact Nat.ne_of_gt (blk_lt (g := gb569) (o := .cells #[.int .i64 a0_0, .int .i64 a0_1, .string a0_2, .int .i64 a0_3, .bool a0_4, .slice A0_5 l0_5.length c0_5, .slice A0_6 l0_6.length c0_6] 56 (0, 0)) (pkK BK569.out)) : gb599 ≠ gb569)); have n12_ := Aside0.mk ((by rw [hg]; exact Nat.ne_of_lt (blk_lt (g := gb587) (o := .cells #[.int .i64 t582, .int .i64 t583, .string t584] 25 (0, 0)) (pkK BK587.out)) : gb587 ≠ gb599)); have n13_ := Aside0.mk ((by rw [hg]; exact Nat.ne_of_gt (blk_lt (g := gb587) (o := .cells #[.int .i64 t582, .int .i64 t583, .string t584] 25 (0, 0)) (pkK BK587.out)) : gb599 ≠ gb587)); clear HO578 HO581 HO595 HO598 BK569 BK587 HB; have HO578 := n0_; have HO581 := n1_; have HO595 := n2_; have HO598 := n3_; have BK569 := n4_; have BK587 := n5_; have HB := n6_; have BK599 := n7_; have GW599 := n8_; have GE599 := n9_; have NB569_599 := n10_; have NB599_569 := n11_; have NB587_599 := n12_; have NB599_587 := n13_; clear n0_ n1_ n2_ n3_ n4_ n5_ n6_ n7_ n8_ n9_ n10_ n11_ n12_ n13_; clear hb hbox hg; have hnb26 := NB599_569.out; have hnc26 := NB569_599.out; have hnb27 := NB599_587.out; have hnc27 := NB587_599.out; have hcz28_0 : w25.cell? ⟨gb599, 0, none⟩ = some (.int .i64 0) := (blk_cell BK599.out 0).trans rfl; have hcz28_1 : w25.cell? ⟨gb599, 1, none⟩ = some (.int .i64 0) := (blk_cell BK599.out 1).trans rfl; have hcz28_2 : w25.cell? ⟨gb599, 2, none⟩ = some (.string (⟨#[]⟩ : ByteArray)) := (blk_cell BK599.out 2).trans rfl; have hcz28_3 : w25.cell? ⟨gb599, 3, none⟩ = some (.int .i64 0) := (blk_cell BK599.out 3).trans rfl; have hcz28_4 : w25.cell? ⟨gb599, 4, none⟩ = some (.bool false) := (blk_cell BK599.out 4).trans rfl; have hcz28_5 : w25.cell? ⟨gb599, 5, none⟩ = some (.slice none 0 0) := (blk_cell BK599.out 5).trans rfl; have hcz28_6 : w25.cell? ⟨gb599, 6, none⟩ = some (.slice none 0 0) := (blk_cell BK599.out 6).trans rfl; have hfz28_0 := blk_frozen BK599.out 0; have hfz28_1 := blk_frozen BK599.out 1; have hfz28_2 := blk_frozen BK599.out 2; have hfz28_3 := blk_frozen BK599.out 3; have hfz28_4 := blk_frozen BK599.out 4; have hfz28_5 := blk_frozen BK599.out 5; have hfz28_6 := blk_frozen BK599.out 6; obtain ⟨Ao29, co29, eo29⟩ := Kd.R_slice HO595.out; subst eo29; obtain ⟨Ao30, co30, eo30⟩ := Kd.R_slice HO598.out; subst eo30) | ((with_reducible refine gate_callee (f := 21) rfl ?_); refine goesL_ (some 27) rfl rfl Try.func21 (by kernel_rfl) rfl #[.agg #[.int .i64 t588, .int .i64 t589, .string t590, .int .i64 t591, .bool t592, .slice Ao29 t593.length co29, .slice Ao30 t596.length co30]] rfl (by (try simp only [List.map_toArray, List.map_cons, List.map_nil]); first | done | rfl | (simp only [List.length_drop, List.length_take]; rfl) | (go_simp; done) | (simp [*]; done)) ?_; (with_reducible refine (impl_Look.calls k t588 t589 t590 t591 t592 _ _ t593 _ _ t596 t600 t601 t602 t603 t604 _ ?side1 ?side2 ?side3 ?side4 A10.out).mono ?_); (case side1 => refine (Kd.R_reads' (e := 3) (base := w.heap.size) (ok := fun k_ => ((some k_ ≠ (.slice Ao30 t596.length co30 : Value).ownBlock ∧ some k_ ≠ (.slice Ao17 t576.length co17 : Value).ownBlock) ∧ some k_ ≠ (.slice Ao18 t579.length co18 : Value).ownBlock)) (n := t593.length) (c := co29) ?_).2.2; exact (by (with_reducible repeat (first | apply Kd.R_alloc | apply Kd.R_drewN | apply Kd.R_drew)); exact (Kd.R_mono (Kd.R_far (p := ⟨gb599, 6, none⟩) (Kd.R_far (p := ⟨gb599, 5, none⟩) (Kd.R_far (p := ⟨gb599, 4, none⟩) (Kd.R_far (p := ⟨gb599, 3, none⟩) (Kd.R_far (p := ⟨gb599, 2, none⟩) (Kd.R_far (p := ⟨gb599, 1, none⟩) (Kd.R_far (p := ⟨gb599, 0, none⟩) (Kd.R_types HO595.out BK599.out (by decide)) (fun _ hk => hk.2) (.int .i64 t588)) (fun _ hk => hk.2) (.int .i64 t589)) (fun _ hk => hk.2) (.string t590)) (fun _ hk => hk.2) (.int .i64 t591)) (fun _ hk => hk.2) (.bool t592)) (fun _ hk => hk.2) (.slice Ao29 t593.length co29)) (fun _ hk => hk.2) (.slice Ao30 t596.length co30)) (fun _ h_ => h_.1)))); (case side2 => exact (Kd.R_reads' HO595.out).2.1); (case side3 => refine (Kd.R_reads' (e := 3) (base := w.heap.size) (ok := fun k_ => ((some k_ ≠ (.slice Ao29 t593.length co29 : Value).ownBlock ∧ some k_ ≠ (.slice Ao17 t576.length co17 : Value).ownBlock) ∧ some k_ ≠ (.slice Ao18 t579.length co18 : Value).ownBlock)) (n := t596.length) (c := co30) ?_).2.2; exact (by (with_reducible repeat (first | apply Kd.R_alloc | apply Kd.R_drewN | apply Kd.R_drew)); exact (Kd.R_mono (Kd.R_far (p := ⟨gb599, 6, none⟩) (Kd.R_far (p := ⟨gb599, 5, none⟩) (Kd.R_far (p := ⟨gb599, 4, none⟩) (Kd.R_far (p := ⟨gb599, 3, none⟩) (Kd.R_far (p := ⟨gb599, 2, none⟩) (Kd.R_far (p := ⟨gb599, 1, none⟩) (Kd.R_far (p := ⟨gb599, 0, none⟩) (Kd.R_types HO598.out BK599.out (by decide)) (fun _ hk => hk.2) (.int .i64 t588)) (fun _ hk => hk.2) (.int .i64 t589)) (fun _ hk => hk.2) (.string t590)) (fun _ hk => hk.2) (.int .i64 t591)) (fun _ hk => hk.2) (.bool t592)) (fun _ hk => hk.2) (.slice Ao29 t593.length co29)) (fun _ hk => hk.2) (.slice Ao30 t596.length co30)) (fun _ h_ => h_.1)))); (case side4 => exact (Kd.R_reads' HO598.out).2.1); rintro e w31 ⟨rfl, hb⟩; refine ⟨_, rfl, ?_⟩; have n0_ := Aside0.mk (Kd.R_below (by (with_reducible repeat (first | apply Kd.R_alloc | apply Kd.R_drewN | apply Kd.R_drew)); exact (Kd.R_mono (Kd.R_far (p := ⟨gb599, 6, none⟩) (Kd.R_far (p := ⟨gb599, 5, none⟩) (Kd.R_far (p := ⟨gb599, 4, none⟩) (Kd.R_far (p := ⟨gb599, 3, none⟩) (Kd.R_far (p := ⟨gb599, 2, none⟩) (Kd.R_far (p := ⟨gb599, 1, none⟩) (Kd.R_far (p := ⟨gb599, 0, none⟩) (Kd.R_types HO578.out BK599.out (by decide)) (fun _ hk => hk.2) (.int .i64 t588)) (fun _ hk => hk.2) (.int .i64 t589)) (fun _ hk => hk.2) (.string t590)) (fun _ hk => hk.2) (.int .i64 t591)) (fun _ hk => hk.2) (.bool t592)) (fun _ hk => hk.2) (.slice Ao29 t593.length co29)) (fun _ hk => hk.2) (.slice Ao30 t596.length co30)) (fun _ h_ => h_.1))) hb); have n1_ := Aside0.mk (Kd.R_below (by (with_reducible repeat (first | apply Kd.R_alloc | apply Kd.R_drewN | apply Kd.R_drew)); exact (Kd.R_mono (Kd.R_far (p := ⟨gb599, 6, none⟩) (Kd.R_far (p := ⟨gb599, 5, none⟩) (Kd.R_far (p := ⟨gb599, 4, none⟩) (Kd.R_far (p := ⟨gb599, 3, none⟩) (Kd.R_far (p := ⟨gb599, 2, none⟩) (Kd.R_far (p := ⟨gb599, 1, none⟩) (Kd.R_far (p := ⟨gb599, 0, none⟩) (Kd.R_types HO581.out BK599.out (by decide)) (fun _ hk => hk.2) (.int .i64 t588)) (fun _ hk => hk.2) (.int .i64 t589)) (fun _ hk => hk.2) (.string t590)) (fun _ hk => hk.2) (.int .i64 t591)) (fun _ hk => hk.2) (.bool t592)) (fun _ hk => hk.2) (.slice Ao29 t593.length co29)) (fun _ hk => hk.2) (.slice Ao30 t596.length co30)) (fun _ h_ => h_.1))) hb); have n2_ := Aside0.mk (Kd.R_below (by (with_reducible repeat (first | apply Kd.R_alloc | apply Kd.R_drewN | apply Kd.R_drew)); exact (Kd.R_mono (Kd.R_far (p := ⟨gb599, 6, none⟩) (Kd.R_far (p := ⟨gb599, 5, none⟩) (Kd.R_far (p := ⟨gb599, 4, none⟩) (Kd.R_far (p := ⟨gb599, 3, none⟩) (Kd.R_far (p := ⟨gb599, 2, none⟩) (Kd.R_far (p := ⟨gb599, 1, none⟩) (Kd.R_far (p := ⟨gb599, 0, none⟩) (Kd.R_types HO595.out BK599.out (by decide)) (fun _ hk => hk.2) (.int .i64 t588)) (fun _ hk => hk.2) (.int .i64 t589)) (fun _ hk => hk.2) (.string t590)) (fun _ hk => hk.2) (.int .i64 t591)) (fun _ hk => hk.2) (.bool t592)) (fun _ hk => hk.2) (.slice Ao29 t593.length co29)) (fun _ hk => hk.2) (.slice Ao30 t596.length co30)) (fun _ h_ => h_.1))) hb); have n3_ := Aside0.mk (Kd.R_below (by (with_reducible repeat (first | apply Kd.R_alloc | apply Kd.R_drewN | apply Kd.R_drew)); exact (Kd.R_mono (Kd.R_far (p := ⟨gb599, 6, none⟩) (Kd.R_far (p := ⟨gb599, 5, none⟩) (Kd.R_far (p := ⟨gb599, 4, none⟩) (Kd.R_far (p := ⟨gb599, 3, none⟩) (Kd.R_far (p := ⟨gb599, 2, none⟩) (Kd.R_far (p := ⟨gb599, 1, none⟩) (Kd.R_far (p := ⟨gb599, 0, none⟩) (Kd.R_types HO598.out BK599.out (by decide)) (fun _ hk => hk.2) (.int .i64 t588)) (fun _ hk => hk.2) (.int .i64 t589)) (fun _ hk => hk.2) (.string t590)) (fun _ hk => hk.2) (.int .i64 t591)) (fun _ hk => hk.2) (.bool t592)) (fun _ hk => hk.2) (.slice Ao29 t593.length co29)) (fun _ hk => hk.2) (.slice Ao30 t596.length co30)) (fun _ h_ => h_.1))) hb); have n4_ := Aside0.mk (blk_below (g := gb569) (o := .cells #[.int .i64 a0_0, .int .i64 a0_1, .string a0_2, .int .i64 a0_3, .bool a0_4, .slice A0_5 l0_5.length c0_5, .slice A0_6 l0_6.length c0_6] 56 (0, 0)) (by (with_reducible repeat (first | refine blk_drewN ?_ _ | refine blk_drew ?_ | refine blk_alloc ?_ _)); refine blk_far ?_ NB569_599.out _; (with_reducible repeat (first | refine blk_drewN ?_ _ | refine blk_drew ?_ | refine blk_alloc ?_ _)); refine blk_far ?_ NB569_599.out _; (with_reducible repeat (first | refine blk_drewN ?_ _ | refine blk_drew ?_ | refine blk_alloc ?_ _)); refine blk_far ?_ NB569_599.out _; (with_reducible repeat (first | refine blk_drewN ?_ _ | refine blk_drew ?_ | refine blk_alloc ?_ _)); refine blk_far ?_ NB569_599.out _; (with_reducible repeat (first | refine blk_drewN ?_ _ | refine blk_drew ?_ | refine blk_alloc ?_ _)); refine blk_far ?_ NB569_599.out _; (with_reducible repeat (first | refine blk_drewN ?_ _ | refine blk_drew ?_ | refine blk_alloc ?_ _)); refine blk_far ?_ NB569_599.out _; (with_reducible repeat (first | refine blk_drewN ?_ _ | refine blk_drew ?_ | refine blk_alloc ?_ _)); refine blk_far ?_ NB569_599.out _; (with_reducible repeat (first | refine blk_drewN ?_ _ | refine blk_drew ?_ | refine blk_alloc ?_ _)); exact BK569.out) hb); have n5_ := Aside0.mk (blk_below (g := gb587) (o := .cells #[.int .i64 t582, .int .i64 t583, .string t584] 25 (0, 0)) (by (with_reducible repeat (first | refine blk_drewN ?_ _ | refine blk_drew ?_ | refine blk_alloc ?_ _)); refine blk_far ?_ NB587_599.out _; (with_reducible repeat (first | refine blk_drewN ?_ _ | refine blk_drew ?_ | refine blk_alloc ?_ _)); refine blk_far ?_ NB587_599.out _; (with_reducible repeat (first | refine blk_drewN ?_ _ | refine blk_drew ?_ | refine blk_alloc ?_ _)); refine blk_far ?_ NB587_599.out _; (with_reducible repeat (first | refine blk_drewN ?_ _ | refine blk_drew ?_ | refine blk_alloc ?_ _)); refine blk_far ?_ NB587_599.out _; (with_reducible repeat (first | refine blk_drewN ?_ _ | refine blk_drew ?_ | refine blk_alloc ?_ _)); refine blk_far ?_ NB587_599.out _; (with_reducible repeat (first | refine blk_drewN ?_ _ | refine blk_drew ?_ | refine blk_alloc ?_ _)); refine blk_far ?_ NB587_599.out _; (with_reducible repeat (first | refine blk_drewN ?_ _ | refine blk_drew ?_ | refine blk_alloc ?_ _)); refine blk_far ?_ NB587_599.out _; (with_reducible repeat (first | refine blk_drewN ?_ _ | refine blk_drew ?_ | refine blk_alloc ?_ _)); exact BK587.out) hb); have n6_ := Aside0.mk (blk_below (g := gb599) (o := .cells #[.int .i64 t588, .int .i64 t589, .string t590, .int .i64 t591, .bool t592, .slice Ao29 t593.length co29, .slice Ao30 t596.length co30] 29 (0, 0)) (by (with_reducible repeat (first | refine blk_drewN ?_ _ | refine blk_drew ?_ | refine blk_alloc ?_ _)); refine blk_put (cs := #[.int .i64 t588, .int .i64 t589, .string t590, .int .i64 t591, .bool t592, .slice Ao29 t593.length co29, .slice none 0 0]) ?_ 6 _ rfl; (with_reducible repeat (first | refine blk_drewN ?_ _ | refine blk_drew ?_ | refine blk_alloc ?_ _)); refine blk_put (cs := #[.int .i64 t588, .int .i64 t589, .string t590, .int .i64 t591, .bool t592, .slice none 0 0, .slice none 0 0]) ?_ 5 _ rfl; (with_reducible repeat (first | refine blk_drewN ?_ _ | refine blk_drew ?_ | refine blk_alloc ?_ _)); refine blk_put (cs := #[.int .i64 t588, .int .i64 t589, .string t590, .int .i64 t591, .bool false, .slice none 0 0, .slice none 0 0]) ?_ 4 _ rfl; (with_reducible repeat (first | refine blk_drewN ?_ _ | refine blk_drew ?_ | refine blk_alloc ?_ _)); refine blk_put (cs := #[.int .i64 t588, .int .i64 t589, .string t590, .int .i64 0, .bool false, .slice none 0 0, .slice none 0 0]) ?_ 3 _ rfl; (with_reducible repeat (first | refine blk_drewN ?_ _ | refine blk_drew ?_ | refine blk_alloc ?_ _)); refine blk_put (cs := #[.int .i64 t588, .int .i64 t589, .string (⟨#[]⟩ : ByteArray), .int .i64 0, .bool false, .slice none 0 0, .slice none 0 0]) ?_ 2 _ rfl; (with_reducible repeat (first | refine blk_drewN ?_ _ | refine blk_drew ?_ | refine blk_alloc ?_ _)); refine blk_put (cs := #[.int .i64 t588, .int .i64 0, .string (⟨#[]⟩ : ByteArray), .int .i64 0, .bool false, .slice none 0 0, .slice none 0 0]) ?_ 1 _ rfl; (with_reducible repeat (first | refine blk_drewN ?_ _ | refine blk_drew ?_ | refine blk_alloc ?_ _)); refine blk_put (cs := #[.int .i64 0, .int .i64 0, .string (⟨#[]⟩ : ByteArray), .int .i64 0, .bool false, .slice none 0 0, .slice none 0 0]) ?_ 0 _ rfl; (with_reducible repeat (first | refine blk_drewN ?_ _ | refine blk_drew ?_ | refine blk_alloc ?_ _)); exact BK599.out) hb); have n7_ := Aside0.mk (below_step (by repeat (first | (with_reducible first | exact HB.out | apply below_alloc | apply pw_below_drewN | apply below_drew1 | refine below_set ?_ GE569.out | refine below_set ?_ GE587.out | refine below_set ?_ GE599.out) | exact HB.out)) hb); clear HO578 HO581 HO595 HO598 BK569 BK587 BK599 HB; have HO578 := n0_; have HO581 := n1_; have HO595 := n2_; have HO598 := n3_; have BK569 := n4_; have BK587 := n5_; have BK599 := n6_; have HB := n7_; clear n0_ n1_ n2_ n3_ n4_ n5_ n6_ n7_; (try clear hb); (try clear hb2); (try clear hk); (try clear hi)) | ((with_reducible refine gate_dst (N := 8) rfl ?_); refine box_event ?hg (N := 8) ?hd (cs := #[.int .i64 0, .int .i64 0, .string (⟨#[]⟩ : ByteArray)]) (t := 25) ?hr ?_; (case hd => rfl); (case hg => rfl); (case hr => first | (go_simp; done) | (go_simp; rfl)); intro gb605 hg w32 hbox hb; have n0_ := Aside0.mk (Kd.R_below (pkR HO578.out) hb); have n1_ := Aside0.mk (Kd.R_below (pkR HO581.out) hb); have n2_ := Aside0.mk (Kd.R_below (pkR HO595.out) hb); have n3_ := Aside0.mk (Kd.R_below (pkR HO598.out) hb); have n4_ := Aside0.mk (blk_below (g := gb569) (o := .cells #[.int .i64 a0_0, .int .i64 a0_1, .string a0_2, .int .i64 a0_3, .bool a0_4, .slice A0_5 l0_5.length c0_5, .slice A0_6 l0_6.length c0_6] 56 (0, 0)) (pkK BK569.out) hb); have n5_ := Aside0.mk (blk_below (g := gb587) (o := .cells #[.int .i64 t582, .int .i64 t583, .string t584] 25 (0, 0)) (pkK BK587.out) hb); have n6_ := Aside0.mk (blk_below (g := gb599) (o := .cells #[.int .i64 t588, .int .i64 t589, .string t590, .int .i64 t591, .bool t592, .slice Ao29 t593.length co29, .slice Ao30 t596.length co30] 29 (0, 0)) (pkK BK599.out) hb); have n7_ := Aside0.mk (below_step (by repeat (first | (with_reducible first | exact HB.out | apply below_alloc | apply pw_below_drewN | apply below_drew1 | refine below_set ?_ GE569.out | refine below_set ?_ GE587.out | refine below_set ?_ GE599.out) | exact HB.out)) hb); have n8_ := Aside0.mk (hbox); have n9_ := Aside0.mk ((by rw [hg]; exact (below_size (by repeat (first | (with_reducible first | exact HB.out | apply below_alloc | apply pw_below_drewN | apply below_drew1 | refine below_set ?_ GE569.out | refine below_set ?_ GE587.out | refine below_set ?_ GE599.out) | exact HB.out))) : w.heap.size ≤ gb605)); have n10_ := Aside0.mk ((by rw [hg]; exact (below_size (by repeat (first | (with_reducible first | exact HB.out | apply below_alloc | apply pw_below_drewN | apply below_drew1 | refine below_set ?_ GE569.out | refine below_set ?_ GE587.out | refine below_set ?_ GE599.out) | exact HB.out))) : w.heap.size ≤ gb605)); have n11_ := Aside0.mk ((by rw [hg]; exact Nat.ne_of_lt (blk_lt (g := gb569) (o := .cells #[.int .i64 a0_0, .int .i64 a0_1, .string a0_2, .int .i64 a0_3, .bool a0_4, .slice A0_5 l0_5.length c0_5, .slice A0_6 l0_6.length c0_6] 56 (0, 0)) (pkK BK569.out)) : gb569 ≠ gb605)); have n12_ := Aside0.mk ((by rw [hg]; exact Nat.ne_of_gt (blk_lt (g := gb569) (o := .cells #[.int .i64 a0_0, .int .i64 a0_1, .string a0_2, .int .i64 a0_3, .bool a0_4, .slice A0_5 l0_5.length c0_5, .slice A0_6 l0_6.length c0_6] 56 (0, 0)) (pkK BK569.out)) : gb605 ≠ gb569)); have n13_ := Aside0.mk ((by rw [hg]; exact Nat.ne_of_lt (blk_lt (g := gb587) (o := .cells #[.int .i64 t582, .int .i64 t583, .string t584] 25 (0, 0)) (pkK BK587.out)) : gb587 ≠ gb605)); have n14_ := Aside0.mk ((by rw [hg]; exact Nat.ne_of_gt (blk_lt (g := gb587) (o := .cells #[.int .i64 t582, .int .i64 t583, .string t584] 25 (0, 0)) (pkK BK587.out)) : gb605 ≠ gb587)); have n15_ := Aside0.mk ((by rw [hg]; exact Nat.ne_of_lt (blk_lt (g := gb599) (o := .cells #[.int .i64 t588, .int .i64 t589, .string t590, .int .i64 t591, .bool t592, .slice Ao29 t593.length co29, .slice Ao30 t596.length co30] 29 (0, 0)) (pkK BK599.out)) : gb599 ≠ gb605)); have n16_ := Aside0.mk ((by rw [hg]; exact Nat.ne_of_gt (blk_lt (g := gb599) (o := .cells #[.int .i64 t588, .int .i64 t589, .string t590, .int .i64 t591, .bool t592, .slice Ao29 t593.length co29, .slice Ao30 t596.length co30] 29 (0, 0)) (pkK BK599.out)) : gb605 ≠ gb599)); clear HO578 HO581 HO595 HO598 BK569 BK587 BK599 HB; have HO578 := n0_; have HO581 := n1_; have HO595 := n2_; have HO598 := n3_; have BK569 := n4_; have BK587 := n5_; have BK599 := n6_; have HB := n7_; have BK605 := n8_; have GW605 := n9_; have GE605 := n10_; have NB569_605 := n11_; have NB605_569 := n12_; have NB587_605 := n13_; have NB605_587 := n14_; have NB599_605 := n15_; have NB605_599 := n16_; clear n0_ n1_ n2_ n3_ n4_ n5_ n6_ n7_ n8_ n9_ n10_ n11_ n12_ n13_ n14_ n15_ n16_; clear hb hbox hg; have hnb33 := NB605_569.out; have hnc33 := NB569_605.out; have hnb34 := NB605_587.out; have hnc34 := NB587_605.out; have hnb35 := NB605_599.out; have hnc35 := NB599_605.out; have hcz36_0 : w32.cell? ⟨gb605, 0, none⟩ = some (.int .i64 0) := (blk_cell BK605.out 0).trans rfl; have hcz36_1 : w32.cell? ⟨gb605, 1, none⟩ = some (.int .i64 0) := (blk_cell BK605.out 1).trans rfl; have hcz36_2 : w32.cell? ⟨gb605, 2, none⟩ = some (.string (⟨#[]⟩ : ByteArray)) := (blk_cell BK605.out 2).trans rfl; have hfz36_0 := blk_frozen BK605.out 0; have hfz36_1 := blk_frozen BK605.out 1; have hfz36_2 := blk_frozen BK605.out 2))
    (try simp only [Act.put, List.setIfInBounds_toArray, List.set_cons_zero, List.set_cons_succ])
    go_cut [44] (fun v44 wc => ∃ (kq : Nat) (x44_10 : Bool), v44 = .bool x44_10 ∧ Aside0 (laws_FnExactLook.j0 kq x44_10 a0_0 a0_1 a0_2 a0_3 a0_4 l0_5 l0_6 t588 t589 t590 t591 t592 t593 t596 = some r) ∧ Aside0 (kq ≤ k) ∧ Aside0 (Kd.R (Kd.int .i64) 3 wc w.heap.size (fun k_ => some k_ ≠ ((.slice Ao30 t596.length co30) : Value).ownBlock) (.slice Ao29 t593.length co29) t593) ∧ Aside0 (Kd.R (Kd.int .i64) 3 wc w.heap.size (fun k_ => some k_ ≠ ((.slice Ao29 t593.length co29) : Value).ownBlock) (.slice Ao30 t596.length co30) t596) ∧ Aside0 (wc.heap[gb569]? = some (.cells #[.int .i64 a0_0, .int .i64 a0_1, .string a0_2, .int .i64 a0_3, .bool a0_4, (.slice A0_5 l0_5.length c0_5), (.slice A0_6 l0_6.length c0_6)] 56 (0, 0))) ∧ Aside0 (wc.heap[gb587]? = some (.cells #[.int .i64 t582, .int .i64 t583, .string t584] 25 (0, 0))) ∧ Aside0 (wc.heap[gb599]? = some (.cells #[.int .i64 t588, .int .i64 t589, .string t590, .int .i64 t591, .bool t592, (.slice Ao29 t593.length co29), (.slice Ao30 t596.length co30)] 29 (0, 0))) ∧ Aside0 (wc.heap[gb605]? = some (.cells #[.int .i64 t600, .int .i64 t601, .string t602] 25 (0, 0))) ∧ Aside0 (Below w.heap.size w wc))
    case first =>
      have H := HC11.out
      clear HC11
      replace H := Option.bind_eq_some_iff.mp H
      obtain ⟨t606, A370, H⟩ := H
      replace H : (if t606 = true then (if t603 = t585 then (laws_FnExactLook.j0 k (t604 != t586) a0_0 a0_1 a0_2 a0_3 a0_4 l0_5 l0_6 t588 t589 t590 t591 t592 t593 t596) else (laws_FnExactLook.j0 k true a0_0 a0_1 a0_2 a0_3 a0_4 l0_5 l0_6 t588 t589 t590 t591 t592 t593 t596)) else (laws_FnExactLook.j0 k true a0_0 a0_1 a0_2 a0_3 a0_4 l0_5 l0_6 t588 t589 t590 t591 t592 t593 t596)) = some r := H
      have A37 := Aside0.mk A370
      clear A370
      by_cases c38 : t606 = true
      · subst c38
        have H1 : (if t603 = t585 then (laws_FnExactLook.j0 k (t604 != t586) a0_0 a0_1 a0_2 a0_3 a0_4 l0_5 l0_6 t588 t589 t590 t591 t592 t593 t596) else (laws_FnExactLook.j0 k true a0_0 a0_1 a0_2 a0_3 a0_4 l0_5 l0_6 t588 t589 t590 t591 t592 t593 t596)) = some r := by rw [if_pos rfl] at H; exact H
        clear H
        have H := H1
        clear H1
        by_cases c39 : t603 = t585
        · rw [if_pos c39] at H
          have c39b0 : (t603 == t585) = true := beq_iff_eq.mpr c39
          have c39b1 : (t603 != t585) = false := bne_eq_false_iff_eq.mpr c39
          clear c39
          (first | rw [c39b0] | (simp only [i64_w, i32_w]; rw [c39b0]) | skip)
          have H' := Aside0.mk H
          clear H
          have hnb40 := NB605_569.out
          have hnc40 := NB569_605.out
          have hnb41 := NB605_587.out
          have hnc41 := NB587_605.out
          have hnb42 := NB605_599.out
          have hnc42 := NB599_605.out
          have hcz43_0 : w32.cell? ⟨gb605, 0, none⟩ = some (.int .i64 0) := (blk_cell BK605.out 0).trans rfl
          have hcz43_1 : w32.cell? ⟨gb605, 1, none⟩ = some (.int .i64 0) := (blk_cell BK605.out 1).trans rfl
          have hcz43_2 : w32.cell? ⟨gb605, 2, none⟩ = some (.string (⟨#[]⟩ : ByteArray)) := (blk_cell BK605.out 2).trans rfl
          have hfz43_0 := blk_frozen BK605.out 0
          have hfz43_1 := blk_frozen BK605.out 1
          have hfz43_2 := blk_frozen BK605.out 2
          have hnb44 := NB587_569.out
          have hnc44 := NB569_587.out
          have hnb45 := NB587_599.out
          have hnc45 := NB599_587.out
          have hcz46_0 : w32.cell? ⟨gb587, 0, none⟩ = some (.int .i64 t582) := (blk_cell BK587.out 0).trans rfl
          have hcz46_1 : w32.cell? ⟨gb587, 1, none⟩ = some (.int .i64 t583) := (blk_cell BK587.out 1).trans rfl
          have hcz46_2 : w32.cell? ⟨gb587, 2, none⟩ = some (.string t584) := (blk_cell BK587.out 2).trans rfl
          have hfz46_0 := blk_frozen BK587.out 0
          have hfz46_1 := blk_frozen BK587.out 1
          have hfz46_2 := blk_frozen BK587.out 2
          go_wp2_with (first | ((with_reducible refine gate_callee (f := 39) rfl ?_); refine goesL_ (some 33) rfl rfl Try.func39 (by kernel_rfl) rfl #[.agg #[.int .i64 t600, .int .i64 t601, .string t602], .agg #[.int .i64 t582, .int .i64 t583, .string t584]] rfl (by (try simp only [List.map_toArray, List.map_cons, List.map_nil]); first | done | rfl | (simp only [List.length_drop, List.length_take]; rfl) | (go_simp; done) | (simp [*]; done)) ?_; (with_reducible refine (laws_eqMsg.calls t600 t601 t602 t582 t583 t584 true _ A37.out).mono ?_); rintro e w47 ⟨rfl, hb⟩; refine ⟨_, rfl, ?_⟩; have n0_ := Aside0.mk (Kd.R_below (by (with_reducible repeat (first | apply Kd.R_alloc | apply Kd.R_drewN | apply Kd.R_drew)); exact (Kd.R_mono (Kd.R_far (p := ⟨gb605, 2, none⟩) (Kd.R_far (p := ⟨gb605, 1, none⟩) (Kd.R_far (p := ⟨gb605, 0, none⟩) (Kd.R_types HO578.out BK605.out (by decide)) (fun _ hk => hk.2) (.int .i64 t600)) (fun _ hk => hk.2) (.int .i64 t601)) (fun _ hk => hk.2) (.string t602)) (fun _ h_ => h_.1))) hb); have n1_ := Aside0.mk (Kd.R_below (by (with_reducible repeat (first | apply Kd.R_alloc | apply Kd.R_drewN | apply Kd.R_drew)); exact (Kd.R_mono (Kd.R_far (p := ⟨gb605, 2, none⟩) (Kd.R_far (p := ⟨gb605, 1, none⟩) (Kd.R_far (p := ⟨gb605, 0, none⟩) (Kd.R_types HO581.out BK605.out (by decide)) (fun _ hk => hk.2) (.int .i64 t600)) (fun _ hk => hk.2) (.int .i64 t601)) (fun _ hk => hk.2) (.string t602)) (fun _ h_ => h_.1))) hb); have n2_ := Aside0.mk (Kd.R_below (by (with_reducible repeat (first | apply Kd.R_alloc | apply Kd.R_drewN | apply Kd.R_drew)); exact (Kd.R_mono (Kd.R_far (p := ⟨gb605, 2, none⟩) (Kd.R_far (p := ⟨gb605, 1, none⟩) (Kd.R_far (p := ⟨gb605, 0, none⟩) (Kd.R_types HO595.out BK605.out (by decide)) (fun _ hk => hk.2) (.int .i64 t600)) (fun _ hk => hk.2) (.int .i64 t601)) (fun _ hk => hk.2) (.string t602)) (fun _ h_ => h_.1))) hb); have n3_ := Aside0.mk (Kd.R_below (by (with_reducible repeat (first | apply Kd.R_alloc | apply Kd.R_drewN | apply Kd.R_drew)); exact (Kd.R_mono (Kd.R_far (p := ⟨gb605, 2, none⟩) (Kd.R_far (p := ⟨gb605, 1, none⟩) (Kd.R_far (p := ⟨gb605, 0, none⟩) (Kd.R_types HO598.out BK605.out (by decide)) (fun _ hk => hk.2) (.int .i64 t600)) (fun _ hk => hk.2) (.int .i64 t601)) (fun _ hk => hk.2) (.string t602)) (fun _ h_ => h_.1))) hb); have n4_ := Aside0.mk (blk_below (g := gb569) (o := .cells #[.int .i64 a0_0, .int .i64 a0_1, .string a0_2, .int .i64 a0_3, .bool a0_4, .slice A0_5 l0_5.length c0_5, .slice A0_6 l0_6.length c0_6] 56 (0, 0)) (by (with_reducible repeat (first | refine blk_drewN ?_ _ | refine blk_drew ?_ | refine blk_alloc ?_ _)); refine blk_far ?_ NB569_605.out _; (with_reducible repeat (first | refine blk_drewN ?_ _ | refine blk_drew ?_ | refine blk_alloc ?_ _)); refine blk_far ?_ NB569_605.out _; (with_reducible repeat (first | refine blk_drewN ?_ _ | refine blk_drew ?_ | refine blk_alloc ?_ _)); refine blk_far ?_ NB569_605.out _; (with_reducible repeat (first | refine blk_drewN ?_ _ | refine blk_drew ?_ | refine blk_alloc ?_ _)); exact BK569.out) hb); have n5_ := Aside0.mk (blk_below (g := gb587) (o := .cells #[.int .i64 t582, .int .i64 t583, .string t584] 25 (0, 0)) (by (with_reducible repeat (first | refine blk_drewN ?_ _ | refine blk_drew ?_ | refine blk_alloc ?_ _)); refine blk_far ?_ NB587_605.out _; (with_reducible repeat (first | refine blk_drewN ?_ _ | refine blk_drew ?_ | refine blk_alloc ?_ _)); refine blk_far ?_ NB587_605.out _; (with_reducible repeat (first | refine blk_drewN ?_ _ | refine blk_drew ?_ | refine blk_alloc ?_ _)); refine blk_far ?_ NB587_605.out _; (with_reducible repeat (first | refine blk_drewN ?_ _ | refine blk_drew ?_ | refine blk_alloc ?_ _)); exact BK587.out) hb); have n6_ := Aside0.mk (blk_below (g := gb599) (o := .cells #[.int .i64 t588, .int .i64 t589, .string t590, .int .i64 t591, .bool t592, .slice Ao29 t593.length co29, .slice Ao30 t596.length co30] 29 (0, 0)) (by (with_reducible repeat (first | refine blk_drewN ?_ _ | refine blk_drew ?_ | refine blk_alloc ?_ _)); refine blk_far ?_ NB599_605.out _; (with_reducible repeat (first | refine blk_drewN ?_ _ | refine blk_drew ?_ | refine blk_alloc ?_ _)); refine blk_far ?_ NB599_605.out _; (with_reducible repeat (first | refine blk_drewN ?_ _ | refine blk_drew ?_ | refine blk_alloc ?_ _)); refine blk_far ?_ NB599_605.out _; (with_reducible repeat (first | refine blk_drewN ?_ _ | refine blk_drew ?_ | refine blk_alloc ?_ _)); exact BK599.out) hb); have n7_ := Aside0.mk (blk_below (g := gb605) (o := .cells #[.int .i64 t600, .int .i64 t601, .string t602] 25 (0, 0)) (by (with_reducible repeat (first | refine blk_drewN ?_ _ | refine blk_drew ?_ | refine blk_alloc ?_ _)); refine blk_put (cs := #[.int .i64 t600, .int .i64 t601, .string (⟨#[]⟩ : ByteArray)]) ?_ 2 _ rfl; (with_reducible repeat (first | refine blk_drewN ?_ _ | refine blk_drew ?_ | refine blk_alloc ?_ _)); refine blk_put (cs := #[.int .i64 t600, .int .i64 0, .string (⟨#[]⟩ : ByteArray)]) ?_ 1 _ rfl; (with_reducible repeat (first | refine blk_drewN ?_ _ | refine blk_drew ?_ | refine blk_alloc ?_ _)); refine blk_put (cs := #[.int .i64 0, .int .i64 0, .string (⟨#[]⟩ : ByteArray)]) ?_ 0 _ rfl; (with_reducible repeat (first | refine blk_drewN ?_ _ | refine blk_drew ?_ | refine blk_alloc ?_ _)); exact BK605.out) hb); have n8_ := Aside0.mk (below_step (by repeat (first | (with_reducible first | exact HB.out | apply below_alloc | apply pw_below_drewN | apply below_drew1 | refine below_set ?_ GE569.out | refine below_set ?_ GE587.out | refine below_set ?_ GE599.out | refine below_set ?_ GE605.out) | exact HB.out)) hb); clear HO578 HO581 HO595 HO598 BK569 BK587 BK599 BK605 HB; have HO578 := n0_; have HO581 := n1_; have HO595 := n2_; have HO598 := n3_; have BK569 := n4_; have BK587 := n5_; have BK599 := n6_; have BK605 := n7_; have HB := n8_; clear n0_ n1_ n2_ n3_ n4_ n5_ n6_ n7_ n8_; (try clear hb); (try clear hb2); (try clear hk); (try clear hi)))
          go_meet
          case rel => exact ⟨_, ((t604 != t586)), (by first | rfl | (simp; done) | (simp [*]; done)), H', ⟨by first | omega | exact Nat.le_refl _⟩, ⟨by (with_reducible repeat (first | apply Kd.R_alloc | apply Kd.R_drewN | apply Kd.R_drew)); exact Kd.R_mono HO595.out (fun _ hk => hk.1.1)⟩, ⟨by (with_reducible repeat (first | apply Kd.R_alloc | apply Kd.R_drewN | apply Kd.R_drew)); exact Kd.R_mono HO598.out (fun _ hk => hk.1.1)⟩, ⟨pkK BK569.out⟩, ⟨pkK BK587.out⟩, ⟨pkK BK599.out⟩, ⟨pkK BK605.out⟩, ⟨by repeat (first | (with_reducible first | exact HB.out | apply below_alloc | apply pw_below_drewN | apply below_drew1 | refine below_set ?_ GE569.out | refine below_set ?_ GE587.out | refine below_set ?_ GE599.out | refine below_set ?_ GE605.out) | exact HB.out)⟩⟩
        · rw [if_neg c39] at H
          have c39b0 : (t603 == t585) = false := beq_eq_false_iff_ne.mpr c39
          have c39b1 : (t603 != t585) = true := bne_iff_ne.mpr c39
          (first | rw [c39b0] | (simp only [i64_w, i32_w]; rw [c39b0]) | skip)
          cases k with
          | zero => exact absurd H (by simp [laws_FnExactLook.j0])
          | succ k_ => (simp only [laws_FnExactLook.j0, if_pos] at H; exact absurd (Option.some.inj H) (by rw [HQ_.out]; simp))
      · replace c38 := Bool.eq_false_iff.mpr c38
        subst c38
        have H1 : (laws_FnExactLook.j0 k true a0_0 a0_1 a0_2 a0_3 a0_4 l0_5 l0_6 t588 t589 t590 t591 t592 t593 t596) = some r := by rw [if_neg (show ¬ (false = true) by decide)] at H; exact H
        clear H
        have H := H1
        clear H1
        cases k with
        | zero => exact absurd H (by simp [laws_FnExactLook.j0])
        | succ k_ => (simp only [laws_FnExactLook.j0, if_pos] at H; exact absurd (Option.some.inj H) (by rw [HQ_.out]; simp))
    case rest =>
      clear HC11
      try clear c2
      try clear p2
      try clear c3
      try clear c3b0
      try clear c4
      try clear c8
      try clear c21
      try clear c26
      try clear c27
      try clear c31
      try clear c32
      try clear c33
      try clear c34
      try clear c35
      try clear c38
      try clear c39
      try clear c39b0
      try clear c39b1
      try clear c40
      try clear c41
      try clear c42
      try clear c44
      try clear c45
      try clear hcz13_0
      try clear hcz13_1
      try clear hcz13_2
      try clear hcz13_3
      try clear hcz13_4
      try clear hcz13_5
      try clear hcz13_6
      try clear hcz15_0
      try clear hcz15_1
      try clear hcz15_2
      try clear hcz15_3
      try clear hcz15_4
      try clear hcz15_5
      try clear hcz15_6
      try clear hcz22_0
      try clear hcz22_1
      try clear hcz22_2
      try clear hcz23_0
      try clear hcz23_1
      try clear hcz23_2
      try clear hcz23_3
      try clear hcz23_4
      try clear hcz23_5
      try clear hcz23_6
      try clear hcz28_0
      try clear hcz28_1
      try clear hcz28_2
      try clear hcz28_3
      try clear hcz28_4
      try clear hcz28_5
      try clear hcz28_6
      try clear hcz36_0
      try clear hcz36_1
      try clear hcz36_2
      try clear hcz43_0
      try clear hcz43_1
      try clear hcz43_2
      try clear hcz46_0
      try clear hcz46_1
      try clear hcz46_2
      try clear hcz5_0
      try clear hcz5_1
      try clear hcz5_2
      try clear hcz5_3
      try clear hcz5_4
      try clear hcz5_5
      try clear hcz5_6
      try clear hfz13_0
      try clear hfz13_1
      try clear hfz13_2
      try clear hfz13_3
      try clear hfz13_4
      try clear hfz13_5
      try clear hfz13_6
      try clear hfz15_0
      try clear hfz15_1
      try clear hfz15_2
      try clear hfz15_3
      try clear hfz15_4
      try clear hfz15_5
      try clear hfz15_6
      try clear hfz22_0
      try clear hfz22_1
      try clear hfz22_2
      try clear hfz23_0
      try clear hfz23_1
      try clear hfz23_2
      try clear hfz23_3
      try clear hfz23_4
      try clear hfz23_5
      try clear hfz23_6
      try clear hfz28_0
      try clear hfz28_1
      try clear hfz28_2
      try clear hfz28_3
      try clear hfz28_4
      try clear hfz28_5
      try clear hfz28_6
      try clear hfz36_0
      try clear hfz36_1
      try clear hfz36_2
      try clear hfz43_0
      try clear hfz43_1
      try clear hfz43_2
      try clear hfz46_0
      try clear hfz46_1
      try clear hfz46_2
      try clear hfz5_0
      try clear hfz5_1
      try clear hfz5_2
      try clear hfz5_3
      try clear hfz5_4
      try clear hfz5_5
      try clear hfz5_6
      obtain ⟨kq, x44_10, rfl, HA, HJ10, HO_600005, HO_600006, BK569, BK587, BK599, BK605, HB⟩ := hcut
      cases kq with
      | zero => exact absurd HA.out (by simp [laws_FnExactLook.j0])
      | succ kj10 =>
        have H := HA.out
        clear HA
        simp only [laws_FnExactLook.j0] at H
        by_cases c48 : x44_10 = true
        · subst c48
          have H1 : (some false) = some r := by rw [if_pos rfl] at H; exact H
          clear H
          have H := H1
          clear H1
          exact absurd (Option.some.inj H) (by rw [HQ_.out]; simp)
        · replace c48 := Bool.eq_false_iff.mpr c48
          subst c48
          have H1 : ((laws_toCell.f kj10 a0_0 a0_1 a0_2 a0_3 a0_4 l0_5 l0_6).bind fun bt607 => ((laws_eqCell.f kj10 t588 t589 t590 t591 t592 t593 t596 bt607.1 bt607.2.1 bt607.2.2.1 bt607.2.2.2.1 bt607.2.2.2.2.1 bt607.2.2.2.2.2.1 bt607.2.2.2.2.2.2).bind fun t618 => (if t618 = true then (some true) else (some false)))) = some r := by rw [if_neg (show ¬ (false = true) by decide)] at H; exact H
          clear H
          have H := H1
          clear H1
          replace H := Option.bind_eq_some_iff.mp H
          obtain ⟨⟨t607, t608, t609, t610, t611, t612, t615⟩, A490, H⟩ := H
          replace H : ((laws_eqCell.f kj10 t588 t589 t590 t591 t592 t593 t596 t607 t608 t609 t610 t611 t612 t615).bind fun t618 => (if t618 = true then (some true) else (some false))) = some r := H
          have A49 := Aside0.mk A490
          clear A490
          replace H := Option.bind_eq_some_iff.mp H
          obtain ⟨t618, A500, H⟩ := H
          replace H : (if t618 = true then (some true) else (some false)) = some r := H
          have A50 := Aside0.mk A500
          clear A500
          by_cases c51 : t618 = true
          · subst c51
            have H1 : (some true) = some r := by rw [if_pos rfl] at H; exact H
            clear H
            have H := H1
            clear H1
            obtain rfl := Option.some.inj H
            try go_wp2
            have n0_ := Aside0.mk (Kd.R_drew HO_600005.out)
            have n1_ := Aside0.mk (Kd.R_drew HO_600006.out)
            have n2_ := Aside0.mk (blk_drew BK569.out)
            have n3_ := Aside0.mk (blk_drew BK587.out)
            have n4_ := Aside0.mk (blk_drew BK599.out)
            have n5_ := Aside0.mk (blk_drew BK605.out)
            have n6_ := Aside0.mk (below_drew1 HB.out)
            clear HO_600005 HO_600006 BK569 BK587 BK599 BK605 HB
            have HO_600005 := n0_; have HO_600006 := n1_; have BK569 := n2_; have BK587 := n3_; have BK599 := n4_; have BK605 := n5_; have HB := n6_
            clear n0_ n1_ n2_ n3_ n4_ n5_ n6_
            refine start_ (n := 5) (S := fun w' => w'.cell? ⟨gb599, 0, none⟩ = some (.int .i64 t588) ∧ w'.cell? ⟨gb599, 1, none⟩ = some (.int .i64 t589) ∧ w'.cell? ⟨gb599, 2, none⟩ = some (.string t590) ∧ w'.cell? ⟨gb599, 3, none⟩ = some (.int .i64 t591) ∧ w'.cell? ⟨gb599, 4, none⟩ = some (.bool t592) ∧ w'.cell? ⟨gb599, 5, none⟩ = some (.slice Ao29 t593.length co29) ∧ w'.cell? ⟨gb599, 6, none⟩ = some (.slice Ao30 t596.length co30) ∧ w'.cell? ⟨gb569, 0, none⟩ = some (.int .i64 a0_0) ∧ w'.cell? ⟨gb569, 1, none⟩ = some (.int .i64 a0_1) ∧ w'.cell? ⟨gb569, 2, none⟩ = some (.string a0_2) ∧ w'.cell? ⟨gb569, 3, none⟩ = some (.int .i64 a0_3) ∧ w'.cell? ⟨gb569, 4, none⟩ = some (.bool a0_4) ∧ w'.cell? ⟨gb569, 5, none⟩ = some (.slice A0_5 l0_5.length c0_5) ∧ w'.cell? ⟨gb569, 6, none⟩ = some (.slice A0_6 l0_6.length c0_6)) (ds := []) #[false, false, false, false, false] (by kernel_rfl) rfl rfl ⟨(blk_cell BK599.out 0).trans rfl, (blk_cell BK599.out 1).trans rfl, (blk_cell BK599.out 2).trans rfl, (blk_cell BK599.out 3).trans rfl, (blk_cell BK599.out 4).trans rfl, (blk_cell BK599.out 5).trans rfl, (blk_cell BK599.out 6).trans rfl, (blk_cell BK569.out 0).trans rfl, (blk_cell BK569.out 1).trans rfl, (blk_cell BK569.out 2).trans rfl, (blk_cell BK569.out 3).trans rfl, (blk_cell BK569.out 4).trans rfl, (blk_cell BK569.out 5).trans rfl, (blk_cell BK569.out 6).trans rfl⟩ (fun hHeld => ?_)
            generalize wc.drew = w52 at HO_600005 HO_600006 BK569 BK587 BK599 BK605 HB hHeld ⊢
            refine take_ (i := 0) (N := some 45) (v := ?_) (a' := ?_) #[true, false, false, false, false] rfl rfl (by kernel_rfl) (fun _ _ _ h => h) (Or.inl ⟨by rfl, ?_⟩) hHeld ?_ ?_
            rotate_left
            · rintro w' ⟨s0, s1, s2, s3, s4, s5, s6, s7, s8, s9, s10, s11, s12, s13⟩
              go_simp
              with_reducible rfl
            rotate_left
            · simp only [Act.put, List.setIfInBounds_toArray, List.set_cons_zero, List.set_cons_succ, i64_w, i32_w]
              rfl
            refine take_ (i := 1) (N := some 46) (v := ?_) (a' := ?_) #[true, true, false, false, false] rfl rfl (by kernel_rfl) (fun _ _ _ h => h) (Or.inl ⟨by rfl, ?_⟩) hHeld ?_ ?_
            rotate_left
            · rintro w' ⟨s0, s1, s2, s3, s4, s5, s6, s7, s8, s9, s10, s11, s12, s13⟩
              go_simp
              with_reducible rfl
            rotate_left
            · simp only [Act.put, List.setIfInBounds_toArray, List.set_cons_zero, List.set_cons_succ, i64_w, i32_w]
              rfl
            refine one_ (i := 2) (N := some 47) #[true, true, true, false, false] rfl rfl (by kernel_rfl) (by decide) (fun K hK => ?_)
            refine goes_ Try.func32 (by kernel_rfl) rfl #[.agg #[.int .i64 a0_0, .int .i64 a0_1, .string a0_2, .int .i64 a0_3, .bool a0_4, .slice A0_5 l0_5.length c0_5, .slice A0_6 l0_6.length c0_6]] (by rfl) rfl rfl (by (try simp only [List.map_toArray, List.map_cons, List.map_nil]); first | done | rfl | (simp only [List.length_drop, List.length_take]; rfl) | (go_simp; done) | (simp [*]; done)) ?_
            with_reducible refine (laws_toCell.calls kj10 a0_0 a0_1 a0_2 a0_3 a0_4 _ _ l0_5 _ _ l0_6 t607 t608 t609 t610 t611 t612 t615 _ ?side1 ?side2 ?side3 ?side4 A49.out).mono ?_
            (case side1 => exact pkC (Kd.C_below HR0_5.out HB.out))
            (case side2 => exact HC0_5.out)
            (case side3 => exact pkC (Kd.C_below HR0_6.out HB.out))
            (case side4 => exact HC0_6.out)
            rintro e w53 ⟨v613, v616, rfl, ho0, ho1, hb⟩
            refine ⟨_, rfl, ?_⟩
            have n0_ := Aside0.mk (Kd.R_mono (Kd.R_told (Kd.R_told (Kd.R_old (pkR HO_600005.out) hb) (Kd.R_base ho0)) (Kd.R_base ho1)) (fun _ h_ => h_.1))
            have n1_ := Aside0.mk (Kd.R_mono (Kd.R_told (Kd.R_told (Kd.R_old (pkR HO_600006.out) hb) (Kd.R_base ho0)) (Kd.R_base ho1)) (fun _ h_ => h_.1))
            have n2_ := Aside0.mk (Kd.R_lower (Kd.R_new' (Kd.R_new' ho0 (Kd.R_lt (pkR HO_600005.out))) (Kd.R_lt (pkR HO_600006.out))) (below_size (by repeat (first | (with_reducible first | exact HB.out | apply below_alloc | apply pw_below_drewN | apply below_drew1 | refine below_set ?_ GE569.out | refine below_set ?_ GE587.out | refine below_set ?_ GE599.out | refine below_set ?_ GE605.out) | exact HB.out))))
            have n3_ := Aside0.mk (Kd.R_lower (Kd.R_new' (Kd.R_new' ho1 (Kd.R_lt (pkR HO_600005.out))) (Kd.R_lt (pkR HO_600006.out))) (below_size (by repeat (first | (with_reducible first | exact HB.out | apply below_alloc | apply pw_below_drewN | apply below_drew1 | refine below_set ?_ GE569.out | refine below_set ?_ GE587.out | refine below_set ?_ GE599.out | refine below_set ?_ GE605.out) | exact HB.out))))
            have n4_ := Aside0.mk (blk_below (g := gb569) (o := .cells #[.int .i64 a0_0, .int .i64 a0_1, .string a0_2, .int .i64 a0_3, .bool a0_4, .slice A0_5 l0_5.length c0_5, .slice A0_6 l0_6.length c0_6] 56 (0, 0)) (pkK BK569.out) hb)
            have n5_ := Aside0.mk (blk_below (g := gb587) (o := .cells #[.int .i64 t582, .int .i64 t583, .string t584] 25 (0, 0)) (pkK BK587.out) hb)
            have n6_ := Aside0.mk (blk_below (g := gb599) (o := .cells #[.int .i64 t588, .int .i64 t589, .string t590, .int .i64 t591, .bool t592, .slice Ao29 t593.length co29, .slice Ao30 t596.length co30] 29 (0, 0)) (pkK BK599.out) hb)
            have n7_ := Aside0.mk (blk_below (g := gb605) (o := .cells #[.int .i64 t600, .int .i64 t601, .string t602] 25 (0, 0)) (pkK BK605.out) hb)
            have n8_ := Aside0.mk (below_step (by repeat (first | (with_reducible first | exact HB.out | apply below_alloc | apply pw_below_drewN | apply below_drew1 | refine below_set ?_ GE569.out | refine below_set ?_ GE587.out | refine below_set ?_ GE599.out | refine below_set ?_ GE605.out) | exact HB.out)) hb)
            clear HO_600005 HO_600006 BK569 BK587 BK599 BK605 HB
            have HO_600005 := n0_; have HO_600006 := n1_; have HO614 := n2_; have HO617 := n3_; have BK569 := n4_; have BK587 := n5_; have BK599 := n6_; have BK605 := n7_; have HB := n8_
            clear n0_ n1_ n2_ n3_ n4_ n5_ n6_ n7_ n8_
            (try clear hb); (try clear hb2); (try clear hk); (try clear hi); (try clear ho0); (try clear ho1)
            obtain ⟨Ao54, co54, eo54⟩ := Kd.R_slice HO614.out
            (first | subst eo54 | (injection eo54 with f1_ f2_ f3_; have f4_ := f1_.symm; have f5_ := f3_.symm; clear f1_ f2_ f3_; subst f4_; subst f5_))
            obtain ⟨Ao55, co55, eo55⟩ := Kd.R_slice HO617.out
            (first | subst eo55 | (injection eo55 with f1_ f2_ f3_; have f4_ := f1_.symm; have f5_ := f3_.symm; clear f1_ f2_ f3_; subst f4_; subst f5_))
            refine hK.out _ _ ⟨(blk_cell BK599.out 0).trans rfl, (blk_cell BK599.out 1).trans rfl, (blk_cell BK599.out 2).trans rfl, (blk_cell BK599.out 3).trans rfl, (blk_cell BK599.out 4).trans rfl, (blk_cell BK599.out 5).trans rfl, (blk_cell BK599.out 6).trans rfl, (blk_cell BK569.out 0).trans rfl, (blk_cell BK569.out 1).trans rfl, (blk_cell BK569.out 2).trans rfl, (blk_cell BK569.out 3).trans rfl, (blk_cell BK569.out 4).trans rfl, (blk_cell BK569.out 5).trans rfl, (blk_cell BK569.out 6).trans rfl⟩ (fun hHeld => ?_)
            clear hK K
            refine norm_ (a' := ?_) ?_ ?_
            rotate_left
            · show Act.put _ (some 47) _ = _
              simp only [Act.put, List.setIfInBounds_toArray, List.set_cons_zero, List.set_cons_succ, i64_w, i32_w]
              rfl
            refine one_ (i := 3) (N := some 48) #[true, true, true, true, false] rfl rfl (by kernel_rfl) (by decide) (fun K hK => ?_)
            refine goes_ Try.func34 (by kernel_rfl) rfl #[.agg #[.int .i64 t588, .int .i64 t589, .string t590, .int .i64 t591, .bool t592, .slice Ao29 t593.length co29, .slice Ao30 t596.length co30], .agg #[.int .i64 t607, .int .i64 t608, .string t609, .int .i64 t610, .bool t611, .slice Ao54 t612.length co54, .slice Ao55 t615.length co55]] (by rfl) rfl rfl (by (try simp only [List.map_toArray, List.map_cons, List.map_nil]); first | done | rfl | (simp only [List.length_drop, List.length_take]; rfl) | (go_simp; done) | (simp [*]; done)) ?_
            with_reducible refine (laws_eqCell.calls kj10 t588 t589 t590 t591 t592 _ _ t593 _ _ t596 t607 t608 t609 t610 t611 _ _ t612 _ _ t615 true _ ?side1 ?side2 ?side3 ?side4 ?side5 ?side6 ?side7 ?side8 A50.out).mono ?_
            (case side1 => exact pkC (Kd.R_reads' HO_600005.out).2.2)
            (case side2 => exact (Kd.R_reads' HO_600005.out).2.1)
            (case side3 => exact pkC (Kd.R_reads' HO_600006.out).2.2)
            (case side4 => exact (Kd.R_reads' HO_600006.out).2.1)
            (case side5 => exact pkC (Kd.R_reads' HO614.out).2.2)
            (case side6 => exact (Kd.R_reads' HO614.out).2.1)
            (case side7 => exact pkC (Kd.R_reads' HO617.out).2.2)
            (case side8 => exact (Kd.R_reads' HO617.out).2.1)
            rintro e w56 ⟨rfl, hb⟩
            refine ⟨_, rfl, ?_⟩
            have n0_ := Aside0.mk (Kd.R_below (pkR HO_600005.out) hb)
            have n1_ := Aside0.mk (Kd.R_below (pkR HO_600006.out) hb)
            have n2_ := Aside0.mk (Kd.R_below (pkR HO614.out) hb)
            have n3_ := Aside0.mk (Kd.R_below (pkR HO617.out) hb)
            have n4_ := Aside0.mk (blk_below (g := gb569) (o := .cells #[.int .i64 a0_0, .int .i64 a0_1, .string a0_2, .int .i64 a0_3, .bool a0_4, .slice A0_5 l0_5.length c0_5, .slice A0_6 l0_6.length c0_6] 56 (0, 0)) (pkK BK569.out) hb)
            have n5_ := Aside0.mk (blk_below (g := gb587) (o := .cells #[.int .i64 t582, .int .i64 t583, .string t584] 25 (0, 0)) (pkK BK587.out) hb)
            have n6_ := Aside0.mk (blk_below (g := gb599) (o := .cells #[.int .i64 t588, .int .i64 t589, .string t590, .int .i64 t591, .bool t592, .slice Ao29 t593.length co29, .slice Ao30 t596.length co30] 29 (0, 0)) (pkK BK599.out) hb)
            have n7_ := Aside0.mk (blk_below (g := gb605) (o := .cells #[.int .i64 t600, .int .i64 t601, .string t602] 25 (0, 0)) (pkK BK605.out) hb)
            have n8_ := Aside0.mk (below_step (by repeat (first | (with_reducible first | exact HB.out | apply below_alloc | apply pw_below_drewN | apply below_drew1 | refine below_set ?_ GE569.out | refine below_set ?_ GE587.out | refine below_set ?_ GE599.out | refine below_set ?_ GE605.out) | exact HB.out)) hb)
            clear HO_600005 HO_600006 HO614 HO617 BK569 BK587 BK599 BK605 HB
            have HO_600005 := n0_; have HO_600006 := n1_; have HO614 := n2_; have HO617 := n3_; have BK569 := n4_; have BK587 := n5_; have BK599 := n6_; have BK605 := n7_; have HB := n8_
            clear n0_ n1_ n2_ n3_ n4_ n5_ n6_ n7_ n8_
            (try clear hb); (try clear hb2); (try clear hk); (try clear hi)
            refine hK.out _ _ ⟨(blk_cell BK599.out 0).trans rfl, (blk_cell BK599.out 1).trans rfl, (blk_cell BK599.out 2).trans rfl, (blk_cell BK599.out 3).trans rfl, (blk_cell BK599.out 4).trans rfl, (blk_cell BK599.out 5).trans rfl, (blk_cell BK599.out 6).trans rfl, (blk_cell BK569.out 0).trans rfl, (blk_cell BK569.out 1).trans rfl, (blk_cell BK569.out 2).trans rfl, (blk_cell BK569.out 3).trans rfl, (blk_cell BK569.out 4).trans rfl, (blk_cell BK569.out 5).trans rfl, (blk_cell BK569.out 6).trans rfl⟩ (fun hHeld => ?_)
            clear hK K
            refine norm_ (a' := ?_) ?_ ?_
            rotate_left
            · show Act.put _ (some 48) _ = _
              simp only [Act.put, List.setIfInBounds_toArray, List.set_cons_zero, List.set_cons_succ, i64_w, i32_w]
              rfl
            refine pure_ (i := 4) (N := some 49) (v := ?_) (a' := ?_) #[true, true, true, true, true] rfl rfl (by kernel_rfl) (fun _ _ _ h => h) (Or.inl ⟨by rfl, ?_⟩) ?_ ?_
            rotate_left
            · intro w'
              go_simp
              with_reducible rfl
            rotate_left
            · simp only [Act.put, List.setIfInBounds_toArray, List.set_cons_zero, List.set_cons_succ, i64_w, i32_w]
              rfl
            refine done_ (by kernel_rfl) ?_
            try go_wp2
            go_ret
            exact ⟨by first | rfl | (simp [errW_none, errW_some] <;> rfl) | (simp [*, errW_none, errW_some] <;> rfl), by repeat (first | (with_reducible first | exact HB.out | apply below_alloc | apply pw_below_drewN | apply below_drew1 | refine below_set ?_ GE569.out | refine below_set ?_ GE587.out | refine below_set ?_ GE599.out | refine below_set ?_ GE605.out) | exact HB.out)⟩
          · replace c51 := Bool.eq_false_iff.mpr c51
            subst c51
            have H1 : (some false) = some r := by rw [if_neg (show ¬ (false = true) by decide)] at H; exact H
            clear H
            have H := H1
            clear H1
            exact absurd (Option.some.inj H) (by rw [HQ_.out]; simp)
end Go.Proofs.Ytffcphplnilokaa.Z
