import Derived.Test.YtffcphplnilokaaZx0
import Derived.Test.YtffcphplnilokaaZx2
import Derived.Test.YtffcphplnilokaaZx6
namespace Go.Proofs.Ytffcphplnilokaa.Z
open Go.RowKit Go.Proofs.YtffcphplnilokaaW.PrintWords Go.Proofs.YtffcphplnilokaaW.PrintLast Go.Proofs.YtffcphplnilokaaW.PrintMore
attribute [local go_sem] max2_int min2_int max_two min_two max_three min_three max_four min_four   -- for this text's walks alone
set_option linter.unusedVariables false
set_option linter.unusedSimpArgs false
mutual
def impl_Watch.j0 : Nat → Int → Int → Bool → Int → Int → ByteArray → Int → Bool → List Int → List Int → Int → Int → ByteArray → Int → Bool → List Int → List Int → Option (Int × Int × ByteArray × Int × Bool × List Int × List Int × Int)
  | 0, _, _, _, _, _, _, _, _, _, _, _, _, _, _, _, _, _ => none
  | k + 1, x1, x2, x11, x211000, x211001, x211002, x211003, x211004, x211005, x211006, x224000, x224001, x224002, x224003, x224004, x224005, x224006 => if x11 = true then (some (x224000, x224001, x224002, x224003, x224004, x224005, x224006, 1)) else ((slices_Contains_int_int.f k x211005 x1).bind fun t226 => (if t226 = true then (impl_Watch.j1 k x1 x2 true x211000 x211001 x211002 x211003 x211004 x211005 x211006 x224000 x224001 x224002 x224003 x224004 x224005 x224006) else ((slices_Contains_int_int.f k x211006 x1).bind fun t227 => (impl_Watch.j1 k x1 x2 t227 x211000 x211001 x211002 x211003 x211004 x211005 x211006 x224000 x224001 x224002 x224003 x224004 x224005 x224006))))
def impl_Watch.j1 : Nat → Int → Int → Bool → Int → Int → ByteArray → Int → Bool → List Int → List Int → Int → Int → ByteArray → Int → Bool → List Int → List Int → Option (Int × Int × ByteArray × Int × Bool × List Int × List Int × Int)
  | 0, _, _, _, _, _, _, _, _, _, _, _, _, _, _, _, _, _ => none
  | k + 1, x1, x2, x21, x211000, x211001, x211002, x211003, x211004, x211005, x211006, x224000, x224001, x224002, x224003, x224004, x224005, x224006 => if x21 = true then (some (x224000, x224001, x224002, x224003, x224004, x224005, x224006, 5)) else (if x211003 > x2 then (some (x224000, x224001, x224002, x224003, x224004, x224005, x224006, 0)) else (if x211004 = true then (some (x224000, x224001, x224002, x224003, x224004, x224005, x224006, 6)) else (if (x211005.length : Int) = 32 then (some (x224000, x224001, x224002, x224003, x224004, x224005, x224006, 2)) else (if x224005.length < 17592186044416 then (some (x224000, x224001, x224002, x224003, x224004, (x224005 ++ [x1]), x224006, 4)) else (none)))))
end
def impl_Watch.f (k : Nat) (a0_0 : Int) (a0_1 : Int) (a0_2 : ByteArray) (a0_3 : Int) (a0_4 : Bool) (l0_5 : List Int) (l0_6 : List Int) (a1 : Int) (a2 : Int) : Option (Int × Int × ByteArray × Int × Bool × List Int × List Int × Int) := (impl_copyCell.f a0_0 a0_1 a0_2 a0_3 a0_4 l0_5 l0_6).bind fun bt212 => ((impl_CellOk.f k a0_0 a0_1 a0_2 a0_3 a0_4 l0_5 l0_6).bind fun t224 => (if t224 = true then ((impl_isClient.f a1).bind fun t225 => (impl_Watch.j0 k a1 a2 (!t225) a0_0 a0_1 a0_2 a0_3 a0_4 l0_5 l0_6 bt212.1 bt212.2.1 bt212.2.2.1 bt212.2.2.2.1 bt212.2.2.2.2.1 bt212.2.2.2.2.2.1 bt212.2.2.2.2.2.2)) else (impl_Watch.j0 k a1 a2 true a0_0 a0_1 a0_2 a0_3 a0_4 l0_5 l0_6 bt212.1 bt212.2.1 bt212.2.2.1 bt212.2.2.2.1 bt212.2.2.2.2.1 bt212.2.2.2.2.2.1 bt212.2.2.2.2.2.2)))
theorem impl_Watch.mono_l : ∀ k, (∀ y0 y1 y2 y3 y4 y5 y6 y7 y8 y9 y10 y11 y12 y13 y14 y15 y16, LeO (impl_Watch.j0 k y0 y1 y2 y3 y4 y5 y6 y7 y8 y9 y10 y11 y12 y13 y14 y15 y16) (impl_Watch.j0 (k + 1) y0 y1 y2 y3 y4 y5 y6 y7 y8 y9 y10 y11 y12 y13 y14 y15 y16)) ∧ (∀ y0 y1 y2 y3 y4 y5 y6 y7 y8 y9 y10 y11 y12 y13 y14 y15 y16, LeO (impl_Watch.j1 k y0 y1 y2 y3 y4 y5 y6 y7 y8 y9 y10 y11 y12 y13 y14 y15 y16) (impl_Watch.j1 (k + 1) y0 y1 y2 y3 y4 y5 y6 y7 y8 y9 y10 y11 y12 y13 y14 y15 y16))
  | 0 => ⟨fun _ _ _ _ _ _ _ _ _ _ _ _ _ _ _ _ _ r h => by simp [impl_Watch.j0] at h, fun _ _ _ _ _ _ _ _ _ _ _ _ _ _ _ _ _ r h => by simp [impl_Watch.j1] at h⟩
  | k + 1 => by
    obtain ⟨ih0, ih1⟩ := impl_Watch.mono_l k
    refine ⟨?_, ?_⟩
    · intro y0 y1 y2 y3 y4 y5 y6 y7 y8 y9 y10 y11 y12 y13 y14 y15 y16
      unfold impl_Watch.j0
      repeat' first
      | (with_reducible exact ih0 _ _ _ _ _ _ _ _ _ _ _ _ _ _ _ _ _)
      | (with_reducible exact ih1 _ _ _ _ _ _ _ _ _ _ _ _ _ _ _ _ _)
      | (with_reducible exact impl_CellOk.mono _ _ _ _ _ _ _ _)
      | (with_reducible exact slices_Contains_int_int.mono _ _ _)
      | (with_reducible exact LeO.refl _)
      | (with_reducible exact LeO.none _)
      | (with_reducible refine LeO.ite ?_ ?_)
      | (with_reducible refine LeO.bind ?_ (fun _ => ?_))
      | exact ih0 _ _ _ _ _ _ _ _ _ _ _ _ _ _ _ _ _
      | exact ih1 _ _ _ _ _ _ _ _ _ _ _ _ _ _ _ _ _
      | exact impl_CellOk.mono _ _ _ _ _ _ _ _
      | exact slices_Contains_int_int.mono _ _ _
      | exact LeO.none _
      | refine LeO.ite ?_ ?_
      | refine LeO.bind ?_ (fun _ => ?_)
    · intro y0 y1 y2 y3 y4 y5 y6 y7 y8 y9 y10 y11 y12 y13 y14 y15 y16
      unfold impl_Watch.j1
      repeat' first
      | (with_reducible exact ih0 _ _ _ _ _ _ _ _ _ _ _ _ _ _ _ _ _)
      | (with_reducible exact ih1 _ _ _ _ _ _ _ _ _ _ _ _ _ _ _ _ _)
      | (with_reducible exact impl_CellOk.mono _ _ _ _ _ _ _ _)
      | (with_reducible exact slices_Contains_int_int.mono _ _ _)
      | (with_reducible exact LeO.refl _)
      | (with_reducible exact LeO.none _)
      | (with_reducible refine LeO.ite ?_ ?_)
      | (with_reducible refine LeO.bind ?_ (fun _ => ?_))
      | exact ih0 _ _ _ _ _ _ _ _ _ _ _ _ _ _ _ _ _
      | exact ih1 _ _ _ _ _ _ _ _ _ _ _ _ _ _ _ _ _
      | exact impl_CellOk.mono _ _ _ _ _ _ _ _
      | exact slices_Contains_int_int.mono _ _ _
      | exact LeO.none _
      | refine LeO.ite ?_ ?_
      | refine LeO.bind ?_ (fun _ => ?_)
theorem impl_Watch.mono : ∀ a0 a1 a2 a3 a4 a5 a6 a7 a8 k, LeO (impl_Watch.f k a0 a1 a2 a3 a4 a5 a6 a7 a8) (impl_Watch.f (k + 1) a0 a1 a2 a3 a4 a5 a6 a7 a8) := by
  intro a0 a1 a2 a3 a4 a5 a6 a7 a8 k
  obtain ⟨ih0, ih1⟩ := impl_Watch.mono_l k
  unfold impl_Watch.f
  repeat' first
      | (with_reducible exact ih0 _ _ _ _ _ _ _ _ _ _ _ _ _ _ _ _ _)
      | (with_reducible exact ih1 _ _ _ _ _ _ _ _ _ _ _ _ _ _ _ _ _)
      | (with_reducible exact impl_CellOk.mono _ _ _ _ _ _ _ _)
      | (with_reducible exact slices_Contains_int_int.mono _ _ _)
      | (with_reducible exact LeO.refl _)
      | (with_reducible exact LeO.none _)
      | (with_reducible refine LeO.ite ?_ ?_)
      | (with_reducible refine LeO.bind ?_ (fun _ => ?_))
      | exact ih0 _ _ _ _ _ _ _ _ _ _ _ _ _ _ _ _ _
      | exact ih1 _ _ _ _ _ _ _ _ _ _ _ _ _ _ _ _ _
      | exact impl_CellOk.mono _ _ _ _ _ _ _ _
      | exact slices_Contains_int_int.mono _ _ _
      | exact LeO.none _
      | refine LeO.ite ?_ ?_
      | refine LeO.bind ?_ (fun _ => ?_)
set_option maxHeartbeats 8000000 in
set_option maxRecDepth 100000 in
theorem impl_Watch.calls (k : Nat) (a0_0 : Int) (a0_1 : Int) (a0_2 : ByteArray) (a0_3 : Int) (a0_4 : Bool) (A0_5 : Option Addr) (c0_5 : Nat) (l0_5 : List Int) (A0_6 : Option Addr) (c0_6 : Nat) (l0_6 : List Int) (a1 : Int) (a2 : Int) (r1 : Int) (r2 : Int) (r3 : ByteArray) (r4 : Int) (r5 : Bool) (r6 : List Int) (r7 : List Int) (r8 : Int) (w : World) (hr0_5 : Kd.C (Kd.int .i64) w A0_5 l0_5.length l0_5) (hc0_5 : l0_5.length ≤ c0_5) (hr0_6 : Kd.C (Kd.int .i64) w A0_6 l0_6.length l0_6) (hc0_6 : l0_6.length ≤ c0_6) (h : impl_Watch.f k a0_0 a0_1 a0_2 a0_3 a0_4 l0_5 l0_6 a1 a2 = some (r1, r2, r3, r4, r5, r6, r7, r8)) :
    Calls Try.prog 20 #[.agg #[.int .i64 a0_0, .int .i64 a0_1, .string a0_2, .int .i64 a0_3, .bool a0_4, .slice A0_5 l0_5.length c0_5, .slice A0_6 l0_6.length c0_6], .int .i64 a1, .int .i64 a2] w fun e w' => ∃ v5_ v6_ : Value, e = .returned (.tuple #[.agg #[.int .i64 r1, .int .i64 r2, .string r3, .int .i64 r4, .bool r5, v5_, v6_], .int .i64 r8]) ∧ Kd.R (Kd.int .i64) 3 w' w.heap.size (fun k_ => some k_ ≠ (v6_ : Value).ownBlock) v5_ r6 ∧ Kd.R (Kd.int .i64) 3 w' w.heap.size (fun k_ => some k_ ≠ (v5_ : Value).ownBlock) v6_ r7 ∧ Below w.heap.size w w' := by
  have hu29 := Try.underlying29
  have HR0_5 := Aside0.mk hr0_5
  have HC0_5 := Aside0.mk hc0_5
  clear hr0_5 hc0_5
  have HR0_6 := Aside0.mk hr0_6
  have HC0_6 := Aside0.mk hc0_6
  clear hr0_6 hc0_6
  have HB := Aside0.mk (Below.refl w.heap.size w)
  have H : ((impl_copyCell.f a0_0 a0_1 a0_2 a0_3 a0_4 l0_5 l0_6).bind fun bt212 => ((impl_CellOk.f k a0_0 a0_1 a0_2 a0_3 a0_4 l0_5 l0_6).bind fun t224 => (if t224 = true then ((impl_isClient.f a1).bind fun t225 => (impl_Watch.j0 k a1 a2 (!t225) a0_0 a0_1 a0_2 a0_3 a0_4 l0_5 l0_6 bt212.1 bt212.2.1 bt212.2.2.1 bt212.2.2.2.1 bt212.2.2.2.2.1 bt212.2.2.2.2.2.1 bt212.2.2.2.2.2.2)) else (impl_Watch.j0 k a1 a2 true a0_0 a0_1 a0_2 a0_3 a0_4 l0_5 l0_6 bt212.1 bt212.2.1 bt212.2.2.1 bt212.2.2.2.1 bt212.2.2.2.2.1 bt212.2.2.2.2.2.1 bt212.2.2.2.2.2.2)))) = some (r1, r2, r3, r4, r5, r6, r7, r8) := h
  clear h
  replace H := Option.bind_eq_some_iff.mp H
  obtain ⟨⟨t212, t213, t214, t215, t216, t217, t220⟩, A40, H⟩ := H
  replace H : ((impl_CellOk.f k a0_0 a0_1 a0_2 a0_3 a0_4 l0_5 l0_6).bind fun t224 => (if t224 = true then ((impl_isClient.f a1).bind fun t225 => (impl_Watch.j0 k a1 a2 (!t225) a0_0 a0_1 a0_2 a0_3 a0_4 l0_5 l0_6 t212 t213 t214 t215 t216 t217 t220)) else (impl_Watch.j0 k a1 a2 true a0_0 a0_1 a0_2 a0_3 a0_4 l0_5 l0_6 t212 t213 t214 t215 t216 t217 t220))) = some (r1, r2, r3, r4, r5, r6, r7, r8) := H
  have A4 := Aside0.mk A40
  clear A40
  have HC5 := Aside0.mk H
  clear H
  go_enter Try.func20, Try.ntmps20
  go_upto_region 2 with (first | ((with_reducible refine gate_dst (N := 3) rfl ?_); refine box_event ?hg (N := 3) ?hd (cs := #[.int .i64 a0_0, .int .i64 a0_1, .string a0_2, .int .i64 a0_3, .bool a0_4, .slice A0_5 l0_5.length c0_5, .slice A0_6 l0_6.length c0_6]) (t := 29) ?hr ?_; (case hd => rfl); (case hg => rfl); (case hr => first | (go_simp; done) | (go_simp; rfl)); intro gb210 hg w6 hbox hb; have n0_ := Aside0.mk (below_step (pkB HB.out) hb); have n1_ := Aside0.mk (hbox); have n2_ := Aside0.mk ((by rw [hg]; exact (below_size (pkB HB.out)) : w.heap.size ≤ gb210)); have n3_ := Aside0.mk ((by rw [hg]; exact (below_size (pkB HB.out)) : w.heap.size ≤ gb210)); clear HB; have HB := n0_; have BK210 := n1_; have GW210 := n2_; have GE210 := n3_; clear n0_ n1_ n2_ n3_; clear hb hbox hg) | ((with_reducible refine gate_dst (N := 6) rfl ?_); refine box_event ?hg (N := 6) ?hd (cs := #[.int .i64 0, .int .i64 0, .string (⟨#[]⟩ : ByteArray), .int .i64 0, .bool false, .slice none 0 0, .slice none 0 0]) (t := 29) ?hr ?_; (case hd => rfl); (case hg => rfl); (case hr => first | (go_simp; done) | (go_simp; rfl)); intro gb211 hg w7 hbox hb; have n0_ := Aside0.mk (blk_below (g := gb210) (o := .cells #[.int .i64 a0_0, .int .i64 a0_1, .string a0_2, .int .i64 a0_3, .bool a0_4, .slice A0_5 l0_5.length c0_5, .slice A0_6 l0_6.length c0_6] 29 (0, 0)) (pkK BK210.out) hb); have n1_ := Aside0.mk (below_step (by repeat (first | (with_reducible first | exact HB.out | apply below_alloc | apply pw_below_drewN | apply below_drew1 | refine below_set ?_ GE210.out) | exact HB.out)) hb); have n2_ := Aside0.mk (hbox); have n3_ := Aside0.mk ((by rw [hg]; exact (below_size (by repeat (first | (with_reducible first | exact HB.out | apply below_alloc | apply pw_below_drewN | apply below_drew1 | refine below_set ?_ GE210.out) | exact HB.out))) : w.heap.size ≤ gb211)); have n4_ := Aside0.mk ((by rw [hg]; exact (below_size (by repeat (first | (with_reducible first | exact HB.out | apply below_alloc | apply pw_below_drewN | apply below_drew1 | refine below_set ?_ GE210.out) | exact HB.out))) : w.heap.size ≤ gb211)); have n5_ := Aside0.mk ((by rw [hg]; exact Nat.ne_of_lt (blk_lt (g := gb210) (o := .cells #[.int .i64 a0_0, .int .i64 a0_1, .string a0_2, .int .i64 a0_3, .bool a0_4, .slice A0_5 l0_5.length c0_5, .slice A0_6 l0_6.length c0_6] 29 (0, 0)) (pkK BK210.out)) : gb210 ≠ gb211)); have n6_ := Aside0.mk ((by rw [hg]; exact Nat.ne_of_gt (blk_lt (g := gb210) (o := .cells #[.int .i64 a0_0, .int .i64 a0_1, .string a0_2, .int .i64 a0_3, .bool a0_4, .slice A0_5 l0_5.length c0_5, .slice A0_6 l0_6.length c0_6] 29 (0, 0)) (pkK BK210.out)) : gb211 ≠ gb210)); clear BK210 HB; have BK210 := n0_; have HB := n1_; have BK211 := n2_; have GW211 := n3_; have GE211 := n4_; have NB210_211 := n5_; have NB211_210 := n6_; clear n0_ n1_ n2_ n3_ n4_ n5_ n6_; clear hb hbox hg; have hnb8 := NB210_211.out; have hnc8 := NB211_210.out; have hcz9_0 : w7.cell? ⟨gb210, 0, none⟩ = some (.int .i64 a0_0) := (blk_cell BK210.out 0).trans rfl; have hcz9_1 : w7.cell? ⟨gb210, 1, none⟩ = some (.int .i64 a0_1) := (blk_cell BK210.out 1).trans rfl; have hcz9_2 : w7.cell? ⟨gb210, 2, none⟩ = some (.string a0_2) := (blk_cell BK210.out 2).trans rfl; have hcz9_3 : w7.cell? ⟨gb210, 3, none⟩ = some (.int .i64 a0_3) := (blk_cell BK210.out 3).trans rfl; have hcz9_4 : w7.cell? ⟨gb210, 4, none⟩ = some (.bool a0_4) := (blk_cell BK210.out 4).trans rfl; have hcz9_5 : w7.cell? ⟨gb210, 5, none⟩ = some (.slice A0_5 l0_5.length c0_5) := (blk_cell BK210.out 5).trans rfl; have hcz9_6 : w7.cell? ⟨gb210, 6, none⟩ = some (.slice A0_6 l0_6.length c0_6) := (blk_cell BK210.out 6).trans rfl; have hfz9_0 := blk_frozen BK210.out 0; have hfz9_1 := blk_frozen BK210.out 1; have hfz9_2 := blk_frozen BK210.out 2; have hfz9_3 := blk_frozen BK210.out 3; have hfz9_4 := blk_frozen BK210.out 4; have hfz9_5 := blk_frozen BK210.out 5; have hfz9_6 := blk_frozen BK210.out 6) | ((with_reducible refine gate_callee (f := 54) rfl ?_); refine goesL_ (some 10) rfl rfl Try.func54 (by kernel_rfl) rfl #[.agg #[.int .i64 a0_0, .int .i64 a0_1, .string a0_2, .int .i64 a0_3, .bool a0_4, .slice A0_5 l0_5.length c0_5, .slice A0_6 l0_6.length c0_6]] rfl (by (try simp only [List.map_toArray, List.map_cons, List.map_nil]); first | done | rfl | (simp only [List.length_drop, List.length_take]; rfl) | (go_simp; done) | (simp [*]; done)) ?_; (with_reducible refine (impl_copyCell.calls a0_0 a0_1 a0_2 a0_3 a0_4 _ _ l0_5 _ _ l0_6 t212 t213 t214 t215 t216 t217 t220 _ ?side1 ?side2 ?side3 ?side4 A4.out).mono ?_); (case side1 => exact pkC (Kd.C_below HR0_5.out HB.out)); (case side2 => exact HC0_5.out); (case side3 => exact pkC (Kd.C_below HR0_6.out HB.out)); (case side4 => exact HC0_6.out); rintro e w10 ⟨v218, v221, rfl, ho0, ho1, hb⟩; refine ⟨_, rfl, ?_⟩; have n0_ := Aside0.mk (Kd.R_lower ho0 (below_size (by repeat (first | (with_reducible first | exact HB.out | apply below_alloc | apply pw_below_drewN | apply below_drew1 | refine below_set ?_ GE210.out | refine below_set ?_ GE211.out) | exact HB.out)))); have n1_ := Aside0.mk (Kd.R_lower ho1 (below_size (by repeat (first | (with_reducible first | exact HB.out | apply below_alloc | apply pw_below_drewN | apply below_drew1 | refine below_set ?_ GE210.out | refine below_set ?_ GE211.out) | exact HB.out)))); have n2_ := Aside0.mk (blk_below (g := gb210) (o := .cells #[.int .i64 a0_0, .int .i64 a0_1, .string a0_2, .int .i64 a0_3, .bool a0_4, .slice A0_5 l0_5.length c0_5, .slice A0_6 l0_6.length c0_6] 29 (0, 0)) (pkK BK210.out) hb); have n3_ := Aside0.mk (blk_below (g := gb211) (o := .cells #[.int .i64 0, .int .i64 0, .string (⟨#[]⟩ : ByteArray), .int .i64 0, .bool false, .slice none 0 0, .slice none 0 0] 29 (0, 0)) (pkK BK211.out) hb); have n4_ := Aside0.mk (below_step (by repeat (first | (with_reducible first | exact HB.out | apply below_alloc | apply pw_below_drewN | apply below_drew1 | refine below_set ?_ GE210.out | refine below_set ?_ GE211.out) | exact HB.out)) hb); clear BK210 BK211 HB; have HO219 := n0_; have HO222 := n1_; have BK210 := n2_; have BK211 := n3_; have HB := n4_; clear n0_ n1_ n2_ n3_ n4_; (try clear hb); (try clear hb2); (try clear hk); (try clear hi); (try clear ho0); (try clear ho1)) | ((with_reducible refine gate_dst (N := 8) rfl ?_); refine box_event ?hg (N := 8) ?hd (cs := #[.int .i64 0, .int .i64 0, .string (⟨#[]⟩ : ByteArray), .int .i64 0, .bool false, .slice none 0 0, .slice none 0 0]) (t := 29) ?hr ?_; (case hd => rfl); (case hg => rfl); (case hr => first | (go_simp; done) | (go_simp; rfl)); intro gb223 hg w11 hbox hb; have n0_ := Aside0.mk (Kd.R_below (pkR HO219.out) hb); have n1_ := Aside0.mk (Kd.R_below (pkR HO222.out) hb); have n2_ := Aside0.mk (blk_below (g := gb210) (o := .cells #[.int .i64 a0_0, .int .i64 a0_1, .string a0_2, .int .i64 a0_3, .bool a0_4, .slice A0_5 l0_5.length c0_5, .slice A0_6 l0_6.length c0_6] 29 (0, 0)) (pkK BK210.out) hb); have n3_ := Aside0.mk (blk_below (g := gb211) (o := .cells #[.int .i64 0, .int .i64 0, .string (⟨#[]⟩ : ByteArray), .int .i64 0, .bool false, .slice none 0 0, .slice none 0 0] 29 (0, 0)) (pkK BK211.out) hb); have n4_ := Aside0.mk (below_step (by repeat (first | (with_reducible first | exact HB.out | apply below_alloc | apply pw_below_drewN | apply below_drew1 | refine below_set ?_ GE210.out | refine below_set ?_ GE211.out) | exact HB.out)) hb); have n5_ := Aside0.mk (hbox); have n6_ := Aside0.mk ((by rw [hg]; exact (below_size (by repeat (first | (with_reducible first | exact HB.out | apply below_alloc | apply pw_below_drewN | apply below_drew1 | refine below_set ?_ GE210.out | refine below_set ?_ GE211.out) | exact HB.out))) : w.heap.size ≤ gb223)); have n7_ := Aside0.mk ((by rw [hg]; exact (below_size (by repeat (first | (with_reducible first | exact HB.out | apply below_alloc | apply pw_below_drewN | apply below_drew1 | refine below_set ?_ GE210.out | refine below_set ?_ GE211.out) | exact HB.out))) : w.heap.size ≤ gb223)); have n8_ := Aside0.mk ((by rw [hg]; exact Nat.ne_of_lt (blk_lt (g := gb210) (o := .cells #[.int .i64 a0_0, .int .i64 a0_1, .string a0_2, .int .i64 a0_3, .bool a0_4, .slice A0_5 l0_5.length c0_5, .slice A0_6 l0_6.length c0_6] 29 (0, 0)) (pkK BK210.out)) : gb210 ≠ gb223)); have n9_ := Aside0.mk ((by rw [hg]; exact Nat.ne_of_gt (blk_lt (g := gb210) (o := .cells #[.int .i64 a0_0, .int .i64 a0_1, .string a0_2, .int .i64 a0_3, .bool a0_4, .slice A0_5 l0_5.length c0_5, .slice A0_6 l0_6.length c0_6] 29 (0, 0)) (pkK BK210.out)) : gb223 ≠ gb210)); have n10_ := Aside0.mk ((by rw [hg]; exact Nat.ne_of_lt (blk_lt (g := gb211) (o := .cells #[.int .i64 0, .int .i64 0, .string (⟨#[]⟩ : ByteArray), .int .i64 0, .bool false, .slice none 0 0, .slice none 0 0] 29 (0, 0)) (pkK BK211.out)) : gb211 ≠ gb223)); have n11_ := Aside0.mk ((by rw [hg]; exact Nat.ne_of_gt (blk_lt (g := gb211) (o := .cells #[.int .i64 0, .int .i64 0, .string (⟨#[]⟩ : ByteArray), .int .i64 0, .bool false, .slice none 0 0, .slice none 0 0] 29 (0, 0)) (pkK BK211.out)) : gb223 ≠ gb211)); clear HO219 HO222 BK210 BK211 HB; have HO219 := n0_; have HO222 := n1_; have BK210 := n2_; have BK211 := n3_; have HB := n4_; have BK223 := n5_; have GW223 := n6_; have GE223 := n7_; have NB210_223 := n8_; have NB223_210 := n9_; have NB211_223 := n10_; have NB223_211 := n11_; clear n0_ n1_ n2_ n3_ n4_ n5_ n6_ n7_ n8_ n9_ n10_ n11_; clear hb hbox hg; have hnb12 := NB223_210.out; have hnc12 := NB210_223.out; have hnb13 := NB223_211.out; have hnc13 := NB211_223.out; have hcz14_0 : w11.cell? ⟨gb223, 0, none⟩ = some (.int .i64 0) := (blk_cell BK223.out 0).trans rfl; have hcz14_1 : w11.cell? ⟨gb223, 1, none⟩ = some (.int .i64 0) := (blk_cell BK223.out 1).trans rfl; have hcz14_2 : w11.cell? ⟨gb223, 2, none⟩ = some (.string (⟨#[]⟩ : ByteArray)) := (blk_cell BK223.out 2).trans rfl; have hcz14_3 : w11.cell? ⟨gb223, 3, none⟩ = some (.int .i64 0) := (blk_cell BK223.out 3).trans rfl; have hcz14_4 : w11.cell? ⟨gb223, 4, none⟩ = some (.bool false) := (blk_cell BK223.out 4).trans rfl; have hcz14_5 : w11.cell? ⟨gb223, 5, none⟩ = some (.slice none 0 0) := (blk_cell BK223.out 5).trans rfl; have hcz14_6 : w11.cell? ⟨gb223, 6, none⟩ = some (.slice none 0 0) := (blk_cell BK223.out 6).trans rfl; have hfz14_0 := blk_frozen BK223.out 0; have hfz14_1 := blk_frozen BK223.out 1; have hfz14_2 := blk_frozen BK223.out 2; have hfz14_3 := blk_frozen BK223.out 3; have hfz14_4 := blk_frozen BK223.out 4; have hfz14_5 := blk_frozen BK223.out 5; have hfz14_6 := blk_frozen BK223.out 6; obtain ⟨Ao15, co15, eo15⟩ := Kd.R_slice HO219.out; subst eo15; obtain ⟨Ao16, co16, eo16⟩ := Kd.R_slice HO222.out; subst eo16))
  (try simp only [Act.put, List.setIfInBounds_toArray, List.set_cons_zero, List.set_cons_succ])
  go_cut [11] (fun v11 wc => ∃ (kq : Nat) (x11_4 : Bool), v11 = .bool x11_4 ∧ Aside0 (impl_Watch.j0 kq a1 a2 x11_4 a0_0 a0_1 a0_2 a0_3 a0_4 l0_5 l0_6 t212 t213 t214 t215 t216 t217 t220 = some (r1, r2, r3, r4, r5, r6, r7, r8)) ∧ Aside0 (kq ≤ k) ∧ Aside0 (Kd.R (Kd.int .i64) 3 wc w.heap.size (fun k_ => some k_ ≠ ((.slice Ao16 t220.length co16) : Value).ownBlock) (.slice Ao15 t217.length co15) t217) ∧ Aside0 (Kd.R (Kd.int .i64) 3 wc w.heap.size (fun k_ => some k_ ≠ ((.slice Ao15 t217.length co15) : Value).ownBlock) (.slice Ao16 t220.length co16) t220) ∧ Aside0 (wc.heap[gb210]? = some (.cells #[.int .i64 a0_0, .int .i64 a0_1, .string a0_2, .int .i64 a0_3, .bool a0_4, (.slice A0_5 l0_5.length c0_5), (.slice A0_6 l0_6.length c0_6)] 29 (0, 0))) ∧ Aside0 (wc.heap[gb211]? = some (.cells #[.int .i64 0, .int .i64 0, .string (⟨#[]⟩ : ByteArray), .int .i64 0, .bool false, (.slice none 0 0), (.slice none 0 0)] 29 (0, 0))) ∧ Aside0 (wc.heap[gb223]? = some (.cells #[.int .i64 t212, .int .i64 t213, .string t214, .int .i64 t215, .bool t216, (.slice Ao15 t217.length co15), (.slice Ao16 t220.length co16)] 29 (0, 0))) ∧ Aside0 (Below w.heap.size w wc))
  case first =>
    have H := HC5.out
    clear HC5
    replace H := Option.bind_eq_some_iff.mp H
    obtain ⟨t224, A170, H⟩ := H
    replace H : (if t224 = true then ((impl_isClient.f a1).bind fun t225 => (impl_Watch.j0 k a1 a2 (!t225) a0_0 a0_1 a0_2 a0_3 a0_4 l0_5 l0_6 t212 t213 t214 t215 t216 t217 t220)) else (impl_Watch.j0 k a1 a2 true a0_0 a0_1 a0_2 a0_3 a0_4 l0_5 l0_6 t212 t213 t214 t215 t216 t217 t220)) = some (r1, r2, r3, r4, r5, r6, r7, r8) := H
    have A17 := Aside0.mk A170
    clear A170
    by_cases c18 : t224 = true
    · subst c18
      have H1 : ((impl_isClient.f a1).bind fun t225 => (impl_Watch.j0 k a1 a2 (!t225) a0_0 a0_1 a0_2 a0_3 a0_4 l0_5 l0_6 t212 t213 t214 t215 t216 t217 t220)) = some (r1, r2, r3, r4, r5, r6, r7, r8) := by rw [if_pos rfl] at H; exact H
      clear H
      have H := H1
      clear H1
      replace H := Option.bind_eq_some_iff.mp H
      obtain ⟨t225, A190, H⟩ := H
      replace H : (impl_Watch.j0 k a1 a2 (!t225) a0_0 a0_1 a0_2 a0_3 a0_4 l0_5 l0_6 t212 t213 t214 t215 t216 t217 t220) = some (r1, r2, r3, r4, r5, r6, r7, r8) := H
      have A19 := Aside0.mk A190
      clear A190
      have H' := Aside0.mk H
      clear H
      have hnb20 := NB210_211.out
      have hnc20 := NB211_210.out
      have hnb21 := NB210_223.out
      have hnc21 := NB223_210.out
      have hcz22_0 : w11.cell? ⟨gb210, 0, none⟩ = some (.int .i64 a0_0) := (blk_cell BK210.out 0).trans rfl
      have hcz22_1 : w11.cell? ⟨gb210, 1, none⟩ = some (.int .i64 a0_1) := (blk_cell BK210.out 1).trans rfl
      have hcz22_2 : w11.cell? ⟨gb210, 2, none⟩ = some (.string a0_2) := (blk_cell BK210.out 2).trans rfl
      have hcz22_3 : w11.cell? ⟨gb210, 3, none⟩ = some (.int .i64 a0_3) := (blk_cell BK210.out 3).trans rfl
      have hcz22_4 : w11.cell? ⟨gb210, 4, none⟩ = some (.bool a0_4) := (blk_cell BK210.out 4).trans rfl
      have hcz22_5 : w11.cell? ⟨gb210, 5, none⟩ = some (.slice A0_5 l0_5.length c0_5) := (blk_cell BK210.out 5).trans rfl
      have hcz22_6 : w11.cell? ⟨gb210, 6, none⟩ = some (.slice A0_6 l0_6.length c0_6) := (blk_cell BK210.out 6).trans rfl
      have hfz22_0 := blk_frozen BK210.out 0
      have hfz22_1 := blk_frozen BK210.out 1
      have hfz22_2 := blk_frozen BK210.out 2
      have hfz22_3 := blk_frozen BK210.out 3
      have hfz22_4 := blk_frozen BK210.out 4
      have hfz22_5 := blk_frozen BK210.out 5
      have hfz22_6 := blk_frozen BK210.out 6
      go_wp2_with (first | ((with_reducible refine gate_callee (f := 33) rfl ?_); refine goesL_ (some 13) rfl rfl Try.func33 (by kernel_rfl) rfl #[.agg #[.int .i64 a0_0, .int .i64 a0_1, .string a0_2, .int .i64 a0_3, .bool a0_4, .slice A0_5 l0_5.length c0_5, .slice A0_6 l0_6.length c0_6]] rfl (by (try simp only [List.map_toArray, List.map_cons, List.map_nil]); first | done | rfl | (simp only [List.length_drop, List.length_take]; rfl) | (go_simp; done) | (simp [*]; done)) ?_; (with_reducible refine (impl_CellOk.calls k a0_0 a0_1 a0_2 a0_3 a0_4 _ _ l0_5 _ _ l0_6 true _ ?side1 ?side2 ?side3 ?side4 A17.out).mono ?_); (case side1 => exact Kd.C_below HR0_5.out (by repeat (first | (with_reducible first | exact HB.out | apply below_alloc | apply pw_below_drewN | apply below_drew1 | refine below_set ?_ GE210.out | refine below_set ?_ GE211.out | refine below_set ?_ GE223.out) | exact HB.out))); (case side2 => exact HC0_5.out); (case side3 => exact Kd.C_below HR0_6.out (by repeat (first | (with_reducible first | exact HB.out | apply below_alloc | apply pw_below_drewN | apply below_drew1 | refine below_set ?_ GE210.out | refine below_set ?_ GE211.out | refine below_set ?_ GE223.out) | exact HB.out))); (case side4 => exact HC0_6.out); rintro e w23 ⟨rfl, hb⟩; refine ⟨_, rfl, ?_⟩; have n0_ := Aside0.mk (Kd.R_below (by (with_reducible repeat (first | apply Kd.R_alloc | apply Kd.R_drewN | apply Kd.R_drew)); exact (Kd.R_mono (Kd.R_far (p := ⟨gb223, 6, none⟩) (Kd.R_far (p := ⟨gb223, 5, none⟩) (Kd.R_far (p := ⟨gb223, 4, none⟩) (Kd.R_far (p := ⟨gb223, 3, none⟩) (Kd.R_far (p := ⟨gb223, 2, none⟩) (Kd.R_far (p := ⟨gb223, 1, none⟩) (Kd.R_far (p := ⟨gb223, 0, none⟩) (Kd.R_types HO219.out BK223.out (by decide)) (fun _ hk => hk.2) (.int .i64 t212)) (fun _ hk => hk.2) (.int .i64 t213)) (fun _ hk => hk.2) (.string t214)) (fun _ hk => hk.2) (.int .i64 t215)) (fun _ hk => hk.2) (.bool t216)) (fun _ hk => hk.2) (.slice Ao15 t217.length co15)) (fun _ hk => hk.2) (.slice Ao16 t220.length co16)) (fun _ h_ => h_.1))) hb); have n1_ := Aside0.mk (Kd.R_below (by (with_reducible repeat (first | apply Kd.R_alloc | apply Kd.R_drewN | apply Kd.R_drew)); exact (Kd.R_mono (Kd.R_far (p := ⟨gb223, 6, none⟩) (Kd.R_far (p := ⟨gb223, 5, none⟩) (Kd.R_far (p := ⟨gb223, 4, none⟩) (Kd.R_far (p := ⟨gb223, 3, none⟩) (Kd.R_far (p := ⟨gb223, 2, none⟩) (Kd.R_far (p := ⟨gb223, 1, none⟩) (Kd.R_far (p := ⟨gb223, 0, none⟩) (Kd.R_types HO222.out BK223.out (by decide)) (fun _ hk => hk.2) (.int .i64 t212)) (fun _ hk => hk.2) (.int .i64 t213)) (fun _ hk => hk.2) (.string t214)) (fun _ hk => hk.2) (.int .i64 t215)) (fun _ hk => hk.2) (.bool t216)) (fun _ hk => hk.2) (.slice Ao15 t217.length co15)) (fun _ hk => hk.2) (.slice Ao16 t220.length co16)) (fun _ h_ => h_.1))) hb); have n2_ := Aside0.mk (blk_below (g := gb210) (o := .cells #[.int .i64 a0_0, .int .i64 a0_1, .string a0_2, .int .i64 a0_3, .bool a0_4, .slice A0_5 l0_5.length c0_5, .slice A0_6 l0_6.length c0_6] 29 (0, 0)) (by (with_reducible repeat (first | refine blk_drewN ?_ _ | refine blk_drew ?_ | refine blk_alloc ?_ _)); refine blk_far ?_ NB210_223.out _; (with_reducible repeat (first | refine blk_drewN ?_ _ | refine blk_drew ?_ | refine blk_alloc ?_ _)); refine blk_far ?_ NB210_223.out _; (with_reducible repeat (first | refine blk_drewN ?_ _ | refine blk_drew ?_ | refine blk_alloc ?_ _)); refine blk_far ?_ NB210_223.out _; (with_reducible repeat (first | refine blk_drewN ?_ _ | refine blk_drew ?_ | refine blk_alloc ?_ _)); refine blk_far ?_ NB210_223.out _; (with_reducible repeat (first | refine blk_drewN ?_ _ | refine blk_drew ?_ | refine blk_alloc ?_ _)); refine blk_far ?_ NB210_223.out _; (with_reducible repeat (first | refine blk_drewN ?_ _ | refine blk_drew ?_ | refine blk_alloc ?_ _)); refine blk_far ?_ NB210_223.out _; (with_reducible repeat (first | refine blk_drewN ?_ _ | refine blk_drew ?_ | refine blk_alloc ?_ _)); refine blk_far ?_ NB210_223.out _; (with_reducible repeat (first | refine blk_drewN ?_ _ | refine blk_drew ?_ | refine blk_alloc ?_ _)); exact BK210.out) hb); have n3_ := Aside0.mk (blk_below (g := gb211) (o := .cells #[.int .i64 0, .int .i64 0, .string (⟨#[]⟩ : ByteArray), .int .i64 0, .bool false, .slice none 0 0, .slice none 0 0] 29 (0, 0)) (by (with_reducible repeat (first | refine blk_drewN ?_ _ | refine blk_drew ?_ | refine blk_alloc ?_ _)); refine blk_far ?_ NB211_223.out _; (with_reducible repeat (first | refine blk_drewN ?_ _ | refine blk_drew ?_ | refine blk_alloc ?_ _)); refine blk_far ?_ NB211_223.out _; (with_reducible repeat (first | refine blk_drewN ?_ _ | refine blk_drew ?_ | refine blk_alloc ?_ _)); refine blk_far ?_ NB211_223.out _; (with_reducible repeat (first | refine blk_drewN ?_ _ | refine blk_drew ?_ | refine blk_alloc ?_ _)); refine blk_far ?_ NB211_223.out _; (with_reducible repeat (first | refine blk_drewN ?_ _ | refine blk_drew ?_ | refine blk_alloc ?_ _)); refine blk_far ?_ NB211_223.out _; (with_reducible repeat (first | refine blk_drewN ?_ _ | refine blk_drew ?_ | refine blk_alloc ?_ _)); refine blk_far ?_ NB211_223.out _; (with_reducible repeat (first | refine blk_drewN ?_ _ | refine blk_drew ?_ | refine blk_alloc ?_ _)); refine blk_far ?_ NB211_223.out _; (with_reducible repeat (first | refine blk_drewN ?_ _ | refine blk_drew ?_ | refine blk_alloc ?_ _)); exact BK211.out) hb); have n4_ := Aside0.mk (blk_below (g := gb223) (o := .cells #[.int .i64 t212, .int .i64 t213, .string t214, .int .i64 t215, .bool t216, .slice Ao15 t217.length co15, .slice Ao16 t220.length co16] 29 (0, 0)) (by (with_reducible repeat (first | refine blk_drewN ?_ _ | refine blk_drew ?_ | refine blk_alloc ?_ _)); refine blk_put (cs := #[.int .i64 t212, .int .i64 t213, .string t214, .int .i64 t215, .bool t216, .slice Ao15 t217.length co15, .slice none 0 0]) ?_ 6 _ rfl; (with_reducible repeat (first | refine blk_drewN ?_ _ | refine blk_drew ?_ | refine blk_alloc ?_ _)); refine blk_put (cs := #[.int .i64 t212, .int .i64 t213, .string t214, .int .i64 t215, .bool t216, .slice none 0 0, .slice none 0 0]) ?_ 5 _ rfl; (with_reducible repeat (first | refine blk_drewN ?_ _ | refine blk_drew ?_ | refine blk_alloc ?_ _)); refine blk_put (cs := #[.int .i64 t212, .int .i64 t213, .string t214, .int .i64 t215, .bool false, .slice none 0 0, .slice none 0 0]) ?_ 4 _ rfl; (with_reducible repeat (first | refine blk_drewN ?_ _ | refine blk_drew ?_ | refine blk_alloc ?_ _)); refine blk_put (cs := #[.int .i64 t212, .int .i64 t213, .string t214, .int .i64 0, .bool false, .slice none 0 0, .slice none 0 0]) ?_ 3 _ rfl; (with_reducible repeat (first | refine blk_drewN ?_ _ | refine blk_drew ?_ | refine blk_alloc ?_ _)); refine blk_put (cs := #[.int .i64 t212, .int .i64 t213, .string (⟨#[]⟩ : ByteArray), .int .i64 0, .bool false, .slice none 0 0, .slice none 0 0]) ?_ 2 _ rfl; (with_reducible repeat (first | refine blk_drewN ?_ _ | refine blk_drew ?_ | refine blk_alloc ?_ _)); refine blk_put (cs := #[.int .i64 t212, .int .i64 0, .string (⟨#[]⟩ : ByteArray), .int .i64 0, .bool false, .slice none 0 0, .slice none 0 0]) ?_ 1 _ rfl; (with_reducible repeat (first | refine blk_drewN ?_ _ | refine blk_drew ?_ | refine blk_alloc ?_ _)); refine blk_put (cs := #[.int .i64 0, .int .i64 0, .string (⟨#[]⟩ : ByteArray), .int .i64 0, .bool false, .slice none 0 0, .slice none 0 0]) ?_ 0 _ rfl; (with_reducible repeat (first | refine blk_drewN ?_ _ | refine blk_drew ?_ | refine blk_alloc ?_ _)); exact BK223.out) hb); have n5_ := Aside0.mk (below_step (by repeat (first | (with_reducible first | exact HB.out | apply below_alloc | apply pw_below_drewN | apply below_drew1 | refine below_set ?_ GE210.out | refine below_set ?_ GE211.out | refine below_set ?_ GE223.out) | exact HB.out)) hb); clear HO219 HO222 BK210 BK211 BK223 HB; have HO219 := n0_; have HO222 := n1_; have BK210 := n2_; have BK211 := n3_; have BK223 := n4_; have HB := n5_; clear n0_ n1_ n2_ n3_ n4_ n5_; (try clear hb); (try clear hb2); (try clear hk); (try clear hi)) | (go_at_call 62; (with_reducible refine (impl_isClient.calls a1 t225 _ A19.out).mono ?_); rintro e w' ⟨rfl, ⟨nd, rfl⟩⟩))
      go_meet
      case rel => exact ⟨_, (!t225), (by first | rfl | (simp; done) | (simp [*]; done)), H', ⟨by first | omega | exact Nat.le_refl _⟩, ⟨pkR HO219.out⟩, ⟨pkR HO222.out⟩, ⟨pkK BK210.out⟩, ⟨pkK BK211.out⟩, ⟨pkK BK223.out⟩, ⟨by repeat (first | (with_reducible first | exact HB.out | apply below_alloc | apply pw_below_drewN | apply below_drew1 | refine below_set ?_ GE210.out | refine below_set ?_ GE211.out | refine below_set ?_ GE223.out) | exact HB.out)⟩⟩
    · replace c18 := Bool.eq_false_iff.mpr c18
      subst c18
      have H1 : (impl_Watch.j0 k a1 a2 true a0_0 a0_1 a0_2 a0_3 a0_4 l0_5 l0_6 t212 t213 t214 t215 t216 t217 t220) = some (r1, r2, r3, r4, r5, r6, r7, r8) := by rw [if_neg (show ¬ (false = true) by decide)] at H; exact H
      clear H
      have H := H1
      clear H1
      have H' := Aside0.mk H
      clear H
      have hnb24 := NB210_211.out
      have hnc24 := NB211_210.out
      have hnb25 := NB210_223.out
      have hnc25 := NB223_210.out
      have hcz26_0 : w11.cell? ⟨gb210, 0, none⟩ = some (.int .i64 a0_0) := (blk_cell BK210.out 0).trans rfl
      have hcz26_1 : w11.cell? ⟨gb210, 1, none⟩ = some (.int .i64 a0_1) := (blk_cell BK210.out 1).trans rfl
      have hcz26_2 : w11.cell? ⟨gb210, 2, none⟩ = some (.string a0_2) := (blk_cell BK210.out 2).trans rfl
      have hcz26_3 : w11.cell? ⟨gb210, 3, none⟩ = some (.int .i64 a0_3) := (blk_cell BK210.out 3).trans rfl
      have hcz26_4 : w11.cell? ⟨gb210, 4, none⟩ = some (.bool a0_4) := (blk_cell BK210.out 4).trans rfl
      have hcz26_5 : w11.cell? ⟨gb210, 5, none⟩ = some (.slice A0_5 l0_5.length c0_5) := (blk_cell BK210.out 5).trans rfl
      have hcz26_6 : w11.cell? ⟨gb210, 6, none⟩ = some (.slice A0_6 l0_6.length c0_6) := (blk_cell BK210.out 6).trans rfl
      have hfz26_0 := blk_frozen BK210.out 0
      have hfz26_1 := blk_frozen BK210.out 1
      have hfz26_2 := blk_frozen BK210.out 2
      have hfz26_3 := blk_frozen BK210.out 3
      have hfz26_4 := blk_frozen BK210.out 4
      have hfz26_5 := blk_frozen BK210.out 5
      have hfz26_6 := blk_frozen BK210.out 6
      go_wp2_with (first | ((with_reducible refine gate_callee (f := 33) rfl ?_); refine goesL_ (some 13) rfl rfl Try.func33 (by kernel_rfl) rfl #[.agg #[.int .i64 a0_0, .int .i64 a0_1, .string a0_2, .int .i64 a0_3, .bool a0_4, .slice A0_5 l0_5.length c0_5, .slice A0_6 l0_6.length c0_6]] rfl (by (try simp only [List.map_toArray, List.map_cons, List.map_nil]); first | done | rfl | (simp only [List.length_drop, List.length_take]; rfl) | (go_simp; done) | (simp [*]; done)) ?_; (with_reducible refine (impl_CellOk.calls k a0_0 a0_1 a0_2 a0_3 a0_4 _ _ l0_5 _ _ l0_6 false _ ?side1 ?side2 ?side3 ?side4 A17.out).mono ?_); (case side1 => exact Kd.C_below HR0_5.out (by repeat (first | (with_reducible first | exact HB.out | apply below_alloc | apply pw_below_drewN | apply below_drew1 | refine below_set ?_ GE210.out | refine below_set ?_ GE211.out | refine below_set ?_ GE223.out) | exact HB.out))); (case side2 => exact HC0_5.out); (case side3 => exact Kd.C_below HR0_6.out (by repeat (first | (with_reducible first | exact HB.out | apply below_alloc | apply pw_below_drewN | apply below_drew1 | refine below_set ?_ GE210.out | refine below_set ?_ GE211.out | refine below_set ?_ GE223.out) | exact HB.out))); (case side4 => exact HC0_6.out); rintro e w27 ⟨rfl, hb⟩; refine ⟨_, rfl, ?_⟩; have n0_ := Aside0.mk (Kd.R_below (by (with_reducible repeat (first | apply Kd.R_alloc | apply Kd.R_drewN | apply Kd.R_drew)); exact (Kd.R_mono (Kd.R_far (p := ⟨gb223, 6, none⟩) (Kd.R_far (p := ⟨gb223, 5, none⟩) (Kd.R_far (p := ⟨gb223, 4, none⟩) (Kd.R_far (p := ⟨gb223, 3, none⟩) (Kd.R_far (p := ⟨gb223, 2, none⟩) (Kd.R_far (p := ⟨gb223, 1, none⟩) (Kd.R_far (p := ⟨gb223, 0, none⟩) (Kd.R_types HO219.out BK223.out (by decide)) (fun _ hk => hk.2) (.int .i64 t212)) (fun _ hk => hk.2) (.int .i64 t213)) (fun _ hk => hk.2) (.string t214)) (fun _ hk => hk.2) (.int .i64 t215)) (fun _ hk => hk.2) (.bool t216)) (fun _ hk => hk.2) (.slice Ao15 t217.length co15)) (fun _ hk => hk.2) (.slice Ao16 t220.length co16)) (fun _ h_ => h_.1))) hb); have n1_ := Aside0.mk (Kd.R_below (by (with_reducible repeat (first | apply Kd.R_alloc | apply Kd.R_drewN | apply Kd.R_drew)); exact (Kd.R_mono (Kd.R_far (p := ⟨gb223, 6, none⟩) (Kd.R_far (p := ⟨gb223, 5, none⟩) (Kd.R_far (p := ⟨gb223, 4, none⟩) (Kd.R_far (p := ⟨gb223, 3, none⟩) (Kd.R_far (p := ⟨gb223, 2, none⟩) (Kd.R_far (p := ⟨gb223, 1, none⟩) (Kd.R_far (p := ⟨gb223, 0, none⟩) (Kd.R_types HO222.out BK223.out (by decide)) (fun _ hk => hk.2) (.int .i64 t212)) (fun _ hk => hk.2) (.int .i64 t213)) (fun _ hk => hk.2) (.string t214)) (fun _ hk => hk.2) (.int .i64 t215)) (fun _ hk => hk.2) (.bool t216)) (fun _ hk => hk.2) (.slice Ao15 t217.length co15)) (fun _ hk => hk.2) (.slice Ao16 t220.length co16)) (fun _ h_ => h_.1))) hb); have n2_ := Aside0.mk (blk_below (g := gb210) (o := .cells #[.int .i64 a0_0, .int .i64 a0_1, .string a0_2, .int .i64 a0_3, .bool a0_4, .slice A0_5 l0_5.length c0_5, .slice A0_6 l0_6.length c0_6] 29 (0, 0)) (by (with_reducible repeat (first | refine blk_drewN ?_ _ | refine blk_drew ?_ | refine blk_alloc ?_ _)); refine blk_far ?_ NB210_223.out _; (with_reducible repeat (first | refine blk_drewN ?_ _ | refine blk_drew ?_ | refine blk_alloc ?_ _)); refine blk_far ?_ NB210_223.out _; (with_reducible repeat (first | refine blk_drewN ?_ _ | refine blk_drew ?_ | refine blk_alloc ?_ _)); refine blk_far ?_ NB210_223.out _; (with_reducible repeat (first | refine blk_drewN ?_ _ | refine blk_drew ?_ | refine blk_alloc ?_ _)); refine blk_far ?_ NB210_223.out _; (with_reducible repeat (first | refine blk_drewN ?_ _ | refine blk_drew ?_ | refine blk_alloc ?_ _)); refine blk_far ?_ NB210_223.out _; (with_reducible repeat (first | refine blk_drewN ?_ _ | refine blk_drew ?_ | refine blk_alloc ?_ _)); refine blk_far ?_ NB210_223.out _; (with_reducible repeat (first | refine blk_drewN ?_ _ | refine blk_drew ?_ | refine blk_alloc ?_ _)); refine blk_far ?_ NB210_223.out _; (with_reducible repeat (first | refine blk_drewN ?_ _ | refine blk_drew ?_ | refine blk_alloc ?_ _)); exact BK210.out) hb); have n3_ := Aside0.mk (blk_below (g := gb211) (o := .cells #[.int .i64 0, .int .i64 0, .string (⟨#[]⟩ : ByteArray), .int .i64 0, .bool false, .slice none 0 0, .slice none 0 0] 29 (0, 0)) (by (with_reducible repeat (first | refine blk_drewN ?_ _ | refine blk_drew ?_ | refine blk_alloc ?_ _)); refine blk_far ?_ NB211_223.out _; (with_reducible repeat (first | refine blk_drewN ?_ _ | refine blk_drew ?_ | refine blk_alloc ?_ _)); refine blk_far ?_ NB211_223.out _; (with_reducible repeat (first | refine blk_drewN ?_ _ | refine blk_drew ?_ | refine blk_alloc ?_ _)); refine blk_far ?_ NB211_223.out _; (with_reducible repeat (first | refine blk_drewN ?_ _ | refine blk_drew ?_ | refine blk_alloc ?_ _)); refine blk_far ?_ NB211_223.out _; (with_reducible repeat (first | refine blk_drewN ?_ _ | refine blk_drew ?_ | refine blk_alloc ?_ _)); refine blk_far ?_ NB211_223.out _; (with_reducible repeat (first | refine blk_drewN ?_ _ | refine blk_drew ?_ | refine blk_alloc ?_ _)); refine blk_far ?_ NB211_223.out _; (with_reducible repeat (first | refine blk_drewN ?_ _ | refine blk_drew ?_ | refine blk_alloc ?_ _)); refine blk_far ?_ NB211_223.out _; (with_reducible repeat (first | refine blk_drewN ?_ _ | refine blk_drew ?_ | refine blk_alloc ?_ _)); exact BK211.out) hb); have n4_ := Aside0.mk (blk_below (g := gb223) (o := .cells #[.int .i64 t212, .int .i64 t213, .string t214, .int .i64 t215, .bool t216, .slice Ao15 t217.length co15, .slice Ao16 t220.length co16] 29 (0, 0)) (by (with_reducible repeat (first | refine blk_drewN ?_ _ | refine blk_drew ?_ | refine blk_alloc ?_ _)); refine blk_put (cs := #[.int .i64 t212, .int .i64 t213, .string t214, .int .i64 t215, .bool t216, .slice Ao15 t217.length co15, .slice none 0 0]) ?_ 6 _ rfl; (with_reducible repeat (first | refine blk_drewN ?_ _ | refine blk_drew ?_ | refine blk_alloc ?_ _)); refine blk_put (cs := #[.int .i64 t212, .int .i64 t213, .string t214, .int .i64 t215, .bool t216, .slice none 0 0, .slice none 0 0]) ?_ 5 _ rfl; (with_reducible repeat (first | refine blk_drewN ?_ _ | refine blk_drew ?_ | refine blk_alloc ?_ _)); refine blk_put (cs := #[.int .i64 t212, .int .i64 t213, .string t214, .int .i64 t215, .bool false, .slice none 0 0, .slice none 0 0]) ?_ 4 _ rfl; (with_reducible repeat (first | refine blk_drewN ?_ _ | refine blk_drew ?_ | refine blk_alloc ?_ _)); refine blk_put (cs := #[.int .i64 t212, .int .i64 t213, .string t214, .int .i64 0, .bool false, .slice none 0 0, .slice none 0 0]) ?_ 3 _ rfl; (with_reducible repeat (first | refine blk_drewN ?_ _ | refine blk_drew ?_ | refine blk_alloc ?_ _)); refine blk_put (cs := #[.int .i64 t212, .int .i64 t213, .string (⟨#[]⟩ : ByteArray), .int .i64 0, .bool false, .slice none 0 0, .slice none 0 0]) ?_ 2 _ rfl; (with_reducible repeat (first | refine blk_drewN ?_ _ | refine blk_drew ?_ | refine blk_alloc ?_ _)); refine blk_put (cs := #[.int .i64 t212, .int .i64 0, .string (⟨#[]⟩ : ByteArray), .int .i64 0, .bool false, .slice none 0 0, .slice none 0 0]) ?_ 1 _ rfl; (with_reducible repeat (first | refine blk_drewN ?_ _ | refine blk_drew ?_ | refine blk_alloc ?_ _)); refine blk_put (cs := #[.int .i64 0, .int .i64 0, .string (⟨#[]⟩ : ByteArray), .int .i64 0, .bool false, .slice none 0 0, .slice none 0 0]) ?_ 0 _ rfl; (with_reducible repeat (first | refine blk_drewN ?_ _ | refine blk_drew ?_ | refine blk_alloc ?_ _)); exact BK223.out) hb); have n5_ := Aside0.mk (below_step (by repeat (first | (with_reducible first | exact HB.out | apply below_alloc | apply pw_below_drewN | apply below_drew1 | refine below_set ?_ GE210.out | refine below_set ?_ GE211.out | refine below_set ?_ GE223.out) | exact HB.out)) hb); clear HO219 HO222 BK210 BK211 BK223 HB; have HO219 := n0_; have HO222 := n1_; have BK210 := n2_; have BK211 := n3_; have BK223 := n4_; have HB := n5_; clear n0_ n1_ n2_ n3_ n4_ n5_; (try clear hb); (try clear hb2); (try clear hk); (try clear hi)))
      go_meet
      case rel => exact ⟨_, (true), (by first | rfl | (simp; done) | (simp [*]; done)), H', ⟨by first | omega | exact Nat.le_refl _⟩, ⟨pkR HO219.out⟩, ⟨pkR HO222.out⟩, ⟨pkK BK210.out⟩, ⟨pkK BK211.out⟩, ⟨pkK BK223.out⟩, ⟨by repeat (first | (with_reducible first | exact HB.out | apply below_alloc | apply pw_below_drewN | apply below_drew1 | refine below_set ?_ GE210.out | refine below_set ?_ GE211.out | refine below_set ?_ GE223.out) | exact HB.out)⟩⟩
  case rest =>
    clear HC5
    try clear c1
    try clear c2
    try clear p2
    try clear c3
    try clear c5
    try clear c8
    try clear c12
    try clear c13
    try clear c18
    try clear c20
    try clear c21
    try clear c24
    try clear c25
    try clear hcz14_0
    try clear hcz14_1
    try clear hcz14_2
    try clear hcz14_3
    try clear hcz14_4
    try clear hcz14_5
    try clear hcz14_6
    try clear hcz22_0
    try clear hcz22_1
    try clear hcz22_2
    try clear hcz22_3
    try clear hcz22_4
    try clear hcz22_5
    try clear hcz22_6
    try clear hcz26_0
    try clear hcz26_1
    try clear hcz26_2
    try clear hcz26_3
    try clear hcz26_4
    try clear hcz26_5
    try clear hcz26_6
    try clear hcz9_0
    try clear hcz9_1
    try clear hcz9_2
    try clear hcz9_3
    try clear hcz9_4
    try clear hcz9_5
    try clear hcz9_6
    try clear hfz14_0
    try clear hfz14_1
    try clear hfz14_2
    try clear hfz14_3
    try clear hfz14_4
    try clear hfz14_5
    try clear hfz14_6
    try clear hfz22_0
    try clear hfz22_1
    try clear hfz22_2
    try clear hfz22_3
    try clear hfz22_4
    try clear hfz22_5
    try clear hfz22_6
    try clear hfz26_0
    try clear hfz26_1
    try clear hfz26_2
    try clear hfz26_3
    try clear hfz26_4
    try clear hfz26_5
    try clear hfz26_6
    try clear hfz9_0
    try clear hfz9_1
    try clear hfz9_2
    try clear hfz9_3
    try clear hfz9_4
    try clear hfz9_5
    try clear hfz9_6
    obtain ⟨kq, x11_4, rfl, HA, HJ4, HO_224005, HO_224006, BK210, BK211, BK223, HB⟩ := hcut
    cases kq with
    | zero => exact absurd HA.out (by simp [impl_Watch.j0])
    | succ kj4 =>
      have H := HA.out
      clear HA
      simp only [impl_Watch.j0] at H
      by_cases c28 : x11_4 = true
      · subst c28
        have H1 : (some (t212, t213, t214, t215, t216, t217, t220, 1)) = some (r1, r2, r3, r4, r5, r6, r7, r8) := by rw [if_pos rfl] at H; exact H
        clear H
        have H := H1
        clear H1
        simp only [Option.some.injEq, Prod.mk.injEq] at H
        obtain ⟨rfl, rfl, rfl, rfl, rfl, rfl, rfl, rfl⟩ := H
        have hnb29 := NB223_210.out
        have hnc29 := NB210_223.out
        have hnb30 := NB223_211.out
        have hnc30 := NB211_223.out
        have hcz31_0 : wc.cell? ⟨gb223, 0, none⟩ = some (.int .i64 t212) := (blk_cell BK223.out 0).trans rfl
        have hcz31_1 : wc.cell? ⟨gb223, 1, none⟩ = some (.int .i64 t213) := (blk_cell BK223.out 1).trans rfl
        have hcz31_2 : wc.cell? ⟨gb223, 2, none⟩ = some (.string t214) := (blk_cell BK223.out 2).trans rfl
        have hcz31_3 : wc.cell? ⟨gb223, 3, none⟩ = some (.int .i64 t215) := (blk_cell BK223.out 3).trans rfl
        have hcz31_4 : wc.cell? ⟨gb223, 4, none⟩ = some (.bool t216) := (blk_cell BK223.out 4).trans rfl
        have hcz31_5 : wc.cell? ⟨gb223, 5, none⟩ = some (.slice Ao15 t217.length co15) := (blk_cell BK223.out 5).trans rfl
        have hcz31_6 : wc.cell? ⟨gb223, 6, none⟩ = some (.slice Ao16 t220.length co16) := (blk_cell BK223.out 6).trans rfl
        have hfz31_0 := blk_frozen BK223.out 0
        have hfz31_1 := blk_frozen BK223.out 1
        have hfz31_2 := blk_frozen BK223.out 2
        have hfz31_3 := blk_frozen BK223.out 3
        have hfz31_4 := blk_frozen BK223.out 4
        have hfz31_5 := blk_frozen BK223.out 5
        have hfz31_6 := blk_frozen BK223.out 6
        have hnb32 := NB211_210.out
        have hnc32 := NB210_211.out
        have hcz33_0 : wc.cell? ⟨gb211, 0, none⟩ = some (.int .i64 0) := (blk_cell BK211.out 0).trans rfl
        have hcz33_1 : wc.cell? ⟨gb211, 1, none⟩ = some (.int .i64 0) := (blk_cell BK211.out 1).trans rfl
        have hcz33_2 : wc.cell? ⟨gb211, 2, none⟩ = some (.string (⟨#[]⟩ : ByteArray)) := (blk_cell BK211.out 2).trans rfl
        have hcz33_3 : wc.cell? ⟨gb211, 3, none⟩ = some (.int .i64 0) := (blk_cell BK211.out 3).trans rfl
        have hcz33_4 : wc.cell? ⟨gb211, 4, none⟩ = some (.bool false) := (blk_cell BK211.out 4).trans rfl
        have hcz33_5 : wc.cell? ⟨gb211, 5, none⟩ = some (.slice none 0 0) := (blk_cell BK211.out 5).trans rfl
        have hcz33_6 : wc.cell? ⟨gb211, 6, none⟩ = some (.slice none 0 0) := (blk_cell BK211.out 6).trans rfl
        have hfz33_0 := blk_frozen BK211.out 0
        have hfz33_1 := blk_frozen BK211.out 1
        have hfz33_2 := blk_frozen BK211.out 2
        have hfz33_3 := blk_frozen BK211.out 3
        have hfz33_4 := blk_frozen BK211.out 4
        have hfz33_5 := blk_frozen BK211.out 5
        have hfz33_6 := blk_frozen BK211.out 6
        go_wp2
        refine bodyPost_ret (results_ct rfl _ _ gb211 29 #[.int .i64 t212, .int .i64 t213, .string t214, .int .i64 t215, .bool t216, .slice Ao15 t217.length co15, .slice Ao16 t220.length co16] (0, 0) _ rfl (by (with_reducible repeat (first | refine blk_drewN ?_ _ | refine blk_drew ?_ | refine blk_alloc ?_ _)); refine blk_put (cs := #[.int .i64 t212, .int .i64 t213, .string t214, .int .i64 t215, .bool t216, .slice Ao15 t217.length co15, .slice none 0 0]) ?_ 6 _ rfl; (with_reducible repeat (first | refine blk_drewN ?_ _ | refine blk_drew ?_ | refine blk_alloc ?_ _)); refine blk_put (cs := #[.int .i64 t212, .int .i64 t213, .string t214, .int .i64 t215, .bool t216, .slice none 0 0, .slice none 0 0]) ?_ 5 _ rfl; (with_reducible repeat (first | refine blk_drewN ?_ _ | refine blk_drew ?_ | refine blk_alloc ?_ _)); refine blk_put (cs := #[.int .i64 t212, .int .i64 t213, .string t214, .int .i64 t215, .bool false, .slice none 0 0, .slice none 0 0]) ?_ 4 _ rfl; (with_reducible repeat (first | refine blk_drewN ?_ _ | refine blk_drew ?_ | refine blk_alloc ?_ _)); refine blk_put (cs := #[.int .i64 t212, .int .i64 t213, .string t214, .int .i64 0, .bool false, .slice none 0 0, .slice none 0 0]) ?_ 3 _ rfl; (with_reducible repeat (first | refine blk_drewN ?_ _ | refine blk_drew ?_ | refine blk_alloc ?_ _)); refine blk_put (cs := #[.int .i64 t212, .int .i64 t213, .string (⟨#[]⟩ : ByteArray), .int .i64 0, .bool false, .slice none 0 0, .slice none 0 0]) ?_ 2 _ rfl; (with_reducible repeat (first | refine blk_drewN ?_ _ | refine blk_drew ?_ | refine blk_alloc ?_ _)); refine blk_put (cs := #[.int .i64 t212, .int .i64 0, .string (⟨#[]⟩ : ByteArray), .int .i64 0, .bool false, .slice none 0 0, .slice none 0 0]) ?_ 1 _ rfl; (with_reducible repeat (first | refine blk_drewN ?_ _ | refine blk_drew ?_ | refine blk_alloc ?_ _)); refine blk_put (cs := #[.int .i64 0, .int .i64 0, .string (⟨#[]⟩ : ByteArray), .int .i64 0, .bool false, .slice none 0 0, .slice none 0 0]) ?_ 0 _ rfl; (with_reducible repeat (first | refine blk_drewN ?_ _ | refine blk_drew ?_ | refine blk_alloc ?_ _)); exact BK211.out) Try.underlying29 rfl (by kernel_rfl)) rfl ?_
        exact ⟨_, _, by first | rfl | (simp [errW_none, errW_some] <;> rfl) | (simp [*, errW_none, errW_some] <;> rfl), by (with_reducible repeat (first | apply Kd.R_alloc | apply Kd.R_drewN | apply Kd.R_drew)); exact Kd.R_mono (Kd.R_far (p := ⟨gb211, 6, none⟩) (Kd.R_far (p := ⟨gb211, 5, none⟩) (Kd.R_far (p := ⟨gb211, 4, none⟩) (Kd.R_far (p := ⟨gb211, 3, none⟩) (Kd.R_far (p := ⟨gb211, 2, none⟩) (Kd.R_far (p := ⟨gb211, 1, none⟩) (Kd.R_far (p := ⟨gb211, 0, none⟩) (Kd.R_types HO_224005.out BK211.out (by decide)) (fun _ hk => hk.2) (.int .i64 t212)) (fun _ hk => hk.2) (.int .i64 t213)) (fun _ hk => hk.2) (.string t214)) (fun _ hk => hk.2) (.int .i64 t215)) (fun _ hk => hk.2) (.bool t216)) (fun _ hk => hk.2) (.slice Ao15 t217.length co15)) (fun _ hk => hk.2) (.slice Ao16 t220.length co16)) (fun _ hk => hk.1), by (with_reducible repeat (first | apply Kd.R_alloc | apply Kd.R_drewN | apply Kd.R_drew)); exact Kd.R_mono (Kd.R_far (p := ⟨gb211, 6, none⟩) (Kd.R_far (p := ⟨gb211, 5, none⟩) (Kd.R_far (p := ⟨gb211, 4, none⟩) (Kd.R_far (p := ⟨gb211, 3, none⟩) (Kd.R_far (p := ⟨gb211, 2, none⟩) (Kd.R_far (p := ⟨gb211, 1, none⟩) (Kd.R_far (p := ⟨gb211, 0, none⟩) (Kd.R_types HO_224006.out BK211.out (by decide)) (fun _ hk => hk.2) (.int .i64 t212)) (fun _ hk => hk.2) (.int .i64 t213)) (fun _ hk => hk.2) (.string t214)) (fun _ hk => hk.2) (.int .i64 t215)) (fun _ hk => hk.2) (.bool t216)) (fun _ hk => hk.2) (.slice Ao15 t217.length co15)) (fun _ hk => hk.2) (.slice Ao16 t220.length co16)) (fun _ hk => hk.1), by repeat (first | (with_reducible first | exact HB.out | apply below_alloc | apply pw_below_drewN | apply below_drew1 | refine below_set ?_ GE210.out | refine below_set ?_ GE211.out | refine below_set ?_ GE223.out) | exact HB.out)⟩
      · replace c28 := Bool.eq_false_iff.mpr c28
        subst c28
        have H1 : ((slices_Contains_int_int.f kj4 l0_5 a1).bind fun t226 => (if t226 = true then (impl_Watch.j1 kj4 a1 a2 true a0_0 a0_1 a0_2 a0_3 a0_4 l0_5 l0_6 t212 t213 t214 t215 t216 t217 t220) else ((slices_Contains_int_int.f kj4 l0_6 a1).bind fun t227 => (impl_Watch.j1 kj4 a1 a2 t227 a0_0 a0_1 a0_2 a0_3 a0_4 l0_5 l0_6 t212 t213 t214 t215 t216 t217 t220)))) = some (r1, r2, r3, r4, r5, r6, r7, r8) := by rw [if_neg (show ¬ (false = true) by decide)] at H; exact H
        clear H
        have H := H1
        clear H1
        have HC34 := Aside0.mk H
        clear H
        go_upto_region 4 with (fail)
        go_cut [21] (fun v21 wc => ∃ (kq : Nat) (x21_33 : Bool), v21 = .bool x21_33 ∧ Aside0 (impl_Watch.j1 kq a1 a2 x21_33 a0_0 a0_1 a0_2 a0_3 a0_4 l0_5 l0_6 t212 t213 t214 t215 t216 t217 t220 = some (r1, r2, r3, r4, r5, r6, r7, r8)) ∧ Aside0 (kq ≤ kj4) ∧ Aside0 (Kd.R (Kd.int .i64) 3 wc w.heap.size (fun k_ => some k_ ≠ ((.slice Ao16 t220.length co16) : Value).ownBlock) (.slice Ao15 t217.length co15) t217) ∧ Aside0 (Kd.R (Kd.int .i64) 3 wc w.heap.size (fun k_ => some k_ ≠ ((.slice Ao15 t217.length co15) : Value).ownBlock) (.slice Ao16 t220.length co16) t220) ∧ Aside0 (wc.heap[gb210]? = some (.cells #[.int .i64 a0_0, .int .i64 a0_1, .string a0_2, .int .i64 a0_3, .bool a0_4, (.slice A0_5 l0_5.length c0_5), (.slice A0_6 l0_6.length c0_6)] 29 (0, 0))) ∧ Aside0 (wc.heap[gb211]? = some (.cells #[.int .i64 0, .int .i64 0, .string (⟨#[]⟩ : ByteArray), .int .i64 0, .bool false, (.slice none 0 0), (.slice none 0 0)] 29 (0, 0))) ∧ Aside0 (wc.heap[gb223]? = some (.cells #[.int .i64 t212, .int .i64 t213, .string t214, .int .i64 t215, .bool t216, (.slice Ao15 t217.length co15), (.slice Ao16 t220.length co16)] 29 (0, 0))) ∧ Aside0 (Below w.heap.size w wc))
        case first =>
          have H := HC34.out
          clear HC34
          replace H := Option.bind_eq_some_iff.mp H
          obtain ⟨t226, A350, H⟩ := H
          replace H : (if t226 = true then (impl_Watch.j1 kj4 a1 a2 true a0_0 a0_1 a0_2 a0_3 a0_4 l0_5 l0_6 t212 t213 t214 t215 t216 t217 t220) else ((slices_Contains_int_int.f kj4 l0_6 a1).bind fun t227 => (impl_Watch.j1 kj4 a1 a2 t227 a0_0 a0_1 a0_2 a0_3 a0_4 l0_5 l0_6 t212 t213 t214 t215 t216 t217 t220))) = some (r1, r2, r3, r4, r5, r6, r7, r8) := H
          have A35 := Aside0.mk A350
          clear A350
          by_cases c36 : t226 = true
          · subst c36
            have H1 : (impl_Watch.j1 kj4 a1 a2 true a0_0 a0_1 a0_2 a0_3 a0_4 l0_5 l0_6 t212 t213 t214 t215 t216 t217 t220) = some (r1, r2, r3, r4, r5, r6, r7, r8) := by rw [if_pos rfl] at H; exact H
            clear H
            have H := H1
            clear H1
            have H' := Aside0.mk H
            clear H
            have hnb37 := NB210_211.out
            have hnc37 := NB211_210.out
            have hnb38 := NB210_223.out
            have hnc38 := NB223_210.out
            have hcz39_0 : wc.cell? ⟨gb210, 0, none⟩ = some (.int .i64 a0_0) := (blk_cell BK210.out 0).trans rfl
            have hcz39_1 : wc.cell? ⟨gb210, 1, none⟩ = some (.int .i64 a0_1) := (blk_cell BK210.out 1).trans rfl
            have hcz39_2 : wc.cell? ⟨gb210, 2, none⟩ = some (.string a0_2) := (blk_cell BK210.out 2).trans rfl
            have hcz39_3 : wc.cell? ⟨gb210, 3, none⟩ = some (.int .i64 a0_3) := (blk_cell BK210.out 3).trans rfl
            have hcz39_4 : wc.cell? ⟨gb210, 4, none⟩ = some (.bool a0_4) := (blk_cell BK210.out 4).trans rfl
            have hcz39_5 : wc.cell? ⟨gb210, 5, none⟩ = some (.slice A0_5 l0_5.length c0_5) := (blk_cell BK210.out 5).trans rfl
            have hcz39_6 : wc.cell? ⟨gb210, 6, none⟩ = some (.slice A0_6 l0_6.length c0_6) := (blk_cell BK210.out 6).trans rfl
            have hfz39_0 := blk_frozen BK210.out 0
            have hfz39_1 := blk_frozen BK210.out 1
            have hfz39_2 := blk_frozen BK210.out 2
            have hfz39_3 := blk_frozen BK210.out 3
            have hfz39_4 := blk_frozen BK210.out 4
            have hfz39_5 := blk_frozen BK210.out 5
            have hfz39_6 := blk_frozen BK210.out 6
            go_wp2_with (first | ((with_reducible refine gate_callee (f := 59) rfl ?_); refine goesL_ (some 25) rfl rfl Try.func59 (by kernel_rfl) rfl #[.slice A0_5 l0_5.length c0_5, .int .i64 a1] rfl (by (try simp only [List.map_toArray, List.map_cons, List.map_nil]); first | done | rfl | (simp only [List.length_drop, List.length_take]; rfl) | (go_simp; done) | (simp [*]; done)) ?_; (with_reducible refine (slices_Contains_int_int.calls kj4 _ _ l0_5 a1 true _ ?side1 ?side2 A35.out).mono ?_); (case side1 => exact pkC (Kd.C_below HR0_5.out HB.out)); (case side2 => exact HC0_5.out); rintro e w' ⟨rfl, ⟨nd, rfl⟩⟩; refine ⟨_, rfl, ?_⟩))
            go_meet
            case rel => exact ⟨_, (true), (by first | rfl | (simp; done) | (simp [*]; done)), H', ⟨by have := HJ4.out; first | omega | exact Nat.le_refl _⟩, ⟨pkR HO_224005.out⟩, ⟨pkR HO_224006.out⟩, ⟨pkK BK210.out⟩, ⟨pkK BK211.out⟩, ⟨pkK BK223.out⟩, ⟨by repeat (first | (with_reducible first | exact HB.out | apply below_alloc | apply pw_below_drewN | apply below_drew1 | refine below_set ?_ GE210.out | refine below_set ?_ GE211.out | refine below_set ?_ GE223.out) | exact HB.out)⟩⟩
          · replace c36 := Bool.eq_false_iff.mpr c36
            subst c36
            have H1 : ((slices_Contains_int_int.f kj4 l0_6 a1).bind fun t227 => (impl_Watch.j1 kj4 a1 a2 t227 a0_0 a0_1 a0_2 a0_3 a0_4 l0_5 l0_6 t212 t213 t214 t215 t216 t217 t220)) = some (r1, r2, r3, r4, r5, r6, r7, r8) := by rw [if_neg (show ¬ (false = true) by decide)] at H; exact H
            clear H
            have H := H1
            clear H1
            replace H := Option.bind_eq_some_iff.mp H
            obtain ⟨t227, A400, H⟩ := H
            replace H : (impl_Watch.j1 kj4 a1 a2 t227 a0_0 a0_1 a0_2 a0_3 a0_4 l0_5 l0_6 t212 t213 t214 t215 t216 t217 t220) = some (r1, r2, r3, r4, r5, r6, r7, r8) := H
            have A40 := Aside0.mk A400
            clear A400
            have H' := Aside0.mk H
            clear H
            have hnb41 := NB210_211.out
            have hnc41 := NB211_210.out
            have hnb42 := NB210_223.out
            have hnc42 := NB223_210.out
            have hcz43_0 : wc.cell? ⟨gb210, 0, none⟩ = some (.int .i64 a0_0) := (blk_cell BK210.out 0).trans rfl
            have hcz43_1 : wc.cell? ⟨gb210, 1, none⟩ = some (.int .i64 a0_1) := (blk_cell BK210.out 1).trans rfl
            have hcz43_2 : wc.cell? ⟨gb210, 2, none⟩ = some (.string a0_2) := (blk_cell BK210.out 2).trans rfl
            have hcz43_3 : wc.cell? ⟨gb210, 3, none⟩ = some (.int .i64 a0_3) := (blk_cell BK210.out 3).trans rfl
            have hcz43_4 : wc.cell? ⟨gb210, 4, none⟩ = some (.bool a0_4) := (blk_cell BK210.out 4).trans rfl
            have hcz43_5 : wc.cell? ⟨gb210, 5, none⟩ = some (.slice A0_5 l0_5.length c0_5) := (blk_cell BK210.out 5).trans rfl
            have hcz43_6 : wc.cell? ⟨gb210, 6, none⟩ = some (.slice A0_6 l0_6.length c0_6) := (blk_cell BK210.out 6).trans rfl
            have hfz43_0 := blk_frozen BK210.out 0
            have hfz43_1 := blk_frozen BK210.out 1
            have hfz43_2 := blk_frozen BK210.out 2
            have hfz43_3 := blk_frozen BK210.out 3
            have hfz43_4 := blk_frozen BK210.out 4
            have hfz43_5 := blk_frozen BK210.out 5
            have hfz43_6 := blk_frozen BK210.out 6
            go_wp2_with (first | ((with_reducible refine gate_callee (f := 59) rfl ?_); refine goesL_ (some 25) rfl rfl Try.func59 (by kernel_rfl) rfl #[.slice A0_5 l0_5.length c0_5, .int .i64 a1] rfl (by (try simp only [List.map_toArray, List.map_cons, List.map_nil]); first | done | rfl | (simp only [List.length_drop, List.length_take]; rfl) | (go_simp; done) | (simp [*]; done)) ?_; (with_reducible refine (slices_Contains_int_int.calls kj4 _ _ l0_5 a1 false _ ?side1 ?side2 A35.out).mono ?_); (case side1 => exact pkC (Kd.C_below HR0_5.out HB.out)); (case side2 => exact HC0_5.out); rintro e w' ⟨rfl, ⟨nd, rfl⟩⟩; refine ⟨_, rfl, ?_⟩) | (go_at_call 59; (with_reducible refine (slices_Contains_int_int.calls kj4 _ _ l0_6 a1 t227 _ ?side1 ?side2 A40.out).mono ?_); (case side1 => repeat (first | exact (Kd.C_below HR0_6.out (by repeat (first | (with_reducible first | exact HB.out | apply below_alloc | apply pw_below_drewN | apply below_drew1 | refine below_set ?_ GE210.out | refine below_set ?_ GE211.out | refine below_set ?_ GE223.out) | exact HB.out))) | (with_reducible refine Kd.C_alloc ?_ _) | (with_reducible refine Kd.C_drewN ?_ _) | (with_reducible refine Kd.C_drew ?_))); (case side2 => exact HC0_6.out); rintro e w' ⟨rfl, ⟨nd, rfl⟩⟩))
            go_meet
            case rel => exact ⟨_, (t227), (by first | rfl | (simp; done) | (simp [*]; done)), H', ⟨by have := HJ4.out; first | omega | exact Nat.le_refl _⟩, ⟨pkR HO_224005.out⟩, ⟨pkR HO_224006.out⟩, ⟨pkK BK210.out⟩, ⟨pkK BK211.out⟩, ⟨pkK BK223.out⟩, ⟨by repeat (first | (with_reducible first | exact HB.out | apply below_alloc | apply pw_below_drewN | apply below_drew1 | refine below_set ?_ GE210.out | refine below_set ?_ GE211.out | refine below_set ?_ GE223.out) | exact HB.out)⟩⟩
        case rest =>
          clear HC34
          try clear c1
          try clear c2
          try clear p2
          try clear c3
          try clear c4
          try clear c5
          try clear c8
          try clear c12
          try clear c13
          try clear c18
          try clear c20
          try clear c21
          try clear c24
          try clear c25
          try clear c28
          try clear c29
          try clear c30
          try clear c32
          try clear c33
          try clear c36
          try clear c37
          try clear c38
          try clear c41
          try clear c42
          try clear hcz14_0
          try clear hcz14_1
          try clear hcz14_2
          try clear hcz14_3
          try clear hcz14_4
          try clear hcz14_5
          try clear hcz14_6
          try clear hcz22_0
          try clear hcz22_1
          try clear hcz22_2
          try clear hcz22_3
          try clear hcz22_4
          try clear hcz22_5
          try clear hcz22_6
          try clear hcz26_0
          try clear hcz26_1
          try clear hcz26_2
          try clear hcz26_3
          try clear hcz26_4
          try clear hcz26_5
          try clear hcz26_6
          try clear hcz31_0
          try clear hcz31_1
          try clear hcz31_2
          try clear hcz31_3
          try clear hcz31_4
          try clear hcz31_5
          try clear hcz31_6
          try clear hcz33_0
          try clear hcz33_1
          try clear hcz33_2
          try clear hcz33_3
          try clear hcz33_4
          try clear hcz33_5
          try clear hcz33_6
          try clear hcz39_0
          try clear hcz39_1
          try clear hcz39_2
          try clear hcz39_3
          try clear hcz39_4
          try clear hcz39_5
          try clear hcz39_6
          try clear hcz43_0
          try clear hcz43_1
          try clear hcz43_2
          try clear hcz43_3
          try clear hcz43_4
          try clear hcz43_5
          try clear hcz43_6
          try clear hcz9_0
          try clear hcz9_1
          try clear hcz9_2
          try clear hcz9_3
          try clear hcz9_4
          try clear hcz9_5
          try clear hcz9_6
          try clear hfz14_0
          try clear hfz14_1
          try clear hfz14_2
          try clear hfz14_3
          try clear hfz14_4
          try clear hfz14_5
          try clear hfz14_6
          try clear hfz22_0
          try clear hfz22_1
          try clear hfz22_2
          try clear hfz22_3
          try clear hfz22_4
          try clear hfz22_5
          try clear hfz22_6
          try clear hfz26_0
          try clear hfz26_1
          try clear hfz26_2
          try clear hfz26_3
          try clear hfz26_4
          try clear hfz26_5
          try clear hfz26_6
          try clear hfz31_0
          try clear hfz31_1
          try clear hfz31_2
          try clear hfz31_3
          try clear hfz31_4
          try clear hfz31_5
          try clear hfz31_6
          try clear hfz33_0
          try clear hfz33_1
          try clear hfz33_2
          try clear hfz33_3
          try clear hfz33_4
          try clear hfz33_5
          try clear hfz33_6
          try clear hfz39_0
          try clear hfz39_1
          try clear hfz39_2
          try clear hfz39_3
          try clear hfz39_4
          try clear hfz39_5
          try clear hfz39_6
          try clear hfz43_0
          try clear hfz43_1
          try clear hfz43_2
          try clear hfz43_3
          try clear hfz43_4
          try clear hfz43_5
          try clear hfz43_6
          try clear hfz9_0
          try clear hfz9_1
          try clear hfz9_2
          try clear hfz9_3
          try clear hfz9_4
          try clear hfz9_5
          try clear hfz9_6
          try clear p2
          obtain ⟨kq, x21_33, rfl, HA, HJ33, HO_224005, HO_224006, BK210, BK211, BK223, HB⟩ := hcut
          cases kq with
          | zero => exact absurd HA.out (by simp [impl_Watch.j1])
          | succ kj33 =>
            have H := HA.out
            clear HA
            simp only [impl_Watch.j1] at H
            by_cases c44 : x21_33 = true
            · subst c44
              have H1 : (some (t212, t213, t214, t215, t216, t217, t220, 5)) = some (r1, r2, r3, r4, r5, r6, r7, r8) := by rw [if_pos rfl] at H; exact H
              clear H
              have H := H1
              clear H1
              simp only [Option.some.injEq, Prod.mk.injEq] at H
              obtain ⟨rfl, rfl, rfl, rfl, rfl, rfl, rfl, rfl⟩ := H
              have hnb45 := NB223_210.out
              have hnc45 := NB210_223.out
              have hnb46 := NB223_211.out
              have hnc46 := NB211_223.out
              have hcz47_0 : wc.cell? ⟨gb223, 0, none⟩ = some (.int .i64 t212) := (blk_cell BK223.out 0).trans rfl
              have hcz47_1 : wc.cell? ⟨gb223, 1, none⟩ = some (.int .i64 t213) := (blk_cell BK223.out 1).trans rfl
              have hcz47_2 : wc.cell? ⟨gb223, 2, none⟩ = some (.string t214) := (blk_cell BK223.out 2).trans rfl
              have hcz47_3 : wc.cell? ⟨gb223, 3, none⟩ = some (.int .i64 t215) := (blk_cell BK223.out 3).trans rfl
              have hcz47_4 : wc.cell? ⟨gb223, 4, none⟩ = some (.bool t216) := (blk_cell BK223.out 4).trans rfl
              have hcz47_5 : wc.cell? ⟨gb223, 5, none⟩ = some (.slice Ao15 t217.length co15) := (blk_cell BK223.out 5).trans rfl
              have hcz47_6 : wc.cell? ⟨gb223, 6, none⟩ = some (.slice Ao16 t220.length co16) := (blk_cell BK223.out 6).trans rfl
              have hfz47_0 := blk_frozen BK223.out 0
              have hfz47_1 := blk_frozen BK223.out 1
              have hfz47_2 := blk_frozen BK223.out 2
              have hfz47_3 := blk_frozen BK223.out 3
              have hfz47_4 := blk_frozen BK223.out 4
              have hfz47_5 := blk_frozen BK223.out 5
              have hfz47_6 := blk_frozen BK223.out 6
              have hnb48 := NB211_210.out
              have hnc48 := NB210_211.out
              have hcz49_0 : wc.cell? ⟨gb211, 0, none⟩ = some (.int .i64 0) := (blk_cell BK211.out 0).trans rfl
              have hcz49_1 : wc.cell? ⟨gb211, 1, none⟩ = some (.int .i64 0) := (blk_cell BK211.out 1).trans rfl
              have hcz49_2 : wc.cell? ⟨gb211, 2, none⟩ = some (.string (⟨#[]⟩ : ByteArray)) := (blk_cell BK211.out 2).trans rfl
              have hcz49_3 : wc.cell? ⟨gb211, 3, none⟩ = some (.int .i64 0) := (blk_cell BK211.out 3).trans rfl
              have hcz49_4 : wc.cell? ⟨gb211, 4, none⟩ = some (.bool false) := (blk_cell BK211.out 4).trans rfl
              have hcz49_5 : wc.cell? ⟨gb211, 5, none⟩ = some (.slice none 0 0) := (blk_cell BK211.out 5).trans rfl
              have hcz49_6 : wc.cell? ⟨gb211, 6, none⟩ = some (.slice none 0 0) := (blk_cell BK211.out 6).trans rfl
              have hfz49_0 := blk_frozen BK211.out 0
              have hfz49_1 := blk_frozen BK211.out 1
              have hfz49_2 := blk_frozen BK211.out 2
              have hfz49_3 := blk_frozen BK211.out 3
              have hfz49_4 := blk_frozen BK211.out 4
              have hfz49_5 := blk_frozen BK211.out 5
              have hfz49_6 := blk_frozen BK211.out 6
              go_wp2
              refine bodyPost_ret (results_ct rfl _ _ gb211 29 #[.int .i64 t212, .int .i64 t213, .string t214, .int .i64 t215, .bool t216, .slice Ao15 t217.length co15, .slice Ao16 t220.length co16] (0, 0) _ rfl (by (with_reducible repeat (first | refine blk_drewN ?_ _ | refine blk_drew ?_ | refine blk_alloc ?_ _)); refine blk_put (cs := #[.int .i64 t212, .int .i64 t213, .string t214, .int .i64 t215, .bool t216, .slice Ao15 t217.length co15, .slice none 0 0]) ?_ 6 _ rfl; (with_reducible repeat (first | refine blk_drewN ?_ _ | refine blk_drew ?_ | refine blk_alloc ?_ _)); refine blk_put (cs := #[.int .i64 t212, .int .i64 t213, .string t214, .int .i64 t215, .bool t216, .slice none 0 0, .slice none 0 0]) ?_ 5 _ rfl; (with_reducible repeat (first | refine blk_drewN ?_ _ | refine blk_drew ?_ | refine blk_alloc ?_ _)); refine blk_put (cs := #[.int .i64 t212, .int .i64 t213, .string t214, .int .i64 t215, .bool false, .slice none 0 0, .slice none 0 0]) ?_ 4 _ rfl; (with_reducible repeat (first | refine blk_drewN ?_ _ | refine blk_drew ?_ | refine blk_alloc ?_ _)); refine blk_put (cs := #[.int .i64 t212, .int .i64 t213, .string t214, .int .i64 0, .bool false, .slice none 0 0, .slice none 0 0]) ?_ 3 _ rfl; (with_reducible repeat (first | refine blk_drewN ?_ _ | refine blk_drew ?_ | refine blk_alloc ?_ _)); refine blk_put (cs := #[.int .i64 t212, .int .i64 t213, .string (⟨#[]⟩ : ByteArray), .int .i64 0, .bool false, .slice none 0 0, .slice none 0 0]) ?_ 2 _ rfl; (with_reducible repeat (first | refine blk_drewN ?_ _ | refine blk_drew ?_ | refine blk_alloc ?_ _)); refine blk_put (cs := #[.int .i64 t212, .int .i64 0, .string (⟨#[]⟩ : ByteArray), .int .i64 0, .bool false, .slice none 0 0, .slice none 0 0]) ?_ 1 _ rfl; (with_reducible repeat (first | refine blk_drewN ?_ _ | refine blk_drew ?_ | refine blk_alloc ?_ _)); refine blk_put (cs := #[.int .i64 0, .int .i64 0, .string (⟨#[]⟩ : ByteArray), .int .i64 0, .bool false, .slice none 0 0, .slice none 0 0]) ?_ 0 _ rfl; (with_reducible repeat (first | refine blk_drewN ?_ _ | refine blk_drew ?_ | refine blk_alloc ?_ _)); exact BK211.out) Try.underlying29 rfl (by kernel_rfl)) rfl ?_
              exact ⟨_, _, by first | rfl | (simp [errW_none, errW_some] <;> rfl) | (simp [*, errW_none, errW_some] <;> rfl), by (with_reducible repeat (first | apply Kd.R_alloc | apply Kd.R_drewN | apply Kd.R_drew)); exact Kd.R_mono (Kd.R_far (p := ⟨gb211, 6, none⟩) (Kd.R_far (p := ⟨gb211, 5, none⟩) (Kd.R_far (p := ⟨gb211, 4, none⟩) (Kd.R_far (p := ⟨gb211, 3, none⟩) (Kd.R_far (p := ⟨gb211, 2, none⟩) (Kd.R_far (p := ⟨gb211, 1, none⟩) (Kd.R_far (p := ⟨gb211, 0, none⟩) (Kd.R_types HO_224005.out BK211.out (by decide)) (fun _ hk => hk.2) (.int .i64 t212)) (fun _ hk => hk.2) (.int .i64 t213)) (fun _ hk => hk.2) (.string t214)) (fun _ hk => hk.2) (.int .i64 t215)) (fun _ hk => hk.2) (.bool t216)) (fun _ hk => hk.2) (.slice Ao15 t217.length co15)) (fun _ hk => hk.2) (.slice Ao16 t220.length co16)) (fun _ hk => hk.1), by (with_reducible repeat (first | apply Kd.R_alloc | apply Kd.R_drewN | apply Kd.R_drew)); exact Kd.R_mono (Kd.R_far (p := ⟨gb211, 6, none⟩) (Kd.R_far (p := ⟨gb211, 5, none⟩) (Kd.R_far (p := ⟨gb211, 4, none⟩) (Kd.R_far (p := ⟨gb211, 3, none⟩) (Kd.R_far (p := ⟨gb211, 2, none⟩) (Kd.R_far (p := ⟨gb211, 1, none⟩) (Kd.R_far (p := ⟨gb211, 0, none⟩) (Kd.R_types HO_224006.out BK211.out (by decide)) (fun _ hk => hk.2) (.int .i64 t212)) (fun _ hk => hk.2) (.int .i64 t213)) (fun _ hk => hk.2) (.string t214)) (fun _ hk => hk.2) (.int .i64 t215)) (fun _ hk => hk.2) (.bool t216)) (fun _ hk => hk.2) (.slice Ao15 t217.length co15)) (fun _ hk => hk.2) (.slice Ao16 t220.length co16)) (fun _ hk => hk.1), by repeat (first | (with_reducible first | exact HB.out | apply below_alloc | apply pw_below_drewN | apply below_drew1 | refine below_set ?_ GE210.out | refine below_set ?_ GE211.out | refine below_set ?_ GE223.out) | exact HB.out)⟩
            · replace c44 := Bool.eq_false_iff.mpr c44
              subst c44
              have H1 : (if a0_3 > a2 then (some (t212, t213, t214, t215, t216, t217, t220, 0)) else (if a0_4 = true then (some (t212, t213, t214, t215, t216, t217, t220, 6)) else (if (l0_5.length : Int) = 32 then (some (t212, t213, t214, t215, t216, t217, t220, 2)) else (if t217.length < 17592186044416 then (some (t212, t213, t214, t215, t216, (t217 ++ [a1]), t220, 4)) else (none))))) = some (r1, r2, r3, r4, r5, r6, r7, r8) := by rw [if_neg (show ¬ (false = true) by decide)] at H; exact H
              clear H
              have H := H1
              clear H1
              by_cases c50 : a0_3 > a2
              · rw [if_pos c50] at H
                have c50b0 : decide (a2 < a0_3) = true := decide_eq_true c50
                clear c50
                simp only [Option.some.injEq, Prod.mk.injEq] at H
                obtain ⟨rfl, rfl, rfl, rfl, rfl, rfl, rfl, rfl⟩ := H
                have hnb51 := NB210_211.out
                have hnc51 := NB211_210.out
                have hnb52 := NB210_223.out
                have hnc52 := NB223_210.out
                have hcz53_0 : wc.cell? ⟨gb210, 0, none⟩ = some (.int .i64 a0_0) := (blk_cell BK210.out 0).trans rfl
                have hcz53_1 : wc.cell? ⟨gb210, 1, none⟩ = some (.int .i64 a0_1) := (blk_cell BK210.out 1).trans rfl
                have hcz53_2 : wc.cell? ⟨gb210, 2, none⟩ = some (.string a0_2) := (blk_cell BK210.out 2).trans rfl
                have hcz53_3 : wc.cell? ⟨gb210, 3, none⟩ = some (.int .i64 a0_3) := (blk_cell BK210.out 3).trans rfl
                have hcz53_4 : wc.cell? ⟨gb210, 4, none⟩ = some (.bool a0_4) := (blk_cell BK210.out 4).trans rfl
                have hcz53_5 : wc.cell? ⟨gb210, 5, none⟩ = some (.slice A0_5 l0_5.length c0_5) := (blk_cell BK210.out 5).trans rfl
                have hcz53_6 : wc.cell? ⟨gb210, 6, none⟩ = some (.slice A0_6 l0_6.length c0_6) := (blk_cell BK210.out 6).trans rfl
                have hfz53_0 := blk_frozen BK210.out 0
                have hfz53_1 := blk_frozen BK210.out 1
                have hfz53_2 := blk_frozen BK210.out 2
                have hfz53_3 := blk_frozen BK210.out 3
                have hfz53_4 := blk_frozen BK210.out 4
                have hfz53_5 := blk_frozen BK210.out 5
                have hfz53_6 := blk_frozen BK210.out 6
                have hnb54 := NB223_211.out
                have hnc54 := NB211_223.out
                have hcz55_0 : wc.cell? ⟨gb223, 0, none⟩ = some (.int .i64 t212) := (blk_cell BK223.out 0).trans rfl
                have hcz55_1 : wc.cell? ⟨gb223, 1, none⟩ = some (.int .i64 t213) := (blk_cell BK223.out 1).trans rfl
                have hcz55_2 : wc.cell? ⟨gb223, 2, none⟩ = some (.string t214) := (blk_cell BK223.out 2).trans rfl
                have hcz55_3 : wc.cell? ⟨gb223, 3, none⟩ = some (.int .i64 t215) := (blk_cell BK223.out 3).trans rfl
                have hcz55_4 : wc.cell? ⟨gb223, 4, none⟩ = some (.bool t216) := (blk_cell BK223.out 4).trans rfl
                have hcz55_5 : wc.cell? ⟨gb223, 5, none⟩ = some (.slice Ao15 t217.length co15) := (blk_cell BK223.out 5).trans rfl
                have hcz55_6 : wc.cell? ⟨gb223, 6, none⟩ = some (.slice Ao16 t220.length co16) := (blk_cell BK223.out 6).trans rfl
                have hfz55_0 := blk_frozen BK223.out 0
                have hfz55_1 := blk_frozen BK223.out 1
                have hfz55_2 := blk_frozen BK223.out 2
                have hfz55_3 := blk_frozen BK223.out 3
                have hfz55_4 := blk_frozen BK223.out 4
                have hfz55_5 := blk_frozen BK223.out 5
                have hfz55_6 := blk_frozen BK223.out 6
                have hcz56_0 : wc.cell? ⟨gb211, 0, none⟩ = some (.int .i64 0) := (blk_cell BK211.out 0).trans rfl
                have hcz56_1 : wc.cell? ⟨gb211, 1, none⟩ = some (.int .i64 0) := (blk_cell BK211.out 1).trans rfl
                have hcz56_2 : wc.cell? ⟨gb211, 2, none⟩ = some (.string (⟨#[]⟩ : ByteArray)) := (blk_cell BK211.out 2).trans rfl
                have hcz56_3 : wc.cell? ⟨gb211, 3, none⟩ = some (.int .i64 0) := (blk_cell BK211.out 3).trans rfl
                have hcz56_4 : wc.cell? ⟨gb211, 4, none⟩ = some (.bool false) := (blk_cell BK211.out 4).trans rfl
                have hcz56_5 : wc.cell? ⟨gb211, 5, none⟩ = some (.slice none 0 0) := (blk_cell BK211.out 5).trans rfl
                have hcz56_6 : wc.cell? ⟨gb211, 6, none⟩ = some (.slice none 0 0) := (blk_cell BK211.out 6).trans rfl
                have hfz56_0 := blk_frozen BK211.out 0
                have hfz56_1 := blk_frozen BK211.out 1
                have hfz56_2 := blk_frozen BK211.out 2
                have hfz56_3 := blk_frozen BK211.out 3
                have hfz56_4 := blk_frozen BK211.out 4
                have hfz56_5 := blk_frozen BK211.out 5
                have hfz56_6 := blk_frozen BK211.out 6
                go_wp2
                refine bodyPost_ret (results_ct rfl _ _ gb211 29 #[.int .i64 t212, .int .i64 t213, .string t214, .int .i64 t215, .bool t216, .slice Ao15 t217.length co15, .slice Ao16 t220.length co16] (0, 0) _ rfl (by (with_reducible repeat (first | refine blk_drewN ?_ _ | refine blk_drew ?_ | refine blk_alloc ?_ _)); refine blk_put (cs := #[.int .i64 t212, .int .i64 t213, .string t214, .int .i64 t215, .bool t216, .slice Ao15 t217.length co15, .slice none 0 0]) ?_ 6 _ rfl; (with_reducible repeat (first | refine blk_drewN ?_ _ | refine blk_drew ?_ | refine blk_alloc ?_ _)); refine blk_put (cs := #[.int .i64 t212, .int .i64 t213, .string t214, .int .i64 t215, .bool t216, .slice none 0 0, .slice none 0 0]) ?_ 5 _ rfl; (with_reducible repeat (first | refine blk_drewN ?_ _ | refine blk_drew ?_ | refine blk_alloc ?_ _)); refine blk_put (cs := #[.int .i64 t212, .int .i64 t213, .string t214, .int .i64 t215, .bool false, .slice none 0 0, .slice none 0 0]) ?_ 4 _ rfl; (with_reducible repeat (first | refine blk_drewN ?_ _ | refine blk_drew ?_ | refine blk_alloc ?_ _)); refine blk_put (cs := #[.int .i64 t212, .int .i64 t213, .string t214, .int .i64 0, .bool false, .slice none 0 0, .slice none 0 0]) ?_ 3 _ rfl; (with_reducible repeat (first | refine blk_drewN ?_ _ | refine blk_drew ?_ | refine blk_alloc ?_ _)); refine blk_put (cs := #[.int .i64 t212, .int .i64 t213, .string (⟨#[]⟩ : ByteArray), .int .i64 0, .bool false, .slice none 0 0, .slice none 0 0]) ?_ 2 _ rfl; (with_reducible repeat (first | refine blk_drewN ?_ _ | refine blk_drew ?_ | refine blk_alloc ?_ _)); refine blk_put (cs := #[.int .i64 t212, .int .i64 0, .string (⟨#[]⟩ : ByteArray), .int .i64 0, .bool false, .slice none 0 0, .slice none 0 0]) ?_ 1 _ rfl; (with_reducible repeat (first | refine blk_drewN ?_ _ | refine blk_drew ?_ | refine blk_alloc ?_ _)); refine blk_put (cs := #[.int .i64 0, .int .i64 0, .string (⟨#[]⟩ : ByteArray), .int .i64 0, .bool false, .slice none 0 0, .slice none 0 0]) ?_ 0 _ rfl; (with_reducible repeat (first | refine blk_drewN ?_ _ | refine blk_drew ?_ | refine blk_alloc ?_ _)); exact BK211.out) Try.underlying29 rfl (by kernel_rfl)) rfl ?_
                exact ⟨_, _, by first | rfl | (simp [errW_none, errW_some] <;> rfl) | (simp [*, errW_none, errW_some] <;> rfl), by (with_reducible repeat (first | apply Kd.R_alloc | apply Kd.R_drewN | apply Kd.R_drew)); exact Kd.R_mono (Kd.R_far (p := ⟨gb211, 6, none⟩) (Kd.R_far (p := ⟨gb211, 5, none⟩) (Kd.R_far (p := ⟨gb211, 4, none⟩) (Kd.R_far (p := ⟨gb211, 3, none⟩) (Kd.R_far (p := ⟨gb211, 2, none⟩) (Kd.R_far (p := ⟨gb211, 1, none⟩) (Kd.R_far (p := ⟨gb211, 0, none⟩) (Kd.R_types HO_224005.out BK211.out (by decide)) (fun _ hk => hk.2) (.int .i64 t212)) (fun _ hk => hk.2) (.int .i64 t213)) (fun _ hk => hk.2) (.string t214)) (fun _ hk => hk.2) (.int .i64 t215)) (fun _ hk => hk.2) (.bool t216)) (fun _ hk => hk.2) (.slice Ao15 t217.length co15)) (fun _ hk => hk.2) (.slice Ao16 t220.length co16)) (fun _ hk => hk.1), by (with_reducible repeat (first | apply Kd.R_alloc | apply Kd.R_drewN | apply Kd.R_drew)); exact Kd.R_mono (Kd.R_far (p := ⟨gb211, 6, none⟩) (Kd.R_far (p := ⟨gb211, 5, none⟩) (Kd.R_far (p := ⟨gb211, 4, none⟩) (Kd.R_far (p := ⟨gb211, 3, none⟩) (Kd.R_far (p := ⟨gb211, 2, none⟩) (Kd.R_far (p := ⟨gb211, 1, none⟩) (Kd.R_far (p := ⟨gb211, 0, none⟩) (Kd.R_types HO_224006.out BK211.out (by decide)) (fun _ hk => hk.2) (.int .i64 t212)) (fun _ hk => hk.2) (.int .i64 t213)) (fun _ hk => hk.2) (.string t214)) (fun _ hk => hk.2) (.int .i64 t215)) (fun _ hk => hk.2) (.bool t216)) (fun _ hk => hk.2) (.slice Ao15 t217.length co15)) (fun _ hk => hk.2) (.slice Ao16 t220.length co16)) (fun _ hk => hk.1), by repeat (first | (with_reducible first | exact HB.out | apply below_alloc | apply pw_below_drewN | apply below_drew1 | refine below_set ?_ GE210.out | refine below_set ?_ GE211.out | refine below_set ?_ GE223.out) | exact HB.out)⟩
              · rw [if_neg c50] at H
                have c50b0 : decide (a2 < a0_3) = false := decide_eq_false c50
                clear c50
                by_cases c57 : a0_4 = true
                · subst c57
                  have H1 : (some (t212, t213, t214, t215, t216, t217, t220, 6)) = some (r1, r2, r3, r4, r5, r6, r7, r8) := by rw [if_pos rfl] at H; exact H
                  clear H
                  have H := H1
                  clear H1
                  simp only [Option.some.injEq, Prod.mk.injEq] at H
                  obtain ⟨rfl, rfl, rfl, rfl, rfl, rfl, rfl, rfl⟩ := H
                  have hnb58 := NB210_211.out
                  have hnc58 := NB211_210.out
                  have hnb59 := NB210_223.out
                  have hnc59 := NB223_210.out
                  have hcz60_0 : wc.cell? ⟨gb210, 0, none⟩ = some (.int .i64 a0_0) := (blk_cell BK210.out 0).trans rfl
                  have hcz60_1 : wc.cell? ⟨gb210, 1, none⟩ = some (.int .i64 a0_1) := (blk_cell BK210.out 1).trans rfl
                  have hcz60_2 : wc.cell? ⟨gb210, 2, none⟩ = some (.string a0_2) := (blk_cell BK210.out 2).trans rfl
                  have hcz60_3 : wc.cell? ⟨gb210, 3, none⟩ = some (.int .i64 a0_3) := (blk_cell BK210.out 3).trans rfl
                  have hcz60_4 : wc.cell? ⟨gb210, 4, none⟩ = some (.bool true) := (blk_cell BK210.out 4).trans rfl
                  have hcz60_5 : wc.cell? ⟨gb210, 5, none⟩ = some (.slice A0_5 l0_5.length c0_5) := (blk_cell BK210.out 5).trans rfl
                  have hcz60_6 : wc.cell? ⟨gb210, 6, none⟩ = some (.slice A0_6 l0_6.length c0_6) := (blk_cell BK210.out 6).trans rfl
                  have hfz60_0 := blk_frozen BK210.out 0
                  have hfz60_1 := blk_frozen BK210.out 1
                  have hfz60_2 := blk_frozen BK210.out 2
                  have hfz60_3 := blk_frozen BK210.out 3
                  have hfz60_4 := blk_frozen BK210.out 4
                  have hfz60_5 := blk_frozen BK210.out 5
                  have hfz60_6 := blk_frozen BK210.out 6
                  have hnb61 := NB223_211.out
                  have hnc61 := NB211_223.out
                  have hcz62_0 : wc.cell? ⟨gb223, 0, none⟩ = some (.int .i64 t212) := (blk_cell BK223.out 0).trans rfl
                  have hcz62_1 : wc.cell? ⟨gb223, 1, none⟩ = some (.int .i64 t213) := (blk_cell BK223.out 1).trans rfl
                  have hcz62_2 : wc.cell? ⟨gb223, 2, none⟩ = some (.string t214) := (blk_cell BK223.out 2).trans rfl
                  have hcz62_3 : wc.cell? ⟨gb223, 3, none⟩ = some (.int .i64 t215) := (blk_cell BK223.out 3).trans rfl
                  have hcz62_4 : wc.cell? ⟨gb223, 4, none⟩ = some (.bool t216) := (blk_cell BK223.out 4).trans rfl
                  have hcz62_5 : wc.cell? ⟨gb223, 5, none⟩ = some (.slice Ao15 t217.length co15) := (blk_cell BK223.out 5).trans rfl
                  have hcz62_6 : wc.cell? ⟨gb223, 6, none⟩ = some (.slice Ao16 t220.length co16) := (blk_cell BK223.out 6).trans rfl
                  have hfz62_0 := blk_frozen BK223.out 0
                  have hfz62_1 := blk_frozen BK223.out 1
                  have hfz62_2 := blk_frozen BK223.out 2
                  have hfz62_3 := blk_frozen BK223.out 3
                  have hfz62_4 := blk_frozen BK223.out 4
                  have hfz62_5 := blk_frozen BK223.out 5
                  have hfz62_6 := blk_frozen BK223.out 6
                  have hcz63_0 : wc.cell? ⟨gb211, 0, none⟩ = some (.int .i64 0) := (blk_cell BK211.out 0).trans rfl
                  have hcz63_1 : wc.cell? ⟨gb211, 1, none⟩ = some (.int .i64 0) := (blk_cell BK211.out 1).trans rfl
                  have hcz63_2 : wc.cell? ⟨gb211, 2, none⟩ = some (.string (⟨#[]⟩ : ByteArray)) := (blk_cell BK211.out 2).trans rfl
                  have hcz63_3 : wc.cell? ⟨gb211, 3, none⟩ = some (.int .i64 0) := (blk_cell BK211.out 3).trans rfl
                  have hcz63_4 : wc.cell? ⟨gb211, 4, none⟩ = some (.bool false) := (blk_cell BK211.out 4).trans rfl
                  have hcz63_5 : wc.cell? ⟨gb211, 5, none⟩ = some (.slice none 0 0) := (blk_cell BK211.out 5).trans rfl
                  have hcz63_6 : wc.cell? ⟨gb211, 6, none⟩ = some (.slice none 0 0) := (blk_cell BK211.out 6).trans rfl
                  have hfz63_0 := blk_frozen BK211.out 0
                  have hfz63_1 := blk_frozen BK211.out 1
                  have hfz63_2 := blk_frozen BK211.out 2
                  have hfz63_3 := blk_frozen BK211.out 3
                  have hfz63_4 := blk_frozen BK211.out 4
                  have hfz63_5 := blk_frozen BK211.out 5
                  have hfz63_6 := blk_frozen BK211.out 6
                  go_wp2
                  refine bodyPost_ret (results_ct rfl _ _ gb211 29 #[.int .i64 t212, .int .i64 t213, .string t214, .int .i64 t215, .bool t216, .slice Ao15 t217.length co15, .slice Ao16 t220.length co16] (0, 0) _ rfl (by (with_reducible repeat (first | refine blk_drewN ?_ _ | refine blk_drew ?_ | refine blk_alloc ?_ _)); refine blk_put (cs := #[.int .i64 t212, .int .i64 t213, .string t214, .int .i64 t215, .bool t216, .slice Ao15 t217.length co15, .slice none 0 0]) ?_ 6 _ rfl; (with_reducible repeat (first | refine blk_drewN ?_ _ | refine blk_drew ?_ | refine blk_alloc ?_ _)); refine blk_put (cs := #[.int .i64 t212, .int .i64 t213, .string t214, .int .i64 t215, .bool t216, .slice none 0 0, .slice none 0 0]) ?_ 5 _ rfl; (with_reducible repeat (first | refine blk_drewN ?_ _ | refine blk_drew ?_ | refine blk_alloc ?_ _)); refine blk_put (cs := #[.int .i64 t212, .int .i64 t213, .string t214, .int .i64 t215, .bool false, .slice none 0 0, .slice none 0 0]) ?_ 4 _ rfl; (with_reducible repeat (first | refine blk_drewN ?_ _ | refine blk_drew ?_ | refine blk_alloc ?_ _)); refine blk_put (cs := #[.int .i64 t212, .int .i64 t213, .string t214, .int .i64 0, .bool false, .slice none 0 0, .slice none 0 0]) ?_ 3 _ rfl; (with_reducible repeat (first | refine blk_drewN ?_ _ | refine blk_drew ?_ | refine blk_alloc ?_ _)); refine blk_put (cs := #[.int .i64 t212, .int .i64 t213, .string (⟨#[]⟩ : ByteArray), .int .i64 0, .bool false, .slice none 0 0, .slice none 0 0]) ?_ 2 _ rfl; (with_reducible repeat (first | refine blk_drewN ?_ _ | refine blk_drew ?_ | refine blk_alloc ?_ _)); refine blk_put (cs := #[.int .i64 t212, .int .i64 0, .string (⟨#[]⟩ : ByteArray), .int .i64 0, .bool false, .slice none 0 0, .slice none 0 0]) ?_ 1 _ rfl; (with_reducible repeat (first | refine blk_drewN ?_ _ | refine blk_drew ?_ | refine blk_alloc ?_ _)); refine blk_put (cs := #[.int .i64 0, .int .i64 0, .string (⟨#[]⟩ : ByteArray), .int .i64 0, .bool false, .slice none 0 0, .slice none 0 0]) ?_ 0 _ rfl; (with_reducible repeat (first | refine blk_drewN ?_ _ | refine blk_drew ?_ | refine blk_alloc ?_ _)); exact BK211.out) Try.underlying29 rfl (by kernel_rfl)) rfl ?_
                  exact ⟨_, _, by first | rfl | (simp [errW_none, errW_some] <;> rfl) | (simp [*, errW_none, errW_some] <;> rfl), by (with_reducible repeat (first | apply Kd.R_alloc | apply Kd.R_drewN | apply Kd.R_drew)); exact Kd.R_mono (Kd.R_far (p := ⟨gb211, 6, none⟩) (Kd.R_far (p := ⟨gb211, 5, none⟩) (Kd.R_far (p := ⟨gb211, 4, none⟩) (Kd.R_far (p := ⟨gb211, 3, none⟩) (Kd.R_far (p := ⟨gb211, 2, none⟩) (Kd.R_far (p := ⟨gb211, 1, none⟩) (Kd.R_far (p := ⟨gb211, 0, none⟩) (Kd.R_types HO_224005.out BK211.out (by decide)) (fun _ hk => hk.2) (.int .i64 t212)) (fun _ hk => hk.2) (.int .i64 t213)) (fun _ hk => hk.2) (.string t214)) (fun _ hk => hk.2) (.int .i64 t215)) (fun _ hk => hk.2) (.bool t216)) (fun _ hk => hk.2) (.slice Ao15 t217.length co15)) (fun _ hk => hk.2) (.slice Ao16 t220.length co16)) (fun _ hk => hk.1), by (with_reducible repeat (first | apply Kd.R_alloc | apply Kd.R_drewN | apply Kd.R_drew)); exact Kd.R_mono (Kd.R_far (p := ⟨gb211, 6, none⟩) (Kd.R_far (p := ⟨gb211, 5, none⟩) (Kd.R_far (p := ⟨gb211, 4, none⟩) (Kd.R_far (p := ⟨gb211, 3, none⟩) (Kd.R_far (p := ⟨gb211, 2, none⟩) (Kd.R_far (p := ⟨gb211, 1, none⟩) (Kd.R_far (p := ⟨gb211, 0, none⟩) (Kd.R_types HO_224006.out BK211.out (by decide)) (fun _ hk => hk.2) (.int .i64 t212)) (fun _ hk => hk.2) (.int .i64 t213)) (fun _ hk => hk.2) (.string t214)) (fun _ hk => hk.2) (.int .i64 t215)) (fun _ hk => hk.2) (.bool t216)) (fun _ hk => hk.2) (.slice Ao15 t217.length co15)) (fun _ hk => hk.2) (.slice Ao16 t220.length co16)) (fun _ hk => hk.1), by repeat (first | (with_reducible first | exact HB.out | apply below_alloc | apply pw_below_drewN | apply below_drew1 | refine below_set ?_ GE210.out | refine below_set ?_ GE211.out | refine below_set ?_ GE223.out) | exact HB.out)⟩
                · replace c57 := Bool.eq_false_iff.mpr c57
                  subst c57
                  have H1 : (if (l0_5.length : Int) = 32 then (some (t212, t213, t214, t215, t216, t217, t220, 2)) else (if t217.length < 17592186044416 then (some (t212, t213, t214, t215, t216, (t217 ++ [a1]), t220, 4)) else (none))) = some (r1, r2, r3, r4, r5, r6, r7, r8) := by rw [if_neg (show ¬ (false = true) by decide)] at H; exact H
                  clear H
                  have H := H1
                  clear H1
                  by_cases c64 : (l0_5.length : Int) = 32
                  · rw [if_pos c64] at H
                    have c64b0 : ((l0_5.length : Int) == 32) = true := beq_iff_eq.mpr c64
                    have c64b1 : ((l0_5.length : Int) != 32) = false := bne_eq_false_iff_eq.mpr c64
                    clear c64
                    simp only [Option.some.injEq, Prod.mk.injEq] at H
                    obtain ⟨rfl, rfl, rfl, rfl, rfl, rfl, rfl, rfl⟩ := H
                    have hnb65 := NB210_211.out
                    have hnc65 := NB211_210.out
                    have hnb66 := NB210_223.out
                    have hnc66 := NB223_210.out
                    have hcz67_0 : wc.cell? ⟨gb210, 0, none⟩ = some (.int .i64 a0_0) := (blk_cell BK210.out 0).trans rfl
                    have hcz67_1 : wc.cell? ⟨gb210, 1, none⟩ = some (.int .i64 a0_1) := (blk_cell BK210.out 1).trans rfl
                    have hcz67_2 : wc.cell? ⟨gb210, 2, none⟩ = some (.string a0_2) := (blk_cell BK210.out 2).trans rfl
                    have hcz67_3 : wc.cell? ⟨gb210, 3, none⟩ = some (.int .i64 a0_3) := (blk_cell BK210.out 3).trans rfl
                    have hcz67_4 : wc.cell? ⟨gb210, 4, none⟩ = some (.bool false) := (blk_cell BK210.out 4).trans rfl
                    have hcz67_5 : wc.cell? ⟨gb210, 5, none⟩ = some (.slice A0_5 l0_5.length c0_5) := (blk_cell BK210.out 5).trans rfl
                    have hcz67_6 : wc.cell? ⟨gb210, 6, none⟩ = some (.slice A0_6 l0_6.length c0_6) := (blk_cell BK210.out 6).trans rfl
                    have hfz67_0 := blk_frozen BK210.out 0
                    have hfz67_1 := blk_frozen BK210.out 1
                    have hfz67_2 := blk_frozen BK210.out 2
                    have hfz67_3 := blk_frozen BK210.out 3
                    have hfz67_4 := blk_frozen BK210.out 4
                    have hfz67_5 := blk_frozen BK210.out 5
                    have hfz67_6 := blk_frozen BK210.out 6
                    have hnb68 := NB223_211.out
                    have hnc68 := NB211_223.out
                    have hcz69_0 : wc.cell? ⟨gb223, 0, none⟩ = some (.int .i64 t212) := (blk_cell BK223.out 0).trans rfl
                    have hcz69_1 : wc.cell? ⟨gb223, 1, none⟩ = some (.int .i64 t213) := (blk_cell BK223.out 1).trans rfl
                    have hcz69_2 : wc.cell? ⟨gb223, 2, none⟩ = some (.string t214) := (blk_cell BK223.out 2).trans rfl
                    have hcz69_3 : wc.cell? ⟨gb223, 3, none⟩ = some (.int .i64 t215) := (blk_cell BK223.out 3).trans rfl
                    have hcz69_4 : wc.cell? ⟨gb223, 4, none⟩ = some (.bool t216) := (blk_cell BK223.out 4).trans rfl
                    have hcz69_5 : wc.cell? ⟨gb223, 5, none⟩ = some (.slice Ao15 t217.length co15) := (blk_cell BK223.out 5).trans rfl
                    have hcz69_6 : wc.cell? ⟨gb223, 6, none⟩ = some (.slice Ao16 t220.length co16) := (blk_cell BK223.out 6).trans rfl
                    have hfz69_0 := blk_frozen BK223.out 0
                    have hfz69_1 := blk_frozen BK223.out 1
                    have hfz69_2 := blk_frozen BK223.out 2
                    have hfz69_3 := blk_frozen BK223.out 3
                    have hfz69_4 := blk_frozen BK223.out 4
                    have hfz69_5 := blk_frozen BK223.out 5
                    have hfz69_6 := blk_frozen BK223.out 6
                    have hcz70_0 : wc.cell? ⟨gb211, 0, none⟩ = some (.int .i64 0) := (blk_cell BK211.out 0).trans rfl
                    have hcz70_1 : wc.cell? ⟨gb211, 1, none⟩ = some (.int .i64 0) := (blk_cell BK211.out 1).trans rfl
                    have hcz70_2 : wc.cell? ⟨gb211, 2, none⟩ = some (.string (⟨#[]⟩ : ByteArray)) := (blk_cell BK211.out 2).trans rfl
                    have hcz70_3 : wc.cell? ⟨gb211, 3, none⟩ = some (.int .i64 0) := (blk_cell BK211.out 3).trans rfl
                    have hcz70_4 : wc.cell? ⟨gb211, 4, none⟩ = some (.bool false) := (blk_cell BK211.out 4).trans rfl
                    have hcz70_5 : wc.cell? ⟨gb211, 5, none⟩ = some (.slice none 0 0) := (blk_cell BK211.out 5).trans rfl
                    have hcz70_6 : wc.cell? ⟨gb211, 6, none⟩ = some (.slice none 0 0) := (blk_cell BK211.out 6).trans rfl
                    have hfz70_0 := blk_frozen BK211.out 0
                    have hfz70_1 := blk_frozen BK211.out 1
                    have hfz70_2 := blk_frozen BK211.out 2
                    have hfz70_3 := blk_frozen BK211.out 3
                    have hfz70_4 := blk_frozen BK211.out 4
                    have hfz70_5 := blk_frozen BK211.out 5
                    have hfz70_6 := blk_frozen BK211.out 6
                    go_wp2
                    refine bodyPost_ret (results_ct rfl _ _ gb211 29 #[.int .i64 t212, .int .i64 t213, .string t214, .int .i64 t215, .bool t216, .slice Ao15 t217.length co15, .slice Ao16 t220.length co16] (0, 0) _ rfl (by (with_reducible repeat (first | refine blk_drewN ?_ _ | refine blk_drew ?_ | refine blk_alloc ?_ _)); refine blk_put (cs := #[.int .i64 t212, .int .i64 t213, .string t214, .int .i64 t215, .bool t216, .slice Ao15 t217.length co15, .slice none 0 0]) ?_ 6 _ rfl; (with_reducible repeat (first | refine blk_drewN ?_ _ | refine blk_drew ?_ | refine blk_alloc ?_ _)); refine blk_put (cs := #[.int .i64 t212, .int .i64 t213, .string t214, .int .i64 t215, .bool t216, .slice none 0 0, .slice none 0 0]) ?_ 5 _ rfl; (with_reducible repeat (first | refine blk_drewN ?_ _ | refine blk_drew ?_ | refine blk_alloc ?_ _)); refine blk_put (cs := #[.int .i64 t212, .int .i64 t213, .string t214, .int .i64 t215, .bool false, .slice none 0 0, .slice none 0 0]) ?_ 4 _ rfl; (with_reducible repeat (first | refine blk_drewN ?_ _ | refine blk_drew ?_ | refine blk_alloc ?_ _)); refine blk_put (cs := #[.int .i64 t212, .int .i64 t213, .string t214, .int .i64 0, .bool false, .slice none 0 0, .slice none 0 0]) ?_ 3 _ rfl; (with_reducible repeat (first | refine blk_drewN ?_ _ | refine blk_drew ?_ | refine blk_alloc ?_ _)); refine blk_put (cs := #[.int .i64 t212, .int .i64 t213, .string (⟨#[]⟩ : ByteArray), .int .i64 0, .bool false, .slice none 0 0, .slice none 0 0]) ?_ 2 _ rfl; (with_reducible repeat (first | refine blk_drewN ?_ _ | refine blk_drew ?_ | refine blk_alloc ?_ _)); refine blk_put (cs := #[.int .i64 t212, .int .i64 0, .string (⟨#[]⟩ : ByteArray), .int .i64 0, .bool false, .slice none 0 0, .slice none 0 0]) ?_ 1 _ rfl; (with_reducible repeat (first | refine blk_drewN ?_ _ | refine blk_drew ?_ | refine blk_alloc ?_ _)); refine blk_put (cs := #[.int .i64 0, .int .i64 0, .string (⟨#[]⟩ : ByteArray), .int .i64 0, .bool false, .slice none 0 0, .slice none 0 0]) ?_ 0 _ rfl; (with_reducible repeat (first | refine blk_drewN ?_ _ | refine blk_drew ?_ | refine blk_alloc ?_ _)); exact BK211.out) Try.underlying29 rfl (by kernel_rfl)) rfl ?_
                    exact ⟨_, _, by first | rfl | (simp [errW_none, errW_some] <;> rfl) | (simp [*, errW_none, errW_some] <;> rfl), by (with_reducible repeat (first | apply Kd.R_alloc | apply Kd.R_drewN | apply Kd.R_drew)); exact Kd.R_mono (Kd.R_far (p := ⟨gb211, 6, none⟩) (Kd.R_far (p := ⟨gb211, 5, none⟩) (Kd.R_far (p := ⟨gb211, 4, none⟩) (Kd.R_far (p := ⟨gb211, 3, none⟩) (Kd.R_far (p := ⟨gb211, 2, none⟩) (Kd.R_far (p := ⟨gb211, 1, none⟩) (Kd.R_far (p := ⟨gb211, 0, none⟩) (Kd.R_types HO_224005.out BK211.out (by decide)) (fun _ hk => hk.2) (.int .i64 t212)) (fun _ hk => hk.2) (.int .i64 t213)) (fun _ hk => hk.2) (.string t214)) (fun _ hk => hk.2) (.int .i64 t215)) (fun _ hk => hk.2) (.bool t216)) (fun _ hk => hk.2) (.slice Ao15 t217.length co15)) (fun _ hk => hk.2) (.slice Ao16 t220.length co16)) (fun _ hk => hk.1), by (with_reducible repeat (first | apply Kd.R_alloc | apply Kd.R_drewN | apply Kd.R_drew)); exact Kd.R_mono (Kd.R_far (p := ⟨gb211, 6, none⟩) (Kd.R_far (p := ⟨gb211, 5, none⟩) (Kd.R_far (p := ⟨gb211, 4, none⟩) (Kd.R_far (p := ⟨gb211, 3, none⟩) (Kd.R_far (p := ⟨gb211, 2, none⟩) (Kd.R_far (p := ⟨gb211, 1, none⟩) (Kd.R_far (p := ⟨gb211, 0, none⟩) (Kd.R_types HO_224006.out BK211.out (by decide)) (fun _ hk => hk.2) (.int .i64 t212)) (fun _ hk => hk.2) (.int .i64 t213)) (fun _ hk => hk.2) (.string t214)) (fun _ hk => hk.2) (.int .i64 t215)) (fun _ hk => hk.2) (.bool t216)) (fun _ hk => hk.2) (.slice Ao15 t217.length co15)) (fun _ hk => hk.2) (.slice Ao16 t220.length co16)) (fun _ hk => hk.1), by repeat (first | (with_reducible first | exact HB.out | apply below_alloc | apply pw_below_drewN | apply below_drew1 | refine below_set ?_ GE210.out | refine below_set ?_ GE211.out | refine below_set ?_ GE223.out) | exact HB.out)⟩
                  · rw [if_neg c64] at H
                    have c64b0 : ((l0_5.length : Int) == 32) = false := beq_eq_false_iff_ne.mpr c64
                    have c64b1 : ((l0_5.length : Int) != 32) = true := bne_iff_ne.mpr c64
                    by_cases c71 : t217.length < 17592186044416
                    · rw [if_pos c71] at H
                      have LMc71 := Aside0.mk c71
                      clear c71
                      obtain ⟨y228, hy228⟩ : ∃ y_ : List Int, y_ = (t217 ++ [a1]) := ⟨_, rfl⟩
                      replace H : (some (t212, t213, t214, t215, t216, y228, t220, 4)) = some (r1, r2, r3, r4, r5, r6, r7, r8) := by first | (rw [hy228]; with_reducible exact H) | (have H2_ := (Option.bind_some _ _).symm.trans H; rw [hy228]; with_reducible exact H2_) | (have H2_ := (Option.bind_some _ _).symm.trans H; with_reducible exact H2_) | with_reducible exact H | (rw [hy228]; exact H) | exact H
                      have Ny228 := Aside0.mk hy228
                      clear hy228
                      simp only [Option.some.injEq, Prod.mk.injEq] at H
                      obtain ⟨rfl, rfl, rfl, rfl, rfl, rfl, rfl, rfl⟩ := H
                      have hnb72 := NB210_211.out
                      have hnc72 := NB211_210.out
                      have hnb73 := NB210_223.out
                      have hnc73 := NB223_210.out
                      have hcz74_0 : wc.cell? ⟨gb210, 0, none⟩ = some (.int .i64 a0_0) := (blk_cell BK210.out 0).trans rfl
                      have hcz74_1 : wc.cell? ⟨gb210, 1, none⟩ = some (.int .i64 a0_1) := (blk_cell BK210.out 1).trans rfl
                      have hcz74_2 : wc.cell? ⟨gb210, 2, none⟩ = some (.string a0_2) := (blk_cell BK210.out 2).trans rfl
                      have hcz74_3 : wc.cell? ⟨gb210, 3, none⟩ = some (.int .i64 a0_3) := (blk_cell BK210.out 3).trans rfl
                      have hcz74_4 : wc.cell? ⟨gb210, 4, none⟩ = some (.bool false) := (blk_cell BK210.out 4).trans rfl
                      have hcz74_5 : wc.cell? ⟨gb210, 5, none⟩ = some (.slice A0_5 l0_5.length c0_5) := (blk_cell BK210.out 5).trans rfl
                      have hcz74_6 : wc.cell? ⟨gb210, 6, none⟩ = some (.slice A0_6 l0_6.length c0_6) := (blk_cell BK210.out 6).trans rfl
                      have hfz74_0 := blk_frozen BK210.out 0
                      have hfz74_1 := blk_frozen BK210.out 1
                      have hfz74_2 := blk_frozen BK210.out 2
                      have hfz74_3 := blk_frozen BK210.out 3
                      have hfz74_4 := blk_frozen BK210.out 4
                      have hfz74_5 := blk_frozen BK210.out 5
                      have hfz74_6 := blk_frozen BK210.out 6
                      have hnb75 := NB223_211.out
                      have hnc75 := NB211_223.out
                      have hcz76_0 : wc.cell? ⟨gb223, 0, none⟩ = some (.int .i64 t212) := (blk_cell BK223.out 0).trans rfl
                      have hcz76_1 : wc.cell? ⟨gb223, 1, none⟩ = some (.int .i64 t213) := (blk_cell BK223.out 1).trans rfl
                      have hcz76_2 : wc.cell? ⟨gb223, 2, none⟩ = some (.string t214) := (blk_cell BK223.out 2).trans rfl
                      have hcz76_3 : wc.cell? ⟨gb223, 3, none⟩ = some (.int .i64 t215) := (blk_cell BK223.out 3).trans rfl
                      have hcz76_4 : wc.cell? ⟨gb223, 4, none⟩ = some (.bool t216) := (blk_cell BK223.out 4).trans rfl
                      have hcz76_5 : wc.cell? ⟨gb223, 5, none⟩ = some (.slice Ao15 t217.length co15) := (blk_cell BK223.out 5).trans rfl
                      have hcz76_6 : wc.cell? ⟨gb223, 6, none⟩ = some (.slice Ao16 t220.length co16) := (blk_cell BK223.out 6).trans rfl
                      have hfz76_0 := blk_frozen BK223.out 0
                      have hfz76_1 := blk_frozen BK223.out 1
                      have hfz76_2 := blk_frozen BK223.out 2
                      have hfz76_3 := blk_frozen BK223.out 3
                      have hfz76_4 := blk_frozen BK223.out 4
                      have hfz76_5 := blk_frozen BK223.out 5
                      have hfz76_6 := blk_frozen BK223.out 6
                      go_wp2_with (first | ((with_reducible refine gate_builtin (b := .append) (xs := #[.tmp 50, .tmp 52]) rfl ?_); at_builtin; refine Kd.R_append (Kd.int .i64) (w0 := w) w.heap.size rfl (.tmp 50) (.tmp 52) 27 3 (.int .i64 0) 8 rfl Try.underlying27 info3 rfl (by decide) (by omega) (.slice Ao15 t217.length co15) t217 a1 [.int .i64 a1] (fun k_ => some k_ ≠ (.slice Ao16 t220.length co16 : Value).ownBlock) (fun _ => False) rfl rfl ?aP (fun _ hk => hk.elim) ?aF ?aO ?aB ?aS ?aL ?_; (case aP => exact rfl); (case aB => exact (by repeat (first | (with_reducible first | exact HB.out | apply below_alloc | apply pw_below_drewN | apply below_drew1 | refine below_set ?_ GE210.out | refine below_set ?_ GE211.out | refine below_set ?_ GE223.out) | exact HB.out))); (case aF => exact (fun k_ hk => Kd.fresh' (Kd.R_lt (pkR HO_224006.out)) k_ hk)); (case aO => exact (pkR HO_224005.out)); (case aS => exact (below_size (by repeat (first | (with_reducible first | exact HB.out | apply below_alloc | apply pw_below_drewN | apply below_drew1 | refine below_set ?_ GE210.out | refine below_set ?_ GE211.out | refine below_set ?_ GE223.out) | exact HB.out)))); (case aL => have := LMc71.out; omega); intro v229 w77 ho hb hg hat; rw [← Ny228.out] at ho; have n0_ := Aside0.mk (Kd.R_after (ok := (fun _ => True)) (by (with_reducible repeat (first | apply Kd.R_alloc | apply Kd.R_drewN | apply Kd.R_drew)); exact Kd.R_mono HO_224006.out (fun _ hk => ⟨trivial, hk⟩)) hg hat); have n1_ := Aside0.mk (blk_grown (g := gb210) (o := .cells #[.int .i64 a0_0, .int .i64 a0_1, .string a0_2, .int .i64 a0_3, .bool false, .slice A0_5 l0_5.length c0_5, .slice A0_6 l0_6.length c0_6] 29 (0, 0)) (pkK BK210.out) hg (Kd.R_ne HO_224005.out BK210.out (by decide))); have n2_ := Aside0.mk (blk_grown (g := gb211) (o := .cells #[.int .i64 0, .int .i64 0, .string (⟨#[]⟩ : ByteArray), .int .i64 0, .bool false, .slice none 0 0, .slice none 0 0] 29 (0, 0)) (pkK BK211.out) hg (Kd.R_ne HO_224005.out BK211.out (by decide))); have n3_ := Aside0.mk (blk_grown (g := gb223) (o := .cells #[.int .i64 t212, .int .i64 t213, .string t214, .int .i64 t215, .bool t216, .slice Ao15 t217.length co15, .slice Ao16 t220.length co16] 29 (0, 0)) (pkK BK223.out) hg (Kd.R_ne HO_224005.out BK223.out (by decide))); have n4_ := Aside0.mk (hb); have n5_ := Aside0.mk (ho); clear HO_224006 BK210 BK211 BK223 HB HO_224005; have HO_224006 := n0_; have BK210 := n1_; have BK211 := n2_; have BK223 := n3_; have HB := n4_; have HO230 := n5_; clear n0_ n1_ n2_ n3_ n4_ n5_; clear ho hb hg hat; obtain ⟨Ao78, co78, eo78⟩ := Kd.R_slice HO230.out; subst eo78; have hcz79_0 : w77.cell? ⟨gb223, 0, none⟩ = some (.int .i64 t212) := (blk_cell BK223.out 0).trans rfl; have hcz79_1 : w77.cell? ⟨gb223, 1, none⟩ = some (.int .i64 t213) := (blk_cell BK223.out 1).trans rfl; have hcz79_2 : w77.cell? ⟨gb223, 2, none⟩ = some (.string t214) := (blk_cell BK223.out 2).trans rfl; have hcz79_3 : w77.cell? ⟨gb223, 3, none⟩ = some (.int .i64 t215) := (blk_cell BK223.out 3).trans rfl; have hcz79_4 : w77.cell? ⟨gb223, 4, none⟩ = some (.bool t216) := (blk_cell BK223.out 4).trans rfl; have hcz79_5 : w77.cell? ⟨gb223, 5, none⟩ = some (.slice Ao15 t217.length co15) := (blk_cell BK223.out 5).trans rfl; have hcz79_6 : w77.cell? ⟨gb223, 6, none⟩ = some (.slice Ao16 t220.length co16) := (blk_cell BK223.out 6).trans rfl; have hfz79_0 := blk_frozen BK223.out 0; have hfz79_1 := blk_frozen BK223.out 1; have hfz79_2 := blk_frozen BK223.out 2; have hfz79_3 := blk_frozen BK223.out 3; have hfz79_4 := blk_frozen BK223.out 4; have hfz79_5 := blk_frozen BK223.out 5; have hfz79_6 := blk_frozen BK223.out 6; have hcz80_0 : w77.cell? ⟨gb211, 0, none⟩ = some (.int .i64 0) := (blk_cell BK211.out 0).trans rfl; have hcz80_1 : w77.cell? ⟨gb211, 1, none⟩ = some (.int .i64 0) := (blk_cell BK211.out 1).trans rfl; have hcz80_2 : w77.cell? ⟨gb211, 2, none⟩ = some (.string (⟨#[]⟩ : ByteArray)) := (blk_cell BK211.out 2).trans rfl; have hcz80_3 : w77.cell? ⟨gb211, 3, none⟩ = some (.int .i64 0) := (blk_cell BK211.out 3).trans rfl; have hcz80_4 : w77.cell? ⟨gb211, 4, none⟩ = some (.bool false) := (blk_cell BK211.out 4).trans rfl; have hcz80_5 : w77.cell? ⟨gb211, 5, none⟩ = some (.slice none 0 0) := (blk_cell BK211.out 5).trans rfl; have hcz80_6 : w77.cell? ⟨gb211, 6, none⟩ = some (.slice none 0 0) := (blk_cell BK211.out 6).trans rfl; have hfz80_0 := blk_frozen BK211.out 0; have hfz80_1 := blk_frozen BK211.out 1; have hfz80_2 := blk_frozen BK211.out 2; have hfz80_3 := blk_frozen BK211.out 3; have hfz80_4 := blk_frozen BK211.out 4; have hfz80_5 := blk_frozen BK211.out 5; have hfz80_6 := blk_frozen BK211.out 6))
                      refine bodyPost_ret (results_ct rfl _ _ gb211 29 #[.int .i64 t212, .int .i64 t213, .string t214, .int .i64 t215, .bool t216, .slice Ao78 y228.length co78, .slice Ao16 t220.length co16] (0, 0) _ rfl (by (with_reducible repeat (first | refine blk_drewN ?_ _ | refine blk_drew ?_ | refine blk_alloc ?_ _)); refine blk_put (cs := #[.int .i64 t212, .int .i64 t213, .string t214, .int .i64 t215, .bool t216, .slice Ao78 y228.length co78, .slice none 0 0]) ?_ 6 _ rfl; (with_reducible repeat (first | refine blk_drewN ?_ _ | refine blk_drew ?_ | refine blk_alloc ?_ _)); refine blk_put (cs := #[.int .i64 t212, .int .i64 t213, .string t214, .int .i64 t215, .bool t216, .slice none 0 0, .slice none 0 0]) ?_ 5 _ rfl; (with_reducible repeat (first | refine blk_drewN ?_ _ | refine blk_drew ?_ | refine blk_alloc ?_ _)); refine blk_put (cs := #[.int .i64 t212, .int .i64 t213, .string t214, .int .i64 t215, .bool false, .slice none 0 0, .slice none 0 0]) ?_ 4 _ rfl; (with_reducible repeat (first | refine blk_drewN ?_ _ | refine blk_drew ?_ | refine blk_alloc ?_ _)); refine blk_put (cs := #[.int .i64 t212, .int .i64 t213, .string t214, .int .i64 0, .bool false, .slice none 0 0, .slice none 0 0]) ?_ 3 _ rfl; (with_reducible repeat (first | refine blk_drewN ?_ _ | refine blk_drew ?_ | refine blk_alloc ?_ _)); refine blk_put (cs := #[.int .i64 t212, .int .i64 t213, .string (⟨#[]⟩ : ByteArray), .int .i64 0, .bool false, .slice none 0 0, .slice none 0 0]) ?_ 2 _ rfl; (with_reducible repeat (first | refine blk_drewN ?_ _ | refine blk_drew ?_ | refine blk_alloc ?_ _)); refine blk_put (cs := #[.int .i64 t212, .int .i64 0, .string (⟨#[]⟩ : ByteArray), .int .i64 0, .bool false, .slice none 0 0, .slice none 0 0]) ?_ 1 _ rfl; (with_reducible repeat (first | refine blk_drewN ?_ _ | refine blk_drew ?_ | refine blk_alloc ?_ _)); refine blk_put (cs := #[.int .i64 0, .int .i64 0, .string (⟨#[]⟩ : ByteArray), .int .i64 0, .bool false, .slice none 0 0, .slice none 0 0]) ?_ 0 _ rfl; (with_reducible repeat (first | refine blk_drewN ?_ _ | refine blk_drew ?_ | refine blk_alloc ?_ _)); refine blk_far ?_ NB211_223.out _; (with_reducible repeat (first | refine blk_drewN ?_ _ | refine blk_drew ?_ | refine blk_alloc ?_ _)); exact BK211.out) Try.underlying29 rfl (by kernel_rfl)) rfl ?_
                      exact ⟨_, _, by first | rfl | (simp [errW_none, errW_some] <;> rfl) | (simp [*, errW_none, errW_some] <;> rfl), by (with_reducible repeat (first | apply Kd.R_alloc | apply Kd.R_drewN | apply Kd.R_drew)); exact Kd.R_mono (Kd.R_far (p := ⟨gb211, 6, none⟩) (Kd.R_far (p := ⟨gb211, 5, none⟩) (Kd.R_far (p := ⟨gb211, 4, none⟩) (Kd.R_far (p := ⟨gb211, 3, none⟩) (Kd.R_far (p := ⟨gb211, 2, none⟩) (Kd.R_far (p := ⟨gb211, 1, none⟩) (Kd.R_far (p := ⟨gb211, 0, none⟩) (Kd.R_far (p := ⟨gb223, 5, none⟩) (Kd.R_types (Kd.R_types HO230.out BK223.out (by decide)) BK211.out (by decide)) (fun _ hk => hk.1.2) (.slice Ao78 y228.length co78)) (fun _ hk => hk.2) (.int .i64 t212)) (fun _ hk => hk.2) (.int .i64 t213)) (fun _ hk => hk.2) (.string t214)) (fun _ hk => hk.2) (.int .i64 t215)) (fun _ hk => hk.2) (.bool t216)) (fun _ hk => hk.2) (.slice Ao78 y228.length co78)) (fun _ hk => hk.2) (.slice Ao16 t220.length co16)) (fun _ hk => hk.1.1), by (with_reducible repeat (first | apply Kd.R_alloc | apply Kd.R_drewN | apply Kd.R_drew)); exact Kd.R_mono (Kd.R_far (p := ⟨gb211, 6, none⟩) (Kd.R_far (p := ⟨gb211, 5, none⟩) (Kd.R_far (p := ⟨gb211, 4, none⟩) (Kd.R_far (p := ⟨gb211, 3, none⟩) (Kd.R_far (p := ⟨gb211, 2, none⟩) (Kd.R_far (p := ⟨gb211, 1, none⟩) (Kd.R_far (p := ⟨gb211, 0, none⟩) (Kd.R_far (p := ⟨gb223, 5, none⟩) (Kd.R_types (Kd.R_types HO_224006.out BK223.out (by decide)) BK211.out (by decide)) (fun _ hk => hk.1.2) (.slice Ao78 y228.length co78)) (fun _ hk => hk.2) (.int .i64 t212)) (fun _ hk => hk.2) (.int .i64 t213)) (fun _ hk => hk.2) (.string t214)) (fun _ hk => hk.2) (.int .i64 t215)) (fun _ hk => hk.2) (.bool t216)) (fun _ hk => hk.2) (.slice Ao78 y228.length co78)) (fun _ hk => hk.2) (.slice Ao16 t220.length co16)) (fun _ hk => hk.1.1.2), by repeat (first | (with_reducible first | exact HB.out | apply below_alloc | apply pw_below_drewN | apply below_drew1 | refine below_set ?_ GE210.out | refine below_set ?_ GE211.out | refine below_set ?_ GE223.out) | exact HB.out)⟩
                    · rw [if_neg c71] at H
                      exact absurd H (by simp)
end Go.Proofs.Ytffcphplnilokaa.Z
