import Derived.Test.YtffcphplnilokaaZx0
import Derived.Test.YtffcphplnilokaaZx14
import Derived.Test.YtffcphplnilokaaZx17
import Derived.Test.YtffcphplnilokaaZx37
namespace Go.Proofs.Ytffcphplnilokaa.Z
open Go.RowKit Go.Proofs.YtffcphplnilokaaW.PrintWords Go.Proofs.YtffcphplnilokaaW.PrintLast Go.Proofs.YtffcphplnilokaaW.PrintMore
attribute [local go_sem] max2_int min2_int max_two min_two max_three min_three max_four min_four   -- for this text's walks alone
set_option linter.unusedVariables false
set_option linter.unusedSimpArgs false
mutual
def spec_Watch.j0 : Nat → Int → Int → Bool → Int → Int → ByteArray → Int → Bool → List Int → List Int → Int → Int → ByteArray → Int → Bool → List Int → List Int → Option (Int × Int × ByteArray × Int × Bool × List Int × List Int × Int)
  | 0, _, _, _, _, _, _, _, _, _, _, _, _, _, _, _, _, _ => none
  | k + 1, x1, x2, x11, x880000, x880001, x880002, x880003, x880004, x880005, x880006, x893000, x893001, x893002, x893003, x893004, x893005, x893006 => if x11 = true then (some (x893000, x893001, x893002, x893003, x893004, x893005, x893006, 1)) else ((spec_l2Has.f k x880005 x1).bind fun t895 => (if t895 = true then (spec_Watch.j1 k x1 x2 true x880000 x880001 x880002 x880003 x880004 x880005 x880006 x893000 x893001 x893002 x893003 x893004 x893005 x893006) else ((spec_l2Has.f k x880006 x1).bind fun t896 => (spec_Watch.j1 k x1 x2 t896 x880000 x880001 x880002 x880003 x880004 x880005 x880006 x893000 x893001 x893002 x893003 x893004 x893005 x893006))))
def spec_Watch.j1 : Nat → Int → Int → Bool → Int → Int → ByteArray → Int → Bool → List Int → List Int → Int → Int → ByteArray → Int → Bool → List Int → List Int → Option (Int × Int × ByteArray × Int × Bool × List Int × List Int × Int)
  | 0, _, _, _, _, _, _, _, _, _, _, _, _, _, _, _, _, _ => none
  | k + 1, x1, x2, x21, x880000, x880001, x880002, x880003, x880004, x880005, x880006, x893000, x893001, x893002, x893003, x893004, x893005, x893006 => if x21 = true then (some (x893000, x893001, x893002, x893003, x893004, x893005, x893006, 5)) else (if x880003 > x2 then (some (x893000, x893001, x893002, x893003, x893004, x893005, x893006, 0)) else (if x880004 = true then (some (x893000, x893001, x893002, x893003, x893004, x893005, x893006, 6)) else (if (x880005.length : Int) ≥ 32 then (some (x893000, x893001, x893002, x893003, x893004, x893005, x893006, 2)) else (if x893005.length < 17592186044416 then (some (x893000, x893001, x893002, x893003, x893004, (x893005 ++ [x1]), x893006, 4)) else (none)))))
end
def spec_Watch.f (k : Nat) (a0_0 : Int) (a0_1 : Int) (a0_2 : ByteArray) (a0_3 : Int) (a0_4 : Bool) (l0_5 : List Int) (l0_6 : List Int) (a1 : Int) (a2 : Int) : Option (Int × Int × ByteArray × Int × Bool × List Int × List Int × Int) := (spec_l7Copy.f a0_0 a0_1 a0_2 a0_3 a0_4 l0_5 l0_6).bind fun bt881 => ((spec_CellOk.f k a0_0 a0_1 a0_2 a0_3 a0_4 l0_5 l0_6).bind fun t893 => (if t893 = true then ((spec_l2Client.f a1).bind fun t894 => (spec_Watch.j0 k a1 a2 (!t894) a0_0 a0_1 a0_2 a0_3 a0_4 l0_5 l0_6 bt881.1 bt881.2.1 bt881.2.2.1 bt881.2.2.2.1 bt881.2.2.2.2.1 bt881.2.2.2.2.2.1 bt881.2.2.2.2.2.2)) else (spec_Watch.j0 k a1 a2 true a0_0 a0_1 a0_2 a0_3 a0_4 l0_5 l0_6 bt881.1 bt881.2.1 bt881.2.2.1 bt881.2.2.2.1 bt881.2.2.2.2.1 bt881.2.2.2.2.2.1 bt881.2.2.2.2.2.2)))
theorem spec_Watch.mono_l : ∀ k, (∀ y0 y1 y2 y3 y4 y5 y6 y7 y8 y9 y10 y11 y12 y13 y14 y15 y16, LeO (spec_Watch.j0 k y0 y1 y2 y3 y4 y5 y6 y7 y8 y9 y10 y11 y12 y13 y14 y15 y16) (spec_Watch.j0 (k + 1) y0 y1 y2 y3 y4 y5 y6 y7 y8 y9 y10 y11 y12 y13 y14 y15 y16)) ∧ (∀ y0 y1 y2 y3 y4 y5 y6 y7 y8 y9 y10 y11 y12 y13 y14 y15 y16, LeO (spec_Watch.j1 k y0 y1 y2 y3 y4 y5 y6 y7 y8 y9 y10 y11 y12 y13 y14 y15 y16) (spec_Watch.j1 (k + 1) y0 y1 y2 y3 y4 y5 y6 y7 y8 y9 y10 y11 y12 y13 y14 y15 y16))
  | 0 => ⟨fun _ _ _ _ _ _ _ _ _ _ _ _ _ _ _ _ _ r h => by simp [spec_Watch.j0] at h, fun _ _ _ _ _ _ _ _ _ _ _ _ _ _ _ _ _ r h => by simp [spec_Watch.j1] at h⟩
  | k + 1 => by
    obtain ⟨ih0, ih1⟩ := spec_Watch.mono_l k
    refine ⟨?_, ?_⟩
    · intro y0 y1 y2 y3 y4 y5 y6 y7 y8 y9 y10 y11 y12 y13 y14 y15 y16
      unfold spec_Watch.j0
      repeat' first
      | (with_reducible exact ih0 _ _ _ _ _ _ _ _ _ _ _ _ _ _ _ _ _)
      | (with_reducible exact ih1 _ _ _ _ _ _ _ _ _ _ _ _ _ _ _ _ _)
      | (with_reducible exact spec_CellOk.mono _ _ _ _ _ _ _ _)
      | (with_reducible exact spec_l2Has.mono _ _ _)
      | (with_reducible exact LeO.refl _)
      | (with_reducible exact LeO.none _)
      | (with_reducible refine LeO.ite ?_ ?_)
      | (with_reducible refine LeO.bind ?_ (fun _ => ?_))
      | exact ih0 _ _ _ _ _ _ _ _ _ _ _ _ _ _ _ _ _
      | exact ih1 _ _ _ _ _ _ _ _ _ _ _ _ _ _ _ _ _
      | exact spec_CellOk.mono _ _ _ _ _ _ _ _
      | exact spec_l2Has.mono _ _ _
      | exact LeO.none _
      | refine LeO.ite ?_ ?_
      | refine LeO.bind ?_ (fun _ => ?_)
    · intro y0 y1 y2 y3 y4 y5 y6 y7 y8 y9 y10 y11 y12 y13 y14 y15 y16
      unfold spec_Watch.j1
      repeat' first
      | (with_reducible exact ih0 _ _ _ _ _ _ _ _ _ _ _ _ _ _ _ _ _)
      | (with_reducible exact ih1 _ _ _ _ _ _ _ _ _ _ _ _ _ _ _ _ _)
      | (with_reducible exact spec_CellOk.mono _ _ _ _ _ _ _ _)
      | (with_reducible exact spec_l2Has.mono _ _ _)
      | (with_reducible exact LeO.refl _)
      | (with_reducible exact LeO.none _)
      | (with_reducible refine LeO.ite ?_ ?_)
      | (with_reducible refine LeO.bind ?_ (fun _ => ?_))
      | exact ih0 _ _ _ _ _ _ _ _ _ _ _ _ _ _ _ _ _
      | exact ih1 _ _ _ _ _ _ _ _ _ _ _ _ _ _ _ _ _
      | exact spec_CellOk.mono _ _ _ _ _ _ _ _
      | exact spec_l2Has.mono _ _ _
      | exact LeO.none _
      | refine LeO.ite ?_ ?_
      | refine LeO.bind ?_ (fun _ => ?_)
theorem spec_Watch.mono : ∀ a0 a1 a2 a3 a4 a5 a6 a7 a8 k, LeO (spec_Watch.f k a0 a1 a2 a3 a4 a5 a6 a7 a8) (spec_Watch.f (k + 1) a0 a1 a2 a3 a4 a5 a6 a7 a8) := by
  intro a0 a1 a2 a3 a4 a5 a6 a7 a8 k
  obtain ⟨ih0, ih1⟩ := spec_Watch.mono_l k
  unfold spec_Watch.f
  repeat' first
      | (with_reducible exact ih0 _ _ _ _ _ _ _ _ _ _ _ _ _ _ _ _ _)
      | (with_reducible exact ih1 _ _ _ _ _ _ _ _ _ _ _ _ _ _ _ _ _)
      | (with_reducible exact spec_CellOk.mono _ _ _ _ _ _ _ _)
      | (with_reducible exact spec_l2Has.mono _ _ _)
      | (with_reducible exact LeO.refl _)
      | (with_reducible exact LeO.none _)
      | (with_reducible refine LeO.ite ?_ ?_)
      | (with_reducible refine LeO.bind ?_ (fun _ => ?_))
      | exact ih0 _ _ _ _ _ _ _ _ _ _ _ _ _ _ _ _ _
      | exact ih1 _ _ _ _ _ _ _ _ _ _ _ _ _ _ _ _ _
      | exact spec_CellOk.mono _ _ _ _ _ _ _ _
      | exact spec_l2Has.mono _ _ _
      | exact LeO.none _
      | refine LeO.ite ?_ ?_
      | refine LeO.bind ?_ (fun _ => ?_)
set_option maxHeartbeats 8000000 in
set_option maxRecDepth 100000 in
theorem spec_Watch.calls (k : Nat) (a0_0 : Int) (a0_1 : Int) (a0_2 : ByteArray) (a0_3 : Int) (a0_4 : Bool) (A0_5 : Option Addr) (c0_5 : Nat) (l0_5 : List Int) (A0_6 : Option Addr) (c0_6 : Nat) (l0_6 : List Int) (a1 : Int) (a2 : Int) (r1 : Int) (r2 : Int) (r3 : ByteArray) (r4 : Int) (r5 : Bool) (r6 : List Int) (r7 : List Int) (r8 : Int) (w : World) (hr0_5 : Kd.C (Kd.int .i64) w A0_5 l0_5.length l0_5) (hc0_5 : l0_5.length ≤ c0_5) (hr0_6 : Kd.C (Kd.int .i64) w A0_6 l0_6.length l0_6) (hc0_6 : l0_6.length ≤ c0_6) (h : spec_Watch.f k a0_0 a0_1 a0_2 a0_3 a0_4 l0_5 l0_6 a1 a2 = some (r1, r2, r3, r4, r5, r6, r7, r8)) :
    Calls Try.prog 47 #[.agg #[.int .i64 a0_0, .int .i64 a0_1, .string a0_2, .int .i64 a0_3, .bool a0_4, .slice A0_5 l0_5.length c0_5, .slice A0_6 l0_6.length c0_6], .int .i64 a1, .int .i64 a2] w fun e w' => ∃ v5_ v6_ : Value, e = .returned (.tuple #[.agg #[.int .i64 r1, .int .i64 r2, .string r3, .int .i64 r4, .bool r5, v5_, v6_], .int .i64 r8]) ∧ Kd.R (Kd.int .i64) 3 w' w.heap.size (fun k_ => some k_ ≠ (v6_ : Value).ownBlock) v5_ r6 ∧ Kd.R (Kd.int .i64) 3 w' w.heap.size (fun k_ => some k_ ≠ (v5_ : Value).ownBlock) v6_ r7 ∧ Below w.heap.size w w' := by
  have hu29 := Try.underlying29
  have HR0_5 := Aside0.mk hr0_5
  have HC0_5 := Aside0.mk hc0_5
  clear hr0_5 hc0_5
  have HR0_6 := Aside0.mk hr0_6
  have HC0_6 := Aside0.mk hc0_6
  clear hr0_6 hc0_6
  have HB := Aside0.mk (Below.refl w.heap.size w)
  have H : ((spec_l7Copy.f a0_0 a0_1 a0_2 a0_3 a0_4 l0_5 l0_6).bind fun bt881 => ((spec_CellOk.f k a0_0 a0_1 a0_2 a0_3 a0_4 l0_5 l0_6).bind fun t893 => (if t893 = true then ((spec_l2Client.f a1).bind fun t894 => (spec_Watch.j0 k a1 a2 (!t894) a0_0 a0_1 a0_2 a0_3 a0_4 l0_5 l0_6 bt881.1 bt881.2.1 bt881.2.2.1 bt881.2.2.2.1 bt881.2.2.2.2.1 bt881.2.2.2.2.2.1 bt881.2.2.2.2.2.2)) else (spec_Watch.j0 k a1 a2 true a0_0 a0_1 a0_2 a0_3 a0_4 l0_5 l0_6 bt881.1 bt881.2.1 bt881.2.2.1 bt881.2.2.2.1 bt881.2.2.2.2.1 bt881.2.2.2.2.2.1 bt881.2.2.2.2.2.2)))) = some (r1, r2, r3, r4, r5, r6, r7, r8) := h
  clear h
  replace H := Option.bind_eq_some_iff.mp H
  obtain ⟨⟨t881, t882, t883, t884, t885, t886, t889⟩, A40, H⟩ := H
  replace H : ((spec_CellOk.f k a0_0 a0_1 a0_2 a0_3 a0_4 l0_5 l0_6).bind fun t893 => (if t893 = true then ((spec_l2Client.f a1).bind fun t894 => (spec_Watch.j0 k a1 a2 (!t894) a0_0 a0_1 a0_2 a0_3 a0_4 l0_5 l0_6 t881 t882 t883 t884 t885 t886 t889)) else (spec_Watch.j0 k a1 a2 true a0_0 a0_1 a0_2 a0_3 a0_4 l0_5 l0_6 t881 t882 t883 t884 t885 t886 t889))) = some (r1, r2, r3, r4, r5, r6, r7, r8) := H
  have A4 := Aside0.mk A40
  clear A40
  have HC5 := Aside0.mk H
  clear H
  go_enter Try.func47, Try.ntmps47
  go_upto_region 2 with (first | ((with_reducible refine gate_dst (N := 3) rfl ?_); refine box_event ?hg (N := 3) ?hd (cs := #[.int .i64 a0_0, .int .i64 a0_1, .string a0_2, .int .i64 a0_3, .bool a0_4, .slice A0_5 l0_5.length c0_5, .slice A0_6 l0_6.length c0_6]) (t := 29) ?hr ?_; (case hd => rfl); (case hg => rfl); (case hr => first | (go_simp; done) | (go_simp; rfl)); intro gb879 hg w6 hbox hb; have n0_ := Aside0.mk (below_step (pkB HB.out) hb); have n1_ := Aside0.mk (hbox); have n2_ := Aside0.mk ((by rw [hg]; exact (below_size (pkB HB.out)) : w.heap.size ≤ gb879)); have n3_ := Aside0.mk ((by rw [hg]; exact (below_size (pkB HB.out)) : w.heap.size ≤ gb879)); clear HB; have HB := n0_; have BK879 := n1_; have GW879 := n2_; have GE879 := n3_; clear n0_ n1_ n2_ n3_; clear hb hbox hg) | ((with_reducible refine gate_dst (N := 6) rfl ?_); refine box_event ?hg (N := 6) ?hd (cs := #[.int .i64 0, .int .i64 0, .string (⟨#[]⟩ : ByteArray), .int .i64 0, .bool false, .slice none 0 0, .slice none 0 0]) (t := 29) ?hr ?_; (case hd => rfl); (case hg => rfl); (case hr => first | (go_simp; done) | (go_simp; rfl)); intro gb880 hg w7 hbox hb; have n0_ := Aside0.mk (blk_below (g := gb879) (o := .cells #[.int .i64 a0_0, .int .i64 a0_1, .string a0_2, .int .i64 a0_3, .bool a0_4, .slice A0_5 l0_5.length c0_5, .slice A0_6 l0_6.length c0_6] 29 (0, 0)) (pkK BK879.out) hb); have n1_ := Aside0.mk (below_step (by repeat (first | (with_reducible first | exact HB.out | apply below_alloc | apply pw_below_drewN | apply below_drew1 | refine below_set ?_ GE879.out) | exact HB.out)) hb); have n2_ := Aside0.mk (hbox); have n3_ := Aside0.mk ((by rw [hg]; exact (below_size (by repeat (first | (with_reducible first | exact HB.out | apply below_alloc | apply pw_below_drewN | apply below_drew1 | refine below_set ?_ GE879.out) | exact HB.out))) : w.heap.size ≤ gb880)); have n4_ := Aside0.mk ((by rw [hg]; exact (below_size (by repeat (first | (with_reducible first | exact HB.out | apply below_alloc | apply pw_below_drewN | apply below_drew1 | refine below_set ?_ GE879.out) | exact HB.out))) : w.heap.size ≤ gb880)); have n5_ := Aside0.mk ((by rw [hg]; exact Nat.ne_of_lt (blk_lt (g := gb879) (o := .cells #[.int .i64 a0_0, .int .i64 a0_1, .string a0_2, .int .i64 a0_3, .bool a0_4, .slice A0_5 l0_5.length c0_5, .slice A0_6 l0_6.length c0_6] 29 (0, 0)) (pkK BK879.out)) : gb879 ≠ gb880)); have n6_ := Aside0.mk ((by rw [hg]; exact Nat.ne_of_gt (blk_lt (g := gb879) (o := .cells #[.int .i64 a0_0, .int .i64 a0_1, .string a0_2, .int .i64 a0_3, .bool a0_4, .slice A0_5 l0_5.length c0_5, .slice A0_6 l0_6.length c0_6] 29 (0, 0)) (pkK BK879.out)) : gb880 ≠ gb879)); clear BK879 HB; have BK879 := n0_; have HB := n1_; have BK880 := n2_; have GW880 := n3_; have GE880 := n4_; have NB879_880 := n5_; have NB880_879 := n6_; clear n0_ n1_ n2_ n3_ n4_ n5_ n6_; clear hb hbox hg; have hnb8 := NB879_880.out; have hnc8 := NB880_879.out; have hcz9_0 : w7.cell? ⟨gb879, 0, none⟩ = some (.int .i64 a0_0) := (blk_cell BK879.out 0).trans rfl; have hcz9_1 : w7.cell? ⟨gb879, 1, none⟩ = some (.int .i64 a0_1) := (blk_cell BK879.out 1).trans rfl; have hcz9_2 : w7.cell? ⟨gb879, 2, none⟩ = some (.string a0_2) := (blk_cell BK879.out 2).trans rfl; have hcz9_3 : w7.cell? ⟨gb879, 3, none⟩ = some (.int .i64 a0_3) := (blk_cell BK879.out 3).trans rfl; have hcz9_4 : w7.cell? ⟨gb879, 4, none⟩ = some (.bool a0_4) := (blk_cell BK879.out 4).trans rfl; have hcz9_5 : w7.cell? ⟨gb879, 5, none⟩ = some (.slice A0_5 l0_5.length c0_5) := (blk_cell BK879.out 5).trans rfl; have hcz9_6 : w7.cell? ⟨gb879, 6, none⟩ = some (.slice A0_6 l0_6.length c0_6) := (blk_cell BK879.out 6).trans rfl; have hfz9_0 := blk_frozen BK879.out 0; have hfz9_1 := blk_frozen BK879.out 1; have hfz9_2 := blk_frozen BK879.out 2; have hfz9_3 := blk_frozen BK879.out 3; have hfz9_4 := blk_frozen BK879.out 4; have hfz9_5 := blk_frozen BK879.out 5; have hfz9_6 := blk_frozen BK879.out 6) | ((with_reducible refine gate_callee (f := 79) rfl ?_); refine goesL_ (some 10) rfl rfl Try.func79 (by kernel_rfl) rfl #[.agg #[.int .i64 a0_0, .int .i64 a0_1, .string a0_2, .int .i64 a0_3, .bool a0_4, .slice A0_5 l0_5.length c0_5, .slice A0_6 l0_6.length c0_6]] rfl (by (try simp only [List.map_toArray, List.map_cons, List.map_nil]); first | done | rfl | (simp only [List.length_drop, List.length_take]; rfl) | (go_simp; done) | (simp [*]; done)) ?_; (with_reducible refine (spec_l7Copy.calls a0_0 a0_1 a0_2 a0_3 a0_4 _ _ l0_5 _ _ l0_6 t881 t882 t883 t884 t885 t886 t889 _ ?side1 ?side2 ?side3 ?side4 A4.out).mono ?_); (case side1 => exact pkC (Kd.C_below HR0_5.out HB.out)); (case side2 => exact HC0_5.out); (case side3 => exact pkC (Kd.C_below HR0_6.out HB.out)); (case side4 => exact HC0_6.out); rintro e w10 ⟨v887, v890, rfl, ho0, ho1, hb⟩; refine ⟨_, rfl, ?_⟩; have n0_ := Aside0.mk (Kd.R_lower ho0 (below_size (by repeat (first | (with_reducible first | exact HB.out | apply below_alloc | apply pw_below_drewN | apply below_drew1 | refine below_set ?_ GE879.out | refine below_set ?_ GE880.out) | exact HB.out)))); have n1_ := Aside0.mk (Kd.R_lower ho1 (below_size (by repeat (first | (with_reducible first | exact HB.out | apply below_alloc | apply pw_below_drewN | apply below_drew1 | refine below_set ?_ GE879.out | refine below_set ?_ GE880.out) | exact HB.out)))); have n2_ := Aside0.mk (blk_below (g := gb879) (o := .cells #[.int .i64 a0_0, .int .i64 a0_1, .string a0_2, .int .i64 a0_3, .bool a0_4, .slice A0_5 l0_5.length c0_5, .slice A0_6 l0_6.length c0_6] 29 (0, 0)) (pkK BK879.out) hb); have n3_ := Aside0.mk (blk_below (g := gb880) (o := .cells #[.int .i64 0, .int .i64 0, .string (⟨#[]⟩ : ByteArray), .int .i64 0, .bool false, .slice none 0 0, .slice none 0 0] 29 (0, 0)) (pkK BK880.out) hb); have n4_ := Aside0.mk (below_step (by repeat (first | (with_reducible first | exact HB.out | apply below_alloc | apply pw_below_drewN | apply below_drew1 | refine below_set ?_ GE879.out | refine below_set ?_ GE880.out) | exact HB.out)) hb); clear BK879 BK880 HB; have HO888 := n0_; have HO891 := n1_; have BK879 := n2_; have BK880 := n3_; have HB := n4_; clear n0_ n1_ n2_ n3_ n4_; (try clear hb); (try clear hb2); (try clear hk); (try clear hi); (try clear ho0); (try clear ho1)) | ((with_reducible refine gate_dst (N := 8) rfl ?_); refine box_event ?hg (N := 8) ?hd (cs := #[.int .i64 0, .int .i64 0, .string (⟨#[]⟩ : ByteArray), .int .i64 0, .bool false, .slice none 0 0, .slice none 0 0]) (t := 29) ?hr ?_; (case hd => rfl); (case hg => rfl); (case hr => first | (go_simp; done) | (go_simp; rfl)); intro gb892 hg w11 hbox hb; have n0_ := Aside0.mk (Kd.R_below (pkR HO888.out) hb); have n1_ := Aside0.mk (Kd.R_below (pkR HO891.out) hb); have n2_ := Aside0.mk (blk_below (g := gb879) (o := .cells #[.int .i64 a0_0, .int .i64 a0_1, .string a0_2, .int .i64 a0_3, .bool a0_4, .slice A0_5 l0_5.length c0_5, .slice A0_6 l0_6.length c0_6] 29 (0, 0)) (pkK BK879.out) hb); have n3_ := Aside0.mk (blk_below (g := gb880) (o := .cells #[.int .i64 0, .int .i64 0, .string (⟨#[]⟩ : ByteArray), .int .i64 0, .bool false, .slice none 0 0, .slice none 0 0] 29 (0, 0)) (pkK BK880.out) hb); have n4_ := Aside0.mk (below_step (by repeat (first | (with_reducible first | exact HB.out | apply below_alloc | apply pw_below_drewN | apply below_drew1 | refine below_set ?_ GE879.out | refine below_set ?_ GE880.out) | exact HB.out)) hb); have n5_ := Aside0.mk (hbox); have n6_ := Aside0.mk ((by rw [hg]; exact (below_size (by repeat (first | (with_reducible first | exact HB.out | apply below_alloc | apply pw_below_drewN | apply below_drew1 | refine below_set ?_ GE879.out | refine below_set ?_ GE880.out) | exact HB.out))) : w.heap.size ≤ gb892)); have n7_ := Aside0.mk ((by rw [hg]; exact (below_size (by repeat (first | (with_reducible first | exact HB.out | apply below_alloc | apply pw_below_drewN | apply below_drew1 | refine below_set ?_ GE879.out | refine below_set ?_ GE880.out) | exact HB.out))) : w.heap.size ≤ gb892)); have n8_ := Aside0.mk ((by rw [hg]; exact Nat.ne_of_lt (blk_lt (g := gb879) (o := .cells #[.int .i64 a0_0, .int .i64 a0_1, .string a0_2, .int .i64 a0_3, .bool a0_4, .slice A0_5 l0_5.length c0_5, .slice A0_6 l0_6.length c0_6] 29 (0, 0)) (pkK BK879.out)) : gb879 ≠ gb892)); have n9_ := Aside0.mk ((by rw [hg]; exact Nat.ne_of_gt (blk_lt (g := gb879) (o := .cells #[.int .i64 a0_0, .int .i64 a0_1, .string a0_2, .int .i64 a0_3, .bool a0_4, .slice A0_5 l0_5.length c0_5, .slice A0_6 l0_6.length c0_6] 29 (0, 0)) (pkK BK879.out)) : gb892 ≠ gb879)); have n10_ := Aside0.mk ((by rw [hg]; exact Nat.ne_of_lt (blk_lt (g := gb880) (o := .cells #[.int .i64 0, .int .i64 0, .string (⟨#[]⟩ : ByteArray), .int .i64 0, .bool false, .slice none 0 0, .slice none 0 0] 29 (0, 0)) (pkK BK880.out)) : gb880 ≠ gb892)); have n11_ := Aside0.mk ((by rw [hg]; exact Nat.ne_of_gt (blk_lt (g := gb880) (o := .cells #[.int .i64 0, .int .i64 0, .string (⟨#[]⟩ : ByteArray), .int .i64 0, .bool false, .slice none 0 0, .slice none 0 0] 29 (0, 0)) (pkK BK880.out)) : gb892 ≠ gb880)); clear HO888 HO891 BK879 BK880 HB; have HO888 := n0_; have HO891 := n1_; have BK879 := n2_; have BK880 := n3_; have HB := n4_; have BK892 := n5_; have GW892 := n6_; have GE892 := n7_; have NB879_892 := n8_; have NB892_879 := n9_; have NB880_892 := n10_; have NB892_880 := n11_; clear n0_ n1_ n2_ n3_ n4_ n5_ n6_ n7_ n8_ n9_ n10_ n11_; clear hb hbox hg; have hnb12 := NB892_879.out; have hnc12 := NB879_892.out; have hnb13 := NB892_880.out; have hnc13 := NB880_892.out; have hcz14_0 : w11.cell? ⟨gb892, 0, none⟩ = some (.int .i64 0) := (blk_cell BK892.out 0).trans rfl; have hcz14_1 : w11.cell? ⟨gb892, 1, none⟩ = some (.int .i64 0) := (blk_cell BK892.out 1).trans rfl; have hcz14_2 : w11.cell? ⟨gb892, 2, none⟩ = some (.string (⟨#[]⟩ : ByteArray)) := (blk_cell BK892.out 2).trans rfl; have hcz14_3 : w11.cell? ⟨gb892, 3, none⟩ = some (.int .i64 0) := (blk_cell BK892.out 3).trans rfl; have hcz14_4 : w11.cell? ⟨gb892, 4, none⟩ = some (.bool false) := (blk_cell BK892.out 4).trans rfl; have hcz14_5 : w11.cell? ⟨gb892, 5, none⟩ = some (.slice none 0 0) := (blk_cell BK892.out 5).trans rfl; have hcz14_6 : w11.cell? ⟨gb892, 6, none⟩ = some (.slice none 0 0) := (blk_cell BK892.out 6).trans rfl; have hfz14_0 := blk_frozen BK892.out 0; have hfz14_1 := blk_frozen BK892.out 1; have hfz14_2 := blk_frozen BK892.out 2; have hfz14_3 := blk_frozen BK892.out 3; have hfz14_4 := blk_frozen BK892.out 4; have hfz14_5 := blk_frozen BK892.out 5; have hfz14_6 := blk_frozen BK892.out 6; obtain ⟨Ao15, co15, eo15⟩ := Kd.R_slice HO888.out; subst eo15; obtain ⟨Ao16, co16, eo16⟩ := Kd.R_slice HO891.out; subst eo16))
  (try simp only [Act.put, List.setIfInBounds_toArray, List.set_cons_zero, List.set_cons_succ])
  go_cut [11] (fun v11 wc => ∃ (kq : Nat) (x11_4 : Bool), v11 = .bool x11_4 ∧ Aside0 (spec_Watch.j0 kq a1 a2 x11_4 a0_0 a0_1 a0_2 a0_3 a0_4 l0_5 l0_6 t881 t882 t883 t884 t885 t886 t889 = some (r1, r2, r3, r4, r5, r6, r7, r8)) ∧ Aside0 (kq ≤ k) ∧ Aside0 (Kd.R (Kd.int .i64) 3 wc w.heap.size (fun k_ => some k_ ≠ ((.slice Ao16 t889.length co16) : Value).ownBlock) (.slice Ao15 t886.length co15) t886) ∧ Aside0 (Kd.R (Kd.int .i64) 3 wc w.heap.size (fun k_ => some k_ ≠ ((.slice Ao15 t886.length co15) : Value).ownBlock) (.slice Ao16 t889.length co16) t889) ∧ Aside0 (wc.heap[gb879]? = some (.cells #[.int .i64 a0_0, .int .i64 a0_1, .string a0_2, .int .i64 a0_3, .bool a0_4, (.slice A0_5 l0_5.length c0_5), (.slice A0_6 l0_6.length c0_6)] 29 (0, 0))) ∧ Aside0 (wc.heap[gb880]? = some (.cells #[.int .i64 0, .int .i64 0, .string (⟨#[]⟩ : ByteArray), .int .i64 0, .bool false, (.slice none 0 0), (.slice none 0 0)] 29 (0, 0))) ∧ Aside0 (wc.heap[gb892]? = some (.cells #[.int .i64 t881, .int .i64 t882, .string t883, .int .i64 t884, .bool t885, (.slice Ao15 t886.length co15), (.slice Ao16 t889.length co16)] 29 (0, 0))) ∧ Aside0 (Below w.heap.size w wc))
  case first =>
    have H := HC5.out
    clear HC5
    replace H := Option.bind_eq_some_iff.mp H
    obtain ⟨t893, A170, H⟩ := H
    replace H : (if t893 = true then ((spec_l2Client.f a1).bind fun t894 => (spec_Watch.j0 k a1 a2 (!t894) a0_0 a0_1 a0_2 a0_3 a0_4 l0_5 l0_6 t881 t882 t883 t884 t885 t886 t889)) else (spec_Watch.j0 k a1 a2 true a0_0 a0_1 a0_2 a0_3 a0_4 l0_5 l0_6 t881 t882 t883 t884 t885 t886 t889)) = some (r1, r2, r3, r4, r5, r6, r7, r8) := H
    have A17 := Aside0.mk A170
    clear A170
    by_cases c18 : t893 = true
    · subst c18
      have H1 : ((spec_l2Client.f a1).bind fun t894 => (spec_Watch.j0 k a1 a2 (!t894) a0_0 a0_1 a0_2 a0_3 a0_4 l0_5 l0_6 t881 t882 t883 t884 t885 t886 t889)) = some (r1, r2, r3, r4, r5, r6, r7, r8) := by rw [if_pos rfl] at H; exact H
      clear H
      have H := H1
      clear H1
      replace H := Option.bind_eq_some_iff.mp H
      obtain ⟨t894, A190, H⟩ := H
      replace H : (spec_Watch.j0 k a1 a2 (!t894) a0_0 a0_1 a0_2 a0_3 a0_4 l0_5 l0_6 t881 t882 t883 t884 t885 t886 t889) = some (r1, r2, r3, r4, r5, r6, r7, r8) := H
      have A19 := Aside0.mk A190
      clear A190
      have H' := Aside0.mk H
      clear H
      have hnb20 := NB879_880.out
      have hnc20 := NB880_879.out
      have hnb21 := NB879_892.out
      have hnc21 := NB892_879.out
      have hcz22_0 : w11.cell? ⟨gb879, 0, none⟩ = some (.int .i64 a0_0) := (blk_cell BK879.out 0).trans rfl
      have hcz22_1 : w11.cell? ⟨gb879, 1, none⟩ = some (.int .i64 a0_1) := (blk_cell BK879.out 1).trans rfl
      have hcz22_2 : w11.cell? ⟨gb879, 2, none⟩ = some (.string a0_2) := (blk_cell BK879.out 2).trans rfl
      have hcz22_3 : w11.cell? ⟨gb879, 3, none⟩ = some (.int .i64 a0_3) := (blk_cell BK879.out 3).trans rfl
      have hcz22_4 : w11.cell? ⟨gb879, 4, none⟩ = some (.bool a0_4) := (blk_cell BK879.out 4).trans rfl
      have hcz22_5 : w11.cell? ⟨gb879, 5, none⟩ = some (.slice A0_5 l0_5.length c0_5) := (blk_cell BK879.out 5).trans rfl
      have hcz22_6 : w11.cell? ⟨gb879, 6, none⟩ = some (.slice A0_6 l0_6.length c0_6) := (blk_cell BK879.out 6).trans rfl
      have hfz22_0 := blk_frozen BK879.out 0
      have hfz22_1 := blk_frozen BK879.out 1
      have hfz22_2 := blk_frozen BK879.out 2
      have hfz22_3 := blk_frozen BK879.out 3
      have hfz22_4 := blk_frozen BK879.out 4
      have hfz22_5 := blk_frozen BK879.out 5
      have hfz22_6 := blk_frozen BK879.out 6
      go_wp2_with (first | ((with_reducible refine gate_callee (f := 22) rfl ?_); refine goesL_ (some 13) rfl rfl Try.func22 (by kernel_rfl) rfl #[.agg #[.int .i64 a0_0, .int .i64 a0_1, .string a0_2, .int .i64 a0_3, .bool a0_4, .slice A0_5 l0_5.length c0_5, .slice A0_6 l0_6.length c0_6]] rfl (by (try simp only [List.map_toArray, List.map_cons, List.map_nil]); first | done | rfl | (simp only [List.length_drop, List.length_take]; rfl) | (go_simp; done) | (simp [*]; done)) ?_; (with_reducible refine (spec_CellOk.calls k a0_0 a0_1 a0_2 a0_3 a0_4 _ _ l0_5 _ _ l0_6 true _ ?side1 ?side2 ?side3 ?side4 A17.out).mono ?_); (case side1 => exact Kd.C_below HR0_5.out (by repeat (first | (with_reducible first | exact HB.out | apply below_alloc | apply pw_below_drewN | apply below_drew1 | refine below_set ?_ GE879.out | refine below_set ?_ GE880.out | refine below_set ?_ GE892.out) | exact HB.out))); (case side2 => exact HC0_5.out); (case side3 => exact Kd.C_below HR0_6.out (by repeat (first | (with_reducible first | exact HB.out | apply below_alloc | apply pw_below_drewN | apply below_drew1 | refine below_set ?_ GE879.out | refine below_set ?_ GE880.out | refine below_set ?_ GE892.out) | exact HB.out))); (case side4 => exact HC0_6.out); rintro e w23 ⟨rfl, hb⟩; refine ⟨_, rfl, ?_⟩; have n0_ := Aside0.mk (Kd.R_below (by (with_reducible repeat (first | apply Kd.R_alloc | apply Kd.R_drewN | apply Kd.R_drew)); exact (Kd.R_mono (Kd.R_far (p := ⟨gb892, 6, none⟩) (Kd.R_far (p := ⟨gb892, 5, none⟩) (Kd.R_far (p := ⟨gb892, 4, none⟩) (Kd.R_far (p := ⟨gb892, 3, none⟩) (Kd.R_far (p := ⟨gb892, 2, none⟩) (Kd.R_far (p := ⟨gb892, 1, none⟩) (Kd.R_far (p := ⟨gb892, 0, none⟩) (Kd.R_types HO888.out BK892.out (by decide)) (fun _ hk => hk.2) (.int .i64 t881)) (fun _ hk => hk.2) (.int .i64 t882)) (fun _ hk => hk.2) (.string t883)) (fun _ hk => hk.2) (.int .i64 t884)) (fun _ hk => hk.2) (.bool t885)) (fun _ hk => hk.2) (.slice Ao15 t886.length co15)) (fun _ hk => hk.2) (.slice Ao16 t889.length co16)) (fun _ h_ => h_.1))) hb); have n1_ := Aside0.mk (Kd.R_below (by (with_reducible repeat (first | apply Kd.R_alloc | apply Kd.R_drewN | apply Kd.R_drew)); exact (Kd.R_mono (Kd.R_far (p := ⟨gb892, 6, none⟩) (Kd.R_far (p := ⟨gb892, 5, none⟩) (Kd.R_far (p := ⟨gb892, 4, none⟩) (Kd.R_far (p := ⟨gb892, 3, none⟩) (Kd.R_far (p := ⟨gb892, 2, none⟩) (Kd.R_far (p := ⟨gb892, 1, none⟩) (Kd.R_far (p := ⟨gb892, 0, none⟩) (Kd.R_types HO891.out BK892.out (by decide)) (fun _ hk => hk.2) (.int .i64 t881)) (fun _ hk => hk.2) (.int .i64 t882)) (fun _ hk => hk.2) (.string t883)) (fun _ hk => hk.2) (.int .i64 t884)) (fun _ hk => hk.2) (.bool t885)) (fun _ hk => hk.2) (.slice Ao15 t886.length co15)) (fun _ hk => hk.2) (.slice Ao16 t889.length co16)) (fun _ h_ => h_.1))) hb); have n2_ := Aside0.mk (blk_below (g := gb879) (o := .cells #[.int .i64 a0_0, .int .i64 a0_1, .string a0_2, .int .i64 a0_3, .bool a0_4, .slice A0_5 l0_5.length c0_5, .slice A0_6 l0_6.length c0_6] 29 (0, 0)) (by (with_reducible repeat (first | refine blk_drewN ?_ _ | refine blk_drew ?_ | refine blk_alloc ?_ _)); refine blk_far ?_ NB879_892.out _; (with_reducible repeat (first | refine blk_drewN ?_ _ | refine blk_drew ?_ | refine blk_alloc ?_ _)); refine blk_far ?_ NB879_892.out _; (with_reducible repeat (first | refine blk_drewN ?_ _ | refine blk_drew ?_ | refine blk_alloc ?_ _)); refine blk_far ?_ NB879_892.out _; (with_reducible repeat (first | refine blk_drewN ?_ _ | refine blk_drew ?_ | refine blk_alloc ?_ _)); refine blk_far ?_ NB879_892.out _; (with_reducible repeat (first | refine blk_drewN ?_ _ | refine blk_drew ?_ | refine blk_alloc ?_ _)); refine blk_far ?_ NB879_892.out _; (with_reducible repeat (first | refine blk_drewN ?_ _ | refine blk_drew ?_ | refine blk_alloc ?_ _)); refine blk_far ?_ NB879_892.out _; (with_reducible repeat (first | refine blk_drewN ?_ _ | refine blk_drew ?_ | refine blk_alloc ?_ _)); refine blk_far ?_ NB879_892.out _; (with_reducible repeat (first | refine blk_drewN ?_ _ | refine blk_drew ?_ | refine blk_alloc ?_ _)); exact BK879.out) hb); have n3_ := Aside0.mk (blk_below (g := gb880) (o := .cells #[.int .i64 0, .int .i64 0, .string (⟨#[]⟩ : ByteArray), .int .i64 0, .bool false, .slice none 0 0, .slice none 0 0] 29 (0, 0)) (by (with_reducible repeat (first | refine blk_drewN ?_ _ | refine blk_drew ?_ | refine blk_alloc ?_ _)); refine blk_far ?_ NB880_892.out _; (with_reducible repeat (first | refine blk_drewN ?_ _ | refine blk_drew ?_ | refine blk_alloc ?_ _)); refine blk_far ?_ NB880_892.out _; (with_reducible repeat (first | refine blk_drewN ?_ _ | refine blk_drew ?_ | refine blk_alloc ?_ _)); refine blk_far ?_ NB880_892.out _; (with_reducible repeat (first | refine blk_drewN ?_ _ | refine blk_drew ?_ | refine blk_alloc ?_ _)); refine blk_far ?_ NB880_892.out _; (with_reducible repeat (first | refine blk_drewN ?_ _ | refine blk_drew ?_ | refine blk_alloc ?_ _)); refine blk_far ?_ NB880_892.out _; (with_reducible repeat (first | refine blk_drewN ?_ _ | refine blk_drew ?_ | refine blk_alloc ?_ _)); refine blk_far ?_ NB880_892.out _; (with_reducible repeat (first | refine blk_drewN ?_ _ | refine blk_drew ?_ | refine blk_alloc ?_ _)); refine blk_far ?_ NB880_892.out _; (with_reducible repeat (first | refine blk_drewN ?_ _ | refine blk_drew ?_ | refine blk_alloc ?_ _)); exact BK880.out) hb); have n4_ := Aside0.mk (blk_below (g := gb892) (o := .cells #[.int .i64 t881, .int .i64 t882, .string t883, .int .i64 t884, .bool t885, .slice Ao15 t886.length co15, .slice Ao16 t889.length co16] 29 (0, 0)) (by (with_reducible repeat (first | refine blk_drewN ?_ _ | refine blk_drew ?_ | refine blk_alloc ?_ _)); refine blk_put (cs := #[.int .i64 t881, .int .i64 t882, .string t883, .int .i64 t884, .bool t885, .slice Ao15 t886.length co15, .slice none 0 0]) ?_ 6 _ rfl; (with_reducible repeat (first | refine blk_drewN ?_ _ | refine blk_drew ?_ | refine blk_alloc ?_ _)); refine blk_put (cs := #[.int .i64 t881, .int .i64 t882, .string t883, .int .i64 t884, .bool t885, .slice none 0 0, .slice none 0 0]) ?_ 5 _ rfl; (with_reducible repeat (first | refine blk_drewN ?_ _ | refine blk_drew ?_ | refine blk_alloc ?_ _)); refine blk_put (cs := #[.int .i64 t881, .int .i64 t882, .string t883, .int .i64 t884, .bool false, .slice none 0 0, .slice none 0 0]) ?_ 4 _ rfl; (with_reducible repeat (first | refine blk_drewN ?_ _ | refine blk_drew ?_ | refine blk_alloc ?_ _)); refine blk_put (cs := #[.int .i64 t881, .int .i64 t882, .string t883, .int .i64 0, .bool false, .slice none 0 0, .slice none 0 0]) ?_ 3 _ rfl; (with_reducible repeat (first | refine blk_drewN ?_ _ | refine blk_drew ?_ | refine blk_alloc ?_ _)); refine blk_put (cs := #[.int .i64 t881, .int .i64 t882, .string (⟨#[]⟩ : ByteArray), .int .i64 0, .bool false, .slice none 0 0, .slice none 0 0]) ?_ 2 _ rfl; (with_reducible repeat (first | refine blk_drewN ?_ _ | refine blk_drew ?_ | refine blk_alloc ?_ _)); refine blk_put (cs := #[.int .i64 t881, .int .i64 0, .string (⟨#[]⟩ : ByteArray), .int .i64 0, .bool false, .slice none 0 0, .slice none 0 0]) ?_ 1 _ rfl; (with_reducible repeat (first | refine blk_drewN ?_ _ | refine blk_drew ?_ | refine blk_alloc ?_ _)); refine blk_put (cs := #[.int .i64 0, .int .i64 0, .string (⟨#[]⟩ : ByteArray), .int .i64 0, .bool false, .slice none 0 0, .slice none 0 0]) ?_ 0 _ rfl; (with_reducible repeat (first | refine blk_drewN ?_ _ | refine blk_drew ?_ | refine blk_alloc ?_ _)); exact BK892.out) hb); have n5_ := Aside0.mk (below_step (by repeat (first | (with_reducible first | exact HB.out | apply below_alloc | apply pw_below_drewN | apply below_drew1 | refine below_set ?_ GE879.out | refine below_set ?_ GE880.out | refine below_set ?_ GE892.out) | exact HB.out)) hb); clear HO888 HO891 BK879 BK880 BK892 HB; have HO888 := n0_; have HO891 := n1_; have BK879 := n2_; have BK880 := n3_; have BK892 := n4_; have HB := n5_; clear n0_ n1_ n2_ n3_ n4_ n5_; (try clear hb); (try clear hb2); (try clear hk); (try clear hi)) | (go_at_call 75; (with_reducible refine (spec_l2Client.calls a1 t894 _ A19.out).mono ?_); rintro e w' ⟨rfl, ⟨nd, rfl⟩⟩))
      go_meet
      case rel => exact ⟨_, (!t894), (by first | rfl | (simp; done) | (simp [*]; done)), H', ⟨by first | omega | exact Nat.le_refl _⟩, ⟨pkR HO888.out⟩, ⟨pkR HO891.out⟩, ⟨pkK BK879.out⟩, ⟨pkK BK880.out⟩, ⟨pkK BK892.out⟩, ⟨by repeat (first | (with_reducible first | exact HB.out | apply below_alloc | apply pw_below_drewN | apply below_drew1 | refine below_set ?_ GE879.out | refine below_set ?_ GE880.out | refine below_set ?_ GE892.out) | exact HB.out)⟩⟩
    · replace c18 := Bool.eq_false_iff.mpr c18
      subst c18
      have H1 : (spec_Watch.j0 k a1 a2 true a0_0 a0_1 a0_2 a0_3 a0_4 l0_5 l0_6 t881 t882 t883 t884 t885 t886 t889) = some (r1, r2, r3, r4, r5, r6, r7, r8) := by rw [if_neg (show ¬ (false = true) by decide)] at H; exact H
      clear H
      have H := H1
      clear H1
      have H' := Aside0.mk H
      clear H
      have hnb24 := NB879_880.out
      have hnc24 := NB880_879.out
      have hnb25 := NB879_892.out
      have hnc25 := NB892_879.out
      have hcz26_0 : w11.cell? ⟨gb879, 0, none⟩ = some (.int .i64 a0_0) := (blk_cell BK879.out 0).trans rfl
      have hcz26_1 : w11.cell? ⟨gb879, 1, none⟩ = some (.int .i64 a0_1) := (blk_cell BK879.out 1).trans rfl
      have hcz26_2 : w11.cell? ⟨gb879, 2, none⟩ = some (.string a0_2) := (blk_cell BK879.out 2).trans rfl
      have hcz26_3 : w11.cell? ⟨gb879, 3, none⟩ = some (.int .i64 a0_3) := (blk_cell BK879.out 3).trans rfl
      have hcz26_4 : w11.cell? ⟨gb879, 4, none⟩ = some (.bool a0_4) := (blk_cell BK879.out 4).trans rfl
      have hcz26_5 : w11.cell? ⟨gb879, 5, none⟩ = some (.slice A0_5 l0_5.length c0_5) := (blk_cell BK879.out 5).trans rfl
      have hcz26_6 : w11.cell? ⟨gb879, 6, none⟩ = some (.slice A0_6 l0_6.length c0_6) := (blk_cell BK879.out 6).trans rfl
      have hfz26_0 := blk_frozen BK879.out 0
      have hfz26_1 := blk_frozen BK879.out 1
      have hfz26_2 := blk_frozen BK879.out 2
      have hfz26_3 := blk_frozen BK879.out 3
      have hfz26_4 := blk_frozen BK879.out 4
      have hfz26_5 := blk_frozen BK879.out 5
      have hfz26_6 := blk_frozen BK879.out 6
      go_wp2_with (first | ((with_reducible refine gate_callee (f := 22) rfl ?_); refine goesL_ (some 13) rfl rfl Try.func22 (by kernel_rfl) rfl #[.agg #[.int .i64 a0_0, .int .i64 a0_1, .string a0_2, .int .i64 a0_3, .bool a0_4, .slice A0_5 l0_5.length c0_5, .slice A0_6 l0_6.length c0_6]] rfl (by (try simp only [List.map_toArray, List.map_cons, List.map_nil]); first | done | rfl | (simp only [List.length_drop, List.length_take]; rfl) | (go_simp; done) | (simp [*]; done)) ?_; (with_reducible refine (spec_CellOk.calls k a0_0 a0_1 a0_2 a0_3 a0_4 _ _ l0_5 _ _ l0_6 false _ ?side1 ?side2 ?side3 ?side4 A17.out).mono ?_); (case side1 => exact Kd.C_below HR0_5.out (by repeat (first | (with_reducible first | exact HB.out | apply below_alloc | apply pw_below_drewN | apply below_drew1 | refine below_set ?_ GE879.out | refine below_set ?_ GE880.out | refine below_set ?_ GE892.out) | exact HB.out))); (case side2 => exact HC0_5.out); (case side3 => exact Kd.C_below HR0_6.out (by repeat (first | (with_reducible first | exact HB.out | apply below_alloc | apply pw_below_drewN | apply below_drew1 | refine below_set ?_ GE879.out | refine below_set ?_ GE880.out | refine below_set ?_ GE892.out) | exact HB.out))); (case side4 => exact HC0_6.out); rintro e w27 ⟨rfl, hb⟩; refine ⟨_, rfl, ?_⟩; have n0_ := Aside0.mk (Kd.R_below (by (with_reducible repeat (first | apply Kd.R_alloc | apply Kd.R_drewN | apply Kd.R_drew)); exact (Kd.R_mono (Kd.R_far (p := ⟨gb892, 6, none⟩) (Kd.R_far (p := ⟨gb892, 5, none⟩) (Kd.R_far (p := ⟨gb892, 4, none⟩) (Kd.R_far (p := ⟨gb892, 3, none⟩) (Kd.R_far (p := ⟨gb892, 2, none⟩) (Kd.R_far (p := ⟨gb892, 1, none⟩) (Kd.R_far (p := ⟨gb892, 0, none⟩) (Kd.R_types HO888.out BK892.out (by decide)) (fun _ hk => hk.2) (.int .i64 t881)) (fun _ hk => hk.2) (.int .i64 t882)) (fun _ hk => hk.2) (.string t883)) (fun _ hk => hk.2) (.int .i64 t884)) (fun _ hk => hk.2) (.bool t885)) (fun _ hk => hk.2) (.slice Ao15 t886.length co15)) (fun _ hk => hk.2) (.slice Ao16 t889.length co16)) (fun _ h_ => h_.1))) hb); have n1_ := Aside0.mk (Kd.R_below (by (with_reducible repeat (first | apply Kd.R_alloc | apply Kd.R_drewN | apply Kd.R_drew)); exact (Kd.R_mono (Kd.R_far (p := ⟨gb892, 6, none⟩) (Kd.R_far (p := ⟨gb892, 5, none⟩) (Kd.R_far (p := ⟨gb892, 4, none⟩) (Kd.R_far (p := ⟨gb892, 3, none⟩) (Kd.R_far (p := ⟨gb892, 2, none⟩) (Kd.R_far (p := ⟨gb892, 1, none⟩) (Kd.R_far (p := ⟨gb892, 0, none⟩) (Kd.R_types HO891.out BK892.out (by decide)) (fun _ hk => hk.2) (.int .i64 t881)) (fun _ hk => hk.2) (.int .i64 t882)) (fun _ hk => hk.2) (.string t883)) (fun _ hk => hk.2) (.int .i64 t884)) (fun _ hk => hk.2) (.bool t885)) (fun _ hk => hk.2) (.slice Ao15 t886.length co15)) (fun _ hk => hk.2) (.slice Ao16 t889.length co16)) (fun _ h_ => h_.1))) hb); have n2_ := Aside0.mk (blk_below (g := gb879) (o := .cells #[.int .i64 a0_0, .int .i64 a0_1, .string a0_2, .int .i64 a0_3, .bool a0_4, .slice A0_5 l0_5.length c0_5, .slice A0_6 l0_6.length c0_6] 29 (0, 0)) (by (with_reducible repeat (first | refine blk_drewN ?_ _ | refine blk_drew ?_ | refine blk_alloc ?_ _)); refine blk_far ?_ NB879_892.out _; (with_reducible repeat (first | refine blk_drewN ?_ _ | refine blk_drew ?_ | refine blk_alloc ?_ _)); refine blk_far ?_ NB879_892.out _; (with_reducible repeat (first | refine blk_drewN ?_ _ | refine blk_drew ?_ | refine blk_alloc ?_ _)); refine blk_far ?_ NB879_892.out _; (with_reducible repeat (first | refine blk_drewN ?_ _ | refine blk_drew ?_ | refine blk_alloc ?_ _)); refine blk_far ?_ NB879_892.out _; (with_reducible repeat (first | refine blk_drewN ?_ _ | refine blk_drew ?_ | refine blk_alloc ?_ _)); refine blk_far ?_ NB879_892.out _; (with_reducible repeat (first | refine blk_drewN ?_ _ | refine blk_drew ?_ | refine blk_alloc ?_ _)); refine blk_far ?_ NB879_892.out _; (with_reducible repeat (first | refine blk_drewN ?_ _ | refine blk_drew ?_ | refine blk_alloc ?_ _)); refine blk_far ?_ NB879_892.out _; (with_reducible repeat (first | refine blk_drewN ?_ _ | refine blk_drew ?_ | refine blk_alloc ?_ _)); exact BK879.out) hb); have n3_ := Aside0.mk (blk_below (g := gb880) (o := .cells #[.int .i64 0, .int .i64 0, .string (⟨#[]⟩ : ByteArray), .int .i64 0, .bool false, .slice none 0 0, .slice none 0 0] 29 (0, 0)) (by (with_reducible repeat (first | refine blk_drewN ?_ _ | refine blk_drew ?_ | refine blk_alloc ?_ _)); refine blk_far ?_ NB880_892.out _; (with_reducible repeat (first | refine blk_drewN ?_ _ | refine blk_drew ?_ | refine blk_alloc ?_ _)); refine blk_far ?_ NB880_892.out _; (with_reducible repeat (first | refine blk_drewN ?_ _ | refine blk_drew ?_ | refine blk_alloc ?_ _)); refine blk_far ?_ NB880_892.out _; (with_reducible repeat (first | refine blk_drewN ?_ _ | refine blk_drew ?_ | refine blk_alloc ?_ _)); refine blk_far ?_ NB880_892.out _; (with_reducible repeat (first | refine blk_drewN ?_ _ | refine blk_drew ?_ | refine blk_alloc ?_ _)); refine blk_far ?_ NB880_892.out _; (with_reducible repeat (first | refine blk_drewN ?_ _ | refine blk_drew ?_ | refine blk_alloc ?_ _)); refine blk_far ?_ NB880_892.out _; (with_reducible repeat (first | refine blk_drewN ?_ _ | refine blk_drew ?_ | refine blk_alloc ?_ _)); refine blk_far ?_ NB880_892.out _; (with_reducible repeat (first | refine blk_drewN ?_ _ | refine blk_drew ?_ | refine blk_alloc ?_ _)); exact BK880.out) hb); have n4_ := Aside0.mk (blk_below (g := gb892) (o := .cells #[.int .i64 t881, .int .i64 t882, .string t883, .int .i64 t884, .bool t885, .slice Ao15 t886.length co15, .slice Ao16 t889.length co16] 29 (0, 0)) (by (with_reducible repeat (first | refine blk_drewN ?_ _ | refine blk_drew ?_ | refine blk_alloc ?_ _)); refine blk_put (cs := #[.int .i64 t881, .int .i64 t882, .string t883, .int .i64 t884, .bool t885, .slice Ao15 t886.length co15, .slice none 0 0]) ?_ 6 _ rfl; (with_reducible repeat (first | refine blk_drewN ?_ _ | refine blk_drew ?_ | refine blk_alloc ?_ _)); refine blk_put (cs := #[.int .i64 t881, .int .i64 t882, .string t883, .int .i64 t884, .bool t885, .slice none 0 0, .slice none 0 0]) ?_ 5 _ rfl; (with_reducible repeat (first | refine blk_drewN ?_ _ | refine blk_drew ?_ | refine blk_alloc ?_ _)); refine blk_put (cs := #[.int .i64 t881, .int .i64 t882, .string t883, .int .i64 t884, .bool false, .slice none 0 0, .slice none 0 0]) ?_ 4 _ rfl; (with_reducible repeat (first | refine blk_drewN ?_ _ | refine blk_drew ?_ | refine blk_alloc ?_ _)); refine blk_put (cs := #[.int .i64 t881, .int .i64 t882, .string t883, .int .i64 0, .bool false, .slice none 0 0, .slice none 0 0]) ?_ 3 _ rfl; (with_reducible repeat (first | refine blk_drewN ?_ _ | refine blk_drew ?_ | refine blk_alloc ?_ _)); refine blk_put (cs := #[.int .i64 t881, .int .i64 t882, .string (⟨#[]⟩ : ByteArray), .int .i64 0, .bool false, .slice none 0 0, .slice none 0 0]) ?_ 2 _ rfl; (with_reducible repeat (first | refine blk_drewN ?_ _ | refine blk_drew ?_ | refine blk_alloc ?_ _)); refine blk_put (cs := #[.int .i64 t881, .int .i64 0, .string (⟨#[]⟩ : ByteArray), .int .i64 0, .bool false, .slice none 0 0, .slice none 0 0]) ?_ 1 _ rfl; (with_reducible repeat (first | refine blk_drewN ?_ _ | refine blk_drew ?_ | refine blk_alloc ?_ _)); refine blk_put (cs := #[.int .i64 0, .int .i64 0, .string (⟨#[]⟩ : ByteArray), .int .i64 0, .bool false, .slice none 0 0, .slice none 0 0]) ?_ 0 _ rfl; (with_reducible repeat (first | refine blk_drewN ?_ _ | refine blk_drew ?_ | refine blk_alloc ?_ _)); exact BK892.out) hb); have n5_ := Aside0.mk (below_step (by repeat (first | (with_reducible first | exact HB.out | apply below_alloc | apply pw_below_drewN | apply below_drew1 | refine below_set ?_ GE879.out | refine below_set ?_ GE880.out | refine below_set ?_ GE892.out) | exact HB.out)) hb); clear HO888 HO891 BK879 BK880 BK892 HB; have HO888 := n0_; have HO891 := n1_; have BK879 := n2_; have BK880 := n3_; have BK892 := n4_; have HB := n5_; clear n0_ n1_ n2_ n3_ n4_ n5_; (try clear hb); (try clear hb2); (try clear hk); (try clear hi)))
      go_meet
      case rel => exact ⟨_, (true), (by first | rfl | (simp; done) | (simp [*]; done)), H', ⟨by first | omega | exact Nat.le_refl _⟩, ⟨pkR HO888.out⟩, ⟨pkR HO891.out⟩, ⟨pkK BK879.out⟩, ⟨pkK BK880.out⟩, ⟨pkK BK892.out⟩, ⟨by repeat (first | (with_reducible first | exact HB.out | apply below_alloc | apply pw_below_drewN | apply below_drew1 | refine below_set ?_ GE879.out | refine below_set ?_ GE880.out | refine below_set ?_ GE892.out) | exact HB.out)⟩⟩
  case rest =>
    clear HC5
    try clear c1
    try clear c2
    try clear p2
    try clear c4
    try clear c7
    try clear c8
    try clear c12
    try clear c13
    try clear c18
    try clear c20
    try clear c21
    try clear c22
    try clear c24
    try clear c25
    try clear hcz14_0
    try clear hcz14_1
    try clear hcz14_2
    try clear hcz14_3
    try clear hcz14_4
    try clear hcz14_5
    try clear hcz14_6
    try clear hcz22_0
    try clear hcz22_1
    try clear hcz22_2
    try clear hcz22_3
    try clear hcz22_4
    try clear hcz22_5
    try clear hcz22_6
    try clear hcz26_0
    try clear hcz26_1
    try clear hcz26_2
    try clear hcz26_3
    try clear hcz26_4
    try clear hcz26_5
    try clear hcz26_6
    try clear hcz9_0
    try clear hcz9_1
    try clear hcz9_2
    try clear hcz9_3
    try clear hcz9_4
    try clear hcz9_5
    try clear hcz9_6
    try clear hfz14_0
    try clear hfz14_1
    try clear hfz14_2
    try clear hfz14_3
    try clear hfz14_4
    try clear hfz14_5
    try clear hfz14_6
    try clear hfz22_0
    try clear hfz22_1
    try clear hfz22_2
    try clear hfz22_3
    try clear hfz22_4
    try clear hfz22_5
    try clear hfz22_6
    try clear hfz26_0
    try clear hfz26_1
    try clear hfz26_2
    try clear hfz26_3
    try clear hfz26_4
    try clear hfz26_5
    try clear hfz26_6
    try clear hfz9_0
    try clear hfz9_1
    try clear hfz9_2
    try clear hfz9_3
    try clear hfz9_4
    try clear hfz9_5
    try clear hfz9_6
    obtain ⟨kq, x11_4, rfl, HA, HJ4, HO_893005, HO_893006, BK879, BK880, BK892, HB⟩ := hcut
    cases kq with
    | zero => exact absurd HA.out (by simp [spec_Watch.j0])
    | succ kj4 =>
      have H := HA.out
      clear HA
      simp only [spec_Watch.j0] at H
      by_cases c28 : x11_4 = true
      · subst c28
        have H1 : (some (t881, t882, t883, t884, t885, t886, t889, 1)) = some (r1, r2, r3, r4, r5, r6, r7, r8) := by rw [if_pos rfl] at H; exact H
        clear H
        have H := H1
        clear H1
        simp only [Option.some.injEq, Prod.mk.injEq] at H
        obtain ⟨rfl, rfl, rfl, rfl, rfl, rfl, rfl, rfl⟩ := H
        have hnb29 := NB892_879.out
        have hnc29 := NB879_892.out
        have hnb30 := NB892_880.out
        have hnc30 := NB880_892.out
        have hcz31_0 : wc.cell? ⟨gb892, 0, none⟩ = some (.int .i64 t881) := (blk_cell BK892.out 0).trans rfl
        have hcz31_1 : wc.cell? ⟨gb892, 1, none⟩ = some (.int .i64 t882) := (blk_cell BK892.out 1).trans rfl
        have hcz31_2 : wc.cell? ⟨gb892, 2, none⟩ = some (.string t883) := (blk_cell BK892.out 2).trans rfl
        have hcz31_3 : wc.cell? ⟨gb892, 3, none⟩ = some (.int .i64 t884) := (blk_cell BK892.out 3).trans rfl
        have hcz31_4 : wc.cell? ⟨gb892, 4, none⟩ = some (.bool t885) := (blk_cell BK892.out 4).trans rfl
        have hcz31_5 : wc.cell? ⟨gb892, 5, none⟩ = some (.slice Ao15 t886.length co15) := (blk_cell BK892.out 5).trans rfl
        have hcz31_6 : wc.cell? ⟨gb892, 6, none⟩ = some (.slice Ao16 t889.length co16) := (blk_cell BK892.out 6).trans rfl
        have hfz31_0 := blk_frozen BK892.out 0
        have hfz31_1 := blk_frozen BK892.out 1
        have hfz31_2 := blk_frozen BK892.out 2
        have hfz31_3 := blk_frozen BK892.out 3
        have hfz31_4 := blk_frozen BK892.out 4
        have hfz31_5 := blk_frozen BK892.out 5
        have hfz31_6 := blk_frozen BK892.out 6
        have hnb32 := NB880_879.out
        have hnc32 := NB879_880.out
        have hcz33_0 : wc.cell? ⟨gb880, 0, none⟩ = some (.int .i64 0) := (blk_cell BK880.out 0).trans rfl
        have hcz33_1 : wc.cell? ⟨gb880, 1, none⟩ = some (.int .i64 0) := (blk_cell BK880.out 1).trans rfl
        have hcz33_2 : wc.cell? ⟨gb880, 2, none⟩ = some (.string (⟨#[]⟩ : ByteArray)) := (blk_cell BK880.out 2).trans rfl
        have hcz33_3 : wc.cell? ⟨gb880, 3, none⟩ = some (.int .i64 0) := (blk_cell BK880.out 3).trans rfl
        have hcz33_4 : wc.cell? ⟨gb880, 4, none⟩ = some (.bool false) := (blk_cell BK880.out 4).trans rfl
        have hcz33_5 : wc.cell? ⟨gb880, 5, none⟩ = some (.slice none 0 0) := (blk_cell BK880.out 5).trans rfl
        have hcz33_6 : wc.cell? ⟨gb880, 6, none⟩ = some (.slice none 0 0) := (blk_cell BK880.out 6).trans rfl
        have hfz33_0 := blk_frozen BK880.out 0
        have hfz33_1 := blk_frozen BK880.out 1
        have hfz33_2 := blk_frozen BK880.out 2
        have hfz33_3 := blk_frozen BK880.out 3
        have hfz33_4 := blk_frozen BK880.out 4
        have hfz33_5 := blk_frozen BK880.out 5
        have hfz33_6 := blk_frozen BK880.out 6
        go_wp2
        refine bodyPost_ret (results_ct rfl _ _ gb880 29 #[.int .i64 t881, .int .i64 t882, .string t883, .int .i64 t884, .bool t885, .slice Ao15 t886.length co15, .slice Ao16 t889.length co16] (0, 0) _ rfl (by (with_reducible repeat (first | refine blk_drewN ?_ _ | refine blk_drew ?_ | refine blk_alloc ?_ _)); refine blk_put (cs := #[.int .i64 t881, .int .i64 t882, .string t883, .int .i64 t884, .bool t885, .slice Ao15 t886.length co15, .slice none 0 0]) ?_ 6 _ rfl; (with_reducible repeat (first | refine blk_drewN ?_ _ | refine blk_drew ?_ | refine blk_alloc ?_ _)); refine blk_put (cs := #[.int .i64 t881, .int .i64 t882, .string t883, .int .i64 t884, .bool t885, .slice none 0 0, .slice none 0 0]) ?_ 5 _ rfl; (with_reducible repeat (first | refine blk_drewN ?_ _ | refine blk_drew ?_ | refine blk_alloc ?_ _)); refine blk_put (cs := #[.int .i64 t881, .int .i64 t882, .string t883, .int .i64 t884, .bool false, .slice none 0 0, .slice none 0 0]) ?_ 4 _ rfl; (with_reducible repeat (first | refine blk_drewN ?_ _ | refine blk_drew ?_ | refine blk_alloc ?_ _)); refine blk_put (cs := #[.int .i64 t881, .int .i64 t882, .string t883, .int .i64 0, .bool false, .slice none 0 0, .slice none 0 0]) ?_ 3 _ rfl; (with_reducible repeat (first | refine blk_drewN ?_ _ | refine blk_drew ?_ | refine blk_alloc ?_ _)); refine blk_put (cs := #[.int .i64 t881, .int .i64 t882, .string (⟨#[]⟩ : ByteArray), .int .i64 0, .bool false, .slice none 0 0, .slice none 0 0]) ?_ 2 _ rfl; (with_reducible repeat (first | refine blk_drewN ?_ _ | refine blk_drew ?_ | refine blk_alloc ?_ _)); refine blk_put (cs := #[.int .i64 t881, .int .i64 0, .string (⟨#[]⟩ : ByteArray), .int .i64 0, .bool false, .slice none 0 0, .slice none 0 0]) ?_ 1 _ rfl; (with_reducible repeat (first | refine blk_drewN ?_ _ | refine blk_drew ?_ | refine blk_alloc ?_ _)); refine blk_put (cs := #[.int .i64 0, .int .i64 0, .string (⟨#[]⟩ : ByteArray), .int .i64 0, .bool false, .slice none 0 0, .slice none 0 0]) ?_ 0 _ rfl; (with_reducible repeat (first | refine blk_drewN ?_ _ | refine blk_drew ?_ | refine blk_alloc ?_ _)); exact BK880.out) Try.underlying29 rfl (by kernel_rfl)) rfl ?_
        exact ⟨_, _, by first | rfl | (simp [errW_none, errW_some] <;> rfl) | (simp [*, errW_none, errW_some] <;> rfl), by (with_reducible repeat (first | apply Kd.R_alloc | apply Kd.R_drewN | apply Kd.R_drew)); exact Kd.R_mono (Kd.R_far (p := ⟨gb880, 6, none⟩) (Kd.R_far (p := ⟨gb880, 5, none⟩) (Kd.R_far (p := ⟨gb880, 4, none⟩) (Kd.R_far (p := ⟨gb880, 3, none⟩) (Kd.R_far (p := ⟨gb880, 2, none⟩) (Kd.R_far (p := ⟨gb880, 1, none⟩) (Kd.R_far (p := ⟨gb880, 0, none⟩) (Kd.R_types HO_893005.out BK880.out (by decide)) (fun _ hk => hk.2) (.int .i64 t881)) (fun _ hk => hk.2) (.int .i64 t882)) (fun _ hk => hk.2) (.string t883)) (fun _ hk => hk.2) (.int .i64 t884)) (fun _ hk => hk.2) (.bool t885)) (fun _ hk => hk.2) (.slice Ao15 t886.length co15)) (fun _ hk => hk.2) (.slice Ao16 t889.length co16)) (fun _ hk => hk.1), by (with_reducible repeat (first | apply Kd.R_alloc | apply Kd.R_drewN | apply Kd.R_drew)); exact Kd.R_mono (Kd.R_far (p := ⟨gb880, 6, none⟩) (Kd.R_far (p := ⟨gb880, 5, none⟩) (Kd.R_far (p := ⟨gb880, 4, none⟩) (Kd.R_far (p := ⟨gb880, 3, none⟩) (Kd.R_far (p := ⟨gb880, 2, none⟩) (Kd.R_far (p := ⟨gb880, 1, none⟩) (Kd.R_far (p := ⟨gb880, 0, none⟩) (Kd.R_types HO_893006.out BK880.out (by decide)) (fun _ hk => hk.2) (.int .i64 t881)) (fun _ hk => hk.2) (.int .i64 t882)) (fun _ hk => hk.2) (.string t883)) (fun _ hk => hk.2) (.int .i64 t884)) (fun _ hk => hk.2) (.bool t885)) (fun _ hk => hk.2) (.slice Ao15 t886.length co15)) (fun _ hk => hk.2) (.slice Ao16 t889.length co16)) (fun _ hk => hk.1), by repeat (first | (with_reducible first | exact HB.out | apply below_alloc | apply pw_below_drewN | apply below_drew1 | refine below_set ?_ GE879.out | refine below_set ?_ GE880.out | refine below_set ?_ GE892.out) | exact HB.out)⟩
      · replace c28 := Bool.eq_false_iff.mpr c28
        subst c28
        have H1 : ((spec_l2Has.f kj4 l0_5 a1).bind fun t895 => (if t895 = true then (spec_Watch.j1 kj4 a1 a2 true a0_0 a0_1 a0_2 a0_3 a0_4 l0_5 l0_6 t881 t882 t883 t884 t885 t886 t889) else ((spec_l2Has.f kj4 l0_6 a1).bind fun t896 => (spec_Watch.j1 kj4 a1 a2 t896 a0_0 a0_1 a0_2 a0_3 a0_4 l0_5 l0_6 t881 t882 t883 t884 t885 t886 t889)))) = some (r1, r2, r3, r4, r5, r6, r7, r8) := by rw [if_neg (show ¬ (false = true) by decide)] at H; exact H
        clear H
        have H := H1
        clear H1
        have HC34 := Aside0.mk H
        clear H
        go_upto_region 4 with (fail)
        go_cut [21] (fun v21 wc => ∃ (kq : Nat) (x21_33 : Bool), v21 = .bool x21_33 ∧ Aside0 (spec_Watch.j1 kq a1 a2 x21_33 a0_0 a0_1 a0_2 a0_3 a0_4 l0_5 l0_6 t881 t882 t883 t884 t885 t886 t889 = some (r1, r2, r3, r4, r5, r6, r7, r8)) ∧ Aside0 (kq ≤ kj4) ∧ Aside0 (Kd.R (Kd.int .i64) 3 wc w.heap.size (fun k_ => some k_ ≠ ((.slice Ao16 t889.length co16) : Value).ownBlock) (.slice Ao15 t886.length co15) t886) ∧ Aside0 (Kd.R (Kd.int .i64) 3 wc w.heap.size (fun k_ => some k_ ≠ ((.slice Ao15 t886.length co15) : Value).ownBlock) (.slice Ao16 t889.length co16) t889) ∧ Aside0 (wc.heap[gb879]? = some (.cells #[.int .i64 a0_0, .int .i64 a0_1, .string a0_2, .int .i64 a0_3, .bool a0_4, (.slice A0_5 l0_5.length c0_5), (.slice A0_6 l0_6.length c0_6)] 29 (0, 0))) ∧ Aside0 (wc.heap[gb880]? = some (.cells #[.int .i64 0, .int .i64 0, .string (⟨#[]⟩ : ByteArray), .int .i64 0, .bool false, (.slice none 0 0), (.slice none 0 0)] 29 (0, 0))) ∧ Aside0 (wc.heap[gb892]? = some (.cells #[.int .i64 t881, .int .i64 t882, .string t883, .int .i64 t884, .bool t885, (.slice Ao15 t886.length co15), (.slice Ao16 t889.length co16)] 29 (0, 0))) ∧ Aside0 (Below w.heap.size w wc))
        case first =>
          have H := HC34.out
          clear HC34
          replace H := Option.bind_eq_some_iff.mp H
          obtain ⟨t895, A350, H⟩ := H
          replace H : (if t895 = true then (spec_Watch.j1 kj4 a1 a2 true a0_0 a0_1 a0_2 a0_3 a0_4 l0_5 l0_6 t881 t882 t883 t884 t885 t886 t889) else ((spec_l2Has.f kj4 l0_6 a1).bind fun t896 => (spec_Watch.j1 kj4 a1 a2 t896 a0_0 a0_1 a0_2 a0_3 a0_4 l0_5 l0_6 t881 t882 t883 t884 t885 t886 t889))) = some (r1, r2, r3, r4, r5, r6, r7, r8) := H
          have A35 := Aside0.mk A350
          clear A350
          by_cases c36 : t895 = true
          · subst c36
            have H1 : (spec_Watch.j1 kj4 a1 a2 true a0_0 a0_1 a0_2 a0_3 a0_4 l0_5 l0_6 t881 t882 t883 t884 t885 t886 t889) = some (r1, r2, r3, r4, r5, r6, r7, r8) := by rw [if_pos rfl] at H; exact H
            clear H
            have H := H1
            clear H1
            have H' := Aside0.mk H
            clear H
            have hnb37 := NB879_880.out
            have hnc37 := NB880_879.out
            have hnb38 := NB879_892.out
            have hnc38 := NB892_879.out
            have hcz39_0 : wc.cell? ⟨gb879, 0, none⟩ = some (.int .i64 a0_0) := (blk_cell BK879.out 0).trans rfl
            have hcz39_1 : wc.cell? ⟨gb879, 1, none⟩ = some (.int .i64 a0_1) := (blk_cell BK879.out 1).trans rfl
            have hcz39_2 : wc.cell? ⟨gb879, 2, none⟩ = some (.string a0_2) := (blk_cell BK879.out 2).trans rfl
            have hcz39_3 : wc.cell? ⟨gb879, 3, none⟩ = some (.int .i64 a0_3) := (blk_cell BK879.out 3).trans rfl
            have hcz39_4 : wc.cell? ⟨gb879, 4, none⟩ = some (.bool a0_4) := (blk_cell BK879.out 4).trans rfl
            have hcz39_5 : wc.cell? ⟨gb879, 5, none⟩ = some (.slice A0_5 l0_5.length c0_5) := (blk_cell BK879.out 5).trans rfl
            have hcz39_6 : wc.cell? ⟨gb879, 6, none⟩ = some (.slice A0_6 l0_6.length c0_6) := (blk_cell BK879.out 6).trans rfl
            have hfz39_0 := blk_frozen BK879.out 0
            have hfz39_1 := blk_frozen BK879.out 1
            have hfz39_2 := blk_frozen BK879.out 2
            have hfz39_3 := blk_frozen BK879.out 3
            have hfz39_4 := blk_frozen BK879.out 4
            have hfz39_5 := blk_frozen BK879.out 5
            have hfz39_6 := blk_frozen BK879.out 6
            go_wp2_with (first | ((with_reducible refine gate_callee (f := 76) rfl ?_); refine goesL_ (some 25) rfl rfl Try.func76 (by kernel_rfl) rfl #[.slice A0_5 l0_5.length c0_5, .int .i64 a1] rfl (by (try simp only [List.map_toArray, List.map_cons, List.map_nil]); first | done | rfl | (simp only [List.length_drop, List.length_take]; rfl) | (go_simp; done) | (simp [*]; done)) ?_; (with_reducible refine (spec_l2Has.calls kj4 _ _ l0_5 a1 true _ ?side1 ?side2 A35.out).mono ?_); (case side1 => exact pkC (Kd.C_below HR0_5.out HB.out)); (case side2 => exact HC0_5.out); rintro e w' ⟨rfl, ⟨nd, rfl⟩⟩; refine ⟨_, rfl, ?_⟩))
            go_meet
            case rel => exact ⟨_, (true), (by first | rfl | (simp; done) | (simp [*]; done)), H', ⟨by have := HJ4.out; first | omega | exact Nat.le_refl _⟩, ⟨pkR HO_893005.out⟩, ⟨pkR HO_893006.out⟩, ⟨pkK BK879.out⟩, ⟨pkK BK880.out⟩, ⟨pkK BK892.out⟩, ⟨by repeat (first | (with_reducible first | exact HB.out | apply below_alloc | apply pw_below_drewN | apply below_drew1 | refine below_set ?_ GE879.out | refine below_set ?_ GE880.out | refine below_set ?_ GE892.out) | exact HB.out)⟩⟩
          · replace c36 := Bool.eq_false_iff.mpr c36
            subst c36
            have H1 : ((spec_l2Has.f kj4 l0_6 a1).bind fun t896 => (spec_Watch.j1 kj4 a1 a2 t896 a0_0 a0_1 a0_2 a0_3 a0_4 l0_5 l0_6 t881 t882 t883 t884 t885 t886 t889)) = some (r1, r2, r3, r4, r5, r6, r7, r8) := by rw [if_neg (show ¬ (false = true) by decide)] at H; exact H
            clear H
            have H := H1
            clear H1
            replace H := Option.bind_eq_some_iff.mp H
            obtain ⟨t896, A400, H⟩ := H
            replace H : (spec_Watch.j1 kj4 a1 a2 t896 a0_0 a0_1 a0_2 a0_3 a0_4 l0_5 l0_6 t881 t882 t883 t884 t885 t886 t889) = some (r1, r2, r3, r4, r5, r6, r7, r8) := H
            have A40 := Aside0.mk A400
            clear A400
            have H' := Aside0.mk H
            clear H
            have hnb41 := NB879_880.out
            have hnc41 := NB880_879.out
            have hnb42 := NB879_892.out
            have hnc42 := NB892_879.out
            have hcz43_0 : wc.cell? ⟨gb879, 0, none⟩ = some (.int .i64 a0_0) := (blk_cell BK879.out 0).trans rfl
            have hcz43_1 : wc.cell? ⟨gb879, 1, none⟩ = some (.int .i64 a0_1) := (blk_cell BK879.out 1).trans rfl
            have hcz43_2 : wc.cell? ⟨gb879, 2, none⟩ = some (.string a0_2) := (blk_cell BK879.out 2).trans rfl
            have hcz43_3 : wc.cell? ⟨gb879, 3, none⟩ = some (.int .i64 a0_3) := (blk_cell BK879.out 3).trans rfl
            have hcz43_4 : wc.cell? ⟨gb879, 4, none⟩ = some (.bool a0_4) := (blk_cell BK879.out 4).trans rfl
            have hcz43_5 : wc.cell? ⟨gb879, 5, none⟩ = some (.slice A0_5 l0_5.length c0_5) := (blk_cell BK879.out 5).trans rfl
            have hcz43_6 : wc.cell? ⟨gb879, 6, none⟩ = some (.slice A0_6 l0_6.length c0_6) := (blk_cell BK879.out 6).trans rfl
            have hfz43_0 := blk_frozen BK879.out 0
            have hfz43_1 := blk_frozen BK879.out 1
            have hfz43_2 := blk_frozen BK879.out 2
            have hfz43_3 := blk_frozen BK879.out 3
            have hfz43_4 := blk_frozen BK879.out 4
            have hfz43_5 := blk_frozen BK879.out 5
            have hfz43_6 := blk_frozen BK879.out 6
            go_wp2_with (first | ((with_reducible refine gate_callee (f := 76) rfl ?_); refine goesL_ (some 25) rfl rfl Try.func76 (by kernel_rfl) rfl #[.slice A0_5 l0_5.length c0_5, .int .i64 a1] rfl (by (try simp only [List.map_toArray, List.map_cons, List.map_nil]); first | done | rfl | (simp only [List.length_drop, List.length_take]; rfl) | (go_simp; done) | (simp [*]; done)) ?_; (with_reducible refine (spec_l2Has.calls kj4 _ _ l0_5 a1 false _ ?side1 ?side2 A35.out).mono ?_); (case side1 => exact pkC (Kd.C_below HR0_5.out HB.out)); (case side2 => exact HC0_5.out); rintro e w' ⟨rfl, ⟨nd, rfl⟩⟩; refine ⟨_, rfl, ?_⟩) | (go_at_call 76; (with_reducible refine (spec_l2Has.calls kj4 _ _ l0_6 a1 t896 _ ?side1 ?side2 A40.out).mono ?_); (case side1 => repeat (first | exact (Kd.C_below HR0_6.out (by repeat (first | (with_reducible first | exact HB.out | apply below_alloc | apply pw_below_drewN | apply below_drew1 | refine below_set ?_ GE879.out | refine below_set ?_ GE880.out | refine below_set ?_ GE892.out) | exact HB.out))) | (with_reducible refine Kd.C_alloc ?_ _) | (with_reducible refine Kd.C_drewN ?_ _) | (with_reducible refine Kd.C_drew ?_))); (case side2 => exact HC0_6.out); rintro e w' ⟨rfl, ⟨nd, rfl⟩⟩))
            go_meet
            case rel => exact ⟨_, (t896), (by first | rfl | (simp; done) | (simp [*]; done)), H', ⟨by have := HJ4.out; first | omega | exact Nat.le_refl _⟩, ⟨pkR HO_893005.out⟩, ⟨pkR HO_893006.out⟩, ⟨pkK BK879.out⟩, ⟨pkK BK880.out⟩, ⟨pkK BK892.out⟩, ⟨by repeat (first | (with_reducible first | exact HB.out | apply below_alloc | apply pw_below_drewN | apply below_drew1 | refine below_set ?_ GE879.out | refine below_set ?_ GE880.out | refine below_set ?_ GE892.out) | exact HB.out)⟩⟩
        case rest =>
          clear HC34
          try clear c1
          try clear c2
          try clear p2
          try clear c3
          try clear c4
          try clear c7
          try clear c8
          try clear c12
          try clear c13
          try clear c18
          try clear c20
          try clear c21
          try clear c22
          try clear c24
          try clear c25
          try clear c28
          try clear c29
          try clear c30
          try clear c32
          try clear c36
          try clear c37
          try clear c38
          try clear c41
          try clear c42
          try clear hcz14_0
          try clear hcz14_1
          try clear hcz14_2
          try clear hcz14_3
          try clear hcz14_4
          try clear hcz14_5
          try clear hcz14_6
          try clear hcz22_0
          try clear hcz22_1
          try clear hcz22_2
          try clear hcz22_3
          try clear hcz22_4
          try clear hcz22_5
          try clear hcz22_6
          try clear hcz26_0
          try clear hcz26_1
          try clear hcz26_2
          try clear hcz26_3
          try clear hcz26_4
          try clear hcz26_5
          try clear hcz26_6
          try clear hcz31_0
          try clear hcz31_1
          try clear hcz31_2
          try clear hcz31_3
          try clear hcz31_4
          try clear hcz31_5
          try clear hcz31_6
          try clear hcz33_0
          try clear hcz33_1
          try clear hcz33_2
          try clear hcz33_3
          try clear hcz33_4
          try clear hcz33_5
          try clear hcz33_6
          try clear hcz39_0
          try clear hcz39_1
          try clear hcz39_2
          try clear hcz39_3
          try clear hcz39_4
          try clear hcz39_5
          try clear hcz39_6
          try clear hcz43_0
          try clear hcz43_1
          try clear hcz43_2
          try clear hcz43_3
          try clear hcz43_4
          try clear hcz43_5
          try clear hcz43_6
          try clear hcz9_0
          try clear hcz9_1
          try clear hcz9_2
          try clear hcz9_3
          try clear hcz9_4
          try clear hcz9_5
          try clear hcz9_6
          try clear hfz14_0
          try clear hfz14_1
          try clear hfz14_2
          try clear hfz14_3
          try clear hfz14_4
          try clear hfz14_5
          try clear hfz14_6
          try clear hfz22_0
          try clear hfz22_1
          try clear hfz22_2
          try clear hfz22_3
          try clear hfz22_4
          try clear hfz22_5
          try clear hfz22_6
          try clear hfz26_0
          try clear hfz26_1
          try clear hfz26_2
          try clear hfz26_3
          try clear hfz26_4
          try clear hfz26_5
          try clear hfz26_6
          try clear hfz31_0
          try clear hfz31_1
          try clear hfz31_2
          try clear hfz31_3
          try clear hfz31_4
          try clear hfz31_5
          try clear hfz31_6
          try clear hfz33_0
          try clear hfz33_1
          try clear hfz33_2
          try clear hfz33_3
          try clear hfz33_4
          try clear hfz33_5
          try clear hfz33_6
          try clear hfz39_0
          try clear hfz39_1
          try clear hfz39_2
          try clear hfz39_3
          try clear hfz39_4
          try clear hfz39_5
          try clear hfz39_6
          try clear hfz43_0
          try clear hfz43_1
          try clear hfz43_2
          try clear hfz43_3
          try clear hfz43_4
          try clear hfz43_5
          try clear hfz43_6
          try clear hfz9_0
          try clear hfz9_1
          try clear hfz9_2
          try clear hfz9_3
          try clear hfz9_4
          try clear hfz9_5
          try clear hfz9_6
          try clear p2
          obtain ⟨kq, x21_33, rfl, HA, HJ33, HO_893005, HO_893006, BK879, BK880, BK892, HB⟩ := hcut
          cases kq with
          | zero => exact absurd HA.out (by simp [spec_Watch.j1])
          | succ kj33 =>
            have H := HA.out
            clear HA
            simp only [spec_Watch.j1] at H
            by_cases c44 : x21_33 = true
            · subst c44
              have H1 : (some (t881, t882, t883, t884, t885, t886, t889, 5)) = some (r1, r2, r3, r4, r5, r6, r7, r8) := by rw [if_pos rfl] at H; exact H
              clear H
              have H := H1
              clear H1
              simp only [Option.some.injEq, Prod.mk.injEq] at H
              obtain ⟨rfl, rfl, rfl, rfl, rfl, rfl, rfl, rfl⟩ := H
              have hnb45 := NB892_879.out
              have hnc45 := NB879_892.out
              have hnb46 := NB892_880.out
              have hnc46 := NB880_892.out
              have hcz47_0 : wc.cell? ⟨gb892, 0, none⟩ = some (.int .i64 t881) := (blk_cell BK892.out 0).trans rfl
              have hcz47_1 : wc.cell? ⟨gb892, 1, none⟩ = some (.int .i64 t882) := (blk_cell BK892.out 1).trans rfl
              have hcz47_2 : wc.cell? ⟨gb892, 2, none⟩ = some (.string t883) := (blk_cell BK892.out 2).trans rfl
              have hcz47_3 : wc.cell? ⟨gb892, 3, none⟩ = some (.int .i64 t884) := (blk_cell BK892.out 3).trans rfl
              have hcz47_4 : wc.cell? ⟨gb892, 4, none⟩ = some (.bool t885) := (blk_cell BK892.out 4).trans rfl
              have hcz47_5 : wc.cell? ⟨gb892, 5, none⟩ = some (.slice Ao15 t886.length co15) := (blk_cell BK892.out 5).trans rfl
              have hcz47_6 : wc.cell? ⟨gb892, 6, none⟩ = some (.slice Ao16 t889.length co16) := (blk_cell BK892.out 6).trans rfl
              have hfz47_0 := blk_frozen BK892.out 0
              have hfz47_1 := blk_frozen BK892.out 1
              have hfz47_2 := blk_frozen BK892.out 2
              have hfz47_3 := blk_frozen BK892.out 3
              have hfz47_4 := blk_frozen BK892.out 4
              have hfz47_5 := blk_frozen BK892.out 5
              have hfz47_6 := blk_frozen BK892.out 6
              have hnb48 := NB880_879.out
              have hnc48 := NB879_880.out
              have hcz49_0 : wc.cell? ⟨gb880, 0, none⟩ = some (.int .i64 0) := (blk_cell BK880.out 0).trans rfl
              have hcz49_1 : wc.cell? ⟨gb880, 1, none⟩ = some (.int .i64 0) := (blk_cell BK880.out 1).trans rfl
              have hcz49_2 : wc.cell? ⟨gb880, 2, none⟩ = some (.string (⟨#[]⟩ : ByteArray)) := (blk_cell BK880.out 2).trans rfl
              have hcz49_3 : wc.cell? ⟨gb880, 3, none⟩ = some (.int .i64 0) := (blk_cell BK880.out 3).trans rfl
              have hcz49_4 : wc.cell? ⟨gb880, 4, none⟩ = some (.bool false) := (blk_cell BK880.out 4).trans rfl
              have hcz49_5 : wc.cell? ⟨gb880, 5, none⟩ = some (.slice none 0 0) := (blk_cell BK880.out 5).trans rfl
              have hcz49_6 : wc.cell? ⟨gb880, 6, none⟩ = some (.slice none 0 0) := (blk_cell BK880.out 6).trans rfl
              have hfz49_0 := blk_frozen BK880.out 0
              have hfz49_1 := blk_frozen BK880.out 1
              have hfz49_2 := blk_frozen BK880.out 2
              have hfz49_3 := blk_frozen BK880.out 3
              have hfz49_4 := blk_frozen BK880.out 4
              have hfz49_5 := blk_frozen BK880.out 5
              have hfz49_6 := blk_frozen BK880.out 6
              go_wp2
              refine bodyPost_ret (results_ct rfl _ _ gb880 29 #[.int .i64 t881, .int .i64 t882, .string t883, .int .i64 t884, .bool t885, .slice Ao15 t886.length co15, .slice Ao16 t889.length co16] (0, 0) _ rfl (by (with_reducible repeat (first | refine blk_drewN ?_ _ | refine blk_drew ?_ | refine blk_alloc ?_ _)); refine blk_put (cs := #[.int .i64 t881, .int .i64 t882, .string t883, .int .i64 t884, .bool t885, .slice Ao15 t886.length co15, .slice none 0 0]) ?_ 6 _ rfl; (with_reducible repeat (first | refine blk_drewN ?_ _ | refine blk_drew ?_ | refine blk_alloc ?_ _)); refine blk_put (cs := #[.int .i64 t881, .int .i64 t882, .string t883, .int .i64 t884, .bool t885, .slice none 0 0, .slice none 0 0]) ?_ 5 _ rfl; (with_reducible repeat (first | refine blk_drewN ?_ _ | refine blk_drew ?_ | refine blk_alloc ?_ _)); refine blk_put (cs := #[.int .i64 t881, .int .i64 t882, .string t883, .int .i64 t884, .bool false, .slice none 0 0, .slice none 0 0]) ?_ 4 _ rfl; (with_reducible repeat (first | refine blk_drewN ?_ _ | refine blk_drew ?_ | refine blk_alloc ?_ _)); refine blk_put (cs := #[.int .i64 t881, .int .i64 t882, .string t883, .int .i64 0, .bool false, .slice none 0 0, .slice none 0 0]) ?_ 3 _ rfl; (with_reducible repeat (first | refine blk_drewN ?_ _ | refine blk_drew ?_ | refine blk_alloc ?_ _)); refine blk_put (cs := #[.int .i64 t881, .int .i64 t882, .string (⟨#[]⟩ : ByteArray), .int .i64 0, .bool false, .slice none 0 0, .slice none 0 0]) ?_ 2 _ rfl; (with_reducible repeat (first | refine blk_drewN ?_ _ | refine blk_drew ?_ | refine blk_alloc ?_ _)); refine blk_put (cs := #[.int .i64 t881, .int .i64 0, .string (⟨#[]⟩ : ByteArray), .int .i64 0, .bool false, .slice none 0 0, .slice none 0 0]) ?_ 1 _ rfl; (with_reducible repeat (first | refine blk_drewN ?_ _ | refine blk_drew ?_ | refine blk_alloc ?_ _)); refine blk_put (cs := #[.int .i64 0, .int .i64 0, .string (⟨#[]⟩ : ByteArray), .int .i64 0, .bool false, .slice none 0 0, .slice none 0 0]) ?_ 0 _ rfl; (with_reducible repeat (first | refine blk_drewN ?_ _ | refine blk_drew ?_ | refine blk_alloc ?_ _)); exact BK880.out) Try.underlying29 rfl (by kernel_rfl)) rfl ?_
              exact ⟨_, _, by first | rfl | (simp [errW_none, errW_some] <;> rfl) | (simp [*, errW_none, errW_some] <;> rfl), by (with_reducible repeat (first | apply Kd.R_alloc | apply Kd.R_drewN | apply Kd.R_drew)); exact Kd.R_mono (Kd.R_far (p := ⟨gb880, 6, none⟩) (Kd.R_far (p := ⟨gb880, 5, none⟩) (Kd.R_far (p := ⟨gb880, 4, none⟩) (Kd.R_far (p := ⟨gb880, 3, none⟩) (Kd.R_far (p := ⟨gb880, 2, none⟩) (Kd.R_far (p := ⟨gb880, 1, none⟩) (Kd.R_far (p := ⟨gb880, 0, none⟩) (Kd.R_types HO_893005.out BK880.out (by decide)) (fun _ hk => hk.2) (.int .i64 t881)) (fun _ hk => hk.2) (.int .i64 t882)) (fun _ hk => hk.2) (.string t883)) (fun _ hk => hk.2) (.int .i64 t884)) (fun _ hk => hk.2) (.bool t885)) (fun _ hk => hk.2) (.slice Ao15 t886.length co15)) (fun _ hk => hk.2) (.slice Ao16 t889.length co16)) (fun _ hk => hk.1), by (with_reducible repeat (first | apply Kd.R_alloc | apply Kd.R_drewN | apply Kd.R_drew)); exact Kd.R_mono (Kd.R_far (p := ⟨gb880, 6, none⟩) (Kd.R_far (p := ⟨gb880, 5, none⟩) (Kd.R_far (p := ⟨gb880, 4, none⟩) (Kd.R_far (p := ⟨gb880, 3, none⟩) (Kd.R_far (p := ⟨gb880, 2, none⟩) (Kd.R_far (p := ⟨gb880, 1, none⟩) (Kd.R_far (p := ⟨gb880, 0, none⟩) (Kd.R_types HO_893006.out BK880.out (by decide)) (fun _ hk => hk.2) (.int .i64 t881)) (fun _ hk => hk.2) (.int .i64 t882)) (fun _ hk => hk.2) (.string t883)) (fun _ hk => hk.2) (.int .i64 t884)) (fun _ hk => hk.2) (.bool t885)) (fun _ hk => hk.2) (.slice Ao15 t886.length co15)) (fun _ hk => hk.2) (.slice Ao16 t889.length co16)) (fun _ hk => hk.1), by repeat (first | (with_reducible first | exact HB.out | apply below_alloc | apply pw_below_drewN | apply below_drew1 | refine below_set ?_ GE879.out | refine below_set ?_ GE880.out | refine below_set ?_ GE892.out) | exact HB.out)⟩
            · replace c44 := Bool.eq_false_iff.mpr c44
              subst c44
              have H1 : (if a0_3 > a2 then (some (t881, t882, t883, t884, t885, t886, t889, 0)) else (if a0_4 = true then (some (t881, t882, t883, t884, t885, t886, t889, 6)) else (if (l0_5.length : Int) ≥ 32 then (some (t881, t882, t883, t884, t885, t886, t889, 2)) else (if t886.length < 17592186044416 then (some (t881, t882, t883, t884, t885, (t886 ++ [a1]), t889, 4)) else (none))))) = some (r1, r2, r3, r4, r5, r6, r7, r8) := by rw [if_neg (show ¬ (false = true) by decide)] at H; exact H
              clear H
              have H := H1
              clear H1
              by_cases c50 : a0_3 > a2
              · rw [if_pos c50] at H
                have c50b0 : decide (a2 < a0_3) = true := decide_eq_true c50
                clear c50
                simp only [Option.some.injEq, Prod.mk.injEq] at H
                obtain ⟨rfl, rfl, rfl, rfl, rfl, rfl, rfl, rfl⟩ := H
                have hnb51 := NB879_880.out
                have hnc51 := NB880_879.out
                have hnb52 := NB879_892.out
                have hnc52 := NB892_879.out
                have hcz53_0 : wc.cell? ⟨gb879, 0, none⟩ = some (.int .i64 a0_0) := (blk_cell BK879.out 0).trans rfl
                have hcz53_1 : wc.cell? ⟨gb879, 1, none⟩ = some (.int .i64 a0_1) := (blk_cell BK879.out 1).trans rfl
                have hcz53_2 : wc.cell? ⟨gb879, 2, none⟩ = some (.string a0_2) := (blk_cell BK879.out 2).trans rfl
                have hcz53_3 : wc.cell? ⟨gb879, 3, none⟩ = some (.int .i64 a0_3) := (blk_cell BK879.out 3).trans rfl
                have hcz53_4 : wc.cell? ⟨gb879, 4, none⟩ = some (.bool a0_4) := (blk_cell BK879.out 4).trans rfl
                have hcz53_5 : wc.cell? ⟨gb879, 5, none⟩ = some (.slice A0_5 l0_5.length c0_5) := (blk_cell BK879.out 5).trans rfl
                have hcz53_6 : wc.cell? ⟨gb879, 6, none⟩ = some (.slice A0_6 l0_6.length c0_6) := (blk_cell BK879.out 6).trans rfl
                have hfz53_0 := blk_frozen BK879.out 0
                have hfz53_1 := blk_frozen BK879.out 1
                have hfz53_2 := blk_frozen BK879.out 2
                have hfz53_3 := blk_frozen BK879.out 3
                have hfz53_4 := blk_frozen BK879.out 4
                have hfz53_5 := blk_frozen BK879.out 5
                have hfz53_6 := blk_frozen BK879.out 6
                have hnb54 := NB892_880.out
                have hnc54 := NB880_892.out
                have hcz55_0 : wc.cell? ⟨gb892, 0, none⟩ = some (.int .i64 t881) := (blk_cell BK892.out 0).trans rfl
                have hcz55_1 : wc.cell? ⟨gb892, 1, none⟩ = some (.int .i64 t882) := (blk_cell BK892.out 1).trans rfl
                have hcz55_2 : wc.cell? ⟨gb892, 2, none⟩ = some (.string t883) := (blk_cell BK892.out 2).trans rfl
                have hcz55_3 : wc.cell? ⟨gb892, 3, none⟩ = some (.int .i64 t884) := (blk_cell BK892.out 3).trans rfl
                have hcz55_4 : wc.cell? ⟨gb892, 4, none⟩ = some (.bool t885) := (blk_cell BK892.out 4).trans rfl
                have hcz55_5 : wc.cell? ⟨gb892, 5, none⟩ = some (.slice Ao15 t886.length co15) := (blk_cell BK892.out 5).trans rfl
                have hcz55_6 : wc.cell? ⟨gb892, 6, none⟩ = some (.slice Ao16 t889.length co16) := (blk_cell BK892.out 6).trans rfl
                have hfz55_0 := blk_frozen BK892.out 0
                have hfz55_1 := blk_frozen BK892.out 1
                have hfz55_2 := blk_frozen BK892.out 2
                have hfz55_3 := blk_frozen BK892.out 3
                have hfz55_4 := blk_frozen BK892.out 4
                have hfz55_5 := blk_frozen BK892.out 5
                have hfz55_6 := blk_frozen BK892.out 6
                have hcz56_0 : wc.cell? ⟨gb880, 0, none⟩ = some (.int .i64 0) := (blk_cell BK880.out 0).trans rfl
                have hcz56_1 : wc.cell? ⟨gb880, 1, none⟩ = some (.int .i64 0) := (blk_cell BK880.out 1).trans rfl
                have hcz56_2 : wc.cell? ⟨gb880, 2, none⟩ = some (.string (⟨#[]⟩ : ByteArray)) := (blk_cell BK880.out 2).trans rfl
                have hcz56_3 : wc.cell? ⟨gb880, 3, none⟩ = some (.int .i64 0) := (blk_cell BK880.out 3).trans rfl
                have hcz56_4 : wc.cell? ⟨gb880, 4, none⟩ = some (.bool false) := (blk_cell BK880.out 4).trans rfl
                have hcz56_5 : wc.cell? ⟨gb880, 5, none⟩ = some (.slice none 0 0) := (blk_cell BK880.out 5).trans rfl
                have hcz56_6 : wc.cell? ⟨gb880, 6, none⟩ = some (.slice none 0 0) := (blk_cell BK880.out 6).trans rfl
                have hfz56_0 := blk_frozen BK880.out 0
                have hfz56_1 := blk_frozen BK880.out 1
                have hfz56_2 := blk_frozen BK880.out 2
                have hfz56_3 := blk_frozen BK880.out 3
                have hfz56_4 := blk_frozen BK880.out 4
                have hfz56_5 := blk_frozen BK880.out 5
                have hfz56_6 := blk_frozen BK880.out 6
                go_wp2
                refine bodyPost_ret (results_ct rfl _ _ gb880 29 #[.int .i64 t881, .int .i64 t882, .string t883, .int .i64 t884, .bool t885, .slice Ao15 t886.length co15, .slice Ao16 t889.length co16] (0, 0) _ rfl (by (with_reducible repeat (first | refine blk_drewN ?_ _ | refine blk_drew ?_ | refine blk_alloc ?_ _)); refine blk_put (cs := #[.int .i64 t881, .int .i64 t882, .string t883, .int .i64 t884, .bool t885, .slice Ao15 t886.length co15, .slice none 0 0]) ?_ 6 _ rfl; (with_reducible repeat (first | refine blk_drewN ?_ _ | refine blk_drew ?_ | refine blk_alloc ?_ _)); refine blk_put (cs := #[.int .i64 t881, .int .i64 t882, .string t883, .int .i64 t884, .bool t885, .slice none 0 0, .slice none 0 0]) ?_ 5 _ rfl; (with_reducible repeat (first | refine blk_drewN ?_ _ | refine blk_drew ?_ | refine blk_alloc ?_ _)); refine blk_put (cs := #[.int .i64 t881, .int .i64 t882, .string t883, .int .i64 t884, .bool false, .slice none 0 0, .slice none 0 0]) ?_ 4 _ rfl; (with_reducible repeat (first | refine blk_drewN ?_ _ | refine blk_drew ?_ | refine blk_alloc ?_ _)); refine blk_put (cs := #[.int .i64 t881, .int .i64 t882, .string t883, .int .i64 0, .bool false, .slice none 0 0, .slice none 0 0]) ?_ 3 _ rfl; (with_reducible repeat (first | refine blk_drewN ?_ _ | refine blk_drew ?_ | refine blk_alloc ?_ _)); refine blk_put (cs := #[.int .i64 t881, .int .i64 t882, .string (⟨#[]⟩ : ByteArray), .int .i64 0, .bool false, .slice none 0 0, .slice none 0 0]) ?_ 2 _ rfl; (with_reducible repeat (first | refine blk_drewN ?_ _ | refine blk_drew ?_ | refine blk_alloc ?_ _)); refine blk_put (cs := #[.int .i64 t881, .int .i64 0, .string (⟨#[]⟩ : ByteArray), .int .i64 0, .bool false, .slice none 0 0, .slice none 0 0]) ?_ 1 _ rfl; (with_reducible repeat (first | refine blk_drewN ?_ _ | refine blk_drew ?_ | refine blk_alloc ?_ _)); refine blk_put (cs := #[.int .i64 0, .int .i64 0, .string (⟨#[]⟩ : ByteArray), .int .i64 0, .bool false, .slice none 0 0, .slice none 0 0]) ?_ 0 _ rfl; (with_reducible repeat (first | refine blk_drewN ?_ _ | refine blk_drew ?_ | refine blk_alloc ?_ _)); exact BK880.out) Try.underlying29 rfl (by kernel_rfl)) rfl ?_
                exact ⟨_, _, by first | rfl | (simp [errW_none, errW_some] <;> rfl) | (simp [*, errW_none, errW_some] <;> rfl), by (with_reducible repeat (first | apply Kd.R_alloc | apply Kd.R_drewN | apply Kd.R_drew)); exact Kd.R_mono (Kd.R_far (p := ⟨gb880, 6, none⟩) (Kd.R_far (p := ⟨gb880, 5, none⟩) (Kd.R_far (p := ⟨gb880, 4, none⟩) (Kd.R_far (p := ⟨gb880, 3, none⟩) (Kd.R_far (p := ⟨gb880, 2, none⟩) (Kd.R_far (p := ⟨gb880, 1, none⟩) (Kd.R_far (p := ⟨gb880, 0, none⟩) (Kd.R_types HO_893005.out BK880.out (by decide)) (fun _ hk => hk.2) (.int .i64 t881)) (fun _ hk => hk.2) (.int .i64 t882)) (fun _ hk => hk.2) (.string t883)) (fun _ hk => hk.2) (.int .i64 t884)) (fun _ hk => hk.2) (.bool t885)) (fun _ hk => hk.2) (.slice Ao15 t886.length co15)) (fun _ hk => hk.2) (.slice Ao16 t889.length co16)) (fun _ hk => hk.1), by (with_reducible repeat (first | apply Kd.R_alloc | apply Kd.R_drewN | apply Kd.R_drew)); exact Kd.R_mono (Kd.R_far (p := ⟨gb880, 6, none⟩) (Kd.R_far (p := ⟨gb880, 5, none⟩) (Kd.R_far (p := ⟨gb880, 4, none⟩) (Kd.R_far (p := ⟨gb880, 3, none⟩) (Kd.R_far (p := ⟨gb880, 2, none⟩) (Kd.R_far (p := ⟨gb880, 1, none⟩) (Kd.R_far (p := ⟨gb880, 0, none⟩) (Kd.R_types HO_893006.out BK880.out (by decide)) (fun _ hk => hk.2) (.int .i64 t881)) (fun _ hk => hk.2) (.int .i64 t882)) (fun _ hk => hk.2) (.string t883)) (fun _ hk => hk.2) (.int .i64 t884)) (fun _ hk => hk.2) (.bool t885)) (fun _ hk => hk.2) (.slice Ao15 t886.length co15)) (fun _ hk => hk.2) (.slice Ao16 t889.length co16)) (fun _ hk => hk.1), by repeat (first | (with_reducible first | exact HB.out | apply below_alloc | apply pw_below_drewN | apply below_drew1 | refine below_set ?_ GE879.out | refine below_set ?_ GE880.out | refine below_set ?_ GE892.out) | exact HB.out)⟩
              · rw [if_neg c50] at H
                have c50b0 : decide (a2 < a0_3) = false := decide_eq_false c50
                clear c50
                by_cases c57 : a0_4 = true
                · subst c57
                  have H1 : (some (t881, t882, t883, t884, t885, t886, t889, 6)) = some (r1, r2, r3, r4, r5, r6, r7, r8) := by rw [if_pos rfl] at H; exact H
                  clear H
                  have H := H1
                  clear H1
                  simp only [Option.some.injEq, Prod.mk.injEq] at H
                  obtain ⟨rfl, rfl, rfl, rfl, rfl, rfl, rfl, rfl⟩ := H
                  have hnb58 := NB879_880.out
                  have hnc58 := NB880_879.out
                  have hnb59 := NB879_892.out
                  have hnc59 := NB892_879.out
                  have hcz60_0 : wc.cell? ⟨gb879, 0, none⟩ = some (.int .i64 a0_0) := (blk_cell BK879.out 0).trans rfl
                  have hcz60_1 : wc.cell? ⟨gb879, 1, none⟩ = some (.int .i64 a0_1) := (blk_cell BK879.out 1).trans rfl
                  have hcz60_2 : wc.cell? ⟨gb879, 2, none⟩ = some (.string a0_2) := (blk_cell BK879.out 2).trans rfl
                  have hcz60_3 : wc.cell? ⟨gb879, 3, none⟩ = some (.int .i64 a0_3) := (blk_cell BK879.out 3).trans rfl
                  have hcz60_4 : wc.cell? ⟨gb879, 4, none⟩ = some (.bool true) := (blk_cell BK879.out 4).trans rfl
                  have hcz60_5 : wc.cell? ⟨gb879, 5, none⟩ = some (.slice A0_5 l0_5.length c0_5) := (blk_cell BK879.out 5).trans rfl
                  have hcz60_6 : wc.cell? ⟨gb879, 6, none⟩ = some (.slice A0_6 l0_6.length c0_6) := (blk_cell BK879.out 6).trans rfl
                  have hfz60_0 := blk_frozen BK879.out 0
                  have hfz60_1 := blk_frozen BK879.out 1
                  have hfz60_2 := blk_frozen BK879.out 2
                  have hfz60_3 := blk_frozen BK879.out 3
                  have hfz60_4 := blk_frozen BK879.out 4
                  have hfz60_5 := blk_frozen BK879.out 5
                  have hfz60_6 := blk_frozen BK879.out 6
                  have hnb61 := NB892_880.out
                  have hnc61 := NB880_892.out
                  have hcz62_0 : wc.cell? ⟨gb892, 0, none⟩ = some (.int .i64 t881) := (blk_cell BK892.out 0).trans rfl
                  have hcz62_1 : wc.cell? ⟨gb892, 1, none⟩ = some (.int .i64 t882) := (blk_cell BK892.out 1).trans rfl
                  have hcz62_2 : wc.cell? ⟨gb892, 2, none⟩ = some (.string t883) := (blk_cell BK892.out 2).trans rfl
                  have hcz62_3 : wc.cell? ⟨gb892, 3, none⟩ = some (.int .i64 t884) := (blk_cell BK892.out 3).trans rfl
                  have hcz62_4 : wc.cell? ⟨gb892, 4, none⟩ = some (.bool t885) := (blk_cell BK892.out 4).trans rfl
                  have hcz62_5 : wc.cell? ⟨gb892, 5, none⟩ = some (.slice Ao15 t886.length co15) := (blk_cell BK892.out 5).trans rfl
                  have hcz62_6 : wc.cell? ⟨gb892, 6, none⟩ = some (.slice Ao16 t889.length co16) := (blk_cell BK892.out 6).trans rfl
                  have hfz62_0 := blk_frozen BK892.out 0
                  have hfz62_1 := blk_frozen BK892.out 1
                  have hfz62_2 := blk_frozen BK892.out 2
                  have hfz62_3 := blk_frozen BK892.out 3
                  have hfz62_4 := blk_frozen BK892.out 4
                  have hfz62_5 := blk_frozen BK892.out 5
                  have hfz62_6 := blk_frozen BK892.out 6
                  have hcz63_0 : wc.cell? ⟨gb880, 0, none⟩ = some (.int .i64 0) := (blk_cell BK880.out 0).trans rfl
                  have hcz63_1 : wc.cell? ⟨gb880, 1, none⟩ = some (.int .i64 0) := (blk_cell BK880.out 1).trans rfl
                  have hcz63_2 : wc.cell? ⟨gb880, 2, none⟩ = some (.string (⟨#[]⟩ : ByteArray)) := (blk_cell BK880.out 2).trans rfl
                  have hcz63_3 : wc.cell? ⟨gb880, 3, none⟩ = some (.int .i64 0) := (blk_cell BK880.out 3).trans rfl
                  have hcz63_4 : wc.cell? ⟨gb880, 4, none⟩ = some (.bool false) := (blk_cell BK880.out 4).trans rfl
                  have hcz63_5 : wc.cell? ⟨gb880, 5, none⟩ = some (.slice none 0 0) := (blk_cell BK880.out 5).trans rfl
                  have hcz63_6 : wc.cell? ⟨gb880, 6, none⟩ = some (.slice none 0 0) := (blk_cell BK880.out 6).trans rfl
                  have hfz63_0 := blk_frozen BK880.out 0
                  have hfz63_1 := blk_frozen BK880.out 1
                  have hfz63_2 := blk_frozen BK880.out 2
                  have hfz63_3 := blk_frozen BK880.out 3
                  have hfz63_4 := blk_frozen BK880.out 4
                  have hfz63_5 := blk_frozen BK880.out 5
                  have hfz63_6 := blk_frozen BK880.out 6
                  go_wp2
                  refine bodyPost_ret (results_ct rfl _ _ gb880 29 #[.int .i64 t881, .int .i64 t882, .string t883, .int .i64 t884, .bool t885, .slice Ao15 t886.length co15, .slice Ao16 t889.length co16] (0, 0) _ rfl (by (with_reducible repeat (first | refine blk_drewN ?_ _ | refine blk_drew ?_ | refine blk_alloc ?_ _)); refine blk_put (cs := #[.int .i64 t881, .int .i64 t882, .string t883, .int .i64 t884, .bool t885, .slice Ao15 t886.length co15, .slice none 0 0]) ?_ 6 _ rfl; (with_reducible repeat (first | refine blk_drewN ?_ _ | refine blk_drew ?_ | refine blk_alloc ?_ _)); refine blk_put (cs := #[.int .i64 t881, .int .i64 t882, .string t883, .int .i64 t884, .bool t885, .slice none 0 0, .slice none 0 0]) ?_ 5 _ rfl; (with_reducible repeat (first | refine blk_drewN ?_ _ | refine blk_drew ?_ | refine blk_alloc ?_ _)); refine blk_put (cs := #[.int .i64 t881, .int .i64 t882, .string t883, .int .i64 t884, .bool false, .slice none 0 0, .slice none 0 0]) ?_ 4 _ rfl; (with_reducible repeat (first | refine blk_drewN ?_ _ | refine blk_drew ?_ | refine blk_alloc ?_ _)); refine blk_put (cs := #[.int .i64 t881, .int .i64 t882, .string t883, .int .i64 0, .bool false, .slice none 0 0, .slice none 0 0]) ?_ 3 _ rfl; (with_reducible repeat (first | refine blk_drewN ?_ _ | refine blk_drew ?_ | refine blk_alloc ?_ _)); refine blk_put (cs := #[.int .i64 t881, .int .i64 t882, .string (⟨#[]⟩ : ByteArray), .int .i64 0, .bool false, .slice none 0 0, .slice none 0 0]) ?_ 2 _ rfl; (with_reducible repeat (first | refine blk_drewN ?_ _ | refine blk_drew ?_ | refine blk_alloc ?_ _)); refine blk_put (cs := #[.int .i64 t881, .int .i64 0, .string (⟨#[]⟩ : ByteArray), .int .i64 0, .bool false, .slice none 0 0, .slice none 0 0]) ?_ 1 _ rfl; (with_reducible repeat (first | refine blk_drewN ?_ _ | refine blk_drew ?_ | refine blk_alloc ?_ _)); refine blk_put (cs := #[.int .i64 0, .int .i64 0, .string (⟨#[]⟩ : ByteArray), .int .i64 0, .bool false, .slice none 0 0, .slice none 0 0]) ?_ 0 _ rfl; (with_reducible repeat (first | refine blk_drewN ?_ _ | refine blk_drew ?_ | refine blk_alloc ?_ _)); exact BK880.out) Try.underlying29 rfl (by kernel_rfl)) rfl ?_
                  exact ⟨_, _, by first | rfl | (simp [errW_none, errW_some] <;> rfl) | (simp [*, errW_none, errW_some] <;> rfl), by (with_reducible repeat (first | apply Kd.R_alloc | apply Kd.R_drewN | apply Kd.R_drew)); exact Kd.R_mono (Kd.R_far (p := ⟨gb880, 6, none⟩) (Kd.R_far (p := ⟨gb880, 5, none⟩) (Kd.R_far (p := ⟨gb880, 4, none⟩) (Kd.R_far (p := ⟨gb880, 3, none⟩) (Kd.R_far (p := ⟨gb880, 2, none⟩) (Kd.R_far (p := ⟨gb880, 1, none⟩) (Kd.R_far (p := ⟨gb880, 0, none⟩) (Kd.R_types HO_893005.out BK880.out (by decide)) (fun _ hk => hk.2) (.int .i64 t881)) (fun _ hk => hk.2) (.int .i64 t882)) (fun _ hk => hk.2) (.string t883)) (fun _ hk => hk.2) (.int .i64 t884)) (fun _ hk => hk.2) (.bool t885)) (fun _ hk => hk.2) (.slice Ao15 t886.length co15)) (fun _ hk => hk.2) (.slice Ao16 t889.length co16)) (fun _ hk => hk.1), by (with_reducible repeat (first | apply Kd.R_alloc | apply Kd.R_drewN | apply Kd.R_drew)); exact Kd.R_mono (Kd.R_far (p := ⟨gb880, 6, none⟩) (Kd.R_far (p := ⟨gb880, 5, none⟩) (Kd.R_far (p := ⟨gb880, 4, none⟩) (Kd.R_far (p := ⟨gb880, 3, none⟩) (Kd.R_far (p := ⟨gb880, 2, none⟩) (Kd.R_far (p := ⟨gb880, 1, none⟩) (Kd.R_far (p := ⟨gb880, 0, none⟩) (Kd.R_types HO_893006.out BK880.out (by decide)) (fun _ hk => hk.2) (.int .i64 t881)) (fun _ hk => hk.2) (.int .i64 t882)) (fun _ hk => hk.2) (.string t883)) (fun _ hk => hk.2) (.int .i64 t884)) (fun _ hk => hk.2) (.bool t885)) (fun _ hk => hk.2) (.slice Ao15 t886.length co15)) (fun _ hk => hk.2) (.slice Ao16 t889.length co16)) (fun _ hk => hk.1), by repeat (first | (with_reducible first | exact HB.out | apply below_alloc | apply pw_below_drewN | apply below_drew1 | refine below_set ?_ GE879.out | refine below_set ?_ GE880.out | refine below_set ?_ GE892.out) | exact HB.out)⟩
                · replace c57 := Bool.eq_false_iff.mpr c57
                  subst c57
                  have H1 : (if (l0_5.length : Int) ≥ 32 then (some (t881, t882, t883, t884, t885, t886, t889, 2)) else (if t886.length < 17592186044416 then (some (t881, t882, t883, t884, t885, (t886 ++ [a1]), t889, 4)) else (none))) = some (r1, r2, r3, r4, r5, r6, r7, r8) := by rw [if_neg (show ¬ (false = true) by decide)] at H; exact H
                  clear H
                  have H := H1
                  clear H1
                  by_cases c64 : (l0_5.length : Int) ≥ 32
                  · rw [if_pos c64] at H
                    have c64b0 : decide (32 ≤ (l0_5.length : Int)) = true := decide_eq_true c64
                    have c64b1 : decide (32 ≤ l0_5.length) = true := decide_eq_true (by omega)
                    clear c64
                    simp only [Option.some.injEq, Prod.mk.injEq] at H
                    obtain ⟨rfl, rfl, rfl, rfl, rfl, rfl, rfl, rfl⟩ := H
                    have hnb65 := NB879_880.out
                    have hnc65 := NB880_879.out
                    have hnb66 := NB879_892.out
                    have hnc66 := NB892_879.out
                    have hcz67_0 : wc.cell? ⟨gb879, 0, none⟩ = some (.int .i64 a0_0) := (blk_cell BK879.out 0).trans rfl
                    have hcz67_1 : wc.cell? ⟨gb879, 1, none⟩ = some (.int .i64 a0_1) := (blk_cell BK879.out 1).trans rfl
                    have hcz67_2 : wc.cell? ⟨gb879, 2, none⟩ = some (.string a0_2) := (blk_cell BK879.out 2).trans rfl
                    have hcz67_3 : wc.cell? ⟨gb879, 3, none⟩ = some (.int .i64 a0_3) := (blk_cell BK879.out 3).trans rfl
                    have hcz67_4 : wc.cell? ⟨gb879, 4, none⟩ = some (.bool false) := (blk_cell BK879.out 4).trans rfl
                    have hcz67_5 : wc.cell? ⟨gb879, 5, none⟩ = some (.slice A0_5 l0_5.length c0_5) := (blk_cell BK879.out 5).trans rfl
                    have hcz67_6 : wc.cell? ⟨gb879, 6, none⟩ = some (.slice A0_6 l0_6.length c0_6) := (blk_cell BK879.out 6).trans rfl
                    have hfz67_0 := blk_frozen BK879.out 0
                    have hfz67_1 := blk_frozen BK879.out 1
                    have hfz67_2 := blk_frozen BK879.out 2
                    have hfz67_3 := blk_frozen BK879.out 3
                    have hfz67_4 := blk_frozen BK879.out 4
                    have hfz67_5 := blk_frozen BK879.out 5
                    have hfz67_6 := blk_frozen BK879.out 6
                    have hnb68 := NB892_880.out
                    have hnc68 := NB880_892.out
                    have hcz69_0 : wc.cell? ⟨gb892, 0, none⟩ = some (.int .i64 t881) := (blk_cell BK892.out 0).trans rfl
                    have hcz69_1 : wc.cell? ⟨gb892, 1, none⟩ = some (.int .i64 t882) := (blk_cell BK892.out 1).trans rfl
                    have hcz69_2 : wc.cell? ⟨gb892, 2, none⟩ = some (.string t883) := (blk_cell BK892.out 2).trans rfl
                    have hcz69_3 : wc.cell? ⟨gb892, 3, none⟩ = some (.int .i64 t884) := (blk_cell BK892.out 3).trans rfl
                    have hcz69_4 : wc.cell? ⟨gb892, 4, none⟩ = some (.bool t885) := (blk_cell BK892.out 4).trans rfl
                    have hcz69_5 : wc.cell? ⟨gb892, 5, none⟩ = some (.slice Ao15 t886.length co15) := (blk_cell BK892.out 5).trans rfl
                    have hcz69_6 : wc.cell? ⟨gb892, 6, none⟩ = some (.slice Ao16 t889.length co16) := (blk_cell BK892.out 6).trans rfl
                    have hfz69_0 := blk_frozen BK892.out 0
                    have hfz69_1 := blk_frozen BK892.out 1
                    have hfz69_2 := blk_frozen BK892.out 2
                    have hfz69_3 := blk_frozen BK892.out 3
                    have hfz69_4 := blk_frozen BK892.out 4
                    have hfz69_5 := blk_frozen BK892.out 5
                    have hfz69_6 := blk_frozen BK892.out 6
                    have hcz70_0 : wc.cell? ⟨gb880, 0, none⟩ = some (.int .i64 0) := (blk_cell BK880.out 0).trans rfl
                    have hcz70_1 : wc.cell? ⟨gb880, 1, none⟩ = some (.int .i64 0) := (blk_cell BK880.out 1).trans rfl
                    have hcz70_2 : wc.cell? ⟨gb880, 2, none⟩ = some (.string (⟨#[]⟩ : ByteArray)) := (blk_cell BK880.out 2).trans rfl
                    have hcz70_3 : wc.cell? ⟨gb880, 3, none⟩ = some (.int .i64 0) := (blk_cell BK880.out 3).trans rfl
                    have hcz70_4 : wc.cell? ⟨gb880, 4, none⟩ = some (.bool false) := (blk_cell BK880.out 4).trans rfl
                    have hcz70_5 : wc.cell? ⟨gb880, 5, none⟩ = some (.slice none 0 0) := (blk_cell BK880.out 5).trans rfl
                    have hcz70_6 : wc.cell? ⟨gb880, 6, none⟩ = some (.slice none 0 0) := (blk_cell BK880.out 6).trans rfl
                    have hfz70_0 := blk_frozen BK880.out 0
                    have hfz70_1 := blk_frozen BK880.out 1
                    have hfz70_2 := blk_frozen BK880.out 2
                    have hfz70_3 := blk_frozen BK880.out 3
                    have hfz70_4 := blk_frozen BK880.out 4
                    have hfz70_5 := blk_frozen BK880.out 5
                    have hfz70_6 := blk_frozen BK880.out 6
                    go_wp2
                    refine bodyPost_ret (results_ct rfl _ _ gb880 29 #[.int .i64 t881, .int .i64 t882, .string t883, .int .i64 t884, .bool t885, .slice Ao15 t886.length co15, .slice Ao16 t889.length co16] (0, 0) _ rfl (by (with_reducible repeat (first | refine blk_drewN ?_ _ | refine blk_drew ?_ | refine blk_alloc ?_ _)); refine blk_put (cs := #[.int .i64 t881, .int .i64 t882, .string t883, .int .i64 t884, .bool t885, .slice Ao15 t886.length co15, .slice none 0 0]) ?_ 6 _ rfl; (with_reducible repeat (first | refine blk_drewN ?_ _ | refine blk_drew ?_ | refine blk_alloc ?_ _)); refine blk_put (cs := #[.int .i64 t881, .int .i64 t882, .string t883, .int .i64 t884, .bool t885, .slice none 0 0, .slice none 0 0]) ?_ 5 _ rfl; (with_reducible repeat (first | refine blk_drewN ?_ _ | refine blk_drew ?_ | refine blk_alloc ?_ _)); refine blk_put (cs := #[.int .i64 t881, .int .i64 t882, .string t883, .int .i64 t884, .bool false, .slice none 0 0, .slice none 0 0]) ?_ 4 _ rfl; (with_reducible repeat (first | refine blk_drewN ?_ _ | refine blk_drew ?_ | refine blk_alloc ?_ _)); refine blk_put (cs := #[.int .i64 t881, .int .i64 t882, .string t883, .int .i64 0, .bool false, .slice none 0 0, .slice none 0 0]) ?_ 3 _ rfl; (with_reducible repeat (first | refine blk_drewN ?_ _ | refine blk_drew ?_ | refine blk_alloc ?_ _)); refine blk_put (cs := #[.int .i64 t881, .int .i64 t882, .string (⟨#[]⟩ : ByteArray), .int .i64 0, .bool false, .slice none 0 0, .slice none 0 0]) ?_ 2 _ rfl; (with_reducible repeat (first | refine blk_drewN ?_ _ | refine blk_drew ?_ | refine blk_alloc ?_ _)); refine blk_put (cs := #[.int .i64 t881, .int .i64 0, .string (⟨#[]⟩ : ByteArray), .int .i64 0, .bool false, .slice none 0 0, .slice none 0 0]) ?_ 1 _ rfl; (with_reducible repeat (first | refine blk_drewN ?_ _ | refine blk_drew ?_ | refine blk_alloc ?_ _)); refine blk_put (cs := #[.int .i64 0, .int .i64 0, .string (⟨#[]⟩ : ByteArray), .int .i64 0, .bool false, .slice none 0 0, .slice none 0 0]) ?_ 0 _ rfl; (with_reducible repeat (first | refine blk_drewN ?_ _ | refine blk_drew ?_ | refine blk_alloc ?_ _)); exact BK880.out) Try.underlying29 rfl (by kernel_rfl)) rfl ?_
                    exact ⟨_, _, by first | rfl | (simp [errW_none, errW_some] <;> rfl) | (simp [*, errW_none, errW_some] <;> rfl), by (with_reducible repeat (first | apply Kd.R_alloc | apply Kd.R_drewN | apply Kd.R_drew)); exact Kd.R_mono (Kd.R_far (p := ⟨gb880, 6, none⟩) (Kd.R_far (p := ⟨gb880, 5, none⟩) (Kd.R_far (p := ⟨gb880, 4, none⟩) (Kd.R_far (p := ⟨gb880, 3, none⟩) (Kd.R_far (p := ⟨gb880, 2, none⟩) (Kd.R_far (p := ⟨gb880, 1, none⟩) (Kd.R_far (p := ⟨gb880, 0, none⟩) (Kd.R_types HO_893005.out BK880.out (by decide)) (fun _ hk => hk.2) (.int .i64 t881)) (fun _ hk => hk.2) (.int .i64 t882)) (fun _ hk => hk.2) (.string t883)) (fun _ hk => hk.2) (.int .i64 t884)) (fun _ hk => hk.2) (.bool t885)) (fun _ hk => hk.2) (.slice Ao15 t886.length co15)) (fun _ hk => hk.2) (.slice Ao16 t889.length co16)) (fun _ hk => hk.1), by (with_reducible repeat (first | apply Kd.R_alloc | apply Kd.R_drewN | apply Kd.R_drew)); exact Kd.R_mono (Kd.R_far (p := ⟨gb880, 6, none⟩) (Kd.R_far (p := ⟨gb880, 5, none⟩) (Kd.R_far (p := ⟨gb880, 4, none⟩) (Kd.R_far (p := ⟨gb880, 3, none⟩) (Kd.R_far (p := ⟨gb880, 2, none⟩) (Kd.R_far (p := ⟨gb880, 1, none⟩) (Kd.R_far (p := ⟨gb880, 0, none⟩) (Kd.R_types HO_893006.out BK880.out (by decide)) (fun _ hk => hk.2) (.int .i64 t881)) (fun _ hk => hk.2) (.int .i64 t882)) (fun _ hk => hk.2) (.string t883)) (fun _ hk => hk.2) (.int .i64 t884)) (fun _ hk => hk.2) (.bool t885)) (fun _ hk => hk.2) (.slice Ao15 t886.length co15)) (fun _ hk => hk.2) (.slice Ao16 t889.length co16)) (fun _ hk => hk.1), by repeat (first | (with_reducible first | exact HB.out | apply below_alloc | apply pw_below_drewN | apply below_drew1 | refine below_set ?_ GE879.out | refine below_set ?_ GE880.out | refine below_set ?_ GE892.out) | exact HB.out)⟩
                  · rw [if_neg c64] at H
                    have c64b0 : decide (32 ≤ (l0_5.length : Int)) = false := decide_eq_false c64
                    have c64b1 : decide (32 ≤ l0_5.length) = false := decide_eq_false (by omega)
                    clear c64
                    by_cases c71 : t886.length < 17592186044416
                    · rw [if_pos c71] at H
                      have LMc71 := Aside0.mk c71
                      clear c71
                      obtain ⟨y897, hy897⟩ : ∃ y_ : List Int, y_ = (t886 ++ [a1]) := ⟨_, rfl⟩
                      replace H : (some (t881, t882, t883, t884, t885, y897, t889, 4)) = some (r1, r2, r3, r4, r5, r6, r7, r8) := by first | (rw [hy897]; with_reducible exact H) | (have H2_ := (Option.bind_some _ _).symm.trans H; rw [hy897]; with_reducible exact H2_) | (have H2_ := (Option.bind_some _ _).symm.trans H; with_reducible exact H2_) | with_reducible exact H | (rw [hy897]; exact H) | exact H
                      have Ny897 := Aside0.mk hy897
                      clear hy897
                      simp only [Option.some.injEq, Prod.mk.injEq] at H
                      obtain ⟨rfl, rfl, rfl, rfl, rfl, rfl, rfl, rfl⟩ := H
                      have hnb72 := NB879_880.out
                      have hnc72 := NB880_879.out
                      have hnb73 := NB879_892.out
                      have hnc73 := NB892_879.out
                      have hcz74_0 : wc.cell? ⟨gb879, 0, none⟩ = some (.int .i64 a0_0) := (blk_cell BK879.out 0).trans rfl
                      have hcz74_1 : wc.cell? ⟨gb879, 1, none⟩ = some (.int .i64 a0_1) := (blk_cell BK879.out 1).trans rfl
                      have hcz74_2 : wc.cell? ⟨gb879, 2, none⟩ = some (.string a0_2) := (blk_cell BK879.out 2).trans rfl
                      have hcz74_3 : wc.cell? ⟨gb879, 3, none⟩ = some (.int .i64 a0_3) := (blk_cell BK879.out 3).trans rfl
                      have hcz74_4 : wc.cell? ⟨gb879, 4, none⟩ = some (.bool false) := (blk_cell BK879.out 4).trans rfl
                      have hcz74_5 : wc.cell? ⟨gb879, 5, none⟩ = some (.slice A0_5 l0_5.length c0_5) := (blk_cell BK879.out 5).trans rfl
                      have hcz74_6 : wc.cell? ⟨gb879, 6, none⟩ = some (.slice A0_6 l0_6.length c0_6) := (blk_cell BK879.out 6).trans rfl
                      have hfz74_0 := blk_frozen BK879.out 0
                      have hfz74_1 := blk_frozen BK879.out 1
                      have hfz74_2 := blk_frozen BK879.out 2
                      have hfz74_3 := blk_frozen BK879.out 3
                      have hfz74_4 := blk_frozen BK879.out 4
                      have hfz74_5 := blk_frozen BK879.out 5
                      have hfz74_6 := blk_frozen BK879.out 6
                      have hnb75 := NB892_880.out
                      have hnc75 := NB880_892.out
                      have hcz76_0 : wc.cell? ⟨gb892, 0, none⟩ = some (.int .i64 t881) := (blk_cell BK892.out 0).trans rfl
                      have hcz76_1 : wc.cell? ⟨gb892, 1, none⟩ = some (.int .i64 t882) := (blk_cell BK892.out 1).trans rfl
                      have hcz76_2 : wc.cell? ⟨gb892, 2, none⟩ = some (.string t883) := (blk_cell BK892.out 2).trans rfl
                      have hcz76_3 : wc.cell? ⟨gb892, 3, none⟩ = some (.int .i64 t884) := (blk_cell BK892.out 3).trans rfl
                      have hcz76_4 : wc.cell? ⟨gb892, 4, none⟩ = some (.bool t885) := (blk_cell BK892.out 4).trans rfl
                      have hcz76_5 : wc.cell? ⟨gb892, 5, none⟩ = some (.slice Ao15 t886.length co15) := (blk_cell BK892.out 5).trans rfl
                      have hcz76_6 : wc.cell? ⟨gb892, 6, none⟩ = some (.slice Ao16 t889.length co16) := (blk_cell BK892.out 6).trans rfl
                      have hfz76_0 := blk_frozen BK892.out 0
                      have hfz76_1 := blk_frozen BK892.out 1
                      have hfz76_2 := blk_frozen BK892.out 2
                      have hfz76_3 := blk_frozen BK892.out 3
                      have hfz76_4 := blk_frozen BK892.out 4
                      have hfz76_5 := blk_frozen BK892.out 5
                      have hfz76_6 := blk_frozen BK892.out 6
                      go_wp2_with (first | ((with_reducible refine gate_builtin (b := .append) (xs := #[.tmp 50, .tmp 52]) rfl ?_); at_builtin; refine Kd.R_append (Kd.int .i64) (w0 := w) w.heap.size rfl (.tmp 50) (.tmp 52) 27 3 (.int .i64 0) 8 rfl Try.underlying27 info3 rfl (by decide) (by omega) (.slice Ao15 t886.length co15) t886 a1 [.int .i64 a1] (fun k_ => some k_ ≠ (.slice Ao16 t889.length co16 : Value).ownBlock) (fun _ => False) rfl rfl ?aP (fun _ hk => hk.elim) ?aF ?aO ?aB ?aS ?aL ?_; (case aP => exact rfl); (case aB => exact (by repeat (first | (with_reducible first | exact HB.out | apply below_alloc | apply pw_below_drewN | apply below_drew1 | refine below_set ?_ GE879.out | refine below_set ?_ GE880.out | refine below_set ?_ GE892.out) | exact HB.out))); (case aF => exact (fun k_ hk => Kd.fresh' (Kd.R_lt (pkR HO_893006.out)) k_ hk)); (case aO => exact (pkR HO_893005.out)); (case aS => exact (below_size (by repeat (first | (with_reducible first | exact HB.out | apply below_alloc | apply pw_below_drewN | apply below_drew1 | refine below_set ?_ GE879.out | refine below_set ?_ GE880.out | refine below_set ?_ GE892.out) | exact HB.out)))); (case aL => have := LMc71.out; omega); intro v898 w77 ho hb hg hat; rw [← Ny897.out] at ho; have n0_ := Aside0.mk (Kd.R_after (ok := (fun _ => True)) (by (with_reducible repeat (first | apply Kd.R_alloc | apply Kd.R_drewN | apply Kd.R_drew)); exact Kd.R_mono HO_893006.out (fun _ hk => ⟨trivial, hk⟩)) hg hat); have n1_ := Aside0.mk (blk_grown (g := gb879) (o := .cells #[.int .i64 a0_0, .int .i64 a0_1, .string a0_2, .int .i64 a0_3, .bool false, .slice A0_5 l0_5.length c0_5, .slice A0_6 l0_6.length c0_6] 29 (0, 0)) (pkK BK879.out) hg (Kd.R_ne HO_893005.out BK879.out (by decide))); have n2_ := Aside0.mk (blk_grown (g := gb880) (o := .cells #[.int .i64 0, .int .i64 0, .string (⟨#[]⟩ : ByteArray), .int .i64 0, .bool false, .slice none 0 0, .slice none 0 0] 29 (0, 0)) (pkK BK880.out) hg (Kd.R_ne HO_893005.out BK880.out (by decide))); have n3_ := Aside0.mk (blk_grown (g := gb892) (o := .cells #[.int .i64 t881, .int .i64 t882, .string t883, .int .i64 t884, .bool t885, .slice Ao15 t886.length co15, .slice Ao16 t889.length co16] 29 (0, 0)) (pkK BK892.out) hg (Kd.R_ne HO_893005.out BK892.out (by decide))); have n4_ := Aside0.mk (hb); have n5_ := Aside0.mk (ho); clear HO_893006 BK879 BK880 BK892 HB HO_893005; have HO_893006 := n0_; have BK879 := n1_; have BK880 := n2_; have BK892 := n3_; have HB := n4_; have HO899 := n5_; clear n0_ n1_ n2_ n3_ n4_ n5_; clear ho hb hg hat; obtain ⟨Ao78, co78, eo78⟩ := Kd.R_slice HO899.out; subst eo78; have hcz79_0 : w77.cell? ⟨gb892, 0, none⟩ = some (.int .i64 t881) := (blk_cell BK892.out 0).trans rfl; have hcz79_1 : w77.cell? ⟨gb892, 1, none⟩ = some (.int .i64 t882) := (blk_cell BK892.out 1).trans rfl; have hcz79_2 : w77.cell? ⟨gb892, 2, none⟩ = some (.string t883) := (blk_cell BK892.out 2).trans rfl; have hcz79_3 : w77.cell? ⟨gb892, 3, none⟩ = some (.int .i64 t884) := (blk_cell BK892.out 3).trans rfl; have hcz79_4 : w77.cell? ⟨gb892, 4, none⟩ = some (.bool t885) := (blk_cell BK892.out 4).trans rfl; have hcz79_5 : w77.cell? ⟨gb892, 5, none⟩ = some (.slice Ao15 t886.length co15) := (blk_cell BK892.out 5).trans rfl; have hcz79_6 : w77.cell? ⟨gb892, 6, none⟩ = some (.slice Ao16 t889.length co16) := (blk_cell BK892.out 6).trans rfl; have hfz79_0 := blk_frozen BK892.out 0; have hfz79_1 := blk_frozen BK892.out 1; have hfz79_2 := blk_frozen BK892.out 2; have hfz79_3 := blk_frozen BK892.out 3; have hfz79_4 := blk_frozen BK892.out 4; have hfz79_5 := blk_frozen BK892.out 5; have hfz79_6 := blk_frozen BK892.out 6; have hcz80_0 : w77.cell? ⟨gb880, 0, none⟩ = some (.int .i64 0) := (blk_cell BK880.out 0).trans rfl; have hcz80_1 : w77.cell? ⟨gb880, 1, none⟩ = some (.int .i64 0) := (blk_cell BK880.out 1).trans rfl; have hcz80_2 : w77.cell? ⟨gb880, 2, none⟩ = some (.string (⟨#[]⟩ : ByteArray)) := (blk_cell BK880.out 2).trans rfl; have hcz80_3 : w77.cell? ⟨gb880, 3, none⟩ = some (.int .i64 0) := (blk_cell BK880.out 3).trans rfl; have hcz80_4 : w77.cell? ⟨gb880, 4, none⟩ = some (.bool false) := (blk_cell BK880.out 4).trans rfl; have hcz80_5 : w77.cell? ⟨gb880, 5, none⟩ = some (.slice none 0 0) := (blk_cell BK880.out 5).trans rfl; have hcz80_6 : w77.cell? ⟨gb880, 6, none⟩ = some (.slice none 0 0) := (blk_cell BK880.out 6).trans rfl; have hfz80_0 := blk_frozen BK880.out 0; have hfz80_1 := blk_frozen BK880.out 1; have hfz80_2 := blk_frozen BK880.out 2; have hfz80_3 := blk_frozen BK880.out 3; have hfz80_4 := blk_frozen BK880.out 4; have hfz80_5 := blk_frozen BK880.out 5; have hfz80_6 := blk_frozen BK880.out 6))
                      refine bodyPost_ret (results_ct rfl _ _ gb880 29 #[.int .i64 t881, .int .i64 t882, .string t883, .int .i64 t884, .bool t885, .slice Ao78 y897.length co78, .slice Ao16 t889.length co16] (0, 0) _ rfl (by (with_reducible repeat (first | refine blk_drewN ?_ _ | refine blk_drew ?_ | refine blk_alloc ?_ _)); refine blk_put (cs := #[.int .i64 t881, .int .i64 t882, .string t883, .int .i64 t884, .bool t885, .slice Ao78 y897.length co78, .slice none 0 0]) ?_ 6 _ rfl; (with_reducible repeat (first | refine blk_drewN ?_ _ | refine blk_drew ?_ | refine blk_alloc ?_ _)); refine blk_put (cs := #[.int .i64 t881, .int .i64 t882, .string t883, .int .i64 t884, .bool t885, .slice none 0 0, .slice none 0 0]) ?_ 5 _ rfl; (with_reducible repeat (first | refine blk_drewN ?_ _ | refine blk_drew ?_ | refine blk_alloc ?_ _)); refine blk_put (cs := #[.int .i64 t881, .int .i64 t882, .string t883, .int .i64 t884, .bool false, .slice none 0 0, .slice none 0 0]) ?_ 4 _ rfl; (with_reducible repeat (first | refine blk_drewN ?_ _ | refine blk_drew ?_ | refine blk_alloc ?_ _)); refine blk_put (cs := #[.int .i64 t881, .int .i64 t882, .string t883, .int .i64 0, .bool false, .slice none 0 0, .slice none 0 0]) ?_ 3 _ rfl; (with_reducible repeat (first | refine blk_drewN ?_ _ | refine blk_drew ?_ | refine blk_alloc ?_ _)); refine blk_put (cs := #[.int .i64 t881, .int .i64 t882, .string (⟨#[]⟩ : ByteArray), .int .i64 0, .bool false, .slice none 0 0, .slice none 0 0]) ?_ 2 _ rfl; (with_reducible repeat (first | refine blk_drewN ?_ _ | refine blk_drew ?_ | refine blk_alloc ?_ _)); refine blk_put (cs := #[.int .i64 t881, .int .i64 0, .string (⟨#[]⟩ : ByteArray), .int .i64 0, .bool false, .slice none 0 0, .slice none 0 0]) ?_ 1 _ rfl; (with_reducible repeat (first | refine blk_drewN ?_ _ | refine blk_drew ?_ | refine blk_alloc ?_ _)); refine blk_put (cs := #[.int .i64 0, .int .i64 0, .string (⟨#[]⟩ : ByteArray), .int .i64 0, .bool false, .slice none 0 0, .slice none 0 0]) ?_ 0 _ rfl; (with_reducible repeat (first | refine blk_drewN ?_ _ | refine blk_drew ?_ | refine blk_alloc ?_ _)); refine blk_far ?_ NB880_892.out _; (with_reducible repeat (first | refine blk_drewN ?_ _ | refine blk_drew ?_ | refine blk_alloc ?_ _)); exact BK880.out) Try.underlying29 rfl (by kernel_rfl)) rfl ?_
                      exact ⟨_, _, by first | rfl | (simp [errW_none, errW_some] <;> rfl) | (simp [*, errW_none, errW_some] <;> rfl), by (with_reducible repeat (first | apply Kd.R_alloc | apply Kd.R_drewN | apply Kd.R_drew)); exact Kd.R_mono (Kd.R_far (p := ⟨gb880, 6, none⟩) (Kd.R_far (p := ⟨gb880, 5, none⟩) (Kd.R_far (p := ⟨gb880, 4, none⟩) (Kd.R_far (p := ⟨gb880, 3, none⟩) (Kd.R_far (p := ⟨gb880, 2, none⟩) (Kd.R_far (p := ⟨gb880, 1, none⟩) (Kd.R_far (p := ⟨gb880, 0, none⟩) (Kd.R_far (p := ⟨gb892, 5, none⟩) (Kd.R_types (Kd.R_types HO899.out BK892.out (by decide)) BK880.out (by decide)) (fun _ hk => hk.1.2) (.slice Ao78 y897.length co78)) (fun _ hk => hk.2) (.int .i64 t881)) (fun _ hk => hk.2) (.int .i64 t882)) (fun _ hk => hk.2) (.string t883)) (fun _ hk => hk.2) (.int .i64 t884)) (fun _ hk => hk.2) (.bool t885)) (fun _ hk => hk.2) (.slice Ao78 y897.length co78)) (fun _ hk => hk.2) (.slice Ao16 t889.length co16)) (fun _ hk => hk.1.1), by (with_reducible repeat (first | apply Kd.R_alloc | apply Kd.R_drewN | apply Kd.R_drew)); exact Kd.R_mono (Kd.R_far (p := ⟨gb880, 6, none⟩) (Kd.R_far (p := ⟨gb880, 5, none⟩) (Kd.R_far (p := ⟨gb880, 4, none⟩) (Kd.R_far (p := ⟨gb880, 3, none⟩) (Kd.R_far (p := ⟨gb880, 2, none⟩) (Kd.R_far (p := ⟨gb880, 1, none⟩) (Kd.R_far (p := ⟨gb880, 0, none⟩) (Kd.R_far (p := ⟨gb892, 5, none⟩) (Kd.R_types (Kd.R_types HO_893006.out BK892.out (by decide)) BK880.out (by decide)) (fun _ hk => hk.1.2) (.slice Ao78 y897.length co78)) (fun _ hk => hk.2) (.int .i64 t881)) (fun _ hk => hk.2) (.int .i64 t882)) (fun _ hk => hk.2) (.string t883)) (fun _ hk => hk.2) (.int .i64 t884)) (fun _ hk => hk.2) (.bool t885)) (fun _ hk => hk.2) (.slice Ao78 y897.length co78)) (fun _ hk => hk.2) (.slice Ao16 t889.length co16)) (fun _ hk => hk.1.1.2), by repeat (first | (with_reducible first | exact HB.out | apply below_alloc | apply pw_below_drewN | apply below_drew1 | refine below_set ?_ GE879.out | refine below_set ?_ GE880.out | refine below_set ?_ GE892.out) | exact HB.out)⟩
                    · rw [if_neg c71] at H
                      exact absurd H (by simp)
end Go.Proofs.Ytffcphplnilokaa.Z
