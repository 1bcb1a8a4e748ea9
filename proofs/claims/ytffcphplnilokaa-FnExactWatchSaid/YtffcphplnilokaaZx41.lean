/- The Go functions spec_Watch as Lean functions, each with a proof that its code comes to just these answers; conditions: those of each theorem. -/
import Derived.Test.YtffcphplnilokaaZx0
import Derived.Test.YtffcphplnilokaaZx17
import Derived.Test.YtffcphplnilokaaZx20
import Derived.Test.YtffcphplnilokaaZx40
namespace Go.Proofs.Ytffcphplnilokaa.Z
open Go.RowKit Go.Proofs.YtffcphplnilokaaW.PrintWords Go.Proofs.YtffcphplnilokaaW.PrintLast Go.Proofs.YtffcphplnilokaaW.PrintMore
attribute [local go_sem] max2_int min2_int max_two min_two max_three min_three max_four min_four   -- for this text's walks alone
set_option linter.unusedVariables false
set_option linter.unusedSimpArgs false
mutual
def spec_Watch.j0 : Nat → Int → Int → Bool → Int → Int → ByteArray → Int → Bool → List Int → List Int → Int → Int → ByteArray → Int → Bool → List Int → List Int → Option (Int × Int × ByteArray × Int × Bool × List Int × List Int × Int)
 | 0, _, _, _, _, _, _, _, _, _, _, _, _, _, _, _, _, _ => none
 | k + 1, x1, x2, x11, x1087000, x1087001, x1087002, x1087003, x1087004, x1087005, x1087006, x1100000, x1100001, x1100002, x1100003, x1100004, x1100005, x1100006 => if x11 = true then (some (x1100000, x1100001, x1100002, x1100003, x1100004, x1100005, x1100006, 1)) else ((spec_l2Has.f k x1087005 x1).bind fun t1102 => (if t1102 = true then (spec_Watch.j1 k x1 x2 true x1087000 x1087001 x1087002 x1087003 x1087004 x1087005 x1087006 x1100000 x1100001 x1100002 x1100003 x1100004 x1100005 x1100006) else ((spec_l2Has.f k x1087006 x1).bind fun t1103 => (spec_Watch.j1 k x1 x2 t1103 x1087000 x1087001 x1087002 x1087003 x1087004 x1087005 x1087006 x1100000 x1100001 x1100002 x1100003 x1100004 x1100005 x1100006))))
def spec_Watch.j1 : Nat → Int → Int → Bool → Int → Int → ByteArray → Int → Bool → List Int → List Int → Int → Int → ByteArray → Int → Bool → List Int → List Int → Option (Int × Int × ByteArray × Int × Bool × List Int × List Int × Int)
 | 0, _, _, _, _, _, _, _, _, _, _, _, _, _, _, _, _, _ => none
 | k + 1, x1, x2, x21, x1087000, x1087001, x1087002, x1087003, x1087004, x1087005, x1087006, x1100000, x1100001, x1100002, x1100003, x1100004, x1100005, x1100006 => if x21 = true then (some (x1100000, x1100001, x1100002, x1100003, x1100004, x1100005, x1100006, 5)) else (if x1087003 > x2 then (some (x1100000, x1100001, x1100002, x1100003, x1100004, x1100005, x1100006, 0)) else (if x1087004 = true then (some (x1100000, x1100001, x1100002, x1100003, x1100004, x1100005, x1100006, 6)) else (if (x1087005.length : Int) ≥ 32 then (some (x1100000, x1100001, x1100002, x1100003, x1100004, x1100005, x1100006, 2)) else (if x1100005.length < 17592186044416 then (some (x1100000, x1100001, x1100002, x1100003, x1100004, (x1100005 ++ [x1]), x1100006, 4)) else (none)))))
end
def spec_Watch.f (k : Nat) (a0_0 : Int) (a0_1 : Int) (a0_2 : ByteArray) (a0_3 : Int) (a0_4 : Bool) (l0_5 : List Int) (l0_6 : List Int) (a1 : Int) (a2 : Int) : Option (Int × Int × ByteArray × Int × Bool × List Int × List Int × Int) := (spec_l7Copy.f a0_0 a0_1 a0_2 a0_3 a0_4 l0_5 l0_6).bind fun bt1088 => ((spec_CellOk.f k a0_0 a0_1 a0_2 a0_3 a0_4 l0_5 l0_6).bind fun t1100 => (if t1100 = true then ((spec_l2Client.f a1).bind fun t1101 => (spec_Watch.j0 k a1 a2 (!t1101) a0_0 a0_1 a0_2 a0_3 a0_4 l0_5 l0_6 bt1088.1 bt1088.2.1 bt1088.2.2.1 bt1088.2.2.2.1 bt1088.2.2.2.2.1 bt1088.2.2.2.2.2.1 bt1088.2.2.2.2.2.2)) else (spec_Watch.j0 k a1 a2 true a0_0 a0_1 a0_2 a0_3 a0_4 l0_5 l0_6 bt1088.1 bt1088.2.1 bt1088.2.2.1 bt1088.2.2.2.1 bt1088.2.2.2.2.1 bt1088.2.2.2.2.2.1 bt1088.2.2.2.2.2.2)))
theorem spec_Watch.mono_l : ∀ k, (∀ y0 y1 y2 y3 y4 y5 y6 y7 y8 y9 y10 y11 y12 y13 y14 y15 y16, LeO (spec_Watch.j0 k y0 y1 y2 y3 y4 y5 y6 y7 y8 y9 y10 y11 y12 y13 y14 y15 y16) (spec_Watch.j0 (k + 1) y0 y1 y2 y3 y4 y5 y6 y7 y8 y9 y10 y11 y12 y13 y14 y15 y16)) ∧ (∀ y0 y1 y2 y3 y4 y5 y6 y7 y8 y9 y10 y11 y12 y13 y14 y15 y16, LeO (spec_Watch.j1 k y0 y1 y2 y3 y4 y5 y6 y7 y8 y9 y10 y11 y12 y13 y14 y15 y16) (spec_Watch.j1 (k + 1) y0 y1 y2 y3 y4 y5 y6 y7 y8 y9 y10 y11 y12 y13 y14 y15 y16))
 | 0 => ⟨fun _ _ _ _ _ _ _ _ _ _ _ _ _ _ _ _ _ r h => by simp [spec_Watch.j0] at h, fun _ _ _ _ _ _ _ _ _ _ _ _ _ _ _ _ _ r h => by simp [spec_Watch.j1] at h⟩
 | k + 1 => by
  obtain ⟨ih0, ih1⟩ := spec_Watch.mono_l k
  refine ⟨?_, ?_⟩
  ·intro y0 y1 y2 y3 y4 y5 y6 y7 y8 y9 y10 y11 y12 y13 y14 y15 y16
   unfold spec_Watch.j0
   repeat' first
   | (with_reducible exact ih0 _ _ _ _ _ _ _ _ _ _ _ _ _ _ _ _ _)
   | (with_reducible exact ih1 _ _ _ _ _ _ _ _ _ _ _ _ _ _ _ _ _)
   | (with_reducible exact spec_CellOk.mono _ _ _ _ _ _ _ _)
   | (with_reducible exact spec_l2Has.mono _ _ _)
   | (with_reducible exact LeO.refl _)
   | (with_reducible exact LeO.none _)
   | (with_reducible refine LeO.ite ?_ ?_)
   | (with_reducible refine LeO.bind ?_ (fun _ => ?_))
  ·intro y0 y1 y2 y3 y4 y5 y6 y7 y8 y9 y10 y11 y12 y13 y14 y15 y16
   unfold spec_Watch.j1
   repeat' first
   | (with_reducible exact ih0 _ _ _ _ _ _ _ _ _ _ _ _ _ _ _ _ _)
   | (with_reducible exact ih1 _ _ _ _ _ _ _ _ _ _ _ _ _ _ _ _ _)
   | (with_reducible exact spec_CellOk.mono _ _ _ _ _ _ _ _)
   | (with_reducible exact spec_l2Has.mono _ _ _)
   | (with_reducible exact LeO.refl _)
   | (with_reducible exact LeO.none _)
   | (with_reducible refine LeO.ite ?_ ?_)
   | (with_reducible refine LeO.bind ?_ (fun _ => ?_))
theorem spec_Watch.mono : ∀ a0 a1 a2 a3 a4 a5 a6 a7 a8 k, LeO (spec_Watch.f k a0 a1 a2 a3 a4 a5 a6 a7 a8) (spec_Watch.f (k + 1) a0 a1 a2 a3 a4 a5 a6 a7 a8) := by
 intro a0 a1 a2 a3 a4 a5 a6 a7 a8 k
 obtain ⟨ih0, ih1⟩ := spec_Watch.mono_l k
 unfold spec_Watch.f
 repeat' first
   | (with_reducible exact ih0 _ _ _ _ _ _ _ _ _ _ _ _ _ _ _ _ _)
   | (with_reducible exact ih1 _ _ _ _ _ _ _ _ _ _ _ _ _ _ _ _ _)
   | (with_reducible exact spec_CellOk.mono _ _ _ _ _ _ _ _)
   | (with_reducible exact spec_l2Has.mono _ _ _)
   | (with_reducible exact LeO.refl _)
   | (with_reducible exact LeO.none _)
   | (with_reducible refine LeO.ite ?_ ?_)
   | (with_reducible refine LeO.bind ?_ (fun _ => ?_))
set_option maxHeartbeats 8000000 in
set_option maxRecDepth 100000 in
theorem spec_Watch.calls (k : Nat) (a0_0 : Int) (a0_1 : Int) (a0_2 : ByteArray) (a0_3 : Int) (a0_4 : Bool) (A0_5 : Option Addr) (c0_5 : Nat) (l0_5 : List Int) (A0_6 : Option Addr) (c0_6 : Nat) (l0_6 : List Int) (a1 : Int) (a2 : Int) (r1 : Int) (r2 : Int) (r3 : ByteArray) (r4 : Int) (r5 : Bool) (r6 : List Int) (r7 : List Int) (r8 : Int) (w : World) (hr0_5 : Kd.C (Kd.int .i64) w A0_5 l0_5.length l0_5) (hc0_5 : l0_5.length ≤ c0_5) (hr0_6 : Kd.C (Kd.int .i64) w A0_6 l0_6.length l0_6) (hc0_6 : l0_6.length ≤ c0_6) (h : spec_Watch.f k a0_0 a0_1 a0_2 a0_3 a0_4 l0_5 l0_6 a1 a2 = some (r1, r2, r3, r4, r5, r6, r7, r8)) :
  Calls Try.prog 47 #[.agg #[.int .i64 a0_0, .int .i64 a0_1, .string a0_2, .int .i64 a0_3, .bool a0_4, .slice A0_5 l0_5.length c0_5, .slice A0_6 l0_6.length c0_6], .int .i64 a1, .int .i64 a2] w fun e w' => ∃ v5_ v6_ : Value, e = .returned (.tuple #[.agg #[.int .i64 r1, .int .i64 r2, .string r3, .int .i64 r4, .bool r5, v5_, v6_], .int .i64 r8]) ∧ Kd.R (Kd.int .i64) 3 w' w.heap.size (fun k_ => some k_ ≠ (v6_ : Value).ownBlock) v5_ r6 ∧ Kd.R (Kd.int .i64) 3 w' w.heap.size (fun k_ => some k_ ≠ (v5_ : Value).ownBlock) v6_ r7 ∧ Below w.heap.size w w' := by
 have hu29 := Try.underlying29
 have HR0_5 := am hr0_5
 have HC0_5 := am hc0_5
 clear hr0_5 hc0_5
 have HR0_6 := am hr0_6
 have HC0_6 := am hc0_6
 clear hr0_6 hc0_6
 have HB := am (Below.refl w.heap.size w)
 have H : ((spec_l7Copy.f a0_0 a0_1 a0_2 a0_3 a0_4 l0_5 l0_6).bind fun bt1088 => ((spec_CellOk.f k a0_0 a0_1 a0_2 a0_3 a0_4 l0_5 l0_6).bind fun t1100 => (if t1100 = true then ((spec_l2Client.f a1).bind fun t1101 => (spec_Watch.j0 k a1 a2 (!t1101) a0_0 a0_1 a0_2 a0_3 a0_4 l0_5 l0_6 bt1088.1 bt1088.2.1 bt1088.2.2.1 bt1088.2.2.2.1 bt1088.2.2.2.2.1 bt1088.2.2.2.2.2.1 bt1088.2.2.2.2.2.2)) else (spec_Watch.j0 k a1 a2 true a0_0 a0_1 a0_2 a0_3 a0_4 l0_5 l0_6 bt1088.1 bt1088.2.1 bt1088.2.2.1 bt1088.2.2.2.1 bt1088.2.2.2.2.1 bt1088.2.2.2.2.2.1 bt1088.2.2.2.2.2.2)))) = some (r1, r2, r3, r4, r5, r6, r7, r8) := h
 clear h
 replace H := Option.bind_eq_some_iff.mp H
 obtain ⟨⟨t1088, t1089, t1090, t1091, t1092, t1093, t1096⟩, A40, H⟩ := H
 replace H : ((spec_CellOk.f k a0_0 a0_1 a0_2 a0_3 a0_4 l0_5 l0_6).bind fun t1100 => (if t1100 = true then ((spec_l2Client.f a1).bind fun t1101 => (spec_Watch.j0 k a1 a2 (!t1101) a0_0 a0_1 a0_2 a0_3 a0_4 l0_5 l0_6 t1088 t1089 t1090 t1091 t1092 t1093 t1096)) else (spec_Watch.j0 k a1 a2 true a0_0 a0_1 a0_2 a0_3 a0_4 l0_5 l0_6 t1088 t1089 t1090 t1091 t1092 t1093 t1096))) = some (r1, r2, r3, r4, r5, r6, r7, r8) := H
 have A4 := am A40
 clear A40
 have HC5 := am H
 clear H
 go_enter Try.func47, Try.ntmps47
 go_upto_region 2 with (first | ((with_reducible refine gate_dst (N := 3) rfl ?_); refine box_event ?hg (N := 3) ?hd (cs := #[.int .i64 a0_0, .int .i64 a0_1, .string a0_2, .int .i64 a0_3, .bool a0_4, .slice A0_5 l0_5.length c0_5, .slice A0_6 l0_6.length c0_6]) (t := 29) ?hr ?_; (case hd => rfl); (case hg => rfl); (case hr => first | (go_simp; done) | (go_simp; rfl)); intro gb1086 hg w6 hbox hb; have BK1086 := am (hbox); have GW1086 := am ((by rw [hg]; exact (below_size (pkB HB.out)) : w.heap.size ≤ gb1086)); have GE1086 := am ((by rw [hg]; exact (below_size (pkB HB.out)) : w.heap.size ≤ gb1086)); replace HB := am (below_step (pkB HB.out) hb); clear hb hbox hg) | ((with_reducible refine gate_dst (N := 6) rfl ?_); refine box_event ?hg (N := 6) ?hd (cs := #[.int .i64 0, .int .i64 0, .string (⟨#[]⟩ : ByteArray), .int .i64 0, .bool false, .slice none 0 0, .slice none 0 0]) (t := 29) ?hr ?_; (case hd => rfl); (case hg => rfl); (case hr => first | (go_simp; done) | (go_simp; rfl)); intro gb1087 hg w7 hbox hb; have BK1087 := am (hbox); have GW1087 := am ((by rw [hg]; exact (below_size (pkW HB.out)) : w.heap.size ≤ gb1087)); have GE1087 := am ((by rw [hg]; exact (below_size (pkW HB.out)) : w.heap.size ≤ gb1087)); replace HB := am (below_step (pkW HB.out) hb); have NB1086_1087 := am ((by rw [hg]; exact Nat.ne_of_lt (blk_lt (g := gb1086) (o := .cells #[.int .i64 a0_0, .int .i64 a0_1, .string a0_2, .int .i64 a0_3, .bool a0_4, .slice A0_5 l0_5.length c0_5, .slice A0_6 l0_6.length c0_6] 29 (0, 0)) (pkK BK1086.out)) : gb1086 ≠ gb1087)); have NB1087_1086 := am ((by rw [hg]; exact Nat.ne_of_gt (blk_lt (g := gb1086) (o := .cells #[.int .i64 a0_0, .int .i64 a0_1, .string a0_2, .int .i64 a0_3, .bool a0_4, .slice A0_5 l0_5.length c0_5, .slice A0_6 l0_6.length c0_6] 29 (0, 0)) (pkK BK1086.out)) : gb1087 ≠ gb1086)); replace BK1086 := am (blk_below (pkK BK1086.out) hb); clear hb hbox hg; have hnb8 := NB1086_1087.out; have hnc8 := NB1087_1086.out; obtain ⟨hcz9_0, hcz9_1, hcz9_2, hcz9_3, hcz9_4, hcz9_5, hcz9_6, hfz9_0, hfz9_1, hfz9_2, hfz9_3, hfz9_4, hfz9_5, hfz9_6⟩ := bk7 BK1086.out) | ((with_reducible refine gate_callee (f := 79) rfl ?_); refine goesL_ (some 10) rfl rfl Try.func79 (by kernel_rfl) rfl #[.agg #[.int .i64 a0_0, .int .i64 a0_1, .string a0_2, .int .i64 a0_3, .bool a0_4, .slice A0_5 l0_5.length c0_5, .slice A0_6 l0_6.length c0_6]] rfl mpx ?_; (with_reducible refine (spec_l7Copy.calls a0_0 a0_1 a0_2 a0_3 a0_4 _ _ l0_5 _ _ l0_6 t1088 t1089 t1090 t1091 t1092 t1093 t1096 _ ?side1 ?side2 ?side3 ?side4 A4.out).mono ?_); (case side1 => exact pkC (Kd.C_below HR0_5.out HB.out)); (case side2 => exact HC0_5.out); (case side3 => exact pkC (Kd.C_below HR0_6.out HB.out)); (case side4 => exact HC0_6.out); rintro e w10 ⟨v1094, v1097, rfl, ho0, ho1, hb⟩; refine ⟨_, rfl, ?_⟩; have HO1095 := am (Kd.R_lower ho0 (below_size (pkW HB.out))); have HO1098 := am (Kd.R_lower ho1 (below_size (pkW HB.out))); replace BK1086 := am (blk_below (pkK BK1086.out) hb); replace BK1087 := am (blk_below (pkK BK1087.out) hb); replace HB := am (below_step (pkW HB.out) hb); (try clear hb ho0 ho1)) | ((with_reducible refine gate_dst (N := 8) rfl ?_); refine box_event ?hg (N := 8) ?hd (cs := #[.int .i64 0, .int .i64 0, .string (⟨#[]⟩ : ByteArray), .int .i64 0, .bool false, .slice none 0 0, .slice none 0 0]) (t := 29) ?hr ?_; (case hd => rfl); (case hg => rfl); (case hr => first | (go_simp; done) | (go_simp; rfl)); intro gb1099 hg w11 hbox hb; replace HO1095 := am (Kd.R_below (pkR HO1095.out) hb); replace HO1098 := am (Kd.R_below (pkR HO1098.out) hb); have BK1099 := am (hbox); have GW1099 := am ((by rw [hg]; exact (below_size (pkW HB.out)) : w.heap.size ≤ gb1099)); have GE1099 := am ((by rw [hg]; exact (below_size (pkW HB.out)) : w.heap.size ≤ gb1099)); replace HB := am (below_step (pkW HB.out) hb); have NB1086_1099 := am ((by rw [hg]; exact Nat.ne_of_lt (blk_lt (g := gb1086) (o := .cells #[.int .i64 a0_0, .int .i64 a0_1, .string a0_2, .int .i64 a0_3, .bool a0_4, .slice A0_5 l0_5.length c0_5, .slice A0_6 l0_6.length c0_6] 29 (0, 0)) (pkK BK1086.out)) : gb1086 ≠ gb1099)); have NB1099_1086 := am ((by rw [hg]; exact Nat.ne_of_gt (blk_lt (g := gb1086) (o := .cells #[.int .i64 a0_0, .int .i64 a0_1, .string a0_2, .int .i64 a0_3, .bool a0_4, .slice A0_5 l0_5.length c0_5, .slice A0_6 l0_6.length c0_6] 29 (0, 0)) (pkK BK1086.out)) : gb1099 ≠ gb1086)); replace BK1086 := am (blk_below (pkK BK1086.out) hb); have NB1087_1099 := am ((by rw [hg]; exact Nat.ne_of_lt (blk_lt (g := gb1087) (o := .cells #[.int .i64 0, .int .i64 0, .string (⟨#[]⟩ : ByteArray), .int .i64 0, .bool false, .slice none 0 0, .slice none 0 0] 29 (0, 0)) (pkK BK1087.out)) : gb1087 ≠ gb1099)); have NB1099_1087 := am ((by rw [hg]; exact Nat.ne_of_gt (blk_lt (g := gb1087) (o := .cells #[.int .i64 0, .int .i64 0, .string (⟨#[]⟩ : ByteArray), .int .i64 0, .bool false, .slice none 0 0, .slice none 0 0] 29 (0, 0)) (pkK BK1087.out)) : gb1099 ≠ gb1087)); replace BK1087 := am (blk_below (pkK BK1087.out) hb); clear hb hbox hg; have hnb12 := NB1099_1086.out; have hnc12 := NB1086_1099.out; have hnb13 := NB1099_1087.out; have hnc13 := NB1087_1099.out; obtain ⟨hcz14_0, hcz14_1, hcz14_2, hcz14_3, hcz14_4, hcz14_5, hcz14_6, hfz14_0, hfz14_1, hfz14_2, hfz14_3, hfz14_4, hfz14_5, hfz14_6⟩ := bk7 BK1099.out; obtain ⟨Ao15, co15, eo15⟩ := Kd.R_slice HO1095.out; subst eo15; obtain ⟨Ao16, co16, eo16⟩ := Kd.R_slice HO1098.out; subst eo16))
 (try simp only [Act.put, List.setIfInBounds_toArray, List.set_cons_zero, List.set_cons_succ])
 go_cut [11] (fun v11 wc => ∃ (kq : Nat) (x11_4 : Bool), v11 = .bool x11_4 ∧ Aside0 (spec_Watch.j0 kq a1 a2 x11_4 a0_0 a0_1 a0_2 a0_3 a0_4 l0_5 l0_6 t1088 t1089 t1090 t1091 t1092 t1093 t1096 = some (r1, r2, r3, r4, r5, r6, r7, r8)) ∧ Aside0 (kq ≤ k) ∧ Aside0 (Kd.R (Kd.int .i64) 3 wc w.heap.size (fun k_ => some k_ ≠ ((.slice Ao16 t1096.length co16) : Value).ownBlock) (.slice Ao15 t1093.length co15) t1093) ∧ Aside0 (Kd.R (Kd.int .i64) 3 wc w.heap.size (fun k_ => some k_ ≠ ((.slice Ao15 t1093.length co15) : Value).ownBlock) (.slice Ao16 t1096.length co16) t1096) ∧ Aside0 (wc.heap[gb1086]? = some (.cells #[.int .i64 a0_0, .int .i64 a0_1, .string a0_2, .int .i64 a0_3, .bool a0_4, (.slice A0_5 l0_5.length c0_5), (.slice A0_6 l0_6.length c0_6)] 29 (0, 0))) ∧ Aside0 (wc.heap[gb1087]? = some (.cells #[.int .i64 0, .int .i64 0, .string (⟨#[]⟩ : ByteArray), .int .i64 0, .bool false, (.slice none 0 0), (.slice none 0 0)] 29 (0, 0))) ∧ Aside0 (wc.heap[gb1099]? = some (.cells #[.int .i64 t1088, .int .i64 t1089, .string t1090, .int .i64 t1091, .bool t1092, (.slice Ao15 t1093.length co15), (.slice Ao16 t1096.length co16)] 29 (0, 0))) ∧ Aside0 (Below w.heap.size w wc))
 case first =>
  have H := HC5.out
  clear HC5
  replace H := Option.bind_eq_some_iff.mp H
  obtain ⟨t1100, A170, H⟩ := H
  replace H : (if t1100 = true then ((spec_l2Client.f a1).bind fun t1101 => (spec_Watch.j0 k a1 a2 (!t1101) a0_0 a0_1 a0_2 a0_3 a0_4 l0_5 l0_6 t1088 t1089 t1090 t1091 t1092 t1093 t1096)) else (spec_Watch.j0 k a1 a2 true a0_0 a0_1 a0_2 a0_3 a0_4 l0_5 l0_6 t1088 t1089 t1090 t1091 t1092 t1093 t1096)) = some (r1, r2, r3, r4, r5, r6, r7, r8) := H
  have A17 := am A170
  clear A170
  by_cases c18 : t1100 = true
  ·subst c18
   replace H : ((spec_l2Client.f a1).bind fun t1101 => (spec_Watch.j0 k a1 a2 (!t1101) a0_0 a0_1 a0_2 a0_3 a0_4 l0_5 l0_6 t1088 t1089 t1090 t1091 t1092 t1093 t1096)) = some (r1, r2, r3, r4, r5, r6, r7, r8) := by rw [if_pos rfl] at H; exact H
   replace H := Option.bind_eq_some_iff.mp H
   obtain ⟨t1101, A190, H⟩ := H
   replace H : (spec_Watch.j0 k a1 a2 (!t1101) a0_0 a0_1 a0_2 a0_3 a0_4 l0_5 l0_6 t1088 t1089 t1090 t1091 t1092 t1093 t1096) = some (r1, r2, r3, r4, r5, r6, r7, r8) := H
   have A19 := am A190
   clear A190
   have H' := am H
   clear H
   have hnb20 := NB1086_1087.out
   have hnc20 := NB1087_1086.out
   have hnb21 := NB1086_1099.out
   have hnc21 := NB1099_1086.out
   obtain ⟨hcz22_0, hcz22_1, hcz22_2, hcz22_3, hcz22_4, hcz22_5, hcz22_6, hfz22_0, hfz22_1, hfz22_2, hfz22_3, hfz22_4, hfz22_5, hfz22_6⟩ := bk7 BK1086.out
   go_wp2_with (first | ((with_reducible refine gate_callee (f := 22) rfl ?_); refine goesL_ (some 13) rfl rfl Try.func22 (by kernel_rfl) rfl #[.agg #[.int .i64 a0_0, .int .i64 a0_1, .string a0_2, .int .i64 a0_3, .bool a0_4, .slice A0_5 l0_5.length c0_5, .slice A0_6 l0_6.length c0_6]] rfl mpx ?_; (with_reducible refine (spec_CellOk.calls k a0_0 a0_1 a0_2 a0_3 a0_4 _ _ l0_5 _ _ l0_6 true _ ?side1 ?side2 ?side3 ?side4 A17.out).mono ?_); (case side1 => exact Kd.C_below HR0_5.out (pkW HB.out)); (case side2 => exact HC0_5.out); (case side3 => exact Kd.C_below HR0_6.out (pkW HB.out)); (case side4 => exact HC0_6.out); rintro e w23 ⟨rfl, hb⟩; refine ⟨_, rfl, ?_⟩; replace HO1095 := am (Kd.R_below (by (with_reducible repeat (first | apply Kd.R_alloc | apply Kd.R_drewN | apply Kd.R_drew)); exact (Kd.R_mono (Kd.R_far (p := ⟨gb1099, 6, none⟩) (Kd.R_far (p := ⟨gb1099, 5, none⟩) (Kd.R_far (p := ⟨gb1099, 4, none⟩) (Kd.R_far (p := ⟨gb1099, 3, none⟩) (Kd.R_far (p := ⟨gb1099, 2, none⟩) (Kd.R_far (p := ⟨gb1099, 1, none⟩) (Kd.R_far (p := ⟨gb1099, 0, none⟩) (Kd.R_types HO1095.out BK1099.out (by decide)) (fun _ hk => hk.2) (.int .i64 t1088)) (fun _ hk => hk.2) (.int .i64 t1089)) (fun _ hk => hk.2) (.string t1090)) (fun _ hk => hk.2) (.int .i64 t1091)) (fun _ hk => hk.2) (.bool t1092)) (fun _ hk => hk.2) (.slice Ao15 t1093.length co15)) (fun _ hk => hk.2) (.slice Ao16 t1096.length co16)) (fun _ h_ => h_.1))) hb); replace HO1098 := am (Kd.R_below (by (with_reducible repeat (first | apply Kd.R_alloc | apply Kd.R_drewN | apply Kd.R_drew)); exact (Kd.R_mono (Kd.R_far (p := ⟨gb1099, 6, none⟩) (Kd.R_far (p := ⟨gb1099, 5, none⟩) (Kd.R_far (p := ⟨gb1099, 4, none⟩) (Kd.R_far (p := ⟨gb1099, 3, none⟩) (Kd.R_far (p := ⟨gb1099, 2, none⟩) (Kd.R_far (p := ⟨gb1099, 1, none⟩) (Kd.R_far (p := ⟨gb1099, 0, none⟩) (Kd.R_types HO1098.out BK1099.out (by decide)) (fun _ hk => hk.2) (.int .i64 t1088)) (fun _ hk => hk.2) (.int .i64 t1089)) (fun _ hk => hk.2) (.string t1090)) (fun _ hk => hk.2) (.int .i64 t1091)) (fun _ hk => hk.2) (.bool t1092)) (fun _ hk => hk.2) (.slice Ao15 t1093.length co15)) (fun _ hk => hk.2) (.slice Ao16 t1096.length co16)) (fun _ h_ => h_.1))) hb); replace BK1086 := am (blk_below (g := gb1086) (o := .cells #[.int .i64 a0_0, .int .i64 a0_1, .string a0_2, .int .i64 a0_3, .bool a0_4, .slice A0_5 l0_5.length c0_5, .slice A0_6 l0_6.length c0_6] 29 (0, 0)) (by (with_reducible repeat (first | refine blk_drewN ?_ _ | refine blk_drew ?_ | refine blk_alloc ?_ _)); refine blk_far ?_ NB1086_1099.out _; (with_reducible repeat (first | refine blk_drewN ?_ _ | refine blk_drew ?_ | refine blk_alloc ?_ _)); refine blk_far ?_ NB1086_1099.out _; (with_reducible repeat (first | refine blk_drewN ?_ _ | refine blk_drew ?_ | refine blk_alloc ?_ _)); refine blk_far ?_ NB1086_1099.out _; (with_reducible repeat (first | refine blk_drewN ?_ _ | refine blk_drew ?_ | refine blk_alloc ?_ _)); refine blk_far ?_ NB1086_1099.out _; (with_reducible repeat (first | refine blk_drewN ?_ _ | refine blk_drew ?_ | refine blk_alloc ?_ _)); refine blk_far ?_ NB1086_1099.out _; (with_reducible repeat (first | refine blk_drewN ?_ _ | refine blk_drew ?_ | refine blk_alloc ?_ _)); refine blk_far ?_ NB1086_1099.out _; (with_reducible repeat (first | refine blk_drewN ?_ _ | refine blk_drew ?_ | refine blk_alloc ?_ _)); refine blk_far ?_ NB1086_1099.out _; exact pkK BK1086.out) hb); replace BK1087 := am (blk_below (g := gb1087) (o := .cells #[.int .i64 0, .int .i64 0, .string (⟨#[]⟩ : ByteArray), .int .i64 0, .bool false, .slice none 0 0, .slice none 0 0] 29 (0, 0)) (by (with_reducible repeat (first | refine blk_drewN ?_ _ | refine blk_drew ?_ | refine blk_alloc ?_ _)); refine blk_far ?_ NB1087_1099.out _; (with_reducible repeat (first | refine blk_drewN ?_ _ | refine blk_drew ?_ | refine blk_alloc ?_ _)); refine blk_far ?_ NB1087_1099.out _; (with_reducible repeat (first | refine blk_drewN ?_ _ | refine blk_drew ?_ | refine blk_alloc ?_ _)); refine blk_far ?_ NB1087_1099.out _; (with_reducible repeat (first | refine blk_drewN ?_ _ | refine blk_drew ?_ | refine blk_alloc ?_ _)); refine blk_far ?_ NB1087_1099.out _; (with_reducible repeat (first | refine blk_drewN ?_ _ | refine blk_drew ?_ | refine blk_alloc ?_ _)); refine blk_far ?_ NB1087_1099.out _; (with_reducible repeat (first | refine blk_drewN ?_ _ | refine blk_drew ?_ | refine blk_alloc ?_ _)); refine blk_far ?_ NB1087_1099.out _; (with_reducible repeat (first | refine blk_drewN ?_ _ | refine blk_drew ?_ | refine blk_alloc ?_ _)); refine blk_far ?_ NB1087_1099.out _; exact pkK BK1087.out) hb); replace BK1099 := am (blk_below (g := gb1099) (o := .cells #[.int .i64 t1088, .int .i64 t1089, .string t1090, .int .i64 t1091, .bool t1092, .slice Ao15 t1093.length co15, .slice Ao16 t1096.length co16] 29 (0, 0)) (by (with_reducible repeat (first | refine blk_drewN ?_ _ | refine blk_drew ?_ | refine blk_alloc ?_ _)); refine blk_put (cs := #[.int .i64 t1088, .int .i64 t1089, .string t1090, .int .i64 t1091, .bool t1092, .slice Ao15 t1093.length co15, .slice none 0 0]) ?_ 6 _ rfl; (with_reducible repeat (first | refine blk_drewN ?_ _ | refine blk_drew ?_ | refine blk_alloc ?_ _)); refine blk_put (cs := #[.int .i64 t1088, .int .i64 t1089, .string t1090, .int .i64 t1091, .bool t1092, .slice none 0 0, .slice none 0 0]) ?_ 5 _ rfl; (with_reducible repeat (first | refine blk_drewN ?_ _ | refine blk_drew ?_ | refine blk_alloc ?_ _)); refine blk_put (cs := #[.int .i64 t1088, .int .i64 t1089, .string t1090, .int .i64 t1091, .bool false, .slice none 0 0, .slice none 0 0]) ?_ 4 _ rfl; (with_reducible repeat (first | refine blk_drewN ?_ _ | refine blk_drew ?_ | refine blk_alloc ?_ _)); refine blk_put (cs := #[.int .i64 t1088, .int .i64 t1089, .string t1090, .int .i64 0, .bool false, .slice none 0 0, .slice none 0 0]) ?_ 3 _ rfl; (with_reducible repeat (first | refine blk_drewN ?_ _ | refine blk_drew ?_ | refine blk_alloc ?_ _)); refine blk_put (cs := #[.int .i64 t1088, .int .i64 t1089, .string (⟨#[]⟩ : ByteArray), .int .i64 0, .bool false, .slice none 0 0, .slice none 0 0]) ?_ 2 _ rfl; (with_reducible repeat (first | refine blk_drewN ?_ _ | refine blk_drew ?_ | refine blk_alloc ?_ _)); refine blk_put (cs := #[.int .i64 t1088, .int .i64 0, .string (⟨#[]⟩ : ByteArray), .int .i64 0, .bool false, .slice none 0 0, .slice none 0 0]) ?_ 1 _ rfl; (with_reducible repeat (first | refine blk_drewN ?_ _ | refine blk_drew ?_ | refine blk_alloc ?_ _)); refine blk_put (cs := #[.int .i64 0, .int .i64 0, .string (⟨#[]⟩ : ByteArray), .int .i64 0, .bool false, .slice none 0 0, .slice none 0 0]) ?_ 0 _ rfl; exact pkK BK1099.out) hb); replace HB := am (below_step (pkW HB.out) hb); (try clear hb)) | (go_at_call 75; (with_reducible refine (spec_l2Client.calls a1 t1101 _ A19.out).mono ?_); rintro e w' ⟨rfl, ⟨nd, rfl⟩⟩))
   go_meet
   case rel => exact ⟨_, (!t1101), rfx, H', ⟨by first | omega | exact Nat.le_refl _⟩, ⟨pkR HO1095.out⟩, ⟨pkR HO1098.out⟩, ⟨pkK BK1086.out⟩, ⟨pkK BK1087.out⟩, ⟨pkK BK1099.out⟩, ⟨pkW HB.out⟩⟩
  ·replace c18 := Bool.eq_false_iff.mpr c18
   subst c18
   replace H : (spec_Watch.j0 k a1 a2 true a0_0 a0_1 a0_2 a0_3 a0_4 l0_5 l0_6 t1088 t1089 t1090 t1091 t1092 t1093 t1096) = some (r1, r2, r3, r4, r5, r6, r7, r8) := by rw [if_neg (show ¬ (false = true) by decide)] at H; exact H
   have H' := am H
   clear H
   have hnb24 := NB1086_1087.out
   have hnc24 := NB1087_1086.out
   have hnb25 := NB1086_1099.out
   have hnc25 := NB1099_1086.out
   obtain ⟨hcz26_0, hcz26_1, hcz26_2, hcz26_3, hcz26_4, hcz26_5, hcz26_6, hfz26_0, hfz26_1, hfz26_2, hfz26_3, hfz26_4, hfz26_5, hfz26_6⟩ := bk7 BK1086.out
   go_wp2_with (first | ((with_reducible refine gate_callee (f := 22) rfl ?_); refine goesL_ (some 13) rfl rfl Try.func22 (by kernel_rfl) rfl #[.agg #[.int .i64 a0_0, .int .i64 a0_1, .string a0_2, .int .i64 a0_3, .bool a0_4, .slice A0_5 l0_5.length c0_5, .slice A0_6 l0_6.length c0_6]] rfl mpx ?_; (with_reducible refine (spec_CellOk.calls k a0_0 a0_1 a0_2 a0_3 a0_4 _ _ l0_5 _ _ l0_6 false _ ?side1 ?side2 ?side3 ?side4 A17.out).mono ?_); (case side1 => exact Kd.C_below HR0_5.out (pkW HB.out)); (case side2 => exact HC0_5.out); (case side3 => exact Kd.C_below HR0_6.out (pkW HB.out)); (case side4 => exact HC0_6.out); rintro e w27 ⟨rfl, hb⟩; refine ⟨_, rfl, ?_⟩; replace HO1095 := am (Kd.R_below (by (with_reducible repeat (first | apply Kd.R_alloc | apply Kd.R_drewN | apply Kd.R_drew)); exact (Kd.R_mono (Kd.R_far (p := ⟨gb1099, 6, none⟩) (Kd.R_far (p := ⟨gb1099, 5, none⟩) (Kd.R_far (p := ⟨gb1099, 4, none⟩) (Kd.R_far (p := ⟨gb1099, 3, none⟩) (Kd.R_far (p := ⟨gb1099, 2, none⟩) (Kd.R_far (p := ⟨gb1099, 1, none⟩) (Kd.R_far (p := ⟨gb1099, 0, none⟩) (Kd.R_types HO1095.out BK1099.out (by decide)) (fun _ hk => hk.2) (.int .i64 t1088)) (fun _ hk => hk.2) (.int .i64 t1089)) (fun _ hk => hk.2) (.string t1090)) (fun _ hk => hk.2) (.int .i64 t1091)) (fun _ hk => hk.2) (.bool t1092)) (fun _ hk => hk.2) (.slice Ao15 t1093.length co15)) (fun _ hk => hk.2) (.slice Ao16 t1096.length co16)) (fun _ h_ => h_.1))) hb); replace HO1098 := am (Kd.R_below (by (with_reducible repeat (first | apply Kd.R_alloc | apply Kd.R_drewN | apply Kd.R_drew)); exact (Kd.R_mono (Kd.R_far (p := ⟨gb1099, 6, none⟩) (Kd.R_far (p := ⟨gb1099, 5, none⟩) (Kd.R_far (p := ⟨gb1099, 4, none⟩) (Kd.R_far (p := ⟨gb1099, 3, none⟩) (Kd.R_far (p := ⟨gb1099, 2, none⟩) (Kd.R_far (p := ⟨gb1099, 1, none⟩) (Kd.R_far (p := ⟨gb1099, 0, none⟩) (Kd.R_types HO1098.out BK1099.out (by decide)) (fun _ hk => hk.2) (.int .i64 t1088)) (fun _ hk => hk.2) (.int .i64 t1089)) (fun _ hk => hk.2) (.string t1090)) (fun _ hk => hk.2) (.int .i64 t1091)) (fun _ hk => hk.2) (.bool t1092)) (fun _ hk => hk.2) (.slice Ao15 t1093.length co15)) (fun _ hk => hk.2) (.slice Ao16 t1096.length co16)) (fun _ h_ => h_.1))) hb); replace BK1086 := am (blk_below (g := gb1086) (o := .cells #[.int .i64 a0_0, .int .i64 a0_1, .string a0_2, .int .i64 a0_3, .bool a0_4, .slice A0_5 l0_5.length c0_5, .slice A0_6 l0_6.length c0_6] 29 (0, 0)) (by (with_reducible repeat (first | refine blk_drewN ?_ _ | refine blk_drew ?_ | refine blk_alloc ?_ _)); refine blk_far ?_ NB1086_1099.out _; (with_reducible repeat (first | refine blk_drewN ?_ _ | refine blk_drew ?_ | refine blk_alloc ?_ _)); refine blk_far ?_ NB1086_1099.out _; (with_reducible repeat (first | refine blk_drewN ?_ _ | refine blk_drew ?_ | refine blk_alloc ?_ _)); refine blk_far ?_ NB1086_1099.out _; (with_reducible repeat (first | refine blk_drewN ?_ _ | refine blk_drew ?_ | refine blk_alloc ?_ _)); refine blk_far ?_ NB1086_1099.out _; (with_reducible repeat (first | refine blk_drewN ?_ _ | refine blk_drew ?_ | refine blk_alloc ?_ _)); refine blk_far ?_ NB1086_1099.out _; (with_reducible repeat (first | refine blk_drewN ?_ _ | refine blk_drew ?_ | refine blk_alloc ?_ _)); refine blk_far ?_ NB1086_1099.out _; (with_reducible repeat (first | refine blk_drewN ?_ _ | refine blk_drew ?_ | refine blk_alloc ?_ _)); refine blk_far ?_ NB1086_1099.out _; exact pkK BK1086.out) hb); replace BK1087 := am (blk_below (g := gb1087) (o := .cells #[.int .i64 0, .int .i64 0, .string (⟨#[]⟩ : ByteArray), .int .i64 0, .bool false, .slice none 0 0, .slice none 0 0] 29 (0, 0)) (by (with_reducible repeat (first | refine blk_drewN ?_ _ | refine blk_drew ?_ | refine blk_alloc ?_ _)); refine blk_far ?_ NB1087_1099.out _; (with_reducible repeat (first | refine blk_drewN ?_ _ | refine blk_drew ?_ | refine blk_alloc ?_ _)); refine blk_far ?_ NB1087_1099.out _; (with_reducible repeat (first | refine blk_drewN ?_ _ | refine blk_drew ?_ | refine blk_alloc ?_ _)); refine blk_far ?_ NB1087_1099.out _; (with_reducible repeat (first | refine blk_drewN ?_ _ | refine blk_drew ?_ | refine blk_alloc ?_ _)); refine blk_far ?_ NB1087_1099.out _; (with_reducible repeat (first | refine blk_drewN ?_ _ | refine blk_drew ?_ | refine blk_alloc ?_ _)); refine blk_far ?_ NB1087_1099.out _; (with_reducible repeat (first | refine blk_drewN ?_ _ | refine blk_drew ?_ | refine blk_alloc ?_ _)); refine blk_far ?_ NB1087_1099.out _; (with_reducible repeat (first | refine blk_drewN ?_ _ | refine blk_drew ?_ | refine blk_alloc ?_ _)); refine blk_far ?_ NB1087_1099.out _; exact pkK BK1087.out) hb); replace BK1099 := am (blk_below (g := gb1099) (o := .cells #[.int .i64 t1088, .int .i64 t1089, .string t1090, .int .i64 t1091, .bool t1092, .slice Ao15 t1093.length co15, .slice Ao16 t1096.length co16] 29 (0, 0)) (by (with_reducible repeat (first | refine blk_drewN ?_ _ | refine blk_drew ?_ | refine blk_alloc ?_ _)); refine blk_put (cs := #[.int .i64 t1088, .int .i64 t1089, .string t1090, .int .i64 t1091, .bool t1092, .slice Ao15 t1093.length co15, .slice none 0 0]) ?_ 6 _ rfl; (with_reducible repeat (first | refine blk_drewN ?_ _ | refine blk_drew ?_ | refine blk_alloc ?_ _)); refine blk_put (cs := #[.int .i64 t1088, .int .i64 t1089, .string t1090, .int .i64 t1091, .bool t1092, .slice none 0 0, .slice none 0 0]) ?_ 5 _ rfl; (with_reducible repeat (first | refine blk_drewN ?_ _ | refine blk_drew ?_ | refine blk_alloc ?_ _)); refine blk_put (cs := #[.int .i64 t1088, .int .i64 t1089, .string t1090, .int .i64 t1091, .bool false, .slice none 0 0, .slice none 0 0]) ?_ 4 _ rfl; (with_reducible repeat (first | refine blk_drewN ?_ _ | refine blk_drew ?_ | refine blk_alloc ?_ _)); refine blk_put (cs := #[.int .i64 t1088, .int .i64 t1089, .string t1090, .int .i64 0, .bool false, .slice none 0 0, .slice none 0 0]) ?_ 3 _ rfl; (with_reducible repeat (first | refine blk_drewN ?_ _ | refine blk_drew ?_ | refine blk_alloc ?_ _)); refine blk_put (cs := #[.int .i64 t1088, .int .i64 t1089, .string (⟨#[]⟩ : ByteArray), .int .i64 0, .bool false, .slice none 0 0, .slice none 0 0]) ?_ 2 _ rfl; (with_reducible repeat (first | refine blk_drewN ?_ _ | refine blk_drew ?_ | refine blk_alloc ?_ _)); refine blk_put (cs := #[.int .i64 t1088, .int .i64 0, .string (⟨#[]⟩ : ByteArray), .int .i64 0, .bool false, .slice none 0 0, .slice none 0 0]) ?_ 1 _ rfl; (with_reducible repeat (first | refine blk_drewN ?_ _ | refine blk_drew ?_ | refine blk_alloc ?_ _)); refine blk_put (cs := #[.int .i64 0, .int .i64 0, .string (⟨#[]⟩ : ByteArray), .int .i64 0, .bool false, .slice none 0 0, .slice none 0 0]) ?_ 0 _ rfl; exact pkK BK1099.out) hb); replace HB := am (below_step (pkW HB.out) hb); (try clear hb)))
   go_meet
   case rel => exact ⟨_, (true), rfx, H', ⟨by first | omega | exact Nat.le_refl _⟩, ⟨pkR HO1095.out⟩, ⟨pkR HO1098.out⟩, ⟨pkK BK1086.out⟩, ⟨pkK BK1087.out⟩, ⟨pkK BK1099.out⟩, ⟨pkW HB.out⟩⟩
 case rest =>
  clear HC5
  try clear c1
  try clear c2
  try clear p2
  try clear c4
  try clear c7
  try clear c8
  try clear c12
  try clear c13
  try clear c18
  try clear c20
  try clear c21
  try clear c22
  try clear c24
  try clear c25
  try clear hcz14_0
  try clear hcz14_1
  try clear hcz14_2
  try clear hcz14_3
  try clear hcz14_4
  try clear hcz14_5
  try clear hcz14_6
  try clear hcz22_0
  try clear hcz22_1
  try clear hcz22_2
  try clear hcz22_3
  try clear hcz22_4
  try clear hcz22_5
  try clear hcz22_6
  try clear hcz26_0
  try clear hcz26_1
  try clear hcz26_2
  try clear hcz26_3
  try clear hcz26_4
  try clear hcz26_5
  try clear hcz26_6
  try clear hcz9_0
  try clear hcz9_1
  try clear hcz9_2
  try clear hcz9_3
  try clear hcz9_4
  try clear hcz9_5
  try clear hcz9_6
  try clear hfz14_0
  try clear hfz14_1
  try clear hfz14_2
  try clear hfz14_3
  try clear hfz14_4
  try clear hfz14_5
  try clear hfz14_6
  try clear hfz22_0
  try clear hfz22_1
  try clear hfz22_2
  try clear hfz22_3
  try clear hfz22_4
  try clear hfz22_5
  try clear hfz22_6
  try clear hfz26_0
  try clear hfz26_1
  try clear hfz26_2
  try clear hfz26_3
  try clear hfz26_4
  try clear hfz26_5
  try clear hfz26_6
  try clear hfz9_0
  try clear hfz9_1
  try clear hfz9_2
  try clear hfz9_3
  try clear hfz9_4
  try clear hfz9_5
  try clear hfz9_6
  obtain ⟨kq, x11_4, rfl, HA, HJ4, HO_1100005, HO_1100006, BK1086, BK1087, BK1099, HB⟩ := hcut
  cases kq with
  | zero => exact absurd HA.out (by simp [spec_Watch.j0])
  | succ kj4 =>
   have H := HA.out
   clear HA
   simp only [spec_Watch.j0] at H
   by_cases c28 : x11_4 = true
   ·subst c28
    replace H : (some (t1088, t1089, t1090, t1091, t1092, t1093, t1096, 1)) = some (r1, r2, r3, r4, r5, r6, r7, r8) := by rw [if_pos rfl] at H; exact H
    simp only [Option.some.injEq, Prod.mk.injEq] at H
    obtain ⟨rfl, rfl, rfl, rfl, rfl, rfl, rfl, rfl⟩ := H
    have hnb29 := NB1099_1086.out
    have hnc29 := NB1086_1099.out
    have hnb30 := NB1099_1087.out
    have hnc30 := NB1087_1099.out
    obtain ⟨hcz31_0, hcz31_1, hcz31_2, hcz31_3, hcz31_4, hcz31_5, hcz31_6, hfz31_0, hfz31_1, hfz31_2, hfz31_3, hfz31_4, hfz31_5, hfz31_6⟩ := bk7 BK1099.out
    have hnb32 := NB1087_1086.out
    have hnc32 := NB1086_1087.out
    obtain ⟨hcz33_0, hcz33_1, hcz33_2, hcz33_3, hcz33_4, hcz33_5, hcz33_6, hfz33_0, hfz33_1, hfz33_2, hfz33_3, hfz33_4, hfz33_5, hfz33_6⟩ := bk7 BK1087.out
    go_wp2
    refine bodyPost_ret (results_ct rfl _ _ gb1087 29 #[.int .i64 t1088, .int .i64 t1089, .string t1090, .int .i64 t1091, .bool t1092, .slice Ao15 t1093.length co15, .slice Ao16 t1096.length co16] (0, 0) _ rfl (by (with_reducible repeat (first | refine blk_drewN ?_ _ | refine blk_drew ?_ | refine blk_alloc ?_ _)); refine blk_put (cs := #[.int .i64 t1088, .int .i64 t1089, .string t1090, .int .i64 t1091, .bool t1092, .slice Ao15 t1093.length co15, .slice none 0 0]) ?_ 6 _ rfl; (with_reducible repeat (first | refine blk_drewN ?_ _ | refine blk_drew ?_ | refine blk_alloc ?_ _)); refine blk_put (cs := #[.int .i64 t1088, .int .i64 t1089, .string t1090, .int .i64 t1091, .bool t1092, .slice none 0 0, .slice none 0 0]) ?_ 5 _ rfl; (with_reducible repeat (first | refine blk_drewN ?_ _ | refine blk_drew ?_ | refine blk_alloc ?_ _)); refine blk_put (cs := #[.int .i64 t1088, .int .i64 t1089, .string t1090, .int .i64 t1091, .bool false, .slice none 0 0, .slice none 0 0]) ?_ 4 _ rfl; (with_reducible repeat (first | refine blk_drewN ?_ _ | refine blk_drew ?_ | refine blk_alloc ?_ _)); refine blk_put (cs := #[.int .i64 t1088, .int .i64 t1089, .string t1090, .int .i64 0, .bool false, .slice none 0 0, .slice none 0 0]) ?_ 3 _ rfl; (with_reducible repeat (first | refine blk_drewN ?_ _ | refine blk_drew ?_ | refine blk_alloc ?_ _)); refine blk_put (cs := #[.int .i64 t1088, .int .i64 t1089, .string (⟨#[]⟩ : ByteArray), .int .i64 0, .bool false, .slice none 0 0, .slice none 0 0]) ?_ 2 _ rfl; (with_reducible repeat (first | refine blk_drewN ?_ _ | refine blk_drew ?_ | refine blk_alloc ?_ _)); refine blk_put (cs := #[.int .i64 t1088, .int .i64 0, .string (⟨#[]⟩ : ByteArray), .int .i64 0, .bool false, .slice none 0 0, .slice none 0 0]) ?_ 1 _ rfl; (with_reducible repeat (first | refine blk_drewN ?_ _ | refine blk_drew ?_ | refine blk_alloc ?_ _)); refine blk_put (cs := #[.int .i64 0, .int .i64 0, .string (⟨#[]⟩ : ByteArray), .int .i64 0, .bool false, .slice none 0 0, .slice none 0 0]) ?_ 0 _ rfl; exact pkK BK1087.out) Try.underlying29 rfl (by kernel_rfl)) rfl ?_
    exact ⟨_, _, rfe, by (with_reducible repeat (first | apply Kd.R_alloc | apply Kd.R_drewN | apply Kd.R_drew)); exact Kd.R_mono (Kd.R_far (p := ⟨gb1087, 6, none⟩) (Kd.R_far (p := ⟨gb1087, 5, none⟩) (Kd.R_far (p := ⟨gb1087, 4, none⟩) (Kd.R_far (p := ⟨gb1087, 3, none⟩) (Kd.R_far (p := ⟨gb1087, 2, none⟩) (Kd.R_far (p := ⟨gb1087, 1, none⟩) (Kd.R_far (p := ⟨gb1087, 0, none⟩) (Kd.R_types HO_1100005.out BK1087.out (by decide)) (fun _ hk => hk.2) (.int .i64 t1088)) (fun _ hk => hk.2) (.int .i64 t1089)) (fun _ hk => hk.2) (.string t1090)) (fun _ hk => hk.2) (.int .i64 t1091)) (fun _ hk => hk.2) (.bool t1092)) (fun _ hk => hk.2) (.slice Ao15 t1093.length co15)) (fun _ hk => hk.2) (.slice Ao16 t1096.length co16)) (fun _ hk => hk.1), by (with_reducible repeat (first | apply Kd.R_alloc | apply Kd.R_drewN | apply Kd.R_drew)); exact Kd.R_mono (Kd.R_far (p := ⟨gb1087, 6, none⟩) (Kd.R_far (p := ⟨gb1087, 5, none⟩) (Kd.R_far (p := ⟨gb1087, 4, none⟩) (Kd.R_far (p := ⟨gb1087, 3, none⟩) (Kd.R_far (p := ⟨gb1087, 2, none⟩) (Kd.R_far (p := ⟨gb1087, 1, none⟩) (Kd.R_far (p := ⟨gb1087, 0, none⟩) (Kd.R_types HO_1100006.out BK1087.out (by decide)) (fun _ hk => hk.2) (.int .i64 t1088)) (fun _ hk => hk.2) (.int .i64 t1089)) (fun _ hk => hk.2) (.string t1090)) (fun _ hk => hk.2) (.int .i64 t1091)) (fun _ hk => hk.2) (.bool t1092)) (fun _ hk => hk.2) (.slice Ao15 t1093.length co15)) (fun _ hk => hk.2) (.slice Ao16 t1096.length co16)) (fun _ hk => hk.1), pkW HB.out⟩
   ·replace c28 := Bool.eq_false_iff.mpr c28
    subst c28
    replace H : ((spec_l2Has.f kj4 l0_5 a1).bind fun t1102 => (if t1102 = true then (spec_Watch.j1 kj4 a1 a2 true a0_0 a0_1 a0_2 a0_3 a0_4 l0_5 l0_6 t1088 t1089 t1090 t1091 t1092 t1093 t1096) else ((spec_l2Has.f kj4 l0_6 a1).bind fun t1103 => (spec_Watch.j1 kj4 a1 a2 t1103 a0_0 a0_1 a0_2 a0_3 a0_4 l0_5 l0_6 t1088 t1089 t1090 t1091 t1092 t1093 t1096)))) = some (r1, r2, r3, r4, r5, r6, r7, r8) := by rw [if_neg (show ¬ (false = true) by decide)] at H; exact H
    have HC34 := am H
    clear H
    go_upto_region 4 with (fail)
    go_cut [21] (fun v21 wc => ∃ (kq : Nat) (x21_33 : Bool), v21 = .bool x21_33 ∧ Aside0 (spec_Watch.j1 kq a1 a2 x21_33 a0_0 a0_1 a0_2 a0_3 a0_4 l0_5 l0_6 t1088 t1089 t1090 t1091 t1092 t1093 t1096 = some (r1, r2, r3, r4, r5, r6, r7, r8)) ∧ Aside0 (kq ≤ kj4) ∧ Aside0 (Kd.R (Kd.int .i64) 3 wc w.heap.size (fun k_ => some k_ ≠ ((.slice Ao16 t1096.length co16) : Value).ownBlock) (.slice Ao15 t1093.length co15) t1093) ∧ Aside0 (Kd.R (Kd.int .i64) 3 wc w.heap.size (fun k_ => some k_ ≠ ((.slice Ao15 t1093.length co15) : Value).ownBlock) (.slice Ao16 t1096.length co16) t1096) ∧ Aside0 (wc.heap[gb1086]? = some (.cells #[.int .i64 a0_0, .int .i64 a0_1, .string a0_2, .int .i64 a0_3, .bool a0_4, (.slice A0_5 l0_5.length c0_5), (.slice A0_6 l0_6.length c0_6)] 29 (0, 0))) ∧ Aside0 (wc.heap[gb1087]? = some (.cells #[.int .i64 0, .int .i64 0, .string (⟨#[]⟩ : ByteArray), .int .i64 0, .bool false, (.slice none 0 0), (.slice none 0 0)] 29 (0, 0))) ∧ Aside0 (wc.heap[gb1099]? = some (.cells #[.int .i64 t1088, .int .i64 t1089, .string t1090, .int .i64 t1091, .bool t1092, (.slice Ao15 t1093.length co15), (.slice Ao16 t1096.length co16)] 29 (0, 0))) ∧ Aside0 (Below w.heap.size w wc))
    case first =>
     have H := HC34.out
     clear HC34
     replace H := Option.bind_eq_some_iff.mp H
     obtain ⟨t1102, A350, H⟩ := H
     replace H : (if t1102 = true then (spec_Watch.j1 kj4 a1 a2 true a0_0 a0_1 a0_2 a0_3 a0_4 l0_5 l0_6 t1088 t1089 t1090 t1091 t1092 t1093 t1096) else ((spec_l2Has.f kj4 l0_6 a1).bind fun t1103 => (spec_Watch.j1 kj4 a1 a2 t1103 a0_0 a0_1 a0_2 a0_3 a0_4 l0_5 l0_6 t1088 t1089 t1090 t1091 t1092 t1093 t1096))) = some (r1, r2, r3, r4, r5, r6, r7, r8) := H
     have A35 := am A350
     clear A350
     by_cases c36 : t1102 = true
     ·subst c36
      replace H : (spec_Watch.j1 kj4 a1 a2 true a0_0 a0_1 a0_2 a0_3 a0_4 l0_5 l0_6 t1088 t1089 t1090 t1091 t1092 t1093 t1096) = some (r1, r2, r3, r4, r5, r6, r7, r8) := by rw [if_pos rfl] at H; exact H
      have H' := am H
      clear H
      have hnb37 := NB1086_1087.out
      have hnc37 := NB1087_1086.out
      have hnb38 := NB1086_1099.out
      have hnc38 := NB1099_1086.out
      obtain ⟨hcz39_0, hcz39_1, hcz39_2, hcz39_3, hcz39_4, hcz39_5, hcz39_6, hfz39_0, hfz39_1, hfz39_2, hfz39_3, hfz39_4, hfz39_5, hfz39_6⟩ := bk7 BK1086.out
      go_wp2_with (first | ((with_reducible refine gate_callee (f := 76) rfl ?_); refine goesL_ (some 25) rfl rfl Try.func76 (by kernel_rfl) rfl #[.slice A0_5 l0_5.length c0_5, .int .i64 a1] rfl mpx ?_; (with_reducible refine (spec_l2Has.calls kj4 _ _ l0_5 a1 true _ ?side1 ?side2 A35.out).mono ?_); (case side1 => exact pkC (Kd.C_below HR0_5.out HB.out)); (case side2 => exact HC0_5.out); rintro e w' ⟨rfl, ⟨nd, rfl⟩⟩; refine ⟨_, rfl, ?_⟩))
      go_meet
      case rel => exact ⟨_, (true), rfx, H', ⟨by have := HJ4.out; first | omega | exact Nat.le_refl _⟩, ⟨pkR HO_1100005.out⟩, ⟨pkR HO_1100006.out⟩, ⟨pkK BK1086.out⟩, ⟨pkK BK1087.out⟩, ⟨pkK BK1099.out⟩, ⟨pkW HB.out⟩⟩
     ·replace c36 := Bool.eq_false_iff.mpr c36
      subst c36
      replace H : ((spec_l2Has.f kj4 l0_6 a1).bind fun t1103 => (spec_Watch.j1 kj4 a1 a2 t1103 a0_0 a0_1 a0_2 a0_3 a0_4 l0_5 l0_6 t1088 t1089 t1090 t1091 t1092 t1093 t1096)) = some (r1, r2, r3, r4, r5, r6, r7, r8) := by rw [if_neg (show ¬ (false = true) by decide)] at H; exact H
      replace H := Option.bind_eq_some_iff.mp H
      obtain ⟨t1103, A400, H⟩ := H
      replace H : (spec_Watch.j1 kj4 a1 a2 t1103 a0_0 a0_1 a0_2 a0_3 a0_4 l0_5 l0_6 t1088 t1089 t1090 t1091 t1092 t1093 t1096) = some (r1, r2, r3, r4, r5, r6, r7, r8) := H
      have A40 := am A400
      clear A400
      have H' := am H
      clear H
      have hnb41 := NB1086_1087.out
      have hnc41 := NB1087_1086.out
      have hnb42 := NB1086_1099.out
      have hnc42 := NB1099_1086.out
      obtain ⟨hcz43_0, hcz43_1, hcz43_2, hcz43_3, hcz43_4, hcz43_5, hcz43_6, hfz43_0, hfz43_1, hfz43_2, hfz43_3, hfz43_4, hfz43_5, hfz43_6⟩ := bk7 BK1086.out
      go_wp2_with (first | ((with_reducible refine gate_callee (f := 76) rfl ?_); refine goesL_ (some 25) rfl rfl Try.func76 (by kernel_rfl) rfl #[.slice A0_5 l0_5.length c0_5, .int .i64 a1] rfl mpx ?_; (with_reducible refine (spec_l2Has.calls kj4 _ _ l0_5 a1 false _ ?side1 ?side2 A35.out).mono ?_); (case side1 => exact pkC (Kd.C_below HR0_5.out HB.out)); (case side2 => exact HC0_5.out); rintro e w' ⟨rfl, ⟨nd, rfl⟩⟩; refine ⟨_, rfl, ?_⟩) | (go_at_call 76; (with_reducible refine (spec_l2Has.calls kj4 _ _ l0_6 a1 t1103 _ ?side1 ?side2 A40.out).mono ?_); (case side1 => repeat (first | exact (Kd.C_below HR0_6.out (pkW HB.out)) | (with_reducible refine Kd.C_alloc ?_ _) | (with_reducible refine Kd.C_drewN ?_ _) | (with_reducible refine Kd.C_drew ?_))); (case side2 => exact HC0_6.out); rintro e w' ⟨rfl, ⟨nd, rfl⟩⟩))
      go_meet
      case rel => exact ⟨_, (t1103), rfx, H', ⟨by have := HJ4.out; first | omega | exact Nat.le_refl _⟩, ⟨pkR HO_1100005.out⟩, ⟨pkR HO_1100006.out⟩, ⟨pkK BK1086.out⟩, ⟨pkK BK1087.out⟩, ⟨pkK BK1099.out⟩, ⟨pkW HB.out⟩⟩
    case rest =>
     clear HC34
     try clear c1
     try clear c2
     try clear p2
     try clear c3
     try clear c4
     try clear c7
     try clear c8
     try clear c12
     try clear c13
     try clear c18
     try clear c20
     try clear c21
     try clear c22
     try clear c24
     try clear c25
     try clear c28
     try clear c29
     try clear c30
     try clear c32
     try clear c36
     try clear c37
     try clear c38
     try clear c41
     try clear c42
     try clear hcz14_0
     try clear hcz14_1
     try clear hcz14_2
     try clear hcz14_3
     try clear hcz14_4
     try clear hcz14_5
     try clear hcz14_6
     try clear hcz22_0
     try clear hcz22_1
     try clear hcz22_2
     try clear hcz22_3
     try clear hcz22_4
     try clear hcz22_5
     try clear hcz22_6
     try clear hcz26_0
     try clear hcz26_1
     try clear hcz26_2
     try clear hcz26_3
     try clear hcz26_4
     try clear hcz26_5
     try clear hcz26_6
     try clear hcz31_0
     try clear hcz31_1
     try clear hcz31_2
     try clear hcz31_3
     try clear hcz31_4
     try clear hcz31_5
     try clear hcz31_6
     try clear hcz33_0
     try clear hcz33_1
     try clear hcz33_2
     try clear hcz33_3
     try clear hcz33_4
     try clear hcz33_5
     try clear hcz33_6
     try clear hcz39_0
     try clear hcz39_1
     try clear hcz39_2
     try clear hcz39_3
     try clear hcz39_4
     try clear hcz39_5
     try clear hcz39_6
     try clear hcz43_0
     try clear hcz43_1
     try clear hcz43_2
     try clear hcz43_3
     try clear hcz43_4
     try clear hcz43_5
     try clear hcz43_6
     try clear hcz9_0
     try clear hcz9_1
     try clear hcz9_2
     try clear hcz9_3
     try clear hcz9_4
     try clear hcz9_5
     try clear hcz9_6
     try clear hfz14_0
     try clear hfz14_1
     try clear hfz14_2
     try clear hfz14_3
     try clear hfz14_4
     try clear hfz14_5
     try clear hfz14_6
     try clear hfz22_0
     try clear hfz22_1
     try clear hfz22_2
     try clear hfz22_3
     try clear hfz22_4
     try clear hfz22_5
     try clear hfz22_6
     try clear hfz26_0
     try clear hfz26_1
     try clear hfz26_2
     try clear hfz26_3
     try clear hfz26_4
     try clear hfz26_5
     try clear hfz26_6
     try clear hfz31_0
     try clear hfz31_1
     try clear hfz31_2
     try clear hfz31_3
     try clear hfz31_4
     try clear hfz31_5
     try clear hfz31_6
     try clear hfz33_0
     try clear hfz33_1
     try clear hfz33_2
     try clear hfz33_3
     try clear hfz33_4
     try clear hfz33_5
     try clear hfz33_6
     try clear hfz39_0
     try clear hfz39_1
     try clear hfz39_2
     try clear hfz39_3
     try clear hfz39_4
     try clear hfz39_5
     try clear hfz39_6
     try clear hfz43_0
     try clear hfz43_1
     try clear hfz43_2
     try clear hfz43_3
     try clear hfz43_4
     try clear hfz43_5
     try clear hfz43_6
     try clear hfz9_0
     try clear hfz9_1
     try clear hfz9_2
     try clear hfz9_3
     try clear hfz9_4
     try clear hfz9_5
     try clear hfz9_6
     try clear p2
     obtain ⟨kq, x21_33, rfl, HA, HJ33, HO_1100005, HO_1100006, BK1086, BK1087, BK1099, HB⟩ := hcut
     cases kq with
     | zero => exact absurd HA.out (by simp [spec_Watch.j1])
     | succ kj33 =>
      have H := HA.out
      clear HA
      simp only [spec_Watch.j1] at H
      by_cases c44 : x21_33 = true
      ·subst c44
       replace H : (some (t1088, t1089, t1090, t1091, t1092, t1093, t1096, 5)) = some (r1, r2, r3, r4, r5, r6, r7, r8) := by rw [if_pos rfl] at H; exact H
       simp only [Option.some.injEq, Prod.mk.injEq] at H
       obtain ⟨rfl, rfl, rfl, rfl, rfl, rfl, rfl, rfl⟩ := H
       have hnb45 := NB1099_1086.out
       have hnc45 := NB1086_1099.out
       have hnb46 := NB1099_1087.out
       have hnc46 := NB1087_1099.out
       obtain ⟨hcz47_0, hcz47_1, hcz47_2, hcz47_3, hcz47_4, hcz47_5, hcz47_6, hfz47_0, hfz47_1, hfz47_2, hfz47_3, hfz47_4, hfz47_5, hfz47_6⟩ := bk7 BK1099.out
       have hnb48 := NB1087_1086.out
       have hnc48 := NB1086_1087.out
       obtain ⟨hcz49_0, hcz49_1, hcz49_2, hcz49_3, hcz49_4, hcz49_5, hcz49_6, hfz49_0, hfz49_1, hfz49_2, hfz49_3, hfz49_4, hfz49_5, hfz49_6⟩ := bk7 BK1087.out
       go_wp2
       refine bodyPost_ret (results_ct rfl _ _ gb1087 29 #[.int .i64 t1088, .int .i64 t1089, .string t1090, .int .i64 t1091, .bool t1092, .slice Ao15 t1093.length co15, .slice Ao16 t1096.length co16] (0, 0) _ rfl (by (with_reducible repeat (first | refine blk_drewN ?_ _ | refine blk_drew ?_ | refine blk_alloc ?_ _)); refine blk_put (cs := #[.int .i64 t1088, .int .i64 t1089, .string t1090, .int .i64 t1091, .bool t1092, .slice Ao15 t1093.length co15, .slice none 0 0]) ?_ 6 _ rfl; (with_reducible repeat (first | refine blk_drewN ?_ _ | refine blk_drew ?_ | refine blk_alloc ?_ _)); refine blk_put (cs := #[.int .i64 t1088, .int .i64 t1089, .string t1090, .int .i64 t1091, .bool t1092, .slice none 0 0, .slice none 0 0]) ?_ 5 _ rfl; (with_reducible repeat (first | refine blk_drewN ?_ _ | refine blk_drew ?_ | refine blk_alloc ?_ _)); refine blk_put (cs := #[.int .i64 t1088, .int .i64 t1089, .string t1090, .int .i64 t1091, .bool false, .slice none 0 0, .slice none 0 0]) ?_ 4 _ rfl; (with_reducible repeat (first | refine blk_drewN ?_ _ | refine blk_drew ?_ | refine blk_alloc ?_ _)); refine blk_put (cs := #[.int .i64 t1088, .int .i64 t1089, .string t1090, .int .i64 0, .bool false, .slice none 0 0, .slice none 0 0]) ?_ 3 _ rfl; (with_reducible repeat (first | refine blk_drewN ?_ _ | refine blk_drew ?_ | refine blk_alloc ?_ _)); refine blk_put (cs := #[.int .i64 t1088, .int .i64 t1089, .string (⟨#[]⟩ : ByteArray), .int .i64 0, .bool false, .slice none 0 0, .slice none 0 0]) ?_ 2 _ rfl; (with_reducible repeat (first | refine blk_drewN ?_ _ | refine blk_drew ?_ | refine blk_alloc ?_ _)); refine blk_put (cs := #[.int .i64 t1088, .int .i64 0, .string (⟨#[]⟩ : ByteArray), .int .i64 0, .bool false, .slice none 0 0, .slice none 0 0]) ?_ 1 _ rfl; (with_reducible repeat (first | refine blk_drewN ?_ _ | refine blk_drew ?_ | refine blk_alloc ?_ _)); refine blk_put (cs := #[.int .i64 0, .int .i64 0, .string (⟨#[]⟩ : ByteArray), .int .i64 0, .bool false, .slice none 0 0, .slice none 0 0]) ?_ 0 _ rfl; exact pkK BK1087.out) Try.underlying29 rfl (by kernel_rfl)) rfl ?_
       exact ⟨_, _, rfe, by (with_reducible repeat (first | apply Kd.R_alloc | apply Kd.R_drewN | apply Kd.R_drew)); exact Kd.R_mono (Kd.R_far (p := ⟨gb1087, 6, none⟩) (Kd.R_far (p := ⟨gb1087, 5, none⟩) (Kd.R_far (p := ⟨gb1087, 4, none⟩) (Kd.R_far (p := ⟨gb1087, 3, none⟩) (Kd.R_far (p := ⟨gb1087, 2, none⟩) (Kd.R_far (p := ⟨gb1087, 1, none⟩) (Kd.R_far (p := ⟨gb1087, 0, none⟩) (Kd.R_types HO_1100005.out BK1087.out (by decide)) (fun _ hk => hk.2) (.int .i64 t1088)) (fun _ hk => hk.2) (.int .i64 t1089)) (fun _ hk => hk.2) (.string t1090)) (fun _ hk => hk.2) (.int .i64 t1091)) (fun _ hk => hk.2) (.bool t1092)) (fun _ hk => hk.2) (.slice Ao15 t1093.length co15)) (fun _ hk => hk.2) (.slice Ao16 t1096.length co16)) (fun _ hk => hk.1), by (with_reducible repeat (first | apply Kd.R_alloc | apply Kd.R_drewN | apply Kd.R_drew)); exact Kd.R_mono (Kd.R_far (p := ⟨gb1087, 6, none⟩) (Kd.R_far (p := ⟨gb1087, 5, none⟩) (Kd.R_far (p := ⟨gb1087, 4, none⟩) (Kd.R_far (p := ⟨gb1087, 3, none⟩) (Kd.R_far (p := ⟨gb1087, 2, none⟩) (Kd.R_far (p := ⟨gb1087, 1, none⟩) (Kd.R_far (p := ⟨gb1087, 0, none⟩) (Kd.R_types HO_1100006.out BK1087.out (by decide)) (fun _ hk => hk.2) (.int .i64 t1088)) (fun _ hk => hk.2) (.int .i64 t1089)) (fun _ hk => hk.2) (.string t1090)) (fun _ hk => hk.2) (.int .i64 t1091)) (fun _ hk => hk.2) (.bool t1092)) (fun _ hk => hk.2) (.slice Ao15 t1093.length co15)) (fun _ hk => hk.2) (.slice Ao16 t1096.length co16)) (fun _ hk => hk.1), pkW HB.out⟩
      ·replace c44 := Bool.eq_false_iff.mpr c44
       subst c44
       replace H : (if a0_3 > a2 then (some (t1088, t1089, t1090, t1091, t1092, t1093, t1096, 0)) else (if a0_4 = true then (some (t1088, t1089, t1090, t1091, t1092, t1093, t1096, 6)) else (if (l0_5.length : Int) ≥ 32 then (some (t1088, t1089, t1090, t1091, t1092, t1093, t1096, 2)) else (if t1093.length < 17592186044416 then (some (t1088, t1089, t1090, t1091, t1092, (t1093 ++ [a1]), t1096, 4)) else (none))))) = some (r1, r2, r3, r4, r5, r6, r7, r8) := by rw [if_neg (show ¬ (false = true) by decide)] at H; exact H
       by_cases c50 : a0_3 > a2
       ·rw [if_pos c50] at H
        have c50b0 : decide (a2 < a0_3) = true := decide_eq_true c50
        clear c50
        simp only [Option.some.injEq, Prod.mk.injEq] at H
        obtain ⟨rfl, rfl, rfl, rfl, rfl, rfl, rfl, rfl⟩ := H
        have hnb51 := NB1086_1087.out
        have hnc51 := NB1087_1086.out
        have hnb52 := NB1086_1099.out
        have hnc52 := NB1099_1086.out
        obtain ⟨hcz53_0, hcz53_1, hcz53_2, hcz53_3, hcz53_4, hcz53_5, hcz53_6, hfz53_0, hfz53_1, hfz53_2, hfz53_3, hfz53_4, hfz53_5, hfz53_6⟩ := bk7 BK1086.out
        have hnb54 := NB1099_1087.out
        have hnc54 := NB1087_1099.out
        obtain ⟨hcz55_0, hcz55_1, hcz55_2, hcz55_3, hcz55_4, hcz55_5, hcz55_6, hfz55_0, hfz55_1, hfz55_2, hfz55_3, hfz55_4, hfz55_5, hfz55_6⟩ := bk7 BK1099.out
        obtain ⟨hcz56_0, hcz56_1, hcz56_2, hcz56_3, hcz56_4, hcz56_5, hcz56_6, hfz56_0, hfz56_1, hfz56_2, hfz56_3, hfz56_4, hfz56_5, hfz56_6⟩ := bk7 BK1087.out
        go_wp2
        refine bodyPost_ret (results_ct rfl _ _ gb1087 29 #[.int .i64 t1088, .int .i64 t1089, .string t1090, .int .i64 t1091, .bool t1092, .slice Ao15 t1093.length co15, .slice Ao16 t1096.length co16] (0, 0) _ rfl (by (with_reducible repeat (first | refine blk_drewN ?_ _ | refine blk_drew ?_ | refine blk_alloc ?_ _)); refine blk_put (cs := #[.int .i64 t1088, .int .i64 t1089, .string t1090, .int .i64 t1091, .bool t1092, .slice Ao15 t1093.length co15, .slice none 0 0]) ?_ 6 _ rfl; (with_reducible repeat (first | refine blk_drewN ?_ _ | refine blk_drew ?_ | refine blk_alloc ?_ _)); refine blk_put (cs := #[.int .i64 t1088, .int .i64 t1089, .string t1090, .int .i64 t1091, .bool t1092, .slice none 0 0, .slice none 0 0]) ?_ 5 _ rfl; (with_reducible repeat (first | refine blk_drewN ?_ _ | refine blk_drew ?_ | refine blk_alloc ?_ _)); refine blk_put (cs := #[.int .i64 t1088, .int .i64 t1089, .string t1090, .int .i64 t1091, .bool false, .slice none 0 0, .slice none 0 0]) ?_ 4 _ rfl; (with_reducible repeat (first | refine blk_drewN ?_ _ | refine blk_drew ?_ | refine blk_alloc ?_ _)); refine blk_put (cs := #[.int .i64 t1088, .int .i64 t1089, .string t1090, .int .i64 0, .bool false, .slice none 0 0, .slice none 0 0]) ?_ 3 _ rfl; (with_reducible repeat (first | refine blk_drewN ?_ _ | refine blk_drew ?_ | refine blk_alloc ?_ _)); refine blk_put (cs := #[.int .i64 t1088, .int .i64 t1089, .string (⟨#[]⟩ : ByteArray), .int .i64 0, .bool false, .slice none 0 0, .slice none 0 0]) ?_ 2 _ rfl; (with_reducible repeat (first | refine blk_drewN ?_ _ | refine blk_drew ?_ | refine blk_alloc ?_ _)); refine blk_put (cs := #[.int .i64 t1088, .int .i64 0, .string (⟨#[]⟩ : ByteArray), .int .i64 0, .bool false, .slice none 0 0, .slice none 0 0]) ?_ 1 _ rfl; (with_reducible repeat (first | refine blk_drewN ?_ _ | refine blk_drew ?_ | refine blk_alloc ?_ _)); refine blk_put (cs := #[.int .i64 0, .int .i64 0, .string (⟨#[]⟩ : ByteArray), .int .i64 0, .bool false, .slice none 0 0, .slice none 0 0]) ?_ 0 _ rfl; exact pkK BK1087.out) Try.underlying29 rfl (by kernel_rfl)) rfl ?_
        exact ⟨_, _, rfe, by (with_reducible repeat (first | apply Kd.R_alloc | apply Kd.R_drewN | apply Kd.R_drew)); exact Kd.R_mono (Kd.R_far (p := ⟨gb1087, 6, none⟩) (Kd.R_far (p := ⟨gb1087, 5, none⟩) (Kd.R_far (p := ⟨gb1087, 4, none⟩) (Kd.R_far (p := ⟨gb1087, 3, none⟩) (Kd.R_far (p := ⟨gb1087, 2, none⟩) (Kd.R_far (p := ⟨gb1087, 1, none⟩) (Kd.R_far (p := ⟨gb1087, 0, none⟩) (Kd.R_types HO_1100005.out BK1087.out (by decide)) (fun _ hk => hk.2) (.int .i64 t1088)) (fun _ hk => hk.2) (.int .i64 t1089)) (fun _ hk => hk.2) (.string t1090)) (fun _ hk => hk.2) (.int .i64 t1091)) (fun _ hk => hk.2) (.bool t1092)) (fun _ hk => hk.2) (.slice Ao15 t1093.length co15)) (fun _ hk => hk.2) (.slice Ao16 t1096.length co16)) (fun _ hk => hk.1), by (with_reducible repeat (first | apply Kd.R_alloc | apply Kd.R_drewN | apply Kd.R_drew)); exact Kd.R_mono (Kd.R_far (p := ⟨gb1087, 6, none⟩) (Kd.R_far (p := ⟨gb1087, 5, none⟩) (Kd.R_far (p := ⟨gb1087, 4, none⟩) (Kd.R_far (p := ⟨gb1087, 3, none⟩) (Kd.R_far (p := ⟨gb1087, 2, none⟩) (Kd.R_far (p := ⟨gb1087, 1, none⟩) (Kd.R_far (p := ⟨gb1087, 0, none⟩) (Kd.R_types HO_1100006.out BK1087.out (by decide)) (fun _ hk => hk.2) (.int .i64 t1088)) (fun _ hk => hk.2) (.int .i64 t1089)) (fun _ hk => hk.2) (.string t1090)) (fun _ hk => hk.2) (.int .i64 t1091)) (fun _ hk => hk.2) (.bool t1092)) (fun _ hk => hk.2) (.slice Ao15 t1093.length co15)) (fun _ hk => hk.2) (.slice Ao16 t1096.length co16)) (fun _ hk => hk.1), pkW HB.out⟩
       ·rw [if_neg c50] at H
        have c50b0 : decide (a2 < a0_3) = false := decide_eq_false c50
        clear c50
        by_cases c57 : a0_4 = true
        ·subst c57
         replace H : (some (t1088, t1089, t1090, t1091, t1092, t1093, t1096, 6)) = some (r1, r2, r3, r4, r5, r6, r7, r8) := by rw [if_pos rfl] at H; exact H
         simp only [Option.some.injEq, Prod.mk.injEq] at H
         obtain ⟨rfl, rfl, rfl, rfl, rfl, rfl, rfl, rfl⟩ := H
         have hnb58 := NB1086_1087.out
         have hnc58 := NB1087_1086.out
         have hnb59 := NB1086_1099.out
         have hnc59 := NB1099_1086.out
         obtain ⟨hcz60_0, hcz60_1, hcz60_2, hcz60_3, hcz60_4, hcz60_5, hcz60_6, hfz60_0, hfz60_1, hfz60_2, hfz60_3, hfz60_4, hfz60_5, hfz60_6⟩ := bk7 BK1086.out
         have hnb61 := NB1099_1087.out
         have hnc61 := NB1087_1099.out
         obtain ⟨hcz62_0, hcz62_1, hcz62_2, hcz62_3, hcz62_4, hcz62_5, hcz62_6, hfz62_0, hfz62_1, hfz62_2, hfz62_3, hfz62_4, hfz62_5, hfz62_6⟩ := bk7 BK1099.out
         obtain ⟨hcz63_0, hcz63_1, hcz63_2, hcz63_3, hcz63_4, hcz63_5, hcz63_6, hfz63_0, hfz63_1, hfz63_2, hfz63_3, hfz63_4, hfz63_5, hfz63_6⟩ := bk7 BK1087.out
         go_wp2
         refine bodyPost_ret (results_ct rfl _ _ gb1087 29 #[.int .i64 t1088, .int .i64 t1089, .string t1090, .int .i64 t1091, .bool t1092, .slice Ao15 t1093.length co15, .slice Ao16 t1096.length co16] (0, 0) _ rfl (by (with_reducible repeat (first | refine blk_drewN ?_ _ | refine blk_drew ?_ | refine blk_alloc ?_ _)); refine blk_put (cs := #[.int .i64 t1088, .int .i64 t1089, .string t1090, .int .i64 t1091, .bool t1092, .slice Ao15 t1093.length co15, .slice none 0 0]) ?_ 6 _ rfl; (with_reducible repeat (first | refine blk_drewN ?_ _ | refine blk_drew ?_ | refine blk_alloc ?_ _)); refine blk_put (cs := #[.int .i64 t1088, .int .i64 t1089, .string t1090, .int .i64 t1091, .bool t1092, .slice none 0 0, .slice none 0 0]) ?_ 5 _ rfl; (with_reducible repeat (first | refine blk_drewN ?_ _ | refine blk_drew ?_ | refine blk_alloc ?_ _)); refine blk_put (cs := #[.int .i64 t1088, .int .i64 t1089, .string t1090, .int .i64 t1091, .bool false, .slice none 0 0, .slice none 0 0]) ?_ 4 _ rfl; (with_reducible repeat (first | refine blk_drewN ?_ _ | refine blk_drew ?_ | refine blk_alloc ?_ _)); refine blk_put (cs := #[.int .i64 t1088, .int .i64 t1089, .string t1090, .int .i64 0, .bool false, .slice none 0 0, .slice none 0 0]) ?_ 3 _ rfl; (with_reducible repeat (first | refine blk_drewN ?_ _ | refine blk_drew ?_ | refine blk_alloc ?_ _)); refine blk_put (cs := #[.int .i64 t1088, .int .i64 t1089, .string (⟨#[]⟩ : ByteArray), .int .i64 0, .bool false, .slice none 0 0, .slice none 0 0]) ?_ 2 _ rfl; (with_reducible repeat (first | refine blk_drewN ?_ _ | refine blk_drew ?_ | refine blk_alloc ?_ _)); refine blk_put (cs := #[.int .i64 t1088, .int .i64 0, .string (⟨#[]⟩ : ByteArray), .int .i64 0, .bool false, .slice none 0 0, .slice none 0 0]) ?_ 1 _ rfl; (with_reducible repeat (first | refine blk_drewN ?_ _ | refine blk_drew ?_ | refine blk_alloc ?_ _)); refine blk_put (cs := #[.int .i64 0, .int .i64 0, .string (⟨#[]⟩ : ByteArray), .int .i64 0, .bool false, .slice none 0 0, .slice none 0 0]) ?_ 0 _ rfl; exact pkK BK1087.out) Try.underlying29 rfl (by kernel_rfl)) rfl ?_
         exact ⟨_, _, rfe, by (with_reducible repeat (first | apply Kd.R_alloc | apply Kd.R_drewN | apply Kd.R_drew)); exact Kd.R_mono (Kd.R_far (p := ⟨gb1087, 6, none⟩) (Kd.R_far (p := ⟨gb1087, 5, none⟩) (Kd.R_far (p := ⟨gb1087, 4, none⟩) (Kd.R_far (p := ⟨gb1087, 3, none⟩) (Kd.R_far (p := ⟨gb1087, 2, none⟩) (Kd.R_far (p := ⟨gb1087, 1, none⟩) (Kd.R_far (p := ⟨gb1087, 0, none⟩) (Kd.R_types HO_1100005.out BK1087.out (by decide)) (fun _ hk => hk.2) (.int .i64 t1088)) (fun _ hk => hk.2) (.int .i64 t1089)) (fun _ hk => hk.2) (.string t1090)) (fun _ hk => hk.2) (.int .i64 t1091)) (fun _ hk => hk.2) (.bool t1092)) (fun _ hk => hk.2) (.slice Ao15 t1093.length co15)) (fun _ hk => hk.2) (.slice Ao16 t1096.length co16)) (fun _ hk => hk.1), by (with_reducible repeat (first | apply Kd.R_alloc | apply Kd.R_drewN | apply Kd.R_drew)); exact Kd.R_mono (Kd.R_far (p := ⟨gb1087, 6, none⟩) (Kd.R_far (p := ⟨gb1087, 5, none⟩) (Kd.R_far (p := ⟨gb1087, 4, none⟩) (Kd.R_far (p := ⟨gb1087, 3, none⟩) (Kd.R_far (p := ⟨gb1087, 2, none⟩) (Kd.R_far (p := ⟨gb1087, 1, none⟩) (Kd.R_far (p := ⟨gb1087, 0, none⟩) (Kd.R_types HO_1100006.out BK1087.out (by decide)) (fun _ hk => hk.2) (.int .i64 t1088)) (fun _ hk => hk.2) (.int .i64 t1089)) (fun _ hk => hk.2) (.string t1090)) (fun _ hk => hk.2) (.int .i64 t1091)) (fun _ hk => hk.2) (.bool t1092)) (fun _ hk => hk.2) (.slice Ao15 t1093.length co15)) (fun _ hk => hk.2) (.slice Ao16 t1096.length co16)) (fun _ hk => hk.1), pkW HB.out⟩
        ·replace c57 := Bool.eq_false_iff.mpr c57
         subst c57
         replace H : (if (l0_5.length : Int) ≥ 32 then (some (t1088, t1089, t1090, t1091, t1092, t1093, t1096, 2)) else (if t1093.length < 17592186044416 then (some (t1088, t1089, t1090, t1091, t1092, (t1093 ++ [a1]), t1096, 4)) else (none))) = some (r1, r2, r3, r4, r5, r6, r7, r8) := by rw [if_neg (show ¬ (false = true) by decide)] at H; exact H
         by_cases c64 : (l0_5.length : Int) ≥ 32
         ·rw [if_pos c64] at H
          have c64b0 : decide (32 ≤ (l0_5.length : Int)) = true := decide_eq_true c64
          have c64b1 : decide (32 ≤ l0_5.length) = true := decide_eq_true (by omega)
          clear c64
          simp only [Option.some.injEq, Prod.mk.injEq] at H
          obtain ⟨rfl, rfl, rfl, rfl, rfl, rfl, rfl, rfl⟩ := H
          have hnb65 := NB1086_1087.out
          have hnc65 := NB1087_1086.out
          have hnb66 := NB1086_1099.out
          have hnc66 := NB1099_1086.out
          obtain ⟨hcz67_0, hcz67_1, hcz67_2, hcz67_3, hcz67_4, hcz67_5, hcz67_6, hfz67_0, hfz67_1, hfz67_2, hfz67_3, hfz67_4, hfz67_5, hfz67_6⟩ := bk7 BK1086.out
          have hnb68 := NB1099_1087.out
          have hnc68 := NB1087_1099.out
          obtain ⟨hcz69_0, hcz69_1, hcz69_2, hcz69_3, hcz69_4, hcz69_5, hcz69_6, hfz69_0, hfz69_1, hfz69_2, hfz69_3, hfz69_4, hfz69_5, hfz69_6⟩ := bk7 BK1099.out
          obtain ⟨hcz70_0, hcz70_1, hcz70_2, hcz70_3, hcz70_4, hcz70_5, hcz70_6, hfz70_0, hfz70_1, hfz70_2, hfz70_3, hfz70_4, hfz70_5, hfz70_6⟩ := bk7 BK1087.out
          go_wp2
          refine bodyPost_ret (results_ct rfl _ _ gb1087 29 #[.int .i64 t1088, .int .i64 t1089, .string t1090, .int .i64 t1091, .bool t1092, .slice Ao15 t1093.length co15, .slice Ao16 t1096.length co16] (0, 0) _ rfl (by (with_reducible repeat (first | refine blk_drewN ?_ _ | refine blk_drew ?_ | refine blk_alloc ?_ _)); refine blk_put (cs := #[.int .i64 t1088, .int .i64 t1089, .string t1090, .int .i64 t1091, .bool t1092, .slice Ao15 t1093.length co15, .slice none 0 0]) ?_ 6 _ rfl; (with_reducible repeat (first | refine blk_drewN ?_ _ | refine blk_drew ?_ | refine blk_alloc ?_ _)); refine blk_put (cs := #[.int .i64 t1088, .int .i64 t1089, .string t1090, .int .i64 t1091, .bool t1092, .slice none 0 0, .slice none 0 0]) ?_ 5 _ rfl; (with_reducible repeat (first | refine blk_drewN ?_ _ | refine blk_drew ?_ | refine blk_alloc ?_ _)); refine blk_put (cs := #[.int .i64 t1088, .int .i64 t1089, .string t1090, .int .i64 t1091, .bool false, .slice none 0 0, .slice none 0 0]) ?_ 4 _ rfl; (with_reducible repeat (first | refine blk_drewN ?_ _ | refine blk_drew ?_ | refine blk_alloc ?_ _)); refine blk_put (cs := #[.int .i64 t1088, .int .i64 t1089, .string t1090, .int .i64 0, .bool false, .slice none 0 0, .slice none 0 0]) ?_ 3 _ rfl; (with_reducible repeat (first | refine blk_drewN ?_ _ | refine blk_drew ?_ | refine blk_alloc ?_ _)); refine blk_put (cs := #[.int .i64 t1088, .int .i64 t1089, .string (⟨#[]⟩ : ByteArray), .int .i64 0, .bool false, .slice none 0 0, .slice none 0 0]) ?_ 2 _ rfl; (with_reducible repeat (first | refine blk_drewN ?_ _ | refine blk_drew ?_ | refine blk_alloc ?_ _)); refine blk_put (cs := #[.int .i64 t1088, .int .i64 0, .string (⟨#[]⟩ : ByteArray), .int .i64 0, .bool false, .slice none 0 0, .slice none 0 0]) ?_ 1 _ rfl; (with_reducible repeat (first | refine blk_drewN ?_ _ | refine blk_drew ?_ | refine blk_alloc ?_ _)); refine blk_put (cs := #[.int .i64 0, .int .i64 0, .string (⟨#[]⟩ : ByteArray), .int .i64 0, .bool false, .slice none 0 0, .slice none 0 0]) ?_ 0 _ rfl; exact pkK BK1087.out) Try.underlying29 rfl (by kernel_rfl)) rfl ?_
          exact ⟨_, _, rfe, by (with_reducible repeat (first | apply Kd.R_alloc | apply Kd.R_drewN | apply Kd.R_drew)); exact Kd.R_mono (Kd.R_far (p := ⟨gb1087, 6, none⟩) (Kd.R_far (p := ⟨gb1087, 5, none⟩) (Kd.R_far (p := ⟨gb1087, 4, none⟩) (Kd.R_far (p := ⟨gb1087, 3, none⟩) (Kd.R_far (p := ⟨gb1087, 2, none⟩) (Kd.R_far (p := ⟨gb1087, 1, none⟩) (Kd.R_far (p := ⟨gb1087, 0, none⟩) (Kd.R_types HO_1100005.out BK1087.out (by decide)) (fun _ hk => hk.2) (.int .i64 t1088)) (fun _ hk => hk.2) (.int .i64 t1089)) (fun _ hk => hk.2) (.string t1090)) (fun _ hk => hk.2) (.int .i64 t1091)) (fun _ hk => hk.2) (.bool t1092)) (fun _ hk => hk.2) (.slice Ao15 t1093.length co15)) (fun _ hk => hk.2) (.slice Ao16 t1096.length co16)) (fun _ hk => hk.1), by (with_reducible repeat (first | apply Kd.R_alloc | apply Kd.R_drewN | apply Kd.R_drew)); exact Kd.R_mono (Kd.R_far (p := ⟨gb1087, 6, none⟩) (Kd.R_far (p := ⟨gb1087, 5, none⟩) (Kd.R_far (p := ⟨gb1087, 4, none⟩) (Kd.R_far (p := ⟨gb1087, 3, none⟩) (Kd.R_far (p := ⟨gb1087, 2, none⟩) (Kd.R_far (p := ⟨gb1087, 1, none⟩) (Kd.R_far (p := ⟨gb1087, 0, none⟩) (Kd.R_types HO_1100006.out BK1087.out (by decide)) (fun _ hk => hk.2) (.int .i64 t1088)) (fun _ hk => hk.2) (.int .i64 t1089)) (fun _ hk => hk.2) (.string t1090)) (fun _ hk => hk.2) (.int .i64 t1091)) (fun _ hk => hk.2) (.bool t1092)) (fun _ hk => hk.2) (.slice Ao15 t1093.length co15)) (fun _ hk => hk.2) (.slice Ao16 t1096.length co16)) (fun _ hk => hk.1), pkW HB.out⟩
         ·rw [if_neg c64] at H
          have c64b0 : decide (32 ≤ (l0_5.length : Int)) = false := decide_eq_false c64
          have c64b1 : decide (32 ≤ l0_5.length) = false := decide_eq_false (by omega)
          clear c64
          by_cases c71 : t1093.length < 17592186044416
          ·rw [if_pos c71] at H
           have LMc71 := am c71
           clear c71
           obtain ⟨y1104, hy1104⟩ : ∃ y_ : List Int, y_ = (t1093 ++ [a1]) := ⟨_, rfl⟩
           replace H : (some (t1088, t1089, t1090, t1091, t1092, y1104, t1096, 4)) = some (r1, r2, r3, r4, r5, r6, r7, r8) := by first | (rw [hy1104]; with_reducible exact H) | (have H2_ := (Option.bind_some _ _).symm.trans H; rw [hy1104]; with_reducible exact H2_) | (have H2_ := (Option.bind_some _ _).symm.trans H; with_reducible exact H2_) | with_reducible exact H | (rw [hy1104]; exact H) | exact H
           have Ny1104 := am hy1104
           clear hy1104
           simp only [Option.some.injEq, Prod.mk.injEq] at H
           obtain ⟨rfl, rfl, rfl, rfl, rfl, rfl, rfl, rfl⟩ := H
           have hnb72 := NB1086_1087.out
           have hnc72 := NB1087_1086.out
           have hnb73 := NB1086_1099.out
           have hnc73 := NB1099_1086.out
           obtain ⟨hcz74_0, hcz74_1, hcz74_2, hcz74_3, hcz74_4, hcz74_5, hcz74_6, hfz74_0, hfz74_1, hfz74_2, hfz74_3, hfz74_4, hfz74_5, hfz74_6⟩ := bk7 BK1086.out
           have hnb75 := NB1099_1087.out
           have hnc75 := NB1087_1099.out
           obtain ⟨hcz76_0, hcz76_1, hcz76_2, hcz76_3, hcz76_4, hcz76_5, hcz76_6, hfz76_0, hfz76_1, hfz76_2, hfz76_3, hfz76_4, hfz76_5, hfz76_6⟩ := bk7 BK1099.out
           go_wp2_with (first | ((with_reducible refine gate_builtin (b := .append) (xs := #[.tmp 50, .tmp 52]) rfl ?_); at_builtin; refine Kd.R_append (Kd.int .i64) (w0 := w) w.heap.size rfl (.tmp 50) (.tmp 52) 27 3 (.int .i64 0) 8 rfl Try.underlying27 info3 rfl (by decide) (by omega) (.slice Ao15 t1093.length co15) t1093 a1 [.int .i64 a1] (fun k_ => some k_ ≠ (.slice Ao16 t1096.length co16 : Value).ownBlock) (fun _ => False) rfl rfl ?aP (fun _ hk => hk.elim) ?aF ?aO ?aB ?aS ?aL ?_; (case aP => exact rfl); (case aB => exact (pkW HB.out)); (case aF => exact (fun k_ hk => Kd.fresh' (Kd.R_lt (pkR HO_1100006.out)) k_ hk)); (case aO => exact (pkR HO_1100005.out)); (case aS => exact (below_size (pkW HB.out))); (case aL => have := LMc71.out; omega); intro v1105 w77 ho hb hg hat; rw [← Ny1104.out] at ho; replace HO_1100006 := am (Kd.R_after (ok := (fun _ => True)) (by (with_reducible repeat (first | apply Kd.R_alloc | apply Kd.R_drewN | apply Kd.R_drew)); exact Kd.R_mono HO_1100006.out (fun _ hk => ⟨trivial, hk⟩)) hg hat); replace BK1086 := am (blk_grown (g := gb1086) (o := .cells #[.int .i64 a0_0, .int .i64 a0_1, .string a0_2, .int .i64 a0_3, .bool false, .slice A0_5 l0_5.length c0_5, .slice A0_6 l0_6.length c0_6] 29 (0, 0)) (pkK BK1086.out) hg (Kd.R_ne HO_1100005.out BK1086.out (by decide))); replace BK1087 := am (blk_grown (g := gb1087) (o := .cells #[.int .i64 0, .int .i64 0, .string (⟨#[]⟩ : ByteArray), .int .i64 0, .bool false, .slice none 0 0, .slice none 0 0] 29 (0, 0)) (pkK BK1087.out) hg (Kd.R_ne HO_1100005.out BK1087.out (by decide))); replace BK1099 := am (blk_grown (g := gb1099) (o := .cells #[.int .i64 t1088, .int .i64 t1089, .string t1090, .int .i64 t1091, .bool t1092, .slice Ao15 t1093.length co15, .slice Ao16 t1096.length co16] 29 (0, 0)) (pkK BK1099.out) hg (Kd.R_ne HO_1100005.out BK1099.out (by decide))); replace HB := am (hb); have HO1106 := am (ho); clear HO_1100005; clear ho hb hg hat; obtain ⟨Ao78, co78, eo78⟩ := Kd.R_slice HO1106.out; subst eo78; obtain ⟨hcz79_0, hcz79_1, hcz79_2, hcz79_3, hcz79_4, hcz79_5, hcz79_6, hfz79_0, hfz79_1, hfz79_2, hfz79_3, hfz79_4, hfz79_5, hfz79_6⟩ := bk7 BK1099.out; obtain ⟨hcz80_0, hcz80_1, hcz80_2, hcz80_3, hcz80_4, hcz80_5, hcz80_6, hfz80_0, hfz80_1, hfz80_2, hfz80_3, hfz80_4, hfz80_5, hfz80_6⟩ := bk7 BK1087.out))
           refine bodyPost_ret (results_ct rfl _ _ gb1087 29 #[.int .i64 t1088, .int .i64 t1089, .string t1090, .int .i64 t1091, .bool t1092, .slice Ao78 y1104.length co78, .slice Ao16 t1096.length co16] (0, 0) _ rfl (by (with_reducible repeat (first | refine blk_drewN ?_ _ | refine blk_drew ?_ | refine blk_alloc ?_ _)); refine blk_put (cs := #[.int .i64 t1088, .int .i64 t1089, .string t1090, .int .i64 t1091, .bool t1092, .slice Ao78 y1104.length co78, .slice none 0 0]) ?_ 6 _ rfl; (with_reducible repeat (first | refine blk_drewN ?_ _ | refine blk_drew ?_ | refine blk_alloc ?_ _)); refine blk_put (cs := #[.int .i64 t1088, .int .i64 t1089, .string t1090, .int .i64 t1091, .bool t1092, .slice none 0 0, .slice none 0 0]) ?_ 5 _ rfl; (with_reducible repeat (first | refine blk_drewN ?_ _ | refine blk_drew ?_ | refine blk_alloc ?_ _)); refine blk_put (cs := #[.int .i64 t1088, .int .i64 t1089, .string t1090, .int .i64 t1091, .bool false, .slice none 0 0, .slice none 0 0]) ?_ 4 _ rfl; (with_reducible repeat (first | refine blk_drewN ?_ _ | refine blk_drew ?_ | refine blk_alloc ?_ _)); refine blk_put (cs := #[.int .i64 t1088, .int .i64 t1089, .string t1090, .int .i64 0, .bool false, .slice none 0 0, .slice none 0 0]) ?_ 3 _ rfl; (with_reducible repeat (first | refine blk_drewN ?_ _ | refine blk_drew ?_ | refine blk_alloc ?_ _)); refine blk_put (cs := #[.int .i64 t1088, .int .i64 t1089, .string (⟨#[]⟩ : ByteArray), .int .i64 0, .bool false, .slice none 0 0, .slice none 0 0]) ?_ 2 _ rfl; (with_reducible repeat (first | refine blk_drewN ?_ _ | refine blk_drew ?_ | refine blk_alloc ?_ _)); refine blk_put (cs := #[.int .i64 t1088, .int .i64 0, .string (⟨#[]⟩ : ByteArray), .int .i64 0, .bool false, .slice none 0 0, .slice none 0 0]) ?_ 1 _ rfl; (with_reducible repeat (first | refine blk_drewN ?_ _ | refine blk_drew ?_ | refine blk_alloc ?_ _)); refine blk_put (cs := #[.int .i64 0, .int .i64 0, .string (⟨#[]⟩ : ByteArray), .int .i64 0, .bool false, .slice none 0 0, .slice none 0 0]) ?_ 0 _ rfl; (with_reducible repeat (first | refine blk_drewN ?_ _ | refine blk_drew ?_ | refine blk_alloc ?_ _)); refine blk_far ?_ NB1087_1099.out _; exact pkK BK1087.out) Try.underlying29 rfl (by kernel_rfl)) rfl ?_
           exact ⟨_, _, rfe, by (with_reducible repeat (first | apply Kd.R_alloc | apply Kd.R_drewN | apply Kd.R_drew)); exact Kd.R_mono (Kd.R_far (p := ⟨gb1087, 6, none⟩) (Kd.R_far (p := ⟨gb1087, 5, none⟩) (Kd.R_far (p := ⟨gb1087, 4, none⟩) (Kd.R_far (p := ⟨gb1087, 3, none⟩) (Kd.R_far (p := ⟨gb1087, 2, none⟩) (Kd.R_far (p := ⟨gb1087, 1, none⟩) (Kd.R_far (p := ⟨gb1087, 0, none⟩) (Kd.R_far (p := ⟨gb1099, 5, none⟩) (Kd.R_types (Kd.R_types HO1106.out BK1099.out (by decide)) BK1087.out (by decide)) (fun _ hk => hk.1.2) (.slice Ao78 y1104.length co78)) (fun _ hk => hk.2) (.int .i64 t1088)) (fun _ hk => hk.2) (.int .i64 t1089)) (fun _ hk => hk.2) (.string t1090)) (fun _ hk => hk.2) (.int .i64 t1091)) (fun _ hk => hk.2) (.bool t1092)) (fun _ hk => hk.2) (.slice Ao78 y1104.length co78)) (fun _ hk => hk.2) (.slice Ao16 t1096.length co16)) (fun _ hk => hk.1.1), by (with_reducible repeat (first | apply Kd.R_alloc | apply Kd.R_drewN | apply Kd.R_drew)); exact Kd.R_mono (Kd.R_far (p := ⟨gb1087, 6, none⟩) (Kd.R_far (p := ⟨gb1087, 5, none⟩) (Kd.R_far (p := ⟨gb1087, 4, none⟩) (Kd.R_far (p := ⟨gb1087, 3, none⟩) (Kd.R_far (p := ⟨gb1087, 2, none⟩) (Kd.R_far (p := ⟨gb1087, 1, none⟩) (Kd.R_far (p := ⟨gb1087, 0, none⟩) (Kd.R_far (p := ⟨gb1099, 5, none⟩) (Kd.R_types (Kd.R_types HO_1100006.out BK1099.out (by decide)) BK1087.out (by decide)) (fun _ hk => hk.1.2) (.slice Ao78 y1104.length co78)) (fun _ hk => hk.2) (.int .i64 t1088)) (fun _ hk => hk.2) (.int .i64 t1089)) (fun _ hk => hk.2) (.string t1090)) (fun _ hk => hk.2) (.int .i64 t1091)) (fun _ hk => hk.2) (.bool t1092)) (fun _ hk => hk.2) (.slice Ao78 y1104.length co78)) (fun _ hk => hk.2) (.slice Ao16 t1096.length co16)) (fun _ hk => hk.1.1.2), pkW HB.out⟩
          ·rw [if_neg c71] at H
           exact absurd H (by simp)
end Go.Proofs.Ytffcphplnilokaa.Z
