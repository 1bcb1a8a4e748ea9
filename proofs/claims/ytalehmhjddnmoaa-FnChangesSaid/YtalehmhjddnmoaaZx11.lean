/- The Go functions spec_MsgLess as Lean functions, each with a proof that its code comes to just these answers; conditions: those of each theorem. -/
import Derived.Test.YtalehmhjddnmoaaZx0
import Derived.Test.YtalehmhjddnmoaaZx4
namespace Go.Proofs.Ytalehmhjddnmoaa.Z
open Go.RowKit Go.Proofs.YtalehmhjddnmoaaW.PrintWords Go.Proofs.YtalehmhjddnmoaaW.PrintLast Go.Proofs.YtalehmhjddnmoaaW.PrintMore
attribute [local go_sem] max2_int min2_int max_two min_two max_three min_three max_four min_four   -- for this text's walks alone
set_option linter.unusedVariables false
set_option linter.unusedSimpArgs false
def spec_MsgLess.j0 : Nat → Bool → Int → Int → ByteArray → Int → Int → ByteArray → Option (Bool)
 | 0, _, _, _, _, _, _, _ => none
 | k + 1, x12, x148000, x148001, x148002, x149000, x149001, x149002 => if x12 = true then (some false) else (if x148000 = x149000 then (if x148000 = 1 then (some (decide (x148001 < x149001))) else (some (Op.bytesLess x148002.toList x149002.toList))) else (some (decide (x148000 < x149000))))
def spec_MsgLess.f (k : Nat) (a0_0 : Int) (a0_1 : Int) (a0_2 : ByteArray) (a1_0 : Int) (a1_1 : Int) (a1_2 : ByteArray) : Option (Bool) := (spec_MsgOk.f k a0_0 a0_1 a0_2).bind fun t149 => (if t149 = true then ((spec_MsgOk.f k a1_0 a1_1 a1_2).bind fun t150 => (spec_MsgLess.j0 k (!t150) a0_0 a0_1 a0_2 a1_0 a1_1 a1_2)) else (spec_MsgLess.j0 k true a0_0 a0_1 a0_2 a1_0 a1_1 a1_2))
theorem spec_MsgLess.mono_l : ∀ k, (∀ y0 y1 y2 y3 y4 y5 y6, LeO (spec_MsgLess.j0 k y0 y1 y2 y3 y4 y5 y6) (spec_MsgLess.j0 (k + 1) y0 y1 y2 y3 y4 y5 y6))
 | 0 => fun _ _ _ _ _ _ _ r h => by simp [spec_MsgLess.j0] at h
 | k + 1 => by
  have ih0 := spec_MsgLess.mono_l k
  ·intro y0 y1 y2 y3 y4 y5 y6
   unfold spec_MsgLess.j0
   repeat' first
   | (with_reducible exact ih0 _ _ _ _ _ _ _)
   | (with_reducible exact spec_MsgOk.mono _ _ _ _)
   | (with_reducible exact LeO.refl _)
   | (with_reducible exact LeO.none _)
   | (with_reducible refine LeO.ite ?_ ?_)
   | (with_reducible refine LeO.bind ?_ (fun _ => ?_))
theorem spec_MsgLess.mono : ∀ a0 a1 a2 a3 a4 a5 k, LeO (spec_MsgLess.f k a0 a1 a2 a3 a4 a5) (spec_MsgLess.f (k + 1) a0 a1 a2 a3 a4 a5) := by
 intro a0 a1 a2 a3 a4 a5 k
 have ih0 := spec_MsgLess.mono_l k
 unfold spec_MsgLess.f
 repeat' first
   | (with_reducible exact ih0 _ _ _ _ _ _ _)
   | (with_reducible exact spec_MsgOk.mono _ _ _ _)
   | (with_reducible exact LeO.refl _)
   | (with_reducible exact LeO.none _)
   | (with_reducible refine LeO.ite ?_ ?_)
   | (with_reducible refine LeO.bind ?_ (fun _ => ?_))
set_option maxHeartbeats 8000000 in
set_option maxRecDepth 100000 in
theorem spec_MsgLess.calls (k : Nat) (a0_0 : Int) (a0_1 : Int) (a0_2 : ByteArray) (a1_0 : Int) (a1_1 : Int) (a1_2 : ByteArray) (r : Bool) (w : World) (h : spec_MsgLess.f k a0_0 a0_1 a0_2 a1_0 a1_1 a1_2 = some r) :
  Calls Try.prog 18 #[.agg #[.int .i64 a0_0, .int .i64 a0_1, .string a0_2], .agg #[.int .i64 a1_0, .int .i64 a1_1, .string a1_2]] w fun e w' => e = .returned (.bool r) ∧ Below w.heap.size w w' := by
 have hu27 := Try.underlying27
 have HB := am (Below.refl w.heap.size w)
 have H : ((spec_MsgOk.f k a0_0 a0_1 a0_2).bind fun t149 => (if t149 = true then ((spec_MsgOk.f k a1_0 a1_1 a1_2).bind fun t150 => (spec_MsgLess.j0 k (!t150) a0_0 a0_1 a0_2 a1_0 a1_1 a1_2)) else (spec_MsgLess.j0 k true a0_0 a0_1 a0_2 a1_0 a1_1 a1_2))) = some r := h
 clear h
 have HC3 := am H
 clear H
 go_enter Try.func18, Try.ntmps18
 go_upto_region 1 with (first | ((with_reducible refine gate_dst (N := 2) rfl ?_); refine box_event ?hg (N := 2) ?hd (cs := #[.int .i64 a0_0, .int .i64 a0_1, .string a0_2]) (t := 27) ?hr ?_; (case hd => rfl); (case hg => rfl); (case hr => first | (go_simp; done) | (go_simp; rfl)); intro gb147 hg w4 hbox hb; have BK147 := am (hbox); have GW147 := am ((by rw [hg]; exact (below_size (pkB HB.out)) : w.heap.size ≤ gb147)); have GE147 := am ((by rw [hg]; exact (below_size (pkB HB.out)) : w.heap.size ≤ gb147)); replace HB := am (below_step (pkB HB.out) hb); clear hb hbox hg) | ((with_reducible refine gate_dst (N := 3) rfl ?_); refine box_event ?hg (N := 3) ?hd (cs := #[.int .i64 a1_0, .int .i64 a1_1, .string a1_2]) (t := 27) ?hr ?_; (case hd => rfl); (case hg => rfl); (case hr => first | (go_simp; done) | (go_simp; rfl)); intro gb148 hg w5 hbox hb; have BK148 := am (hbox); have GW148 := am ((by rw [hg]; exact (below_size (pkW HB.out)) : w.heap.size ≤ gb148)); have GE148 := am ((by rw [hg]; exact (below_size (pkW HB.out)) : w.heap.size ≤ gb148)); replace HB := am (below_step (pkW HB.out) hb); have NB147_148 := am ((by rw [hg]; exact Nat.ne_of_lt (blk_lt (g := gb147) (o := .cells #[.int .i64 a0_0, .int .i64 a0_1, .string a0_2] 27 (0, 0)) (pkK BK147.out)) : gb147 ≠ gb148)); have NB148_147 := am ((by rw [hg]; exact Nat.ne_of_gt (blk_lt (g := gb147) (o := .cells #[.int .i64 a0_0, .int .i64 a0_1, .string a0_2] 27 (0, 0)) (pkK BK147.out)) : gb148 ≠ gb147)); replace BK147 := am (blk_below (pkK BK147.out) hb); clear hb hbox hg))
 (try simp only [Act.put, List.setIfInBounds_toArray, List.set_cons_zero, List.set_cons_succ])
 go_cut [12] (fun v12 wc => ∃ (kq : Nat) (x12_2 : Bool), v12 = .bool x12_2 ∧ Aside0 (spec_MsgLess.j0 kq x12_2 a0_0 a0_1 a0_2 a1_0 a1_1 a1_2 = some r) ∧ Aside0 (kq ≤ k) ∧ Aside0 (wc.heap[gb147]? = some (.cells #[.int .i64 a0_0, .int .i64 a0_1, .string a0_2] 27 (0, 0))) ∧ Aside0 (wc.heap[gb148]? = some (.cells #[.int .i64 a1_0, .int .i64 a1_1, .string a1_2] 27 (0, 0))) ∧ Aside0 (Below w.heap.size w wc))
 case first =>
  have H := HC3.out
  clear HC3
  replace H := Option.bind_eq_some_iff.mp H
  obtain ⟨t149, A60, H⟩ := H
  replace H : (if t149 = true then ((spec_MsgOk.f k a1_0 a1_1 a1_2).bind fun t150 => (spec_MsgLess.j0 k (!t150) a0_0 a0_1 a0_2 a1_0 a1_1 a1_2)) else (spec_MsgLess.j0 k true a0_0 a0_1 a0_2 a1_0 a1_1 a1_2)) = some r := H
  have A6 := am A60
  clear A60
  by_cases c7 : t149 = true
  ·subst c7
   replace H : ((spec_MsgOk.f k a1_0 a1_1 a1_2).bind fun t150 => (spec_MsgLess.j0 k (!t150) a0_0 a0_1 a0_2 a1_0 a1_1 a1_2)) = some r := by rw [if_pos rfl] at H; exact H
   replace H := Option.bind_eq_some_iff.mp H
   obtain ⟨t150, A80, H⟩ := H
   replace H : (spec_MsgLess.j0 k (!t150) a0_0 a0_1 a0_2 a1_0 a1_1 a1_2) = some r := H
   have A8 := am A80
   clear A80
   have H' := am H
   clear H
   have hnb9 := NB147_148.out
   have hnc9 := NB148_147.out
   obtain ⟨hcz10_0, hcz10_1, hcz10_2, hfz10_0, hfz10_1, hfz10_2⟩ := bk3 BK147.out
   go_wp2_with (first | ((with_reducible refine gate_callee (f := 13) rfl ?_); refine goesL_ (some 6) rfl rfl Try.func13 (by kernel_rfl) rfl #[.agg #[.int .i64 a0_0, .int .i64 a0_1, .string a0_2]] rfl mpx ?_; (with_reducible refine (spec_MsgOk.calls k a0_0 a0_1 a0_2 true _ A6.out).mono ?_); rintro e w11 ⟨rfl, hb⟩; refine ⟨_, rfl, ?_⟩; replace BK147 := am (blk_below (pkK BK147.out) hb); replace BK148 := am (blk_below (pkK BK148.out) hb); replace HB := am (below_step (pkW HB.out) hb); (try clear hb); obtain ⟨hcz12_0, hcz12_1, hcz12_2, hfz12_0, hfz12_1, hfz12_2⟩ := bk3 BK148.out) | (go_at_call 13; (with_reducible refine (spec_MsgOk.calls k a1_0 a1_1 a1_2 t150 _ A8.out).mono ?_); rintro e w13 ⟨rfl, hb⟩; replace BK147 := am (blk_below (pkK BK147.out) hb); replace BK148 := am (blk_below (pkK BK148.out) hb); replace HB := am (below_step (pkW HB.out) hb); (try clear hb)))
   go_meet
   case rel => exact ⟨_, (!t150), rfx, H', ⟨by first | omega | exact Nat.le_refl _⟩, ⟨pkK BK147.out⟩, ⟨pkK BK148.out⟩, ⟨pkW HB.out⟩⟩
  ·replace c7 := Bool.eq_false_iff.mpr c7
   subst c7
   replace H : (spec_MsgLess.j0 k true a0_0 a0_1 a0_2 a1_0 a1_1 a1_2) = some r := by rw [if_neg (show ¬ (false = true) by decide)] at H; exact H
   have H' := am H
   clear H
   have hnb14 := NB147_148.out
   have hnc14 := NB148_147.out
   obtain ⟨hcz15_0, hcz15_1, hcz15_2, hfz15_0, hfz15_1, hfz15_2⟩ := bk3 BK147.out
   go_wp2_with (first | ((with_reducible refine gate_callee (f := 13) rfl ?_); refine goesL_ (some 6) rfl rfl Try.func13 (by kernel_rfl) rfl #[.agg #[.int .i64 a0_0, .int .i64 a0_1, .string a0_2]] rfl mpx ?_; (with_reducible refine (spec_MsgOk.calls k a0_0 a0_1 a0_2 false _ A6.out).mono ?_); rintro e w16 ⟨rfl, hb⟩; refine ⟨_, rfl, ?_⟩; replace BK147 := am (blk_below (pkK BK147.out) hb); replace BK148 := am (blk_below (pkK BK148.out) hb); replace HB := am (below_step (pkW HB.out) hb); (try clear hb)))
   go_meet
   case rel => exact ⟨_, (true), rfx, H', ⟨by first | omega | exact Nat.le_refl _⟩, ⟨pkK BK147.out⟩, ⟨pkK BK148.out⟩, ⟨pkW HB.out⟩⟩
 case rest =>
  clear HC3
  try clear c1
  try clear p2
  try clear c7
  try clear c9
  try clear c13
  try clear c14
  try clear hcz10_0
  try clear hcz10_1
  try clear hcz10_2
  try clear hcz12_0
  try clear hcz12_1
  try clear hcz12_2
  try clear hcz15_0
  try clear hcz15_1
  try clear hcz15_2
  try clear hfz10_0
  try clear hfz10_1
  try clear hfz10_2
  try clear hfz12_0
  try clear hfz12_1
  try clear hfz12_2
  try clear hfz15_0
  try clear hfz15_1
  try clear hfz15_2
  obtain ⟨kq, x12_2, rfl, HA, HJ2, BK147, BK148, HB⟩ := hcut
  cases kq with
  | zero => exact absurd HA.out (by simp [spec_MsgLess.j0])
  | succ kj2 =>
   have H := HA.out
   clear HA
   simp only [spec_MsgLess.j0] at H
   by_cases c17 : x12_2 = true
   ·subst c17
    replace H : (some false) = some r := by rw [if_pos rfl] at H; exact H
    obtain rfl := Option.some.inj H
    go_wp2
    go_ret
    exact ⟨rfe, pkW HB.out⟩
   ·replace c17 := Bool.eq_false_iff.mpr c17
    subst c17
    replace H : (if a0_0 = a1_0 then (if a0_0 = 1 then (some (decide (a0_1 < a1_1))) else (some (Op.bytesLess a0_2.toList a1_2.toList))) else (some (decide (a0_0 < a1_0)))) = some r := by rw [if_neg (show ¬ (false = true) by decide)] at H; exact H
    by_cases c18 : a0_0 = a1_0
    ·rw [if_pos c18] at H
     have c18b0 : (a0_0 == a1_0) = true := beq_iff_eq.mpr c18
     have c18b1 : (a0_0 != a1_0) = false := bne_eq_false_iff_eq.mpr c18
     clear c18
     by_cases c19 : a0_0 = 1
     ·rw [if_pos c19] at H
      have c19b0 : (a0_0 == 1) = true := beq_iff_eq.mpr c19
      have c19b1 : (a0_0 != 1) = false := bne_eq_false_iff_eq.mpr c19
      clear c19
      obtain rfl := Option.some.inj H
      have hnb20 := NB147_148.out
      have hnc20 := NB148_147.out
      obtain ⟨hcz21_0, hcz21_1, hcz21_2, hfz21_0, hfz21_1, hfz21_2⟩ := bk3 BK147.out
      obtain ⟨hcz22_0, hcz22_1, hcz22_2, hfz22_0, hfz22_1, hfz22_2⟩ := bk3 BK148.out
      go_wp2
      go_ret
      exact ⟨rfe, pkW HB.out⟩
     ·rw [if_neg c19] at H
      have c19b0 : (a0_0 == 1) = false := beq_eq_false_iff_ne.mpr c19
      have c19b1 : (a0_0 != 1) = true := bne_iff_ne.mpr c19
      obtain rfl := Option.some.inj H
      have hnb23 := NB147_148.out
      have hnc23 := NB148_147.out
      obtain ⟨hcz24_0, hcz24_1, hcz24_2, hfz24_0, hfz24_1, hfz24_2⟩ := bk3 BK147.out
      obtain ⟨hcz25_0, hcz25_1, hcz25_2, hfz25_0, hfz25_1, hfz25_2⟩ := bk3 BK148.out
      go_wp2
      go_ret
      exact ⟨rfe, pkW HB.out⟩
    ·rw [if_neg c18] at H
     have c18b0 : (a0_0 == a1_0) = false := beq_eq_false_iff_ne.mpr c18
     have c18b1 : (a0_0 != a1_0) = true := bne_iff_ne.mpr c18
     obtain rfl := Option.some.inj H
     have hnb26 := NB147_148.out
     have hnc26 := NB148_147.out
     obtain ⟨hcz27_0, hcz27_1, hcz27_2, hfz27_0, hfz27_1, hfz27_2⟩ := bk3 BK147.out
     obtain ⟨hcz28_0, hcz28_1, hcz28_2, hfz28_0, hfz28_1, hfz28_2⟩ := bk3 BK148.out
     go_wp2
     go_ret
     exact ⟨rfe, pkW HB.out⟩
end Go.Proofs.Ytalehmhjddnmoaa.Z
