/- The Go functions impl_MsgOk as Lean functions, each with a proof that its code comes to just these answers; conditions: those of each theorem. -/
import Derived.Test.YtffcphplnilokaaZx0
import Derived.Test.YtffcphplnilokaaZx1
namespace Go.Proofs.Ytffcphplnilokaa.Z
open Go.RowKit Go.Proofs.YtffcphplnilokaaW.PrintWords Go.Proofs.YtffcphplnilokaaW.PrintLast Go.Proofs.YtffcphplnilokaaW.PrintMore
attribute [local go_sem] max2_int min2_int max_two min_two max_three min_three max_four min_four   -- for this text's walks alone
set_option linter.unusedVariables false
set_option linter.unusedSimpArgs false
def impl_MsgOk.l0 : Nat → Int → Int → Int → Int → ByteArray → Option (Bool)
 | 0, _, _, _, _, _ => none
 | k + 1, x20, x21, x116000, x116001, x116002 => if x21 < x20 then (if 0 ≤ x21 then (if x21 < (x116002.size : Int) then ((impl_within.f (wrap64 (bt x116002 x21)) 32 126).bind fun t117 => (if t117 = true then (if (bt x116002 x21) = 34 then (some false) else (impl_MsgOk.l0 k x20 (wrap64 (x21 + 1)) x116000 x116001 x116002)) else (some false))) else (none)) else (none)) else (if x116001 = 0 then (some (decide ((x116002.size : Int) ≤ 40))) else (some false))
def impl_MsgOk.f (k : Nat) (a0_0 : Int) (a0_1 : Int) (a0_2 : ByteArray) : Option (Bool) := if a0_0 = 1 then ((impl_within.f a0_1 (-999999999) 999999999).bind fun t116 => (if t116 = true then (some (a0_2.toList == ([] : List UInt8))) else (some false))) else (if a0_0 = 2 then (impl_MsgOk.l0 k (a0_2.size : Int) 0 a0_0 a0_1 a0_2) else (some false))
theorem impl_MsgOk.mono_l : ∀ k, (∀ y0 y1 y2 y3 y4, LeO (impl_MsgOk.l0 k y0 y1 y2 y3 y4) (impl_MsgOk.l0 (k + 1) y0 y1 y2 y3 y4))
 | 0 => fun _ _ _ _ _ r h => by simp [impl_MsgOk.l0] at h
 | k + 1 => by
  have ih0 := impl_MsgOk.mono_l k
  ·intro y0 y1 y2 y3 y4
   unfold impl_MsgOk.l0
   repeat' first
   | (with_reducible exact ih0 _ _ _ _ _)
   | (with_reducible exact LeO.refl _)
   | (with_reducible exact LeO.none _)
   | (with_reducible refine LeO.ite ?_ ?_)
   | (with_reducible refine LeO.bind ?_ (fun _ => ?_))
theorem impl_MsgOk.mono : ∀ a0 a1 a2 k, LeO (impl_MsgOk.f k a0 a1 a2) (impl_MsgOk.f (k + 1) a0 a1 a2) := by
 intro a0 a1 a2 k
 have ih0 := impl_MsgOk.mono_l k
 unfold impl_MsgOk.f
 repeat' first
   | (with_reducible exact ih0 _ _ _ _ _)
   | (with_reducible exact LeO.refl _)
   | (with_reducible exact LeO.none _)
   | (with_reducible refine LeO.ite ?_ ?_)
   | (with_reducible refine LeO.bind ?_ (fun _ => ?_))
set_option maxHeartbeats 8000000 in
set_option maxRecDepth 100000 in
theorem impl_MsgOk.calls (k : Nat) (a0_0 : Int) (a0_1 : Int) (a0_2 : ByteArray) (r : Bool) (w : World) (h : impl_MsgOk.f k a0_0 a0_1 a0_2 = some r) :
  Calls Try.prog 73 #[.agg #[.int .i64 a0_0, .int .i64 a0_1, .string a0_2]] w fun e w' => e = .returned (.bool r) ∧ Below w.heap.size w w' := by
 have hu25 := Try.underlying25
 have HB := am (Below.refl w.heap.size w)
 have H : (if a0_0 = 1 then ((impl_within.f a0_1 (-999999999) 999999999).bind fun t116 => (if t116 = true then (some (a0_2.toList == ([] : List UInt8))) else (some false))) else (if a0_0 = 2 then (impl_MsgOk.l0 k (a0_2.size : Int) 0 a0_0 a0_1 a0_2) else (some false))) = some r := h
 clear h
 by_cases c2 : a0_0 = 1
 ·rw [if_pos c2] at H
  have c2b0 : (a0_0 == 1) = true := beq_iff_eq.mpr c2
  have c2b1 : (a0_0 != 1) = false := bne_eq_false_iff_eq.mpr c2
  clear c2
  replace H := Option.bind_eq_some_iff.mp H
  obtain ⟨t116, A30, H⟩ := H
  replace H : (if t116 = true then (some (a0_2.toList == ([] : List UInt8))) else (some false)) = some r := H
  have A3 := am A30
  clear A30
  by_cases c4 : t116 = true
  ·subst c4
   replace H : (some (a0_2.toList == ([] : List UInt8))) = some r := by rw [if_pos rfl] at H; exact H
   obtain rfl := Option.some.inj H
   go_enter Try.func73, Try.ntmps73
   go_wp2_with (first | ((with_reducible refine gate_dst (N := 1) rfl ?_); (try (refine gate_guard (by rfl) ?_; dsimp only)); refine box_event ?hg (N := 1) ?hd (cs := #[.int .i64 a0_0, .int .i64 a0_1, .string a0_2]) (t := 25) ?hr ?_; (case hd => rfl); (case hg => rfl); (case hr => first | (go_simp; done) | (go_simp; rfl)); intro gb115 hg w5 hbox hb; have BK115 := am (hbox); have GW115 := am ((by rw [hg]; exact (below_size (pkB HB.out)) : w.heap.size ≤ gb115)); have GE115 := am ((by rw [hg]; exact (below_size (pkB HB.out)) : w.heap.size ≤ gb115)); replace HB := am (below_step (pkB HB.out) hb); clear hb hbox hg; obtain ⟨hcz6_0, hcz6_1, hcz6_2, hfz6_0, hfz6_1, hfz6_2⟩ := bk3 BK115.out) | ((with_reducible refine gate_callee (f := 86) rfl ?_); refine goesL_ (some 10) rfl rfl Try.func86 (by kernel_rfl) rfl #[.int .i64 a0_1, .int .i64 (-999999999), .int .i64 999999999] rfl mpx ?_; (with_reducible refine (impl_within.calls a0_1 (-999999999) 999999999 true _ A3.out).mono ?_); rintro e w' ⟨rfl, ⟨nd, rfl⟩⟩; refine ⟨_, rfl, ?_⟩))
   go_ret
   exact ⟨rfe, pkW HB.out⟩
  ·replace c4 := Bool.eq_false_iff.mpr c4
   subst c4
   replace H : (some false) = some r := by rw [if_neg (show ¬ (false = true) by decide)] at H; exact H
   obtain rfl := Option.some.inj H
   go_enter Try.func73, Try.ntmps73
   go_wp2_with (first | ((with_reducible refine gate_dst (N := 1) rfl ?_); (try (refine gate_guard (by rfl) ?_; dsimp only)); refine box_event ?hg (N := 1) ?hd (cs := #[.int .i64 a0_0, .int .i64 a0_1, .string a0_2]) (t := 25) ?hr ?_; (case hd => rfl); (case hg => rfl); (case hr => first | (go_simp; done) | (go_simp; rfl)); intro gb115 hg w7 hbox hb; have BK115 := am (hbox); have GW115 := am ((by rw [hg]; exact (below_size (pkB HB.out)) : w.heap.size ≤ gb115)); have GE115 := am ((by rw [hg]; exact (below_size (pkB HB.out)) : w.heap.size ≤ gb115)); replace HB := am (below_step (pkB HB.out) hb); clear hb hbox hg; obtain ⟨hcz8_0, hcz8_1, hcz8_2, hfz8_0, hfz8_1, hfz8_2⟩ := bk3 BK115.out) | ((with_reducible refine gate_callee (f := 86) rfl ?_); refine goesL_ (some 10) rfl rfl Try.func86 (by kernel_rfl) rfl #[.int .i64 a0_1, .int .i64 (-999999999), .int .i64 999999999] rfl mpx ?_; (with_reducible refine (impl_within.calls a0_1 (-999999999) 999999999 false _ A3.out).mono ?_); rintro e w' ⟨rfl, ⟨nd, rfl⟩⟩; refine ⟨_, rfl, ?_⟩))
   go_ret
   exact ⟨rfe, pkW HB.out⟩
 ·rw [if_neg c2] at H
  have c2b0 : (a0_0 == 1) = false := beq_eq_false_iff_ne.mpr c2
  have c2b1 : (a0_0 != 1) = true := bne_iff_ne.mpr c2
  by_cases c9 : a0_0 = 2
  ·rw [if_pos c9] at H
   have c9b0 : (a0_0 == 2) = true := beq_iff_eq.mpr c9
   have c9b1 : (a0_0 != 2) = false := bne_eq_false_iff_eq.mpr c9
   clear c9
   have H' := am H
   clear H
   go_enter Try.func73, Try.ntmps73
   go_wp2_with (first | ((with_reducible refine gate_dst (N := 1) rfl ?_); (try (refine gate_guard (by rfl) ?_; dsimp only)); refine box_event ?hg (N := 1) ?hd (cs := #[.int .i64 a0_0, .int .i64 a0_1, .string a0_2]) (t := 25) ?hr ?_; (case hd => rfl); (case hg => rfl); (case hr => first | (go_simp; done) | (go_simp; rfl)); intro gb115 hg w10 hbox hb; have BK115 := am (hbox); have GW115 := am ((by rw [hg]; exact (below_size (pkB HB.out)) : w.heap.size ≤ gb115)); have GE115 := am ((by rw [hg]; exact (below_size (pkB HB.out)) : w.heap.size ≤ gb115)); replace HB := am (below_step (pkB HB.out) hb); clear hb hbox hg; obtain ⟨hcz11_0, hcz11_1, hcz11_2, hfz11_0, hfz11_1, hfz11_2⟩ := bk3 BK115.out))
   go_loopg [21] k (fun kq v21 w' => ∃ (x21_1 : Int), v21 = .int .i64 x21_1 ∧ Aside0 (impl_MsgOk.l0 kq (a0_2.size : Int) x21_1 a0_0 a0_1 a0_2 = some r) ∧ Aside0 (kq ≤ k) ∧ Aside0 (w'.heap[gb115]? = some (.cells #[.int .i64 a0_0, .int .i64 a0_1, .string a0_2] 25 (0, 0))) ∧ Aside0 (Below w.heap.size w w'))
   case atStart => exact ⟨(0), rfx, H', ⟨Nat.le_refl _⟩, ⟨pkK BK115.out⟩, ⟨pkW HB.out⟩⟩
   case round =>
    clear H'
    try clear c2
    try clear c2b0
    try clear c2b1
    try clear p2
    try clear c4
    try clear c7
    try clear c8
    try clear c9
    try clear c9b0
    try clear c9b1
    try clear hcz11_0
    try clear hcz11_1
    try clear hcz11_2
    try clear hcz6_0
    try clear hcz6_1
    try clear hcz6_2
    try clear hcz8_0
    try clear hcz8_1
    try clear hcz8_2
    try clear hfz11_0
    try clear hfz11_1
    try clear hfz11_2
    try clear hfz6_0
    try clear hfz6_1
    try clear hfz6_2
    try clear hfz8_0
    try clear hfz8_1
    try clear hfz8_2
    obtain ⟨x21_1, rfl, HA, HK1, BK115, HB⟩ := hrel
    cases gk with
    | zero => exact absurd HA.out (by simp [impl_MsgOk.l0])
    | succ k1 =>
     have H := HA.out
     clear HA
     simp only [impl_MsgOk.l0] at H
     by_cases c12 : x21_1 < (a0_2.size : Int)
     ·rw [if_pos c12] at H
      have c12b0 : decide (x21_1 < (a0_2.size : Int)) = true := decide_eq_true c12
      clear c12
      by_cases c13 : 0 ≤ x21_1
      ·rw [if_pos c13] at H
       have c13b0 : decide (0 ≤ x21_1) = true := decide_eq_true c13
       clear c13
       by_cases c14 : x21_1 < (a0_2.size : Int)
       ·rw [if_pos c14] at H
        have c14b0 : decide (x21_1 < (a0_2.size : Int)) = true := decide_eq_true c14
        clear c14
        replace H := Option.bind_eq_some_iff.mp H
        obtain ⟨t117, A160, H⟩ := H
        replace H : (if t117 = true then (if (bt a0_2 x21_1) = 34 then (some false) else (impl_MsgOk.l0 k1 (a0_2.size : Int) (wrap64 (x21_1 + 1)) a0_0 a0_1 a0_2)) else (some false)) = some r := H
        have A16 := am A160
        clear A160
        by_cases c17 : t117 = true
        ·subst c17
         replace H : (if (bt a0_2 x21_1) = 34 then (some false) else (impl_MsgOk.l0 k1 (a0_2.size : Int) (wrap64 (x21_1 + 1)) a0_0 a0_1 a0_2)) = some r := by rw [if_pos rfl] at H; exact H
         by_cases c19 : (bt a0_2 x21_1) = 34
         ·rw [if_pos c19] at H
          have c19b0 : ((bt a0_2 x21_1) == 34) = true := beq_iff_eq.mpr c19
          have c19b1 : ((bt a0_2 x21_1) != 34) = false := bne_eq_false_iff_eq.mpr c19
          clear c19
          obtain rfl := Option.some.inj H
          obtain ⟨hcz20_0, hcz20_1, hcz20_2, hfz20_0, hfz20_1, hfz20_2⟩ := bk3 BK115.out
          have p15 : 0 ≤ (x21_1 : Int) := ofd
          have q15 : x21_1 < (a0_2.size : Int) := ofd
          have hx15 := bt_at a0_2 x21_1
          replace p15 := eq_true p15
          replace q15 := eq_true q15
          go_wp2_with (first | ((with_reducible refine gate_callee (f := 86) rfl ?_); refine goesL_ (some 29) rfl rfl Try.func86 (by kernel_rfl) rfl #[.int .i64 (wrap64 (bt a0_2 x21_1)), .int .i64 32, .int .i64 126] rfl mpx ?_; (with_reducible refine (impl_within.calls (wrap64 (bt a0_2 x21_1)) 32 126 true _ A16.out).mono ?_); rintro e w' ⟨rfl, ⟨nd, rfl⟩⟩; refine ⟨_, rfl, ?_⟩; have p18 : 0 ≤ (x21_1 : Int) := ofd; have q18 : x21_1 < (a0_2.size : Int) := ofd; have hx18 := bt_at a0_2 x21_1; replace p18 := eq_true p18; replace q18 := eq_true q18))
          go_ret
          exact ⟨rfe, pkW HB.out⟩
         ·rw [if_neg c19] at H
          have c19b0 : ((bt a0_2 x21_1) == 34) = false := beq_eq_false_iff_ne.mpr c19
          have c19b1 : ((bt a0_2 x21_1) != 34) = true := bne_iff_ne.mpr c19
          have H' := am H
          clear H
          obtain ⟨hcz21_0, hcz21_1, hcz21_2, hfz21_0, hfz21_1, hfz21_2⟩ := bk3 BK115.out
          have p15 : 0 ≤ (x21_1 : Int) := ofd
          have q15 : x21_1 < (a0_2.size : Int) := ofd
          have hx15 := bt_at a0_2 x21_1
          replace p15 := eq_true p15
          replace q15 := eq_true q15
          go_wp2_with (first | ((with_reducible refine gate_callee (f := 86) rfl ?_); refine goesL_ (some 29) rfl rfl Try.func86 (by kernel_rfl) rfl #[.int .i64 (wrap64 (bt a0_2 x21_1)), .int .i64 32, .int .i64 126] rfl mpx ?_; (with_reducible refine (impl_within.calls (wrap64 (bt a0_2 x21_1)) 32 126 true _ A16.out).mono ?_); rintro e w' ⟨rfl, ⟨nd, rfl⟩⟩; refine ⟨_, rfl, ?_⟩; have p18 : 0 ≤ (x21_1 : Int) := ofd; have q18 : x21_1 < (a0_2.size : Int) := ofd; have hx18 := bt_at a0_2 x21_1; replace p18 := eq_true p18; replace q18 := eq_true q18))
          go_roundg k1
          case measure => have := HK1.out; omega
          case rel => exact ⟨(wrap64 (x21_1 + 1)), rfx, H', ⟨by have := HK1.out; omega⟩, ⟨pkK BK115.out⟩, ⟨pkW HB.out⟩⟩
        ·replace c17 := Bool.eq_false_iff.mpr c17
         subst c17
         replace H : (some false) = some r := by rw [if_neg (show ¬ (false = true) by decide)] at H; exact H
         obtain rfl := Option.some.inj H
         obtain ⟨hcz22_0, hcz22_1, hcz22_2, hfz22_0, hfz22_1, hfz22_2⟩ := bk3 BK115.out
         have p15 : 0 ≤ (x21_1 : Int) := ofd
         have q15 : x21_1 < (a0_2.size : Int) := ofd
         have hx15 := bt_at a0_2 x21_1
         replace p15 := eq_true p15
         replace q15 := eq_true q15
         go_wp2_with (first | ((with_reducible refine gate_callee (f := 86) rfl ?_); refine goesL_ (some 29) rfl rfl Try.func86 (by kernel_rfl) rfl #[.int .i64 (wrap64 (bt a0_2 x21_1)), .int .i64 32, .int .i64 126] rfl mpx ?_; (with_reducible refine (impl_within.calls (wrap64 (bt a0_2 x21_1)) 32 126 false _ A16.out).mono ?_); rintro e w' ⟨rfl, ⟨nd, rfl⟩⟩; refine ⟨_, rfl, ?_⟩))
         go_ret
         exact ⟨rfe, pkW HB.out⟩
       ·rw [if_neg c14] at H
        exact absurd H (by simp)
      ·rw [if_neg c13] at H
       exact absurd H (by simp)
     ·rw [if_neg c12] at H
      have c12b0 : decide (x21_1 < (a0_2.size : Int)) = false := decide_eq_false c12
      clear c12
      by_cases c23 : a0_1 = 0
      ·rw [if_pos c23] at H
       have c23b0 : (a0_1 == 0) = true := beq_iff_eq.mpr c23
       have c23b1 : (a0_1 != 0) = false := bne_eq_false_iff_eq.mpr c23
       clear c23
       obtain rfl := Option.some.inj H
       obtain ⟨hcz24_0, hcz24_1, hcz24_2, hfz24_0, hfz24_1, hfz24_2⟩ := bk3 BK115.out
       go_wp2
       go_ret
       exact ⟨rfe, pkW HB.out⟩
      ·rw [if_neg c23] at H
       have c23b0 : (a0_1 == 0) = false := beq_eq_false_iff_ne.mpr c23
       have c23b1 : (a0_1 != 0) = true := bne_iff_ne.mpr c23
       obtain rfl := Option.some.inj H
       obtain ⟨hcz25_0, hcz25_1, hcz25_2, hfz25_0, hfz25_1, hfz25_2⟩ := bk3 BK115.out
       go_wp2
       go_ret
       exact ⟨rfe, pkW HB.out⟩
  ·rw [if_neg c9] at H
   have c9b0 : (a0_0 == 2) = false := beq_eq_false_iff_ne.mpr c9
   have c9b1 : (a0_0 != 2) = true := bne_iff_ne.mpr c9
   obtain rfl := Option.some.inj H
   go_enter Try.func73, Try.ntmps73
   go_wp2_with (first | ((with_reducible refine gate_dst (N := 1) rfl ?_); (try (refine gate_guard (by rfl) ?_; dsimp only)); refine box_event ?hg (N := 1) ?hd (cs := #[.int .i64 a0_0, .int .i64 a0_1, .string a0_2]) (t := 25) ?hr ?_; (case hd => rfl); (case hg => rfl); (case hr => first | (go_simp; done) | (go_simp; rfl)); intro gb115 hg w26 hbox hb; have BK115 := am (hbox); have GW115 := am ((by rw [hg]; exact (below_size (pkB HB.out)) : w.heap.size ≤ gb115)); have GE115 := am ((by rw [hg]; exact (below_size (pkB HB.out)) : w.heap.size ≤ gb115)); replace HB := am (below_step (pkB HB.out) hb); clear hb hbox hg; obtain ⟨hcz27_0, hcz27_1, hcz27_2, hfz27_0, hfz27_1, hfz27_2⟩ := bk3 BK115.out))
   go_ret
   exact ⟨rfe, pkW HB.out⟩
end Go.Proofs.Ytffcphplnilokaa.Z
