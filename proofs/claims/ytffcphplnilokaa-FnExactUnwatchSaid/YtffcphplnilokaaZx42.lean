/- The Go functions laws_markCell, laws_heldCell as Lean functions, each with a proof that its code comes to just these answers; conditions: those of each theorem. -/
import Derived.Test.YtffcphplnilokaaZx0
import Derived.Test.YtffcphplnilokaaZx32
import Derived.Test.YtffcphplnilokaaZx33
namespace Go.Proofs.Ytffcphplnilokaa.Z
open Go.RowKit Go.Proofs.YtffcphplnilokaaW.PrintWords Go.Proofs.YtffcphplnilokaaW.PrintLast Go.Proofs.YtffcphplnilokaaW.PrintMore
attribute [local go_sem] max2_int min2_int max_two min_two max_three min_three max_four min_four   -- for this text's walks alone
set_option linter.unusedVariables false
set_option linter.unusedSimpArgs false
def laws_markCell.f (k : Nat) (a0_0 : Int) (a0_1 : Int) (a0_2 : ByteArray) (a0_3 : Int) (a0_4 : Bool) (l0_5 : List Int) (l0_6 : List Int) (a1 : Int) : Option (Int × List Int × List Int) := (laws_markIntS.f k l0_5 a1).bind fun bt1108 => ((laws_markIntS.f k l0_6 bt1108.1).bind fun bt1110 => (some (bt1110.1, bt1108.2, bt1110.2)))
theorem laws_markCell.mono : ∀ a0 a1 a2 a3 a4 a5 a6 a7 k, LeO (laws_markCell.f k a0 a1 a2 a3 a4 a5 a6 a7) (laws_markCell.f (k + 1) a0 a1 a2 a3 a4 a5 a6 a7) := by
 intro a0 a1 a2 a3 a4 a5 a6 a7 k
 unfold laws_markCell.f
 repeat' first
   | (with_reducible exact laws_markIntS.mono _ _ _)
   | (with_reducible exact LeO.refl _)
   | (with_reducible exact LeO.none _)
   | (with_reducible refine LeO.ite ?_ ?_)
   | (with_reducible refine LeO.bind ?_ (fun _ => ?_))
set_option maxHeartbeats 8000000 in
set_option maxRecDepth 100000 in
theorem laws_markCell.calls (k : Nat) (a0_0 : Int) (a0_1 : Int) (a0_2 : ByteArray) (a0_3 : Int) (a0_4 : Bool) (P0_5_ : Nat → Prop) (u9000_ : Value) (l0_5 : List Int) (P0_6_ : Nat → Prop) (u9001_ : Value) (l0_6 : List Int) (a1 : Int) (r1 : Int) (r2 : List Int) (r3 : List Int) (w0 w : World) (hB : Below w0.heap.size w0 w) (ho0_5 : Kd.R (Kd.int .i64) 3 w w0.heap.size P0_5_ u9000_ l0_5) (hp0_5_0_6 : ∀ k_, P0_5_ k_ → ¬ P0_6_ k_) (ho0_6 : Kd.R (Kd.int .i64) 3 w w0.heap.size P0_6_ u9001_ l0_6) (hp0_6_0_5 : ∀ k_, P0_6_ k_ → ¬ P0_5_ k_) (h : laws_markCell.f k a0_0 a0_1 a0_2 a0_3 a0_4 l0_5 l0_6 a1 = some (r1, r2, r3)) :
  Calls Try.prog 48 #[.agg #[.int .i64 a0_0, .int .i64 a0_1, .string a0_2, .int .i64 a0_3, .bool a0_4, u9000_, u9001_], .int .i64 a1] w fun e w' => e = .returned (.int .i64 r1) ∧ Kd.R (Kd.int .i64) 3 w' w0.heap.size (fun k_ => ((P0_5_ k_ ∨ P0_6_ k_) ∨ w.heap.size ≤ k_)) u9000_ r2 ∧ Kd.R (Kd.int .i64) 3 w' w0.heap.size (fun k_ => ((P0_5_ k_ ∨ P0_6_ k_) ∨ w.heap.size ≤ k_)) u9001_ r3 ∧ Below w0.heap.size w0 w' ∧ Kept w w' (fun k_ => P0_5_ k_ ∨ P0_6_ k_) := by
 have hu29 := Try.underlying29
 have HO0_5 := am (show Kd.R (Kd.int .i64) 3 w w0.heap.size (fun k_ => ((P0_5_ k_ ∨ P0_6_ k_) ∨ w.heap.size ≤ k_) ∧ some k_ ≠ (u9001_ : Value).ownBlock) u9000_ l0_5 from Kd.R_mono ho0_5 (fun k_ hk => ⟨(.inl (.inl hk)), fun e_ => hp0_5_0_6 k_ hk (ho0_6.1 k_ e_.symm)⟩))
 have HO0_6 := am (show Kd.R (Kd.int .i64) 3 w w0.heap.size (fun k_ => ((P0_5_ k_ ∨ P0_6_ k_) ∨ w.heap.size ≤ k_) ∧ some k_ ≠ (u9000_ : Value).ownBlock) u9001_ l0_6 from Kd.R_mono ho0_6 (fun k_ hk => ⟨(.inl (.inr hk)), fun e_ => hp0_6_0_5 k_ hk (ho0_5.1 k_ e_.symm)⟩))
 have HK := am (Kept.refl w (fun k_ => P0_5_ k_ ∨ P0_6_ k_))
 have HW0 := am hB.size
 have HB := am hB
 clear hB
 have H : ((laws_markIntS.f k l0_5 a1).bind fun bt1108 => ((laws_markIntS.f k l0_6 bt1108.1).bind fun bt1110 => (some (bt1110.1, bt1108.2, bt1110.2)))) = some (r1, r2, r3) := h
 clear h
 replace H := Option.bind_eq_some_iff.mp H
 obtain ⟨⟨t1108, t1109⟩, A30, H⟩ := H
 replace H : ((laws_markIntS.f k l0_6 t1108).bind fun bt1110 => (some (bt1110.1, t1109, bt1110.2))) = some (r1, r2, r3) := H
 have A3 := am A30
 clear A30
 replace H := Option.bind_eq_some_iff.mp H
 obtain ⟨⟨t1110, t1111⟩, A40, H⟩ := H
 replace H : (some (t1110, t1109, t1111)) = some (r1, r2, r3) := H
 have A4 := am A40
 clear A40
 simp only [Option.some.injEq, Prod.mk.injEq] at H
 obtain ⟨rfl, rfl, rfl⟩ := H
 obtain ⟨Ao5, co5, eo5⟩ := Kd.R_slice HO0_5.out
 subst eo5
 obtain ⟨Ao6, co6, eo6⟩ := Kd.R_slice HO0_6.out
 subst eo6
 go_enter Try.func48, Try.ntmps48
 go_wp2_with (first | ((with_reducible refine gate_dst (N := 2) rfl ?_); refine box_event ?hg (N := 2) ?hd (cs := #[.int .i64 a0_0, .int .i64 a0_1, .string a0_2, .int .i64 a0_3, .bool a0_4, .slice Ao5 l0_5.length co5, .slice Ao6 l0_6.length co6]) (t := 29) ?hr ?_; (case hd => rfl); (case hg => rfl); (case hr => first | (go_simp; done) | (go_simp; rfl)); intro gb1107 hg w7 hbox hb; replace HO0_5 := am (Kd.R_below (pkR HO0_5.out) hb); replace HO0_6 := am (Kd.R_below (pkR HO0_6.out) hb); have BK1107 := am (hbox); have GW1107 := am ((by rw [hg]; exact (by first | exact HK.out.1 | exact (show Kept w _ (fun k_ => P0_5_ k_ ∨ P0_6_ k_) from by repeat (first | (with_reducible first | exact HK.out | apply Kept.alloc | apply Kept.drewN | apply Kept.drew) | exact HK.out)).1) : w.heap.size ≤ gb1107)); replace HK := am (Kept.below (S := (fun k_ => P0_5_ k_ ∨ P0_6_ k_)) (by repeat (first | (with_reducible first | exact HK.out | apply Kept.alloc | apply Kept.drewN | apply Kept.drew) | exact HK.out)) hb); have GE1107 := am ((by rw [hg]; exact (below_size (pkB HB.out)) : w0.heap.size ≤ gb1107)); replace HB := am (below_step (pkB HB.out) hb); clear hb hbox hg; obtain ⟨hcz8_0, hcz8_1, hcz8_2, hcz8_3, hcz8_4, hcz8_5, hcz8_6, hfz8_0, hfz8_1, hfz8_2, hfz8_3, hfz8_4, hfz8_5, hfz8_6⟩ := bk7 BK1107.out) | ((with_reducible refine gate_callee (f := 45) rfl ?_); refine goesL_ (some 8) rfl rfl Try.func45 (by kernel_rfl) rfl #[.slice Ao5 l0_5.length co5, .int .i64 a1] rfl mpx ?_; (with_reducible refine (laws_markIntS.calls k (fun k_ => some k_ = (.slice Ao5 l0_5.length co5 : Value).ownBlock) (.slice Ao5 l0_5.length co5) l0_5 a1 t1108 t1109 w0 _ ?side1 ?side2 A3.out).mono ?_); (case side1 => repeat (first | (with_reducible first | exact HB.out | apply below_alloc | apply pw_below_drewN | apply below_drew1 | refine below_set ?_ GE1107.out) | exact HB.out)); (case side2 => exact Kd.R_tight rfl HO0_5.out); rintro e w9 ⟨rfl, hy0, hb, hkp⟩; refine ⟨_, rfl, ?_⟩; replace HO0_6 := am (Kd.R_mono (ok' := fun k_ => ((P0_5_ k_ ∨ P0_6_ k_) ∨ w.heap.size ≤ k_) ∧ some k_ ≠ (.slice Ao5 l0_5.length co5 : Value).ownBlock) (Kd.R_keptB (HO0_6.out) hkp (fun k_ hk_ hs_ => (hk_.2) hs_)) (fun k_ hk_ => ⟨hk_.1.1, hk_.1.2⟩)); replace BK1107 := am (blk_kept (pkK BK1107.out) hkp (fun hs_ => (fun e_ => (Kd.R_ne HO0_5.out BK1107.out (by decide)) e_) hs_)); replace HK := am (Kept.then_ (S := (fun k_ => P0_5_ k_ ∨ P0_6_ k_)) (by repeat (first | (with_reducible first | exact HK.out | apply Kept.alloc | apply Kept.drewN | apply Kept.drew | refine Kept.setCell ?_ (.inr GW1107.out) _) | exact HK.out)) hkp (fun k_ hs_ => (fun e_ => (HO0_5.out.1 k_ e_.symm).1) hs_)); replace HO0_5 := am (Kd.R_reok rfl hy0 (fun k_ e_ => HO0_5.out.1 k_ e_)); replace HB := am (hb); (try clear hb); (try clear hkp); (try clear hy0); obtain ⟨hcz10_0, hcz10_1, hcz10_2, hcz10_3, hcz10_4, hcz10_5, hcz10_6, hfz10_0, hfz10_1, hfz10_2, hfz10_3, hfz10_4, hfz10_5, hfz10_6⟩ := bk7 BK1107.out) | ((with_reducible refine gate_callee (f := 45) rfl ?_); refine goesL_ (some 12) rfl rfl Try.func45 (by kernel_rfl) rfl #[.slice Ao6 l0_6.length co6, .int .i64 t1108] rfl mpx ?_; (with_reducible refine (laws_markIntS.calls k (fun k_ => some k_ = (.slice Ao6 l0_6.length co6 : Value).ownBlock) (.slice Ao6 l0_6.length co6) l0_6 t1108 t1110 t1111 w0 _ ?side1 ?side2 A4.out).mono ?_); (case side1 => repeat (first | (with_reducible first | exact HB.out | apply below_alloc | apply pw_below_drewN | apply below_drew1 | refine below_set ?_ GE1107.out) | exact HB.out)); (case side2 => exact Kd.R_tight rfl HO0_6.out); rintro e w11 ⟨rfl, hy0, hb, hkp⟩; refine ⟨_, rfl, ?_⟩; replace HO0_5 := am (Kd.R_mono (ok' := fun k_ => ((P0_5_ k_ ∨ P0_6_ k_) ∨ w.heap.size ≤ k_) ∧ some k_ ≠ (.slice Ao6 l0_6.length co6 : Value).ownBlock) (Kd.R_keptB (HO0_5.out) hkp (fun k_ hk_ hs_ => (hk_.2) hs_)) (fun k_ hk_ => ⟨hk_.1.1, hk_.1.2⟩)); replace BK1107 := am (blk_kept (pkK BK1107.out) hkp (fun hs_ => (fun e_ => (Kd.R_ne HO0_6.out BK1107.out (by decide)) e_) hs_)); replace HK := am (Kept.then_ (S := (fun k_ => P0_5_ k_ ∨ P0_6_ k_)) (by repeat (first | (with_reducible first | exact HK.out | apply Kept.alloc | apply Kept.drewN | apply Kept.drew | refine Kept.setCell ?_ (.inr GW1107.out) _) | exact HK.out)) hkp (fun k_ hs_ => (fun e_ => (HO0_6.out.1 k_ e_.symm).1) hs_)); replace HO0_6 := am (Kd.R_reok rfl hy0 (fun k_ e_ => HO0_6.out.1 k_ e_)); replace HB := am (hb); (try clear hb); (try clear hkp); (try clear hy0)))
 go_ret
 exact ⟨rfe, by (with_reducible repeat (first | apply Kd.R_alloc | apply Kd.R_drewN | apply Kd.R_drew)); exact Kd.R_mono HO0_5.out (fun _ hk => hk.1), by (with_reducible repeat (first | apply Kd.R_alloc | apply Kd.R_drewN | apply Kd.R_drew)); exact Kd.R_mono HO0_6.out (fun _ hk => hk.1), pkW HB.out, by repeat (first | (with_reducible first | exact HK.out | apply Kept.alloc | apply Kept.drewN | apply Kept.drew | refine Kept.setCell ?_ (.inr GW1107.out) _) | exact HK.out)⟩
def laws_heldCell.f (k : Nat) (a0_0 : Int) (a0_1 : Int) (a0_2 : ByteArray) (a0_3 : Int) (a0_4 : Bool) (l0_5 : List Int) (l0_6 : List Int) (a1 : Int) : Option (Int) := (laws_heldIntS.f k l0_5 a1).bind fun t1113 => (if t1113 < 0 then (some (-1)) else ((laws_heldIntS.f k l0_6 t1113).bind fun t1114 => (if t1114 < 0 then (some (-1)) else (some t1114))))
theorem laws_heldCell.mono : ∀ a0 a1 a2 a3 a4 a5 a6 a7 k, LeO (laws_heldCell.f k a0 a1 a2 a3 a4 a5 a6 a7) (laws_heldCell.f (k + 1) a0 a1 a2 a3 a4 a5 a6 a7) := by
 intro a0 a1 a2 a3 a4 a5 a6 a7 k
 unfold laws_heldCell.f
 repeat' first
   | (with_reducible exact laws_heldIntS.mono _ _ _)
   | (with_reducible exact LeO.refl _)
   | (with_reducible exact LeO.none _)
   | (with_reducible refine LeO.ite ?_ ?_)
   | (with_reducible refine LeO.bind ?_ (fun _ => ?_))
set_option maxHeartbeats 8000000 in
set_option maxRecDepth 100000 in
theorem laws_heldCell.calls (k : Nat) (a0_0 : Int) (a0_1 : Int) (a0_2 : ByteArray) (a0_3 : Int) (a0_4 : Bool) (A0_5 : Option Addr) (c0_5 : Nat) (l0_5 : List Int) (A0_6 : Option Addr) (c0_6 : Nat) (l0_6 : List Int) (a1 : Int) (r : Int) (w : World) (hr0_5 : Kd.C (Kd.int .i64) w A0_5 l0_5.length l0_5) (hc0_5 : l0_5.length ≤ c0_5) (hr0_6 : Kd.C (Kd.int .i64) w A0_6 l0_6.length l0_6) (hc0_6 : l0_6.length ≤ c0_6) (h : laws_heldCell.f k a0_0 a0_1 a0_2 a0_3 a0_4 l0_5 l0_6 a1 = some r) :
  Calls Try.prog 49 #[.agg #[.int .i64 a0_0, .int .i64 a0_1, .string a0_2, .int .i64 a0_3, .bool a0_4, .slice A0_5 l0_5.length c0_5, .slice A0_6 l0_6.length c0_6], .int .i64 a1] w fun e w' => e = .returned (.int .i64 r) ∧ Below w.heap.size w w' := by
 have hu29 := Try.underlying29
 have HR0_5 := am hr0_5
 have HC0_5 := am hc0_5
 clear hr0_5 hc0_5
 have HR0_6 := am hr0_6
 have HC0_6 := am hc0_6
 clear hr0_6 hc0_6
 have HB := am (Below.refl w.heap.size w)
 have H : ((laws_heldIntS.f k l0_5 a1).bind fun t1113 => (if t1113 < 0 then (some (-1)) else ((laws_heldIntS.f k l0_6 t1113).bind fun t1114 => (if t1114 < 0 then (some (-1)) else (some t1114))))) = some r := h
 clear h
 replace H := Option.bind_eq_some_iff.mp H
 obtain ⟨t1113, A30, H⟩ := H
 replace H : (if t1113 < 0 then (some (-1)) else ((laws_heldIntS.f k l0_6 t1113).bind fun t1114 => (if t1114 < 0 then (some (-1)) else (some t1114)))) = some r := H
 have A3 := am A30
 clear A30
 by_cases c4 : t1113 < 0
 ·rw [if_pos c4] at H
  have c4b0 : decide (t1113 < 0) = true := decide_eq_true c4
  clear c4
  obtain rfl := Option.some.inj H
  go_enter Try.func49, Try.ntmps49
  go_wp2_with (first | ((with_reducible refine gate_dst (N := 2) rfl ?_); refine box_event ?hg (N := 2) ?hd (cs := #[.int .i64 a0_0, .int .i64 a0_1, .string a0_2, .int .i64 a0_3, .bool a0_4, .slice A0_5 l0_5.length c0_5, .slice A0_6 l0_6.length c0_6]) (t := 29) ?hr ?_; (case hd => rfl); (case hg => rfl); (case hr => first | (go_simp; done) | (go_simp; rfl)); intro gb1112 hg w5 hbox hb; have BK1112 := am (hbox); have GW1112 := am ((by rw [hg]; exact (below_size (pkB HB.out)) : w.heap.size ≤ gb1112)); have GE1112 := am ((by rw [hg]; exact (below_size (pkB HB.out)) : w.heap.size ≤ gb1112)); replace HB := am (below_step (pkB HB.out) hb); clear hb hbox hg; obtain ⟨hcz6_0, hcz6_1, hcz6_2, hcz6_3, hcz6_4, hcz6_5, hcz6_6, hfz6_0, hfz6_1, hfz6_2, hfz6_3, hfz6_4, hfz6_5, hfz6_6⟩ := bk7 BK1112.out) | ((with_reducible refine gate_callee (f := 46) rfl ?_); refine goesL_ (some 8) rfl rfl Try.func46 (by kernel_rfl) rfl #[.slice A0_5 l0_5.length c0_5, .int .i64 a1] rfl mpx ?_; (with_reducible refine (laws_heldIntS.calls k _ _ l0_5 a1 t1113 _ ?side1 ?side2 A3.out).mono ?_); (case side1 => exact pkC (Kd.C_below HR0_5.out HB.out)); (case side2 => exact HC0_5.out); rintro e w' ⟨rfl, ⟨nd, rfl⟩⟩; refine ⟨_, rfl, ?_⟩))
  go_ret
  exact ⟨rfe, pkW HB.out⟩
 ·rw [if_neg c4] at H
  have c4b0 : decide (t1113 < 0) = false := decide_eq_false c4
  clear c4
  replace H := Option.bind_eq_some_iff.mp H
  obtain ⟨t1114, A70, H⟩ := H
  replace H : (if t1114 < 0 then (some (-1)) else (some t1114)) = some r := H
  have A7 := am A70
  clear A70
  by_cases c8 : t1114 < 0
  ·rw [if_pos c8] at H
   have c8b0 : decide (t1114 < 0) = true := decide_eq_true c8
   clear c8
   obtain rfl := Option.some.inj H
   go_enter Try.func49, Try.ntmps49
   go_wp2_with (first | ((with_reducible refine gate_dst (N := 2) rfl ?_); refine box_event ?hg (N := 2) ?hd (cs := #[.int .i64 a0_0, .int .i64 a0_1, .string a0_2, .int .i64 a0_3, .bool a0_4, .slice A0_5 l0_5.length c0_5, .slice A0_6 l0_6.length c0_6]) (t := 29) ?hr ?_; (case hd => rfl); (case hg => rfl); (case hr => first | (go_simp; done) | (go_simp; rfl)); intro gb1112 hg w9 hbox hb; have BK1112 := am (hbox); have GW1112 := am ((by rw [hg]; exact (below_size (pkB HB.out)) : w.heap.size ≤ gb1112)); have GE1112 := am ((by rw [hg]; exact (below_size (pkB HB.out)) : w.heap.size ≤ gb1112)); replace HB := am (below_step (pkB HB.out) hb); clear hb hbox hg; obtain ⟨hcz10_0, hcz10_1, hcz10_2, hcz10_3, hcz10_4, hcz10_5, hcz10_6, hfz10_0, hfz10_1, hfz10_2, hfz10_3, hfz10_4, hfz10_5, hfz10_6⟩ := bk7 BK1112.out) | ((with_reducible refine gate_callee (f := 46) rfl ?_); refine goesL_ (some 8) rfl rfl Try.func46 (by kernel_rfl) rfl #[.slice A0_5 l0_5.length c0_5, .int .i64 a1] rfl mpx ?_; (with_reducible refine (laws_heldIntS.calls k _ _ l0_5 a1 t1113 _ ?side1 ?side2 A3.out).mono ?_); (case side1 => exact pkC (Kd.C_below HR0_5.out HB.out)); (case side2 => exact HC0_5.out); rintro e w' ⟨rfl, ⟨nd, rfl⟩⟩; refine ⟨_, rfl, ?_⟩) | ((with_reducible refine gate_callee (f := 46) rfl ?_); refine goesL_ (some 14) rfl rfl Try.func46 (by kernel_rfl) rfl #[.slice A0_6 l0_6.length c0_6, .int .i64 t1113] rfl mpx ?_; (with_reducible refine (laws_heldIntS.calls k _ _ l0_6 t1113 t1114 _ ?side1 ?side2 A7.out).mono ?_); (case side1 => repeat (first | exact (Kd.C_below HR0_6.out (pkW HB.out)) | (with_reducible refine Kd.C_alloc ?_ _) | (with_reducible refine Kd.C_drewN ?_ _) | (with_reducible refine Kd.C_drew ?_))); (case side2 => exact HC0_6.out); rintro e w' ⟨rfl, ⟨nd, rfl⟩⟩; refine ⟨_, rfl, ?_⟩))
   go_ret
   exact ⟨rfe, pkW HB.out⟩
  ·rw [if_neg c8] at H
   have c8b0 : decide (t1114 < 0) = false := decide_eq_false c8
   clear c8
   obtain rfl := Option.some.inj H
   go_enter Try.func49, Try.ntmps49
   go_wp2_with (first | ((with_reducible refine gate_dst (N := 2) rfl ?_); refine box_event ?hg (N := 2) ?hd (cs := #[.int .i64 a0_0, .int .i64 a0_1, .string a0_2, .int .i64 a0_3, .bool a0_4, .slice A0_5 l0_5.length c0_5, .slice A0_6 l0_6.length c0_6]) (t := 29) ?hr ?_; (case hd => rfl); (case hg => rfl); (case hr => first | (go_simp; done) | (go_simp; rfl)); intro gb1112 hg w11 hbox hb; have BK1112 := am (hbox); have GW1112 := am ((by rw [hg]; exact (below_size (pkB HB.out)) : w.heap.size ≤ gb1112)); have GE1112 := am ((by rw [hg]; exact (below_size (pkB HB.out)) : w.heap.size ≤ gb1112)); replace HB := am (below_step (pkB HB.out) hb); clear hb hbox hg; obtain ⟨hcz12_0, hcz12_1, hcz12_2, hcz12_3, hcz12_4, hcz12_5, hcz12_6, hfz12_0, hfz12_1, hfz12_2, hfz12_3, hfz12_4, hfz12_5, hfz12_6⟩ := bk7 BK1112.out) | ((with_reducible refine gate_callee (f := 46) rfl ?_); refine goesL_ (some 8) rfl rfl Try.func46 (by kernel_rfl) rfl #[.slice A0_5 l0_5.length c0_5, .int .i64 a1] rfl mpx ?_; (with_reducible refine (laws_heldIntS.calls k _ _ l0_5 a1 t1113 _ ?side1 ?side2 A3.out).mono ?_); (case side1 => exact pkC (Kd.C_below HR0_5.out HB.out)); (case side2 => exact HC0_5.out); rintro e w' ⟨rfl, ⟨nd, rfl⟩⟩; refine ⟨_, rfl, ?_⟩) | ((with_reducible refine gate_callee (f := 46) rfl ?_); refine goesL_ (some 14) rfl rfl Try.func46 (by kernel_rfl) rfl #[.slice A0_6 l0_6.length c0_6, .int .i64 t1113] rfl mpx ?_; (with_reducible refine (laws_heldIntS.calls k _ _ l0_6 t1113 t1114 _ ?side1 ?side2 A7.out).mono ?_); (case side1 => repeat (first | exact (Kd.C_below HR0_6.out (pkW HB.out)) | (with_reducible refine Kd.C_alloc ?_ _) | (with_reducible refine Kd.C_drewN ?_ _) | (with_reducible refine Kd.C_drew ?_))); (case side2 => exact HC0_6.out); rintro e w' ⟨rfl, ⟨nd, rfl⟩⟩; refine ⟨_, rfl, ?_⟩))
   go_ret
   exact ⟨rfe, pkW HB.out⟩
end Go.Proofs.Ytffcphplnilokaa.Z
