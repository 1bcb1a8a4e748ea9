/- The Go functions laws_FnMsgBack as Lean functions, each with a proof that its code comes to just these answers; conditions: those of each theorem. -/
import Derived.Test.YtalehmhjddnmoaaZx0
import Derived.Test.YtalehmhjddnmoaaZx1
import Derived.Test.YtalehmhjddnmoaaZx4
import Derived.Test.YtalehmhjddnmoaaZx6
import Derived.Test.YtalehmhjddnmoaaZx10
import Derived.Test.YtalehmhjddnmoaaZx16
import Derived.Test.YtalehmhjddnmoaaZx19
import Derived.Test.YtalehmhjddnmoaaZx20
import Derived.Test.YtalehmhjddnmoaaZx32
namespace Go.Proofs.Ytalehmhjddnmoaa.Z
open Go.RowKit Go.Proofs.YtalehmhjddnmoaaW.PrintWords Go.Proofs.YtalehmhjddnmoaaW.PrintLast Go.Proofs.YtalehmhjddnmoaaW.PrintMore
attribute [local go_sem] max2_int min2_int max_two min_two max_three min_three max_four min_four   -- for this text's walks alone
set_option linter.unusedVariables false
set_option linter.unusedSimpArgs false
attribute [local go_sem high] eqA27
def laws_FnMsgBack.j0 : Nat → List Int → Bool → Option (Bool)
 | 0, _, _ => none
 | k + 1, x0, x40 => if x40 = true then (some false) else ((spec_DrawReadMsg.f k x0).bind fun t440 => ((impl_ReadMsg.f k t440).bind fun bt441 => ((spec_ReadMsg.f k t440).bind fun bt446 => (if (bt441.2.2.2 == bt446.2.2.2) = true then (if bt441.2.2.2 = true then ((impl_MsgText.f k bt441.1 bt441.2.1 bt441.2.2.1).bind fun t451 => (if t451.toList = t440.toList then ((impl_MsgOk.f k bt441.1 bt441.2.1 bt441.2.2.1).bind fun t452 => (some t452)) else (some false))) else (some true)) else (some false)))))
def laws_FnMsgBack.f (k : Nat) (l0 : List Int) : Option (Bool) := (laws_big.f l0).bind fun t426 => (if t426 = true then (some true) else ((spec_DrawMsgText.f k l0).bind fun bt427 => ((impl_MsgText.f k bt427.1 bt427.2.1 bt427.2.2).bind fun t431 => ((impl_ReadMsg.f k t431).bind fun bt432 => ((spec_MsgOk.f k bt427.1 bt427.2.1 bt427.2.2).bind fun t437 => (if bt432.2.2.2 = true then (if (t437 != (bt432.1 == bt427.1 && (bt432.2.1 == bt427.2.1 && (bt432.2.2.1.toList == bt427.2.2.toList)))) = true then (laws_FnMsgBack.j0 k l0 true) else ((spec_MsgOk.f k bt427.1 bt427.2.1 bt427.2.2).bind fun t438 => (if t438 = true then (laws_FnMsgBack.j0 k l0 false) else (laws_FnMsgBack.j0 k l0 (t431.toList != ([63] : List UInt8)))))) else (if (t437 != false) = true then (laws_FnMsgBack.j0 k l0 true) else ((spec_MsgOk.f k bt427.1 bt427.2.1 bt427.2.2).bind fun t439 => (if t439 = true then (laws_FnMsgBack.j0 k l0 false) else (laws_FnMsgBack.j0 k l0 (t431.toList != ([63] : List UInt8))))))))))))
theorem laws_FnMsgBack.mono_l : ∀ k, (∀ y0 y1, LeO (laws_FnMsgBack.j0 k y0 y1) (laws_FnMsgBack.j0 (k + 1) y0 y1))
 | 0 => fun _ _ r h => by simp [laws_FnMsgBack.j0] at h
 | k + 1 => by
  have ih0 := laws_FnMsgBack.mono_l k
  ·intro y0 y1
   unfold laws_FnMsgBack.j0
   repeat' first
   | (with_reducible exact ih0 _ _)
   | (with_reducible exact impl_MsgOk.mono _ _ _ _)
   | (with_reducible exact impl_MsgText.mono _ _ _ _)
   | (with_reducible exact impl_ReadMsg.mono _ _)
   | (with_reducible exact spec_DrawMsgText.mono _ _)
   | (with_reducible exact spec_DrawReadMsg.mono _ _)
   | (with_reducible exact spec_MsgOk.mono _ _ _ _)
   | (with_reducible exact spec_ReadMsg.mono _ _)
   | (with_reducible exact LeO.refl _)
   | (with_reducible exact LeO.none _)
   | (with_reducible refine LeO.ite ?_ ?_)
   | (with_reducible refine LeO.bind ?_ (fun _ => ?_))
theorem laws_FnMsgBack.mono : ∀ a0 k, LeO (laws_FnMsgBack.f k a0) (laws_FnMsgBack.f (k + 1) a0) := by
 intro a0 k
 have ih0 := laws_FnMsgBack.mono_l k
 unfold laws_FnMsgBack.f
 repeat' first
   | (with_reducible exact ih0 _ _)
   | (with_reducible exact impl_MsgOk.mono _ _ _ _)
   | (with_reducible exact impl_MsgText.mono _ _ _ _)
   | (with_reducible exact impl_ReadMsg.mono _ _)
   | (with_reducible exact spec_DrawMsgText.mono _ _)
   | (with_reducible exact spec_DrawReadMsg.mono _ _)
   | (with_reducible exact spec_MsgOk.mono _ _ _ _)
   | (with_reducible exact spec_ReadMsg.mono _ _)
   | (with_reducible exact LeO.refl _)
   | (with_reducible exact LeO.none _)
   | (with_reducible refine LeO.ite ?_ ?_)
   | (with_reducible refine LeO.bind ?_ (fun _ => ?_))
set_option maxHeartbeats 8000000 in
set_option maxRecDepth 100000 in
theorem laws_FnMsgBack.calls (k : Nat) (A0 : Option Addr) (c0 : Nat) (l0 : List Int) (r : Bool) (w : World) (hr0 : Kd.C (Kd.int .u8) w A0 l0.length l0) (hc0 : l0.length ≤ c0) (HQ_ : Aside0 (r = true)) (h : laws_FnMsgBack.f k l0 = some r) :
  Calls Try.prog 10 #[.slice A0 l0.length c0] w fun e w' => e = .returned (.bool r) ∧ Below w.heap.size w w' := by
 have hu27 := Try.underlying27
 have HR0 := am hr0
 have HC0 := am hc0
 clear hr0 hc0
 have HB := am (Below.refl w.heap.size w)
 have H : ((laws_big.f l0).bind fun t426 => (if t426 = true then (some true) else ((spec_DrawMsgText.f k l0).bind fun bt427 => ((impl_MsgText.f k bt427.1 bt427.2.1 bt427.2.2).bind fun t431 => ((impl_ReadMsg.f k t431).bind fun bt432 => ((spec_MsgOk.f k bt427.1 bt427.2.1 bt427.2.2).bind fun t437 => (if bt432.2.2.2 = true then (if (t437 != (bt432.1 == bt427.1 && (bt432.2.1 == bt427.2.1 && (bt432.2.2.1.toList == bt427.2.2.toList)))) = true then (laws_FnMsgBack.j0 k l0 true) else ((spec_MsgOk.f k bt427.1 bt427.2.1 bt427.2.2).bind fun t438 => (if t438 = true then (laws_FnMsgBack.j0 k l0 false) else (laws_FnMsgBack.j0 k l0 (t431.toList != ([63] : List UInt8)))))) else (if (t437 != false) = true then (laws_FnMsgBack.j0 k l0 true) else ((spec_MsgOk.f k bt427.1 bt427.2.1 bt427.2.2).bind fun t439 => (if t439 = true then (laws_FnMsgBack.j0 k l0 false) else (laws_FnMsgBack.j0 k l0 (t431.toList != ([63] : List UInt8))))))))))))) = some r := h
 clear h
 replace H := Option.bind_eq_some_iff.mp H
 obtain ⟨t426, A20, H⟩ := H
 replace H : (if t426 = true then (some true) else ((spec_DrawMsgText.f k l0).bind fun bt427 => ((impl_MsgText.f k bt427.1 bt427.2.1 bt427.2.2).bind fun t431 => ((impl_ReadMsg.f k t431).bind fun bt432 => ((spec_MsgOk.f k bt427.1 bt427.2.1 bt427.2.2).bind fun t437 => (if bt432.2.2.2 = true then (if (t437 != (bt432.1 == bt427.1 && (bt432.2.1 == bt427.2.1 && (bt432.2.2.1.toList == bt427.2.2.toList)))) = true then (laws_FnMsgBack.j0 k l0 true) else ((spec_MsgOk.f k bt427.1 bt427.2.1 bt427.2.2).bind fun t438 => (if t438 = true then (laws_FnMsgBack.j0 k l0 false) else (laws_FnMsgBack.j0 k l0 (t431.toList != ([63] : List UInt8)))))) else (if (t437 != false) = true then (laws_FnMsgBack.j0 k l0 true) else ((spec_MsgOk.f k bt427.1 bt427.2.1 bt427.2.2).bind fun t439 => (if t439 = true then (laws_FnMsgBack.j0 k l0 false) else (laws_FnMsgBack.j0 k l0 (t431.toList != ([63] : List UInt8)))))))))))) = some r := H
 have A2 := am A20
 clear A20
 by_cases c3 : t426 = true
 ·subst c3
  replace H : (some true) = some r := by rw [if_pos rfl] at H; exact H
  obtain rfl := Option.some.inj H
  go_enter Try.func10, Try.ntmps10
  go_wp2_with (first | ((with_reducible refine gate_callee (f := 23) rfl ?_); refine goesL_ (some 13) rfl rfl Try.func23 (by kernel_rfl) rfl #[.slice A0 l0.length c0] rfl mpx ?_; (with_reducible refine (laws_big.calls _ _ l0 true _ ?side1 ?side2 A2.out).mono ?_); (case side1 => exact pkC HR0.out); (case side2 => exact HC0.out); rintro e w' ⟨rfl, ⟨nd, rfl⟩⟩; refine ⟨_, rfl, ?_⟩))
  go_ret
  exact ⟨rfe, pkB HB.out⟩
 ·replace c3 := Bool.eq_false_iff.mpr c3
  subst c3
  replace H : ((spec_DrawMsgText.f k l0).bind fun bt427 => ((impl_MsgText.f k bt427.1 bt427.2.1 bt427.2.2).bind fun t431 => ((impl_ReadMsg.f k t431).bind fun bt432 => ((spec_MsgOk.f k bt427.1 bt427.2.1 bt427.2.2).bind fun t437 => (if bt432.2.2.2 = true then (if (t437 != (bt432.1 == bt427.1 && (bt432.2.1 == bt427.2.1 && (bt432.2.2.1.toList == bt427.2.2.toList)))) = true then (laws_FnMsgBack.j0 k l0 true) else ((spec_MsgOk.f k bt427.1 bt427.2.1 bt427.2.2).bind fun t438 => (if t438 = true then (laws_FnMsgBack.j0 k l0 false) else (laws_FnMsgBack.j0 k l0 (t431.toList != ([63] : List UInt8)))))) else (if (t437 != false) = true then (laws_FnMsgBack.j0 k l0 true) else ((spec_MsgOk.f k bt427.1 bt427.2.1 bt427.2.2).bind fun t439 => (if t439 = true then (laws_FnMsgBack.j0 k l0 false) else (laws_FnMsgBack.j0 k l0 (t431.toList != ([63] : List UInt8))))))))))) = some r := by rw [if_neg (show ¬ (false = true) by decide)] at H; exact H
  replace H := Option.bind_eq_some_iff.mp H
  obtain ⟨⟨t427, t428, t429⟩, A40, H⟩ := H
  replace H : ((impl_MsgText.f k t427 t428 t429).bind fun t431 => ((impl_ReadMsg.f k t431).bind fun bt432 => ((spec_MsgOk.f k t427 t428 t429).bind fun t437 => (if bt432.2.2.2 = true then (if (t437 != (bt432.1 == t427 && (bt432.2.1 == t428 && (bt432.2.2.1.toList == t429.toList)))) = true then (laws_FnMsgBack.j0 k l0 true) else ((spec_MsgOk.f k t427 t428 t429).bind fun t438 => (if t438 = true then (laws_FnMsgBack.j0 k l0 false) else (laws_FnMsgBack.j0 k l0 (t431.toList != ([63] : List UInt8)))))) else (if (t437 != false) = true then (laws_FnMsgBack.j0 k l0 true) else ((spec_MsgOk.f k t427 t428 t429).bind fun t439 => (if t439 = true then (laws_FnMsgBack.j0 k l0 false) else (laws_FnMsgBack.j0 k l0 (t431.toList != ([63] : List UInt8)))))))))) = some r := H
  have A4 := am A40
  clear A40
  replace H := Option.bind_eq_some_iff.mp H
  obtain ⟨t431, A50, H⟩ := H
  replace H : ((impl_ReadMsg.f k t431).bind fun bt432 => ((spec_MsgOk.f k t427 t428 t429).bind fun t437 => (if bt432.2.2.2 = true then (if (t437 != (bt432.1 == t427 && (bt432.2.1 == t428 && (bt432.2.2.1.toList == t429.toList)))) = true then (laws_FnMsgBack.j0 k l0 true) else ((spec_MsgOk.f k t427 t428 t429).bind fun t438 => (if t438 = true then (laws_FnMsgBack.j0 k l0 false) else (laws_FnMsgBack.j0 k l0 (t431.toList != ([63] : List UInt8)))))) else (if (t437 != false) = true then (laws_FnMsgBack.j0 k l0 true) else ((spec_MsgOk.f k t427 t428 t429).bind fun t439 => (if t439 = true then (laws_FnMsgBack.j0 k l0 false) else (laws_FnMsgBack.j0 k l0 (t431.toList != ([63] : List UInt8))))))))) = some r := H
  have A5 := am A50
  clear A50
  replace H := Option.bind_eq_some_iff.mp H
  obtain ⟨⟨t432, t433, t434, t435⟩, A60, H⟩ := H
  replace H : ((spec_MsgOk.f k t427 t428 t429).bind fun t437 => (if t435 = true then (if (t437 != (t432 == t427 && (t433 == t428 && (t434.toList == t429.toList)))) = true then (laws_FnMsgBack.j0 k l0 true) else ((spec_MsgOk.f k t427 t428 t429).bind fun t438 => (if t438 = true then (laws_FnMsgBack.j0 k l0 false) else (laws_FnMsgBack.j0 k l0 (t431.toList != ([63] : List UInt8)))))) else (if (t437 != false) = true then (laws_FnMsgBack.j0 k l0 true) else ((spec_MsgOk.f k t427 t428 t429).bind fun t439 => (if t439 = true then (laws_FnMsgBack.j0 k l0 false) else (laws_FnMsgBack.j0 k l0 (t431.toList != ([63] : List UInt8)))))))) = some r := H
  have A6 := am A60
  clear A60
  have HC7 := am H
  clear H
  go_enter Try.func10, Try.ntmps10
  go_upto_region 6 with (first | ((with_reducible refine gate_callee (f := 23) rfl ?_); refine goesL_ (some 13) rfl rfl Try.func23 (by kernel_rfl) rfl #[.slice A0 l0.length c0] rfl mpx ?_; (with_reducible refine (laws_big.calls _ _ l0 false _ ?side1 ?side2 A2.out).mono ?_); (case side1 => exact pkC HR0.out); (case side2 => exact HC0.out); rintro e w' ⟨rfl, ⟨nd, rfl⟩⟩; refine ⟨_, rfl, ?_⟩) | ((with_reducible refine gate_callee (f := 29) rfl ?_); refine goesL_ (some 15) rfl rfl Try.func29 (by kernel_rfl) rfl #[.slice A0 l0.length c0] rfl mpx ?_; (with_reducible refine (spec_DrawMsgText.calls k _ _ l0 t427 t428 t429 _ ?side1 ?side2 A4.out).mono ?_); (case side1 => exact pkC HR0.out); (case side2 => exact HC0.out); rintro e w8 ⟨rfl, hb⟩; refine ⟨_, rfl, ?_⟩; replace HB := am (below_step (pkB HB.out) hb); (try clear hb)) | ((with_reducible refine gate_dst (N := 3) rfl ?_); refine box_event ?hg (N := 3) ?hd (cs := #[.int .i64 0, .int .i64 0, .string (⟨#[]⟩ : ByteArray)]) (t := 27) ?hr ?_; (case hd => rfl); (case hg => rfl); (case hr => first | (go_simp; done) | (go_simp; rfl)); intro gb430 hg w9 hbox hb; have BK430 := am (hbox); have GW430 := am ((by rw [hg]; exact (below_size (pkB HB.out)) : w.heap.size ≤ gb430)); have GE430 := am ((by rw [hg]; exact (below_size (pkB HB.out)) : w.heap.size ≤ gb430)); replace HB := am (below_step (pkB HB.out) hb); clear hb hbox hg; obtain ⟨hcz10_0, hcz10_1, hcz10_2, hfz10_0, hfz10_1, hfz10_2⟩ := bk3 BK430.out) | ((with_reducible refine gate_callee (f := 17) rfl ?_); refine goesL_ (some 17) rfl rfl Try.func17 (by kernel_rfl) rfl #[.agg #[.int .i64 t427, .int .i64 t428, .string t429]] rfl mpx ?_; (with_reducible refine (impl_MsgText.calls k t427 t428 t429 t431 _ A5.out).mono ?_); rintro e w11 ⟨rfl, hb⟩; refine ⟨_, rfl, ?_⟩; replace BK430 := am (blk_below (g := gb430) (o := .cells #[.int .i64 t427, .int .i64 t428, .string t429] 27 (0, 0)) (by (with_reducible repeat (first | refine blk_drewN ?_ _ | refine blk_drew ?_ | refine blk_alloc ?_ _)); refine blk_put (cs := #[.int .i64 t427, .int .i64 t428, .string (⟨#[]⟩ : ByteArray)]) ?_ 2 _ rfl; (with_reducible repeat (first | refine blk_drewN ?_ _ | refine blk_drew ?_ | refine blk_alloc ?_ _)); refine blk_put (cs := #[.int .i64 t427, .int .i64 0, .string (⟨#[]⟩ : ByteArray)]) ?_ 1 _ rfl; (with_reducible repeat (first | refine blk_drewN ?_ _ | refine blk_drew ?_ | refine blk_alloc ?_ _)); refine blk_put (cs := #[.int .i64 0, .int .i64 0, .string (⟨#[]⟩ : ByteArray)]) ?_ 0 _ rfl; exact pkK BK430.out) hb); replace HB := am (below_step (pkW HB.out) hb); (try clear hb)) | ((with_reducible refine gate_callee (f := 21) rfl ?_); refine goesL_ (some 20) rfl rfl Try.func21 (by kernel_rfl) rfl #[.string t431] rfl mpx ?_; (with_reducible refine (impl_ReadMsg.calls k t431 t432 t433 t434 t435 _ A6.out).mono ?_); rintro e w12 ⟨rfl, hb⟩; refine ⟨_, rfl, ?_⟩; replace BK430 := am (blk_below (pkK BK430.out) hb); replace HB := am (below_step (pkW HB.out) hb); (try clear hb)) | ((with_reducible refine gate_dst (N := 5) rfl ?_); refine box_event ?hg (N := 5) ?hd (cs := #[.int .i64 0, .int .i64 0, .string (⟨#[]⟩ : ByteArray)]) (t := 27) ?hr ?_; (case hd => rfl); (case hg => rfl); (case hr => first | (go_simp; done) | (go_simp; rfl)); intro gb436 hg w13 hbox hb; have BK436 := am (hbox); have GW436 := am ((by rw [hg]; exact (below_size (pkW HB.out)) : w.heap.size ≤ gb436)); have GE436 := am ((by rw [hg]; exact (below_size (pkW HB.out)) : w.heap.size ≤ gb436)); replace HB := am (below_step (pkW HB.out) hb); have NB430_436 := am ((by rw [hg]; exact Nat.ne_of_lt (blk_lt (g := gb430) (o := .cells #[.int .i64 t427, .int .i64 t428, .string t429] 27 (0, 0)) (pkK BK430.out)) : gb430 ≠ gb436)); have NB436_430 := am ((by rw [hg]; exact Nat.ne_of_gt (blk_lt (g := gb430) (o := .cells #[.int .i64 t427, .int .i64 t428, .string t429] 27 (0, 0)) (pkK BK430.out)) : gb436 ≠ gb430)); replace BK430 := am (blk_below (pkK BK430.out) hb); clear hb hbox hg; have hnb14 := NB436_430.out; have hnc14 := NB430_436.out; obtain ⟨hcz15_0, hcz15_1, hcz15_2, hfz15_0, hfz15_1, hfz15_2⟩ := bk3 BK436.out))
  (try simp only [Act.put, List.setIfInBounds_toArray, List.set_cons_zero, List.set_cons_succ])
  go_cut [40] (fun v40 wc => ∃ (kq : Nat) (x40_6 : Bool), v40 = .bool x40_6 ∧ Aside0 (laws_FnMsgBack.j0 kq l0 x40_6 = some r) ∧ Aside0 (kq ≤ k) ∧ Aside0 (wc.heap[gb430]? = some (.cells #[.int .i64 t427, .int .i64 t428, .string t429] 27 (0, 0))) ∧ Aside0 (wc.heap[gb436]? = some (.cells #[.int .i64 t432, .int .i64 t433, .string t434] 27 (0, 0))) ∧ Aside0 (Below w.heap.size w wc))
  case first =>
   have H := HC7.out
   clear HC7
   replace H := Option.bind_eq_some_iff.mp H
   obtain ⟨t437, A160, H⟩ := H
   replace H : (if t435 = true then (if (t437 != (t432 == t427 && (t433 == t428 && (t434.toList == t429.toList)))) = true then (laws_FnMsgBack.j0 k l0 true) else ((spec_MsgOk.f k t427 t428 t429).bind fun t438 => (if t438 = true then (laws_FnMsgBack.j0 k l0 false) else (laws_FnMsgBack.j0 k l0 (t431.toList != ([63] : List UInt8)))))) else (if (t437 != false) = true then (laws_FnMsgBack.j0 k l0 true) else ((spec_MsgOk.f k t427 t428 t429).bind fun t439 => (if t439 = true then (laws_FnMsgBack.j0 k l0 false) else (laws_FnMsgBack.j0 k l0 (t431.toList != ([63] : List UInt8))))))) = some r := H
   have A16 := am A160
   clear A160
   by_cases c17 : t435 = true
   ·subst c17
    replace H : (if (t437 != (t432 == t427 && (t433 == t428 && (t434.toList == t429.toList)))) = true then (laws_FnMsgBack.j0 k l0 true) else ((spec_MsgOk.f k t427 t428 t429).bind fun t438 => (if t438 = true then (laws_FnMsgBack.j0 k l0 false) else (laws_FnMsgBack.j0 k l0 (t431.toList != ([63] : List UInt8)))))) = some r := by rw [if_pos rfl] at H; exact H
    by_cases c18 : (t437 != (t432 == t427 && (t433 == t428 && (t434.toList == t429.toList)))) = true
    ·rw [if_pos c18] at H
     have c18b0 : (t437 != (t432 == t427 && (t433 == t428 && (t434.toList == t429.toList)))) = true := c18
     (try (have c18b1 : decide (t437 = (t432 == t427 && (t433 == t428 && (t434.toList == t429.toList)))) = false := by simpa using c18))
     (try (have c18b2 : (t437 == (t432 == t427 && (t433 == t428 && (t434.toList == t429.toList)))) = false := by first | exact bq_t c18 | exact bq_f c18 | simpa using c18))
     (try (have c18b3 : ¬ (t437 = (t432 == t427 && (t433 == t428 && (t434.toList == t429.toList)))) := by simpa using c18))
     clear c18
     (first | rw [c18b0] | (simp only [i64_w, i32_w]; rw [c18b0]) | skip)
     cases k with
     | zero => exact absurd H (by simp [laws_FnMsgBack.j0])
     | succ k_ => (simp only [laws_FnMsgBack.j0, if_pos] at H; exact absurd (Option.some.inj H) (by rw [HQ_.out]; simp))
    ·rw [if_neg c18] at H
     have c18b0 : (t437 != (t432 == t427 && (t433 == t428 && (t434.toList == t429.toList)))) = false := by simpa using c18
     (try (have c18b1 : decide (t437 = (t432 == t427 && (t433 == t428 && (t434.toList == t429.toList)))) = true := by simpa using c18))
     (try (have c18b2 : (t437 == (t432 == t427 && (t433 == t428 && (t434.toList == t429.toList)))) = true := by first | exact bq_t c18 | exact bq_f c18 | simpa using c18))
     clear c18
     (first | rw [c18b0] | (simp only [i64_w, i32_w]; rw [c18b0]) | skip)
     replace H := Option.bind_eq_some_iff.mp H
     obtain ⟨t438, A190, H⟩ := H
     replace H : (if t438 = true then (laws_FnMsgBack.j0 k l0 false) else (laws_FnMsgBack.j0 k l0 (t431.toList != ([63] : List UInt8)))) = some r := H
     have A19 := am A190
     clear A190
     by_cases c20 : t438 = true
     ·subst c20
      replace H : (laws_FnMsgBack.j0 k l0 false) = some r := by rw [if_pos rfl] at H; exact H
      have H' := am H
      clear H
      have hnb21 := NB430_436.out
      have hnc21 := NB436_430.out
      obtain ⟨hcz22_0, hcz22_1, hcz22_2, hfz22_0, hfz22_1, hfz22_2⟩ := bk3 BK430.out
      go_wp2_with (first | ((with_reducible refine gate_callee (f := 13) rfl ?_); refine goesL_ (some 24) rfl rfl Try.func13 (by kernel_rfl) rfl #[.agg #[.int .i64 t427, .int .i64 t428, .string t429]] rfl mpx ?_; (with_reducible refine (spec_MsgOk.calls k t427 t428 t429 t437 _ A16.out).mono ?_); rintro e w23 ⟨rfl, hb⟩; refine ⟨_, rfl, ?_⟩; replace BK430 := am (blk_below (g := gb430) (o := .cells #[.int .i64 t427, .int .i64 t428, .string t429] 27 (0, 0)) (by (with_reducible repeat (first | refine blk_drewN ?_ _ | refine blk_drew ?_ | refine blk_alloc ?_ _)); refine blk_far ?_ NB430_436.out _; (with_reducible repeat (first | refine blk_drewN ?_ _ | refine blk_drew ?_ | refine blk_alloc ?_ _)); refine blk_far ?_ NB430_436.out _; (with_reducible repeat (first | refine blk_drewN ?_ _ | refine blk_drew ?_ | refine blk_alloc ?_ _)); refine blk_far ?_ NB430_436.out _; exact pkK BK430.out) hb); replace BK436 := am (blk_below (g := gb436) (o := .cells #[.int .i64 t432, .int .i64 t433, .string t434] 27 (0, 0)) (by (with_reducible repeat (first | refine blk_drewN ?_ _ | refine blk_drew ?_ | refine blk_alloc ?_ _)); refine blk_put (cs := #[.int .i64 t432, .int .i64 t433, .string (⟨#[]⟩ : ByteArray)]) ?_ 2 _ rfl; (with_reducible repeat (first | refine blk_drewN ?_ _ | refine blk_drew ?_ | refine blk_alloc ?_ _)); refine blk_put (cs := #[.int .i64 t432, .int .i64 0, .string (⟨#[]⟩ : ByteArray)]) ?_ 1 _ rfl; (with_reducible repeat (first | refine blk_drewN ?_ _ | refine blk_drew ?_ | refine blk_alloc ?_ _)); refine blk_put (cs := #[.int .i64 0, .int .i64 0, .string (⟨#[]⟩ : ByteArray)]) ?_ 0 _ rfl; exact pkK BK436.out) hb); replace HB := am (below_step (pkW HB.out) hb); (try clear hb); obtain ⟨hcz24_0, hcz24_1, hcz24_2, hfz24_0, hfz24_1, hfz24_2⟩ := bk3 BK436.out; obtain ⟨hcz25_0, hcz25_1, hcz25_2, hfz25_0, hfz25_1, hfz25_2⟩ := bk3 BK430.out) | (go_at_call 13; (with_reducible refine (spec_MsgOk.calls k t427 t428 t429 true _ A19.out).mono ?_); rintro e w26 ⟨rfl, hb⟩; replace BK430 := am (blk_below (pkK BK430.out) hb); replace BK436 := am (blk_below (pkK BK436.out) hb); replace HB := am (below_step (pkW HB.out) hb); (try clear hb)))
      go_meet
      case rel => exact ⟨_, (false), rfx, H', ⟨by first | omega | exact Nat.le_refl _⟩, ⟨pkK BK430.out⟩, ⟨pkK BK436.out⟩, ⟨pkW HB.out⟩⟩
     ·replace c20 := Bool.eq_false_iff.mpr c20
      subst c20
      replace H : (laws_FnMsgBack.j0 k l0 (t431.toList != ([63] : List UInt8))) = some r := by rw [if_neg (show ¬ (false = true) by decide)] at H; exact H
      have H' := am H
      clear H
      have hnb27 := NB430_436.out
      have hnc27 := NB436_430.out
      obtain ⟨hcz28_0, hcz28_1, hcz28_2, hfz28_0, hfz28_1, hfz28_2⟩ := bk3 BK430.out
      go_wp2_with (first | ((with_reducible refine gate_callee (f := 13) rfl ?_); refine goesL_ (some 24) rfl rfl Try.func13 (by kernel_rfl) rfl #[.agg #[.int .i64 t427, .int .i64 t428, .string t429]] rfl mpx ?_; (with_reducible refine (spec_MsgOk.calls k t427 t428 t429 t437 _ A16.out).mono ?_); rintro e w29 ⟨rfl, hb⟩; refine ⟨_, rfl, ?_⟩; replace BK430 := am (blk_below (g := gb430) (o := .cells #[.int .i64 t427, .int .i64 t428, .string t429] 27 (0, 0)) (by (with_reducible repeat (first | refine blk_drewN ?_ _ | refine blk_drew ?_ | refine blk_alloc ?_ _)); refine blk_far ?_ NB430_436.out _; (with_reducible repeat (first | refine blk_drewN ?_ _ | refine blk_drew ?_ | refine blk_alloc ?_ _)); refine blk_far ?_ NB430_436.out _; (with_reducible repeat (first | refine blk_drewN ?_ _ | refine blk_drew ?_ | refine blk_alloc ?_ _)); refine blk_far ?_ NB430_436.out _; exact pkK BK430.out) hb); replace BK436 := am (blk_below (g := gb436) (o := .cells #[.int .i64 t432, .int .i64 t433, .string t434] 27 (0, 0)) (by (with_reducible repeat (first | refine blk_drewN ?_ _ | refine blk_drew ?_ | refine blk_alloc ?_ _)); refine blk_put (cs := #[.int .i64 t432, .int .i64 t433, .string (⟨#[]⟩ : ByteArray)]) ?_ 2 _ rfl; (with_reducible repeat (first | refine blk_drewN ?_ _ | refine blk_drew ?_ | refine blk_alloc ?_ _)); refine blk_put (cs := #[.int .i64 t432, .int .i64 0, .string (⟨#[]⟩ : ByteArray)]) ?_ 1 _ rfl; (with_reducible repeat (first | refine blk_drewN ?_ _ | refine blk_drew ?_ | refine blk_alloc ?_ _)); refine blk_put (cs := #[.int .i64 0, .int .i64 0, .string (⟨#[]⟩ : ByteArray)]) ?_ 0 _ rfl; exact pkK BK436.out) hb); replace HB := am (below_step (pkW HB.out) hb); (try clear hb); obtain ⟨hcz30_0, hcz30_1, hcz30_2, hfz30_0, hfz30_1, hfz30_2⟩ := bk3 BK436.out; obtain ⟨hcz31_0, hcz31_1, hcz31_2, hfz31_0, hfz31_1, hfz31_2⟩ := bk3 BK430.out) | (go_at_call 13; (with_reducible refine (spec_MsgOk.calls k t427 t428 t429 false _ A19.out).mono ?_); rintro e w32 ⟨rfl, hb⟩; replace BK430 := am (blk_below (pkK BK430.out) hb); replace BK436 := am (blk_below (pkK BK436.out) hb); replace HB := am (below_step (pkW HB.out) hb); (try clear hb)))
      go_meet
      case rel => exact ⟨_, ((t431.toList != ([63] : List UInt8))), rfx, H', ⟨by first | omega | exact Nat.le_refl _⟩, ⟨pkK BK430.out⟩, ⟨pkK BK436.out⟩, ⟨pkW HB.out⟩⟩
   ·replace c17 := Bool.eq_false_iff.mpr c17
    subst c17
    replace H : (if (t437 != false) = true then (laws_FnMsgBack.j0 k l0 true) else ((spec_MsgOk.f k t427 t428 t429).bind fun t439 => (if t439 = true then (laws_FnMsgBack.j0 k l0 false) else (laws_FnMsgBack.j0 k l0 (t431.toList != ([63] : List UInt8)))))) = some r := by rw [if_neg (show ¬ (false = true) by decide)] at H; exact H
    by_cases c33 : (t437 != false) = true
    ·rw [if_pos c33] at H
     have c33b0 : (t437 != false) = true := c33
     (try (have c33b1 : decide (t437 = false) = false := by simpa using c33))
     (try (have c33b2 : (t437 == false) = false := by first | exact bq_t c33 | exact bq_f c33 | simpa using c33))
     (try (have c33b3 : ¬ (t437 = false) := by simpa using c33))
     clear c33
     cases k with
     | zero => exact absurd H (by simp [laws_FnMsgBack.j0])
     | succ k_ => (simp only [laws_FnMsgBack.j0, if_pos] at H; exact absurd (Option.some.inj H) (by rw [HQ_.out]; simp))
    ·rw [if_neg c33] at H
     have c33b0 : (t437 != false) = false := by simpa using c33
     (try (have c33b1 : decide (t437 = false) = true := by simpa using c33))
     (try (have c33b2 : (t437 == false) = true := by first | exact bq_t c33 | exact bq_f c33 | simpa using c33))
     clear c33
     replace H := Option.bind_eq_some_iff.mp H
     obtain ⟨t439, A340, H⟩ := H
     replace H : (if t439 = true then (laws_FnMsgBack.j0 k l0 false) else (laws_FnMsgBack.j0 k l0 (t431.toList != ([63] : List UInt8)))) = some r := H
     have A34 := am A340
     clear A340
     by_cases c35 : t439 = true
     ·subst c35
      replace H : (laws_FnMsgBack.j0 k l0 false) = some r := by rw [if_pos rfl] at H; exact H
      have H' := am H
      clear H
      have hnb36 := NB430_436.out
      have hnc36 := NB436_430.out
      obtain ⟨hcz37_0, hcz37_1, hcz37_2, hfz37_0, hfz37_1, hfz37_2⟩ := bk3 BK430.out
      go_wp2_with (first | ((with_reducible refine gate_callee (f := 13) rfl ?_); refine goesL_ (some 24) rfl rfl Try.func13 (by kernel_rfl) rfl #[.agg #[.int .i64 t427, .int .i64 t428, .string t429]] rfl mpx ?_; (with_reducible refine (spec_MsgOk.calls k t427 t428 t429 t437 _ A16.out).mono ?_); rintro e w38 ⟨rfl, hb⟩; refine ⟨_, rfl, ?_⟩; replace BK430 := am (blk_below (g := gb430) (o := .cells #[.int .i64 t427, .int .i64 t428, .string t429] 27 (0, 0)) (by (with_reducible repeat (first | refine blk_drewN ?_ _ | refine blk_drew ?_ | refine blk_alloc ?_ _)); refine blk_far ?_ NB430_436.out _; (with_reducible repeat (first | refine blk_drewN ?_ _ | refine blk_drew ?_ | refine blk_alloc ?_ _)); refine blk_far ?_ NB430_436.out _; (with_reducible repeat (first | refine blk_drewN ?_ _ | refine blk_drew ?_ | refine blk_alloc ?_ _)); refine blk_far ?_ NB430_436.out _; exact pkK BK430.out) hb); replace BK436 := am (blk_below (g := gb436) (o := .cells #[.int .i64 t432, .int .i64 t433, .string t434] 27 (0, 0)) (by (with_reducible repeat (first | refine blk_drewN ?_ _ | refine blk_drew ?_ | refine blk_alloc ?_ _)); refine blk_put (cs := #[.int .i64 t432, .int .i64 t433, .string (⟨#[]⟩ : ByteArray)]) ?_ 2 _ rfl; (with_reducible repeat (first | refine blk_drewN ?_ _ | refine blk_drew ?_ | refine blk_alloc ?_ _)); refine blk_put (cs := #[.int .i64 t432, .int .i64 0, .string (⟨#[]⟩ : ByteArray)]) ?_ 1 _ rfl; (with_reducible repeat (first | refine blk_drewN ?_ _ | refine blk_drew ?_ | refine blk_alloc ?_ _)); refine blk_put (cs := #[.int .i64 0, .int .i64 0, .string (⟨#[]⟩ : ByteArray)]) ?_ 0 _ rfl; exact pkK BK436.out) hb); replace HB := am (below_step (pkW HB.out) hb); (try clear hb); obtain ⟨hcz39_0, hcz39_1, hcz39_2, hfz39_0, hfz39_1, hfz39_2⟩ := bk3 BK430.out) | (go_at_call 13; (with_reducible refine (spec_MsgOk.calls k t427 t428 t429 true _ A34.out).mono ?_); rintro e w40 ⟨rfl, hb⟩; replace BK430 := am (blk_below (pkK BK430.out) hb); replace BK436 := am (blk_below (pkK BK436.out) hb); replace HB := am (below_step (pkW HB.out) hb); (try clear hb)))
      go_meet
      case rel => exact ⟨_, (false), rfx, H', ⟨by first | omega | exact Nat.le_refl _⟩, ⟨pkK BK430.out⟩, ⟨pkK BK436.out⟩, ⟨pkW HB.out⟩⟩
     ·replace c35 := Bool.eq_false_iff.mpr c35
      subst c35
      replace H : (laws_FnMsgBack.j0 k l0 (t431.toList != ([63] : List UInt8))) = some r := by rw [if_neg (show ¬ (false = true) by decide)] at H; exact H
      have H' := am H
      clear H
      have hnb41 := NB430_436.out
      have hnc41 := NB436_430.out
      obtain ⟨hcz42_0, hcz42_1, hcz42_2, hfz42_0, hfz42_1, hfz42_2⟩ := bk3 BK430.out
      go_wp2_with (first | ((with_reducible refine gate_callee (f := 13) rfl ?_); refine goesL_ (some 24) rfl rfl Try.func13 (by kernel_rfl) rfl #[.agg #[.int .i64 t427, .int .i64 t428, .string t429]] rfl mpx ?_; (with_reducible refine (spec_MsgOk.calls k t427 t428 t429 t437 _ A16.out).mono ?_); rintro e w43 ⟨rfl, hb⟩; refine ⟨_, rfl, ?_⟩; replace BK430 := am (blk_below (g := gb430) (o := .cells #[.int .i64 t427, .int .i64 t428, .string t429] 27 (0, 0)) (by (with_reducible repeat (first | refine blk_drewN ?_ _ | refine blk_drew ?_ | refine blk_alloc ?_ _)); refine blk_far ?_ NB430_436.out _; (with_reducible repeat (first | refine blk_drewN ?_ _ | refine blk_drew ?_ | refine blk_alloc ?_ _)); refine blk_far ?_ NB430_436.out _; (with_reducible repeat (first | refine blk_drewN ?_ _ | refine blk_drew ?_ | refine blk_alloc ?_ _)); refine blk_far ?_ NB430_436.out _; exact pkK BK430.out) hb); replace BK436 := am (blk_below (g := gb436) (o := .cells #[.int .i64 t432, .int .i64 t433, .string t434] 27 (0, 0)) (by (with_reducible repeat (first | refine blk_drewN ?_ _ | refine blk_drew ?_ | refine blk_alloc ?_ _)); refine blk_put (cs := #[.int .i64 t432, .int .i64 t433, .string (⟨#[]⟩ : ByteArray)]) ?_ 2 _ rfl; (with_reducible repeat (first | refine blk_drewN ?_ _ | refine blk_drew ?_ | refine blk_alloc ?_ _)); refine blk_put (cs := #[.int .i64 t432, .int .i64 0, .string (⟨#[]⟩ : ByteArray)]) ?_ 1 _ rfl; (with_reducible repeat (first | refine blk_drewN ?_ _ | refine blk_drew ?_ | refine blk_alloc ?_ _)); refine blk_put (cs := #[.int .i64 0, .int .i64 0, .string (⟨#[]⟩ : ByteArray)]) ?_ 0 _ rfl; exact pkK BK436.out) hb); replace HB := am (below_step (pkW HB.out) hb); (try clear hb); obtain ⟨hcz44_0, hcz44_1, hcz44_2, hfz44_0, hfz44_1, hfz44_2⟩ := bk3 BK430.out) | (go_at_call 13; (with_reducible refine (spec_MsgOk.calls k t427 t428 t429 false _ A34.out).mono ?_); rintro e w45 ⟨rfl, hb⟩; replace BK430 := am (blk_below (pkK BK430.out) hb); replace BK436 := am (blk_below (pkK BK436.out) hb); replace HB := am (below_step (pkW HB.out) hb); (try clear hb)))
      go_meet
      case rel => exact ⟨_, ((t431.toList != ([63] : List UInt8))), rfx, H', ⟨by first | omega | exact Nat.le_refl _⟩, ⟨pkK BK430.out⟩, ⟨pkK BK436.out⟩, ⟨pkW HB.out⟩⟩
  case rest =>
   clear HC7
   try clear c1
   try clear c2
   try clear p2
   try clear c3
   try clear c4
   try clear c10
   try clear c13
   try clear c14
   try clear c17
   try clear c18
   try clear c18b0
   try clear c18b1
   try clear c18b2
   try clear c20
   try clear c21
   try clear c23
   try clear c27
   try clear c29
   try clear c33
   try clear c33b0
   try clear c33b1
   try clear c33b2
   try clear c35
   try clear c36
   try clear c41
   try clear hcz10_0
   try clear hcz10_1
   try clear hcz10_2
   try clear hcz15_0
   try clear hcz15_1
   try clear hcz15_2
   try clear hcz22_0
   try clear hcz22_1
   try clear hcz22_2
   try clear hcz24_0
   try clear hcz24_1
   try clear hcz24_2
   try clear hcz25_0
   try clear hcz25_1
   try clear hcz25_2
   try clear hcz28_0
   try clear hcz28_1
   try clear hcz28_2
   try clear hcz30_0
   try clear hcz30_1
   try clear hcz30_2
   try clear hcz31_0
   try clear hcz31_1
   try clear hcz31_2
   try clear hcz37_0
   try clear hcz37_1
   try clear hcz37_2
   try clear hcz39_0
   try clear hcz39_1
   try clear hcz39_2
   try clear hcz42_0
   try clear hcz42_1
   try clear hcz42_2
   try clear hcz44_0
   try clear hcz44_1
   try clear hcz44_2
   try clear hfz10_0
   try clear hfz10_1
   try clear hfz10_2
   try clear hfz15_0
   try clear hfz15_1
   try clear hfz15_2
   try clear hfz22_0
   try clear hfz22_1
   try clear hfz22_2
   try clear hfz24_0
   try clear hfz24_1
   try clear hfz24_2
   try clear hfz25_0
   try clear hfz25_1
   try clear hfz25_2
   try clear hfz28_0
   try clear hfz28_1
   try clear hfz28_2
   try clear hfz30_0
   try clear hfz30_1
   try clear hfz30_2
   try clear hfz31_0
   try clear hfz31_1
   try clear hfz31_2
   try clear hfz37_0
   try clear hfz37_1
   try clear hfz37_2
   try clear hfz39_0
   try clear hfz39_1
   try clear hfz39_2
   try clear hfz42_0
   try clear hfz42_1
   try clear hfz42_2
   try clear hfz44_0
   try clear hfz44_1
   try clear hfz44_2
   obtain ⟨kq, x40_6, rfl, HA, HJ6, BK430, BK436, HB⟩ := hcut
   cases kq with
   | zero => exact absurd HA.out (by simp [laws_FnMsgBack.j0])
   | succ kj6 =>
    have H := HA.out
    clear HA
    simp only [laws_FnMsgBack.j0] at H
    by_cases c46 : x40_6 = true
    ·subst c46
     replace H : (some false) = some r := by rw [if_pos rfl] at H; exact H
     exact absurd (Option.some.inj H) (by rw [HQ_.out]; simp)
    ·replace c46 := Bool.eq_false_iff.mpr c46
     subst c46
     replace H : ((spec_DrawReadMsg.f kj6 l0).bind fun t440 => ((impl_ReadMsg.f kj6 t440).bind fun bt441 => ((spec_ReadMsg.f kj6 t440).bind fun bt446 => (if (bt441.2.2.2 == bt446.2.2.2) = true then (if bt441.2.2.2 = true then ((impl_MsgText.f kj6 bt441.1 bt441.2.1 bt441.2.2.1).bind fun t451 => (if t451.toList = t440.toList then ((impl_MsgOk.f kj6 bt441.1 bt441.2.1 bt441.2.2.1).bind fun t452 => (some t452)) else (some false))) else (some true)) else (some false))))) = some r := by rw [if_neg (show ¬ (false = true) by decide)] at H; exact H
     replace H := Option.bind_eq_some_iff.mp H
     obtain ⟨t440, A470, H⟩ := H
     replace H : ((impl_ReadMsg.f kj6 t440).bind fun bt441 => ((spec_ReadMsg.f kj6 t440).bind fun bt446 => (if (bt441.2.2.2 == bt446.2.2.2) = true then (if bt441.2.2.2 = true then ((impl_MsgText.f kj6 bt441.1 bt441.2.1 bt441.2.2.1).bind fun t451 => (if t451.toList = t440.toList then ((impl_MsgOk.f kj6 bt441.1 bt441.2.1 bt441.2.2.1).bind fun t452 => (some t452)) else (some false))) else (some true)) else (some false)))) = some r := H
     have A47 := am A470
     clear A470
     replace H := Option.bind_eq_some_iff.mp H
     obtain ⟨⟨t441, t442, t443, t444⟩, A480, H⟩ := H
     replace H : ((spec_ReadMsg.f kj6 t440).bind fun bt446 => (if (t444 == bt446.2.2.2) = true then (if t444 = true then ((impl_MsgText.f kj6 t441 t442 t443).bind fun t451 => (if t451.toList = t440.toList then ((impl_MsgOk.f kj6 t441 t442 t443).bind fun t452 => (some t452)) else (some false))) else (some true)) else (some false))) = some r := H
     have A48 := am A480
     clear A480
     replace H := Option.bind_eq_some_iff.mp H
     obtain ⟨⟨t446, t447, t448, t449⟩, A490, H⟩ := H
     replace H : (if (t444 == t449) = true then (if t444 = true then ((impl_MsgText.f kj6 t441 t442 t443).bind fun t451 => (if t451.toList = t440.toList then ((impl_MsgOk.f kj6 t441 t442 t443).bind fun t452 => (some t452)) else (some false))) else (some true)) else (some false)) = some r := H
     have A49 := am A490
     clear A490
     by_cases c50 : (t444 == t449) = true
     ·rw [if_pos c50] at H
      have c50b0 : (t444 == t449) = true := c50
      (try (have c50b1 : decide (t444 = t449) = true := by simpa using c50))
      (try (have c50b2 : (t444 == t449) = true := by first | exact bq_t c50 | exact bq_f c50 | simpa using c50))
      clear c50
      by_cases c51 : t444 = true
      ·subst c51
       replace H : ((impl_MsgText.f kj6 t441 t442 t443).bind fun t451 => (if t451.toList = t440.toList then ((impl_MsgOk.f kj6 t441 t442 t443).bind fun t452 => (some t452)) else (some false))) = some r := by rw [if_pos rfl] at H; exact H
       replace H := Option.bind_eq_some_iff.mp H
       obtain ⟨t451, A520, H⟩ := H
       replace H : (if t451.toList = t440.toList then ((impl_MsgOk.f kj6 t441 t442 t443).bind fun t452 => (some t452)) else (some false)) = some r := H
       have A52 := am A520
       clear A520
       by_cases c53 : t451.toList = t440.toList
       ·rw [if_pos c53] at H
        have c53b0 : (t451.toList == t440.toList) = true := beq_iff_eq.mpr c53
        have c53b1 : (t451.toList != t440.toList) = false := bne_eq_false_iff_eq.mpr c53
        clear c53
        replace H := Option.bind_eq_some_iff.mp H
        obtain ⟨t452, A540, H⟩ := H
        replace H : (some t452) = some r := H
        have A54 := am A540
        clear A540
        obtain rfl := Option.some.inj H
        go_wp2_with (first | ((with_reducible refine gate_callee (f := 30) rfl ?_); refine goesL_ (some 42) rfl rfl Try.func30 (by kernel_rfl) rfl #[.slice A0 l0.length c0] rfl mpx ?_; (with_reducible refine (spec_DrawReadMsg.calls kj6 _ _ l0 t440 _ ?side1 ?side2 A47.out).mono ?_); (case side1 => exact pkC (Kd.C_below HR0.out HB.out)); (case side2 => exact HC0.out); rintro e w55 ⟨rfl, hb⟩; refine ⟨_, rfl, ?_⟩; replace BK430 := am (blk_below (pkK BK430.out) hb); replace BK436 := am (blk_below (pkK BK436.out) hb); replace HB := am (below_step (pkW HB.out) hb); (try clear hb)) | ((with_reducible refine gate_callee (f := 21) rfl ?_); refine goesL_ (some 45) rfl rfl Try.func21 (by kernel_rfl) rfl #[.string t440] rfl mpx ?_; (with_reducible refine (impl_ReadMsg.calls kj6 t440 t441 t442 t443 true _ A48.out).mono ?_); rintro e w56 ⟨rfl, hb⟩; refine ⟨_, rfl, ?_⟩; replace BK430 := am (blk_below (pkK BK430.out) hb); replace BK436 := am (blk_below (pkK BK436.out) hb); replace HB := am (below_step (pkW HB.out) hb); (try clear hb)) | ((with_reducible refine gate_dst (N := 8) rfl ?_); refine box_event ?hg (N := 8) ?hd (cs := #[.int .i64 0, .int .i64 0, .string (⟨#[]⟩ : ByteArray)]) (t := 27) ?hr ?_; (case hd => rfl); (case hg => rfl); (case hr => first | (go_simp; done) | (go_simp; rfl)); intro gb445 hg w57 hbox hb; have BK445 := am (hbox); have GW445 := am ((by rw [hg]; exact (below_size (pkW HB.out)) : w.heap.size ≤ gb445)); have GE445 := am ((by rw [hg]; exact (below_size (pkW HB.out)) : w.heap.size ≤ gb445)); replace HB := am (below_step (pkW HB.out) hb); have NB430_445 := am ((by rw [hg]; exact Nat.ne_of_lt (blk_lt (g := gb430) (o := .cells #[.int .i64 t427, .int .i64 t428, .string t429] 27 (0, 0)) (pkK BK430.out)) : gb430 ≠ gb445)); have NB445_430 := am ((by rw [hg]; exact Nat.ne_of_gt (blk_lt (g := gb430) (o := .cells #[.int .i64 t427, .int .i64 t428, .string t429] 27 (0, 0)) (pkK BK430.out)) : gb445 ≠ gb430)); replace BK430 := am (blk_below (pkK BK430.out) hb); have NB436_445 := am ((by rw [hg]; exact Nat.ne_of_lt (blk_lt (g := gb436) (o := .cells #[.int .i64 t432, .int .i64 t433, .string t434] 27 (0, 0)) (pkK BK436.out)) : gb436 ≠ gb445)); have NB445_436 := am ((by rw [hg]; exact Nat.ne_of_gt (blk_lt (g := gb436) (o := .cells #[.int .i64 t432, .int .i64 t433, .string t434] 27 (0, 0)) (pkK BK436.out)) : gb445 ≠ gb436)); replace BK436 := am (blk_below (pkK BK436.out) hb); clear hb hbox hg; have hnb58 := NB445_430.out; have hnc58 := NB430_445.out; have hnb59 := NB445_436.out; have hnc59 := NB436_445.out; obtain ⟨hcz60_0, hcz60_1, hcz60_2, hfz60_0, hfz60_1, hfz60_2⟩ := bk3 BK445.out) | ((with_reducible refine gate_callee (f := 20) rfl ?_); refine goesL_ (some 50) rfl rfl Try.func20 (by kernel_rfl) rfl #[.string t440] rfl mpx ?_; (with_reducible refine (spec_ReadMsg.calls kj6 t440 t446 t447 t448 t449 _ A49.out).mono ?_); rintro e w61 ⟨rfl, hb⟩; refine ⟨_, rfl, ?_⟩; replace BK430 := am (blk_below (g := gb430) (o := .cells #[.int .i64 t427, .int .i64 t428, .string t429] 27 (0, 0)) (by (with_reducible repeat (first | refine blk_drewN ?_ _ | refine blk_drew ?_ | refine blk_alloc ?_ _)); refine blk_far ?_ NB430_445.out _; (with_reducible repeat (first | refine blk_drewN ?_ _ | refine blk_drew ?_ | refine blk_alloc ?_ _)); refine blk_far ?_ NB430_445.out _; (with_reducible repeat (first | refine blk_drewN ?_ _ | refine blk_drew ?_ | refine blk_alloc ?_ _)); refine blk_far ?_ NB430_445.out _; exact pkK BK430.out) hb); replace BK436 := am (blk_below (g := gb436) (o := .cells #[.int .i64 t432, .int .i64 t433, .string t434] 27 (0, 0)) (by (with_reducible repeat (first | refine blk_drewN ?_ _ | refine blk_drew ?_ | refine blk_alloc ?_ _)); refine blk_far ?_ NB436_445.out _; (with_reducible repeat (first | refine blk_drewN ?_ _ | refine blk_drew ?_ | refine blk_alloc ?_ _)); refine blk_far ?_ NB436_445.out _; (with_reducible repeat (first | refine blk_drewN ?_ _ | refine blk_drew ?_ | refine blk_alloc ?_ _)); refine blk_far ?_ NB436_445.out _; exact pkK BK436.out) hb); replace BK445 := am (blk_below (g := gb445) (o := .cells #[.int .i64 t441, .int .i64 t442, .string t443] 27 (0, 0)) (by (with_reducible repeat (first | refine blk_drewN ?_ _ | refine blk_drew ?_ | refine blk_alloc ?_ _)); refine blk_put (cs := #[.int .i64 t441, .int .i64 t442, .string (⟨#[]⟩ : ByteArray)]) ?_ 2 _ rfl; (with_reducible repeat (first | refine blk_drewN ?_ _ | refine blk_drew ?_ | refine blk_alloc ?_ _)); refine blk_put (cs := #[.int .i64 t441, .int .i64 0, .string (⟨#[]⟩ : ByteArray)]) ?_ 1 _ rfl; (with_reducible repeat (first | refine blk_drewN ?_ _ | refine blk_drew ?_ | refine blk_alloc ?_ _)); refine blk_put (cs := #[.int .i64 0, .int .i64 0, .string (⟨#[]⟩ : ByteArray)]) ?_ 0 _ rfl; exact pkK BK445.out) hb); replace HB := am (below_step (pkW HB.out) hb); (try clear hb)) | ((with_reducible refine gate_dst (N := 10) rfl ?_); refine box_event ?hg (N := 10) ?hd (cs := #[.int .i64 0, .int .i64 0, .string (⟨#[]⟩ : ByteArray)]) (t := 27) ?hr ?_; (case hd => rfl); (case hg => rfl); (case hr => first | (go_simp; done) | (go_simp; rfl)); intro gb450 hg w62 hbox hb; have BK450 := am (hbox); have GW450 := am ((by rw [hg]; exact (below_size (pkW HB.out)) : w.heap.size ≤ gb450)); have GE450 := am ((by rw [hg]; exact (below_size (pkW HB.out)) : w.heap.size ≤ gb450)); replace HB := am (below_step (pkW HB.out) hb); have NB430_450 := am ((by rw [hg]; exact Nat.ne_of_lt (blk_lt (g := gb430) (o := .cells #[.int .i64 t427, .int .i64 t428, .string t429] 27 (0, 0)) (pkK BK430.out)) : gb430 ≠ gb450)); have NB450_430 := am ((by rw [hg]; exact Nat.ne_of_gt (blk_lt (g := gb430) (o := .cells #[.int .i64 t427, .int .i64 t428, .string t429] 27 (0, 0)) (pkK BK430.out)) : gb450 ≠ gb430)); replace BK430 := am (blk_below (pkK BK430.out) hb); have NB436_450 := am ((by rw [hg]; exact Nat.ne_of_lt (blk_lt (g := gb436) (o := .cells #[.int .i64 t432, .int .i64 t433, .string t434] 27 (0, 0)) (pkK BK436.out)) : gb436 ≠ gb450)); have NB450_436 := am ((by rw [hg]; exact Nat.ne_of_gt (blk_lt (g := gb436) (o := .cells #[.int .i64 t432, .int .i64 t433, .string t434] 27 (0, 0)) (pkK BK436.out)) : gb450 ≠ gb436)); replace BK436 := am (blk_below (pkK BK436.out) hb); have NB445_450 := am ((by rw [hg]; exact Nat.ne_of_lt (blk_lt (g := gb445) (o := .cells #[.int .i64 t441, .int .i64 t442, .string t443] 27 (0, 0)) (pkK BK445.out)) : gb445 ≠ gb450)); have NB450_445 := am ((by rw [hg]; exact Nat.ne_of_gt (blk_lt (g := gb445) (o := .cells #[.int .i64 t441, .int .i64 t442, .string t443] 27 (0, 0)) (pkK BK445.out)) : gb450 ≠ gb445)); replace BK445 := am (blk_below (pkK BK445.out) hb); clear hb hbox hg; have hnb63 := NB450_430.out; have hnc63 := NB430_450.out; have hnb64 := NB450_436.out; have hnc64 := NB436_450.out; have hnb65 := NB450_445.out; have hnc65 := NB445_450.out; obtain ⟨hcz66_0, hcz66_1, hcz66_2, hfz66_0, hfz66_1, hfz66_2⟩ := bk3 BK450.out; obtain ⟨hcz67_0, hcz67_1, hcz67_2, hfz67_0, hfz67_1, hfz67_2⟩ := bk3 BK445.out) | (go_at_call 17; (with_reducible refine (impl_MsgText.calls kj6 t441 t442 t443 t451 _ A52.out).mono ?_); rintro e w68 ⟨rfl, hb⟩; replace BK430 := am (blk_below (g := gb430) (o := .cells #[.int .i64 t427, .int .i64 t428, .string t429] 27 (0, 0)) (by (with_reducible repeat (first | refine blk_drewN ?_ _ | refine blk_drew ?_ | refine blk_alloc ?_ _)); refine blk_far ?_ NB430_450.out _; (with_reducible repeat (first | refine blk_drewN ?_ _ | refine blk_drew ?_ | refine blk_alloc ?_ _)); refine blk_far ?_ NB430_450.out _; (with_reducible repeat (first | refine blk_drewN ?_ _ | refine blk_drew ?_ | refine blk_alloc ?_ _)); refine blk_far ?_ NB430_450.out _; exact pkK BK430.out) hb); replace BK436 := am (blk_below (g := gb436) (o := .cells #[.int .i64 t432, .int .i64 t433, .string t434] 27 (0, 0)) (by (with_reducible repeat (first | refine blk_drewN ?_ _ | refine blk_drew ?_ | refine blk_alloc ?_ _)); refine blk_far ?_ NB436_450.out _; (with_reducible repeat (first | refine blk_drewN ?_ _ | refine blk_drew ?_ | refine blk_alloc ?_ _)); refine blk_far ?_ NB436_450.out _; (with_reducible repeat (first | refine blk_drewN ?_ _ | refine blk_drew ?_ | refine blk_alloc ?_ _)); refine blk_far ?_ NB436_450.out _; exact pkK BK436.out) hb); replace BK445 := am (blk_below (g := gb445) (o := .cells #[.int .i64 t441, .int .i64 t442, .string t443] 27 (0, 0)) (by (with_reducible repeat (first | refine blk_drewN ?_ _ | refine blk_drew ?_ | refine blk_alloc ?_ _)); refine blk_far ?_ NB445_450.out _; (with_reducible repeat (first | refine blk_drewN ?_ _ | refine blk_drew ?_ | refine blk_alloc ?_ _)); refine blk_far ?_ NB445_450.out _; (with_reducible repeat (first | refine blk_drewN ?_ _ | refine blk_drew ?_ | refine blk_alloc ?_ _)); refine blk_far ?_ NB445_450.out _; exact pkK BK445.out) hb); replace BK450 := am (blk_below (g := gb450) (o := .cells #[.int .i64 t446, .int .i64 t447, .string t448] 27 (0, 0)) (by (with_reducible repeat (first | refine blk_drewN ?_ _ | refine blk_drew ?_ | refine blk_alloc ?_ _)); refine blk_put (cs := #[.int .i64 t446, .int .i64 t447, .string (⟨#[]⟩ : ByteArray)]) ?_ 2 _ rfl; (with_reducible repeat (first | refine blk_drewN ?_ _ | refine blk_drew ?_ | refine blk_alloc ?_ _)); refine blk_put (cs := #[.int .i64 t446, .int .i64 0, .string (⟨#[]⟩ : ByteArray)]) ?_ 1 _ rfl; (with_reducible repeat (first | refine blk_drewN ?_ _ | refine blk_drew ?_ | refine blk_alloc ?_ _)); refine blk_put (cs := #[.int .i64 0, .int .i64 0, .string (⟨#[]⟩ : ByteArray)]) ?_ 0 _ rfl; exact pkK BK450.out) hb); replace HB := am (below_step (pkW HB.out) hb); (try clear hb); obtain ⟨hcz69_0, hcz69_1, hcz69_2, hfz69_0, hfz69_1, hfz69_2⟩ := bk3 BK445.out) | (go_at_call 15; (with_reducible refine (impl_MsgOk.calls kj6 t441 t442 t443 t452 _ A54.out).mono ?_); rintro e w70 ⟨rfl, hb⟩; replace BK430 := am (blk_below (pkK BK430.out) hb); replace BK436 := am (blk_below (pkK BK436.out) hb); replace BK445 := am (blk_below (pkK BK445.out) hb); replace BK450 := am (blk_below (pkK BK450.out) hb); replace HB := am (below_step (pkW HB.out) hb); (try clear hb)))
        go_ret
        exact ⟨rfe, pkW HB.out⟩
       ·rw [if_neg c53] at H
        have c53b0 : (t451.toList == t440.toList) = false := beq_eq_false_iff_ne.mpr c53
        have c53b1 : (t451.toList != t440.toList) = true := bne_iff_ne.mpr c53
        exact absurd (Option.some.inj H) (by rw [HQ_.out]; simp)
      ·replace c51 := Bool.eq_false_iff.mpr c51
       subst c51
       replace H : (some true) = some r := by rw [if_neg (show ¬ (false = true) by decide)] at H; exact H
       obtain rfl := Option.some.inj H
       go_wp2_with (first | ((with_reducible refine gate_callee (f := 30) rfl ?_); refine goesL_ (some 42) rfl rfl Try.func30 (by kernel_rfl) rfl #[.slice A0 l0.length c0] rfl mpx ?_; (with_reducible refine (spec_DrawReadMsg.calls kj6 _ _ l0 t440 _ ?side1 ?side2 A47.out).mono ?_); (case side1 => exact pkC (Kd.C_below HR0.out HB.out)); (case side2 => exact HC0.out); rintro e w71 ⟨rfl, hb⟩; refine ⟨_, rfl, ?_⟩; replace BK430 := am (blk_below (pkK BK430.out) hb); replace BK436 := am (blk_below (pkK BK436.out) hb); replace HB := am (below_step (pkW HB.out) hb); (try clear hb)) | ((with_reducible refine gate_callee (f := 21) rfl ?_); refine goesL_ (some 45) rfl rfl Try.func21 (by kernel_rfl) rfl #[.string t440] rfl mpx ?_; (with_reducible refine (impl_ReadMsg.calls kj6 t440 t441 t442 t443 false _ A48.out).mono ?_); rintro e w72 ⟨rfl, hb⟩; refine ⟨_, rfl, ?_⟩; replace BK430 := am (blk_below (pkK BK430.out) hb); replace BK436 := am (blk_below (pkK BK436.out) hb); replace HB := am (below_step (pkW HB.out) hb); (try clear hb)) | ((with_reducible refine gate_dst (N := 8) rfl ?_); refine box_event ?hg (N := 8) ?hd (cs := #[.int .i64 0, .int .i64 0, .string (⟨#[]⟩ : ByteArray)]) (t := 27) ?hr ?_; (case hd => rfl); (case hg => rfl); (case hr => first | (go_simp; done) | (go_simp; rfl)); intro gb445 hg w73 hbox hb; have BK445 := am (hbox); have GW445 := am ((by rw [hg]; exact (below_size (pkW HB.out)) : w.heap.size ≤ gb445)); have GE445 := am ((by rw [hg]; exact (below_size (pkW HB.out)) : w.heap.size ≤ gb445)); replace HB := am (below_step (pkW HB.out) hb); have NB430_445 := am ((by rw [hg]; exact Nat.ne_of_lt (blk_lt (g := gb430) (o := .cells #[.int .i64 t427, .int .i64 t428, .string t429] 27 (0, 0)) (pkK BK430.out)) : gb430 ≠ gb445)); have NB445_430 := am ((by rw [hg]; exact Nat.ne_of_gt (blk_lt (g := gb430) (o := .cells #[.int .i64 t427, .int .i64 t428, .string t429] 27 (0, 0)) (pkK BK430.out)) : gb445 ≠ gb430)); replace BK430 := am (blk_below (pkK BK430.out) hb); have NB436_445 := am ((by rw [hg]; exact Nat.ne_of_lt (blk_lt (g := gb436) (o := .cells #[.int .i64 t432, .int .i64 t433, .string t434] 27 (0, 0)) (pkK BK436.out)) : gb436 ≠ gb445)); have NB445_436 := am ((by rw [hg]; exact Nat.ne_of_gt (blk_lt (g := gb436) (o := .cells #[.int .i64 t432, .int .i64 t433, .string t434] 27 (0, 0)) (pkK BK436.out)) : gb445 ≠ gb436)); replace BK436 := am (blk_below (pkK BK436.out) hb); clear hb hbox hg; have hnb74 := NB445_430.out; have hnc74 := NB430_445.out; have hnb75 := NB445_436.out; have hnc75 := NB436_445.out; obtain ⟨hcz76_0, hcz76_1, hcz76_2, hfz76_0, hfz76_1, hfz76_2⟩ := bk3 BK445.out) | ((with_reducible refine gate_callee (f := 20) rfl ?_); refine goesL_ (some 50) rfl rfl Try.func20 (by kernel_rfl) rfl #[.string t440] rfl mpx ?_; (with_reducible refine (spec_ReadMsg.calls kj6 t440 t446 t447 t448 t449 _ A49.out).mono ?_); rintro e w77 ⟨rfl, hb⟩; refine ⟨_, rfl, ?_⟩; replace BK430 := am (blk_below (g := gb430) (o := .cells #[.int .i64 t427, .int .i64 t428, .string t429] 27 (0, 0)) (by (with_reducible repeat (first | refine blk_drewN ?_ _ | refine blk_drew ?_ | refine blk_alloc ?_ _)); refine blk_far ?_ NB430_445.out _; (with_reducible repeat (first | refine blk_drewN ?_ _ | refine blk_drew ?_ | refine blk_alloc ?_ _)); refine blk_far ?_ NB430_445.out _; (with_reducible repeat (first | refine blk_drewN ?_ _ | refine blk_drew ?_ | refine blk_alloc ?_ _)); refine blk_far ?_ NB430_445.out _; exact pkK BK430.out) hb); replace BK436 := am (blk_below (g := gb436) (o := .cells #[.int .i64 t432, .int .i64 t433, .string t434] 27 (0, 0)) (by (with_reducible repeat (first | refine blk_drewN ?_ _ | refine blk_drew ?_ | refine blk_alloc ?_ _)); refine blk_far ?_ NB436_445.out _; (with_reducible repeat (first | refine blk_drewN ?_ _ | refine blk_drew ?_ | refine blk_alloc ?_ _)); refine blk_far ?_ NB436_445.out _; (with_reducible repeat (first | refine blk_drewN ?_ _ | refine blk_drew ?_ | refine blk_alloc ?_ _)); refine blk_far ?_ NB436_445.out _; exact pkK BK436.out) hb); replace BK445 := am (blk_below (g := gb445) (o := .cells #[.int .i64 t441, .int .i64 t442, .string t443] 27 (0, 0)) (by (with_reducible repeat (first | refine blk_drewN ?_ _ | refine blk_drew ?_ | refine blk_alloc ?_ _)); refine blk_put (cs := #[.int .i64 t441, .int .i64 t442, .string (⟨#[]⟩ : ByteArray)]) ?_ 2 _ rfl; (with_reducible repeat (first | refine blk_drewN ?_ _ | refine blk_drew ?_ | refine blk_alloc ?_ _)); refine blk_put (cs := #[.int .i64 t441, .int .i64 0, .string (⟨#[]⟩ : ByteArray)]) ?_ 1 _ rfl; (with_reducible repeat (first | refine blk_drewN ?_ _ | refine blk_drew ?_ | refine blk_alloc ?_ _)); refine blk_put (cs := #[.int .i64 0, .int .i64 0, .string (⟨#[]⟩ : ByteArray)]) ?_ 0 _ rfl; exact pkK BK445.out) hb); replace HB := am (below_step (pkW HB.out) hb); (try clear hb)) | ((with_reducible refine gate_dst (N := 10) rfl ?_); refine box_event ?hg (N := 10) ?hd (cs := #[.int .i64 0, .int .i64 0, .string (⟨#[]⟩ : ByteArray)]) (t := 27) ?hr ?_; (case hd => rfl); (case hg => rfl); (case hr => first | (go_simp; done) | (go_simp; rfl)); intro gb450 hg w78 hbox hb; have BK450 := am (hbox); have GW450 := am ((by rw [hg]; exact (below_size (pkW HB.out)) : w.heap.size ≤ gb450)); have GE450 := am ((by rw [hg]; exact (below_size (pkW HB.out)) : w.heap.size ≤ gb450)); replace HB := am (below_step (pkW HB.out) hb); have NB430_450 := am ((by rw [hg]; exact Nat.ne_of_lt (blk_lt (g := gb430) (o := .cells #[.int .i64 t427, .int .i64 t428, .string t429] 27 (0, 0)) (pkK BK430.out)) : gb430 ≠ gb450)); have NB450_430 := am ((by rw [hg]; exact Nat.ne_of_gt (blk_lt (g := gb430) (o := .cells #[.int .i64 t427, .int .i64 t428, .string t429] 27 (0, 0)) (pkK BK430.out)) : gb450 ≠ gb430)); replace BK430 := am (blk_below (pkK BK430.out) hb); have NB436_450 := am ((by rw [hg]; exact Nat.ne_of_lt (blk_lt (g := gb436) (o := .cells #[.int .i64 t432, .int .i64 t433, .string t434] 27 (0, 0)) (pkK BK436.out)) : gb436 ≠ gb450)); have NB450_436 := am ((by rw [hg]; exact Nat.ne_of_gt (blk_lt (g := gb436) (o := .cells #[.int .i64 t432, .int .i64 t433, .string t434] 27 (0, 0)) (pkK BK436.out)) : gb450 ≠ gb436)); replace BK436 := am (blk_below (pkK BK436.out) hb); have NB445_450 := am ((by rw [hg]; exact Nat.ne_of_lt (blk_lt (g := gb445) (o := .cells #[.int .i64 t441, .int .i64 t442, .string t443] 27 (0, 0)) (pkK BK445.out)) : gb445 ≠ gb450)); have NB450_445 := am ((by rw [hg]; exact Nat.ne_of_gt (blk_lt (g := gb445) (o := .cells #[.int .i64 t441, .int .i64 t442, .string t443] 27 (0, 0)) (pkK BK445.out)) : gb450 ≠ gb445)); replace BK445 := am (blk_below (pkK BK445.out) hb); clear hb hbox hg; have hnb79 := NB450_430.out; have hnc79 := NB430_450.out; have hnb80 := NB450_436.out; have hnc80 := NB436_450.out; have hnb81 := NB450_445.out; have hnc81 := NB445_450.out; obtain ⟨hcz82_0, hcz82_1, hcz82_2, hfz82_0, hfz82_1, hfz82_2⟩ := bk3 BK450.out))
       go_ret
       exact ⟨rfe, pkW HB.out⟩
     ·rw [if_neg c50] at H
      have c50b0 : (t444 == t449) = false := by simpa using c50
      (try (have c50b1 : decide (t444 = t449) = false := by simpa using c50))
      (try (have c50b2 : (t444 == t449) = false := by first | exact bq_t c50 | exact bq_f c50 | simpa using c50))
      (try (have c50b3 : ¬ (t444 = t449) := by simpa using c50))
      clear c50
      exact absurd (Option.some.inj H) (by rw [HQ_.out]; simp)
end Go.Proofs.Ytalehmhjddnmoaa.Z
