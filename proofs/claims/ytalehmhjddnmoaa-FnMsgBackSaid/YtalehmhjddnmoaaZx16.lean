/- The Go functions spec_ReadMsg as Lean functions, each with a proof that its code comes to just these answers; conditions: those of each theorem. -/
import Derived.Test.YtalehmhjddnmoaaZx0
import Derived.Test.YtalehmhjddnmoaaZx3
import Derived.Test.YtalehmhjddnmoaaZx15
namespace Go.Proofs.Ytalehmhjddnmoaa.Z
open Go.RowKit Go.Proofs.YtalehmhjddnmoaaW.PrintWords Go.Proofs.YtalehmhjddnmoaaW.PrintLast Go.Proofs.YtalehmhjddnmoaaW.PrintMore
attribute [local go_sem] max2_int min2_int max_two min_two max_three min_three max_four min_four   -- for this text's walks alone
set_option linter.unusedVariables false
set_option linter.unusedSimpArgs false
def spec_ReadMsg.f (k : Nat) (a0 : ByteArray) : Option (Int × Int × ByteArray × Bool) := (spec_l1Number.f k a0).bind fun bt181 => (if bt181.2 = true then (some (1, bt181.1, (⟨#[]⟩ : ByteArray), true)) else (if (a0.size : Int) < 2 then (some (0, 0, (⟨#[]⟩ : ByteArray), false)) else (if 0 < (a0.size : Int) then (if (bt a0 0) = 34 then (if 0 ≤ (wrap64 ((a0.size : Int) - 1)) then (if (wrap64 ((a0.size : Int) - 1)) < (a0.size : Int) then (if (bt a0 (wrap64 ((a0.size : Int) - 1))) = 34 then (if 1 ≤ (wrap64 ((a0.size : Int) - 1)) then (if (wrap64 ((a0.size : Int) - 1)) ≤ (a0.size : Int) then ((spec_l1Plain.f k (a0.extract 1 ((wrap64 ((a0.size : Int) - 1)) : Int).toNat)).bind fun t183 => (if t183 = true then (some (2, 0, a0.extract 1 ((wrap64 ((a0.size : Int) - 1)) : Int).toNat, true)) else (some (0, 0, (⟨#[]⟩ : ByteArray), false)))) else (none)) else (none)) else (some (0, 0, (⟨#[]⟩ : ByteArray), false))) else (none)) else (none)) else (some (0, 0, (⟨#[]⟩ : ByteArray), false))) else (none))))
theorem spec_ReadMsg.mono : ∀ a0 k, LeO (spec_ReadMsg.f k a0) (spec_ReadMsg.f (k + 1) a0) := by
 intro a0 k
 unfold spec_ReadMsg.f
 repeat' first
   | (with_reducible exact spec_l1Number.mono _ _)
   | (with_reducible exact spec_l1Plain.mono _ _)
   | (with_reducible exact LeO.refl _)
   | (with_reducible exact LeO.none _)
   | (with_reducible refine LeO.ite ?_ ?_)
   | (with_reducible refine LeO.bind ?_ (fun _ => ?_))
set_option maxHeartbeats 8000000 in
set_option maxRecDepth 100000 in
theorem spec_ReadMsg.calls (k : Nat) (a0 : ByteArray) (r1 : Int) (r2 : Int) (r3 : ByteArray) (r4 : Bool) (w : World) (h : spec_ReadMsg.f k a0 = some (r1, r2, r3, r4)) :
  Calls Try.prog 20 #[.string a0] w fun e w' => e = .returned (.tuple #[.agg #[.int .i64 r1, .int .i64 r2, .string r3], .bool r4]) ∧ Below w.heap.size w w' := by
 have hu27 := Try.underlying27
 have HB := am (Below.refl w.heap.size w)
 have H : ((spec_l1Number.f k a0).bind fun bt181 => (if bt181.2 = true then (some (1, bt181.1, (⟨#[]⟩ : ByteArray), true)) else (if (a0.size : Int) < 2 then (some (0, 0, (⟨#[]⟩ : ByteArray), false)) else (if 0 < (a0.size : Int) then (if (bt a0 0) = 34 then (if 0 ≤ (wrap64 ((a0.size : Int) - 1)) then (if (wrap64 ((a0.size : Int) - 1)) < (a0.size : Int) then (if (bt a0 (wrap64 ((a0.size : Int) - 1))) = 34 then (if 1 ≤ (wrap64 ((a0.size : Int) - 1)) then (if (wrap64 ((a0.size : Int) - 1)) ≤ (a0.size : Int) then ((spec_l1Plain.f k (a0.extract 1 ((wrap64 ((a0.size : Int) - 1)) : Int).toNat)).bind fun t183 => (if t183 = true then (some (2, 0, a0.extract 1 ((wrap64 ((a0.size : Int) - 1)) : Int).toNat, true)) else (some (0, 0, (⟨#[]⟩ : ByteArray), false)))) else (none)) else (none)) else (some (0, 0, (⟨#[]⟩ : ByteArray), false))) else (none)) else (none)) else (some (0, 0, (⟨#[]⟩ : ByteArray), false))) else (none))))) = some (r1, r2, r3, r4) := h
 clear h
 replace H := Option.bind_eq_some_iff.mp H
 obtain ⟨⟨t181, t182⟩, A20, H⟩ := H
 replace H : (if t182 = true then (some (1, t181, (⟨#[]⟩ : ByteArray), true)) else (if (a0.size : Int) < 2 then (some (0, 0, (⟨#[]⟩ : ByteArray), false)) else (if 0 < (a0.size : Int) then (if (bt a0 0) = 34 then (if 0 ≤ (wrap64 ((a0.size : Int) - 1)) then (if (wrap64 ((a0.size : Int) - 1)) < (a0.size : Int) then (if (bt a0 (wrap64 ((a0.size : Int) - 1))) = 34 then (if 1 ≤ (wrap64 ((a0.size : Int) - 1)) then (if (wrap64 ((a0.size : Int) - 1)) ≤ (a0.size : Int) then ((spec_l1Plain.f k (a0.extract 1 ((wrap64 ((a0.size : Int) - 1)) : Int).toNat)).bind fun t183 => (if t183 = true then (some (2, 0, a0.extract 1 ((wrap64 ((a0.size : Int) - 1)) : Int).toNat, true)) else (some (0, 0, (⟨#[]⟩ : ByteArray), false)))) else (none)) else (none)) else (some (0, 0, (⟨#[]⟩ : ByteArray), false))) else (none)) else (none)) else (some (0, 0, (⟨#[]⟩ : ByteArray), false))) else (none)))) = some (r1, r2, r3, r4) := H
 have A2 := am A20
 clear A20
 by_cases c3 : t182 = true
 ·subst c3
  replace H : (some (1, t181, (⟨#[]⟩ : ByteArray), true)) = some (r1, r2, r3, r4) := by rw [if_pos rfl] at H; exact H
  simp only [Option.some.injEq, Prod.mk.injEq] at H
  obtain ⟨rfl, rfl, rfl, rfl⟩ := H
  go_enter Try.func20, Try.ntmps20
  go_wp2_with (first | ((with_reducible refine gate_dst (N := 2) rfl ?_); (try (refine gate_guard (by rfl) ?_; dsimp only)); refine box_event ?hg (N := 2) ?hd (cs := #[.int .i64 0, .int .i64 0, .string (⟨#[]⟩ : ByteArray)]) (t := 27) ?hr ?_; (case hd => rfl); (case hg => rfl); (case hr => first | (go_simp; done) | (go_simp; rfl)); intro gb180 hg w4 hbox hb; have BK180 := am (hbox); have GW180 := am ((by rw [hg]; exact (below_size (pkB HB.out)) : w.heap.size ≤ gb180)); have GE180 := am ((by rw [hg]; exact (below_size (pkB HB.out)) : w.heap.size ≤ gb180)); replace HB := am (below_step (pkB HB.out) hb); clear hb hbox hg) | ((with_reducible refine gate_callee (f := 39) rfl ?_); refine goesL_ (some 8) rfl rfl Try.func39 (by kernel_rfl) rfl #[.string a0] rfl mpx ?_; (with_reducible refine (spec_l1Number.calls k a0 t181 true _ A2.out).mono ?_); rintro e w' ⟨rfl, ⟨nd, rfl⟩⟩; refine ⟨_, rfl, ?_⟩; (try (rw [drewN_self w4]; generalize hq_ : World.drewN w4 _ = w4; replace BK180 : Aside0 (w4.heap[gb180]? = some (.cells #[.int .i64 0, .int .i64 0, .string (⟨#[]⟩ : ByteArray)] 27 (0, 0))) := ⟨by rw [← hq_]; exact (pkK BK180.out)⟩; replace HB : Aside0 (Below w.heap.size w w4) := ⟨by rw [← hq_]; exact (pkW HB.out)⟩; clear hq_)); obtain ⟨hcz5_0, hcz5_1, hcz5_2, hfz5_0, hfz5_1, hfz5_2⟩ := bk3 BK180.out))
  refine bodyPost_ret (results_ct rfl _ _ gb180 27 #[.int .i64 1, .int .i64 t181, .string (⟨#[]⟩ : ByteArray)] (0, 0) _ rfl (by (with_reducible repeat (first | refine blk_drewN ?_ _ | refine blk_drew ?_ | refine blk_alloc ?_ _)); refine blk_put (cs := #[.int .i64 1, .int .i64 t181, .string (⟨#[]⟩ : ByteArray)]) ?_ 2 _ rfl; (with_reducible repeat (first | refine blk_drewN ?_ _ | refine blk_drew ?_ | refine blk_alloc ?_ _)); refine blk_put (cs := #[.int .i64 1, .int .i64 0, .string (⟨#[]⟩ : ByteArray)]) ?_ 1 _ rfl; (with_reducible repeat (first | refine blk_drewN ?_ _ | refine blk_drew ?_ | refine blk_alloc ?_ _)); refine blk_put (cs := #[.int .i64 0, .int .i64 0, .string (⟨#[]⟩ : ByteArray)]) ?_ 0 _ rfl; exact pkK BK180.out) Try.underlying27 rfl (by kernel_rfl)) rfl ?_
  exact ⟨rfe, pkW HB.out⟩
 ·replace c3 := Bool.eq_false_iff.mpr c3
  subst c3
  replace H : (if (a0.size : Int) < 2 then (some (0, 0, (⟨#[]⟩ : ByteArray), false)) else (if 0 < (a0.size : Int) then (if (bt a0 0) = 34 then (if 0 ≤ (wrap64 ((a0.size : Int) - 1)) then (if (wrap64 ((a0.size : Int) - 1)) < (a0.size : Int) then (if (bt a0 (wrap64 ((a0.size : Int) - 1))) = 34 then (if 1 ≤ (wrap64 ((a0.size : Int) - 1)) then (if (wrap64 ((a0.size : Int) - 1)) ≤ (a0.size : Int) then ((spec_l1Plain.f k (a0.extract 1 ((wrap64 ((a0.size : Int) - 1)) : Int).toNat)).bind fun t183 => (if t183 = true then (some (2, 0, a0.extract 1 ((wrap64 ((a0.size : Int) - 1)) : Int).toNat, true)) else (some (0, 0, (⟨#[]⟩ : ByteArray), false)))) else (none)) else (none)) else (some (0, 0, (⟨#[]⟩ : ByteArray), false))) else (none)) else (none)) else (some (0, 0, (⟨#[]⟩ : ByteArray), false))) else (none))) = some (r1, r2, r3, r4) := by rw [if_neg (show ¬ (false = true) by decide)] at H; exact H
  by_cases c6 : (a0.size : Int) < 2
  ·rw [if_pos c6] at H
   have c6b0 : decide ((a0.size : Int) < 2) = true := decide_eq_true c6
   have c6b1 : decide (a0.size < 2) = true := decide_eq_true (by omega)
   clear c6
   simp only [Option.some.injEq, Prod.mk.injEq] at H
   obtain ⟨rfl, rfl, rfl, rfl⟩ := H
   go_enter Try.func20, Try.ntmps20
   go_wp2_with (first | ((with_reducible refine gate_dst (N := 2) rfl ?_); (try (refine gate_guard (by rfl) ?_; dsimp only)); refine box_event ?hg (N := 2) ?hd (cs := #[.int .i64 0, .int .i64 0, .string (⟨#[]⟩ : ByteArray)]) (t := 27) ?hr ?_; (case hd => rfl); (case hg => rfl); (case hr => first | (go_simp; done) | (go_simp; rfl)); intro gb180 hg w7 hbox hb; have BK180 := am (hbox); have GW180 := am ((by rw [hg]; exact (below_size (pkB HB.out)) : w.heap.size ≤ gb180)); have GE180 := am ((by rw [hg]; exact (below_size (pkB HB.out)) : w.heap.size ≤ gb180)); replace HB := am (below_step (pkB HB.out) hb); clear hb hbox hg) | ((with_reducible refine gate_callee (f := 39) rfl ?_); refine goesL_ (some 8) rfl rfl Try.func39 (by kernel_rfl) rfl #[.string a0] rfl mpx ?_; (with_reducible refine (spec_l1Number.calls k a0 t181 false _ A2.out).mono ?_); rintro e w' ⟨rfl, ⟨nd, rfl⟩⟩; refine ⟨_, rfl, ?_⟩; (try (rw [drewN_self w7]; generalize hq_ : World.drewN w7 _ = w7; replace BK180 : Aside0 (w7.heap[gb180]? = some (.cells #[.int .i64 0, .int .i64 0, .string (⟨#[]⟩ : ByteArray)] 27 (0, 0))) := ⟨by rw [← hq_]; exact (pkK BK180.out)⟩; replace HB : Aside0 (Below w.heap.size w w7) := ⟨by rw [← hq_]; exact (pkW HB.out)⟩; clear hq_)); obtain ⟨hcz8_0, hcz8_1, hcz8_2, hfz8_0, hfz8_1, hfz8_2⟩ := bk3 BK180.out))
   refine bodyPost_ret (results_ct rfl _ _ gb180 27 #[.int .i64 0, .int .i64 0, .string (⟨#[]⟩ : ByteArray)] (0, 0) _ rfl (by (with_reducible repeat (first | refine blk_drewN ?_ _ | refine blk_drew ?_ | refine blk_alloc ?_ _)); refine blk_put (cs := #[.int .i64 0, .int .i64 0, .string (⟨#[]⟩ : ByteArray)]) ?_ 2 _ rfl; (with_reducible repeat (first | refine blk_drewN ?_ _ | refine blk_drew ?_ | refine blk_alloc ?_ _)); refine blk_put (cs := #[.int .i64 0, .int .i64 0, .string (⟨#[]⟩ : ByteArray)]) ?_ 1 _ rfl; (with_reducible repeat (first | refine blk_drewN ?_ _ | refine blk_drew ?_ | refine blk_alloc ?_ _)); refine blk_put (cs := #[.int .i64 0, .int .i64 0, .string (⟨#[]⟩ : ByteArray)]) ?_ 0 _ rfl; exact pkK BK180.out) Try.underlying27 rfl (by kernel_rfl)) rfl ?_
   exact ⟨rfe, pkW HB.out⟩
  ·rw [if_neg c6] at H
   have c6b0 : decide ((a0.size : Int) < 2) = false := decide_eq_false c6
   have c6b1 : decide (a0.size < 2) = false := decide_eq_false (by omega)
   clear c6
   by_cases c9 : 0 < (a0.size : Int)
   ·rw [if_pos c9] at H
    have c9b0 : decide (0 < (a0.size : Int)) = true := decide_eq_true c9
    have c9b1 : decide (0 < a0.size) = true := decide_eq_true (by omega)
    clear c9
    by_cases c11 : (bt a0 0) = 34
    ·rw [if_pos c11] at H
     have c11b0 : ((bt a0 0) == 34) = true := beq_iff_eq.mpr c11
     have c11b1 : ((bt a0 0) != 34) = false := bne_eq_false_iff_eq.mpr c11
     clear c11
     obtain ⟨ji12, hji12⟩ : ∃ j_ : Int, (wrap64 ((a0.size : Int) - 1)) = j_ := ⟨_, rfl⟩
     replace H : (if 0 ≤ (ji12) then (if (ji12) < (a0.size : Int) then (if (bt a0 (ji12)) = 34 then (if 1 ≤ (ji12) then (if (ji12) ≤ (a0.size : Int) then ((spec_l1Plain.f k (a0.extract 1 ((ji12) : Int).toNat)).bind fun t183 => (if t183 = true then (some (2, 0, a0.extract 1 ((ji12) : Int).toNat, true)) else (some (0, 0, (⟨#[]⟩ : ByteArray), false)))) else (none)) else (none)) else (some (0, 0, (⟨#[]⟩ : ByteArray), false))) else (none)) else (none)) = some (r1, r2, r3, r4) := by first | (rw [hji12] at H; exact H) | (simp only [hji12] at H ⊢; exact H)
     (try rw [hji12] at A2)
     have hji12w : (IntKind.i64.wrap ((a0.size : Int) - 1)) = ji12 := (i64_w _).trans hji12
     by_cases c13 : 0 ≤ (ji12)
     ·rw [if_pos c13] at H
      have c13b0 : decide (0 ≤ (ji12)) = true := decide_eq_true c13
      clear c13
      by_cases c14 : (ji12) < (a0.size : Int)
      ·rw [if_pos c14] at H
       have c14b0 : decide ((ji12) < (a0.size : Int)) = true := decide_eq_true c14
       clear c14
       by_cases c16 : (bt a0 (ji12)) = 34
       ·rw [if_pos c16] at H
        have c16b0 : ((bt a0 (ji12)) == 34) = true := beq_iff_eq.mpr c16
        have c16b1 : ((bt a0 (ji12)) != 34) = false := bne_eq_false_iff_eq.mpr c16
        clear c16
        by_cases c17 : 1 ≤ (ji12)
        ·rw [if_pos c17] at H
         have c17b0 := eq_true c17
         have c17b1 : decide (1 ≤ (ji12)) = true := decide_eq_true c17
         clear c17
         by_cases c18 : (ji12) ≤ (a0.size : Int)
         ·rw [if_pos c18] at H
          have c18b0 := eq_true c18
          have c18b1 : decide ((ji12) ≤ (a0.size : Int)) = true := decide_eq_true c18
          clear c18
          replace H := Option.bind_eq_some_iff.mp H
          obtain ⟨t183, A190, H⟩ := H
          replace H : (if t183 = true then (some (2, 0, a0.extract 1 ((ji12) : Int).toNat, true)) else (some (0, 0, (⟨#[]⟩ : ByteArray), false))) = some (r1, r2, r3, r4) := H
          have A19 := am A190
          clear A190
          by_cases c20 : t183 = true
          ·subst c20
           replace H : (some (2, 0, a0.extract 1 ((ji12) : Int).toNat, true)) = some (r1, r2, r3, r4) := by rw [if_pos rfl] at H; exact H
           have c21b0 := eq_true (ofd : 1 ≤ (ji12))
           have c22b0 := eq_true (ofd : (ji12) ≤ (a0.size : Int))
           simp only [Option.some.injEq, Prod.mk.injEq] at H
           obtain ⟨rfl, rfl, rfl, rfl⟩ := H
           go_enter Try.func20, Try.ntmps20
           go_wp2_with (first | ((with_reducible refine gate_dst (N := 2) rfl ?_); (try (refine gate_guard (by rfl) ?_; dsimp only)); refine box_event ?hg (N := 2) ?hd (cs := #[.int .i64 0, .int .i64 0, .string (⟨#[]⟩ : ByteArray)]) (t := 27) ?hr ?_; (case hd => rfl); (case hg => rfl); (case hr => first | (go_simp; done) | (go_simp; rfl)); intro gb180 hg w23 hbox hb; have BK180 := am (hbox); have GW180 := am ((by rw [hg]; exact (below_size (pkB HB.out)) : w.heap.size ≤ gb180)); have GE180 := am ((by rw [hg]; exact (below_size (pkB HB.out)) : w.heap.size ≤ gb180)); replace HB := am (below_step (pkB HB.out) hb); clear hb hbox hg) | ((with_reducible refine gate_callee (f := 39) rfl ?_); refine goesL_ (some 8) rfl rfl Try.func39 (by kernel_rfl) rfl #[.string a0] rfl mpx ?_; (with_reducible refine (spec_l1Number.calls k a0 t181 false _ A2.out).mono ?_); rintro e w' ⟨rfl, ⟨nd, rfl⟩⟩; refine ⟨_, rfl, ?_⟩; (try (rw [drewN_self w23]; generalize hq_ : World.drewN w23 _ = w23; replace BK180 : Aside0 (w23.heap[gb180]? = some (.cells #[.int .i64 0, .int .i64 0, .string (⟨#[]⟩ : ByteArray)] 27 (0, 0))) := ⟨by rw [← hq_]; exact (pkK BK180.out)⟩; replace HB : Aside0 (Below w.heap.size w w23) := ⟨by rw [← hq_]; exact (pkW HB.out)⟩; clear hq_)); have p10 : 0 ≤ (0 : Int) := (by omega); have q10 : 0 < a0.size := (by have : (0 : Int) < (a0.size : Int) := ofd; omega); have hx10 : ∀ h : 0 < a0.size, ((a0[0]'h).toNat : Int) = bt a0 0 := bt_at a0 0; clear p10; have qi10 : (0 < (a0.size : Int)) = True := eq_true (ofd); replace q10 := eq_true q10; have p15 : 0 ≤ ((ji12) : Int) := ofd; have q15 : (ji12) < (a0.size : Int) := ofd; have hx15 := bt_at a0 (ji12); replace p15 := eq_true p15; replace q15 := eq_true q15) | (go_at_call 33; (with_reducible refine (spec_l1Plain.calls k (a0.extract 1 ((ji12) : Int).toNat) true _ A19.out).mono ?_); rintro e w' ⟨rfl, ⟨nd, rfl⟩⟩; (try (rw [drewN_self w23]; generalize hq_ : World.drewN w23 _ = w23; replace BK180 : Aside0 (w23.heap[gb180]? = some (.cells #[.int .i64 0, .int .i64 0, .string (⟨#[]⟩ : ByteArray)] 27 (0, 0))) := ⟨by rw [← hq_]; exact (pkK BK180.out)⟩; replace HB : Aside0 (Below w.heap.size w w23) := ⟨by rw [← hq_]; exact (pkW HB.out)⟩; clear hq_)); obtain ⟨hcz24_0, hcz24_1, hcz24_2, hfz24_0, hfz24_1, hfz24_2⟩ := bk3 BK180.out))
           refine bodyPost_ret (results_ct rfl _ _ gb180 27 #[.int .i64 2, .int .i64 0, .string (a0.extract 1 ((ji12) : Int).toNat)] (0, 0) _ rfl (by (with_reducible repeat (first | refine blk_drewN ?_ _ | refine blk_drew ?_ | refine blk_alloc ?_ _)); refine blk_put (cs := #[.int .i64 2, .int .i64 0, .string (⟨#[]⟩ : ByteArray)]) ?_ 2 _ rfl; (with_reducible repeat (first | refine blk_drewN ?_ _ | refine blk_drew ?_ | refine blk_alloc ?_ _)); refine blk_put (cs := #[.int .i64 2, .int .i64 0, .string (⟨#[]⟩ : ByteArray)]) ?_ 1 _ rfl; (with_reducible repeat (first | refine blk_drewN ?_ _ | refine blk_drew ?_ | refine blk_alloc ?_ _)); refine blk_put (cs := #[.int .i64 0, .int .i64 0, .string (⟨#[]⟩ : ByteArray)]) ?_ 0 _ rfl; exact pkK BK180.out) Try.underlying27 rfl (by kernel_rfl)) rfl ?_
           exact ⟨by first | rfl | (simp [errW_none, errW_some] <;> rfl) | (simp only [← hji12]; first | rfl | (simp [errW_none, errW_some] <;> rfl)) | (simp [*, errW_none, errW_some] <;> rfl), pkW HB.out⟩
          ·replace c20 := Bool.eq_false_iff.mpr c20
           subst c20
           replace H : (some (0, 0, (⟨#[]⟩ : ByteArray), false)) = some (r1, r2, r3, r4) := by rw [if_neg (show ¬ (false = true) by decide)] at H; exact H
           simp only [Option.some.injEq, Prod.mk.injEq] at H
           obtain ⟨rfl, rfl, rfl, rfl⟩ := H
           go_enter Try.func20, Try.ntmps20
           go_wp2_with (first | ((with_reducible refine gate_dst (N := 2) rfl ?_); (try (refine gate_guard (by rfl) ?_; dsimp only)); refine box_event ?hg (N := 2) ?hd (cs := #[.int .i64 0, .int .i64 0, .string (⟨#[]⟩ : ByteArray)]) (t := 27) ?hr ?_; (case hd => rfl); (case hg => rfl); (case hr => first | (go_simp; done) | (go_simp; rfl)); intro gb180 hg w25 hbox hb; have BK180 := am (hbox); have GW180 := am ((by rw [hg]; exact (below_size (pkB HB.out)) : w.heap.size ≤ gb180)); have GE180 := am ((by rw [hg]; exact (below_size (pkB HB.out)) : w.heap.size ≤ gb180)); replace HB := am (below_step (pkB HB.out) hb); clear hb hbox hg) | ((with_reducible refine gate_callee (f := 39) rfl ?_); refine goesL_ (some 8) rfl rfl Try.func39 (by kernel_rfl) rfl #[.string a0] rfl mpx ?_; (with_reducible refine (spec_l1Number.calls k a0 t181 false _ A2.out).mono ?_); rintro e w' ⟨rfl, ⟨nd, rfl⟩⟩; refine ⟨_, rfl, ?_⟩; (try (rw [drewN_self w25]; generalize hq_ : World.drewN w25 _ = w25; replace BK180 : Aside0 (w25.heap[gb180]? = some (.cells #[.int .i64 0, .int .i64 0, .string (⟨#[]⟩ : ByteArray)] 27 (0, 0))) := ⟨by rw [← hq_]; exact (pkK BK180.out)⟩; replace HB : Aside0 (Below w.heap.size w w25) := ⟨by rw [← hq_]; exact (pkW HB.out)⟩; clear hq_)); have p10 : 0 ≤ (0 : Int) := (by omega); have q10 : 0 < a0.size := (by have : (0 : Int) < (a0.size : Int) := ofd; omega); have hx10 : ∀ h : 0 < a0.size, ((a0[0]'h).toNat : Int) = bt a0 0 := bt_at a0 0; clear p10; have qi10 : (0 < (a0.size : Int)) = True := eq_true (ofd); replace q10 := eq_true q10; have p15 : 0 ≤ ((ji12) : Int) := ofd; have q15 : (ji12) < (a0.size : Int) := ofd; have hx15 := bt_at a0 (ji12); replace p15 := eq_true p15; replace q15 := eq_true q15) | (go_at_call 33; (with_reducible refine (spec_l1Plain.calls k (a0.extract 1 ((ji12) : Int).toNat) false _ A19.out).mono ?_); rintro e w' ⟨rfl, ⟨nd, rfl⟩⟩; (try (rw [drewN_self w25]; generalize hq_ : World.drewN w25 _ = w25; replace BK180 : Aside0 (w25.heap[gb180]? = some (.cells #[.int .i64 0, .int .i64 0, .string (⟨#[]⟩ : ByteArray)] 27 (0, 0))) := ⟨by rw [← hq_]; exact (pkK BK180.out)⟩; replace HB : Aside0 (Below w.heap.size w w25) := ⟨by rw [← hq_]; exact (pkW HB.out)⟩; clear hq_)); obtain ⟨hcz26_0, hcz26_1, hcz26_2, hfz26_0, hfz26_1, hfz26_2⟩ := bk3 BK180.out))
           refine bodyPost_ret (results_ct rfl _ _ gb180 27 #[.int .i64 0, .int .i64 0, .string (⟨#[]⟩ : ByteArray)] (0, 0) _ rfl (by (with_reducible repeat (first | refine blk_drewN ?_ _ | refine blk_drew ?_ | refine blk_alloc ?_ _)); refine blk_put (cs := #[.int .i64 0, .int .i64 0, .string (⟨#[]⟩ : ByteArray)]) ?_ 2 _ rfl; (with_reducible repeat (first | refine blk_drewN ?_ _ | refine blk_drew ?_ | refine blk_alloc ?_ _)); refine blk_put (cs := #[.int .i64 0, .int .i64 0, .string (⟨#[]⟩ : ByteArray)]) ?_ 1 _ rfl; (with_reducible repeat (first | refine blk_drewN ?_ _ | refine blk_drew ?_ | refine blk_alloc ?_ _)); refine blk_put (cs := #[.int .i64 0, .int .i64 0, .string (⟨#[]⟩ : ByteArray)]) ?_ 0 _ rfl; exact pkK BK180.out) Try.underlying27 rfl (by kernel_rfl)) rfl ?_
           exact ⟨by first | rfl | (simp [errW_none, errW_some] <;> rfl) | (simp only [← hji12]; first | rfl | (simp [errW_none, errW_some] <;> rfl)) | (simp [*, errW_none, errW_some] <;> rfl), pkW HB.out⟩
         ·rw [if_neg c18] at H
          exact absurd H (by simp)
        ·rw [if_neg c17] at H
         exact absurd H (by simp)
       ·rw [if_neg c16] at H
        have c16b0 : ((bt a0 (ji12)) == 34) = false := beq_eq_false_iff_ne.mpr c16
        have c16b1 : ((bt a0 (ji12)) != 34) = true := bne_iff_ne.mpr c16
        simp only [Option.some.injEq, Prod.mk.injEq] at H
        obtain ⟨rfl, rfl, rfl, rfl⟩ := H
        go_enter Try.func20, Try.ntmps20
        go_wp2_with (first | ((with_reducible refine gate_dst (N := 2) rfl ?_); (try (refine gate_guard (by rfl) ?_; dsimp only)); refine box_event ?hg (N := 2) ?hd (cs := #[.int .i64 0, .int .i64 0, .string (⟨#[]⟩ : ByteArray)]) (t := 27) ?hr ?_; (case hd => rfl); (case hg => rfl); (case hr => first | (go_simp; done) | (go_simp; rfl)); intro gb180 hg w27 hbox hb; have BK180 := am (hbox); have GW180 := am ((by rw [hg]; exact (below_size (pkB HB.out)) : w.heap.size ≤ gb180)); have GE180 := am ((by rw [hg]; exact (below_size (pkB HB.out)) : w.heap.size ≤ gb180)); replace HB := am (below_step (pkB HB.out) hb); clear hb hbox hg) | ((with_reducible refine gate_callee (f := 39) rfl ?_); refine goesL_ (some 8) rfl rfl Try.func39 (by kernel_rfl) rfl #[.string a0] rfl mpx ?_; (with_reducible refine (spec_l1Number.calls k a0 t181 false _ A2.out).mono ?_); rintro e w' ⟨rfl, ⟨nd, rfl⟩⟩; refine ⟨_, rfl, ?_⟩; (try (rw [drewN_self w27]; generalize hq_ : World.drewN w27 _ = w27; replace BK180 : Aside0 (w27.heap[gb180]? = some (.cells #[.int .i64 0, .int .i64 0, .string (⟨#[]⟩ : ByteArray)] 27 (0, 0))) := ⟨by rw [← hq_]; exact (pkK BK180.out)⟩; replace HB : Aside0 (Below w.heap.size w w27) := ⟨by rw [← hq_]; exact (pkW HB.out)⟩; clear hq_)); have p10 : 0 ≤ (0 : Int) := (by omega); have q10 : 0 < a0.size := (by have : (0 : Int) < (a0.size : Int) := ofd; omega); have hx10 : ∀ h : 0 < a0.size, ((a0[0]'h).toNat : Int) = bt a0 0 := bt_at a0 0; clear p10; have qi10 : (0 < (a0.size : Int)) = True := eq_true (ofd); replace q10 := eq_true q10; have p15 : 0 ≤ ((ji12) : Int) := ofd; have q15 : (ji12) < (a0.size : Int) := ofd; have hx15 := bt_at a0 (ji12); replace p15 := eq_true p15; replace q15 := eq_true q15; obtain ⟨hcz28_0, hcz28_1, hcz28_2, hfz28_0, hfz28_1, hfz28_2⟩ := bk3 BK180.out))
        refine bodyPost_ret (results_ct rfl _ _ gb180 27 #[.int .i64 0, .int .i64 0, .string (⟨#[]⟩ : ByteArray)] (0, 0) _ rfl (by (with_reducible repeat (first | refine blk_drewN ?_ _ | refine blk_drew ?_ | refine blk_alloc ?_ _)); refine blk_put (cs := #[.int .i64 0, .int .i64 0, .string (⟨#[]⟩ : ByteArray)]) ?_ 2 _ rfl; (with_reducible repeat (first | refine blk_drewN ?_ _ | refine blk_drew ?_ | refine blk_alloc ?_ _)); refine blk_put (cs := #[.int .i64 0, .int .i64 0, .string (⟨#[]⟩ : ByteArray)]) ?_ 1 _ rfl; (with_reducible repeat (first | refine blk_drewN ?_ _ | refine blk_drew ?_ | refine blk_alloc ?_ _)); refine blk_put (cs := #[.int .i64 0, .int .i64 0, .string (⟨#[]⟩ : ByteArray)]) ?_ 0 _ rfl; exact pkK BK180.out) Try.underlying27 rfl (by kernel_rfl)) rfl ?_
        exact ⟨by first | rfl | (simp [errW_none, errW_some] <;> rfl) | (simp only [← hji12]; first | rfl | (simp [errW_none, errW_some] <;> rfl)) | (simp [*, errW_none, errW_some] <;> rfl), pkW HB.out⟩
      ·rw [if_neg c14] at H
       exact absurd H (by simp)
     ·rw [if_neg c13] at H
      exact absurd H (by simp)
    ·rw [if_neg c11] at H
     have c11b0 : ((bt a0 0) == 34) = false := beq_eq_false_iff_ne.mpr c11
     have c11b1 : ((bt a0 0) != 34) = true := bne_iff_ne.mpr c11
     simp only [Option.some.injEq, Prod.mk.injEq] at H
     obtain ⟨rfl, rfl, rfl, rfl⟩ := H
     go_enter Try.func20, Try.ntmps20
     go_wp2_with (first | ((with_reducible refine gate_dst (N := 2) rfl ?_); (try (refine gate_guard (by rfl) ?_; dsimp only)); refine box_event ?hg (N := 2) ?hd (cs := #[.int .i64 0, .int .i64 0, .string (⟨#[]⟩ : ByteArray)]) (t := 27) ?hr ?_; (case hd => rfl); (case hg => rfl); (case hr => first | (go_simp; done) | (go_simp; rfl)); intro gb180 hg w29 hbox hb; have BK180 := am (hbox); have GW180 := am ((by rw [hg]; exact (below_size (pkB HB.out)) : w.heap.size ≤ gb180)); have GE180 := am ((by rw [hg]; exact (below_size (pkB HB.out)) : w.heap.size ≤ gb180)); replace HB := am (below_step (pkB HB.out) hb); clear hb hbox hg) | ((with_reducible refine gate_callee (f := 39) rfl ?_); refine goesL_ (some 8) rfl rfl Try.func39 (by kernel_rfl) rfl #[.string a0] rfl mpx ?_; (with_reducible refine (spec_l1Number.calls k a0 t181 false _ A2.out).mono ?_); rintro e w' ⟨rfl, ⟨nd, rfl⟩⟩; refine ⟨_, rfl, ?_⟩; (try (rw [drewN_self w29]; generalize hq_ : World.drewN w29 _ = w29; replace BK180 : Aside0 (w29.heap[gb180]? = some (.cells #[.int .i64 0, .int .i64 0, .string (⟨#[]⟩ : ByteArray)] 27 (0, 0))) := ⟨by rw [← hq_]; exact (pkK BK180.out)⟩; replace HB : Aside0 (Below w.heap.size w w29) := ⟨by rw [← hq_]; exact (pkW HB.out)⟩; clear hq_)); have p10 : 0 ≤ (0 : Int) := (by omega); have q10 : 0 < a0.size := (by have : (0 : Int) < (a0.size : Int) := ofd; omega); have hx10 : ∀ h : 0 < a0.size, ((a0[0]'h).toNat : Int) = bt a0 0 := bt_at a0 0; clear p10; have qi10 : (0 < (a0.size : Int)) = True := eq_true (ofd); replace q10 := eq_true q10; obtain ⟨hcz30_0, hcz30_1, hcz30_2, hfz30_0, hfz30_1, hfz30_2⟩ := bk3 BK180.out))
     refine bodyPost_ret (results_ct rfl _ _ gb180 27 #[.int .i64 0, .int .i64 0, .string (⟨#[]⟩ : ByteArray)] (0, 0) _ rfl (by (with_reducible repeat (first | refine blk_drewN ?_ _ | refine blk_drew ?_ | refine blk_alloc ?_ _)); refine blk_put (cs := #[.int .i64 0, .int .i64 0, .string (⟨#[]⟩ : ByteArray)]) ?_ 2 _ rfl; (with_reducible repeat (first | refine blk_drewN ?_ _ | refine blk_drew ?_ | refine blk_alloc ?_ _)); refine blk_put (cs := #[.int .i64 0, .int .i64 0, .string (⟨#[]⟩ : ByteArray)]) ?_ 1 _ rfl; (with_reducible repeat (first | refine blk_drewN ?_ _ | refine blk_drew ?_ | refine blk_alloc ?_ _)); refine blk_put (cs := #[.int .i64 0, .int .i64 0, .string (⟨#[]⟩ : ByteArray)]) ?_ 0 _ rfl; exact pkK BK180.out) Try.underlying27 rfl (by kernel_rfl)) rfl ?_
     exact ⟨rfe, pkW HB.out⟩
   ·rw [if_neg c9] at H
    exact absurd H (by simp)
end Go.Proofs.Ytalehmhjddnmoaa.Z
