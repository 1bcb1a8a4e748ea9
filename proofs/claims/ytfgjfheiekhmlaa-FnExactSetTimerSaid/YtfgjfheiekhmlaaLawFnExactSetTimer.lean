/- Go functions of the translation as Lean functions, each with a proof that its code comes to just these answers (written by a program of this session: the kit's printer, hand-proved functions in between); conditions: those that stand in each theorem. -/
/- The law FnExactSetTimer: for every input the call returns true, and each argument reads behind it as before. Conditions: none. -/
import Derived.Test.YtfgjfheiekhmlaaRows
import Derived.Test.YtfgjfheiekhmlaaStatFnExactSetTimer
import Derived.Test.YtfgjfheiekhmlaaPureFnExactSetTimer
import Derived.Test.YtfgjfheiekhmlaaO
import Derived.WalkKit
import Derived.ProofKit
import Derived.OpenShut
import Derived.ShutString
import Derived.ChangeOld
import Derived.Below
import Derived.SizedLaws
namespace Go.Proofs.Ytfgjfheiekhmlaa.fnExactSetTimer
open Go.ChangeShapes Go.WideShapes Go.ChangeAt Go.RowKit Go.Proofs.YtfgjfheiekhmlaaO Go.Proofs.Ytfgjfheiekhmlaa.Z Go.Proofs.YtfgjfheiekhmlaaW.PrintWords Go.Proofs.YtfgjfheiekhmlaaW.PrintLast
open Go.ChangeMaps (open_string shut_string)
set_option linter.unusedVariables false
theorem own : ownKnob Try.prog.godebug = none := by kernel_rfl
theorem laidOut : laidOutB Try.prog = true := by kernel_rfl
theorem cellsOf24 : Try.prog.cellsOf 24 = 2 := by kernel_rfl
theorem cellsOf3 : Try.prog.cellsOf 3 = 1 := by kernel_rfl
theorem cellsOf22 : Try.prog.cellsOf 22 = 1 := by kernel_rfl
theorem cellsOf68 : Try.prog.cellsOf 68 = 2 := by kernel_rfl
set_option maxHeartbeats 4000000 in
set_option maxRecDepth 100000 in
theorem lifted (os : Os) (started : os.Started) (H : Type) (enc : TypeId × Value → H) :
    ReturnsInHanded {} Try.checked os 7 .any (Rows.fnExactSetTimerSpec.pre6 enc Try.prog Try.f7 Rows.fnExactSetTimerRow.domain false) (Rows.fnExactSetTimerSpec.post enc Try.prog Try.f7 false true false false) := by
  refine returnsInHanded_of_change_sized (C := Try.checked) own started (by kernel_rfl) Try.func7
    (ChangeSpec.witness6 (enc := enc) (C := Try.checked) false ⟨#[], #[.agg #[.int .i64 0, .slice none 0 0], .int .i64 0, .int .i64 0], []⟩ 8 (by kernel_rfl) (by kernel_rfl) (by kernel_rfl) (by kernel_rfl)) ?_
  intro W base args ds gs before hval0 hW hcnd hsz0 _
  have hval : ∀ (j : Nat) t v, Try.f7.params[j]? = some t → args[j]? = some v → Value.okWide Try.prog W .any base t v := hval0
  have hW' := hW
  obtain ⟨p, q, hA0, hV, rfl, hfz, hnd⟩ := hW
  have hA : DataW.TrodAll enc Try.prog W 0 (fun _ => true) true Try.f7.params.toList args.toList ds p := hA0
  rw [Try.params7] at hA hval
  obtain ⟨v0, vs0, d0, ds0, p0, q0, hargs, rfl, rfl, h0, r0⟩ := trodAll_cons hA
  obtain ⟨v1, vs1, d1, ds1, p1, q1, rfl, rfl, rfl, h1, r1⟩ := trodAll_cons r0
  obtain ⟨v2, vs2, d2, ds2, p2, q2, rfl, rfl, rfl, h2, r2⟩ := trodAll_cons r1
  obtain ⟨rfl, rfl, rfl⟩ := trodAll_nil r2
  obtain rfl : args = #[v0, v1, v2] := by cases args; simp_all
  obtain ⟨rfl, rfl⟩ := trodVars_none hV
  clear hA0 hval0 hsz0
  have k0 := h0
  have lt0 : ∀ x ∈ p0, x.block < W.heap.size := by obtain ⟨m, hm⟩ := k0; exact DataW.trod_lt m _ _ _ hm
  obtain ⟨cs0, rfl, hs0⟩ := okWide_struct Try.underlying24 (hval 0 24 v0 rfl rfl)
  obtain ⟨ce0_0, ce0_1, rfl⟩ := arr2 (hs0.trans cellsOf24)
  have b0 : Rd enc Try.prog W 0 (fun _ => true) true 24 [ce0_0, ce0_1] := by have h_ := rd_of h0; simpa [Value.cells] using h_
  have b0_0 : Rd enc Try.prog W 0 (fun _ => true) true 3 [ce0_0] := rd_field Try.underlying24 b0 0 _ rfl cellsOf3
  obtain ⟨a0_0, e_, w0_0⟩ := rd_int Try.underlying3 b0_0
  obtain rfl := List.singleton_inj.1 e_
  have b0_1 : Rd enc Try.prog W 0 (fun _ => true) true 22 [ce0_1] := rd_field Try.underlying24 b0 1 _ rfl cellsOf22
  have hR0_1 : ∀ cs, Rd enc Try.prog W 0 (fun _ => true) true 68 cs → ∃ p, (fun (p : S68) cs => cs = [.int .i64 p.f0, .int .i64 p.f1] ∧ (Lit.int .i64 p.f0).wf = true ∧ (Lit.int .i64 p.f1).wf = true) p cs := by
    intro cs h
    obtain ⟨c0, c1, rfl⟩ : ∃ c0 c1, cs = [c0, c1] := by
      have hl := (rd_struct Try.underlying68 h).1
      rw [cellsOf68] at hl
      match cs, hl with
      | [c0, c1], _ => exact ⟨c0, c1, rfl⟩
    have h_0 : Rd enc Try.prog W 0 (fun _ => true) true 3 [c0] := rd_field Try.underlying68 h 0 _ rfl cellsOf3
    obtain ⟨zh_0, e_, wh_0⟩ := rd_int Try.underlying3 h_0
    obtain rfl := List.singleton_inj.1 e_
    have h_1 : Rd enc Try.prog W 0 (fun _ => true) true 3 [c1] := rd_field Try.underlying68 h 1 _ rfl cellsOf3
    obtain ⟨zh_1, e_, wh_1⟩ := rd_int Try.underlying3 h_1
    obtain rfl := List.singleton_inj.1 e_
    exact ⟨(⟨zh_0, zh_1⟩ : S68), rfl, wh_0, wh_1⟩
  obtain ⟨A0_1, c0_1, l0_1, e_, hc0_1, hm0_1, hr0_1⟩ := rd_slice (fun (p : S68) cs => cs = [.int .i64 p.f0, .int .i64 p.f1] ∧ (Lit.int .i64 p.f0).wf = true ∧ (Lit.int .i64 p.f1).wf = true) Try.underlying22 cellsOf68 hR0_1 b0_1
  obtain rfl := List.singleton_inj.1 e_
  have hk0_1 : Kd.C k68 W A0_1 l0_1.length l0_1 := reads_imp hr0_1 (fun p cs h => by
    obtain ⟨rfl, _⟩ := h
    exact k68_mk _ _)
  have hw0_1 : ∀ x ∈ l0_1, (Lit.int .i64 x.f0).wf = true ∧ (Lit.int .i64 x.f1).wf = true := reads_all hr0_1 (fun _ _ h => h.2)
  have k1 := h1
  have lt1 : ∀ x ∈ p1, x.block < W.heap.size := by obtain ⟨m, hm⟩ := k1; exact DataW.trod_lt m _ _ _ hm
  obtain ⟨a1, rfl, _, _, w1⟩ := open_int Try.underlying3 (hval 1 3 v1 rfl rfl) h1
  have k2 := h2
  have lt2 : ∀ x ∈ p2, x.block < W.heap.size := by obtain ⟨m, hm⟩ := k2; exact DataW.trod_lt m _ _ _ hm
  obtain ⟨a2, rfl, _, _, w2⟩ := open_int Try.underlying3 (hval 2 3 v2 rfl rfl) h2
  obtain ⟨k, hk⟩ := Pure.FnExactSetTimer a0_0 l0_1 a1 a2 w0_0 hr0_1.2.1 hw0_1 w1 w2
  refine (laws_FnExactSetTimer.calls k a0_0 _ _ l0_1 a1 a2 true W hk0_1 hc0_1 ⟨rfl⟩ hk).mono fun e W' ⟨he, bel0⟩ => ?_
  have bel : Below W.heap.size W W' := bel0
  subst he
  exact ⟨_, rfl, _, _, _, [], _, [], hW', trodAll_mk1 (shut_bool Try.underlying4 _), (trodAll_cons_mk (Below.trod laidOut (by kernel_rfl) (of_decide_eq_true (by kernel_rfl)) k0 bel lt0) (trodAll_cons_mk (Below.trod laidOut (by kernel_rfl) (of_decide_eq_true (by kernel_rfl)) k1 bel lt1) (trodAll_cons_mk (Below.trod laidOut (by kernel_rfl) (of_decide_eq_true (by kernel_rfl)) k2 bel lt2) trodAll_mk0))), rfl, bel.frame _, fun h => by cases h⟩
theorem over : Rows.fnExactSetTimerRow.holds Try.pinned (OpenSpec.ofChange Rows.fnExactSetTimerSpec) :=
  OpenClaim.holds_of_wide 7 Try.f7 rfl rfl rfl rfl rfl rfl rfl ⟨rfl, rfl, rfl, rfl, rfl⟩ rfl rfl rfl rfl rfl (by kernel_rfl) Try.func7 (by kernel_rfl)
    (of_decide_eq_true (by kernel_rfl)) (by unfold Func.isWrapper; first | (rw [if_pos (by decide +kernel)]; kernel_rfl) | (rw [if_neg (by decide +kernel)]; exact ⟨rfl, rfl⟩))
    (fun os started H enc _ => lifted os started H enc)
theorem proved : Rows.FnExactSetTimerSaid := over
#print axioms proved
end Go.Proofs.Ytfgjfheiekhmlaa.fnExactSetTimer
namespace Go.Proofs.Ytfgjfheiekhmlaa
/-- The row, under a short name, for the claim. -/
theorem fnExactSetTimer_holds : Rows.FnExactSetTimerSaid := fnExactSetTimer.proved
end Go.Proofs.Ytfgjfheiekhmlaa
