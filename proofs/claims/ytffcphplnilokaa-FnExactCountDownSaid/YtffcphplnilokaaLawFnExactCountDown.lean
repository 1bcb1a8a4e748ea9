/- Go functions of the translation as Lean functions, each with a proof that its code comes to just these answers (written by a program of this session: the kit's printer, hand-proved functions in between); conditions: those that stand in each theorem. -/
/- The law FnExactCountDown: for every input the call returns true, and each argument reads behind it as before. Conditions: none. -/
import Derived.Test.YtffcphplnilokaaRows
import Derived.Test.YtffcphplnilokaaStatFnExactCountDown
import Derived.Test.YtffcphplnilokaaPureFnExactCountDown
import Derived.Test.YtffcphplnilokaaO
import Derived.WalkKit
import Derived.ProofKit
import Derived.OpenShut
import Derived.ShutString
import Derived.ChangeOld
import Derived.Below
import Derived.SizedLaws
namespace Go.Proofs.Ytffcphplnilokaa.fnExactCountDown
open Go.ChangeShapes Go.WideShapes Go.ChangeAt Go.RowKit Go.Proofs.YtffcphplnilokaaO Go.Proofs.Ytffcphplnilokaa.Z Go.Proofs.YtffcphplnilokaaW.PrintWords Go.Proofs.YtffcphplnilokaaW.PrintLast
open Go.ChangeMaps (open_string shut_string)
set_option linter.unusedVariables false
theorem own : ownKnob Try.prog.godebug = none := by kernel_rfl
theorem laidOut : laidOutB Try.prog = true := by kernel_rfl
theorem cellsOf43 : Try.prog.cellsOf 43 = 3 := by kernel_rfl
theorem cellsOf3 : Try.prog.cellsOf 3 = 1 := by kernel_rfl
theorem cellsOf27 : Try.prog.cellsOf 27 = 1 := by kernel_rfl
set_option maxHeartbeats 4000000 in
set_option maxRecDepth 100000 in
theorem lifted (os : Os) (started : os.Started) (H : Type) (enc : TypeId × Value → H) :
    ReturnsInHanded {} Try.checked os 11 .any (Rows.fnExactCountDownSpec.pre6 enc Try.prog Try.f11 Rows.fnExactCountDownRow.domain false) (Rows.fnExactCountDownSpec.post enc Try.prog Try.f11 false true false false) := by
  refine returnsInHanded_of_change_sized (C := Try.checked) own started (by kernel_rfl) Try.func11
    (ChangeSpec.witness6 (enc := enc) (C := Try.checked) false ⟨#[], #[.agg #[.int .i64 0, .slice none 0 0, .slice none 0 0], .int .i64 0], []⟩ 8 (by kernel_rfl) (by kernel_rfl) (by kernel_rfl) (by kernel_rfl)) ?_
  intro W base args ds gs before hval0 hW hcnd hsz0 _
  have hval : ∀ (j : Nat) t v, Try.f11.params[j]? = some t → args[j]? = some v → Value.okWide Try.prog W .any base t v := hval0
  have hW' := hW
  obtain ⟨p, q, hA0, hV, rfl, hfz, hnd⟩ := hW
  have hA : DataW.TrodAll enc Try.prog W 0 (fun _ => true) true Try.f11.params.toList args.toList ds p := hA0
  rw [Try.params11] at hA hval
  obtain ⟨v0, vs0, d0, ds0, p0, q0, hargs, rfl, rfl, h0, r0⟩ := trodAll_cons hA
  obtain ⟨v1, vs1, d1, ds1, p1, q1, rfl, rfl, rfl, h1, r1⟩ := trodAll_cons r0
  obtain ⟨rfl, rfl, rfl⟩ := trodAll_nil r1
  obtain rfl : args = #[v0, v1] := by cases args; simp_all
  obtain ⟨rfl, rfl⟩ := trodVars_none hV
  clear hA0 hval0 hsz0
  have k0 := h0
  have lt0 : ∀ x ∈ p0, x.block < W.heap.size := by obtain ⟨m, hm⟩ := k0; exact DataW.trod_lt m _ _ _ hm
  obtain ⟨cs0, rfl, hs0⟩ := okWide_struct Try.underlying43 (hval 0 43 v0 rfl rfl)
  obtain ⟨ce0_0, ce0_1, ce0_2, rfl⟩ := arr3 (hs0.trans cellsOf43)
  have b0 : Rd enc Try.prog W 0 (fun _ => true) true 43 [ce0_0, ce0_1, ce0_2] := by have h_ := rd_of h0; simpa [Value.cells] using h_
  have b0_0 : Rd enc Try.prog W 0 (fun _ => true) true 3 [ce0_0] := rd_field Try.underlying43 b0 0 _ rfl cellsOf3
  obtain ⟨a0_0, e_, w0_0⟩ := rd_int Try.underlying3 b0_0
  obtain rfl := List.singleton_inj.1 e_
  have b0_1 : Rd enc Try.prog W 0 (fun _ => true) true 27 [ce0_1] := rd_field Try.underlying43 b0 1 _ rfl cellsOf27
  have hR0_1 : ∀ cs, Rd enc Try.prog W 0 (fun _ => true) true 3 cs → ∃ p, (fun (p : Int) cs => cs = [.int .i64 p] ∧ (Lit.int .i64 p).wf = true) p cs := by
    intro cs h
    obtain ⟨z, e, hw⟩ := rd_int Try.underlying3 h
    exact ⟨z, e, hw⟩
  obtain ⟨A0_1, c0_1, l0_1, e_, hc0_1, hm0_1, hr0_1⟩ := rd_slice (fun (p : Int) cs => cs = [.int .i64 p] ∧ (Lit.int .i64 p).wf = true) Try.underlying27 cellsOf3 hR0_1 b0_1
  obtain rfl := List.singleton_inj.1 e_
  have hk0_1 : Kd.C (Kd.int .i64) W A0_1 l0_1.length l0_1 := reads_imp hr0_1 (fun _ _ h => h.1)
  have hw0_1 : ∀ x ∈ l0_1, (Lit.int .i64 x).wf = true := reads_all hr0_1 (fun _ _ h => h.2)
  have b0_2 : Rd enc Try.prog W 0 (fun _ => true) true 27 [ce0_2] := rd_field Try.underlying43 b0 2 _ rfl cellsOf27
  have hR0_2 : ∀ cs, Rd enc Try.prog W 0 (fun _ => true) true 3 cs → ∃ p, (fun (p : Int) cs => cs = [.int .i64 p] ∧ (Lit.int .i64 p).wf = true) p cs := by
    intro cs h
    obtain ⟨z, e, hw⟩ := rd_int Try.underlying3 h
    exact ⟨z, e, hw⟩
  obtain ⟨A0_2, c0_2, l0_2, e_, hc0_2, hm0_2, hr0_2⟩ := rd_slice (fun (p : Int) cs => cs = [.int .i64 p] ∧ (Lit.int .i64 p).wf = true) Try.underlying27 cellsOf3 hR0_2 b0_2
  obtain rfl := List.singleton_inj.1 e_
  have hk0_2 : Kd.C (Kd.int .i64) W A0_2 l0_2.length l0_2 := reads_imp hr0_2 (fun _ _ h => h.1)
  have hw0_2 : ∀ x ∈ l0_2, (Lit.int .i64 x).wf = true := reads_all hr0_2 (fun _ _ h => h.2)
  have k1 := h1
  have lt1 : ∀ x ∈ p1, x.block < W.heap.size := by obtain ⟨m, hm⟩ := k1; exact DataW.trod_lt m _ _ _ hm
  obtain ⟨a1, rfl, _, _, w1⟩ := open_int Try.underlying3 (hval 1 3 v1 rfl rfl) h1
  obtain ⟨k, hk⟩ := Pure.FnExactCountDown a0_0 l0_1 l0_2 a1 w0_0 hr0_1.2.1 hw0_1 hr0_2.2.1 hw0_2 w1
  refine (laws_FnExactCountDown.calls k a0_0 _ _ l0_1 _ _ l0_2 a1 true W hk0_1 hc0_1 hk0_2 hc0_2 ⟨rfl⟩ hk).mono fun e W' ⟨he, bel0⟩ => ?_
  have bel : Below W.heap.size W W' := bel0
  subst he
  exact ⟨_, rfl, _, _, _, [], _, [], hW', trodAll_mk1 (shut_bool Try.underlying4 _), (trodAll_cons_mk (Below.trod laidOut (by kernel_rfl) (of_decide_eq_true (by kernel_rfl)) k0 bel lt0) (trodAll_cons_mk (Below.trod laidOut (by kernel_rfl) (of_decide_eq_true (by kernel_rfl)) k1 bel lt1) trodAll_mk0)), rfl, bel.frame _, fun h => by cases h⟩
theorem over : Rows.fnExactCountDownRow.holds Try.pinned (OpenSpec.ofChange Rows.fnExactCountDownSpec) :=
  OpenClaim.holds_of_wide 11 Try.f11 rfl rfl rfl rfl rfl rfl rfl ⟨rfl, rfl, rfl, rfl, rfl⟩ rfl rfl rfl rfl rfl (by kernel_rfl) Try.func11 (by kernel_rfl)
    (of_decide_eq_true (by kernel_rfl)) (by unfold Func.isWrapper; first | (rw [if_pos (by decide +kernel)]; kernel_rfl) | (rw [if_neg (by decide +kernel)]; exact ⟨rfl, rfl⟩))
    (fun os started H enc _ => lifted os started H enc)
theorem proved : Rows.FnExactCountDownSaid := over
#print axioms proved
end Go.Proofs.Ytffcphplnilokaa.fnExactCountDown
namespace Go.Proofs.Ytffcphplnilokaa
/-- The row, under a short name, for the claim. -/
theorem fnExactCountDown_holds : Rows.FnExactCountDownSaid := fnExactCountDown.proved
end Go.Proofs.Ytffcphplnilokaa
