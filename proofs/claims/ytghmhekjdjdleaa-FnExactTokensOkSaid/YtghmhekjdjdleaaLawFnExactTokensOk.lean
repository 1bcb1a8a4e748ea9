/- The law FnExactTokensOk: for every input the call returns true, and each argument reads behind it as before; conditions: none. -/
import Derived.Test.YtghmhekjdjdleaaRows
import Derived.Test.YtghmhekjdjdleaaStatFnExactTokensOk
import Derived.Test.YtghmhekjdjdleaaPureFnExactTokensOk
import Derived.Test.YtghmhekjdjdleaaO
import Derived.WalkKit
import Derived.ProofKit
import Derived.OpenShut
import Derived.ShutString
import Derived.ChangeOld
import Derived.Below
import Derived.SizedLaws
namespace Go.Proofs.Ytghmhekjdjdleaa.fnExactTokensOk
open Go.ChangeShapes Go.WideShapes Go.ChangeAt Go.RowKit Go.Proofs.YtghmhekjdjdleaaO Go.Proofs.Ytghmhekjdjdleaa.Z Go.Proofs.YtghmhekjdjdleaaW.PrintWords Go.Proofs.YtghmhekjdjdleaaW.PrintLast
open Go.ChangeMaps (open_string shut_string)
set_option linter.unusedVariables false
theorem own : ownKnob Try.prog.godebug = none := by kernel_rfl
theorem laidOut : laidOutB Try.prog = true := by kernel_rfl
theorem cellsOf30 : Try.prog.cellsOf 30 = 2 := by kernel_rfl
theorem cellsOf22 : Try.prog.cellsOf 22 = 1 := by kernel_rfl
theorem cellsOf3 : Try.prog.cellsOf 3 = 1 := by kernel_rfl
theorem cellsOf28 : Try.prog.cellsOf 28 = 1 := by kernel_rfl
theorem cellsOf4 : Try.prog.cellsOf 4 = 1 := by kernel_rfl
set_option maxHeartbeats 4000000 in
set_option maxRecDepth 100000 in
theorem lifted (os : Os) (started : os.Started) (H : Type) (enc : TypeId × Value → H) :
    ReturnsInHanded {} Try.checked os 5 .any (Rows.fnExactTokensOkSpec.pre6 enc Try.prog Try.f5 Rows.fnExactTokensOkRow.domain false) (Rows.fnExactTokensOkSpec.post enc Try.prog Try.f5 false true false false) := by
  refine returnsInHanded_of_change_sized (C := Try.checked) own started (by kernel_rfl) Try.func5
    (ChangeSpec.witness6 (enc := enc) (C := Try.checked) false ⟨#[], #[.agg #[.slice none 0 0, .slice none 0 0]], []⟩ 8 (by kernel_rfl) (by kernel_rfl) (by kernel_rfl) (by kernel_rfl)) ?_
  intro W base args ds gs before hval0 hW hcnd hsz0 _
  have hval : ∀ (j : Nat) t v, Try.f5.params[j]? = some t → args[j]? = some v → Value.okWide Try.prog W .any base t v := hval0
  have hW' := hW
  obtain ⟨p, q, hA0, hV, rfl, hfz, hnd⟩ := hW
  have hA : DataW.TrodAll enc Try.prog W 0 (fun _ => true) true Try.f5.params.toList args.toList ds p := hA0
  rw [Try.params5] at hA hval
  obtain ⟨v0, vs0, d0, ds0, p0, q0, hargs, rfl, rfl, h0, r0⟩ := trodAll_cons hA
  obtain ⟨rfl, rfl, rfl⟩ := trodAll_nil r0
  obtain rfl : args = #[v0] := by cases args; simp_all
  obtain ⟨rfl, rfl⟩ := trodVars_none hV
  clear hA0 hval0 hsz0
  have k0 := h0
  have lt0 : ∀ x ∈ p0, x.block < W.heap.size := by obtain ⟨m, hm⟩ := k0; exact DataW.trod_lt m _ _ _ hm
  obtain ⟨cs0, rfl, hs0⟩ := okWide_struct Try.underlying30 (hval 0 30 v0 rfl rfl)
  obtain ⟨ce0_0, ce0_1, rfl⟩ := arr2 (hs0.trans cellsOf30)
  have b0 : Rd enc Try.prog W 0 (fun _ => true) true 30 [ce0_0, ce0_1] := by have h_ := rd_of h0; simpa [Value.cells] using h_
  have b0_0 : Rd enc Try.prog W 0 (fun _ => true) true 22 [ce0_0] := rd_field Try.underlying30 b0 0 _ rfl cellsOf22
  have hR0_0 : ∀ cs, Rd enc Try.prog W 0 (fun _ => true) true 3 cs → ∃ p, (fun (p : Int) cs => cs = [.int .i64 p] ∧ (Lit.int .i64 p).wf = true) p cs := by
    intro cs h
    obtain ⟨z, e, hw⟩ := rd_int Try.underlying3 h
    exact ⟨z, e, hw⟩
  obtain ⟨A0_0, c0_0, l0_0, e_, hc0_0, hm0_0, hr0_0⟩ := rd_slice (fun (p : Int) cs => cs = [.int .i64 p] ∧ (Lit.int .i64 p).wf = true) Try.underlying22 cellsOf3 hR0_0 b0_0
  obtain rfl := List.singleton_inj.1 e_
  have hk0_0 : Kd.C (Kd.int .i64) W A0_0 l0_0.length l0_0 := reads_imp hr0_0 (fun _ _ h => h.1)
  have hw0_0 : ∀ x ∈ l0_0, (Lit.int .i64 x).wf = true := reads_all hr0_0 (fun _ _ h => h.2)
  have b0_1 : Rd enc Try.prog W 0 (fun _ => true) true 28 [ce0_1] := rd_field Try.underlying30 b0 1 _ rfl cellsOf28
  have hR0_1 : ∀ cs, Rd enc Try.prog W 0 (fun _ => true) true 4 cs → ∃ p, (fun (p : Bool) cs => cs = [.bool p]) p cs := by
    intro cs h
    obtain ⟨z, e⟩ := rd_bool Try.underlying4 h
    exact ⟨z, e⟩
  obtain ⟨A0_1, c0_1, l0_1, e_, hc0_1, hm0_1, hr0_1⟩ := rd_slice (fun (p : Bool) cs => cs = [.bool p]) Try.underlying28 cellsOf4 hR0_1 b0_1
  obtain rfl := List.singleton_inj.1 e_
  have hk0_1 : Kd.C Kd.bool W A0_1 l0_1.length l0_1 := reads_imp hr0_1 (fun _ _ h => h)
  obtain ⟨k, hk⟩ := Pure.FnExactTokensOk l0_0 l0_1 hr0_0.2.1 hw0_0 hr0_1.2.1
  refine (laws_FnExactTokensOk.calls k _ _ l0_0 _ _ l0_1 true W hk0_0 hc0_0 hk0_1 hc0_1 ⟨rfl⟩ hk).mono fun e W' ⟨he, bel0⟩ => ?_
  have bel : Below W.heap.size W W' := bel0
  subst he
  exact ⟨_, rfl, _, _, _, [], _, [], hW', trodAll_mk1 (shut_bool Try.underlying4 _), (trodAll_cons_mk (Below.trod laidOut (by kernel_rfl) (of_decide_eq_true (by kernel_rfl)) k0 bel lt0) trodAll_mk0), rfl, bel.frame _, fun h => by cases h⟩
theorem over : Rows.fnExactTokensOkRow.holds Try.pinned (OpenSpec.ofChange Rows.fnExactTokensOkSpec) :=
  OpenClaim.holds_of_wide 5 Try.f5 rfl rfl rfl rfl rfl rfl rfl ⟨rfl, rfl, rfl, rfl, rfl⟩ rfl rfl rfl rfl rfl (by kernel_rfl) Try.func5 (by kernel_rfl)
    (of_decide_eq_true (by kernel_rfl)) (by unfold Func.isWrapper; first | (rw [if_pos (by decide +kernel)]; kernel_rfl) | (rw [if_neg (by decide +kernel)]; exact ⟨rfl, rfl⟩))
    (fun os started H enc _ => lifted os started H enc)
theorem proved : Rows.FnExactTokensOkSaid := over
#print axioms proved
end Go.Proofs.Ytghmhekjdjdleaa.fnExactTokensOk
namespace Go.Proofs.Ytghmhekjdjdleaa
theorem fnExactTokensOk_holds : Rows.FnExactTokensOkSaid := fnExactTokensOk.proved
end Go.Proofs.Ytghmhekjdjdleaa
