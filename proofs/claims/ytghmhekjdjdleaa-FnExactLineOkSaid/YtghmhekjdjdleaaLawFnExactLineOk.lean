/- The law FnExactLineOk: for every input the call returns true, and each argument reads behind it as before; conditions: none. -/
-- Written by this session's program wip/pp.py (the kit's printer over the translation, hand-proved functions in between). Lean checks it.
/- The law FnExactLineOk: for every input the call returns true, and each argument reads behind it as before. Conditions: none. -/
import Derived.Test.YtghmhekjdjdleaaRows
import Derived.Test.YtghmhekjdjdleaaStatFnExactLineOk
import Derived.Test.YtghmhekjdjdleaaPureFnExactLineOk
import Derived.Test.YtghmhekjdjdleaaO
import Derived.WalkKit
import Derived.ProofKit
import Derived.OpenShut
import Derived.ShutString
import Derived.ChangeOld
import Derived.Below
import Derived.SizedLaws
namespace Go.Proofs.Ytghmhekjdjdleaa.fnExactLineOk
open Go.ChangeShapes Go.WideShapes Go.ChangeAt Go.RowKit Go.Proofs.YtghmhekjdjdleaaO Go.Proofs.Ytghmhekjdjdleaa.Z Go.Proofs.YtghmhekjdjdleaaW.PrintWords Go.Proofs.YtghmhekjdjdleaaW.PrintLast
open Go.ChangeMaps (open_string shut_string)
set_option linter.unusedVariables false
theorem own : ownKnob Try.prog.godebug = none := by kernel_rfl
theorem laidOut : laidOutB Try.prog = true := by kernel_rfl
theorem cellsOf22 : Try.prog.cellsOf 22 = 1 := by kernel_rfl
theorem cellsOf3 : Try.prog.cellsOf 3 = 1 := by kernel_rfl
set_option maxHeartbeats 4000000 in
set_option maxRecDepth 100000 in
theorem lifted (os : Os) (started : os.Started) (H : Type) (enc : TypeId × Value → H) :
    ReturnsInHanded {} Try.checked os 4 .any (Rows.fnExactLineOkSpec.pre6 enc Try.prog Try.f4 Rows.fnExactLineOkRow.domain false) (Rows.fnExactLineOkSpec.post enc Try.prog Try.f4 false true false false) := by
  refine returnsInHanded_of_change_sized (C := Try.checked) own started (by kernel_rfl) Try.func4
    (ChangeSpec.witness6 (enc := enc) (C := Try.checked) false ⟨#[], #[.slice none 0 0], []⟩ 8 (by kernel_rfl) (by kernel_rfl) (by kernel_rfl) (by kernel_rfl)) ?_
  intro W base args ds gs before hval0 hW hcnd hsz0 _
  have hval : ∀ (j : Nat) t v, Try.f4.params[j]? = some t → args[j]? = some v → Value.okWide Try.prog W .any base t v := hval0
  have hW' := hW
  obtain ⟨p, q, hA0, hV, rfl, hfz, hnd⟩ := hW
  have hA : DataW.TrodAll enc Try.prog W 0 (fun _ => true) true Try.f4.params.toList args.toList ds p := hA0
  rw [Try.params4] at hA hval
  obtain ⟨v0, vs0, d0, ds0, p0, q0, hargs, rfl, rfl, h0, r0⟩ := trodAll_cons hA
  obtain ⟨rfl, rfl, rfl⟩ := trodAll_nil r0
  obtain rfl : args = #[v0] := by cases args; simp_all
  obtain ⟨rfl, rfl⟩ := trodVars_none hV
  clear hA0 hval0 hsz0
  have k0 := h0
  have lt0 : ∀ x ∈ p0, x.block < W.heap.size := by obtain ⟨m, hm⟩ := k0; exact DataW.trod_lt m _ _ _ hm
  obtain ⟨a_0, len_0, cap_0, rfl⟩ := okWide_slice Try.underlying22 (hval 0 22 v0 rfl rfl)
  have b0 : Rd enc Try.prog W 0 (fun _ => true) true 22 [.slice a_0 len_0 cap_0] := by have h_ := rd_of h0; simpa [Value.cells] using h_
  have hR0 : ∀ cs, Rd enc Try.prog W 0 (fun _ => true) true 3 cs → ∃ p, (fun (p : Int) cs => cs = [.int .i64 p] ∧ (Lit.int .i64 p).wf = true) p cs := by
    intro cs h
    obtain ⟨z, e, hw⟩ := rd_int Try.underlying3 h
    exact ⟨z, e, hw⟩
  obtain ⟨A0, c0, l0, e_, hc0, hm0, hr0⟩ := rd_slice (fun (p : Int) cs => cs = [.int .i64 p] ∧ (Lit.int .i64 p).wf = true) Try.underlying22 cellsOf3 hR0 b0
  obtain ⟨rfl, rfl, rfl⟩ := Value.slice.inj (List.singleton_inj.1 e_)
  have hk0 : Kd.C (Kd.int .i64) W a_0 l0.length l0 := reads_imp hr0 (fun _ _ h => h.1)
  have hw0 : ∀ x ∈ l0, (Lit.int .i64 x).wf = true := reads_all hr0 (fun _ _ h => h.2)
  obtain ⟨k, hk⟩ := Pure.FnExactLineOk l0 hr0.2.1 hw0
  refine (laws_FnExactLineOk.calls k _ _ l0 true W hk0 hc0 ⟨rfl⟩ hk).mono fun e W' ⟨he, bel0⟩ => ?_
  have bel : Below W.heap.size W W' := bel0
  subst he
  exact ⟨_, rfl, _, _, _, [], _, [], hW', trodAll_mk1 (shut_bool Try.underlying4 _), (trodAll_cons_mk (Below.trod laidOut (by kernel_rfl) (of_decide_eq_true (by kernel_rfl)) k0 bel lt0) trodAll_mk0), rfl, bel.frame _, fun h => by cases h⟩
theorem over : Rows.fnExactLineOkRow.holds Try.pinned (OpenSpec.ofChange Rows.fnExactLineOkSpec) :=
  OpenClaim.holds_of_wide 4 Try.f4 rfl rfl rfl rfl rfl rfl rfl ⟨rfl, rfl, rfl, rfl, rfl⟩ rfl rfl rfl rfl rfl (by kernel_rfl) Try.func4 (by kernel_rfl)
    (of_decide_eq_true (by kernel_rfl)) (by unfold Func.isWrapper; first | (rw [if_pos (by decide +kernel)]; kernel_rfl) | (rw [if_neg (by decide +kernel)]; exact ⟨rfl, rfl⟩))
    (fun os started H enc _ => lifted os started H enc)
theorem proved : Rows.FnExactLineOkSaid := over
#print axioms proved
end Go.Proofs.Ytghmhekjdjdleaa.fnExactLineOk
namespace Go.Proofs.Ytghmhekjdjdleaa
/-- The row, under a short name, for the claim. -/
theorem fnExactLineOk_holds : Rows.FnExactLineOkSaid := fnExactLineOk.proved
end Go.Proofs.Ytghmhekjdjdleaa
