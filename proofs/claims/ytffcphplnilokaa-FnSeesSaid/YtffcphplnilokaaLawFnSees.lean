/- Go functions of the translation as Lean functions, each with a proof that its code comes to just these answers (written by a program of this session: the kit's printer, hand-proved functions in between); conditions: those that stand in each theorem. -/
/- The law FnSees: for every input the call returns true, and each argument reads behind it as before. Conditions: none. -/
import Derived.Test.YtffcphplnilokaaRows
import Derived.Test.YtffcphplnilokaaStatFnSees
import Derived.Test.YtffcphplnilokaaPureFnSees
import Derived.Test.YtffcphplnilokaaO
import Derived.WalkKit
import Derived.ProofKit
import Derived.OpenShut
import Derived.ShutString
import Derived.ChangeOld
import Derived.Below
import Derived.SizedLaws
namespace Go.Proofs.Ytffcphplnilokaa.fnSees
open Go.ChangeShapes Go.WideShapes Go.ChangeAt Go.RowKit Go.Proofs.YtffcphplnilokaaO Go.Proofs.Ytffcphplnilokaa.Z Go.Proofs.YtffcphplnilokaaW.PrintWords Go.Proofs.YtffcphplnilokaaW.PrintLast
open Go.ChangeMaps (open_string shut_string)
set_option linter.unusedVariables false
theorem own : ownKnob Try.prog.godebug = none := by kernel_rfl
theorem laidOut : laidOutB Try.prog = true := by kernel_rfl
theorem cellsOf22 : Try.prog.cellsOf 22 = 1 := by kernel_rfl
theorem cellsOf5 : Try.prog.cellsOf 5 = 1 := by kernel_rfl
set_option maxHeartbeats 4000000 in
set_option maxRecDepth 100000 in
theorem lifted (os : Os) (started : os.Started) (H : Type) (enc : TypeId × Value → H) :
    ReturnsInHanded {} Try.checked os 3 .any (Rows.fnSeesSpec.pre6 enc Try.prog Try.f3 Rows.fnSeesRow.domain false) (Rows.fnSeesSpec.post enc Try.prog Try.f3 false true false false) := by
  refine returnsInHanded_of_change_sized (C := Try.checked) own started (by kernel_rfl) Try.func3
    (ChangeSpec.witness6 (enc := enc) (C := Try.checked) false ⟨#[], #[.slice none 0 0], []⟩ 8 (by kernel_rfl) (by kernel_rfl) (by kernel_rfl) (by kernel_rfl)) ?_
  intro W base args ds gs before hval0 hW hcnd hsz0 _
  have hval : ∀ (j : Nat) t v, Try.f3.params[j]? = some t → args[j]? = some v → Value.okWide Try.prog W .any base t v := hval0
  have hW' := hW
  obtain ⟨p, q, hA0, hV, rfl, hfz, hnd⟩ := hW
  have hA : DataW.TrodAll enc Try.prog W 0 (fun _ => true) true Try.f3.params.toList args.toList ds p := hA0
  rw [Try.params3] at hA hval
  obtain ⟨v0, vs0, d0, ds0, p0, q0, hargs, rfl, rfl, h0, r0⟩ := trodAll_cons hA
  obtain ⟨rfl, rfl, rfl⟩ := trodAll_nil r0
  obtain rfl : args = #[v0] := by cases args; simp_all
  obtain ⟨rfl, rfl⟩ := trodVars_none hV
  clear hA0 hval0 hsz0
  have k0 := h0
  have lt0 : ∀ x ∈ p0, x.block < W.heap.size := by obtain ⟨m, hm⟩ := k0; exact DataW.trod_lt m _ _ _ hm
  obtain ⟨a_0, len_0, cap_0, rfl⟩ := okWide_slice Try.underlying22 (hval 0 22 v0 rfl rfl)
  have b0 : Rd enc Try.prog W 0 (fun _ => true) true 22 [.slice a_0 len_0 cap_0] := by have h_ := rd_of h0; simpa [Value.cells] using h_
  have hR0 : ∀ cs, Rd enc Try.prog W 0 (fun _ => true) true 5 cs → ∃ p, (fun (p : Int) cs => cs = [.int .u8 p] ∧ (Lit.int .u8 p).wf = true) p cs := by
    intro cs h
    obtain ⟨z, e, hw⟩ := rd_int Try.underlying5 h
    exact ⟨z, e, hw⟩
  obtain ⟨A0, c0, l0, e_, hc0, hm0, hr0⟩ := rd_slice (fun (p : Int) cs => cs = [.int .u8 p] ∧ (Lit.int .u8 p).wf = true) Try.underlying22 cellsOf5 hR0 b0
  obtain ⟨rfl, rfl, rfl⟩ := Value.slice.inj (List.singleton_inj.1 e_)
  have hk0 : Kd.C (Kd.int .u8) W a_0 l0.length l0 := reads_imp hr0 (fun _ _ h => h.1)
  have hw0 : ∀ x ∈ l0, (Lit.int .u8 x).wf = true := reads_all hr0 (fun _ _ h => h.2)
  obtain ⟨k, hk⟩ := Pure.FnSees l0 hr0.2.1 hw0
  refine (laws_FnSees.calls k _ _ l0 true W hk0 hc0 ⟨rfl⟩ hk).mono fun e W' ⟨he, bel0⟩ => ?_
  have bel : Below W.heap.size W W' := bel0
  subst he
  exact ⟨_, rfl, _, _, _, [], _, [], hW', trodAll_mk1 (shut_bool Try.underlying4 _), (trodAll_cons_mk (Below.trod laidOut (by kernel_rfl) (of_decide_eq_true (by kernel_rfl)) k0 bel lt0) trodAll_mk0), rfl, bel.frame _, fun h => by cases h⟩
theorem over : Rows.fnSeesRow.holds Try.pinned (OpenSpec.ofChange Rows.fnSeesSpec) :=
  OpenClaim.holds_of_wide 3 Try.f3 rfl rfl rfl rfl rfl rfl rfl ⟨rfl, rfl, rfl, rfl, rfl⟩ rfl rfl rfl rfl rfl (by kernel_rfl) Try.func3 (by kernel_rfl)
    (of_decide_eq_true (by kernel_rfl)) (by unfold Func.isWrapper; first | (rw [if_pos (by decide +kernel)]; kernel_rfl) | (rw [if_neg (by decide +kernel)]; exact ⟨rfl, rfl⟩))
    (fun os started H enc _ => lifted os started H enc)
theorem proved : Rows.FnSeesSaid := over
#print axioms proved
end Go.Proofs.Ytffcphplnilokaa.fnSees
namespace Go.Proofs.Ytffcphplnilokaa
/-- The row, under a short name, for the claim. -/
theorem fnSees_holds : Rows.FnSeesSaid := fnSees.proved
end Go.Proofs.Ytffcphplnilokaa
