/- Go functions of the translation as Lean functions, each with a proof that its code comes to just these answers (written by a program of this session: the kit's printer, hand-proved functions in between); conditions: those that stand in each theorem. -/
/- The law FnExactMsgText: for every input the call returns true, and each argument reads behind it as before. Conditions: none. -/
import Derived.Test.YtalehmhjddnmoaaRows
import Derived.Test.YtalehmhjddnmoaaStatFnExactMsgText
import Derived.Test.YtalehmhjddnmoaaPureFnExactMsgText
import Derived.Test.YtalehmhjddnmoaaO
import Derived.WalkKit
import Derived.ProofKit
import Derived.OpenShut
import Derived.ShutString
import Derived.ChangeOld
import Derived.Below
import Derived.SizedLaws
namespace Go.Proofs.Ytalehmhjddnmoaa.fnExactMsgText
open Go.ChangeShapes Go.WideShapes Go.ChangeAt Go.RowKit Go.Proofs.YtalehmhjddnmoaaO Go.Proofs.Ytalehmhjddnmoaa.Z Go.Proofs.YtalehmhjddnmoaaW.PrintWords Go.Proofs.YtalehmhjddnmoaaW.PrintLast
open Go.ChangeMaps (open_string shut_string)
set_option linter.unusedVariables false
theorem own : ownKnob Try.prog.godebug = none := by kernel_rfl
theorem laidOut : laidOutB Try.prog = true := by kernel_rfl
theorem cellsOf24 : Try.prog.cellsOf 24 = 3 := by kernel_rfl
theorem cellsOf3 : Try.prog.cellsOf 3 = 1 := by kernel_rfl
theorem cellsOf9 : Try.prog.cellsOf 9 = 1 := by kernel_rfl
set_option maxHeartbeats 4000000 in
set_option maxRecDepth 100000 in
theorem lifted (os : Os) (started : os.Started) (H : Type) (enc : TypeId × Value → H) :
    ReturnsInHanded {} Try.checked os 5 .any (Rows.fnExactMsgTextSpec.pre6 enc Try.prog Try.f5 Rows.fnExactMsgTextRow.domain false) (Rows.fnExactMsgTextSpec.post enc Try.prog Try.f5 false true false false) := by
  refine returnsInHanded_of_change_sized (C := Try.checked) own started (by kernel_rfl) Try.func5
    (ChangeSpec.witness6 (enc := enc) (C := Try.checked) false ⟨#[], #[.agg #[.int .i64 0, .int .i64 0, .string ByteArray.empty]], []⟩ 8 (by kernel_rfl) (by kernel_rfl) (by kernel_rfl) (by kernel_rfl)) ?_
  intro W base args ds gs before hval0 hW hcnd hsz0 _
  have hval : ∀ (j : Nat) t v, Try.f5.params[j]? = some t → args[j]? = some v → Value.okWide Try.prog W .any base t v := hval0
  have hW' := hW
  obtain ⟨p, q, hA0, hV, rfl, hfz, hnd⟩ := hW
  have hA : DataW.TrodAll enc Try.prog W 0 (fun _ => true) true Try.f5.params.toList args.toList ds p := hA0
  rw [Try.params5] at hA hval
  obtain ⟨v0, vs0, d0, ds0, p0, q0, hargs, rfl, rfl, h0, r0⟩ := trodAll_cons hA
  obtain ⟨rfl, rfl, rfl⟩ := trodAll_nil r0
  obtain rfl : args = #[v0] := by cases args; simp_all
  obtain ⟨rfl, rfl⟩ := trodVars_none hV
  clear hA0 hval0 hsz0
  have k0 := h0
  have lt0 : ∀ x ∈ p0, x.block < W.heap.size := by obtain ⟨m, hm⟩ := k0; exact DataW.trod_lt m _ _ _ hm
  obtain ⟨cs0, rfl, hs0⟩ := okWide_struct Try.underlying24 (hval 0 24 v0 rfl rfl)
  obtain ⟨ce0_0, ce0_1, ce0_2, rfl⟩ := arr3 (hs0.trans cellsOf24)
  have b0 : Rd enc Try.prog W 0 (fun _ => true) true 24 [ce0_0, ce0_1, ce0_2] := by have h_ := rd_of h0; simpa [Value.cells] using h_
  have b0_0 : Rd enc Try.prog W 0 (fun _ => true) true 3 [ce0_0] := rd_field Try.underlying24 b0 0 _ rfl cellsOf3
  obtain ⟨a0_0, e_, w0_0⟩ := rd_int Try.underlying3 b0_0
  obtain rfl := List.singleton_inj.1 e_
  have b0_1 : Rd enc Try.prog W 0 (fun _ => true) true 3 [ce0_1] := rd_field Try.underlying24 b0 1 _ rfl cellsOf3
  obtain ⟨a0_1, e_, w0_1⟩ := rd_int Try.underlying3 b0_1
  obtain rfl := List.singleton_inj.1 e_
  have b0_2 : Rd enc Try.prog W 0 (fun _ => true) true 9 [ce0_2] := rd_field Try.underlying24 b0 2 _ rfl cellsOf9
  obtain ⟨a0_2, e_, w0_2⟩ := rd_string Try.underlying9 b0_2
  obtain rfl := List.singleton_inj.1 e_
  obtain ⟨k, hk⟩ := Pure.FnExactMsgText a0_0 a0_1 a0_2 w0_0 w0_1 w0_2
  refine (laws_FnExactMsgText.calls k a0_0 a0_1 a0_2 true W ⟨rfl⟩ hk).mono fun e W' ⟨he, bel0⟩ => ?_
  have bel : Below W.heap.size W W' := bel0
  subst he
  exact ⟨_, rfl, _, _, _, [], _, [], hW', trodAll_mk1 (shut_bool Try.underlying4 _), (trodAll_cons_mk (Below.trod laidOut (by kernel_rfl) (of_decide_eq_true (by kernel_rfl)) k0 bel lt0) trodAll_mk0), rfl, bel.frame _, fun h => by cases h⟩
theorem over : Rows.fnExactMsgTextRow.holds Try.pinned (OpenSpec.ofChange Rows.fnExactMsgTextSpec) :=
  OpenClaim.holds_of_wide 5 Try.f5 rfl rfl rfl rfl rfl rfl rfl ⟨rfl, rfl, rfl, rfl, rfl⟩ rfl rfl rfl rfl rfl (by kernel_rfl) Try.func5 (by kernel_rfl)
    (of_decide_eq_true (by kernel_rfl)) (by unfold Func.isWrapper; first | (rw [if_pos (by decide +kernel)]; kernel_rfl) | (rw [if_neg (by decide +kernel)]; exact ⟨rfl, rfl⟩))
    (fun os started H enc _ => lifted os started H enc)
theorem proved : Rows.FnExactMsgTextSaid := over
#print axioms proved
end Go.Proofs.Ytalehmhjddnmoaa.fnExactMsgText
namespace Go.Proofs.Ytalehmhjddnmoaa
/-- The row, under a short name, for the claim. -/
theorem fnExactMsgText_holds : Rows.FnExactMsgTextSaid := fnExactMsgText.proved
end Go.Proofs.Ytalehmhjddnmoaa
