/- Go functions of the translation as Lean functions, each with a proof that its code comes to just these answers (written by a program of this session: the kit's printer, hand-proved functions in between); conditions: those that stand in each theorem. -/
/- The law FnExactShut: for every input the call returns true, and each argument reads behind it as before. Conditions: none. -/
import Derived.Test.YtffcphplnilokaaRows
import Derived.Test.YtffcphplnilokaaStatFnExactShut
import Derived.Test.YtffcphplnilokaaPureFnExactShut
import Derived.Test.YtffcphplnilokaaO
import Derived.WalkKit
import Derived.ProofKit
import Derived.OpenShut
import Derived.ShutString
import Derived.ChangeOld
import Derived.Below
import Derived.SizedLaws
namespace Go.Proofs.Ytffcphplnilokaa.fnExactShut
open Go.ChangeShapes Go.WideShapes Go.ChangeAt Go.RowKit Go.Proofs.YtffcphplnilokaaO Go.Proofs.Ytffcphplnilokaa.Z Go.Proofs.YtffcphplnilokaaW.PrintWords Go.Proofs.YtffcphplnilokaaW.PrintLast
open Go.ChangeMaps (open_string shut_string)
set_option linter.unusedVariables false
theorem own : ownKnob Try.prog.godebug = none := by kernel_rfl
theorem laidOut : laidOutB Try.prog = true := by kernel_rfl
theorem cellsOf56 : Try.prog.cellsOf 56 = 7 := by kernel_rfl
theorem cellsOf54 : Try.prog.cellsOf 54 = 3 := by kernel_rfl
theorem cellsOf3 : Try.prog.cellsOf 3 = 1 := by kernel_rfl
theorem cellsOf9 : Try.prog.cellsOf 9 = 1 := by kernel_rfl
theorem cellsOf4 : Try.prog.cellsOf 4 = 1 := by kernel_rfl
theorem cellsOf27 : Try.prog.cellsOf 27 = 1 := by kernel_rfl
set_option maxHeartbeats 4000000 in
set_option maxRecDepth 100000 in
theorem lifted (os : Os) (started : os.Started) (H : Type) (enc : TypeId × Value → H) :
    ReturnsInHanded {} Try.checked os 14 .any (Rows.fnExactShutSpec.pre6 enc Try.prog Try.f14 Rows.fnExactShutRow.domain false) (Rows.fnExactShutSpec.post enc Try.prog Try.f14 false true false false) := by
  refine returnsInHanded_of_change_sized (C := Try.checked) own started (by kernel_rfl) Try.func14
    (ChangeSpec.witness6 (enc := enc) (C := Try.checked) false ⟨#[], #[.agg #[.int .i64 0, .int .i64 0, .string ByteArray.empty, .int .i64 0, .bool false, .slice none 0 0, .slice none 0 0]], []⟩ 8 (by kernel_rfl) (by kernel_rfl) (by kernel_rfl) (by kernel_rfl)) ?_
  intro W base args ds gs before hval0 hW hcnd hsz0 _
  have hval : ∀ (j : Nat) t v, Try.f14.params[j]? = some t → args[j]? = some v → Value.okWide Try.prog W .any base t v := hval0
  have hW' := hW
  obtain ⟨p, q, hA0, hV, rfl, hfz, hnd⟩ := hW
  have hA : DataW.TrodAll enc Try.prog W 0 (fun _ => true) true Try.f14.params.toList args.toList ds p := hA0
  rw [Try.params14] at hA hval
  obtain ⟨v0, vs0, d0, ds0, p0, q0, hargs, rfl, rfl, h0, r0⟩ := trodAll_cons hA
  obtain ⟨rfl, rfl, rfl⟩ := trodAll_nil r0
  obtain rfl : args = #[v0] := by cases args; simp_all
  obtain ⟨rfl, rfl⟩ := trodVars_none hV
  clear hA0 hval0 hsz0
  have k0 := h0
  have lt0 : ∀ x ∈ p0, x.block < W.heap.size := by obtain ⟨m, hm⟩ := k0; exact DataW.trod_lt m _ _ _ hm
  obtain ⟨cs0, rfl, hs0⟩ := okWide_struct Try.underlying56 (hval 0 56 v0 rfl rfl)
  obtain ⟨ce0_0, ce0_1, ce0_2, ce0_3, ce0_4, ce0_5, ce0_6, rfl⟩ := arr7 (hs0.trans cellsOf56)
  have b0 : Rd enc Try.prog W 0 (fun _ => true) true 56 [ce0_0, ce0_1, ce0_2, ce0_3, ce0_4, ce0_5, ce0_6] := by have h_ := rd_of h0; simpa [Value.cells] using h_
  have b0_0 : Rd enc Try.prog W 0 (fun _ => true) true 54 [ce0_0, ce0_1, ce0_2] := rd_field Try.underlying56 b0 0 _ rfl cellsOf54
  have b0_0_0 : Rd enc Try.prog W 0 (fun _ => true) true 3 [ce0_0] := rd_field Try.underlying54 b0_0 0 _ rfl cellsOf3
  obtain ⟨a0_0, e_, w0_0⟩ := rd_int Try.underlying3 b0_0_0
  obtain rfl := List.singleton_inj.1 e_
  have b0_0_1 : Rd enc Try.prog W 0 (fun _ => true) true 3 [ce0_1] := rd_field Try.underlying54 b0_0 1 _ rfl cellsOf3
  obtain ⟨a0_1, e_, w0_1⟩ := rd_int Try.underlying3 b0_0_1
  obtain rfl := List.singleton_inj.1 e_
  have b0_0_2 : Rd enc Try.prog W 0 (fun _ => true) true 9 [ce0_2] := rd_field Try.underlying54 b0_0 2 _ rfl cellsOf9
  obtain ⟨a0_2, e_, w0_2⟩ := rd_string Try.underlying9 b0_0_2
  obtain rfl := List.singleton_inj.1 e_
  have b0_1 : Rd enc Try.prog W 0 (fun _ => true) true 3 [ce0_3] := rd_field Try.underlying56 b0 1 _ rfl cellsOf3
  obtain ⟨a0_3, e_, w0_3⟩ := rd_int Try.underlying3 b0_1
  obtain rfl := List.singleton_inj.1 e_
  have b0_2 : Rd enc Try.prog W 0 (fun _ => true) true 4 [ce0_4] := rd_field Try.underlying56 b0 2 _ rfl cellsOf4
  obtain ⟨a0_4, e_⟩ := rd_bool Try.underlying4 b0_2
  obtain rfl := List.singleton_inj.1 e_
  have b0_3 : Rd enc Try.prog W 0 (fun _ => true) true 27 [ce0_5] := rd_field Try.underlying56 b0 3 _ rfl cellsOf27
  have hR0_5 : ∀ cs, Rd enc Try.prog W 0 (fun _ => true) true 3 cs → ∃ p, (fun (p : Int) cs => cs = [.int .i64 p] ∧ (Lit.int .i64 p).wf = true) p cs := by
    intro cs h
    obtain ⟨z, e, hw⟩ := rd_int Try.underlying3 h
    exact ⟨z, e, hw⟩
  obtain ⟨A0_5, c0_5, l0_5, e_, hc0_5, hm0_5, hr0_5⟩ := rd_slice (fun (p : Int) cs => cs = [.int .i64 p] ∧ (Lit.int .i64 p).wf = true) Try.underlying27 cellsOf3 hR0_5 b0_3
  obtain rfl := List.singleton_inj.1 e_
  have hk0_5 : Kd.C (Kd.int .i64) W A0_5 l0_5.length l0_5 := reads_imp hr0_5 (fun _ _ h => h.1)
  have hw0_5 : ∀ x ∈ l0_5, (Lit.int .i64 x).wf = true := reads_all hr0_5 (fun _ _ h => h.2)
  have b0_4 : Rd enc Try.prog W 0 (fun _ => true) true 27 [ce0_6] := rd_field Try.underlying56 b0 4 _ rfl cellsOf27
  have hR0_6 : ∀ cs, Rd enc Try.prog W 0 (fun _ => true) true 3 cs → ∃ p, (fun (p : Int) cs => cs = [.int .i64 p] ∧ (Lit.int .i64 p).wf = true) p cs := by
    intro cs h
    obtain ⟨z, e, hw⟩ := rd_int Try.underlying3 h
    exact ⟨z, e, hw⟩
  obtain ⟨A0_6, c0_6, l0_6, e_, hc0_6, hm0_6, hr0_6⟩ := rd_slice (fun (p : Int) cs => cs = [.int .i64 p] ∧ (Lit.int .i64 p).wf = true) Try.underlying27 cellsOf3 hR0_6 b0_4
  obtain rfl := List.singleton_inj.1 e_
  have hk0_6 : Kd.C (Kd.int .i64) W A0_6 l0_6.length l0_6 := reads_imp hr0_6 (fun _ _ h => h.1)
  have hw0_6 : ∀ x ∈ l0_6, (Lit.int .i64 x).wf = true := reads_all hr0_6 (fun _ _ h => h.2)
  obtain ⟨k, hk⟩ := Pure.FnExactShut a0_0 a0_1 a0_2 a0_3 a0_4 l0_5 l0_6 w0_0 w0_1 w0_2 w0_3 hr0_5.2.1 hw0_5 hr0_6.2.1 hw0_6
  refine (laws_FnExactShut.calls k a0_0 a0_1 a0_2 a0_3 a0_4 _ _ l0_5 _ _ l0_6 true W hk0_5 hc0_5 hk0_6 hc0_6 ⟨rfl⟩ hk).mono fun e W' ⟨he, bel0⟩ => ?_
  have bel : Below W.heap.size W W' := bel0
  subst he
  exact ⟨_, rfl, _, _, _, [], _, [], hW', trodAll_mk1 (shut_bool Try.underlying4 _), (trodAll_cons_mk (Below.trod laidOut (by kernel_rfl) (of_decide_eq_true (by kernel_rfl)) k0 bel lt0) trodAll_mk0), rfl, bel.frame _, fun h => by cases h⟩
theorem over : Rows.fnExactShutRow.holds Try.pinned (OpenSpec.ofChange Rows.fnExactShutSpec) :=
  OpenClaim.holds_of_wide 14 Try.f14 rfl rfl rfl rfl rfl rfl rfl ⟨rfl, rfl, rfl, rfl, rfl⟩ rfl rfl rfl rfl rfl (by kernel_rfl) Try.func14 (by kernel_rfl)
    (of_decide_eq_true (by kernel_rfl)) (by unfold Func.isWrapper; first | (rw [if_pos (by decide +kernel)]; kernel_rfl) | (rw [if_neg (by decide +kernel)]; exact ⟨rfl, rfl⟩))
    (fun os started H enc _ => lifted os started H enc)
theorem proved : Rows.FnExactShutSaid := over
#print axioms proved
end Go.Proofs.Ytffcphplnilokaa.fnExactShut
namespace Go.Proofs.Ytffcphplnilokaa
/-- The row, under a short name, for the claim. -/
theorem fnExactShut_holds : Rows.FnExactShutSaid := fnExactShut.proved
end Go.Proofs.Ytffcphplnilokaa
