/- Go functions of the translation as Lean functions, each with a proof that its code comes to just these answers (written by a program of this session: the kit's printer, hand-proved functions in between); conditions: those that stand in each theorem. -/
/- The law FnExactStepBack: for every input the call returns true, and each argument reads behind it as before. Conditions: none. -/
import Derived.Test.YtdagpmnadapbjaaRows
import Derived.Test.YtdagpmnadapbjaaStatFnExactStepBack
import Derived.Test.YtdagpmnadapbjaaPureFnExactStepBack
import Derived.Test.YtdagpmnadapbjaaO
import Derived.WalkKit
import Derived.ProofKit
import Derived.OpenShut
import Derived.ShutString
import Derived.ChangeOld
import Derived.Below
import Derived.SizedLaws
namespace Go.Proofs.Ytdagpmnadapbjaa.fnExactStepBack
open Go.ChangeShapes Go.WideShapes Go.ChangeAt Go.RowKit Go.Proofs.YtdagpmnadapbjaaO Go.Proofs.Ytdagpmnadapbjaa.Z Go.Proofs.YtdagpmnadapbjaaW.PrintWords Go.Proofs.YtdagpmnadapbjaaW.PrintLast
open Go.ChangeMaps (open_string shut_string)
set_option linter.unusedVariables false
theorem own : ownKnob Try.prog.godebug = none := by kernel_rfl
theorem laidOut : laidOutB Try.prog = true := by kernel_rfl
theorem cellsOf24 : Try.prog.cellsOf 24 = 7 := by kernel_rfl
theorem cellsOf4 : Try.prog.cellsOf 4 = 1 := by kernel_rfl
theorem cellsOf22 : Try.prog.cellsOf 22 = 1 := by kernel_rfl
theorem cellsOf3 : Try.prog.cellsOf 3 = 1 := by kernel_rfl
set_option maxHeartbeats 4000000 in
set_option maxRecDepth 100000 in
theorem lifted (os : Os) (started : os.Started) (H : Type) (enc : TypeId × Value → H) :
    ReturnsInHanded {} Try.checked os 10 .any (Rows.fnExactStepBackSpec.pre6 enc Try.prog Try.f10 Rows.fnExactStepBackRow.domain false) (Rows.fnExactStepBackSpec.post enc Try.prog Try.f10 false true false false) := by
  refine returnsInHanded_of_change_sized (C := Try.checked) own started (by kernel_rfl) Try.func10
    (ChangeSpec.witness6 (enc := enc) (C := Try.checked) false ⟨#[], #[.agg #[.bool false, .bool false, .slice none 0 0, .slice none 0 0, .int .i64 0, .int .i64 0, .int .i64 0], .int .i64 0], []⟩ 8 (by kernel_rfl) (by kernel_rfl) (by kernel_rfl) (by kernel_rfl)) ?_
  intro W base args ds gs before hval0 hW hcnd hsz0 _
  have hval : ∀ (j : Nat) t v, Try.f10.params[j]? = some t → args[j]? = some v → Value.okWide Try.prog W .any base t v := hval0
  have hW' := hW
  obtain ⟨p, q, hA0, hV, rfl, hfz, hnd⟩ := hW
  have hA : DataW.TrodAll enc Try.prog W 0 (fun _ => true) true Try.f10.params.toList args.toList ds p := hA0
  rw [Try.params10] at hA hval
  obtain ⟨v0, vs0, d0, ds0, p0, q0, hargs, rfl, rfl, h0, r0⟩ := trodAll_cons hA
  obtain ⟨v1, vs1, d1, ds1, p1, q1, rfl, rfl, rfl, h1, r1⟩ := trodAll_cons r0
  obtain ⟨rfl, rfl, rfl⟩ := trodAll_nil r1
  obtain rfl : args = #[v0, v1] := by cases args; simp_all
  obtain ⟨rfl, rfl⟩ := trodVars_none hV
  clear hA0 hval0 hsz0
  have k0 := h0
  have lt0 : ∀ x ∈ p0, x.block < W.heap.size := by obtain ⟨m, hm⟩ := k0; exact DataW.trod_lt m _ _ _ hm
  obtain ⟨cs0, rfl, hs0⟩ := okWide_struct Try.underlying24 (hval 0 24 v0 rfl rfl)
  obtain ⟨ce0_0, ce0_1, ce0_2, ce0_3, ce0_4, ce0_5, ce0_6, rfl⟩ := arr7 (hs0.trans cellsOf24)
  have b0 : Rd enc Try.prog W 0 (fun _ => true) true 24 [ce0_0, ce0_1, ce0_2, ce0_3, ce0_4, ce0_5, ce0_6] := by have h_ := rd_of h0; simpa [Value.cells] using h_
  have b0_0 : Rd enc Try.prog W 0 (fun _ => true) true 4 [ce0_0] := rd_field Try.underlying24 b0 0 _ rfl cellsOf4
  obtain ⟨a0_0, e_⟩ := rd_bool Try.underlying4 b0_0
  obtain rfl := List.singleton_inj.1 e_
  have b0_1 : Rd enc Try.prog W 0 (fun _ => true) true 4 [ce0_1] := rd_field Try.underlying24 b0 1 _ rfl cellsOf4
  obtain ⟨a0_1, e_⟩ := rd_bool Try.underlying4 b0_1
  obtain rfl := List.singleton_inj.1 e_
  have b0_2 : Rd enc Try.prog W 0 (fun _ => true) true 22 [ce0_2] := rd_field Try.underlying24 b0 2 _ rfl cellsOf22
  have hR0_2 : ∀ cs, Rd enc Try.prog W 0 (fun _ => true) true 3 cs → ∃ p, (fun (p : Int) cs => cs = [.int .i64 p] ∧ (Lit.int .i64 p).wf = true) p cs := by
    intro cs h
    obtain ⟨z, e, hw⟩ := rd_int Try.underlying3 h
    exact ⟨z, e, hw⟩
  obtain ⟨A0_2, c0_2, l0_2, e_, hc0_2, hm0_2, hr0_2⟩ := rd_slice (fun (p : Int) cs => cs = [.int .i64 p] ∧ (Lit.int .i64 p).wf = true) Try.underlying22 cellsOf3 hR0_2 b0_2
  obtain rfl := List.singleton_inj.1 e_
  have hk0_2 : Kd.C (Kd.int .i64) W A0_2 l0_2.length l0_2 := reads_imp hr0_2 (fun _ _ h => h.1)
  have hw0_2 : ∀ x ∈ l0_2, (Lit.int .i64 x).wf = true := reads_all hr0_2 (fun _ _ h => h.2)
  have b0_3 : Rd enc Try.prog W 0 (fun _ => true) true 22 [ce0_3] := rd_field Try.underlying24 b0 3 _ rfl cellsOf22
  have hR0_3 : ∀ cs, Rd enc Try.prog W 0 (fun _ => true) true 3 cs → ∃ p, (fun (p : Int) cs => cs = [.int .i64 p] ∧ (Lit.int .i64 p).wf = true) p cs := by
    intro cs h
    obtain ⟨z, e, hw⟩ := rd_int Try.underlying3 h
    exact ⟨z, e, hw⟩
  obtain ⟨A0_3, c0_3, l0_3, e_, hc0_3, hm0_3, hr0_3⟩ := rd_slice (fun (p : Int) cs => cs = [.int .i64 p] ∧ (Lit.int .i64 p).wf = true) Try.underlying22 cellsOf3 hR0_3 b0_3
  obtain rfl := List.singleton_inj.1 e_
  have hk0_3 : Kd.C (Kd.int .i64) W A0_3 l0_3.length l0_3 := reads_imp hr0_3 (fun _ _ h => h.1)
  have hw0_3 : ∀ x ∈ l0_3, (Lit.int .i64 x).wf = true := reads_all hr0_3 (fun _ _ h => h.2)
  have b0_4 : Rd enc Try.prog W 0 (fun _ => true) true 3 [ce0_4] := rd_field Try.underlying24 b0 4 _ rfl cellsOf3
  obtain ⟨a0_4, e_, w0_4⟩ := rd_int Try.underlying3 b0_4
  obtain rfl := List.singleton_inj.1 e_
  have b0_5 : Rd enc Try.prog W 0 (fun _ => true) true 3 [ce0_5] := rd_field Try.underlying24 b0 5 _ rfl cellsOf3
  obtain ⟨a0_5, e_, w0_5⟩ := rd_int Try.underlying3 b0_5
  obtain rfl := List.singleton_inj.1 e_
  have b0_6 : Rd enc Try.prog W 0 (fun _ => true) true 3 [ce0_6] := rd_field Try.underlying24 b0 6 _ rfl cellsOf3
  obtain ⟨a0_6, e_, w0_6⟩ := rd_int Try.underlying3 b0_6
  obtain rfl := List.singleton_inj.1 e_
  have k1 := h1
  have lt1 : ∀ x ∈ p1, x.block < W.heap.size := by obtain ⟨m, hm⟩ := k1; exact DataW.trod_lt m _ _ _ hm
  obtain ⟨a1, rfl, _, _, w1⟩ := open_int Try.underlying3 (hval 1 3 v1 rfl rfl) h1
  obtain ⟨k, hk⟩ := Pure.FnExactStepBack a0_0 a0_1 l0_2 l0_3 a0_4 a0_5 a0_6 a1 hr0_2.2.1 hw0_2 hr0_3.2.1 hw0_3 w0_4 w0_5 w0_6 w1
  refine (laws_FnExactStepBack.calls k a0_0 a0_1 _ _ l0_2 _ _ l0_3 a0_4 a0_5 a0_6 a1 true W hk0_2 hc0_2 hk0_3 hc0_3 ⟨rfl⟩ hk).mono fun e W' ⟨he, bel0⟩ => ?_
  have bel : Below W.heap.size W W' := bel0
  subst he
  exact ⟨_, rfl, _, _, _, [], _, [], hW', trodAll_mk1 (shut_bool Try.underlying4 _), (trodAll_cons_mk (Below.trod laidOut (by kernel_rfl) (of_decide_eq_true (by kernel_rfl)) k0 bel lt0) (trodAll_cons_mk (Below.trod laidOut (by kernel_rfl) (of_decide_eq_true (by kernel_rfl)) k1 bel lt1) trodAll_mk0)), rfl, bel.frame _, fun h => by cases h⟩
theorem over : Rows.fnExactStepBackRow.holds Try.pinned (OpenSpec.ofChange Rows.fnExactStepBackSpec) :=
  OpenClaim.holds_of_wide 10 Try.f10 rfl rfl rfl rfl rfl rfl rfl ⟨rfl, rfl, rfl, rfl, rfl⟩ rfl rfl rfl rfl rfl (by kernel_rfl) Try.func10 (by kernel_rfl)
    (of_decide_eq_true (by kernel_rfl)) (by unfold Func.isWrapper; first | (rw [if_pos (by decide +kernel)]; kernel_rfl) | (rw [if_neg (by decide +kernel)]; exact ⟨rfl, rfl⟩))
    (fun os started H enc _ => lifted os started H enc)
theorem proved : Rows.FnExactStepBackSaid := over
#print axioms proved
end Go.Proofs.Ytdagpmnadapbjaa.fnExactStepBack
namespace Go.Proofs.Ytdagpmnadapbjaa
/-- The row, under a short name, for the claim. -/
theorem fnExactStepBack_holds : Rows.FnExactStepBackSaid := fnExactStepBack.proved
end Go.Proofs.Ytdagpmnadapbjaa
