/- The law FnFirstCome, as a statement on numbers and lists: who comes first stands first. Conditions: those of the statement. -/
import Derived.Test.YtghmhekjdjdleaaQFnFirstCome
import Derived.Test.YtghmhekjdjdleaaStatFnFirstCome
namespace Go.Proofs.Ytghmhekjdjdleaa.Pure
open Go.RowKit Go.Proofs.Ytghmhekjdjdleaa.Z Go.Proofs.YtghmhekjdjdleaaW.PrintWords Go.Proofs.YtghmhekjdjdleaaW.PrintLast Go.Proofs.Ytghmhekjdjdleaa.Q
set_option linter.unusedVariables false
set_option linter.unusedSimpArgs false
theorem at0 (s : List Int) (hw : ∀ x ∈ s, (Lit.int .u8 x).wf = true) : ∃ t, laws_at.f s 0 = some t ∧ 0 ≤ t := by
  simp only [laws_at.f]
  by_cases h : (0 : Int) < s.length
  · rw [if_pos h, if_pos (Int.le_refl 0)]
    have hx := hw (rd s 0) (by
      unfold rd
      rw [List.getD_eq_getElem?_getD, List.getElem?_eq_getElem (show (0 : Int).toNat < s.length by simpa using h)]
      exact List.getElem_mem _)
    have hb : 0 ≤ rd s 0 ∧ rd s 0 ≤ 255 := by
      have m0 : IntKind.u8.min = 0 := by decide
      have m1 : IntKind.u8.max = 255 := by decide
      simp [Lit.wf, m0, m1] at hx
      omega
    exact ⟨_, rfl, by rw [w64 (by omega) (by omega)]; exact hb.1⟩
  · rw [if_neg h]
    refine ⟨_, rfl, Int.tmod_nonneg _ ?_⟩
    rw [show (s.length : Int) = 0 by omega, w64 (x := 0 * 7) (by decide) (by decide), w64 (x := 0 * 7 + 0) (by decide) (by decide)]
    decide
theorem pos_snoc (a : Int) : ∀ (l : List Int) (j : Int), a ∉ l → pos a (l ++ [a]) j = j + l.length
  | [], j, _ => by simp [pos]
  | x :: xs, j, h => by
    have hx : ¬ x = a := fun e => h (e ▸ List.mem_cons_self)
    simp only [List.cons_append, pos]
    rw [if_neg hx, pos_snoc a xs (j + 1) (fun h' => h (List.mem_cons_of_mem _ h'))]
    simp only [List.length_cons]
    omega
theorem FnFirstCome : laws_FnFirstCome.Pure := by
  intro s hs hw
  refine Ev.rounds (g := fun k => laws_FnFirstCome.f k s) ?_
  simp only [laws_FnFirstCome.f, laws_big.f, Option.bind_some]
  by_cases hbig : (s.length : Int) > 1048576
  · simp only [decide_eq_true hbig, if_true]
    exact Ev.now _
  simp only [decide_eq_false hbig, if_neg (show ¬ (false = true) by decide)]
  have h46 : s.length ≤ 4611686018427387904 := by omega
  obtain ⟨l, a, hd, hl⟩ := DrawJoin_ex s h46
  obtain ⟨r, hsp, hi, hr⟩ := both_Join l a (by omega)
  obtain ⟨r1, r2⟩ := r
  dsimp only at hr
  refine Ev.bind hd ?_
  dsimp only
  refine Ev.bind hi ?_
  refine Ev.bind hsp ?_
  dsimp only
  by_cases h0 : r2 = 0
  · obtain ⟨e1, h1, h2, h3, h4⟩ := hr.2.1 h0
    subst h0
    subst e1
    refine Ev_ifpos rfl ?_
    have hj := lineOk_snoc h1 h2 h3 h4
    have hjl : (l ++ [a]).length = l.length + 1 := by simp
    have hli := implLeave_in (l ++ [a]) a hj (by simp)
    have e3 : ((l ++ [a]).filter fun x => decide (x ≠ a)) = l := by
      rw [List.filter_append, List.filter_eq_self.2 (fun x hx => by simpa using fun e : x = a => h3 (e ▸ hx))]
      simp
    rw [e3] at hli
    refine Ev.bind hli ?_
    obtain ⟨t, ht, ht0⟩ := at0 s hw
    simp only [ht, Option.bind_some, w64 (show -9223372036854775808 ≤ ((l ++ [a]).length : Int) + 1 by omega) (show ((l ++ [a]).length : Int) + 1 ≤ 9223372036854775807 by omega), if_neg (show ¬ ((l ++ [a]).length : Int) + 1 = 0 by omega)]
    have hm0 := Int.tmod_nonneg (((l ++ [a]).length : Int) + 1) ht0
    have hm1 := Int.tmod_lt_of_pos t (show (0 : Int) < ((l ++ [a]).length : Int) + 1 by omega)
    obtain ⟨m, hm⟩ : ∃ m : Nat, Int.tmod t (((l ++ [a]).length : Int) + 1) = m := ⟨(Int.tmod t (((l ++ [a]).length : Int) + 1)).toNat, by omega⟩
    rw [hm] at hm0 hm1
    simp only [hm]
    refine Ev.bind (implWake_ev (l ++ [a]) m hj (by omega)) ?_
    refine Ev.bind (implWake_ev (l ++ [a]) (l ++ [a]).length hj (Nat.le_refl _)) ?_
    simp only [if_true]
    refine Ev.bind (sameInts_self l (by omega)) ?_
    have e4 : ((l ++ [a]).take m).length = m := by rw [List.length_take]; omega
    have e5 : ((l ++ [a]).drop m).length ≤ 100 := by rw [List.length_drop]; omega
    simp only [if_true, e4, List.nil_append, List.length_nil, Option.bind_some, if_pos (show 0 + m < 17592186044416 by omega), if_pos (show m + ((l ++ [a]).drop m).length < 17592186044416 by omega), List.take_append_drop]
    refine Ev.bind (sameInts_self (l ++ [a]) (by omega)) ?_
    simp only [if_true]
    refine Ev.step (fun _ => rfl) ?_
    have e7 : (l ++ [a]).take (l ++ [a]).length = l ++ [a] := List.take_length
    have e8 : rd (l ++ [a]) (((l ++ [a]).length : Int) - 1) = a := by
      rw [show ((l ++ [a]).length : Int) - 1 = ((l.length : Nat) : Int) by omega, rd_nat, List.getD_eq_getElem?_getD, List.getElem?_append_right (Nat.le_refl _)]
      simp
    simp only [laws_FnFirstCome.j0, List.drop_length, List.length_nil, e7, w64 (show -9223372036854775808 ≤ ((l ++ [a]).length : Int) - 1 by omega) (show ((l ++ [a]).length : Int) - 1 ≤ 9223372036854775807 by omega), if_pos (show (0 : Int) ≤ ((l ++ [a]).length : Int) - 1 by omega), if_pos (show ((l ++ [a]).length : Int) - 1 < ((l ++ [a]).length : Int) by omega), e8, if_true]
    refine Ev_ifneg (by decide) ?_
    refine Ev.bind (implPlaceOf_ev (l ++ [a]) a (by omega)) ?_
    rw [pos_snoc a l 0 h3]
    refine Ev_ifpos (by omega) ?_
    refine Ev.bind (specLineOk_ev (l ++ [a]) (by omega)) ?_
    rw [bP_pos hj]
    exact Ev.now _
  · have e1 := hr.2.2 h0
    subst e1
    refine Ev_ifneg h0 ?_
    refine Ev_ifpos rfl ?_
    exact Ev.bind (sameInts_self _ (by omega)) (Ev.now _)
end Go.Proofs.Ytghmhekjdjdleaa.Pure
