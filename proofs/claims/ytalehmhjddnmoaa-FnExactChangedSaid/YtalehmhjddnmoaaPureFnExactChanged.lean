/- The law FnExactChanged, as a statement on numbers and lists: what a change makes of a message is told alike. Conditions: those of the statement. -/
import Derived.Test.YtalehmhjddnmoaaQFnExactChanged
import Derived.Test.YtalehmhjddnmoaaStatFnExactChanged
namespace Go.Proofs.Ytalehmhjddnmoaa.Pure
open Go.RowKit Go.Proofs.Ytalehmhjddnmoaa.Z Go.Proofs.YtalehmhjddnmoaaW.PrintWords Go.Proofs.YtalehmhjddnmoaaW.PrintLast Go.Proofs.Ytalehmhjddnmoaa.Q
set_option linter.unusedVariables false
set_option linter.unusedSimpArgs false
theorem FnExactChanged : laws_FnExactChanged.Pure := by
  intro a b t o a' b' t' h0 h1 ht ho h2 h3 ht'
  have g0 : t.size ≤ 9223372036854775807 := by unfold maxLen at ht; omega
  have g1 : t'.size ≤ 9223372036854775807 := by unfold maxLen at ht'; omega
  refine Ev.rounds (g := fun k => laws_FnExactChanged.f k a b t o a' b' t') ?_
  simp only [laws_FnExactChanged.f, laws_szChange.f, szMsg_eq a b t 1048576 (by omega) (by omega) g0, Option.bind_some]
  by_cases hc : (1048576 : Int) < t.size
  · simp only [if_pos hc]
    exact Ev_ifpos (by omega) (Ev.now _)
  simp only [if_neg hc]
  refine Ev_ifneg (by omega) ?_
  simp only [szMsg_eq a' b' t' (1048576 - t.size) (by omega) (by omega) g1, Option.bind_some]
  by_cases hd : (1048576 : Int) - t.size < t'.size
  · simp only [if_pos hd, if_pos (show (-1 : Int) < 0 by decide), Option.bind_some]
    exact Ev.now _
  simp only [if_neg hd, if_neg (show ¬ (1048576 : Int) - t.size - t'.size < 0 by omega), Option.bind_some]
  obtain ⟨r, hs, hi, hr⟩ := both_Changed a b t o a' b' t' (by omega) (by omega)
  obtain ⟨r1, r2, r3, r4⟩ := r
  repeat (first
    | (dsimp only)
    | (with_reducible exact Ev.now _)
    | (with_reducible refine Ev.bind (hs) ?_)
    | (with_reducible refine Ev.bind (hi) ?_)
    | (with_reducible refine Ev_some (toMsg_eq _ _ _) ?_)
    | (with_reducible refine Ev_some (toChange_eq _ _ _ _) ?_)
    | (with_reducible refine Ev_some (eqMsg_self _ _ _) ?_)
    | (refine Ev_ifpos (by first | rfl | omega) ?_)
    | (refine Ev_ifneg (by first | omega | decide) ?_)
    | (refine Ev_ifneg (by simp only [bne_self_eq_false]; decide) ?_)
    | (refine Ev_ifpos (by simp) ?_)
    | (refine Ev_ifneg (by simp) ?_))
end Go.Proofs.Ytalehmhjddnmoaa.Pure
