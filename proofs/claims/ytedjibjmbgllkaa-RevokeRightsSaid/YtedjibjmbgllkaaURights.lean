/- RevokeRights: Right and Has answer as specified. No condition. -/
import Derived.Test.YtedjibjmbgllkaaPAllx7
import Derived.Test.YtedjibjmbgllkaaUBase
import Derived.Test.YtedjibjmbgllkaaGAlive
namespace Go.Proofs.Ytedjibjmbgllkaa.Pure
open Go.RowKit Go.Proofs.Ytedjibjmbgllkaa.PAll Go.Proofs.YtedjibjmbgllkaaW.PrintWords Go.Proofs.YtedjibjmbgllkaaW.PrintLast Go.Proofs.YtedjibjmbgllkaaW.PrintMore
set_option linter.unusedVariables false
set_option linter.unusedSimpArgs false
theorem RevokeRights (v : Int) (l : List Int) (t : Int) : ∃ k, skiarealaw27_RevokeRights.f k v l t = some true := by
  refine Ev.rounds (Ev.cg (f := fun k => (if (l.length : Int) > 300 then (some true) else ((revoke_Right.f k v l).bind fun t133 => ((skiarearef27_Right.f k v l).bind fun t134 => (if t133 = t134 then ((skiarealaw27_right.f k v l).bind fun t135 => (if t135 = true then ((revoke_Has.f k v l t).bind fun t136 => ((skiarearef27_Has.f k v l t).bind fun t137 => (some (t136 == t137)))) else (some true))) else (none)))))) ?_ (fun k => rfl))
  by_cases c : (l.length : Int) > 300
  · simp only [if_pos c]; exact Ev.now _
  · simp only [if_neg c]
    refine Ev.bind (rightW v l (by omega)) (Ev.bind (rightR v l (by omega)) ?_)
    simp only [if_true]
    refine Ev.bind (lawRight v l) ?_
    cases h : okB v l with
    | false => exact Ev.now _
    | true =>
      have hr := (right_zero v l).1 (of_decide_eq_true h)
      simp only [if_true]
      exact Ev.bind (hasW v l t hr.2.2.2 (by omega)) (Ev.bind (f := fun _ b => some (decide (t ∈ l) == b)) (hasR v l t (by omega)) (ev_some (by simp)))
end Go.Proofs.Ytedjibjmbgllkaa.Pure
