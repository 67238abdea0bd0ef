/- AvalancheRight: Right answers as specified. -/
import Derived.Test.YtfjnpdgjigkbcaaPAllx8
import Derived.Test.YtfjnpdgjigkbcaaURight
import Derived.Test.YtfjnpdgjigkbcaaGAlive
namespace Go.Proofs.Ytfjnpdgjigkbcaa.Pure
open Go.RowKit Go.Proofs.Ytfjnpdgjigkbcaa.PAll Go.Proofs.YtfjnpdgjigkbcaaW.PrintWords Go.Proofs.YtfjnpdgjigkbcaaW.PrintLast Go.Proofs.YtfjnpdgjigkbcaaW.PrintMore
set_option linter.unusedVariables false
set_option linter.unusedSimpArgs false
theorem AvalancheRight (l : List S34) : ∃ k, skiarealaw50_AvalancheRight.f k l = some true := by
  refine Ev.rounds (Ev.cg (f := fun k => (skiarealaw50_small.f k l).bind fun t129 => (if t129 = true then ((avalanche_Right.f k l).bind fun t130 => ((skiarearef50_Right.f k l).bind fun t131 => (some (t130 == t131)))) else (some true))) ?_ (fun k => rfl))
  refine Ev.bind (small l) ?_
  cases h : smallB l with
  | false => exact Ev.now _
  | true =>
    simp only [if_true]
    have hs := small_short h
    have h1 := (small_all h).1
    refine Ev.bind (rightW l hs (by omega)) (Ev.bind (f := fun _ t => some (rightC l == t)) (rightR l hs (by omega)) (ev_some ?_))
    simp
end Go.Proofs.Ytfjnpdgjigkbcaa.Pure
