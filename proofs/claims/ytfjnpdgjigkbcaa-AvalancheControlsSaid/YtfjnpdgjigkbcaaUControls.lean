/- AvalancheControls: Control answers as specified. No condition. -/
import Derived.Test.YtfjnpdgjigkbcaaPAllx19
import Derived.Test.YtfjnpdgjigkbcaaUControl
import Derived.Test.YtfjnpdgjigkbcaaGAlive
namespace Go.Proofs.Ytfjnpdgjigkbcaa.Pure
open Go.RowKit Go.Proofs.Ytfjnpdgjigkbcaa.PAll Go.Proofs.YtfjnpdgjigkbcaaW.PrintWords Go.Proofs.YtfjnpdgjigkbcaaW.PrintLast Go.Proofs.YtfjnpdgjigkbcaaW.PrintMore
set_option linter.unusedVariables false
set_option linter.unusedSimpArgs false
theorem AvalancheControls (l : List S34) (id t : Int) : ∃ k, skiarealaw50_AvalancheControls.f k l id t = some true := by
  refine Ev.rounds (Ev.cg (f := fun k => (skiarealaw50_accepted.f k l).bind fun t183 => (if t183 = true then ((avalanche_Control.f l id t).bind fun bt184 => ((skiarearef50_Control.f k l id t).bind fun bt188 => ((skiarearef50_SameSlides.f k bt184.1 bt188.1).bind fun t192 => (if t192 = true then (some (bt184.2 == bt188.2)) else (none))))) else (some true))) ?_ (fun k => rfl))
  refine Ev.bind (accepted l) ?_
  cases h : okB l with
  | false => exact Ev.now _
  | true =>
    simp only [if_true]
    obtain ⟨hs, hr⟩ := ok_parts h
    rw [controlW l id t hs]
    refine Ev.bind (Ev.now _) (Ev.bind (controlR l id t hs) ?_)
    refine Ev.bind (sameSlides _ (ctrl_short (small_short hs) id t) (by have := ctrl_len l id t; have := hr.1; omega)) ?_
    simp only [if_true]
    exact ev_some (by simp)
end Go.Proofs.Ytfjnpdgjigkbcaa.Pure
