/- WinchRights: Right answers as the reference does. -/
import Derived.Test.YtipnnihjkipnoaaPAllx8
import Derived.Test.YtipnnihjkipnoaaUMore
namespace Go.Proofs.Ytipnnihjkipnoaa.Pure
set_option linter.unusedVariables false
set_option linter.unusedSimpArgs false
open Go.RowKit Go.Proofs.Ytipnnihjkipnoaa.PAll Go.Proofs.YtipnnihjkipnoaaW.PrintWords Go.Proofs.YtipnnihjkipnoaaW.PrintLast Go.Proofs.YtipnnihjkipnoaaW.PrintMore
theorem WinchRights (l : List S29) : ∃ k, skiarealaw46_WinchRights.f k l = some true := by
  refine Ev.rounds (Ev.cg (f := fun k => (skiarealaw46_alive.f k).bind fun t => (if t = true then ((skiarealaw46_few.f k l).bind fun t => (if t = true then ((winch_Right.f k l).bind fun a => ((skiarearef46_Right.f k l).bind fun b => (some (a == b)))) else (some true))) else none)) ?_ (fun k => rfl))
  refine Ev.bind alive ?_
  simp only [if_true]
  refine Ev.bind (few l) ?_
  cases h : fewB l with
  | false => exact Ev.now _
  | true =>
    simp only [if_true]
    refine Ev.bind (rightW l (few_small h)) (Ev.bind (f := fun _ b => some (rightC l == b)) (rightR l (few_small h)) (ev_some ?_))
    simp
end Go.Proofs.Ytipnnihjkipnoaa.Pure
