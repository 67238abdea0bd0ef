/- AvalancheLoads: Grow answers as specified. No condition. -/
import Derived.Test.YtfjnpdgjigkbcaaPAllx16
import Derived.Test.YtfjnpdgjigkbcaaUGrow
import Derived.Test.YtfjnpdgjigkbcaaGAlive
namespace Go.Proofs.Ytfjnpdgjigkbcaa.Pure
open Go.RowKit Go.Proofs.Ytfjnpdgjigkbcaa.PAll Go.Proofs.YtfjnpdgjigkbcaaW.PrintWords Go.Proofs.YtfjnpdgjigkbcaaW.PrintLast Go.Proofs.YtfjnpdgjigkbcaaW.PrintMore
set_option linter.unusedVariables false
set_option linter.unusedSimpArgs false
theorem grown_short {l : List S34} (hs : Short l) (fresh gust : Int) : Short (growS l fresh gust).1 := by
  unfold growS
  split
  · intro x hx
    obtain ⟨y, hy, rfl⟩ := List.mem_map.1 hx
    exact hs y hy
  · intro x hx; simp at hx
theorem grown_len (l : List S34) (fresh gust : Int) : (growS l fresh gust).1.length ≤ l.length := by
  unfold growS
  split <;> simp
theorem AvalancheLoads (l : List S34) (fresh gust : Int) : ∃ k, skiarealaw50_AvalancheLoads.f k l fresh gust = some true := by
  refine Ev.rounds (Ev.cg (f := fun k => (skiarealaw50_accepted.f k l).bind fun t158 => (if t158 = true then ((avalanche_Grow.f k l fresh gust).bind fun bt159 => ((skiarearef50_Grow.f k l fresh gust).bind fun bt163 => ((skiarearef50_SameSlides.f k bt159.1 bt163.1).bind fun t167 => (if t167 = true then (some (bt159.2 == bt163.2)) else (none))))) else (some true))) ?_ (fun k => rfl))
  refine Ev.bind (accepted l) ?_
  cases h : okB l with
  | false => exact Ev.now _
  | true =>
    simp only [if_true]
    obtain ⟨hs, hr⟩ := ok_parts h
    refine Ev.bind (growW l fresh gust hr hs) (Ev.bind (growR l fresh gust hr hs) ?_)
    refine Ev.bind (sameSlides _ (grown_short (small_short hs) fresh gust) (by have := grown_len l fresh gust; have := hr.1; omega)) ?_
    simp only [if_true]
    exact ev_some (by simp)
end Go.Proofs.Ytfjnpdgjigkbcaa.Pure
