/- WinchLays: Lay answers as the reference does. -/
import Derived.Test.YtipnnihjkipnoaaPAllx10
import Derived.Test.YtipnnihjkipnoaaPAllx11
import Derived.Test.YtipnnihjkipnoaaUMore
namespace Go.Proofs.Ytipnnihjkipnoaa.Pure
set_option linter.unusedVariables false
set_option linter.unusedSimpArgs false
open Go.RowKit Go.Proofs.Ytipnnihjkipnoaa.PAll Go.Proofs.YtipnnihjkipnoaaW.PrintWords Go.Proofs.YtipnnihjkipnoaaW.PrintLast Go.Proofs.YtipnnihjkipnoaaW.PrintMore
theorem layR (l : List S29) (w : S29) (ht : Tiny l) (hw : w.f3.length ≤ 1000) : Ev (fun k => skiarearef46_Lay.f k l w.f0 w.f1 w.f2 w.f3) (layS l w) := by
  have hs : Small (l ++ [w]) := fun x hx => by
    rcases List.mem_append.1 hx with h | h
    · have := ht.2 x h; omega
    · obtain rfl := List.mem_singleton.1 h; omega
  refine Ev.cg (f := fun k => (skiarearef46_Right.f k (l ++ [w])).bind fun t => (if t = 0 then (some (l ++ [w], (0 : Int))) else (some (([] : List (S29)), t)))) ?_ (fun k => by
    unfold skiarearef46_Lay.f
    rw [if_pos (by have := ht.1; simp; omega)]
    simp only [List.nil_append, Option.bind_some]
    rw [if_pos (by have := ht.1; omega)])
  refine Ev.bind (rightR _ hs) ?_
  unfold layS
  by_cases h : rightC (l ++ [w]) = 0
  · simp only [h, if_true]
    exact Ev.now _
  · simp only [if_neg h]
    exact Ev.now _
theorem WinchLays (l : List S29) (w : S29) : ∃ k, skiarealaw46_WinchLays.f k l w.f0 w.f1 w.f2 w.f3 = some true := by
  refine Ev.rounds (Ev.cg (f := fun k => (skiarealaw46_alive.f k).bind fun t => (if t = true then ((skiarealaw46_right.f k l).bind fun t => (if t = true then (if (w.f3.length : Int) > 100 then (some true) else ((winch_Lay.f k l w.f0 w.f1 w.f2 w.f3).bind fun a => ((skiarearef46_Lay.f k l w.f0 w.f1 w.f2 w.f3).bind fun b => ((skiarearef46_Same.f k a.1 b.1).bind fun t => (if t = true then (some (a.2 == b.2)) else (none)))))) else (some true))) else none)) ?_ (fun k => rfl))
  refine Ev.bind alive ?_
  simp only [if_true]
  refine Ev.bind (right l) ?_
  cases h : okB l with
  | false => exact Ev.now _
  | true =>
    simp only [if_true]
    have ht := few_tiny (ok_parts h).1
    by_cases hw : (w.f3.length : Int) > 100
    · simp only [if_pos hw]
      exact Ev.now _
    · simp only [if_neg hw]
      refine Ev.bind (lay l w ht (by omega)) (Ev.bind (layR l w ht (by omega)) ?_)
      have hs : Small (layS l w).1 := by
        unfold layS
        split
        · intro x hx
          rcases List.mem_append.1 hx with h | h
          · have := ht.2 x h; omega
          · obtain rfl := List.mem_singleton.1 h; omega
        · intro x hx; simp at hx
      have hl : (layS l w).1.length < 4611686018427387904 := by
        unfold layS
        have := ht.1
        split <;> simp <;> omega
      refine Ev.bind (same _ hs hl) ?_
      simp only [if_true]
      exact ev_some (by simp)
end Go.Proofs.Ytipnnihjkipnoaa.Pure
