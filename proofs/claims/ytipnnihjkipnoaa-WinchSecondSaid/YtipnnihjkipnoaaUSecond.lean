/- WinchSecond: a run is swept at a time exactly if it is not free in the second that begins then. -/
import Derived.Test.YtipnnihjkipnoaaPAllx19
import Derived.Test.YtipnnihjkipnoaaUOn
namespace Go.Proofs.Ytipnnihjkipnoaa.Pure
set_option linter.unusedVariables false
set_option linter.unusedSimpArgs false
open Go.RowKit Go.Proofs.Ytipnnihjkipnoaa.PAll Go.Proofs.YtipnnihjkipnoaaW.PrintWords Go.Proofs.YtipnnihjkipnoaaW.PrintLast Go.Proofs.YtipnnihjkipnoaaW.PrintMore
theorem WinchSecond (l : List S29) (run a b c : Int) : ∃ k, skiarealaw46_WinchSecond.f k l run a b c = some true := by
  refine Ev.rounds (Ev.cg (f := fun k => (skiarealaw46_alive.f k).bind fun t382 => (if t382 = true then ((skiarealaw46_right.f k l).bind fun t383 => (if t383 = true then (if a < (-1) then (some true) else (if a > 20000001 then (some true) else (if b < a then (some true) else (if c < b then (some true) else ((winch_Swept.f l a).bind fun t384 => ((skiarealaw46_has.f k t384 run).bind fun t387 => ((winch_Free.f k l run a (wrap64 (a + 1))).bind fun t388 => (if (t387 == t388) = true then (none) else ((winch_Free.f k l run a c).bind fun t389 => ((winch_Free.f k l run a b).bind fun t390 => ((winch_Free.f k l run b c).bind fun t391 => (if t390 = true then (if (t389 == t391) = true then ((winch_Free.f k l run b a).bind fun t392 => (some t392)) else (none)) else (if (t389 == false) = true then ((winch_Free.f k l run b a).bind fun t393 => (some t393)) else (none)))))))))))))) else (some true))) else (none))) ?_ (fun k => rfl))
  refine Ev.bind alive ?_
  simp only [if_true]
  refine Ev.bind (right l) ?_
  cases h : okB l with
  | false => exact Ev.now _
  | true =>
    simp only [if_true]
    have ht := few_tiny (ok_parts h).1
    have hr := (rightC_zero l).1 (ok_parts h).2
    by_cases c1 : a < -1
    · simp only [if_pos c1]; exact Ev.now _
    by_cases c2 : a > 20000001
    · simp only [if_neg c1, if_pos c2]; exact Ev.now _
    by_cases c3 : b < a
    · simp only [if_neg c1, if_neg c2, if_pos c3]; exact Ev.now _
    by_cases c4 : c < b
    · simp only [if_neg c1, if_neg c2, if_neg c3, if_pos c4]; exact Ev.now _
    simp only [if_neg c1, if_neg c2, if_neg c3, if_neg c4]
    rw [swept_eq hr ht, show wrap64 (a + 1) = a + 1 from by unfold wrap64; omega]
    refine Ev.bind (Ev.now _) (Ev.bind (hasL _ run (swept_small ht a)) (Ev.bind (free l run a (a + 1) ht) ?_))
    rw [swept_not_free hr run a]
    have hne : ((!freeB l run a (a + 1)) == l.all (fun x => !busyB run a (a + 1) x)) = false := by
      show ((!freeB l run a (a + 1)) == freeB l run a (a + 1)) = false
      cases freeB l run a (a + 1) <;> rfl
    rw [hne]
    simp only [if_neg (show ¬ (false = true) by decide)]
    refine Ev.bind (free l run a c ht) (Ev.bind (free l run a b ht) (Ev.bind (free l run b c ht) ?_))
    have hs : freeB l run a c = (freeB l run a b && freeB l run b c) := free_split hr run a b c (by omega) (by omega)
    have hn : freeB l run b a = true := free_none l run b a (by omega)
    have hf := free l run b a ht
    have e1 : l.all (fun x => !busyB run a c x) = freeB l run a c := rfl
    have e2 : l.all (fun x => !busyB run a b x) = freeB l run a b := rfl
    have e3 : l.all (fun x => !busyB run b c x) = freeB l run b c := rfl
    rw [show l.all (fun x => !busyB run b a x) = true from hn] at hf
    rw [e1, e2, e3, hs]
    cases freeB l run a b with
    | true =>
      simp only [if_true, Bool.true_and, beq_self_eq_true]
      exact Ev.bind (f := fun _ t => some t) hf (Ev.now _)
    | false =>
      simp only [Bool.false_and, if_neg (show ¬ (false = true) by decide), beq_self_eq_true, if_true]
      exact Ev.bind (f := fun _ t => some t) hf (Ev.now _)
end Go.Proofs.Ytipnnihjkipnoaa.Pure
