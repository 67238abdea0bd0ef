/- WinchFrees: Free answers as the reference does. -/
import Derived.Test.YtipnnihjkipnoaaPAllx15
import Derived.Test.YtipnnihjkipnoaaPAllx16
import Derived.Test.YtipnnihjkipnoaaUMore
namespace Go.Proofs.Ytipnnihjkipnoaa.Pure
set_option linter.unusedVariables false
set_option linter.unusedSimpArgs false
open Go.RowKit Go.Proofs.Ytipnnihjkipnoaa.PAll Go.Proofs.YtipnnihjkipnoaaW.PrintWords Go.Proofs.YtipnnihjkipnoaaW.PrintLast Go.Proofs.YtipnnihjkipnoaaW.PrintMore
theorem freeR_l0 (l : List S29) (run a b : Int) (ht : Tiny l) : ∀ (d i : Nat), i + d = l.length → Ev (fun k => skiarearef46_Free.l0 k l run i a b) ((l.drop i).all (fun x => !busyB run a b x)) := by
  intro d
  induction d with
  | zero =>
    intro i hi
    refine Ev.step (f := fun _ => some true) (fun k => by simp only [skiarearef46_Free.l0]; rw [if_neg (by omega)]) (ev_some ?_)
    rw [List.drop_of_length_le (by omega)]; rfl
  | succ d ih =>
    intro i hi
    have hlt : i < l.length := by omega
    have hl := ht.1
    rw [List.drop_eq_getElem_cons hlt, List.all_cons]
    have h1 := ih (i + 1) (by omega)
    refine Ev.step (f := fun k => (skiarearef46_has.f k l[i].f3 run).bind fun t => (if t = true then (if (mx l[i].f1 a) < (mn l[i].f2 b) then (some false) else (skiarearef46_Free.l0 k l run ((i + 1 : Nat) : Int) a b)) else (skiarearef46_Free.l0 k l run ((i + 1 : Nat) : Int) a b))) (fun k => by
      simp only [skiarearef46_Free.l0]
      rw [if_pos (by omega), if_pos (by omega), rdS_nat _ _ hlt, wr1 (by omega)]) ?_
    refine Ev.bind (hasR _ _ (by have := ht.2 _ (List.getElem_mem hlt); omega)) ?_
    unfold busyB
    by_cases hc : run ∈ l[i].f3
    · simp only [hc, decide_true, if_true, Bool.and_true]
      by_cases h : mx l[i].f1 a < mn l[i].f2 b
      · simp only [if_pos h, decide_eq_true h]
        exact Ev.now _
      · simp only [if_neg h, decide_eq_false h]
        exact h1
    · simp only [hc, decide_false, Bool.and_false]
      exact h1
theorem WinchFrees (l : List S29) (run a b : Int) : ∃ k, skiarealaw46_WinchFrees.f k l run a b = some true := by
  refine Ev.rounds (Ev.cg (f := fun k => (skiarealaw46_alive.f k).bind fun t => (if t = true then ((skiarealaw46_right.f k l).bind fun t => (if t = true then ((winch_Free.f k l run a b).bind fun x => ((skiarearef46_Free.f k l run a b).bind fun y => (some (x == y)))) else (some true))) else none)) ?_ (fun k => rfl))
  refine Ev.bind alive ?_
  simp only [if_true]
  refine Ev.bind (right l) ?_
  cases h : okB l with
  | false => exact Ev.now _
  | true =>
    simp only [if_true]
    have ht := few_tiny (ok_parts h).1
    have hr := freeR_l0 l run a b ht l.length 0 (by omega)
    rw [List.drop_zero] at hr
    refine Ev.bind (free l run a b ht) (Ev.bind (f := fun _ y => some ((l.all (fun x => !busyB run a b x)) == y)) (Ev.cg hr (fun k => rfl)) (ev_some (by simp)))
end Go.Proofs.Ytipnnihjkipnoaa.Pure
