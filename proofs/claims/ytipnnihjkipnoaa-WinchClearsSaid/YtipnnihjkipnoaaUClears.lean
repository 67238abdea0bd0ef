/- WinchClears: Clear does not change what is swept at that time or later. -/
import Derived.Test.YtipnnihjkipnoaaPAllx20
import Derived.Test.YtipnnihjkipnoaaUOn
namespace Go.Proofs.Ytipnnihjkipnoaa.Pure
set_option linter.unusedVariables false
set_option linter.unusedSimpArgs false
open Go.RowKit Go.Proofs.Ytipnnihjkipnoaa.PAll Go.Proofs.YtipnnihjkipnoaaW.PrintWords Go.Proofs.YtipnnihjkipnoaaW.PrintLast Go.Proofs.YtipnnihjkipnoaaW.PrintMore
theorem filter_on (l : List S29) (t u : Int) (h : t ≤ u) : (l.filter (fun x => decide (x.f2 > t))).filter (onB u) = l.filter (onB u) := by
  rw [List.filter_filter]
  refine List.filter_congr (fun x _ => ?_)
  unfold onB
  by_cases h1 : u < x.f2
  · rw [decide_eq_true h1, decide_eq_true (show x.f2 > t by omega), Bool.and_true]
  · rw [decide_eq_false h1, Bool.and_false, Bool.false_and]
theorem WinchClears (l : List S29) (t u : Int) : ∃ k, skiarealaw46_WinchClears.f k l t u = some true := by
  refine Ev.rounds (Ev.cg (f := fun k => (skiarealaw46_alive.f k).bind fun t394 => (if t394 = true then ((skiarealaw46_right.f k l).bind fun t395 => (if t395 = true then (if u < t then (some true) else ((winch_Clear.f k l t).bind fun t396 => (skiarealaw46_WinchClears.l0 k l t u t396 0))) else (some true))) else (none))) ?_ (fun k => rfl))
  refine Ev.bind alive ?_
  simp only [if_true]
  refine Ev.bind (right l) ?_
  cases h : okB l with
  | false => exact Ev.now _
  | true =>
    simp only [if_true]
    have ht := few_tiny (ok_parts h).1
    have hr := (rightC_zero l).1 (ok_parts h).2
    by_cases c1 : u < t
    · simp only [if_pos c1]; exact Ev.now _
    simp only [if_neg c1]
    refine Ev.bind (clear l t ht) ?_
    have htx : Tiny (l.filter (fun x => decide (x.f2 > t))) := ⟨by have := List.length_filter_le (fun x : S29 => decide (x.f2 > t)) l; have := ht.1; omega, fun x hx => ht.2 x (List.mem_filter.1 hx).1⟩
    have hrx := right_filter hr (fun x => decide (x.f2 > t))
    have hx2 : ∀ x ∈ l.filter (fun x => decide (x.f2 > t)), t < x.f2 := fun x hx => by simpa using (List.mem_filter.1 hx).2
    have e1 := filter_on l t t (Int.le_refl _)
    have e2 := filter_on l t u (by omega)
    have e3 : (l.filter (fun x => decide (x.f2 > t))).filter (fun x => decide (x.f2 > u)) = l.filter (fun x => decide (x.f2 > u)) := by
      rw [List.filter_filter]
      refine List.filter_congr (fun x _ => ?_)
      by_cases h1 : x.f2 > u
      · rw [decide_eq_true h1, decide_eq_true (show x.f2 > t by omega)]; rfl
      · rw [decide_eq_false h1, Bool.false_and]
    obtain ⟨y, hy⟩ : ∃ y, y = l.filter (fun x => decide (x.f2 > t)) := ⟨_, rfl⟩
    rw [← hy] at htx hrx hx2 e1 e2 e3 ⊢
    have fin : Ev (fun k => (winch_Right.f k y).bind fun t400 => (if t400 = 0 then ((winch_Swept.f y t).bind fun t401 => ((winch_Swept.f l t).bind fun t404 => ((skiarearef46_SameInts.f k t401 t404).bind fun t407 => (if t407 = true then ((winch_Swept.f y u).bind fun t408 => ((winch_Swept.f l u).bind fun t411 => ((skiarearef46_SameInts.f k t408 t411).bind fun t414 => (if t414 = true then ((winch_Clear.f k y u).bind fun t415 => ((winch_Clear.f k l u).bind fun t418 => ((skiarearef46_Same.f k t415 t418).bind fun t421 => (some t421)))) else (none))))) else (none))))) else (none))) true := by
      refine Ev.bind (rightW y (tiny_small htx)) ?_
      rw [(rightC_zero y).2 hrx]
      simp only [if_true]
      rw [swept_eq hrx htx t, swept_eq hr ht t, swept_eq hrx htx u, swept_eq hr ht u, e1, e2]
      refine Ev.bind (Ev.now _) (Ev.bind (Ev.now _) (Ev.bind (sameInts _ (swept_small ht t)) ?_))
      simp only [if_true]
      refine Ev.bind (Ev.now _) (Ev.bind (Ev.now _) (Ev.bind (sameInts _ (swept_small ht u)) ?_))
      simp only [if_true]
      have hc := clear y u htx
      rw [e3] at hc
      refine Ev.bind hc (Ev.bind (clear l u ht) (Ev.bind (f := fun _ t => some t) (same _ (fun x hx => tiny_small ht x (List.mem_filter.1 hx).1) ?_) (Ev.now _)))
      have := List.length_filter_le (fun x : S29 => decide (x.f2 > u)) l
      have := ht.1
      omega
    have loop : ∀ (d i : Nat), i + d = y.length → Ev (fun k => skiarealaw46_WinchClears.l0 k l t u y i) true := by
      intro d
      induction d with
      | zero =>
        intro i hi
        exact Ev.step (fun k => by simp only [skiarealaw46_WinchClears.l0]; rw [if_neg (by omega)]) fin
      | succ d ih =>
        intro i hi
        have hlt : i < y.length := by omega
        have h2 := hx2 _ (List.getElem_mem hlt)
        exact Ev.step (f := fun k => skiarealaw46_WinchClears.l0 k l t u y ((i + 1 : Nat) : Int)) (fun k => by
          simp only [skiarealaw46_WinchClears.l0]
          rw [if_pos (by omega), if_pos (by omega), rdS_nat _ _ hlt, if_neg (by omega), wr1 (by have := htx.1; omega)]) (ih (i + 1) (by omega))
    exact loop y.length 0 (by omega)
end Go.Proofs.Ytipnnihjkipnoaa.Pure
