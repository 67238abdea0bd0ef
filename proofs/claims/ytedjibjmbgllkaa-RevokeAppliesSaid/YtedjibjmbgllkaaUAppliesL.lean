/- RevokeApplies: a revision leads from one version to the other one, and from no other version. No condition. -/
import Derived.Test.YtedjibjmbgllkaaPAllx19
import Derived.Test.YtedjibjmbgllkaaUChange
import Derived.Test.YtedjibjmbgllkaaGAlive
namespace Go.Proofs.Ytedjibjmbgllkaa.Pure
open Go.RowKit Go.Proofs.Ytedjibjmbgllkaa.PAll Go.Proofs.YtedjibjmbgllkaaW.PrintWords Go.Proofs.YtedjibjmbgllkaaW.PrintLast Go.Proofs.YtedjibjmbgllkaaW.PrintMore
set_option linter.unusedVariables false
set_option linter.unusedSimpArgs false
theorem applies_end (va : Int) (a : List Int) (vb : Int) (b : List Int) (hr : rightC vb b = 0) (x : Int × List Int × Int) (hx : x = applyS va a va vb (minusS b a) (minusS a b)) :
    Ev (fun k => (if vb < va then (if x.2.2 = 11 then ((skiarearef27_Same.f k x.1 x.2.1 0 ([] : List Int)).bind fun t357 => (some t357)) else (none)) else (if x.2.2 = 0 then ((skiarearef27_Same.f k x.1 x.2.1 vb b).bind fun t358 => (some t358)) else (none)))) true := by
  have hb := ((right_zero vb b).1 hr).2.1
  rw [apply_diff va a vb b hr] at hx
  subst hx
  by_cases c : vb < va
  · simp only [if_pos c, if_true]
    exact Ev.bind (f := fun _ b => some b) (sameV 0 [] (by simp)) (Ev.now _)
  · simp only [if_neg c, if_true]
    exact Ev.bind (f := fun _ b => some b) (sameV vb b (by omega)) (Ev.now _)
theorem RevokeApplies (va : Int) (a : List Int) (vb : Int) (b : List Int) (vo : Int) (o : List Int) : ∃ k, skiarealaw27_RevokeApplies.f k va a vb b vo o = some true := by
  refine Ev.rounds (Ev.cg (f := fun k => ((skiarealaw27_right.f k va a).bind fun t333 => (if t333 = true then ((skiarealaw27_right.f k vb b).bind fun t334 => (if t334 = true then ((skiarealaw27_right.f k vo o).bind fun t335 => (if t335 = true then ((revoke_Diff.f k va a vb b).bind fun bt336 => ((revoke_Apply.f k va a bt336.1 bt336.2.1 bt336.2.2.1 bt336.2.2.2).bind fun bt345 => ((revoke_Apply.f k vo o bt336.1 bt336.2.1 bt336.2.2.1 bt336.2.2.2).bind fun bt351 => (if vo = va then (if vb < va then (if bt345.2.2 = 11 then ((skiarearef27_Same.f k bt345.1 bt345.2.1 0 ([] : List Int)).bind fun t357 => (some t357)) else (none)) else (if bt345.2.2 = 0 then ((skiarearef27_Same.f k bt345.1 bt345.2.1 vb b).bind fun t358 => (some t358)) else (none))) else (if bt351.2.2 = 14 then ((skiarearef27_Same.f k bt351.1 bt351.2.1 0 ([] : List Int)).bind fun t359 => (if t359 = true then (if vb < va then (if bt345.2.2 = 11 then ((skiarearef27_Same.f k bt345.1 bt345.2.1 0 ([] : List Int)).bind fun t360 => (some t360)) else (none)) else (if bt345.2.2 = 0 then ((skiarearef27_Same.f k bt345.1 bt345.2.1 vb b).bind fun t361 => (some t361)) else (none))) else (none))) else (none)))))) else (some true))) else (some true))) else (some true)))) ?_ (fun k => rfl))
  refine Ev.bind (lawRight va a) ?_
  cases h1 : okB va a with
  | false => exact Ev.now _
  | true =>
    have hr1 := (right_zero va a).1 (of_decide_eq_true h1)
    simp only [if_true]
    refine Ev.bind (lawRight vb b) ?_
    cases h2 : okB vb b with
    | false => exact Ev.now _
    | true =>
      have hrb : rightC vb b = 0 := of_decide_eq_true h2
      have hr2 := (right_zero vb b).1 hrb
      simp only [if_true]
      refine Ev.bind (lawRight vo o) ?_
      cases h3 : okB vo o with
      | false => exact Ev.now _
      | true =>
        have hr3 := (right_zero vo o).1 (of_decide_eq_true h3)
        simp only [if_true]
        have hm1 := minus_len b a
        have hm2 := minus_len a b
        refine Ev.bind (diffW va a vb b (by omega) (by omega)) ?_
        refine Ev.bind (applyW va a va vb (minusS b a) (minusS a b) hr1.2.2.2 (by omega) (by omega) (by omega)) ?_
        refine Ev.bind (applyW vo o va vb (minusS b a) (minusS a b) hr3.2.2.2 (by omega) (by omega) (by omega)) ?_
        by_cases c : vo = va
        · simp only [if_pos c]
          exact applies_end va a vb b hrb _ rfl
        · simp only [if_neg c]
          have e : applyS vo o va vb (minusS b a) (minusS a b) = (0, [], 14) := by unfold applyS; rw [if_neg (fun h => c h.symm)]
          rw [e]
          simp only [if_true]
          refine Ev.bind (sameV 0 [] (by simp)) ?_
          simp only [if_true]
          exact applies_end va a vb b hrb _ rfl
end Go.Proofs.Ytedjibjmbgllkaa.Pure
