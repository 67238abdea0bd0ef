/- The comparisons, of what is equal; Grow of the program and of the reference. Condition: lists with bounded lengths. -/
import Derived.Test.YtfjnpdgjigkbcaaPAllx10
import Derived.Test.YtfjnpdgjigkbcaaPAllx12
import Derived.Test.YtfjnpdgjigkbcaaPAllx13
import Derived.Test.YtfjnpdgjigkbcaaPAllx14
import Derived.Test.YtfjnpdgjigkbcaaPAllx15
import Derived.Test.YtfjnpdgjigkbcaaURight
import Derived.Test.YtfjnpdgjigkbcaaGOwn
import Derived.Test.YtfjnpdgjigkbcaaGCopied
namespace Go.Proofs.Ytfjnpdgjigkbcaa.Pure
open Go.RowKit Go.Proofs.Ytfjnpdgjigkbcaa.PAll Go.Proofs.YtfjnpdgjigkbcaaW.PrintWords Go.Proofs.YtfjnpdgjigkbcaaW.PrintLast Go.Proofs.YtfjnpdgjigkbcaaW.PrintMore
set_option linter.unusedVariables false
set_option linter.unusedSimpArgs false
theorem same_l0 (l : List Int) (hb : l.length < 4611686018427387904) : ∀ (d i : Nat), i + d = l.length → Ev (fun k => skiarearef50_Same.l0 k l l i) true := by
  intro d
  induction d with
  | zero =>
    intro i hi
    exact Ev.step (f := fun _ => some true) (fun k => by simp only [skiarearef50_Same.l0]; rw [if_neg (by omega)]) (Ev.now _)
  | succ d ih =>
    intro i hi
    have hlt : i < l.length := by omega
    refine Ev.step (f := fun k => skiarearef50_Same.l0 k l l ((i + 1 : Nat) : Int)) (fun k => by simp only [skiarearef50_Same.l0]; rw [if_pos (by omega), if_pos (by omega), if_pos (by omega), if_pos trivial, wr1 (by omega)]) (ih (i + 1) (by omega))
theorem same (l : List Int) (hb : l.length < 4611686018427387904) : Ev (fun k => skiarearef50_Same.f k l l) true := by
  have := same_l0 l hb l.length 0 (by omega)
  exact Ev.cg this (fun k => by simp only [skiarearef50_Same.f]; rw [if_pos trivial]; rfl)
theorem sameOne (x : S34) (h1 : x.f1.length < 4611686018427387904) (h2 : x.f2.length < 4611686018427387904) : Ev (fun k => skiarearef50_SameOne.f k x.f0 x.f1 x.f2 x.f3 x.f4 x.f5 x.f0 x.f1 x.f2 x.f3 x.f4 x.f5) true := by
  refine Ev.cg (f := fun k => (skiarearef50_Same.f k x.f1 x.f1).bind fun t => (if t = true then ((skiarearef50_Same.f k x.f2 x.f2).bind fun t => (some t)) else (none))) ?_ (fun k => by simp only [skiarearef50_SameOne.f]; rw [if_pos trivial, if_pos trivial, if_pos trivial, if_pos trivial])
  refine Ev.bind (same _ h1) ?_
  simp only [if_true]
  exact Ev.bind (f := fun _ t => some t) (same _ h2) (Ev.now _)
theorem sameSlides_l0 (l : List S34) (hs : Short l) (hb : l.length < 4611686018427387904) : ∀ (d i : Nat), i + d = l.length → Ev (fun k => skiarearef50_SameSlides.l0 k l l i) true := by
  intro d
  induction d with
  | zero =>
    intro i hi
    exact Ev.step (f := fun _ => some true) (fun k => by simp only [skiarearef50_SameSlides.l0]; rw [if_neg (by omega)]) (Ev.now _)
  | succ d ih =>
    intro i hi
    have hlt : i < l.length := by omega
    have hx := hs _ (List.getElem_mem hlt)
    refine Ev.step (f := fun k => (skiarearef50_SameOne.f k l[i].f0 l[i].f1 l[i].f2 l[i].f3 l[i].f4 l[i].f5 l[i].f0 l[i].f1 l[i].f2 l[i].f3 l[i].f4 l[i].f5).bind fun t => (if t = true then (skiarearef50_SameSlides.l0 k l l ((i + 1 : Nat) : Int)) else (none))) (fun k => by
      simp only [skiarearef50_SameSlides.l0]
      rw [if_pos (by omega), if_pos (by omega), if_pos (by omega), rdS_nat _ _ hlt, wr1 (by omega)]) ?_
    refine Ev.bind (sameOne _ hx.1 hx.2) ?_
    simp only [if_true]
    exact ih (i + 1) (by omega)
theorem sameSlides (l : List S34) (hs : Short l) (hb : l.length < 4611686018427387904) : Ev (fun k => skiarearef50_SameSlides.f k l l) true := by
  have := sameSlides_l0 l hs hb l.length 0 (by omega)
  exact Ev.cg this (fun k => by simp only [skiarearef50_SameSlides.f]; rw [if_pos trivial]; rfl)
end Go.Proofs.Ytfjnpdgjigkbcaa.Pure
