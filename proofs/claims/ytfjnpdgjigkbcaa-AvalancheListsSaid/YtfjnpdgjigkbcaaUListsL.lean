/- AvalancheLists: Level, Unstable, Zones and Lifts answer as specified. No condition. -/
import Derived.Test.YtfjnpdgjigkbcaaPAllx30
import Derived.Test.YtfjnpdgjigkbcaaULists
import Derived.Test.YtfjnpdgjigkbcaaGAlive
namespace Go.Proofs.Ytfjnpdgjigkbcaa.Pure
open Go.RowKit Go.Proofs.Ytfjnpdgjigkbcaa.PAll Go.Proofs.YtfjnpdgjigkbcaaW.PrintWords Go.Proofs.YtfjnpdgjigkbcaaW.PrintLast Go.Proofs.YtfjnpdgjigkbcaaW.PrintMore
set_option linter.unusedVariables false
set_option linter.unusedSimpArgs false
theorem zones_eq {l : List S34} (hf : FineL l) {lv : List Int} (hl : lv.length ≤ 100000) : avalanche_Zones.f l lv = some (Help.sset (threatB true l lv)) := by
  unfold avalanche_Zones.f
  rw [if_pos (fine_all hf hl)]
theorem lifts_eq {l : List S34} (hf : FineL l) {lv : List Int} (hl : lv.length ≤ 100000) : avalanche_Lifts.f l lv = some (Help.sset (threatB false l lv)) := by
  unfold avalanche_Lifts.f
  rw [if_pos (fine_all hf hl)]
theorem thr_all (b : Bool) (l : List S34) (lv : List Int) (hf : FineL l) : (Help.sset (threatB b l lv)).length < 4611686018427387904 := by
  have := thr_bound b l lv hf l.length
  rw [List.take_length] at this
  omega
theorem lists_l0 (l : List S34) (lv : List Int) (hf : FineL l) (hl : lv.length ≤ 100) : ∀ (d i : Nat), i + d = l.length → Ev (fun k => skiarealaw50_AvalancheLists.l0 k l lv i) true := by
  intro d
  have hl0 := hf.1
  induction d with
  | zero =>
    intro i hi
    refine Ev.step (f := fun k => ((avalanche_Zones.f l lv).bind fun t245 => ((skiarearef50_Zones.f k l lv).bind fun t248 => ((skiarearef50_Same.f k t245 t248).bind fun t251 => (if t251 = true then ((avalanche_Lifts.f l lv).bind fun t252 => ((skiarearef50_Lifts.f k l lv).bind fun t255 => ((skiarearef50_Same.f k t252 t255).bind fun t258 => (some t258)))) else (none)))))) (fun k => by simp only [skiarealaw50_AvalancheLists.l0]; rw [if_neg (by omega)]) ?_
    rw [zones_eq hf (by omega), lifts_eq hf (by omega)]
    refine Ev.bind (Ev.now _) (Ev.bind (zonesR l lv hf (by omega)) (Ev.bind (same _ (thr_all true l lv hf)) ?_))
    simp only [if_true]
    exact Ev.bind (Ev.now _) (Ev.bind (liftsR l lv hf (by omega)) (Ev.bind (f := fun _ t => some t) (same _ (thr_all false l lv hf)) (Ev.now _)))
  | succ d ih =>
    intro i hi
    have hlt : i < l.length := by omega
    have hx := hf.2 _ (List.getElem_mem hlt)
    refine Ev.step (f := fun k => ((avalanche_Level.f k l[i].f0 l[i].f1 l[i].f2 l[i].f3 l[i].f4 l[i].f5 lv).bind fun t238 => ((skiarearef50_Level.f k l[i].f0 l[i].f1 l[i].f2 l[i].f3 l[i].f4 l[i].f5 lv).bind fun t240 => (if t238 = t240 then ((avalanche_Unstable.f k l[i].f0 l[i].f1 l[i].f2 l[i].f3 l[i].f4 l[i].f5 lv).bind fun t242 => ((skiarearef50_Unstable.f k l[i].f0 l[i].f1 l[i].f2 l[i].f3 l[i].f4 l[i].f5 lv).bind fun t244 => (if (t242 != t244) = true then (none) else (skiarealaw50_AvalancheLists.l0 k l lv ((i + 1 : Nat) : Int))))) else (none))))) (fun k => by simp only [skiarealaw50_AvalancheLists.l0]; rw [if_pos (by omega), if_pos (by omega), rdS_nat _ _ hlt, wr1 (by omega)]) ?_
    refine Ev.bind (level _ lv hx.1 (by omega)) (Ev.bind (levelR _ lv hx.1 (by omega)) ?_)
    simp only [if_true]
    refine Ev.bind (unstable _ lv hx.1 (by omega)) (Ev.bind (unstableR _ lv hx.1 (by omega) hx.2) ?_)
    simp only [bne_self_eq_false, if_neg (show ¬ (false = true) by decide)]
    exact ih (i + 1) (by omega)
theorem AvalancheLists (l : List S34) (lv : List Int) : ∃ k, skiarealaw50_AvalancheLists.f k l lv = some true := by
  refine Ev.rounds (Ev.cg (f := fun k => (skiarealaw50_accepted.f k l).bind fun t236 => (if t236 = true then (if (lv.length : Int) > 100 then (some true) else (skiarealaw50_AvalancheLists.l0 k l lv 0)) else (some true))) ?_ (fun k => rfl))
  refine Ev.bind (accepted l) ?_
  cases h : okB l with
  | false => exact Ev.now _
  | true =>
    simp only [if_true]
    obtain ⟨hs, hr⟩ := ok_parts h
    by_cases c : (lv.length : Int) > 100
    · simp only [if_pos c]; exact Ev.now _
    · simp only [if_neg c]
      exact lists_l0 l lv (fine_of hs hr) (by omega) l.length 0 (by omega)
end Go.Proofs.Ytfjnpdgjigkbcaa.Pure
