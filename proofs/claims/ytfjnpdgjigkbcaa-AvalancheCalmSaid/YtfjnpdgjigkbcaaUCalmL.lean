/- AvalancheCalm: behind a release a path is unstable only at the highest level, and the others are as they were. No condition. -/
import Derived.Test.YtfjnpdgjigkbcaaPAllx33
import Derived.Test.YtfjnpdgjigkbcaaUControl
import Derived.Test.YtfjnpdgjigkbcaaUFine
namespace Go.Proofs.Ytfjnpdgjigkbcaa.Pure
open Go.RowKit Go.Proofs.Ytfjnpdgjigkbcaa.PAll Go.Proofs.YtfjnpdgjigkbcaaW.PrintWords Go.Proofs.YtfjnpdgjigkbcaaW.PrintLast Go.Proofs.YtfjnpdgjigkbcaaW.PrintMore
set_option linter.unusedVariables false
set_option linter.unusedSimpArgs false
theorem unst_freed (t : Int) (lv : List Int) (x : S34) (hn : 4 ≤ x.f3 ∧ x.f3 ≤ 100000) : unstB lv (freed t x) = decide (levB x.f1 lv > 4) := by
  have e2 : wrap64 (Int.tdiv x.f3 2) = x.f3 / 2 := by rw [Int.tdiv_eq_ediv_of_nonneg (by omega), wr_small (by omega) (by omega)]
  have e4 : wrap64 (Int.tdiv x.f3 4) = x.f3 / 4 := by rw [Int.tdiv_eq_ediv_of_nonneg (by omega), wr_small (by omega) (by omega)]
  unfold unstB freed
  dsimp only
  rw [e2, e4]
  generalize levB x.f1 lv = n
  rw [if_neg (by omega)]
  by_cases n3 : n = 3
  · rw [if_pos n3, decide_eq_false (by omega), decide_eq_false (by omega)]
  · rw [if_neg n3]
    by_cases n4 : n = 4
    · rw [if_pos n4, decide_eq_false (by omega), decide_eq_false (by omega)]
    · rw [if_neg n4]
theorem freed_small {l : List S34} (hs : smallB l = true) (t : Int) (j : Nat) (hj : j < l.length) : smallB (l.set j (freed t l[j])) = true := by
  obtain ⟨h1, h2⟩ := small_all hs
  simp only [smallB, Bool.and_eq_true, decide_eq_true_eq, List.all_eq_true, List.length_set]
  refine ⟨h1, fun x hx => ?_⟩
  rcases List.mem_or_eq_of_mem_set hx with h | h
  · exact h2 x h
  · subst h; exact h2 l[j] (List.getElem_mem hj)
theorem freed_right {l : List S34} (hr : Right l) (t : Int) (j : Nat) (hj : j < l.length) (ht : 0 ≤ t ∧ t ≤ 20000000) : Right (l.set j (freed t l[j])) := by
  refine ⟨by rw [List.length_set]; exact hr.1, fun x hx => ?_, ?_⟩
  · rcases List.mem_or_eq_of_mem_set hx with h | h
    · exact hr.2.1 x h
    · subst h
      refine ⟨?_, (hr.2.1 l[j] (List.getElem_mem hj)).2⟩
      have hn := right_nums hr (List.getElem_mem hj)
      unfold badB
      refine decide_eq_false (fun hc => hc ?_)
      unfold freed
      dsimp only
      omega
  · have e : (l.set j (freed t l[j])).map (fun x => x.f0) = l.map (fun x => x.f0) := by
      rw [List.map_set]
      show (l.map (fun x => x.f0)).set j l[j].f0 = _
      have : l[j].f0 = (l.map (fun x => x.f0))[j]'(by rw [List.length_map]; exact hj) := by simp
      rw [this, List.set_getElem_self]
    have h1 : (l.map (fun x => x.f0)).Pairwise (fun a b => a ≠ b) := List.pairwise_map.2 hr.2.2
    rw [← e] at h1
    exact List.pairwise_map.1 h1
theorem calm_l0 (l : List S34) (id t : Int) (lv : List Int) (hl : lv.length ≤ 100) (hs : smallB l = true) (hr : Right l) (j : Nat) (hj : j < l.length) (hid : l[j].f0 = id) : ∀ (d i : Nat), i + d = l.length →
    Ev (fun k => skiarealaw50_AvalancheCalm.l0 k l id t lv (l.set j (freed t l[j])) (if j < i then 1 else 0) i) true := by
  intro d
  have hl0 := hr.1
  have hf := fine_of hs hr
  induction d with
  | zero =>
    intro i hi
    exact Ev.step (f := fun _ => some true) (fun k => by simp only [skiarealaw50_AvalancheCalm.l0]; rw [if_neg (by omega), if_pos (by omega)]; rfl) (Ev.now _)
  | succ d ih =>
    intro i hi
    have hlt : i < l.length := by omega
    have hlt2 : i < (l.set j (freed t l[j])).length := by rw [List.length_set]; exact hlt
    have hx := hf.2 _ (List.getElem_mem hlt)
    have hn := ih (i + 1) (by omega)
    by_cases c : i = j
    · subst c
      rw [if_pos (by omega)] at hn
      have hg : (l.set i (freed t l[i]))[i] = freed t l[i] := by simp
      refine Ev.step (f := fun k => ((avalanche_Unstable.f k (freed t l[i]).f0 (freed t l[i]).f1 (freed t l[i]).f2 (freed t l[i]).f3 (freed t l[i]).f4 (freed t l[i]).f5 lv).bind fun t330 => ((avalanche_Level.f k l[i].f0 l[i].f1 l[i].f2 l[i].f3 l[i].f4 l[i].f5 lv).bind fun t332 => (if (t330 != (decide (t332 > 4))) = true then (none) else (skiarealaw50_AvalancheCalm.l0 k l id t lv (l.set i (freed t l[i])) 1 ((i + 1 : Nat) : Int)))))) (fun k => by
        simp only [skiarealaw50_AvalancheCalm.l0]
        rw [if_pos (by omega), if_pos (by omega), rdS_nat _ _ hlt, if_pos hid, if_pos (by omega), rdS_nat _ _ hlt2, hg, if_pos (by rfl), if_pos (by rfl), wr1 (by omega), if_neg (by omega), show wrap64 (0 + 1) = 1 by rw [wr_small (by omega) (by omega)]; rfl]) ?_
      refine Ev.bind (unstable (freed t l[i]) lv hx.1 (by omega)) (Ev.bind (level _ lv hx.1 (by omega)) ?_)
      rw [unst_freed t lv _ hx.2]
      simp only [bne_self_eq_false, if_neg (show ¬ (false = true) by decide)]
      exact hn
    · have hne : ¬ l[i].f0 = id := by
        rw [← hid]
        rcases Nat.lt_or_gt_of_ne c with h | h
        · exact List.pairwise_iff_getElem.1 hr.2.2 i j hlt hj h
        · exact fun e => List.pairwise_iff_getElem.1 hr.2.2 j i hj hlt h e.symm
      have hg : (l.set j (freed t l[j]))[i] = l[i] := by rw [List.getElem_set_ne (fun e => c e.symm)]
      rw [show (if j < i + 1 then (1 : Int) else 0) = (if j < i then 1 else 0) by split <;> split <;> omega] at hn
      refine Ev.step (f := fun k => ((skiarearef50_SameOne.f k l[i].f0 l[i].f1 l[i].f2 l[i].f3 l[i].f4 l[i].f5 l[i].f0 l[i].f1 l[i].f2 l[i].f3 l[i].f4 l[i].f5).bind fun t335 => (if t335 = true then (skiarealaw50_AvalancheCalm.l0 k l id t lv (l.set j (freed t l[j])) (if j < i then 1 else 0) ((i + 1 : Nat) : Int)) else (none)))) (fun k => by
        simp only [skiarealaw50_AvalancheCalm.l0]
        rw [if_pos (by omega), if_pos (by omega), rdS_nat _ _ hlt, if_neg hne, if_pos (by omega), rdS_nat _ _ hlt2, hg, wr1 (by omega)]) ?_
      refine Ev.bind (sameOne _ (by have := hx.1.2.1; omega) (by have := hx.1.2.2.1; omega)) ?_
      simp only [if_true]
      exact hn
theorem AvalancheCalm (l : List S34) (id t : Int) (lv : List Int) : ∃ k, skiarealaw50_AvalancheCalm.f k l id t lv = some true := by
  refine Ev.rounds (Ev.cg (f := fun k => (skiarealaw50_small.f k l).bind fun t319 => (if t319 = true then ((avalanche_Right.f k l).bind fun t320 => (if t320 = 0 then (if (lv.length : Int) > 100 then (some true) else ((avalanche_Control.f l id t).bind fun bt321 => (if bt321.2 = 0 then (if (bt321.1.length : Int) = (l.length : Int) then ((avalanche_Right.f k bt321.1).bind fun t325 => (if t325 = 0 then (skiarealaw50_AvalancheCalm.l0 k l id t lv bt321.1 0 0) else (none))) else (none)) else (some ((bt321.1.length : Int) == 0))))) else (some true))) else (some true))) ?_ (fun k => rfl))
  refine Ev.bind (small l) ?_
  cases hs : smallB l with
  | false => exact Ev.now _
  | true =>
    simp only [if_true]
    have hl50 := (small_all hs).1
    refine Ev.bind (rightW l (small_short hs) (by omega)) ?_
    by_cases h0 : rightC l = 0
    · simp only [if_pos h0]
      have hr := (rightC_zero l).1 h0
      by_cases c1 : (lv.length : Int) > 100
      · simp only [if_pos c1]; exact Ev.now _
      · simp only [if_neg c1]
        rw [controlW l id t hs]
        refine Ev.bind (Ev.now _) ?_
        unfold ctrlS
        rcases find_spec id l 0 with ⟨h1, _⟩ | ⟨j, hj, h1, hid, _⟩
        · have h1' : findAt l id 0 = -1 := h1
          rw [h1']
          exact Ev.now _
        · have h1' : findAt l id 0 = (j : Int) := by
            have h2 : findAt l id ((0 : Nat) : Int) = ((0 + j : Nat) : Int) := h1
            simpa using h2
          rw [h1', ctrlJ_at l t j hj]
          by_cases c : t < l[j].f5 ∨ t < 0 ∨ t > 20000000
          · rw [if_pos c]; exact Ev.now _
          · rw [if_neg c]
            simp only [if_true, List.length_set]
            refine Ev.bind (rightW _ (small_short (freed_small hs t j hj)) (by rw [List.length_set]; omega)) ?_
            rw [(rightC_zero _).2 (freed_right hr t j hj (by omega))]
            simp only [if_true]
            have := calm_l0 l id t lv (by omega) hs hr j hj hid l.length 0 (by omega)
            exact this
    · simp only [if_neg h0]; exact Ev.now _
end Go.Proofs.Ytfjnpdgjigkbcaa.Pure
