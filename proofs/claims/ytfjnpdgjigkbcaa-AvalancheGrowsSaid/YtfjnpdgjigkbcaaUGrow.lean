/- Grow, of the program, of right paths. -/
import Derived.Test.YtfjnpdgjigkbcaaPAllx10
import Derived.Test.YtfjnpdgjigkbcaaUSame
namespace Go.Proofs.Ytfjnpdgjigkbcaa.Pure
open Go.RowKit Go.Proofs.Ytfjnpdgjigkbcaa.PAll Go.Proofs.YtfjnpdgjigkbcaaW.PrintWords Go.Proofs.YtfjnpdgjigkbcaaW.PrintLast Go.Proofs.YtfjnpdgjigkbcaaW.PrintMore
set_option linter.unusedVariables false
set_option linter.unusedSimpArgs false
/-! ### Grow -/
def more (fresh gust : Int) : Int := fresh + (if gust > 10000 then (gust - 10000) / 1000 else 0)
def grown (m : Int) (x : S34) : S34 := ⟨x.f0, x.f1, x.f2, x.f3, if x.f4 + m > 100000 then 100000 else x.f4 + m, x.f5⟩
theorem mid_len (g : S34 → S34) (l : List S34) (i : Nat) : ((l.take i).map g ++ l.drop i).length = l.length := by simp; omega
theorem mid_rd (g : S34 → S34) (l : List S34) (i : Nat) (h : i < l.length) : rd_T34 ((l.take i).map g ++ l.drop i) (i : Int) = l[i] := by
  rw [rdS_nat _ _ (by rw [mid_len]; exact h), List.getElem_append_right (by simp; omega)]
  simp [show i - min i l.length = 0 by omega]
theorem mid_set (g : S34 → S34) (l : List S34) (i : Nat) (h : i < l.length) (y : S34) : ((l.take i).map g ++ l.drop i).set i y = (l.take i).map g ++ y :: l.drop (i + 1) := by
  have h0 : i - ((l.take i).map g).length = 0 := by simp; omega
  rw [List.set_append_right _ _ (by simp; omega), h0, List.drop_eq_getElem_cons h, List.set_cons_zero]
theorem mid_next (g : S34 → S34) (l : List S34) (i : Nat) (h : i < l.length) : (l.take i).map g ++ g l[i] :: l.drop (i + 1) = (l.take (i + 1)).map g ++ l.drop (i + 1) := by
  rw [take_succ l i h, List.map_append, List.append_assoc]; rfl
theorem growW_l0 (l : List S34) (fresh gust : Int) (hr : Right l) (h1 : 0 ≤ fresh ∧ fresh ≤ 2000) (h2 : 0 ≤ gust ∧ gust ≤ 100000) : ∀ (d i : Nat), i + d = l.length →
    Ev (fun k => avalanche_Grow.l0 k fresh gust ((l.take i).map (grown (more fresh gust)) ++ l.drop i) (l.length : Int) i) (l.map (grown (more fresh gust)), 0) := by
  intro d
  have hl := hr.1
  induction d with
  | zero =>
    intro i hi
    rw [List.take_of_length_le (by omega), List.drop_of_length_le (by omega), List.append_nil]
    exact Ev.step (f := fun _ => some (l.map (grown (more fresh gust)), 0)) (fun k => by simp only [avalanche_Grow.l0]; rw [if_neg (by omega)]) (Ev.now _)
  | succ d ih =>
    intro i hi
    have hlt : i < l.length := by omega
    have hn := right_nums hr (List.getElem_mem hlt)
    have hv : mn (wrap64 ((wrap64 (l[i].f4 + fresh)) + (wrap64 ((mx 0 (wrap64 (gust - 10000))) / 1000)))) 100000 = (if l[i].f4 + more fresh gust > 100000 then 100000 else l[i].f4 + more fresh gust) := by
      rw [wr_small (x := l[i].f4 + fresh) (by omega) (by omega), wr_small (x := gust - 10000) (by omega) (by omega)]
      have hm : mx 0 (gust - 10000) / 1000 = (if gust > 10000 then (gust - 10000) / 1000 else 0) := by
        unfold mx
        by_cases c : gust > 10000
        · rw [if_pos (by omega), if_pos c]
        · rw [if_neg (by omega), if_neg c]; rfl
      have hm2 : 0 ≤ (if gust > 10000 then (gust - 10000) / 1000 else 0) ∧ (if gust > 10000 then (gust - 10000) / 1000 else 0) ≤ 100000 := by split <;> omega
      rw [hm, wr_small (x := (if gust > 10000 then (gust - 10000) / 1000 else 0)) (by omega) (by omega)]
      unfold more
      generalize (if gust > 10000 then (gust - 10000) / 1000 else 0) = q at hm2
      rw [wr_small (x := l[i].f4 + fresh + q) (by omega) (by omega)]
      unfold mn
      by_cases c : l[i].f4 + (fresh + q) > 100000
      · rw [if_pos (by omega), if_pos c]
      · rw [if_neg (by omega), if_neg c]; omega
    refine Ev.step (f := fun k => avalanche_Grow.l0 k fresh gust ((l.take (i + 1)).map (grown (more fresh gust)) ++ l.drop (i + 1)) (l.length : Int) ((i + 1 : Nat) : Int)) (fun k => ?_) (ih (i + 1) (by omega))
    simp only [avalanche_Grow.l0]
    rw [if_pos (by omega), if_pos (by omega), if_pos (by rw [mid_len]; omega), mid_rd _ _ _ hlt, hv, Int.toNat_natCast, mid_set _ _ _ hlt, wr1 (by omega), ← mid_next _ _ _ hlt]
    rfl
def goodB (fresh gust : Int) : Bool := decide (0 ≤ fresh ∧ fresh ≤ 2000 ∧ 0 ≤ gust ∧ gust ≤ 100000)
def growS (l : List S34) (fresh gust : Int) : List S34 × Int := if goodB fresh gust = true then (l.map (grown (more fresh gust)), 0) else ([], 2)
theorem growW (l : List S34) (fresh gust : Int) (hr : Right l) (hs : smallB l = true) : Ev (fun k => avalanche_Grow.f k l fresh gust) (growS l fresh gust) := by
  have hbad : Ev (fun k => avalanche_Grow.j0 k l fresh gust true) ([], 2) := Ev.step (f := fun _ => some ([], 2)) (fun k => by simp only [avalanche_Grow.j0]; rw [if_pos trivial]) (Ev.now _)
  unfold growS goodB
  by_cases h1 : 0 ≤ fresh ∧ fresh ≤ 2000
  · by_cases h2 : 0 ≤ gust ∧ gust ≤ 100000
    · rw [if_pos (decide_eq_true (by omega))]
      refine Ev.cg (f := fun k => avalanche_Grow.j0 k l fresh gust false) ?_ (fun k => by simp only [avalanche_Grow.f]; rw [within_eq, within_eq, decide_eq_true h1, decide_eq_true h2]; rfl)
      refine Ev.step (f := fun k => avalanche_Grow.l0 k fresh gust l (l.length : Int) ((0 : Nat) : Int)) (fun k => by simp only [avalanche_Grow.j0]; rw [if_neg (by decide), small_copied hs]; rfl) ?_
      have := growW_l0 l fresh gust hr h1 h2 l.length 0 (by omega)
      simpa using this
    · rw [if_neg (by simp; omega)]
      exact Ev.cg hbad (fun k => by simp only [avalanche_Grow.f]; rw [within_eq, within_eq, decide_eq_true h1, decide_eq_false h2]; rfl)
  · rw [if_neg (by simp; omega)]
    exact Ev.cg hbad (fun k => by simp only [avalanche_Grow.f]; rw [within_eq, decide_eq_false h1]; rfl)
end Go.Proofs.Ytfjnpdgjigkbcaa.Pure
