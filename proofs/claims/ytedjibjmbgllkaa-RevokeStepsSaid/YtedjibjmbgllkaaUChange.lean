/- Change of the program; what a revision of a difference leads to. -/
import Derived.Test.YtedjibjmbgllkaaPAllx8
import Derived.Test.YtedjibjmbgllkaaUApply
namespace Go.Proofs.Ytedjibjmbgllkaa.Pure
open Go.RowKit Go.Proofs.Ytedjibjmbgllkaa.PAll Go.Proofs.YtedjibjmbgllkaaW.PrintWords Go.Proofs.YtedjibjmbgllkaaW.PrintLast Go.Proofs.YtedjibjmbgllkaaW.PrintMore
set_option linter.unusedVariables false
set_option linter.unusedSimpArgs false
theorem add_none (l : List Int) (t : Int) (q drop : List Int) : ∀ d : List Int, (∀ x ∈ d, x ∉ l) → addS l t q drop d = dropS l t q drop
  | [], _ => rfl
  | x :: r, h => by
    unfold addS
    rw [if_neg (h x (by simp))]
    exact add_none l t q drop r (fun y hy => h y (by simp [hy]))
theorem drop_all (l : List Int) (t : Int) (q : List Int) : ∀ d : List Int, (∀ x ∈ d, x ∈ l) → dropS l t q d = endS t q
  | [], _ => rfl
  | x :: r, h => by
    unfold dropS
    rw [if_pos (h x (by simp))]
    exact drop_all l t q r (fun y hy => h y (by simp [hy]))
theorem mem_new (z : Int) (l add drop : List Int) : z ∈ newL l add drop ↔ (z ∈ l ∧ z ∉ drop) ∨ z ∈ add := by
  unfold newL
  rw [Help.mem_sset, List.mem_append, mem_minus]
theorem inc_new (l add drop : List Int) : Inc (newL l add drop) := Help.inc_sset _
theorem new_diff (a b : List Int) (hb : Inc b) : newL a (minusS b a) (minusS a b) = b := by
  refine Help.inc_ext _ _ (inc_new _ _ _) hb (fun z => ?_)
  rw [mem_new, mem_minus, mem_minus]
  by_cases h1 : z ∈ a <;> by_cases h2 : z ∈ b <;> simp [h1, h2]
theorem apply_diff (va : Int) (a : List Int) (vb : Int) (b : List Int) (hr : rightC vb b = 0) : applyS va a va vb (minusS b a) (minusS a b) = if vb < va then (0, [], 11) else (vb, b, 0) := by
  unfold applyS
  rw [if_pos rfl]
  by_cases c : vb < va
  · rw [if_pos c, if_pos c]
  · rw [if_neg c, if_neg c, new_diff a b ((right_zero vb b).1 hr).2.2.2, add_none _ _ _ _ _ (fun x hx => ((mem_minus x b a).1 hx).2), drop_all _ _ _ _ (fun x hx => ((mem_minus x a b).1 hx).1)]
    unfold endS
    rw [if_pos hr]
theorem minus_self (l : List Int) : minusS l l = [] := by
  unfold minusS
  rw [List.filter_eq_nil_iff]
  intro x hx
  simp [hx]
/-! ### Change -/
def changeS (v : Int) (l add drop : List Int) : Int × List Int × Int :=
  if add.any badNo = true ∨ drop.any badNo = true then (0, [], 2)
  else if newL l add drop = l then (v, newL l add drop, 0)
  else if v ≥ 1000000 then (0, [], 12)
  else if (newL l add drop).length > 200 then (0, [], 9)
  else (v + 1, newL l add drop, 0)
theorem change_j (v : Int) (l add drop : List Int) (b : Bool) (hv : 0 ≤ v ∧ v ≤ 1000000) (hl : l.length ≤ 1000) (ha : add.length ≤ 1000) (hd : drop.length ≤ 1000) : Ev (fun k => revoke_Change.j0 k add drop b v l)
    (if b = true then (0, [], 2) else if newL l add drop = l then (v, newL l add drop, 0) else if v ≥ 1000000 then (0, [], 12) else if (newL l add drop).length > 200 then (0, [], 9) else (v + 1, newL l add drop, 0)) := by
  cases b with
  | true => exact Ev.step (f := fun _ => some (0, [], 2)) (fun k => by simp only [revoke_Change.j0]; rw [if_pos trivial]) (Ev.now _)
  | false =>
    simp only [if_neg (show ¬ (false = true) by decide)]
    have hm := minus_len l drop
    have hnl := new_len l add drop
    refine Ev.step (f := fun k => ((revoke_minus_int.f k l drop).bind fun t149 => ((slices_Concat_int_int.f (([t149, add] : List (List Int)))).bind fun t155 => ((revoke_set_int.f t155).bind fun t158 => ((slices_Equal_int_int.f k t158 l).bind fun t161 => (if t161 = true then (some (v, t158, 0)) else (if v ≥ 1000000 then (some (0, ([] : List Int), 12)) else (if (t158.length : Int) > 200 then (some (0, ([] : List Int), 9)) else (some (wrap64 (v + 1), t158, 0)))))))))) (fun k => by simp only [revoke_Change.j0]; rw [if_neg (by decide)]) ?_
    refine Ev.bind (minus l drop (by omega) (by omega)) ?_
    rw [concat_eq _ _ (by omega) (by omega)]
    refine Ev.bind (Ev.now _) ?_
    rw [set_eq _ (by simp; omega)]
    refine Ev.bind (Ev.now _) ?_
    refine Ev.bind (equal (newL l add drop) l (by omega)) (ev_some' ?_)
    by_cases c : newL l add drop = l
    · rw [decide_eq_true c, if_pos rfl, if_pos c]; rfl
    · rw [decide_eq_false c, if_neg (by decide), if_neg c]
      by_cases c2 : v ≥ 1000000
      · rw [if_pos c2, if_pos c2]
      · rw [if_neg c2, if_neg c2]
        by_cases c3 : (newL l add drop).length > 200
        · rw [if_pos c3]
          exact if_pos (show ((newL l add drop).length : Int) > 200 by omega)
        · rw [if_neg c3, wr_small (by omega) (by omega)]
          exact if_neg (show ¬ ((newL l add drop).length : Int) > 200 by omega)
theorem changeW (v : Int) (l add drop : List Int) (hv : 0 ≤ v ∧ v ≤ 1000000) (hl : l.length ≤ 1000) (ha : add.length ≤ 1000) (hd : drop.length ≤ 1000) : Ev (fun k => revoke_Change.f k v l add drop) (changeS v l add drop) := by
  have m1 : revoke_media.f add = some (!add.any badNo) := by unfold revoke_media.f; rw [if_pos (by omega)]
  have m2 : revoke_media.f drop = some (!drop.any badNo) := by unfold revoke_media.f; rw [if_pos (by omega)]
  unfold changeS
  cases h1 : add.any badNo with
  | true =>
    rw [if_pos (.inl rfl)]
    rw [h1] at m1
    have := change_j v l add drop true hv hl ha hd
    exact Ev.cg this (fun k => by simp only [revoke_Change.f]; rw [m1]; rfl)
  | false =>
    rw [h1] at m1
    cases h2 : drop.any badNo with
    | true =>
      rw [if_pos (.inr rfl)]
      rw [h2] at m2
      have := change_j v l add drop true hv hl ha hd
      exact Ev.cg this (fun k => by simp only [revoke_Change.f]; rw [m1, m2]; rfl)
    | false =>
      rw [if_neg (by decide)]
      rw [h2] at m2
      have := change_j v l add drop false hv hl ha hd
      exact Ev.cg this (fun k => by simp only [revoke_Change.f]; rw [m1, m2]; rfl)
/-- What Change answers where it answers without an error. -/
theorem change_ok {v : Int} {l add drop : List Int} (hr : rightC v l = 0) (h : (changeS v l add drop).2.2 = 0) : (changeS v l add drop).2.1 = newL l add drop ∧ rightC (changeS v l add drop).1 (newL l add drop) = 0 ∧ (newL l add drop = l ∧ (changeS v l add drop).1 = v ∨ newL l add drop ≠ l ∧ (changeS v l add drop).1 = v + 1) := by
  obtain ⟨h1, h2, h3, h4⟩ := (right_zero v l).1 hr
  unfold changeS at h ⊢
  by_cases c : add.any badNo = true ∨ drop.any badNo = true
  · rw [if_pos c] at h; simp at h
  · rw [if_neg c] at h ⊢
    by_cases c1 : newL l add drop = l
    · rw [if_pos c1]
      exact ⟨rfl, by rw [c1]; exact hr, .inl ⟨c1, rfl⟩⟩
    · rw [if_neg c1] at h ⊢
      by_cases c2 : v ≥ 1000000
      · rw [if_pos c2] at h; simp at h
      · rw [if_neg c2] at h ⊢
        by_cases c3 : (newL l add drop).length > 200
        · rw [if_pos c3] at h; simp at h
        · rw [if_neg c3]
          refine ⟨rfl, (right_zero _ _).2 ⟨by omega, by omega, ?_, inc_new _ _ _⟩, .inr ⟨c1, rfl⟩⟩
          rw [Bool.eq_false_iff]
          intro hb
          obtain ⟨z, hz, hzb⟩ := List.any_eq_true.1 hb
          rcases (mem_new z l add drop).1 hz with ⟨hz, _⟩ | hz
          · exact absurd (List.any_eq_true.2 ⟨z, hz, hzb⟩) (by rw [h3]; decide)
          · exact c (.inl (List.any_eq_true.2 ⟨z, hz, hzb⟩))
end Go.Proofs.Ytedjibjmbgllkaa.Pure
