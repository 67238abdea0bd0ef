/- Control, of the program and of the reference, of right paths. -/
import Derived.Test.YtfjnpdgjigkbcaaPAllx17
import Derived.Test.YtfjnpdgjigkbcaaPAllx18
import Derived.Test.YtfjnpdgjigkbcaaUSame
namespace Go.Proofs.Ytfjnpdgjigkbcaa.Pure
open Go.RowKit Go.Proofs.Ytfjnpdgjigkbcaa.PAll Go.Proofs.YtfjnpdgjigkbcaaW.PrintWords Go.Proofs.YtfjnpdgjigkbcaaW.PrintLast Go.Proofs.YtfjnpdgjigkbcaaW.PrintMore
set_option linter.unusedVariables false
set_option linter.unusedSimpArgs false
def freed (t : Int) (x : S34) : S34 := ⟨x.f0, x.f1, x.f2, x.f3, 0, t⟩
/-- The answer where the path with the ID has the index j. -/
def ctrlJ (l : List S34) (t j : Int) : List S34 × Int := if j < 0 then ([], 8) else if t < (rd_T34 l j).f5 ∨ t < 0 ∨ t > 20000000 then ([], 11) else (l.set j.toNat (freed t (rd_T34 l j)), 0)
def ctrlS (l : List S34) (id t : Int) : List S34 × Int := ctrlJ l t (findAt l id 0)
theorem find_spec (id : Int) : ∀ (l : List S34) (i : Nat), (findAt l id i = -1 ∧ ∀ x ∈ l, x.f0 ≠ id) ∨ ∃ j, ∃ h : j < l.length, findAt l id i = ((i + j : Nat) : Int) ∧ l[j].f0 = id ∧ ∀ q, ∀ hq : q < j, (l[q]'(by omega)).f0 ≠ id
  | [], i => .inl ⟨rfl, by simp⟩
  | s :: r, i => by
    unfold findAt
    by_cases e : s.f0 = id
    · rw [if_pos e]
      exact .inr ⟨0, by simp, by simp, by simpa using e, fun q hq => absurd hq (Nat.not_lt_zero _)⟩
    · rw [if_neg e, show (i : Int) + 1 = ((i + 1 : Nat) : Int) by omega]
      rcases find_spec id r (i + 1) with ⟨h1, h2⟩ | ⟨j, hj, h1, h2, h3⟩
      · exact .inl ⟨h1, fun x hx => by
          rcases List.mem_cons.1 hx with rfl | hx
          · exact e
          · exact h2 x hx⟩
      · refine .inr ⟨j + 1, by simpa using hj, by rw [h1]; omega, by simpa using h2, fun q hq => ?_⟩
        cases q with
        | zero => simpa using e
        | succ q => simpa using h3 q (by omega)
theorem set2 (l : List S34) (i : Nat) (h : i < l.length) (t : Int) : (l.set i (⟨l[i].f0, l[i].f1, l[i].f2, l[i].f3, 0, l[i].f5⟩ : S34)).set i (⟨(rd_T34 (l.set i (⟨l[i].f0, l[i].f1, l[i].f2, l[i].f3, 0, l[i].f5⟩ : S34)) (i : Int)).f0, (rd_T34 (l.set i (⟨l[i].f0, l[i].f1, l[i].f2, l[i].f3, 0, l[i].f5⟩ : S34)) (i : Int)).f1, (rd_T34 (l.set i (⟨l[i].f0, l[i].f1, l[i].f2, l[i].f3, 0, l[i].f5⟩ : S34)) (i : Int)).f2, (rd_T34 (l.set i (⟨l[i].f0, l[i].f1, l[i].f2, l[i].f3, 0, l[i].f5⟩ : S34)) (i : Int)).f3, (rd_T34 (l.set i (⟨l[i].f0, l[i].f1, l[i].f2, l[i].f3, 0, l[i].f5⟩ : S34)) (i : Int)).f4, t⟩ : S34) = l.set i (freed t l[i]) := by
  have e : rd_T34 (l.set i (⟨l[i].f0, l[i].f1, l[i].f2, l[i].f3, 0, l[i].f5⟩ : S34)) (i : Int) = ⟨l[i].f0, l[i].f1, l[i].f2, l[i].f3, 0, l[i].f5⟩ := by
    rw [rdS_nat _ _ (by rw [List.length_set]; exact h), List.getElem_set_self]
  rw [e, List.set_set]; rfl
theorem ctrlJ_at (l : List S34) (t : Int) (j : Nat) (hj : j < l.length) : ctrlJ l t (j : Int) = if t < l[j].f5 ∨ t < 0 ∨ t > 20000000 then ([], 11) else (l.set j (freed t l[j]), 0) := by
  unfold ctrlJ
  rw [if_neg (by omega), rdS_nat _ _ hj, Int.toNat_natCast]
theorem controlW (l : List S34) (id t : Int) (hs : smallB l = true) : avalanche_Control.f l id t = some (ctrlS l id t) := by
  unfold ctrlS avalanche_Control.f avalanche_find.f
  simp only [Option.bind_some]
  rcases find_spec id l 0 with ⟨h1, _⟩ | ⟨j, hj, h1, _, _⟩
  · have h1' : findAt l id 0 = -1 := h1
    rw [h1', if_pos (by decide)]; rfl
  · have h1' : findAt l id 0 = (j : Int) := by
      have h2 : findAt l id ((0 : Nat) : Int) = ((0 + j : Nat) : Int) := h1
      simpa using h2
    rw [h1', ctrlJ_at l t j hj, if_neg (by omega), if_pos (by omega), if_pos (by omega), rdS_nat _ _ hj, Int.toNat_natCast]
    unfold mx
    by_cases c : t < l[j].f5 ∨ t < 0 ∨ t > 20000000
    · rw [if_pos c]
      by_cases c2 : t < (if l[j].f5 < 0 then 0 else l[j].f5)
      · rw [if_pos c2]
      · rw [if_neg c2, if_pos (by split at c2 <;> omega)]
    · rw [if_neg c, if_neg (by split <;> omega), if_neg (by omega), small_copied hs]
      simp only [Option.bind_some]
      rw [if_pos (by omega), rdS_nat _ _ hj, set2 l j hj t]
theorem controlR_l0 (l : List S34) (id t : Int) (hb : l.length ≤ 1000) : ∀ (d i : Nat), i + d = l.length → Ev (fun k => skiarearef50_Control.l0 k id t l i) (ctrlJ l t (findAt (l.drop i) id i)) := by
  intro d
  induction d with
  | zero =>
    intro i hi
    refine Ev.step (f := fun _ => some ([], 8)) (fun k => by simp only [skiarearef50_Control.l0]; rw [if_neg (by omega)]) (ev_some ?_)
    rw [List.drop_of_length_le (by omega)]; rfl
  | succ d ih =>
    intro i hi
    have hlt : i < l.length := by omega
    rw [List.drop_eq_getElem_cons hlt]
    unfold findAt
    by_cases e : l[i].f0 = id
    · rw [if_pos e]
      unfold ctrlJ
      rw [if_neg (by omega), rdS_nat _ _ hlt, Int.toNat_natCast]
      refine Ev.step (f := fun _ => some (if t < l[i].f5 ∨ t < 0 ∨ t > 20000000 then ([], 11) else (l.set i (freed t l[i]), 0))) (fun k => ?_) (Ev.now _)
      simp only [skiarearef50_Control.l0]
      rw [if_pos (by omega), if_pos (by omega), rdS_nat _ _ hlt, if_pos e]
      by_cases c1 : t < l[i].f5
      · rw [if_pos c1, if_pos (.inl c1)]
      · by_cases c2 : t < 0
        · rw [if_neg c1, if_pos c2, if_pos (.inr (.inl c2))]
        · by_cases c3 : t > 20000000
          · rw [if_neg c1, if_neg c2, if_pos c3, if_pos (.inr (.inr c3))]
          · rw [if_neg c1, if_neg c2, if_neg c3, if_neg (by omega), Int.toNat_natCast]
            simp only [Option.bind_some]
            rw [set2 l i hlt t]
    · rw [if_neg e]
      refine Ev.step (f := fun k => skiarearef50_Control.l0 k id t l ((i + 1 : Nat) : Int)) (fun k => by simp only [skiarearef50_Control.l0]; rw [if_pos (by omega), if_pos (by omega), rdS_nat _ _ hlt, if_neg e, wr1 (by omega)]) ?_
      exact ih (i + 1) (by omega)
theorem controlR (l : List S34) (id t : Int) (hs : smallB l = true) : Ev (fun k => skiarearef50_Control.f k l id t) (ctrlS l id t) := by
  have := controlR_l0 l id t (by have := (small_all hs).1; omega) l.length 0 (by omega)
  rw [List.drop_zero] at this
  exact Ev.cg this (fun k => by simp only [skiarearef50_Control.f]; rw [small_own hs]; rfl)
theorem ctrl_short {l : List S34} (hs : Short l) (id t : Int) : Short (ctrlS l id t).1 := by
  unfold ctrlS ctrlJ
  split
  · intro x hx; simp at hx
  · split
    · intro x hx; simp at hx
    · intro x hx
      rcases List.mem_or_eq_of_mem_set hx with h | h
      · exact hs x h
      · subst h
        rename_i h1 _
        rcases find_spec id l 0 with ⟨h2, _⟩ | ⟨j, hj, h2, _, _⟩
        · exact absurd (show findAt l id 0 = -1 from h2) (by omega)
        · have h3 : findAt l id 0 = (j : Int) := by
            have h4 : findAt l id ((0 : Nat) : Int) = ((0 + j : Nat) : Int) := h2
            simpa using h4
          rw [h3, rdS_nat _ _ hj]
          exact hs l[j] (List.getElem_mem hj)
theorem ctrl_len (l : List S34) (id t : Int) : (ctrlS l id t).1.length ≤ l.length := by
  unfold ctrlS ctrlJ
  split
  · simp
  · split <;> simp
end Go.Proofs.Ytfjnpdgjigkbcaa.Pure
