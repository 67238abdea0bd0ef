/- Apply of the program, in plain lists. Condition: a right list, and lists with bounded lengths. -/
import Derived.Test.YtedjibjmbgllkaaPAllx13
import Derived.Test.YtedjibjmbgllkaaUDiff
import Derived.Test.YtedjibjmbgllkaaGConcat
namespace Go.Proofs.Ytedjibjmbgllkaa.Pure
open Go.RowKit Go.Proofs.Ytedjibjmbgllkaa.PAll Go.Proofs.YtedjibjmbgllkaaW.PrintWords Go.Proofs.YtedjibjmbgllkaaW.PrintLast Go.Proofs.YtedjibjmbgllkaaW.PrintMore
set_option linter.unusedVariables false
set_option linter.unusedSimpArgs false
theorem sset_len_le (l : List Int) : (Help.sset l).length ≤ l.length := by
  induction l with
  | nil => simp [Help.sset]
  | cons x l ih =>
    have h : ∀ y (m : List Int), (Help.insU y m).length ≤ m.length + 1 := by
      intro y m
      induction m with
      | nil => simp [Help.insU]
      | cons z m ihm =>
        unfold Help.insU
        split
        · simp
        · split
          · simp
          · simp only [List.length_cons]; omega
    show (Help.insU x (Help.sset l)).length ≤ _
    have := h x (Help.sset l)
    simp only [List.length_cons]; omega
def newL (l add drop : List Int) : List Int := Help.sset (minusS l drop ++ add)
theorem new_len (l add drop : List Int) : (newL l add drop).length ≤ l.length + add.length := by
  have h1 := sset_len_le (minusS l drop ++ add)
  have h2 := minus_len l drop
  rw [List.length_append] at h1
  unfold newL
  omega
def endS (t : Int) (q : List Int) : Int × List Int × Int := if rightC t q = 0 then (t, q, 0) else (0, [], rightC t q)
def dropS (l : List Int) (t : Int) (q : List Int) : List Int → Int × List Int × Int
  | [] => endS t q
  | x :: r => if x ∈ l then dropS l t q r else (0, [], 8)
def addS (l : List Int) (t : Int) (q drop : List Int) : List Int → Int × List Int × Int
  | [] => dropS l t q drop
  | x :: r => if x ∈ l then (0, [], 7) else addS l t q drop r
def applyS (v : Int) (l : List Int) (f t : Int) (add drop : List Int) : Int × List Int × Int := if f = v then (if t < f then (0, [], 11) else addS l t (newL l add drop) drop add) else (0, [], 14)
theorem concat_eq (a b : List Int) (ha : a.length ≤ 1000000) (hb : b.length ≤ 1000000) : slices_Concat_int_int.f ([a, b] : List (List Int)) = some (a ++ b) := by
  unfold slices_Concat_int_int.f
  rw [if_pos ⟨by simp, by simp; omega⟩]
  simp
theorem set_eq (l : List Int) (h : l.length ≤ 3000000) : revoke_set_int.f l = some (Help.sset l) := by
  unfold revoke_set_int.f
  rw [if_pos (by omega)]
theorem applyW_l1 (v : Int) (l : List Int) (f t : Int) (add drop : List Int) (hs : Inc l) (hl : l.length ≤ 1000) (ha : add.length ≤ 1000) (hd : drop.length ≤ 1000) : ∀ (d i : Nat), i + d = drop.length →
    Ev (fun k => revoke_Apply.l1 k drop (drop.length : Int) i v l f t add drop) (dropS l t (newL l add drop) (drop.drop i)) := by
  intro d
  induction d with
  | zero =>
    intro i hi
    rw [List.drop_of_length_le (by omega)]
    have hm := minus_len l drop
    have hnl := new_len l add drop
    refine Ev.step (f := fun k => ((revoke_minus_int.f k l drop).bind fun t240 => ((slices_Concat_int_int.f (([t240, add] : List (List Int)))).bind fun t246 => ((revoke_set_int.f t246).bind fun t249 => ((revoke_Right.f k t t249).bind fun t253 => (if t253 = 0 then (some (t, t249, 0)) else (some (0, ([] : List Int), t253)))))))) (fun k => by simp only [revoke_Apply.l1]; rw [if_neg (by omega)]) ?_
    refine Ev.bind (minus l drop (by omega) (by omega)) ?_
    rw [concat_eq _ _ (by omega) (by omega)]
    refine Ev.bind (Ev.now _) ?_
    rw [set_eq _ (by simp; omega)]
    refine Ev.bind (Ev.now _) ?_
    refine Ev.bind (rightW t (newL l add drop) (by omega)) (ev_some' ?_)
    unfold dropS endS
    by_cases c : rightC t (newL l add drop) = 0
    · rw [if_pos c, if_pos c]; rfl
    · rw [if_neg c, if_neg c]
  | succ d ih =>
    intro i hi
    have h1 : i < drop.length := by omega
    rw [List.drop_eq_getElem_cons h1]
    unfold dropS
    refine Ev.step (f := fun k => ((revoke_Has.f k v l drop[i]).bind fun t239 => (if t239 = true then (revoke_Apply.l1 k drop (drop.length : Int) ((i + 1 : Nat) : Int) v l f t add drop) else (some (0, ([] : List Int), 8))))) (fun k => by simp only [revoke_Apply.l1]; rw [if_pos (by omega), if_pos (by omega), if_pos (by omega), rd_nat _ _ h1, wr1 (by omega)]) ?_
    refine Ev.bind (hasW v l drop[i] hs (by omega)) ?_
    by_cases e : drop[i] ∈ l
    · simp only [decide_eq_true e, if_true, if_pos e]
      exact ih (i + 1) (by omega)
    · simp only [decide_eq_false e, if_neg e, if_neg (show ¬ (false = true) by decide)]
      exact Ev.now _
theorem applyW_l0 (v : Int) (l : List Int) (f t : Int) (add drop : List Int) (hs : Inc l) (hl : l.length ≤ 1000) (ha : add.length ≤ 1000) (hd : drop.length ≤ 1000) : ∀ (d i : Nat), i + d = add.length →
    Ev (fun k => revoke_Apply.l0 k add (add.length : Int) i v l f t add drop) (addS l t (newL l add drop) drop (add.drop i)) := by
  intro d
  induction d with
  | zero =>
    intro i hi
    rw [List.drop_of_length_le (by omega)]
    have := applyW_l1 v l f t add drop hs hl ha hd drop.length 0 (by omega)
    rw [List.drop_zero] at this
    exact Ev.step (f := fun k => revoke_Apply.l1 k drop (drop.length : Int) ((0 : Nat) : Int) v l f t add drop) (fun k => by simp only [revoke_Apply.l0]; rw [if_neg (by omega)]; rfl) this
  | succ d ih =>
    intro i hi
    have h1 : i < add.length := by omega
    rw [List.drop_eq_getElem_cons h1]
    unfold addS
    refine Ev.step (f := fun k => ((revoke_Has.f k v l add[i]).bind fun t237 => (if t237 = true then (some (0, ([] : List Int), 7)) else (revoke_Apply.l0 k add (add.length : Int) ((i + 1 : Nat) : Int) v l f t add drop)))) (fun k => by simp only [revoke_Apply.l0]; rw [if_pos (by omega), if_pos (by omega), if_pos (by omega), rd_nat _ _ h1, wr1 (by omega)]) ?_
    refine Ev.bind (hasW v l add[i] hs (by omega)) ?_
    by_cases e : add[i] ∈ l
    · simp only [decide_eq_true e, if_true, if_pos e]
      exact Ev.now _
    · simp only [decide_eq_false e, if_neg e, if_neg (show ¬ (false = true) by decide)]
      exact ih (i + 1) (by omega)
theorem applyW (v : Int) (l : List Int) (f t : Int) (add drop : List Int) (hs : Inc l) (hl : l.length ≤ 1000) (ha : add.length ≤ 1000) (hd : drop.length ≤ 1000) : Ev (fun k => revoke_Apply.f k v l f t add drop) (applyS v l f t add drop) := by
  unfold applyS
  by_cases c : f = v
  · rw [if_pos c]
    by_cases c2 : t < f
    · rw [if_pos c2]
      exact Ev.cg (f := fun _ => some (0, [], 11)) (Ev.now _) (fun k => by simp only [revoke_Apply.f]; rw [if_pos c, if_pos c2])
    · rw [if_neg c2]
      have := applyW_l0 v l f t add drop hs hl ha hd add.length 0 (by omega)
      rw [List.drop_zero] at this
      exact Ev.cg this (fun k => by simp only [revoke_Apply.f]; rw [if_pos c, if_neg c2]; rfl)
  · rw [if_neg c]
    exact Ev.cg (f := fun _ => some (0, [], 14)) (Ev.now _) (fun k => by simp only [revoke_Apply.f]; rw [if_neg c])
theorem end_len (t : Int) (q : List Int) : (endS t q).2.1.length ≤ q.length := by
  unfold endS
  split <;> simp
theorem drop_len (l : List Int) (t : Int) (q : List Int) : ∀ d : List Int, (dropS l t q d).2.1.length ≤ q.length
  | [] => end_len t q
  | x :: r => by
    unfold dropS
    split
    · exact drop_len l t q r
    · simp
theorem add_len (l : List Int) (t : Int) (q drop : List Int) : ∀ d : List Int, (addS l t q drop d).2.1.length ≤ q.length
  | [] => drop_len l t q drop
  | x :: r => by
    unfold addS
    split
    · simp
    · exact add_len l t q drop r
theorem apply_len (v : Int) (l : List Int) (f t : Int) (add drop : List Int) : (applyS v l f t add drop).2.1.length ≤ l.length + add.length := by
  unfold applyS
  split
  · split
    · simp
    · exact Nat.le_trans (add_len _ _ _ _ _) (new_len _ _ _)
  · simp
end Go.Proofs.Ytedjibjmbgllkaa.Pure
