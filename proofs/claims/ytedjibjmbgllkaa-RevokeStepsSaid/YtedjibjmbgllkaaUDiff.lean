/- minus and Diff of the program, and the comparisons of the reference, in plain lists. -/
import Derived.Test.YtedjibjmbgllkaaPAllx11
import Derived.Test.YtedjibjmbgllkaaPAllx15
import Derived.Test.YtedjibjmbgllkaaPAllx16
import Derived.Test.YtedjibjmbgllkaaPAllx8
import Derived.Test.YtedjibjmbgllkaaPAllx9
import Derived.Test.YtedjibjmbgllkaaUBase
namespace Go.Proofs.Ytedjibjmbgllkaa.Pure
open Go.RowKit Go.Proofs.Ytedjibjmbgllkaa.PAll Go.Proofs.YtedjibjmbgllkaaW.PrintWords Go.Proofs.YtedjibjmbgllkaaW.PrintLast Go.Proofs.YtedjibjmbgllkaaW.PrintMore
set_option linter.unusedVariables false
set_option linter.unusedSimpArgs false
/-! ### the comparisons -/
theorem same_l0 (l : List Int) (hb : l.length ≤ 1000000) : ∀ (d i : Nat), i + d = l.length → Ev (fun k => skiarearef27_same.l0 k l l i) true := by
  intro d
  induction d with
  | zero =>
    intro i hi
    exact Ev.step (f := fun _ => some true) (fun k => by simp only [skiarearef27_same.l0]; rw [if_neg (by omega)]) (Ev.now _)
  | succ d ih =>
    intro i hi
    exact Ev.step (f := fun k => skiarearef27_same.l0 k l l ((i + 1 : Nat) : Int)) (fun k => by simp only [skiarearef27_same.l0]; rw [if_pos (by omega), if_pos (by omega), if_pos (by omega), if_pos trivial, wr1 (by omega)]) (ih (i + 1) (by omega))
theorem same (l : List Int) (hb : l.length ≤ 1000000) : Ev (fun k => skiarearef27_same.f k l l) true := by
  have := same_l0 l hb l.length 0 (by omega)
  exact Ev.cg this (fun k => by simp only [skiarearef27_same.f]; rw [if_pos trivial]; rfl)
theorem sameV (v : Int) (l : List Int) (hb : l.length ≤ 1000000) : Ev (fun k => skiarearef27_Same.f k v l v l) true := by
  refine Ev.cg (f := fun k => (skiarearef27_same.f k l l).bind fun t214 => (some t214)) ?_ (fun k => by simp only [skiarearef27_Same.f]; rw [if_pos trivial])
  exact Ev.bind (f := fun _ b => some b) (same l hb) (Ev.now _)
theorem sameRev (f t : Int) (a d : List Int) (ha : a.length ≤ 1000000) (hd : d.length ≤ 1000000) : Ev (fun k => skiarearef27_SameRevision.f k f t a d f t a d) true := by
  refine Ev.cg (f := fun k => (skiarearef27_same.f k a a).bind fun t271 => (if t271 = true then ((skiarearef27_same.f k d d).bind fun t272 => (some t272)) else (none))) ?_ (fun k => by simp only [skiarearef27_SameRevision.f]; rw [if_pos trivial, if_pos trivial])
  refine Ev.bind (same a ha) ?_
  simp only [if_true]
  exact Ev.bind (f := fun _ b => some b) (same d hd) (Ev.now _)
/-! ### minus -/
def idxOf (t : Int) : List Int → Int → Int
  | [], _ => -1
  | x :: r, i => if t = x then i else idxOf t r (i + 1)
theorem idx_mem (t : Int) : ∀ (l : List Int) (i : Int), 0 ≤ i → (idxOf t l i ≥ 0 ↔ t ∈ l)
  | [], i, _ => by simp [idxOf]
  | x :: r, i, h => by
    unfold idxOf
    by_cases e : t = x
    · rw [if_pos e]
      exact ⟨fun _ => by rw [e]; exact List.mem_cons_self, fun _ => h⟩
    · rw [if_neg e, idx_mem t r (i + 1) (by omega), List.mem_cons]
      exact ⟨.inr, fun h => h.resolve_left e⟩
theorem index_l0 (l : List Int) (t : Int) (hb : l.length ≤ 1000000) : ∀ (d i : Nat), i + d = l.length → Ev (fun k => slices_Index_int_int.l0 k l t (l.length : Int) i) (idxOf t (l.drop i) i) := by
  intro d
  induction d with
  | zero =>
    intro i hi
    rw [List.drop_of_length_le (by omega)]
    exact Ev.step (f := fun _ => some (-1)) (fun k => by simp only [slices_Index_int_int.l0]; rw [if_neg (by omega)]) (Ev.now _)
  | succ d ih =>
    intro i hi
    have h1 : i < l.length := by omega
    rw [List.drop_eq_getElem_cons h1]
    unfold idxOf
    by_cases e : t = l[i]
    · rw [if_pos e]
      exact Ev.step (f := fun _ => some (i : Int)) (fun k => by simp only [slices_Index_int_int.l0]; rw [if_pos (by omega), if_pos (by omega), if_pos (by omega), rd_nat _ _ h1, if_pos e]) (Ev.now _)
    · rw [if_neg e]
      exact Ev.step (f := fun k => slices_Index_int_int.l0 k l t (l.length : Int) ((i + 1 : Nat) : Int)) (fun k => by simp only [slices_Index_int_int.l0]; rw [if_pos (by omega), if_pos (by omega), if_pos (by omega), rd_nat _ _ h1, if_neg e, wr1 (by omega)]) (ih (i + 1) (by omega))
theorem contains (l : List Int) (t : Int) (hb : l.length ≤ 1000000) : Ev (fun k => slices_Contains_int_int.f k l t) (decide (t ∈ l)) := by
  have := index_l0 l t hb l.length 0 (by omega)
  rw [List.drop_zero] at this
  refine Ev.cg (f := fun k => (slices_Index_int_int.l0 k l t (l.length : Int) ((0 : Nat) : Int)).bind fun t139 => (some (decide (t139 ≥ 0)))) ?_ (fun k => rfl)
  refine Ev.bind (f := fun _ p => some (decide (p ≥ 0))) this (ev_some ?_)
  exact decide_eq_decide.2 (idx_mem t l 0 (Int.le_refl _))
def minusS (a b : List Int) : List Int := a.filter (fun x => !decide (x ∈ b))
theorem mem_minus (x : Int) (a b : List Int) : x ∈ minusS a b ↔ x ∈ a ∧ x ∉ b := by simp [minusS]
theorem minus_len (a b : List Int) : (minusS a b).length ≤ a.length := List.length_filter_le _ _
theorem minus_inc {a b : List Int} (h : Inc a) : Inc (minusS a b) := List.Pairwise.filter _ h
theorem minus_l0 (a b : List Int) (ha : a.length ≤ 1000000) (hb : b.length ≤ 1000000) : ∀ (d i : Nat), i + d = a.length → ∀ acc : List Int, acc.length ≤ i → Ev (fun k => revoke_minus_int.l0 k b acc a (a.length : Int) i) (acc ++ minusS (a.drop i) b) := by
  intro d
  induction d with
  | zero =>
    intro i hi acc hacc
    rw [List.drop_of_length_le (by omega)]
    exact Ev.step (f := fun _ => some acc) (fun k => by simp only [revoke_minus_int.l0]; rw [if_neg (by omega)]) (ev_some (by simp [minusS]))
  | succ d ih =>
    intro i hi acc hacc
    have h1 : i < a.length := by omega
    rw [List.drop_eq_getElem_cons h1]
    unfold minusS
    rw [List.filter_cons]
    refine Ev.step (f := fun k => (slices_Contains_int_int.f k b a[i]).bind fun t141 => (if t141 = true then (revoke_minus_int.l0 k b acc a (a.length : Int) ((i + 1 : Nat) : Int)) else (if acc.length < 17592186044416 then (revoke_minus_int.l0 k b (acc ++ [a[i]]) a (a.length : Int) ((i + 1 : Nat) : Int)) else (none)))) (fun k => by simp only [revoke_minus_int.l0]; rw [if_pos (by omega), if_pos (by omega), if_pos (by omega), rd_nat _ _ h1, wr1 (by omega)]) ?_
    refine Ev.bind (contains b a[i] hb) ?_
    by_cases e : a[i] ∈ b
    · simp only [decide_eq_true e, if_true, Bool.not_true, if_neg (show ¬ (false = true) by decide)]
      exact ih (i + 1) (by omega) acc (by omega)
    · simp only [decide_eq_false e, Bool.not_false, if_true, if_neg (show ¬ (false = true) by decide), if_pos (show acc.length < 17592186044416 by omega)]
      have := ih (i + 1) (by omega) (acc ++ [a[i]]) (by simp; omega)
      rwa [List.append_assoc] at this
theorem minus (a b : List Int) (ha : a.length ≤ 1000000) (hb : b.length ≤ 1000000) : Ev (fun k => revoke_minus_int.f k a b) (minusS a b) := by
  have := minus_l0 a b ha hb a.length 0 (by omega) [] (by simp)
  rw [List.drop_zero, List.nil_append] at this
  exact Ev.cg this (fun k => rfl)
def diffS (va : Int) (a : List Int) (vb : Int) (b : List Int) : Int × Int × List Int × List Int := (va, vb, minusS b a, minusS a b)
theorem diffW (va : Int) (a : List Int) (vb : Int) (b : List Int) (ha : a.length ≤ 1000000) (hb : b.length ≤ 1000000) : Ev (fun k => revoke_Diff.f k va a vb b) (diffS va a vb b) := by
  refine Ev.cg (f := fun k => (revoke_minus_int.f k b a).bind fun t276 => ((revoke_minus_int.f k a b).bind fun t279 => (some (va, vb, t276, t279)))) ?_ (fun k => rfl)
  exact Ev.bind (minus b a hb ha) (Ev.bind (f := fun _ q => some (va, vb, minusS b a, q)) (minus a b ha hb) (Ev.now _))
theorem few_eq (l : List Int) : skiarealaw27_few.f l = some (decide (l.length ≤ 250)) := by
  unfold skiarealaw27_few.f
  congr 1
  exact decide_eq_decide.2 (by omega)
end Go.Proofs.Ytedjibjmbgllkaa.Pure
