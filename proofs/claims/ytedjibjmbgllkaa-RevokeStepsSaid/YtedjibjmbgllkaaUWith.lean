/- The reference's with and without, in plain lists. -/
import Derived.Test.YtedjibjmbgllkaaPAllx8
import Derived.Test.YtedjibjmbgllkaaPAllx9
import Derived.Test.YtedjibjmbgllkaaUApply
namespace Go.Proofs.Ytedjibjmbgllkaa.Pure
open Go.RowKit Go.Proofs.Ytedjibjmbgllkaa.PAll Go.Proofs.YtedjibjmbgllkaaW.PrintWords Go.Proofs.YtedjibjmbgllkaaW.PrintLast Go.Proofs.YtedjibjmbgllkaaW.PrintMore
set_option linter.unusedVariables false
set_option linter.unusedSimpArgs false
theorem put_l0 (l : List Int) (n : Int) (hb : l.length ≤ 1000000) : ∀ (d i : Nat), i + d = l.length → ∀ (acc : List Int) (b : Bool), acc.length ≤ i + b.toNat → Ev (fun k => skiarearef27_put.l0 k l n acc b i) (if b = true then acc ++ l.drop i else acc ++ Help.insU n (l.drop i)) := by
  intro d
  induction d with
  | zero =>
    intro i hi acc b hacc
    rw [List.drop_of_length_le (by omega)]
    cases b with
    | true => exact Ev.step (f := fun _ => some acc) (fun k => by simp only [skiarearef27_put.l0]; rw [if_neg (by omega), if_pos trivial]) (ev_some (by simp))
    | false => exact Ev.step (f := fun _ => some (acc ++ [n])) (fun k => by simp only [skiarearef27_put.l0]; rw [if_neg (by omega), if_neg (by decide), if_pos (by simp only [Bool.toNat_false] at hacc; omega)]) (ev_some (by simp [Help.insU]))
  | succ d ih =>
    intro i hi acc b hacc
    have h1 : i < l.length := by omega
    have hb1 : b.toNat ≤ 1 := by cases b <;> decide
    have hcopy : ∀ b' : Bool, b' = b → Ev (fun k => skiarearef27_put.j1 k l n acc b' i false) (if b' = true then acc ++ l[i] :: l.drop (i + 1) else acc ++ l[i] :: Help.insU n (l.drop (i + 1))) := by
      intro b' hbb
      refine Ev.step (f := fun k => skiarearef27_put.l0 k l n (acc ++ [l[i]]) b' ((i + 1 : Nat) : Int)) (fun k => by simp only [skiarearef27_put.j1]; rw [if_neg (by decide), if_pos (by omega), if_pos (by omega), if_pos (by omega), rd_nat _ _ h1, wr1 (by omega)]) ?_
      have := ih (i + 1) (by omega) (acc ++ [l[i]]) b' (by rw [List.length_append, List.length_singleton, hbb]; omega)
      rw [List.append_assoc, List.append_assoc] at this
      exact this
    rw [List.drop_eq_getElem_cons h1]
    cases b with
    | true =>
      exact Ev.step (f := fun k => skiarearef27_put.j1 k l n acc true i false) (fun k => by simp only [skiarearef27_put.l0]; rw [if_pos (by omega), if_pos trivial]) (hcopy true rfl)
    | false =>
      simp only [Bool.toNat_false, Nat.add_zero] at hacc
      simp only [if_neg (show ¬ (false = true) by decide)]
      refine Ev.step (f := fun k => skiarearef27_put.j1 k l n acc false i (decide (l[i] ≥ n))) (fun k => by simp only [skiarearef27_put.l0]; rw [if_pos (by omega), if_neg (by decide), if_pos (by omega), rd_nat _ _ h1]) ?_
      unfold Help.insU
      by_cases c : l[i] ≥ n
      · rw [decide_eq_true c]
        by_cases c2 : l[i] > n
        · rw [if_pos (by omega)]
          refine Ev.step (f := fun k => skiarearef27_put.l0 k l n ((acc ++ [n]) ++ [l[i]]) true ((i + 1 : Nat) : Int)) (fun k => by
            simp only [skiarearef27_put.j1]
            rw [if_pos trivial, if_pos (by omega), if_pos (by omega), rd_nat _ _ h1, if_pos c2, if_pos (by omega)]
            simp only [Option.bind_some]
            rw [if_pos (by simp; omega), wr1 (by omega)]) ?_
          have := ih (i + 1) (by omega) ((acc ++ [n]) ++ [l[i]]) true (by simp; omega)
          rw [if_pos rfl, show ((acc ++ [n]) ++ [l[i]]) ++ l.drop (i + 1) = acc ++ n :: l[i] :: l.drop (i + 1) from by rw [List.append_assoc, List.append_assoc]; rfl] at this
          exact this
        · rw [if_neg (by omega), if_pos (by omega)]
          refine Ev.step (f := fun k => skiarearef27_put.l0 k l n (acc ++ [l[i]]) true ((i + 1 : Nat) : Int)) (fun k => by simp only [skiarearef27_put.j1]; rw [if_pos trivial, if_pos (by omega), if_pos (by omega), rd_nat _ _ h1, if_neg c2, if_pos (by omega), wr1 (by omega)]) ?_
          have := ih (i + 1) (by omega) (acc ++ [l[i]]) true (by simp; omega)
          rw [if_pos rfl, show (acc ++ [l[i]]) ++ l.drop (i + 1) = acc ++ l[i] :: l.drop (i + 1) from by rw [List.append_assoc]; rfl] at this
          exact this
      · rw [decide_eq_false c, if_neg (by omega), if_neg (by omega)]
        exact hcopy false rfl
theorem put (l : List Int) (n : Int) (hb : l.length ≤ 1000000) : Ev (fun k => skiarearef27_put.f k l n) (Help.insU n l) := by
  have := put_l0 l n hb l.length 0 (by omega) [] false (by simp)
  rw [if_neg (by decide), List.drop_zero, List.nil_append] at this
  exact Ev.cg this (fun k => rfl)
theorem ins_len (y : Int) (m : List Int) : (Help.insU y m).length ≤ m.length + 1 := by
  induction m with
  | nil => simp [Help.insU]
  | cons z m ihm =>
    unfold Help.insU
    split
    · simp
    · split
      · simp
      · simp only [List.length_cons]; omega
def fold (l out : List Int) : List Int := l.foldl (fun o x => Help.insU x o) out
theorem fold_len : ∀ (l out : List Int), (fold l out).length ≤ out.length + l.length
  | [], out => by simp [fold]
  | x :: l, out => by
    have h1 := fold_len l (Help.insU x out)
    have h2 := ins_len x out
    simp only [fold, List.foldl_cons, List.length_cons] at h1 ⊢
    omega
theorem fold_ins : ∀ (l out : List Int), out.Pairwise (· < ·) → (fold l out).Pairwise (· < ·) ∧ ∀ z, z ∈ fold l out ↔ z ∈ out ∨ z ∈ l
  | [], out, h => ⟨h, by simp [fold]⟩
  | x :: l, out, h => by
    obtain ⟨h1, h2⟩ := fold_ins l (Help.insU x out) (Help.inc_insU x out h)
    refine ⟨h1, fun z => ?_⟩
    show z ∈ fold l (Help.insU x out) ↔ _
    rw [h2, Help.mem_insU, List.mem_cons]
    constructor
    · rintro ((h | h) | h)
      · exact .inr (.inl h)
      · exact .inl h
      · exact .inr (.inr h)
    · rintro (h | h | h)
      · exact .inl (.inr h)
      · exact .inl (.inl h)
      · exact .inr h
theorem fold_sset (l t : List Int) : fold l (Help.sset t) = Help.sset (t ++ l) := by
  obtain ⟨h1, h2⟩ := fold_ins l (Help.sset t) (Help.inc_sset t)
  refine Help.inc_ext _ _ h1 (Help.inc_sset _) (fun z => ?_)
  rw [h2, Help.mem_sset, Help.mem_sset, List.mem_append]
theorem with_l1 (b : List Int) (hb : b.length ≤ 10000) : ∀ (d i : Nat), i + d = b.length → ∀ acc : List Int, acc.length ≤ 20000 + i → Ev (fun k => skiarearef27_with.l1 k b acc i) (fold (b.drop i) acc) := by
  intro d
  induction d with
  | zero =>
    intro i hi acc hacc
    rw [List.drop_of_length_le (by omega)]
    exact Ev.step (f := fun _ => some acc) (fun k => by simp only [skiarearef27_with.l1]; rw [if_neg (by omega)]) (ev_some rfl)
  | succ d ih =>
    intro i hi acc hacc
    have h1 : i < b.length := by omega
    rw [List.drop_eq_getElem_cons h1]
    refine Ev.step (f := fun k => (skiarearef27_put.f k acc b[i]).bind fun t187 => (skiarearef27_with.l1 k b t187 ((i + 1 : Nat) : Int))) (fun k => by simp only [skiarearef27_with.l1]; rw [if_pos (by omega), if_pos (by omega), rd_nat _ _ h1, wr1 (by omega)]) ?_
    exact Ev.bind (put acc b[i] (by omega)) (ih (i + 1) (by omega) (Help.insU b[i] acc) (by have := ins_len b[i] acc; omega))
theorem with_l0 (a b : List Int) (ha : a.length ≤ 10000) (hb : b.length ≤ 10000) : ∀ (d i : Nat), i + d = a.length → ∀ acc : List Int, acc.length ≤ i → Ev (fun k => skiarearef27_with.l0 k a b acc i) (fold b (fold (a.drop i) acc)) := by
  intro d
  induction d with
  | zero =>
    intro i hi acc hacc
    rw [List.drop_of_length_le (by omega)]
    have := with_l1 b hb b.length 0 (by omega) acc (by omega)
    rw [List.drop_zero] at this
    exact Ev.step (f := fun k => skiarearef27_with.l1 k b acc ((0 : Nat) : Int)) (fun k => by simp only [skiarearef27_with.l0]; rw [if_neg (by omega)]; rfl) this
  | succ d ih =>
    intro i hi acc hacc
    have h1 : i < a.length := by omega
    rw [List.drop_eq_getElem_cons h1]
    refine Ev.step (f := fun k => (skiarearef27_put.f k acc a[i]).bind fun t183 => (skiarearef27_with.l0 k a b t183 ((i + 1 : Nat) : Int))) (fun k => by simp only [skiarearef27_with.l0]; rw [if_pos (by omega), if_pos (by omega), rd_nat _ _ h1, wr1 (by omega)]) ?_
    exact Ev.bind (put acc a[i] (by omega)) (ih (i + 1) (by omega) (Help.insU a[i] acc) (by have := ins_len a[i] acc; omega))
theorem withR (a b : List Int) (ha : a.length ≤ 10000) (hb : b.length ≤ 10000) : Ev (fun k => skiarearef27_with.f k a b) (Help.sset (a ++ b)) := by
  have := with_l0 a b ha hb a.length 0 (by omega) [] (by simp)
  rw [List.drop_zero, show ([] : List Int) = Help.sset [] from rfl, fold_sset, fold_sset, List.nil_append] at this
  exact Ev.cg this (fun k => rfl)
theorem without_l0 (a b : List Int) (ha : a.length ≤ 30000) (hb : b.length ≤ 30000) : ∀ (d i : Nat), i + d = a.length → ∀ acc : List Int, acc.length ≤ i → Ev (fun k => skiarearef27_without.l0 k a b acc i) (fold (minusS (a.drop i) b) acc) := by
  intro d
  induction d with
  | zero =>
    intro i hi acc hacc
    rw [List.drop_of_length_le (by omega)]
    exact Ev.step (f := fun _ => some acc) (fun k => by simp only [skiarearef27_without.l0]; rw [if_neg (by omega)]) (ev_some rfl)
  | succ d ih =>
    intro i hi acc hacc
    have h1 : i < a.length := by omega
    rw [List.drop_eq_getElem_cons h1]
    unfold minusS
    rw [List.filter_cons]
    refine Ev.step (f := fun k => (skiarearef27_in.f k b a[i]).bind fun t191 => (if t191 = true then (skiarearef27_without.l0 k a b acc ((i + 1 : Nat) : Int)) else ((skiarearef27_put.f k acc a[i]).bind fun t193 => (skiarearef27_without.l0 k a b t193 ((i + 1 : Nat) : Int))))) (fun k => by simp only [skiarearef27_without.l0]; rw [if_pos (by omega), if_pos (by omega), rd_nat _ _ h1, wr1 (by omega)]) ?_
    refine Ev.bind (inR b a[i] (by omega)) ?_
    by_cases e : a[i] ∈ b
    · simp only [decide_eq_true e, if_true, Bool.not_true, if_neg (show ¬ (false = true) by decide)]
      exact ih (i + 1) (by omega) acc (by omega)
    · simp only [decide_eq_false e, Bool.not_false, if_true, if_neg (show ¬ (false = true) by decide)]
      exact Ev.bind (put acc a[i] (by omega)) (ih (i + 1) (by omega) (Help.insU a[i] acc) (by have := ins_len a[i] acc; omega))
theorem withoutR (a b : List Int) (ha : a.length ≤ 30000) (hb : b.length ≤ 30000) : Ev (fun k => skiarearef27_without.f k a b) (Help.sset (minusS a b)) := by
  have := without_l0 a b ha hb a.length 0 (by omega) [] (by simp)
  rw [List.drop_zero, show ([] : List Int) = Help.sset [] from rfl, fold_sset, List.nil_append] at this
  exact Ev.cg this (fun k => rfl)
end Go.Proofs.Ytedjibjmbgllkaa.Pure
