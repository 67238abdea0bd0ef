/- What the printed functions of the ropes answer, in plain lists. -/
import Derived.Test.YtipnnihjkipnoaaPAllx1
import Derived.Test.YtipnnihjkipnoaaPAllx17
import Derived.Test.YtipnnihjkipnoaaPAllx2
import Derived.Test.YtipnnihjkipnoaaPAllx3
import Derived.Test.YtipnnihjkipnoaaPAllx4
import Derived.Test.YtipnnihjkipnoaaPAllx5
import Derived.Test.YtipnnihjkipnoaaPAllx6
import Derived.Test.YtipnnihjkipnoaaPAllx7
import Derived.Test.YtipnnihjkipnoaaPAllx9
import Derived.Test.YtipnnihjkipnoaaGSwept
import Derived.Test.YtipnnihjkipnoaaGCommon
import Derived.Test.YtipnnihjkipnoaaGClone
namespace Go.Proofs.Ytipnnihjkipnoaa.Pure
set_option linter.unusedSimpArgs false
open Go.RowKit Go.Proofs.Ytipnnihjkipnoaa.PAll Go.Proofs.YtipnnihjkipnoaaW.PrintWords Go.Proofs.YtipnnihjkipnoaaW.PrintLast Go.Proofs.YtipnnihjkipnoaaW.PrintMore
set_option linter.unusedVariables false

theorem wr1 {i : Nat} (h : i < 4611686018427387904) : wrap64 ((i : Int) + 1) = ((i + 1 : Nat) : Int) := by unfold wrap64; omega
theorem wrm {i : Nat} (h : i < 4611686018427387904) (h0 : 0 < i) : wrap64 ((i : Int) - 1) = ((i - 1 : Nat) : Int) := by unfold wrap64; omega
theorem rd_nat (l : List Int) (i : Nat) (h : i < l.length) : rd l (i : Int) = l[i] := by simp [rd, List.getD_eq_getElem?_getD, h]
theorem rdS_nat (l : List S29) (i : Nat) (h : i < l.length) : rd_T29 l (i : Int) = l[i] := by simp [rd_T29, List.getD_eq_getElem?_getD, h]
theorem Ev.cg {α : Type} {g f : Nat → Option α} {r : α} (k : Ev f r) (h : ∀ k, g k = f k) : Ev g r := Ev.congr h k
theorem ev_some {α : Type} {r s : α} (h : r = s) : Ev (fun _ => some r) s := by subst h; exact Ev.now r

/-! ### has, Contains -/
theorem mem_drop (l : List Int) (n : Int) (i : Nat) (h : i < l.length) : decide (n ∈ l.drop i) = (decide (n = l[i]) || decide (n ∈ l.drop (i + 1))) := by
  rw [List.drop_eq_getElem_cons h, ← Bool.decide_or]
  exact decide_eq_decide.2 List.mem_cons
theorem hasR_l0 (l : List Int) (n : Int) (hb : l.length < 4611686018427387904) : ∀ (d i : Nat), i + d = l.length → Ev (fun k => skiarearef46_has.l0 k l n i) (decide (n ∈ l.drop i)) := by
  intro d
  induction d with
  | zero =>
    intro i hi
    refine Ev.step (f := fun _ => some false) (fun k => by simp only [skiarearef46_has.l0]; rw [if_neg (by omega)]) (ev_some ?_)
    rw [List.drop_of_length_le (by omega)]; simp
  | succ d ih =>
    intro i hi
    have hlt : i < l.length := by omega
    rw [mem_drop l n i hlt]
    by_cases he : l[i] = n
    · refine Ev.step (f := fun _ => some true) (fun k => by simp only [skiarearef46_has.l0]; rw [if_pos (by omega), if_pos (by omega), rd_nat l i hlt, if_pos he]) (ev_some ?_)
      rw [decide_eq_true he.symm]; rfl
    · refine Ev.step (f := fun k => skiarearef46_has.l0 k l n ((i + 1 : Nat) : Int)) (fun k => by simp only [skiarearef46_has.l0]; rw [if_pos (by omega), if_pos (by omega), rd_nat l i hlt, if_neg he, wr1 (by omega)]) ?_
      rw [decide_eq_false (fun h => he h.symm), Bool.false_or]
      exact ih (i + 1) (by omega)
theorem hasR (l : List Int) (n : Int) (hb : l.length < 4611686018427387904) : Ev (fun k => skiarearef46_has.f k l n) (decide (n ∈ l)) := by
  have := hasR_l0 l n hb l.length 0 (by omega)
  rw [List.drop_zero] at this
  exact Ev.cg this (fun k => rfl)
theorem hasL_l0 (l : List Int) (n : Int) (hb : l.length < 4611686018427387904) : ∀ (d i : Nat), i + d = l.length → Ev (fun k => skiarealaw46_has.l0 k l n i) (decide (n ∈ l.drop i)) := by
  intro d
  induction d with
  | zero =>
    intro i hi
    refine Ev.step (f := fun _ => some false) (fun k => by simp only [skiarealaw46_has.l0]; rw [if_neg (by omega)]) (ev_some ?_)
    rw [List.drop_of_length_le (by omega)]; simp
  | succ d ih =>
    intro i hi
    have hlt : i < l.length := by omega
    rw [mem_drop l n i hlt]
    by_cases he : l[i] = n
    · refine Ev.step (f := fun _ => some true) (fun k => by simp only [skiarealaw46_has.l0]; rw [if_pos (by omega), if_pos (by omega), rd_nat l i hlt, if_pos he]) (ev_some ?_)
      rw [decide_eq_true he.symm]; rfl
    · refine Ev.step (f := fun k => skiarealaw46_has.l0 k l n ((i + 1 : Nat) : Int)) (fun k => by simp only [skiarealaw46_has.l0]; rw [if_pos (by omega), if_pos (by omega), rd_nat l i hlt, if_neg he, wr1 (by omega)]) ?_
      rw [decide_eq_false (fun h => he h.symm), Bool.false_or]
      exact ih (i + 1) (by omega)
theorem hasL (l : List Int) (n : Int) (hb : l.length < 4611686018427387904) : Ev (fun k => skiarealaw46_has.f k l n) (decide (n ∈ l)) := by
  have := hasL_l0 l n hb l.length 0 (by omega)
  rw [List.drop_zero] at this
  exact Ev.cg this (fun k => rfl)
theorem index_l0 (l : List Int) (n : Int) (hb : l.length < 4611686018427387904) : ∀ (d i : Nat), i + d = l.length → ∃ r, Ev (fun k => slices_Index_int_int.l0 k l n (l.length : Int) i) r ∧ (decide (r ≥ 0) = decide (n ∈ l.drop i)) := by
  intro d
  induction d with
  | zero =>
    intro i hi
    refine ⟨-1, Ev.step (f := fun _ => some (-1)) (fun k => by simp only [slices_Index_int_int.l0]; rw [if_neg (by omega)]) (Ev.now _), ?_⟩
    rw [List.drop_of_length_le (by omega)]; simp
  | succ d ih =>
    intro i hi
    have hlt : i < l.length := by omega
    rw [mem_drop l n i hlt]
    by_cases he : n = l[i]
    · refine ⟨i, Ev.step (f := fun _ => some (i : Int)) (fun k => by simp only [slices_Index_int_int.l0]; rw [if_pos (by omega), if_pos (by omega), if_pos (by omega), rd_nat l i hlt, if_pos he]) (Ev.now _), ?_⟩
      rw [decide_eq_true he, decide_eq_true (by omega)]; rfl
    · obtain ⟨r, h1, h2⟩ := ih (i + 1) (by omega)
      refine ⟨r, Ev.step (f := fun k => slices_Index_int_int.l0 k l n (l.length : Int) ((i + 1 : Nat) : Int)) (fun k => by simp only [slices_Index_int_int.l0]; rw [if_pos (by omega), if_pos (by omega), if_pos (by omega), rd_nat l i hlt, if_neg he, wr1 (by omega)]) h1, ?_⟩
      rw [h2, decide_eq_false he, Bool.false_or]
theorem contains (l : List Int) (n : Int) (hb : l.length < 4611686018427387904) : Ev (fun k => slices_Contains_int_int.f k l n) (decide (n ∈ l)) := by
  obtain ⟨r, h1, h2⟩ := index_l0 l n hb l.length 0 (by omega)
  refine Ev.bind (f := fun _ t => some (decide (t ≥ 0))) h1 (ev_some ?_)
  rw [h2]; simp

/-! ### ropes -/
def okRuns (p : Int) : List Int → Bool
  | [] => true
  | x :: r => decide (1 ≤ x ∧ x ≤ 9999 ∧ p < x) && okRuns x r
def runsB (l : List Int) : Bool := okRuns 0 l && decide (0 < l.length)
def prevAt (l : List Int) (i : Nat) : Int := if i = 0 then 0 else l.getD (i - 1) 0
theorem prev_succ (l : List Int) (i : Nat) (h : i < l.length) : prevAt l (i + 1) = l[i] := by simp [prevAt, List.getD_eq_getElem?_getD, h]
theorem okRuns_step (l : List Int) (i : Nat) (h : i < l.length) : okRuns (prevAt l i) (l.drop i) = (decide (1 ≤ l[i] ∧ l[i] ≤ 9999 ∧ prevAt l i < l[i]) && okRuns (prevAt l (i + 1)) (l.drop (i + 1))) := by
  rw [List.drop_eq_getElem_cons h, prev_succ l i h]; rfl
theorem runsW_l0 (l : List Int) (hb : l.length < 4611686018427387904) : ∀ (d i : Nat), i + d = l.length → Ev (fun k => winch_runs.l0 k l l (l.length : Int) i) (okRuns (prevAt l i) (l.drop i) && decide (0 < l.length)) := by
  intro d
  induction d with
  | zero =>
    intro i hi
    refine Ev.step (f := fun _ => some (decide ((l.length : Int) > 0))) (fun k => by simp only [winch_runs.l0]; rw [if_neg (by omega)]) (ev_some ?_)
    rw [List.drop_of_length_le (by omega)]
    simp [okRuns]
  | succ d ih =>
    intro i hi
    have hlt : i < l.length := by omega
    rw [okRuns_step l i hlt]
    by_cases h1 : l[i] < 1
    · refine Ev.step (f := fun _ => some false) (fun k => by simp only [winch_runs.l0]; rw [if_pos (by omega), if_pos (by omega), if_pos (by omega), rd_nat l i hlt, if_pos h1]) (ev_some ?_)
      rw [decide_eq_false (by omega)]; rfl
    · by_cases h2 : l[i] > 9999
      · refine Ev.step (f := fun _ => some false) (fun k => by simp only [winch_runs.l0]; rw [if_pos (by omega), if_pos (by omega), if_pos (by omega), rd_nat l i hlt, if_neg h1, if_pos h2]) (ev_some ?_)
        rw [decide_eq_false (by omega)]; rfl
      · by_cases h0 : i = 0
        · subst h0
          refine Ev.step (f := fun k => winch_runs.l0 k l l (l.length : Int) ((0 + 1 : Nat) : Int)) (fun k => by simp only [winch_runs.l0]; rw [if_pos (by omega), if_pos (by omega), if_pos (by omega), rd_nat l 0 hlt, if_neg h1, if_neg h2, if_neg (by omega), wr1 (by omega)]) ?_
          have := ih (0 + 1) (by omega)
          rwa [decide_eq_true (by simp only [prevAt, if_pos]; omega), Bool.true_and]
        · have hp : prevAt l i = l[i - 1]'(by omega) := by
            unfold prevAt
            rw [if_neg h0, List.getD_eq_getElem?_getD, List.getElem?_eq_getElem (by omega)]
            rfl
          by_cases h3 : l[i] ≤ l[i - 1]'(by omega)
          · refine Ev.step (f := fun _ => some false) (fun k => by simp only [winch_runs.l0]; rw [if_pos (by omega), if_pos (by omega), if_pos (by omega), rd_nat l i hlt, if_neg h1, if_neg h2, if_pos (by omega), wrm (by omega) (by omega), if_pos (by omega), if_pos (by omega), rd_nat l (i - 1) (by omega), if_pos h3]) (ev_some ?_)
            rw [decide_eq_false (by omega)]; rfl
          · refine Ev.step (f := fun k => winch_runs.l0 k l l (l.length : Int) ((i + 1 : Nat) : Int)) (fun k => by simp only [winch_runs.l0]; rw [if_pos (by omega), if_pos (by omega), if_pos (by omega), rd_nat l i hlt, if_neg h1, if_neg h2, if_pos (by omega), wrm (by omega) (by omega), if_pos (by omega), if_pos (by omega), rd_nat l (i - 1) (by omega), if_neg h3, wr1 (by omega)]) ?_
            have := ih (i + 1) (by omega)
            rwa [decide_eq_true (by omega), Bool.true_and]
theorem runsW (l : List Int) (hb : l.length < 4611686018427387904) : Ev (fun k => winch_runs.f k l) (runsB l) := by
  have := runsW_l0 l hb l.length 0 (by omega)
  rw [List.drop_zero, show prevAt l 0 = 0 from rfl] at this
  exact Ev.cg this (fun k => rfl)
theorem runsR_l0 (l : List Int) (hb : l.length < 4611686018427387904) : ∀ (d i : Nat), i + d = l.length → Ev (fun k => skiarearef46_runs.l0 k l i) (okRuns (prevAt l i) (l.drop i) && decide (0 < l.length)) := by
  intro d
  induction d with
  | zero =>
    intro i hi
    refine Ev.step (f := fun _ => some (decide ((l.length : Int) > 0))) (fun k => by simp only [skiarearef46_runs.l0]; rw [if_neg (by omega)]) (ev_some ?_)
    rw [List.drop_of_length_le (by omega)]
    simp [okRuns]
  | succ d ih =>
    intro i hi
    have hlt : i < l.length := by omega
    rw [okRuns_step l i hlt]
    by_cases h1 : l[i] < 1
    · refine Ev.step (f := fun _ => some false) (fun k => by simp only [skiarearef46_runs.l0]; rw [if_pos (by omega), if_pos (by omega), rd_nat l i hlt, if_pos h1]) (ev_some ?_)
      rw [decide_eq_false (by omega)]; rfl
    · by_cases h2 : l[i] > 9999
      · refine Ev.step (f := fun _ => some false) (fun k => by simp only [skiarearef46_runs.l0]; rw [if_pos (by omega), if_pos (by omega), rd_nat l i hlt, if_neg h1, if_pos h2]) (ev_some ?_)
        rw [decide_eq_false (by omega)]; rfl
      · by_cases h0 : i = 0
        · subst h0
          refine Ev.step (f := fun k => skiarearef46_runs.l0 k l ((0 + 1 : Nat) : Int)) (fun k => by simp only [skiarearef46_runs.l0]; rw [if_pos (by omega), if_pos (by omega), rd_nat l 0 hlt, if_neg h1, if_neg h2, if_neg (by omega), wr1 (by omega)]) ?_
          have := ih (0 + 1) (by omega)
          rwa [decide_eq_true (by simp only [prevAt, if_pos]; omega), Bool.true_and]
        · have hp : prevAt l i = l[i - 1]'(by omega) := by
            unfold prevAt
            rw [if_neg h0, List.getD_eq_getElem?_getD, List.getElem?_eq_getElem (by omega)]
            rfl
          by_cases h3 : l[i] ≤ l[i - 1]'(by omega)
          · refine Ev.step (f := fun _ => some false) (fun k => by simp only [skiarearef46_runs.l0]; rw [if_pos (by omega), if_pos (by omega), rd_nat l i hlt, if_neg h1, if_neg h2, if_pos (by omega), wrm (by omega) (by omega), if_pos (by omega), if_pos (by omega), rd_nat l (i - 1) (by omega), if_pos h3]) (ev_some ?_)
            rw [decide_eq_false (by omega)]; rfl
          · refine Ev.step (f := fun k => skiarearef46_runs.l0 k l ((i + 1 : Nat) : Int)) (fun k => by simp only [skiarearef46_runs.l0]; rw [if_pos (by omega), if_pos (by omega), rd_nat l i hlt, if_neg h1, if_neg h2, if_pos (by omega), wrm (by omega) (by omega), if_pos (by omega), if_pos (by omega), rd_nat l (i - 1) (by omega), if_neg h3, wr1 (by omega)]) ?_
            have := ih (i + 1) (by omega)
            rwa [decide_eq_true (by omega), Bool.true_and]
theorem runsR (l : List Int) (hb : l.length < 4611686018427387904) : Ev (fun k => skiarearef46_runs.f k l) (runsB l) := by
  have := runsR_l0 l hb l.length 0 (by omega)
  rw [List.drop_zero, show prevAt l 0 = 0 from rfl] at this
  exact Ev.cg this (fun k => rfl)

/-! ### two ropes -/
def clashB (a b : S29) : Bool := if b.f2 ≤ a.f1 ∨ a.f2 ≤ b.f1 then false else a.f3.any (fun n => decide (n ∈ b.f3)) || a.f0 == b.f0
theorem clash_l0 (a b : S29) (ha : a.f3.length < 4611686018427387904) (hb : b.f3.length < 4611686018427387904) : ∀ (d i : Nat), i + d = a.f3.length →
    Ev (fun k => skiarearef46_clash.l0 k i a.f0 a.f1 a.f2 a.f3 b.f0 b.f1 b.f2 b.f3) ((a.f3.drop i).any (fun n => decide (n ∈ b.f3)) || a.f0 == b.f0) := by
  intro d
  induction d with
  | zero =>
    intro i hi
    refine Ev.step (f := fun _ => some (a.f0 == b.f0)) (fun k => by simp only [skiarearef46_clash.l0]; rw [if_neg (by omega)]) (ev_some ?_)
    rw [List.drop_of_length_le (by omega)]; simp
  | succ d ih =>
    intro i hi
    have hlt : i < a.f3.length := by omega
    refine Ev.step (f := fun k => (skiarearef46_has.f k b.f3 (rd a.f3 i)).bind fun t277 => (if t277 = true then (some true) else (skiarearef46_clash.l0 k (wrap64 ((i : Int) + 1)) a.f0 a.f1 a.f2 a.f3 b.f0 b.f1 b.f2 b.f3))) (fun k => by simp only [skiarearef46_clash.l0]; rw [if_pos (by omega), if_pos (by omega)]) ?_
    refine Ev.bind (hasR b.f3 _ hb) ?_
    rw [rd_nat _ _ hlt, wr1 (by omega), List.drop_eq_getElem_cons hlt, List.any_cons]
    by_cases h : a.f3[i] ∈ b.f3
    · simp only [h, decide_true, if_true, Bool.true_or]
      exact Ev.now _
    · simp only [h, decide_false, Bool.false_or]
      exact ih (i + 1) (by omega)
theorem clash (a b : S29) (ha : a.f3.length < 4611686018427387904) (hb : b.f3.length < 4611686018427387904) :
    Ev (fun k => skiarearef46_clash.f k a.f0 a.f1 a.f2 a.f3 b.f0 b.f1 b.f2 b.f3) (clashB a b) := by
  have hj : ∀ x : Bool, Ev (fun k => skiarearef46_clash.j0 k x a.f0 a.f1 a.f2 a.f3 b.f0 b.f1 b.f2 b.f3) (if x = true then false else (a.f3.any (fun n => decide (n ∈ b.f3)) || a.f0 == b.f0)) := by
    intro x
    refine Ev.step (f := fun k => if x = true then (some false) else (skiarearef46_clash.l0 k 0 a.f0 a.f1 a.f2 a.f3 b.f0 b.f1 b.f2 b.f3)) (fun k => by simp only [skiarearef46_clash.j0]) ?_
    cases x with
    | true => exact Ev.now _
    | false =>
      have := clash_l0 a b ha hb a.f3.length 0 (by omega)
      simpa using this
  unfold clashB
  by_cases h1 : a.f1 ≥ b.f2
  · rw [if_pos (.inl h1)]
    exact Ev.cg (hj true) (fun k => by simp only [skiarearef46_clash.f]; rw [if_pos h1])
  · refine Ev.cg (f := fun k => skiarearef46_clash.j0 k (decide (b.f1 ≥ a.f2)) a.f0 a.f1 a.f2 a.f3 b.f0 b.f1 b.f2 b.f3) ?_ (fun k => by simp only [skiarearef46_clash.f]; rw [if_neg h1])
    by_cases h2 : b.f1 ≥ a.f2
    · rw [decide_eq_true h2, if_pos (.inr h2)]
      exact hj true
    · rw [decide_eq_false h2, if_neg (by omega)]
      exact hj false
theorem clash_eq (a b : S29) : clashB a b = ((decide (a.f1 < b.f2) && decide (b.f1 < a.f2)) && (a.f0 == b.f0 || a.f3.any (fun n => b.f3.contains n))) := by
  unfold clashB
  have e : (fun n => decide (n ∈ b.f3)) = (fun n => b.f3.contains n) := by funext n; simp
  by_cases h : b.f2 ≤ a.f1 ∨ a.f2 ≤ b.f1
  · rw [if_pos h]
    rcases h with h | h
    · rw [decide_eq_false (by omega : ¬ a.f1 < b.f2)]; rfl
    · rw [decide_eq_false (by omega : ¬ b.f1 < a.f2), Bool.and_false]; rfl
  · rw [if_neg h, decide_eq_true (by omega), decide_eq_true (by omega), e, Bool.or_comm]; rfl

/-! ### Right -/
def badB (w : S29) : Bool := decide (w.f0 < 1 ∨ w.f0 > 9999 ∨ w.f1 < 0 ∨ w.f1 ≥ w.f2 ∨ w.f2 > 20000000)
def rightS (pre : List S29) : List S29 → Int
  | [] => 0
  | w :: r => if badB w then 2 else if !runsB w.f3 then 1 else if pre.any (fun p => clashB p w) then 15 else rightS (pre ++ [w]) r
def rightC (l : List S29) : Int := if l.length > 16 then 4 else rightS [] l
def Small (l : List S29) : Prop := ∀ x ∈ l, x.f3.length < 4611686018427387904
theorem take_succ (l : List S29) (i : Nat) (h : i < l.length) : l.take (i + 1) = l.take i ++ [l[i]] := List.take_succ_eq_append_getElem h

theorem rightW_l1 (l : List S29) (hs : Small l) (hb : l.length ≤ 1000) (i : Nat) (hi : i < l.length) (r : Int) (hnext : Ev (fun k => winch_Right.l0 k l l (l.length : Int) ((i + 1 : Nat) : Int)) r) : ∀ (d j : Nat), j + d = i →
    Ev (fun k => winch_Right.l1 k l l (l.length : Int) i (l.take i) ((l.take i).length : Int) j l[i].f0 l[i].f1 l[i].f2 l[i].f3) (if ((l.take i).drop j).any (fun p => clashB p l[i]) then 15 else r) := by
  intro d
  have hlen : (l.take i).length = i := by rw [List.length_take]; omega
  induction d with
  | zero =>
    intro j hj
    refine Ev.step (f := fun k => winch_Right.l0 k l l (l.length : Int) (wrap64 ((i : Int) + 1))) (fun k => by simp only [winch_Right.l1]; rw [if_neg (by omega)]) ?_
    rw [List.drop_of_length_le (by omega), wr1 (by omega)]
    simpa using hnext
  | succ d ih =>
    intro j hj
    have hlt : j < (l.take i).length := by omega
    have hjl : j < l.length := by omega
    have hg : (l.take i)[j] = l[j] := by simp
    rw [List.drop_eq_getElem_cons hlt, List.any_cons, clash_eq, hg]
    have step : ∀ k, winch_Right.l1 (k + 1) l l (l.length : Int) i (l.take i) ((l.take i).length : Int) j l[i].f0 l[i].f1 l[i].f2 l[i].f3 = (if (decide (l[j].f1 < l[i].f2) && decide (l[i].f1 < l[j].f2)) = true then (if l[j].f0 = l[i].f0 then (some 15) else (if (l[j].f3.any (fun n => l[i].f3.contains n)) = true then (some 15) else (winch_Right.l1 k l l (l.length : Int) i (l.take i) ((l.take i).length : Int) ((j + 1 : Nat) : Int) l[i].f0 l[i].f1 l[i].f2 l[i].f3))) else (winch_Right.l1 k l l (l.length : Int) i (l.take i) ((l.take i).length : Int) ((j + 1 : Nat) : Int) l[i].f0 l[i].f1 l[i].f2 l[i].f3)) := by
      intro k
      simp only [winch_Right.l1]
      rw [if_pos (by omega), if_pos (by omega), if_pos (by omega), rdS_nat _ _ hlt, hg, wr1 (by omega)]
      have ho : winch_overlap.f l[j].f0 l[j].f1 l[j].f2 l[j].f3 l[i].f0 l[i].f1 l[i].f2 l[i].f3 = some (decide (l[j].f1 < l[i].f2) && decide (l[i].f1 < l[j].f2)) := by
        unfold winch_overlap.f
        by_cases h : l[j].f1 < l[i].f2
        · rw [if_pos h, decide_eq_true h]; rfl
        · rw [if_neg h, decide_eq_false h]; rfl
      rw [ho]
      simp only [Option.bind_some, winch_common.f]
    refine Ev.step step ?_
    have hih := ih (j + 1) (by omega)
    cases ho : (decide (l[j].f1 < l[i].f2) && decide (l[i].f1 < l[j].f2)) with
    | false => simpa using hih
    | true =>
      simp only [if_true, Bool.true_and]
      by_cases h0 : l[j].f0 = l[i].f0
      · simp only [h0, if_true, beq_self_eq_true, Bool.true_or]
        exact Ev.now _
      · simp only [if_neg h0, beq_eq_false_iff_ne.2 h0, Bool.false_or]
        cases hc : (l[j].f3.any (fun n => l[i].f3.contains n)) with
        | true => simp only [if_true, Bool.or_true, Bool.true_or]; exact Ev.now _
        | false => simpa using hih
theorem rightW_l0 (l : List S29) (hs : Small l) (hb : l.length ≤ 1000) : ∀ (d i : Nat), i + d = l.length → Ev (fun k => winch_Right.l0 k l l (l.length : Int) i) (rightS (l.take i) (l.drop i)) := by
  intro d
  induction d with
  | zero =>
    intro i hi
    refine Ev.step (f := fun _ => some 0) (fun k => by simp only [winch_Right.l0]; rw [if_neg (by omega)]) (ev_some ?_)
    rw [List.drop_of_length_le (by omega)]; rfl
  | succ d ih =>
    intro i hi
    have hlt : i < l.length := by omega
    have hj : ∀ x : Bool, Ev (fun k => winch_Right.j1 k l i l (l.length : Int) i x l[i].f0 l[i].f1 l[i].f2 l[i].f3) (if x = true then 2 else if !runsB l[i].f3 then 1 else if (l.take i).any (fun p => clashB p l[i]) then 15 else rightS (l.take i ++ [l[i]]) (l.drop (i + 1))) := by
      intro x
      refine Ev.step (f := fun k => if x = true then (some 2) else ((winch_runs.f k l[i].f3).bind fun t107 => (if t107 = true then (winch_Right.l1 k l l (l.length : Int) i (l.take i) ((l.take i).length : Int) ((0 : Nat) : Int) l[i].f0 l[i].f1 l[i].f2 l[i].f3) else (some 1)))) (fun k => by
        simp only [winch_Right.j1]
        rw [if_pos (show (0 : Int) ≤ (i : Int) by omega), if_pos (show (i : Int) ≤ (l.length : Int) by omega)]
        simp only [Option.bind_some, Int.toNat_natCast]
        rfl) ?_
      cases x with
      | true => exact Ev.now _
      | false =>
        simp only [if_neg (show ¬ (false = true) by decide)]
        refine Ev.bind (runsW _ (hs _ (List.getElem_mem hlt))) ?_
        cases hr : runsB l[i].f3 with
        | false => exact Ev.now _
        | true =>
          simp only [if_true, Bool.not_true, if_neg (show ¬ (false = true) by decide)]
          have h1 := ih (i + 1) (by omega)
          rw [take_succ l i hlt] at h1
          have := rightW_l1 l hs hb i hlt _ h1 i 0 (by omega)
          simpa using this
    rw [List.drop_eq_getElem_cons hlt]
    show Ev _ (if badB l[i] then _ else _)
    by_cases hbad : badB l[i] = true
    · rw [if_pos hbad]
      have h1 := hj true
      rw [if_pos rfl] at h1
      have hb' : l[i].f0 < 1 ∨ l[i].f0 > 9999 ∨ l[i].f1 < 0 ∨ l[i].f1 ≥ l[i].f2 ∨ l[i].f2 > 20000000 := by simpa [badB] using hbad
      refine Ev.step (f := fun k => winch_Right.j1 k l i l (l.length : Int) i true l[i].f0 l[i].f1 l[i].f2 l[i].f3) (fun k => ?_) h1
      simp only [winch_Right.l0]
      rw [if_pos (by omega), if_pos (by omega), if_pos (by omega), rdS_nat _ _ hlt]
      by_cases c1 : l[i].f0 < 1
      · rw [if_pos c1]
      · by_cases c2 : l[i].f0 > 9999
        · rw [if_neg c1, if_pos c2]
        · by_cases c3 : l[i].f1 < 0
          · rw [if_neg c1, if_neg c2, if_pos c3]
          · by_cases c4 : l[i].f1 ≥ l[i].f2
            · rw [if_neg c1, if_neg c2, if_neg c3, if_pos c4]
            · rw [if_neg c1, if_neg c2, if_neg c3, if_neg c4, decide_eq_true (by omega)]
    · rw [if_neg hbad]
      have h1 := hj false
      rw [if_neg (by decide)] at h1
      have hb' : ¬ (l[i].f0 < 1 ∨ l[i].f0 > 9999 ∨ l[i].f1 < 0 ∨ l[i].f1 ≥ l[i].f2 ∨ l[i].f2 > 20000000) := by simpa [badB] using hbad
      refine Ev.step (f := fun k => winch_Right.j1 k l i l (l.length : Int) i false l[i].f0 l[i].f1 l[i].f2 l[i].f3) (fun k => ?_) h1
      simp only [winch_Right.l0]
      rw [if_pos (by omega), if_pos (by omega), if_pos (by omega), rdS_nat _ _ hlt, if_neg (by omega), if_neg (by omega), if_neg (by omega), if_neg (by omega), decide_eq_false (by omega)]
theorem rightW (l : List S29) (hs : Small l) : Ev (fun k => winch_Right.f k l) (rightC l) := by
  unfold rightC
  by_cases h : l.length > 16
  · rw [if_pos h]
    exact Ev.cg (f := fun _ => some 4) (Ev.now _) (fun k => by simp only [winch_Right.f]; rw [if_pos (by omega)])
  · rw [if_neg h]
    have := rightW_l0 l hs (by omega) l.length 0 (by omega)
    simp only [List.take_zero, List.drop_zero] at this
    exact Ev.cg this (fun k => by simp only [winch_Right.f]; rw [if_neg (by omega)]; rfl)

theorem rightR_l1 (l : List S29) (hs : Small l) (hb : l.length ≤ 1000) (i : Nat) (hi : i < l.length) (r : Int) (hnext : Ev (fun k => skiarearef46_Right.l0 k l ((i + 1 : Nat) : Int)) r) : ∀ (d j : Nat), j + d = i →
    Ev (fun k => skiarearef46_Right.l1 k l i j l[i].f0 l[i].f1 l[i].f2 l[i].f3) (if ((l.take i).drop j).any (fun p => clashB p l[i]) then 15 else r) := by
  intro d
  have hlen : (l.take i).length = i := by rw [List.length_take]; omega
  induction d with
  | zero =>
    intro j hj
    refine Ev.step (f := fun k => skiarearef46_Right.l0 k l (wrap64 ((i : Int) + 1))) (fun k => by simp only [skiarearef46_Right.l1]; rw [if_neg (by omega)]) ?_
    rw [List.drop_of_length_le (by omega), wr1 (by omega)]
    simpa using hnext
  | succ d ih =>
    intro j hj
    have hlt : j < (l.take i).length := by omega
    have hjl : j < l.length := by omega
    have hg : (l.take i)[j] = l[j] := by simp
    rw [List.drop_eq_getElem_cons hlt, List.any_cons, hg]
    refine Ev.step (f := fun k => (skiarearef46_clash.f k l[j].f0 l[j].f1 l[j].f2 l[j].f3 l[i].f0 l[i].f1 l[i].f2 l[i].f3).bind fun t => (if t = true then (some 15) else (skiarearef46_Right.l1 k l i ((j + 1 : Nat) : Int) l[i].f0 l[i].f1 l[i].f2 l[i].f3))) (fun k => by
      simp only [skiarearef46_Right.l1]
      rw [if_pos (by omega), if_pos (by omega), if_pos (by omega), rdS_nat _ _ hjl, wr1 (by omega)]) ?_
    refine Ev.bind (clash l[j] l[i] (hs _ (List.getElem_mem hjl)) (hs _ (List.getElem_mem hi))) ?_
    cases hc : clashB l[j] l[i] with
    | true => simp only [if_true, Bool.true_or]; exact Ev.now _
    | false => simpa using ih (j + 1) (by omega)
theorem rightR_l0 (l : List S29) (hs : Small l) (hb : l.length ≤ 1000) : ∀ (d i : Nat), i + d = l.length → Ev (fun k => skiarearef46_Right.l0 k l i) (rightS (l.take i) (l.drop i)) := by
  intro d
  induction d with
  | zero =>
    intro i hi
    refine Ev.step (f := fun _ => some 0) (fun k => by simp only [skiarearef46_Right.l0]; rw [if_neg (by omega)]) (ev_some ?_)
    rw [List.drop_of_length_le (by omega)]; rfl
  | succ d ih =>
    intro i hi
    have hlt : i < l.length := by omega
    have hj : ∀ x : Bool, Ev (fun k => skiarearef46_Right.j1 k l i x l[i].f0 l[i].f1 l[i].f2 l[i].f3) (if x = true then 2 else if !runsB l[i].f3 then 1 else if (l.take i).any (fun p => clashB p l[i]) then 15 else rightS (l.take i ++ [l[i]]) (l.drop (i + 1))) := by
      intro x
      refine Ev.step (f := fun k => if x = true then (some 2) else ((skiarearef46_runs.f k l[i].f3).bind fun t107 => (if t107 = true then (skiarearef46_Right.l1 k l i ((0 : Nat) : Int) l[i].f0 l[i].f1 l[i].f2 l[i].f3) else (some 1)))) (fun k => by
        simp only [skiarearef46_Right.j1]; rfl) ?_
      cases x with
      | true => exact Ev.now _
      | false =>
        simp only [if_neg (show ¬ (false = true) by decide)]
        refine Ev.bind (runsR _ (hs _ (List.getElem_mem hlt))) ?_
        cases hr : runsB l[i].f3 with
        | false => exact Ev.now _
        | true =>
          simp only [if_true, Bool.not_true, if_neg (show ¬ (false = true) by decide)]
          have h1 := ih (i + 1) (by omega)
          rw [take_succ l i hlt] at h1
          have := rightR_l1 l hs hb i hlt _ h1 i 0 (by omega)
          simpa using this
    rw [List.drop_eq_getElem_cons hlt]
    show Ev _ (if badB l[i] then _ else _)
    by_cases hbad : badB l[i] = true
    · rw [if_pos hbad]
      have h1 := hj true
      rw [if_pos rfl] at h1
      have hb' : l[i].f0 < 1 ∨ l[i].f0 > 9999 ∨ l[i].f1 < 0 ∨ l[i].f1 ≥ l[i].f2 ∨ l[i].f2 > 20000000 := by simpa [badB] using hbad
      refine Ev.step (f := fun k => skiarearef46_Right.j1 k l i true l[i].f0 l[i].f1 l[i].f2 l[i].f3) (fun k => ?_) h1
      simp only [skiarearef46_Right.l0]
      rw [if_pos (by omega), if_pos (by omega), rdS_nat _ _ hlt]
      by_cases c1 : l[i].f0 < 1
      · rw [if_pos c1]
      · by_cases c2 : l[i].f0 > 9999
        · rw [if_neg c1, if_pos c2]
        · by_cases c3 : l[i].f1 < 0
          · rw [if_neg c1, if_neg c2, if_pos c3]
          · by_cases c4 : l[i].f1 ≥ l[i].f2
            · rw [if_neg c1, if_neg c2, if_neg c3, if_pos c4]
            · rw [if_neg c1, if_neg c2, if_neg c3, if_neg c4, decide_eq_true (by omega)]
    · rw [if_neg hbad]
      have h1 := hj false
      rw [if_neg (by decide)] at h1
      have hb' : ¬ (l[i].f0 < 1 ∨ l[i].f0 > 9999 ∨ l[i].f1 < 0 ∨ l[i].f1 ≥ l[i].f2 ∨ l[i].f2 > 20000000) := by simpa [badB] using hbad
      refine Ev.step (f := fun k => skiarearef46_Right.j1 k l i false l[i].f0 l[i].f1 l[i].f2 l[i].f3) (fun k => ?_) h1
      simp only [skiarearef46_Right.l0]
      rw [if_pos (by omega), if_pos (by omega), rdS_nat _ _ hlt, if_neg (by omega), if_neg (by omega), if_neg (by omega), if_neg (by omega), decide_eq_false (by omega)]
theorem rightR (l : List S29) (hs : Small l) : Ev (fun k => skiarearef46_Right.f k l) (rightC l) := by
  unfold rightC
  by_cases h : l.length > 16
  · rw [if_pos h]
    exact Ev.cg (f := fun _ => some 4) (Ev.now _) (fun k => by simp only [skiarearef46_Right.f]; rw [if_pos (by omega)])
  · rw [if_neg h]
    have := rightR_l0 l hs (by omega) l.length 0 (by omega)
    simp only [List.take_zero, List.drop_zero] at this
    exact Ev.cg this (fun k => by simp only [skiarearef46_Right.f]; rw [if_neg (by omega)]; rfl)
end Go.Proofs.Ytipnnihjkipnoaa.Pure
