/- What Right, small and accepted answer for any paths, in plain lists. No condition but a bound on the lists' lengths. -/
import Derived.Test.YtfjnpdgjigkbcaaPAllx3
import Derived.Test.YtfjnpdgjigkbcaaPAllx4
import Derived.Test.YtfjnpdgjigkbcaaPAllx5
import Derived.Test.YtfjnpdgjigkbcaaPAllx6
import Derived.Test.YtfjnpdgjigkbcaaPAllx7
import Derived.Test.YtfjnpdgjigkbcaaPAllx9
import Derived.Test.YtfjnpdgjigkbcaaUUnst
import Derived.Test.YtfjnpdgjigkbcaaGBase
namespace Go.Proofs.Ytfjnpdgjigkbcaa.Pure
open Go.RowKit Go.Proofs.Ytfjnpdgjigkbcaa.PAll Go.Proofs.YtfjnpdgjigkbcaaW.PrintWords Go.Proofs.YtfjnpdgjigkbcaaW.PrintLast Go.Proofs.YtfjnpdgjigkbcaaW.PrintMore
set_option linter.unusedVariables false
set_option linter.unusedSimpArgs false

theorem take_succ (l : List S34) (i : Nat) (h : i < l.length) : l.take (i + 1) = l.take i ++ [l[i]] := List.take_succ_eq_append_getElem h
theorem within_eq (n a b : Int) : avalanche_within.f n a b = some (decide (a ≤ n ∧ n ≤ b)) := by
  unfold avalanche_within.f
  by_cases h : n ≥ a
  · rw [if_pos h]; congr 1; by_cases h2 : n ≤ b
    · rw [decide_eq_true h2, decide_eq_true (by omega)]
    · rw [decide_eq_false h2, decide_eq_false (by omega)]
  · rw [if_neg h, decide_eq_false (by omega)]
/-! ### rising -/
def okUp (m : Int) : Int → List Int → Bool
  | _, [] => true
  | p, x :: r => decide (1 ≤ x ∧ x ≤ m ∧ p < x) && okUp m x r
def prevAt (l : List Int) (i : Nat) : Int := if i = 0 then 0 else l.getD (i - 1) 0
theorem prev_succ (l : List Int) (i : Nat) (h : i < l.length) : prevAt l (i + 1) = l[i] := by simp [prevAt, List.getD_eq_getElem?_getD, h]
theorem okUp_step (m : Int) (l : List Int) (i : Nat) (h : i < l.length) : okUp m (prevAt l i) (l.drop i) = (decide (1 ≤ l[i] ∧ l[i] ≤ m ∧ prevAt l i < l[i]) && okUp m (prevAt l (i + 1)) (l.drop (i + 1))) := by
  rw [List.drop_eq_getElem_cons h, prev_succ l i h]; rfl
def upB (m : Int) (l : List Int) : Bool := okUp m 0 l
theorem risingW_l0 (m : Int) (l : List Int) (hb : l.length < 4611686018427387904) : ∀ (d i : Nat), i + d = l.length → Ev (fun k => avalanche_rising.l0 k l m l (l.length : Int) i) (okUp m (prevAt l i) (l.drop i)) := by
  intro d
  induction d with
  | zero =>
    intro i hi
    refine Ev.step (f := fun _ => some true) (fun k => by simp only [avalanche_rising.l0]; rw [if_neg (by omega)]) (ev_some ?_)
    rw [List.drop_of_length_le (by omega)]; rfl
  | succ d ih =>
    intro i hi
    have hlt : i < l.length := by omega
    rw [okUp_step m l i hlt]
    by_cases h1 : 1 ≤ l[i] ∧ l[i] ≤ m
    · by_cases h0 : i = 0
      · subst h0
        refine Ev.step (f := fun k => avalanche_rising.l0 k l m l (l.length : Int) ((0 + 1 : Nat) : Int)) (fun k => ?_) ?_
        · simp only [avalanche_rising.l0]
          rw [if_pos (by omega), if_pos (by omega), if_pos (by omega), rd_nat l 0 hlt, within_eq, decide_eq_true h1]
          simp only [Option.bind_some, if_true]
          rw [if_neg (by omega), wr1 (by omega)]
        · have := ih (0 + 1) (by omega)
          rwa [decide_eq_true (by simp only [prevAt, if_pos]; omega), Bool.true_and]
      · have hp : prevAt l i = l[i - 1]'(by omega) := by
          unfold prevAt
          rw [if_neg h0, List.getD_eq_getElem?_getD, List.getElem?_eq_getElem (by omega)]
          rfl
        by_cases h3 : l[i] ≤ l[i - 1]'(by omega)
        · refine Ev.step (f := fun _ => some false) (fun k => ?_) (ev_some ?_)
          · simp only [avalanche_rising.l0]
            rw [if_pos (by omega), if_pos (by omega), if_pos (by omega), rd_nat l i hlt, within_eq, decide_eq_true h1]
            simp only [Option.bind_some, if_true]
            rw [if_pos (by omega), wrm (by omega) (by omega), if_pos (by omega), if_pos (by omega), rd_nat l (i - 1) (by omega), if_pos h3]
          · rw [decide_eq_false (by omega)]; rfl
        · refine Ev.step (f := fun k => avalanche_rising.l0 k l m l (l.length : Int) ((i + 1 : Nat) : Int)) (fun k => ?_) ?_
          · simp only [avalanche_rising.l0]
            rw [if_pos (by omega), if_pos (by omega), if_pos (by omega), rd_nat l i hlt, within_eq, decide_eq_true h1]
            simp only [Option.bind_some, if_true]
            rw [if_pos (by omega), wrm (by omega) (by omega), if_pos (by omega), if_pos (by omega), rd_nat l (i - 1) (by omega), if_neg h3, wr1 (by omega)]
          · have := ih (i + 1) (by omega)
            rwa [decide_eq_true (by omega), Bool.true_and]
    · refine Ev.step (f := fun _ => some false) (fun k => ?_) (ev_some ?_)
      · simp only [avalanche_rising.l0]
        rw [if_pos (by omega), if_pos (by omega), if_pos (by omega), rd_nat l i hlt, within_eq, decide_eq_false h1]
        rfl
      · rw [decide_eq_false (by omega)]; rfl
theorem risingW (m : Int) (l : List Int) (hb : l.length < 4611686018427387904) : Ev (fun k => avalanche_rising.f k l m) (upB m l) := by
  have := risingW_l0 m l hb l.length 0 (by omega)
  exact Ev.cg this (fun k => rfl)
theorem risingR_l0 (m : Int) (l : List Int) (hb : l.length < 4611686018427387904) : ∀ (d i : Nat), i + d = l.length → Ev (fun k => skiarearef50_rising.l0 k l m i) (okUp m (prevAt l i) (l.drop i)) := by
  intro d
  induction d with
  | zero =>
    intro i hi
    refine Ev.step (f := fun _ => some true) (fun k => by simp only [skiarearef50_rising.l0]; rw [if_neg (by omega)]) (ev_some ?_)
    rw [List.drop_of_length_le (by omega)]; rfl
  | succ d ih =>
    intro i hi
    have hlt : i < l.length := by omega
    rw [okUp_step m l i hlt]
    by_cases h1 : l[i] < 1
    · refine Ev.step (f := fun _ => some false) (fun k => by simp only [skiarearef50_rising.l0]; rw [if_pos (by omega), if_pos (by omega), rd_nat l i hlt, if_pos h1]) (ev_some ?_)
      rw [decide_eq_false (by omega)]; rfl
    · by_cases h2 : l[i] > m
      · refine Ev.step (f := fun _ => some false) (fun k => by simp only [skiarearef50_rising.l0]; rw [if_pos (by omega), if_pos (by omega), rd_nat l i hlt, if_neg h1, if_pos h2]) (ev_some ?_)
        rw [decide_eq_false (by omega)]; rfl
      · by_cases h0 : i = 0
        · subst h0
          refine Ev.step (f := fun k => skiarearef50_rising.l0 k l m ((0 + 1 : Nat) : Int)) (fun k => by simp only [skiarearef50_rising.l0]; rw [if_pos (by omega), if_pos (by omega), rd_nat l 0 hlt, if_neg h1, if_neg h2, if_neg (by omega), wr1 (by omega)]) ?_
          have := ih (0 + 1) (by omega)
          rwa [decide_eq_true (by simp only [prevAt, if_pos]; omega), Bool.true_and]
        · have hp : prevAt l i = l[i - 1]'(by omega) := by
            unfold prevAt
            rw [if_neg h0, List.getD_eq_getElem?_getD, List.getElem?_eq_getElem (by omega)]
            rfl
          by_cases h3 : l[i] ≤ l[i - 1]'(by omega)
          · refine Ev.step (f := fun _ => some false) (fun k => by simp only [skiarearef50_rising.l0]; rw [if_pos (by omega), if_pos (by omega), rd_nat l i hlt, if_neg h1, if_neg h2, if_pos (by omega), wrm (by omega) (by omega), if_pos (by omega), if_pos (by omega), rd_nat l (i - 1) (by omega), if_pos h3]) (ev_some ?_)
            rw [decide_eq_false (by omega)]; rfl
          · refine Ev.step (f := fun k => skiarearef50_rising.l0 k l m ((i + 1 : Nat) : Int)) (fun k => by simp only [skiarearef50_rising.l0]; rw [if_pos (by omega), if_pos (by omega), rd_nat l i hlt, if_neg h1, if_neg h2, if_pos (by omega), wrm (by omega) (by omega), if_pos (by omega), if_pos (by omega), rd_nat l (i - 1) (by omega), if_neg h3, wr1 (by omega)]) ?_
            have := ih (i + 1) (by omega)
            rwa [decide_eq_true (by omega), Bool.true_and]
theorem risingR (m : Int) (l : List Int) (hb : l.length < 4611686018427387904) : Ev (fun k => skiarearef50_rising.f k l m) (upB m l) := by
  have := risingR_l0 m l hb l.length 0 (by omega)
  exact Ev.cg this (fun k => rfl)
/-! ### small -/
def smallB (l : List S34) : Bool := decide (l.length ≤ 50) && l.all (fun x => decide (x.f1.length ≤ 100 ∧ x.f2.length ≤ 100))
theorem small_l0 (l : List S34) : ∀ (d i : Nat), i + d = min l.length 51 → Ev (fun k => skiarealaw50_small.l0 k l i) (decide (l.length ≤ 50) && (l.drop i).all (fun x => decide (x.f1.length ≤ 100 ∧ x.f2.length ≤ 100))) := by
  intro d
  induction d with
  | zero =>
    intro i hi
    have hj : Ev (fun k => skiarealaw50_small.j1 k l i false) (decide (l.length ≤ 50)) := Ev.step (f := fun _ => some (decide ((l.length : Int) ≤ 50))) (fun k => by simp only [skiarealaw50_small.j1]; rw [if_neg (by decide)]) (ev_some (decide_eq_decide.2 (by omega)))
    have he : (decide (l.length ≤ 50) && (l.drop i).all (fun x => decide (x.f1.length ≤ 100 ∧ x.f2.length ≤ 100))) = decide (l.length ≤ 50) := by
      by_cases h : l.length ≤ 50
      · rw [List.drop_of_length_le (by omega), List.all_nil, Bool.and_true]
      · rw [decide_eq_false h, Bool.false_and]
    rw [he]
    refine Ev.step (f := fun k => skiarealaw50_small.j1 k l i false) (fun k => ?_) hj
    simp only [skiarealaw50_small.l0]
    by_cases h : (i : Int) < (l.length : Int)
    · rw [if_pos h, decide_eq_false (by omega)]
    · rw [if_neg h]
  | succ d ih =>
    intro i hi
    have hlt : i < l.length := by omega
    rw [List.drop_eq_getElem_cons hlt, List.all_cons]
    refine Ev.step (f := fun k => skiarealaw50_small.j1 k l i true) (fun k => by simp only [skiarealaw50_small.l0]; rw [if_pos (by omega), decide_eq_true (by omega)]) ?_
    by_cases h1 : l[i].f1.length ≤ 100
    · by_cases h2 : l[i].f2.length ≤ 100
      · refine Ev.step (f := fun k => skiarealaw50_small.l0 k l ((i + 1 : Nat) : Int)) (fun k => by simp only [skiarealaw50_small.j1]; rw [if_pos trivial, if_pos (by omega), if_pos (by omega), rdS_nat _ _ hlt, if_neg (by omega), if_neg (by omega), wr1 (by omega)]) ?_
        rw [decide_eq_true (p := l[i].f1.length ≤ 100 ∧ l[i].f2.length ≤ 100) ⟨h1, h2⟩, Bool.true_and]
        exact ih (i + 1) (by omega)
      · refine Ev.step (f := fun _ => some false) (fun k => by simp only [skiarealaw50_small.j1]; rw [if_pos trivial, if_pos (by omega), if_pos (by omega), rdS_nat _ _ hlt, if_neg (by omega), if_pos (by omega)]) (ev_some ?_)
        rw [decide_eq_false (p := l[i].f1.length ≤ 100 ∧ l[i].f2.length ≤ 100) (by omega), Bool.false_and, Bool.and_false]
    · refine Ev.step (f := fun _ => some false) (fun k => by simp only [skiarealaw50_small.j1]; rw [if_pos trivial, if_pos (by omega), if_pos (by omega), rdS_nat _ _ hlt, if_pos (by omega)]) (ev_some ?_)
      rw [decide_eq_false (p := l[i].f1.length ≤ 100 ∧ l[i].f2.length ≤ 100) (by omega), Bool.false_and, Bool.and_false]
theorem small (l : List S34) : Ev (fun k => skiarealaw50_small.f k l) (smallB l) := by
  have := small_l0 l (min l.length 51) 0 (by omega)
  rw [List.drop_zero] at this
  exact Ev.cg this (fun k => rfl)
theorem small_all {l : List S34} (h : smallB l = true) : l.length ≤ 50 ∧ ∀ x ∈ l, x.f1.length ≤ 100 ∧ x.f2.length ≤ 100 := by
  simp only [smallB, Bool.and_eq_true, decide_eq_true_eq, List.all_eq_true] at h
  exact h

/-! ### Right -/
def badB (w : S34) : Bool := decide (¬ (1 ≤ w.f0 ∧ w.f0 ≤ 9999 ∧ 4 ≤ w.f3 ∧ w.f3 ≤ 100000 ∧ 0 ≤ w.f4 ∧ w.f4 ≤ 100000 ∧ -1 ≤ w.f5 ∧ w.f5 ≤ 20000000))
def rightS (pre : List S34) : List S34 → Int
  | [] => 0
  | w :: r => if badB w = true then 2 else if pre.any (fun p => decide (p.f0 = w.f0)) = true then 7 else if w.f1.length = 0 then 1 else if upB 32 w.f1 = true then (if upB 9999 w.f2 = true then rightS (pre ++ [w]) r else 1) else 1
def rightC (l : List S34) : Int := if l.length > 32 then 4 else rightS [] l
theorem find_any : ∀ (l : List S34) (id i : Int), 0 ≤ i → decide (findAt l id i ≥ 0) = l.any (fun p => decide (p.f0 = id))
  | [], id, i, _ => by simp [findAt]
  | s :: r, id, i, h => by
    unfold findAt
    rw [List.any_cons]
    by_cases e : s.f0 = id
    · rw [if_pos e, decide_eq_true e, Bool.true_or, decide_eq_true h]
    · rw [if_neg e, decide_eq_false e, Bool.false_or]
      exact find_any r id (i + 1) (by omega)
def Short (l : List S34) : Prop := ∀ x ∈ l, x.f1.length < 4611686018427387904 ∧ x.f2.length < 4611686018427387904
theorem rightW_l0 (l : List S34) (hs : Short l) (hb : l.length ≤ 1000) : ∀ (d i : Nat), i + d = l.length → Ev (fun k => avalanche_Right.l0 k l l (l.length : Int) i) (rightS (l.take i) (l.drop i)) := by
  intro d
  induction d with
  | zero =>
    intro i hi
    refine Ev.step (f := fun _ => some 0) (fun k => by simp only [avalanche_Right.l0]; rw [if_neg (by omega)]) (ev_some ?_)
    rw [List.drop_of_length_le (by omega)]; rfl
  | succ d ih =>
    intro i hi
    have hlt : i < l.length := by omega
    have hsx := hs _ (List.getElem_mem hlt)
    have hj : ∀ b : Bool, Ev (fun k => avalanche_Right.j1 k l i l (l.length : Int) i b l[i].f0 l[i].f1 l[i].f2 l[i].f3 l[i].f4 l[i].f5) (if b = true then 2 else if (l.take i).any (fun p => decide (p.f0 = l[i].f0)) = true then 7 else if l[i].f1.length = 0 then 1 else if upB 32 l[i].f1 = true then (if upB 9999 l[i].f2 = true then rightS (l.take i ++ [l[i]]) (l.drop (i + 1)) else 1) else 1) := by
      intro b
      refine Ev.step (f := fun k => if b = true then (some 2) else (if findAt (l.take i) l[i].f0 0 ≥ 0 then (some 7) else (if (l[i].f1.length : Int) = 0 then (some 1) else ((avalanche_rising.f k l[i].f1 32).bind fun t115 => (if t115 = true then ((avalanche_rising.f k l[i].f2 9999).bind fun t116 => (if t116 = true then (avalanche_Right.l0 k l l (l.length : Int) ((i + 1 : Nat) : Int)) else (some 1))) else (some 1)))))) (fun k => ?_) ?_
      · simp only [avalanche_Right.j1]
        rw [if_pos (show (0 : Int) ≤ (i : Int) by omega), if_pos (show (i : Int) ≤ (l.length : Int) by omega)]
        simp only [avalanche_find.f, Option.bind_some, Int.toNat_natCast]
        rw [wr1 (by omega)]
      · cases b with
        | true => exact Ev.now _
        | false =>
          simp only [if_neg (show ¬ (false = true) by decide)]
          have hf := find_any (l.take i) l[i].f0 0 (by omega)
          by_cases h7 : findAt (l.take i) l[i].f0 0 ≥ 0
          · rw [decide_eq_true h7] at hf
            simp only [if_pos h7, ← hf, if_true]
            exact Ev.now _
          · rw [decide_eq_false h7] at hf
            simp only [if_neg h7, ← hf, if_neg (show ¬ (false = true) by decide)]
            by_cases h0 : l[i].f1.length = 0
            · simp only [h0, if_true, show ((0 : Nat) : Int) = 0 from rfl]
              exact Ev.now _
            · simp only [if_neg h0, if_neg (show ¬ (l[i].f1.length : Int) = 0 by omega)]
              refine Ev.bind (risingW 32 _ hsx.1) ?_
              cases hu : upB 32 l[i].f1 with
              | false => exact Ev.now _
              | true =>
                simp only [if_true]
                refine Ev.bind (risingW 9999 _ hsx.2) ?_
                cases hv : upB 9999 l[i].f2 with
                | false => exact Ev.now _
                | true =>
                  simp only [if_true]
                  have := ih (i + 1) (by omega)
                  rwa [take_succ l i hlt] at this
    rw [List.drop_eq_getElem_cons hlt]
    show Ev _ (if badB l[i] = true then _ else _)
    have hstep : ∀ b : Bool, badB l[i] = b → Ev (fun k => avalanche_Right.l0 k l l (l.length : Int) i) (if b = true then 2 else if (l.take i).any (fun p => decide (p.f0 = l[i].f0)) = true then 7 else if l[i].f1.length = 0 then 1 else if upB 32 l[i].f1 = true then (if upB 9999 l[i].f2 = true then rightS (l.take i ++ [l[i]]) (l.drop (i + 1)) else 1) else 1) := by
      intro b hbad
      refine Ev.step (f := fun k => avalanche_Right.j1 k l i l (l.length : Int) i b l[i].f0 l[i].f1 l[i].f2 l[i].f3 l[i].f4 l[i].f5) (fun k => ?_) (hj b)
      simp only [avalanche_Right.l0]
      rw [if_pos (by omega), if_pos (by omega), if_pos (by omega), rdS_nat _ _ hlt, within_eq, within_eq, within_eq, within_eq]
      simp only [Option.bind_some]
      subst hbad
      unfold badB
      by_cases c1 : 1 ≤ l[i].f0 ∧ l[i].f0 ≤ 9999
      · rw [if_pos (decide_eq_true c1)]
        by_cases c2 : 4 ≤ l[i].f3 ∧ l[i].f3 ≤ 100000
        · rw [if_pos (decide_eq_true c2)]
          by_cases c3 : 0 ≤ l[i].f4 ∧ l[i].f4 ≤ 100000
          · rw [if_pos (decide_eq_true c3)]
            by_cases c4 : -1 ≤ l[i].f5 ∧ l[i].f5 ≤ 20000000
            · rw [decide_eq_true c4, decide_eq_false (by omega)]; rfl
            · rw [decide_eq_false c4, decide_eq_true (by omega)]; rfl
          · rw [if_neg (by simpa using c3), decide_eq_true (by omega)]
        · rw [if_neg (by simpa using c2), decide_eq_true (by omega)]
      · rw [if_neg (by simpa using c1), decide_eq_true (by omega)]
    exact hstep _ rfl
theorem rightW (l : List S34) (hs : Short l) (hb : l.length ≤ 1000) : Ev (fun k => avalanche_Right.f k l) (rightC l) := by
  unfold rightC
  by_cases h : l.length > 32
  · rw [if_pos h]
    exact Ev.cg (f := fun _ => some 4) (Ev.now _) (fun k => by simp only [avalanche_Right.f]; rw [if_pos (by omega)])
  · rw [if_neg h]
    have := rightW_l0 l hs hb l.length 0 (by omega)
    simp only [List.take_zero, List.drop_zero] at this
    exact Ev.cg this (fun k => by simp only [avalanche_Right.f]; rw [if_neg (by omega)]; rfl)
theorem rightR_l1 (l : List S34) (hs : Short l) (hb : l.length ≤ 1000) (i : Nat) (hi : i < l.length) (r : Int) (hnext : Ev (fun k => skiarearef50_Right.l0 k l ((i + 1 : Nat) : Int)) r) : ∀ (d j : Nat), j + d = i →
    Ev (fun k => skiarearef50_Right.l1 k l i j l[i].f0 l[i].f1 l[i].f2 l[i].f3 l[i].f4 l[i].f5) (if ((l.take i).drop j).any (fun p => decide (p.f0 = l[i].f0)) = true then 7 else if l[i].f1.length = 0 then 1 else if upB 32 l[i].f1 = true then (if upB 9999 l[i].f2 = true then r else 1) else 1) := by
  intro d
  have hlen : (l.take i).length = i := by rw [List.length_take]; omega
  have hsx := hs _ (List.getElem_mem hi)
  induction d with
  | zero =>
    intro j hj
    refine Ev.step (f := fun k => (if (l[i].f1.length : Int) = 0 then (some 1) else ((skiarearef50_rising.f k l[i].f1 32).bind fun t115 => (if t115 = true then ((skiarearef50_rising.f k l[i].f2 9999).bind fun t116 => (if t116 = true then (skiarearef50_Right.l0 k l ((i + 1 : Nat) : Int)) else (some 1))) else (some 1))))) (fun k => by simp only [skiarearef50_Right.l1]; rw [if_neg (by omega), wr1 (by omega)]) ?_
    rw [List.drop_of_length_le (by omega), List.any_nil]
    simp only [if_neg (show ¬ (false = true) by decide)]
    by_cases h0 : l[i].f1.length = 0
    · simp only [h0, if_true, show ((0 : Nat) : Int) = 0 from rfl]
      exact Ev.now _
    · simp only [if_neg h0, if_neg (show ¬ (l[i].f1.length : Int) = 0 by omega)]
      refine Ev.bind (risingR 32 _ hsx.1) ?_
      cases hu : upB 32 l[i].f1 with
      | false => exact Ev.now _
      | true =>
        simp only [if_true]
        refine Ev.bind (risingR 9999 _ hsx.2) ?_
        cases hv : upB 9999 l[i].f2 with
        | false => exact Ev.now _
        | true =>
          simp only [if_true]
          exact hnext
  | succ d ih =>
    intro j hj
    have hlt : j < (l.take i).length := by omega
    have hjl : j < l.length := by omega
    have hg : (l.take i)[j] = l[j] := by simp
    rw [List.drop_eq_getElem_cons hlt, List.any_cons, hg]
    by_cases e : l[j].f0 = l[i].f0
    · rw [decide_eq_true e, Bool.true_or, if_pos rfl]
      exact Ev.step (f := fun _ => some 7) (fun k => by simp only [skiarearef50_Right.l1]; rw [if_pos (by omega), if_pos (by omega), if_pos (by omega), rdS_nat _ _ hjl, if_pos e]) (Ev.now _)
    · rw [decide_eq_false e, Bool.false_or]
      exact Ev.step (f := fun k => skiarearef50_Right.l1 k l i ((j + 1 : Nat) : Int) l[i].f0 l[i].f1 l[i].f2 l[i].f3 l[i].f4 l[i].f5) (fun k => by simp only [skiarearef50_Right.l1]; rw [if_pos (by omega), if_pos (by omega), if_pos (by omega), rdS_nat _ _ hjl, if_neg e, wr1 (by omega)]) (ih (j + 1) (by omega))
theorem rightR_l0 (l : List S34) (hs : Short l) (hb : l.length ≤ 1000) : ∀ (d i : Nat), i + d = l.length → Ev (fun k => skiarearef50_Right.l0 k l i) (rightS (l.take i) (l.drop i)) := by
  intro d
  induction d with
  | zero =>
    intro i hi
    refine Ev.step (f := fun _ => some 0) (fun k => by simp only [skiarearef50_Right.l0]; rw [if_neg (by omega)]) (ev_some ?_)
    rw [List.drop_of_length_le (by omega)]; rfl
  | succ d ih =>
    intro i hi
    have hlt : i < l.length := by omega
    have hj : ∀ b : Bool, Ev (fun k => skiarearef50_Right.j1 k l i b l[i].f0 l[i].f1 l[i].f2 l[i].f3 l[i].f4 l[i].f5) (if b = true then 2 else if (l.take i).any (fun p => decide (p.f0 = l[i].f0)) = true then 7 else if l[i].f1.length = 0 then 1 else if upB 32 l[i].f1 = true then (if upB 9999 l[i].f2 = true then rightS (l.take i ++ [l[i]]) (l.drop (i + 1)) else 1) else 1) := by
      intro b
      refine Ev.step (f := fun k => if b = true then (some 2) else (skiarearef50_Right.l1 k l i ((0 : Nat) : Int) l[i].f0 l[i].f1 l[i].f2 l[i].f3 l[i].f4 l[i].f5)) (fun k => by simp only [skiarearef50_Right.j1]; rfl) ?_
      cases b with
      | true => exact Ev.now _
      | false =>
        simp only [if_neg (show ¬ (false = true) by decide)]
        have h1 := ih (i + 1) (by omega)
        rw [take_succ l i hlt] at h1
        have := rightR_l1 l hs hb i hlt _ h1 i 0 (by omega)
        rwa [List.drop_zero] at this
    rw [List.drop_eq_getElem_cons hlt]
    show Ev _ (if badB l[i] = true then _ else _)
    have hstep : ∀ b : Bool, badB l[i] = b → Ev (fun k => skiarearef50_Right.l0 k l i) (if b = true then 2 else if (l.take i).any (fun p => decide (p.f0 = l[i].f0)) = true then 7 else if l[i].f1.length = 0 then 1 else if upB 32 l[i].f1 = true then (if upB 9999 l[i].f2 = true then rightS (l.take i ++ [l[i]]) (l.drop (i + 1)) else 1) else 1) := by
      intro b hbad
      refine Ev.step (f := fun k => skiarearef50_Right.j1 k l i b l[i].f0 l[i].f1 l[i].f2 l[i].f3 l[i].f4 l[i].f5) (fun k => ?_) (hj b)
      simp only [skiarearef50_Right.l0]
      rw [if_pos (by omega), if_pos (by omega), rdS_nat _ _ hlt]
      subst hbad
      unfold badB
      by_cases c1 : l[i].f0 < 1
      · rw [if_pos c1, decide_eq_true (by omega)]
      · by_cases c2 : l[i].f0 > 9999
        · rw [if_neg c1, if_pos c2, decide_eq_true (by omega)]
        · by_cases c3 : l[i].f3 < 4
          · rw [if_neg c1, if_neg c2, if_pos c3, decide_eq_true (by omega)]
          · by_cases c4 : l[i].f3 > 100000
            · rw [if_neg c1, if_neg c2, if_neg c3, if_pos c4, decide_eq_true (by omega)]
            · by_cases c5 : l[i].f4 < 0
              · rw [if_neg c1, if_neg c2, if_neg c3, if_neg c4, if_pos c5, decide_eq_true (by omega)]
              · by_cases c6 : l[i].f4 > 100000
                · rw [if_neg c1, if_neg c2, if_neg c3, if_neg c4, if_neg c5, if_pos c6, decide_eq_true (by omega)]
                · by_cases c7 : l[i].f5 < -1
                  · rw [if_neg c1, if_neg c2, if_neg c3, if_neg c4, if_neg c5, if_neg c6, if_pos c7, decide_eq_true (by omega)]
                  · rw [if_neg c1, if_neg c2, if_neg c3, if_neg c4, if_neg c5, if_neg c6, if_neg c7]
                    by_cases c8 : l[i].f5 > 20000000
                    · rw [decide_eq_true c8, decide_eq_true (by omega)]
                    · rw [decide_eq_false c8, decide_eq_false (by omega)]
    exact hstep _ rfl
theorem rightR (l : List S34) (hs : Short l) (hb : l.length ≤ 1000) : Ev (fun k => skiarearef50_Right.f k l) (rightC l) := by
  unfold rightC
  by_cases h : l.length > 32
  · rw [if_pos h]
    exact Ev.cg (f := fun _ => some 4) (Ev.now _) (fun k => by simp only [skiarearef50_Right.f]; rw [if_pos (by omega)])
  · rw [if_neg h]
    have := rightR_l0 l hs hb l.length 0 (by omega)
    simp only [List.take_zero, List.drop_zero] at this
    exact Ev.cg this (fun k => by simp only [skiarearef50_Right.f]; rw [if_neg (by omega)]; rfl)
theorem small_short {l : List S34} (h : smallB l = true) : Short l := fun x hx => by have := (small_all h).2 x hx; omega
def okB (l : List S34) : Bool := smallB l && (rightC l == 0)
theorem accepted (l : List S34) : Ev (fun k => skiarealaw50_accepted.f k l) (okB l) := by
  refine Ev.cg (f := fun k => (skiarealaw50_small.f k l).bind fun t241 => (if t241 = true then ((skiarearef50_Right.f k l).bind fun t242 => (some (t242 == 0))) else (some false))) ?_ (fun k => rfl)
  refine Ev.bind (small l) ?_
  unfold okB
  cases h : smallB l with
  | false => exact Ev.now _
  | true =>
    simp only [if_true, Bool.true_and]
    exact Ev.bind (f := fun _ t => some (t == 0)) (rightR l (small_short h) (by have := (small_all h).1; omega)) (Ev.now _)
end Go.Proofs.Ytfjnpdgjigkbcaa.Pure
