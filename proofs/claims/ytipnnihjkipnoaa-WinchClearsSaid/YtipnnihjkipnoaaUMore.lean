/- What Lay, Clear, Free, few, right and the comparisons answer; the chapter's examples. -/
import Derived.Test.YtipnnihjkipnoaaUBase
namespace Go.Proofs.Ytipnnihjkipnoaa.Pure
set_option linter.unusedSimpArgs false
open Go.RowKit Go.Proofs.Ytipnnihjkipnoaa.PAll Go.Proofs.YtipnnihjkipnoaaW.PrintWords Go.Proofs.YtipnnihjkipnoaaW.PrintLast Go.Proofs.YtipnnihjkipnoaaW.PrintMore
set_option linter.unusedVariables false

def fewB (l : List S29) : Bool := decide (l.length ≤ 40) && l.all (fun x => decide (x.f3.length ≤ 100))
theorem few_l0 (l : List S29) (hb : l.length ≤ 1000) : ∀ (d i : Nat), i + d = l.length → Ev (fun k => skiarealaw46_few.l0 k l i) ((l.drop i).all (fun x => decide (x.f3.length ≤ 100))) := by
  intro d
  induction d with
  | zero =>
    intro i hi
    refine Ev.step (f := fun _ => some true) (fun k => by simp only [skiarealaw46_few.l0]; rw [if_neg (by omega)]) (ev_some ?_)
    rw [List.drop_of_length_le (by omega)]; rfl
  | succ d ih =>
    intro i hi
    have hlt : i < l.length := by omega
    rw [List.drop_eq_getElem_cons hlt, List.all_cons]
    by_cases h : l[i].f3.length ≤ 100
    · refine Ev.step (f := fun k => skiarealaw46_few.l0 k l ((i + 1 : Nat) : Int)) (fun k => by simp only [skiarealaw46_few.l0]; rw [if_pos (by omega), if_pos (by omega), rdS_nat _ _ hlt, if_neg (by omega), wr1 (by omega)]) ?_
      rw [decide_eq_true h, Bool.true_and]
      exact ih (i + 1) (by omega)
    · refine Ev.step (f := fun _ => some false) (fun k => by simp only [skiarealaw46_few.l0]; rw [if_pos (by omega), if_pos (by omega), rdS_nat _ _ hlt, if_pos (by omega)]) (ev_some ?_)
      rw [decide_eq_false h]; rfl
theorem few (l : List S29) : Ev (fun k => skiarealaw46_few.f k l) (fewB l) := by
  unfold fewB
  by_cases h : l.length ≤ 40
  · have := few_l0 l (by omega) l.length 0 (by omega)
    rw [List.drop_zero] at this
    rw [decide_eq_true h, Bool.true_and]
    exact Ev.cg this (fun k => by simp only [skiarealaw46_few.f]; rw [if_neg (by omega)]; rfl)
  · rw [decide_eq_false h, Bool.false_and]
    exact Ev.cg (Ev.now false) (fun k => by simp only [skiarealaw46_few.f]; rw [if_pos (by omega)])
theorem few_all {l : List S29} (h : fewB l = true) : l.length ≤ 40 ∧ ∀ x ∈ l, x.f3.length ≤ 100 := by
  simp only [fewB, Bool.and_eq_true, decide_eq_true_eq, List.all_eq_true] at h
  exact h
theorem few_small {l : List S29} (h : fewB l = true) : Small l := fun x hx => by have := (few_all h).2 x hx; omega
def okB (l : List S29) : Bool := fewB l && (rightC l == 0)
theorem right (l : List S29) : Ev (fun k => skiarealaw46_right.f k l) (okB l) := by
  refine Ev.cg (f := fun k => (skiarealaw46_few.f k l).bind fun t => (if t = true then ((skiarearef46_Right.f k l).bind fun t => (some (t == 0))) else (some false))) ?_ (fun k => rfl)
  refine Ev.bind (few l) ?_
  unfold okB
  cases h : fewB l with
  | false => exact Ev.now _
  | true =>
    simp only [if_true, Bool.true_and]
    exact Ev.bind (f := fun _ t => some (t == 0)) (rightR l (few_small h)) (Ev.now _)
theorem ok_parts {l : List S29} (h : okB l = true) : fewB l = true ∧ rightC l = 0 := by
  simpa [okB] using h

/-! ### comparisons: of what is equal -/
theorem sameInts_l0 (l : List Int) (hb : l.length < 4611686018427387904) : ∀ (d i : Nat), i + d = l.length → Ev (fun k => skiarearef46_SameInts.l0 k l l i) true := by
  intro d
  induction d with
  | zero =>
    intro i hi
    exact Ev.step (f := fun _ => some true) (fun k => by simp only [skiarearef46_SameInts.l0]; rw [if_neg (by omega)]) (Ev.now _)
  | succ d ih =>
    intro i hi
    have hlt : i < l.length := by omega
    refine Ev.step (f := fun k => skiarearef46_SameInts.l0 k l l ((i + 1 : Nat) : Int)) (fun k => by simp only [skiarearef46_SameInts.l0]; rw [if_pos (by omega), if_pos (by omega), if_pos (by omega), if_pos trivial, wr1 (by omega)]) (ih (i + 1) (by omega))
theorem sameInts (l : List Int) (hb : l.length < 4611686018427387904) : Ev (fun k => skiarearef46_SameInts.f k l l) true := by
  have := sameInts_l0 l hb l.length 0 (by omega)
  exact Ev.cg this (fun k => by simp only [skiarearef46_SameInts.f]; rw [if_pos trivial]; rfl)
theorem same_l0 (l : List S29) (hs : Small l) (hb : l.length < 4611686018427387904) : ∀ (d i : Nat), i + d = l.length → Ev (fun k => skiarearef46_Same.l0 k l l i) true := by
  intro d
  induction d with
  | zero =>
    intro i hi
    exact Ev.step (f := fun _ => some true) (fun k => by simp only [skiarearef46_Same.l0]; rw [if_neg (by omega)]) (Ev.now _)
  | succ d ih =>
    intro i hi
    have hlt : i < l.length := by omega
    refine Ev.step (f := fun k => (skiarearef46_SameInts.f k l[i].f3 l[i].f3).bind fun t => (if t = true then (skiarearef46_Same.l0 k l l ((i + 1 : Nat) : Int)) else (none))) (fun k => by
      simp only [skiarearef46_Same.l0]
      rw [if_pos (by omega), if_pos (by omega), if_pos (by omega), if_pos trivial, if_pos trivial, if_pos trivial, rdS_nat _ _ hlt, wr1 (by omega)]) ?_
    refine Ev.bind (sameInts _ (hs _ (List.getElem_mem hlt))) ?_
    simp only [if_true]
    exact ih (i + 1) (by omega)
theorem same (l : List S29) (hs : Small l) (hb : l.length < 4611686018427387904) : Ev (fun k => skiarearef46_Same.f k l l) true := by
  have := same_l0 l hs hb l.length 0 (by omega)
  exact Ev.cg this (fun k => by simp only [skiarearef46_Same.f]; rw [if_pos trivial]; rfl)

/-! ### own, Lay, Clear, Free -/
def Tiny (l : List S29) : Prop := l.length ≤ 1000 ∧ ∀ x ∈ l, x.f3.length ≤ 1000
theorem tiny_small {l : List S29} (h : Tiny l) : Small l := fun x hx => by have := h.2 x hx; omega
theorem few_tiny {l : List S29} (h : fewB l = true) : Tiny l := ⟨by have := (few_all h).1; omega, fun x hx => by have := (few_all h).2 x hx; omega⟩
theorem own_eq (x : S29) (h : x.f3.length ≤ 1000) : winch_own.f x.f0 x.f1 x.f2 x.f3 = some (x.f0, x.f1, x.f2, x.f3) := by
  unfold winch_own.f slices_Clone_int_int.f
  rw [if_pos (by omega)]; rfl
def layS (l : List S29) (w : S29) : List S29 × Int := if rightC (l ++ [w]) = 0 then (l ++ [w], 0) else ([], rightC (l ++ [w]))
theorem lay_l0 (l : List S29) (w : S29) (ht : Tiny l) (hw : w.f3.length ≤ 1000) : ∀ (d i : Nat), i + d = l.length → Ev (fun k => winch_Lay.l0 k (l.take i) l (l.length : Int) i w.f0 w.f1 w.f2 w.f3) (layS l w) := by
  intro d
  induction d with
  | zero =>
    intro i hi
    have hs : Small (l ++ [w]) := fun x hx => by
      rcases List.mem_append.1 hx with h | h
      · have := ht.2 x h; omega
      · obtain rfl := List.mem_singleton.1 h; omega
    have htl : l.take i = l := List.take_of_length_le (by omega)
    rw [htl]
    refine Ev.step (f := fun k => (winch_Right.f k (l ++ [w])).bind fun t => (if t = 0 then (some (l ++ [w], (0 : Int))) else (some (([] : List (S29)), t)))) (fun k => by
      simp only [winch_Lay.l0]
      rw [if_neg (by omega), own_eq w hw]
      simp only [Option.bind_some]
      rw [if_pos (by have := ht.1; omega)]) ?_
    refine Ev.bind (rightW _ hs) ?_
    unfold layS
    by_cases h : rightC (l ++ [w]) = 0
    · simp only [h, if_true]
      exact Ev.now _
    · simp only [if_neg h]
      exact Ev.now _
  | succ d ih =>
    intro i hi
    have hlt : i < l.length := by omega
    refine Ev.step (f := fun k => winch_Lay.l0 k (l.take i ++ [l[i]]) l (l.length : Int) ((i + 1 : Nat) : Int) w.f0 w.f1 w.f2 w.f3) (fun k => by
      simp only [winch_Lay.l0]
      rw [if_pos (by omega), if_pos (by omega), if_pos (by omega), rdS_nat _ _ hlt, own_eq _ (ht.2 _ (List.getElem_mem hlt))]
      simp only [Option.bind_some]
      rw [if_pos (by rw [List.length_take]; have := ht.1; omega), wr1 (by have := ht.1; omega)]) ?_
    have := ih (i + 1) (by omega)
    rwa [take_succ l i hlt] at this
theorem lay (l : List S29) (w : S29) (ht : Tiny l) (hw : w.f3.length ≤ 1000) : Ev (fun k => winch_Lay.f k l w.f0 w.f1 w.f2 w.f3) (layS l w) := by
  have := lay_l0 l w ht hw l.length 0 (by omega)
  exact Ev.cg this (fun k => rfl)
theorem clear_l0 (l : List S29) (t : Int) (ht : Tiny l) : ∀ (d i : Nat), i + d = l.length → Ev (fun k => winch_Clear.l0 k t ((l.take i).filter (fun x => decide (x.f2 > t))) l (l.length : Int) i) (l.filter (fun x => decide (x.f2 > t))) := by
  intro d
  induction d with
  | zero =>
    intro i hi
    rw [List.take_of_length_le (by omega)]
    exact Ev.step (f := fun _ => some (l.filter (fun x => decide (x.f2 > t)))) (fun k => by simp only [winch_Clear.l0]; rw [if_neg (by omega)]) (Ev.now _)
  | succ d ih =>
    intro i hi
    have hlt : i < l.length := by omega
    have hl := ht.1
    have hfl : ((l.take i).filter (fun x => decide (x.f2 > t))).length ≤ i := Nat.le_trans (List.length_filter_le _ _) (List.length_take_le _ _)
    have h1 := ih (i + 1) (by omega)
    rw [take_succ l i hlt, List.filter_append] at h1
    by_cases h : l[i].f2 > t
    · refine Ev.step (f := fun k => winch_Clear.l0 k t ((l.take i).filter (fun x => decide (x.f2 > t)) ++ [l[i]]) l (l.length : Int) ((i + 1 : Nat) : Int)) (fun k => by
        simp only [winch_Clear.l0]
        rw [if_pos (by omega), if_pos (by omega), if_pos (by omega), rdS_nat _ _ hlt, if_pos h, own_eq _ (ht.2 _ (List.getElem_mem hlt))]
        simp only [Option.bind_some]
        rw [if_pos (by omega), wr1 (by omega)]) ?_
      rwa [List.filter_cons_of_pos (by simpa using h), List.filter_nil] at h1
    · refine Ev.step (f := fun k => winch_Clear.l0 k t ((l.take i).filter (fun x => decide (x.f2 > t))) l (l.length : Int) ((i + 1 : Nat) : Int)) (fun k => by
        simp only [winch_Clear.l0]
        rw [if_pos (by omega), if_pos (by omega), if_pos (by omega), rdS_nat _ _ hlt, if_neg h, wr1 (by omega)]) ?_
      rwa [List.filter_cons_of_neg (by simpa using h), List.filter_nil, List.append_nil] at h1
theorem clear (l : List S29) (t : Int) (ht : Tiny l) : Ev (fun k => winch_Clear.f k l t) (l.filter (fun x => decide (x.f2 > t))) := by
  have := clear_l0 l t ht l.length 0 (by omega)
  exact Ev.cg this (fun k => rfl)
def busyB (run a b : Int) (x : S29) : Bool := decide (mx x.f1 a < mn x.f2 b) && decide (run ∈ x.f3)
theorem free_l0 (l : List S29) (run a b : Int) (ht : Tiny l) : ∀ (d i : Nat), i + d = l.length → Ev (fun k => winch_Free.l0 k run l (l.length : Int) i a b) ((l.drop i).all (fun x => !busyB run a b x)) := by
  intro d
  induction d with
  | zero =>
    intro i hi
    refine Ev.step (f := fun _ => some true) (fun k => by simp only [winch_Free.l0]; rw [if_neg (by omega)]) (ev_some ?_)
    rw [List.drop_of_length_le (by omega)]; rfl
  | succ d ih =>
    intro i hi
    have hlt : i < l.length := by omega
    have hl := ht.1
    rw [List.drop_eq_getElem_cons hlt, List.all_cons]
    have h1 := ih (i + 1) (by omega)
    by_cases h : mx l[i].f1 a < mn l[i].f2 b
    · refine Ev.step (f := fun k => (slices_Contains_int_int.f k l[i].f3 run).bind fun t => (if t = true then (some false) else (winch_Free.l0 k run l (l.length : Int) ((i + 1 : Nat) : Int) a b))) (fun k => by
        simp only [winch_Free.l0]
        rw [if_pos (by omega), if_pos (by omega), if_pos (by omega), rdS_nat _ _ hlt, if_pos h, wr1 (by omega)]) ?_
      refine Ev.bind (contains _ _ (by have := ht.2 _ (List.getElem_mem hlt); omega)) ?_
      unfold busyB
      rw [decide_eq_true h, Bool.true_and]
      by_cases hc : run ∈ l[i].f3
      · simp only [hc, decide_true, if_true]
        exact Ev.now _
      · simp only [hc, decide_false]
        exact h1
    · refine Ev.step (f := fun k => winch_Free.l0 k run l (l.length : Int) ((i + 1 : Nat) : Int) a b) (fun k => by
        simp only [winch_Free.l0]
        rw [if_pos (by omega), if_pos (by omega), if_pos (by omega), rdS_nat _ _ hlt, if_neg h, wr1 (by omega)]) ?_
      rw [show busyB run a b l[i] = false from by unfold busyB; rw [decide_eq_false h]; rfl]
      exact h1
theorem free (l : List S29) (run a b : Int) (ht : Tiny l) : Ev (fun k => winch_Free.f k l run a b) (l.all (fun x => !busyB run a b x)) := by
  have := free_l0 l run a b ht l.length 0 (by omega)
  rw [List.drop_zero] at this
  exact Ev.cg this (fun k => rfl)

/-! ### what a right list is -/
theorem rightS_zero : ∀ (rest pre : List S29), rightS pre rest = 0 ↔ (∀ w ∈ rest, badB w = false ∧ runsB w.f3 = true) ∧ (∀ p ∈ pre, ∀ w ∈ rest, clashB p w = false) ∧ rest.Pairwise (fun a b => clashB a b = false)
  | [], pre => by simp [rightS]
  | w :: r, pre => by
    unfold rightS
    cases hb : badB w with
    | true => simp [hb]
    | false =>
      cases hr : runsB w.f3 with
      | false => simp [hb, hr]
      | true =>
        simp only [if_neg (show ¬ (false = true) by decide), Bool.not_true]
        cases hc : pre.any (fun p => clashB p w) with
        | true =>
          simp only [if_true]
          obtain ⟨p, hp, hpw⟩ := List.any_eq_true.1 hc
          constructor
          · intro h; simp at h
          · rintro ⟨_, h, _⟩
            have := h p hp w (by simp)
            rw [hpw] at this
            cases this
        | false =>
          simp only [if_neg (show ¬ (false = true) by decide)]
          have hn : ∀ p ∈ pre, clashB p w = false := fun p hp => by
            cases e : clashB p w with
            | false => rfl
            | true => rw [List.any_eq_true.2 ⟨p, hp, e⟩] at hc; cases hc
          rw [rightS_zero r (pre ++ [w])]
          constructor
          · rintro ⟨h1, h2, h3⟩
            refine ⟨fun x hx => ?_, fun p hp x hx => ?_, List.pairwise_cons.2 ⟨fun x hx => h2 w (by simp) x hx, h3⟩⟩
            · rcases List.mem_cons.1 hx with rfl | hx
              · exact ⟨hb, hr⟩
              · exact h1 x hx
            · rcases List.mem_cons.1 hx with rfl | hx
              · exact hn p hp
              · exact h2 p (by simp [hp]) x hx
          · rintro ⟨h1, h2, h3⟩
            obtain ⟨h4, h5⟩ := List.pairwise_cons.1 h3
            refine ⟨fun x hx => h1 x (by simp [hx]), fun p hp x hx => ?_, h5⟩
            rcases List.mem_append.1 hp with hp | hp
            · exact h2 p hp x (by simp [hx])
            · obtain rfl := List.mem_singleton.1 hp
              exact h4 x hx
def Right (l : List S29) : Prop := l.length ≤ 16 ∧ (∀ w ∈ l, badB w = false ∧ runsB w.f3 = true) ∧ l.Pairwise (fun a b => clashB a b = false)
theorem rightC_zero (l : List S29) : rightC l = 0 ↔ Right l := by
  unfold rightC Right
  by_cases h : l.length > 16
  · rw [if_pos h]
    constructor
    · intro h; simp at h
    · rintro ⟨h1, _⟩; omega
  · rw [if_neg h, rightS_zero]
    simp only [List.not_mem_nil, false_implies, implies_true, true_and]
    constructor
    · rintro ⟨h1, h2⟩; exact ⟨by omega, h1, h2⟩
    · rintro ⟨_, h1, h2⟩; exact ⟨h1, h2⟩
theorem right_filter {l : List S29} (h : Right l) (p : S29 → Bool) : Right (l.filter p) :=
  ⟨Nat.le_trans (List.length_filter_le _ _) h.1, fun w hw => h.2.1 w (List.mem_filter.1 hw).1, h.2.2.filter _⟩
theorem okRuns_mem : ∀ (l : List Int) (p : Int), okRuns p l = true → (∀ x ∈ l, 1 ≤ x ∧ x ≤ 9999 ∧ p < x) ∧ l.Pairwise (· < ·)
  | [], _, _ => by simp
  | x :: r, p, h => by
    simp only [okRuns, Bool.and_eq_true, decide_eq_true_eq] at h
    obtain ⟨h1, h2⟩ := okRuns_mem r x h.2
    refine ⟨fun y hy => ?_, List.pairwise_cons.2 ⟨fun y hy => (h1 y hy).2.2, h2⟩⟩
    rcases List.mem_cons.1 hy with rfl | hy
    · exact h.1
    · have := h1 y hy
      omega
theorem right_runs {l : List S29} (h : Right l) {x : S29} (hx : x ∈ l) : 0 < x.f3.length ∧ (∀ y ∈ x.f3, 1 ≤ y ∧ y ≤ 9999) ∧ x.f3.Pairwise (· < ·) := by
  have := (h.2.1 x hx).2
  simp only [runsB, Bool.and_eq_true, decide_eq_true_eq] at this
  obtain ⟨h1, h2⟩ := okRuns_mem _ _ this.1
  exact ⟨this.2, fun y hy => ⟨(h1 y hy).1, (h1 y hy).2.1⟩, h2⟩
theorem right_times {l : List S29} (h : Right l) {x : S29} (hx : x ∈ l) : 0 ≤ x.f1 ∧ x.f1 < x.f2 ∧ x.f2 ≤ 20000000 := by
  have := (h.2.1 x hx).1
  simp only [badB, decide_eq_false_iff_not] at this
  omega
theorem swept_eq {l : List S29} (h : Right l) (ht : Tiny l) (t : Int) : winch_Swept.f l t = some (Help.sset (runsOf (l.filter (onB t)))) := by
  unfold winch_Swept.f
  rw [if_pos ⟨ht.1, fun x hx => ⟨(right_runs h hx).1, ht.2 x hx⟩⟩]

/-- The chapter's examples hold. -/
theorem alive : Ev (fun k => skiarealaw46_alive.f k) true := by
  refine Ev.of (fun k => skiarealaw46_alive.mono k) (k := 40) ?_
  decide +kernel
end Go.Proofs.Ytipnnihjkipnoaa.Pure
