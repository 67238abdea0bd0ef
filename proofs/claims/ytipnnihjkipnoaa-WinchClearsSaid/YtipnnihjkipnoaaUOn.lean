/- What sweeps at a time, and when a run is free, in plain lists. No condition. -/
import Derived.Test.YtipnnihjkipnoaaUMore
namespace Go.Proofs.Ytipnnihjkipnoaa.Pure
set_option linter.unusedVariables false
set_option linter.unusedSimpArgs false
open Go.RowKit Go.Proofs.Ytipnnihjkipnoaa.PAll Go.Proofs.YtipnnihjkipnoaaW.PrintWords Go.Proofs.YtipnnihjkipnoaaW.PrintLast Go.Proofs.YtipnnihjkipnoaaW.PrintMore
def freeB (l : List S29) (run a b : Int) : Bool := l.all (fun x => !busyB run a b x)
theorem sset_len_le (l : List Int) : (Help.sset l).length ≤ l.length := by
  induction l with
  | nil => simp [Help.sset]
  | cons x l ih =>
    have h : ∀ y (m : List Int), (Help.insU y m).length ≤ m.length + 1 := by
      intro y m
      induction m with
      | nil => simp [Help.insU]
      | cons z m ihm =>
        unfold Help.insU
        split
        · simp
        · split
          · simp
          · simp only [List.length_cons]; omega
    show (Help.insU x (Help.sset l)).length ≤ _
    have := h x (Help.sset l)
    simp only [List.length_cons]; omega
theorem runs_len (l : List S29) (h : ∀ x ∈ l, x.f3.length ≤ 1000) : (runsOf l).length ≤ l.length * 1000 := by
  induction l with
  | nil => simp [runsOf]
  | cons x l ih =>
    have h1 := h x (by simp)
    have h2 := ih (fun y hy => h y (by simp [hy]))
    simp only [runsOf, List.flatMap_cons, List.length_append, List.length_cons] at h2 ⊢
    omega
theorem swept_small {l : List S29} (ht : Tiny l) (t : Int) : (Help.sset (runsOf (l.filter (onB t)))).length < 4611686018427387904 := by
  have h1 := sset_len_le (runsOf (l.filter (onB t)))
  have h2 := runs_len (l.filter (onB t)) (fun x hx => ht.2 x (List.mem_filter.1 hx).1)
  have h3 := List.length_filter_le (onB t) l
  have h4 := ht.1
  omega
theorem swept_not_free {l : List S29} (h : Right l) (run t : Int) : decide (run ∈ Help.sset (runsOf (l.filter (onB t)))) = !freeB l run t (t + 1) := by
  have e : (run ∈ Help.sset (runsOf (l.filter (onB t)))) ↔ ∃ x ∈ l, busyB run t (t + 1) x = true := by
    rw [Help.mem_sset]
    simp only [runsOf, List.mem_flatMap, List.mem_filter]
    constructor
    · rintro ⟨x, ⟨hx, hon⟩, hm⟩
      refine ⟨x, hx, ?_⟩
      have := right_times h hx
      simp only [onB, Bool.and_eq_true, decide_eq_true_eq] at hon
      simp only [busyB, Bool.and_eq_true, decide_eq_true_eq]
      refine ⟨?_, hm⟩
      unfold mx mn
      split <;> split <;> omega
    · rintro ⟨x, hx, hb⟩
      have := right_times h hx
      simp only [busyB, Bool.and_eq_true, decide_eq_true_eq] at hb
      refine ⟨x, ⟨hx, ?_⟩, hb.2⟩
      simp only [onB, Bool.and_eq_true, decide_eq_true_eq]
      have := hb.1
      unfold mx mn at this
      split at this <;> split at this <;> omega
  unfold freeB
  by_cases hh : ∃ x ∈ l, busyB run t (t + 1) x = true
  · rw [decide_eq_true (e.2 hh)]
    obtain ⟨x, hx, hb⟩ := hh
    have : l.all (fun x => !busyB run t (t + 1) x) = false := by
      rw [List.all_eq_false]
      exact ⟨x, hx, by rw [hb]; decide⟩
    rw [this]; rfl
  · rw [decide_eq_false (fun z => hh (e.1 z))]
    have : l.all (fun x => !busyB run t (t + 1) x) = true := by
      rw [List.all_eq_true]
      intro x hx
      cases hb : busyB run t (t + 1) x with
      | false => rfl
      | true => exact absurd ⟨x, hx, hb⟩ hh
    rw [this]; rfl
theorem busy_split {l : List S29} (h : Right l) {x : S29} (hx : x ∈ l) (run a b c : Int) (h1 : a ≤ b) (h2 : b ≤ c) : busyB run a c x = (busyB run a b x || busyB run b c x) := by
  have ht := right_times h hx
  unfold busyB
  rw [← Bool.and_or_distrib_right, ← Bool.decide_or]
  congr 1
  refine decide_eq_decide.2 ?_
  unfold mx mn
  constructor
  · intro hh
    (repeat' split at hh) <;> (repeat' split) <;> omega
  · intro hh
    (repeat' split at hh) <;> (repeat' split) <;> omega
theorem free_split {l : List S29} (h : Right l) (run a b c : Int) (h1 : a ≤ b) (h2 : b ≤ c) : freeB l run a c = (freeB l run a b && freeB l run b c) := by
  unfold freeB
  rw [Bool.eq_iff_iff]
  simp only [List.all_eq_true, Bool.and_eq_true]
  constructor
  · intro hh
    constructor <;> intro x hx <;> have := hh x hx <;> rw [busy_split h hx run a b c h1 h2] at this <;> simp at this ⊢
    · exact this.1
    · exact this.2
  · rintro ⟨h3, h4⟩ x hx
    have e3 := h3 x hx
    have e4 := h4 x hx
    rw [busy_split h hx run a b c h1 h2]
    simp at e3 e4 ⊢
    exact ⟨e3, e4⟩
theorem free_none (l : List S29) (run a b : Int) (h : b ≤ a) : freeB l run a b = true := by
  unfold freeB
  rw [List.all_eq_true]
  intro x _
  have : busyB run a b x = false := by
    unfold busyB
    rw [decide_eq_false (by unfold mx mn; (repeat' split) <;> omega)]
    rfl
  rw [this]; rfl
end Go.Proofs.Ytipnnihjkipnoaa.Pure
