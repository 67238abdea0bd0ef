/- The comparisons, of what is equal; what a right list is. Condition: lists with bounded lengths. -/
import Derived.Test.YtfjnpdgjigkbcaaPAllx13
import Derived.Test.YtfjnpdgjigkbcaaPAllx14
import Derived.Test.YtfjnpdgjigkbcaaPAllx15
import Derived.Test.YtfjnpdgjigkbcaaURight
import Derived.Test.YtfjnpdgjigkbcaaGOwn
import Derived.Test.YtfjnpdgjigkbcaaGCopied
namespace Go.Proofs.Ytfjnpdgjigkbcaa.Pure
open Go.RowKit Go.Proofs.Ytfjnpdgjigkbcaa.PAll Go.Proofs.YtfjnpdgjigkbcaaW.PrintWords Go.Proofs.YtfjnpdgjigkbcaaW.PrintLast Go.Proofs.YtfjnpdgjigkbcaaW.PrintMore
set_option linter.unusedVariables false
set_option linter.unusedSimpArgs false
theorem same_l0 (l : List Int) (hb : l.length < 4611686018427387904) : ∀ (d i : Nat), i + d = l.length → Ev (fun k => skiarearef50_Same.l0 k l l i) true := by
  intro d
  induction d with
  | zero =>
    intro i hi
    exact Ev.step (f := fun _ => some true) (fun k => by simp only [skiarearef50_Same.l0]; rw [if_neg (by omega)]) (Ev.now _)
  | succ d ih =>
    intro i hi
    have hlt : i < l.length := by omega
    refine Ev.step (f := fun k => skiarearef50_Same.l0 k l l ((i + 1 : Nat) : Int)) (fun k => by simp only [skiarearef50_Same.l0]; rw [if_pos (by omega), if_pos (by omega), if_pos (by omega), if_pos trivial, wr1 (by omega)]) (ih (i + 1) (by omega))
theorem same (l : List Int) (hb : l.length < 4611686018427387904) : Ev (fun k => skiarearef50_Same.f k l l) true := by
  have := same_l0 l hb l.length 0 (by omega)
  exact Ev.cg this (fun k => by simp only [skiarearef50_Same.f]; rw [if_pos trivial]; rfl)
theorem sameOne (x : S34) (h1 : x.f1.length < 4611686018427387904) (h2 : x.f2.length < 4611686018427387904) : Ev (fun k => skiarearef50_SameOne.f k x.f0 x.f1 x.f2 x.f3 x.f4 x.f5 x.f0 x.f1 x.f2 x.f3 x.f4 x.f5) true := by
  refine Ev.cg (f := fun k => (skiarearef50_Same.f k x.f1 x.f1).bind fun t => (if t = true then ((skiarearef50_Same.f k x.f2 x.f2).bind fun t => (some t)) else (none))) ?_ (fun k => by simp only [skiarearef50_SameOne.f]; rw [if_pos trivial, if_pos trivial, if_pos trivial, if_pos trivial])
  refine Ev.bind (same _ h1) ?_
  simp only [if_true]
  exact Ev.bind (f := fun _ t => some t) (same _ h2) (Ev.now _)
theorem sameSlides_l0 (l : List S34) (hs : Short l) (hb : l.length < 4611686018427387904) : ∀ (d i : Nat), i + d = l.length → Ev (fun k => skiarearef50_SameSlides.l0 k l l i) true := by
  intro d
  induction d with
  | zero =>
    intro i hi
    exact Ev.step (f := fun _ => some true) (fun k => by simp only [skiarearef50_SameSlides.l0]; rw [if_neg (by omega)]) (Ev.now _)
  | succ d ih =>
    intro i hi
    have hlt : i < l.length := by omega
    have hx := hs _ (List.getElem_mem hlt)
    refine Ev.step (f := fun k => (skiarearef50_SameOne.f k l[i].f0 l[i].f1 l[i].f2 l[i].f3 l[i].f4 l[i].f5 l[i].f0 l[i].f1 l[i].f2 l[i].f3 l[i].f4 l[i].f5).bind fun t => (if t = true then (skiarearef50_SameSlides.l0 k l l ((i + 1 : Nat) : Int)) else (none))) (fun k => by
      simp only [skiarearef50_SameSlides.l0]
      rw [if_pos (by omega), if_pos (by omega), if_pos (by omega), rdS_nat _ _ hlt, wr1 (by omega)]) ?_
    refine Ev.bind (sameOne _ hx.1 hx.2) ?_
    simp only [if_true]
    exact ih (i + 1) (by omega)
theorem sameSlides (l : List S34) (hs : Short l) (hb : l.length < 4611686018427387904) : Ev (fun k => skiarearef50_SameSlides.f k l l) true := by
  have := sameSlides_l0 l hs hb l.length 0 (by omega)
  exact Ev.cg this (fun k => by simp only [skiarearef50_SameSlides.f]; rw [if_pos trivial]; rfl)
/-- What a right list is. -/
def Right (l : List S34) : Prop := l.length ≤ 32 ∧ (∀ w ∈ l, badB w = false ∧ 0 < w.f1.length ∧ upB 32 w.f1 = true ∧ upB 9999 w.f2 = true) ∧ l.Pairwise (fun a b => a.f0 ≠ b.f0)
theorem rightS_zero : ∀ (rest pre : List S34), rightS pre rest = 0 ↔ (∀ w ∈ rest, badB w = false ∧ 0 < w.f1.length ∧ upB 32 w.f1 = true ∧ upB 9999 w.f2 = true) ∧ (∀ p ∈ pre, ∀ w ∈ rest, p.f0 ≠ w.f0) ∧ rest.Pairwise (fun a b => a.f0 ≠ b.f0)
  | [], pre => by simp [rightS]
  | w :: r, pre => by
    unfold rightS
    cases hb : badB w with
    | true => simp [hb]
    | false =>
      simp only [if_neg (show ¬ (false = true) by decide)]
      cases hc : pre.any (fun p => decide (p.f0 = w.f0)) with
      | true =>
        simp only [if_true]
        obtain ⟨p, hp, hpw⟩ := List.any_eq_true.1 hc
        constructor
        · intro h; simp at h
        · rintro ⟨_, h, _⟩
          exact absurd (of_decide_eq_true hpw) (h p hp w (by simp))
      | false =>
        simp only [if_neg (show ¬ (false = true) by decide)]
        have hn : ∀ p ∈ pre, p.f0 ≠ w.f0 := fun p hp e => by
          rw [List.any_eq_true.2 ⟨p, hp, decide_eq_true e⟩] at hc; cases hc
        by_cases h0 : w.f1.length = 0
        · rw [if_pos h0]
          constructor
          · intro h; simp at h
          · rintro ⟨h, _⟩; have := (h w (by simp)).2.1; omega
        · rw [if_neg h0]
          cases hu : upB 32 w.f1 with
          | false =>
            simp only [if_neg (show ¬ (false = true) by decide)]
            constructor
            · intro h; simp at h
            · rintro ⟨h, _⟩; have := (h w (by simp)).2.2.1; rw [hu] at this; cases this
          | true =>
            cases hv : upB 9999 w.f2 with
            | false =>
              simp only [if_true, if_neg (show ¬ (false = true) by decide)]
              constructor
              · intro h; simp at h
              · rintro ⟨h, _⟩; have := (h w (by simp)).2.2.2; rw [hv] at this; cases this
            | true =>
              simp only [if_true]
              rw [rightS_zero r (pre ++ [w])]
              constructor
              · rintro ⟨h1, h2, h3⟩
                refine ⟨fun x hx => ?_, fun p hp x hx => ?_, List.pairwise_cons.2 ⟨fun x hx => h2 w (by simp) x hx, h3⟩⟩
                · rcases List.mem_cons.1 hx with rfl | hx
                  · exact ⟨hb, by omega, hu, hv⟩
                  · exact h1 x hx
                · rcases List.mem_cons.1 hx with rfl | hx
                  · exact hn p hp
                  · exact h2 p (by simp [hp]) x hx
              · rintro ⟨h1, h2, h3⟩
                obtain ⟨h4, h5⟩ := List.pairwise_cons.1 h3
                refine ⟨fun x hx => h1 x (by simp [hx]), fun p hp x hx => ?_, h5⟩
                rcases List.mem_append.1 hp with hp | hp
                · exact h2 p hp x (by simp [hx])
                · obtain rfl := List.mem_singleton.1 hp
                  exact h4 x hx
theorem rightC_zero (l : List S34) : rightC l = 0 ↔ Right l := by
  unfold rightC Right
  by_cases h : l.length > 32
  · rw [if_pos h]
    constructor
    · intro h; simp at h
    · rintro ⟨h1, _⟩; omega
  · rw [if_neg h, rightS_zero]
    simp only [List.not_mem_nil, false_implies, implies_true, true_and]
    constructor
    · rintro ⟨h1, h2⟩; exact ⟨by omega, h1, h2⟩
    · rintro ⟨_, h1, h2⟩; exact ⟨h1, h2⟩
theorem right_nums {l : List S34} (h : Right l) {x : S34} (hx : x ∈ l) : 1 ≤ x.f0 ∧ x.f0 ≤ 9999 ∧ 4 ≤ x.f3 ∧ x.f3 ≤ 100000 ∧ 0 ≤ x.f4 ∧ x.f4 ≤ 100000 ∧ -1 ≤ x.f5 ∧ x.f5 ≤ 20000000 := by
  have := (h.2.1 x hx).1
  simp only [badB, decide_eq_false_iff_not, Classical.not_not] at this
  exact this
theorem ok_parts {l : List S34} (h : okB l = true) : smallB l = true ∧ Right l := by
  simp only [okB, Bool.and_eq_true, beq_iff_eq] at h
  exact ⟨h.1, (rightC_zero l).1 h.2⟩
theorem up_mem (m : Int) : ∀ (l : List Int) (p : Int), okUp m p l = true → (∀ x ∈ l, 1 ≤ x ∧ x ≤ m ∧ p < x) ∧ l.Pairwise (· < ·)
  | [], _, _ => by simp
  | x :: r, p, h => by
    simp only [okUp, Bool.and_eq_true, decide_eq_true_eq] at h
    obtain ⟨h1, h2⟩ := up_mem m r x h.2
    refine ⟨fun y hy => ?_, List.pairwise_cons.2 ⟨fun y hy => (h1 y hy).2.2, h2⟩⟩
    rcases List.mem_cons.1 hy with rfl | hy
    · exact h.1
    · have := h1 y hy
      omega
/-- Paths that were read as small: what copied asks. -/
theorem small_copied {l : List S34} (h : smallB l = true) : avalanche_copied.f l = some l := by
  unfold avalanche_copied.f
  rw [if_pos ⟨by have := (small_all h).1; omega, fun x hx => by have := (small_all h).2 x hx; omega⟩]
theorem small_own {l : List S34} (h : smallB l = true) : skiarearef50_Own.f l = some l := by
  unfold skiarearef50_Own.f
  rw [if_pos ⟨by have := (small_all h).1; omega, fun x hx => by have := (small_all h).2 x hx; omega⟩]
end Go.Proofs.Ytfjnpdgjigkbcaa.Pure
