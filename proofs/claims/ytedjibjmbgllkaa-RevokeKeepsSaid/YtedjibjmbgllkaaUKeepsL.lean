/- RevokeKeeps: behind Change exactly the media of add are revoked of those that were named, and all others are as before. No condition. -/
import Derived.Test.YtedjibjmbgllkaaPAllx20
import Derived.Test.YtedjibjmbgllkaaUChange
import Derived.Test.YtedjibjmbgllkaaGAlive
namespace Go.Proofs.Ytedjibjmbgllkaa.Pure
open Go.RowKit Go.Proofs.Ytedjibjmbgllkaa.PAll Go.Proofs.YtedjibjmbgllkaaW.PrintWords Go.Proofs.YtedjibjmbgllkaaW.PrintLast Go.Proofs.YtedjibjmbgllkaaW.PrintMore
set_option linter.unusedVariables false
set_option linter.unusedSimpArgs false
theorem inc_sub : ∀ (l q : List Int), Inc l → Inc q → (∀ x ∈ q, x ∈ l) → q.length ≤ l.length ∧ (q.length = l.length → q = l)
  | [], q, _, _, h => by
    cases q with
    | nil => exact ⟨Nat.le_refl _, fun _ => rfl⟩
    | cons x xs => have := h x (by simp); simp at this
  | y :: ys, q, hl, hq, h => by
    obtain ⟨hl1, hl2⟩ := List.pairwise_cons.1 hl
    cases q with
    | nil => exact ⟨by simp, fun h => by simp at h⟩
    | cons x xs =>
      obtain ⟨hq1, hq2⟩ := List.pairwise_cons.1 hq
      by_cases e : x = y
      · subst e
        have hsub : ∀ z ∈ xs, z ∈ ys := fun z hz => by
          have h1 := hq1 z hz
          rcases List.mem_cons.1 (h z (List.mem_cons_of_mem _ hz)) with h2 | h2
          · omega
          · exact h2
        obtain ⟨i1, i2⟩ := inc_sub ys xs hl2 hq2 hsub
        refine ⟨by simpa using i1, fun hlen => ?_⟩
        rw [i2 (by simpa using hlen)]
      · have hx : x ∈ ys := by
          rcases List.mem_cons.1 (h x (by simp)) with h2 | h2
          · exact absurd h2 e
          · exact h2
        have hxy := hl1 x hx
        have hsub : ∀ z ∈ x :: xs, z ∈ ys := fun z hz => by
          rcases List.mem_cons.1 hz with rfl | hz2
          · exact hx
          · have h1 := hq1 z hz2
            rcases List.mem_cons.1 (h z hz) with h2 | h2
            · omega
            · exact h2
        obtain ⟨i1, _⟩ := inc_sub ys (x :: xs) hl2 hq hsub
        exact ⟨by simp only [List.length_cons] at i1 ⊢; omega, fun hlen => by simp only [List.length_cons] at i1 hlen; omega⟩
/-- The last of its loops: what was revoked is named, or is revoked behind it. -/
theorem keeps_l2 (v : Int) (l : List Int) (w : Int) (q named : List Int) (b : Bool) (hq : rightC w q = 0) (hl : l.length ≤ 1000) (hn : named.length ≤ 1000) (hv : -1000000 ≤ v ∧ v ≤ 1000000) (hin : ∀ x ∈ l, x ∈ named ∨ x ∈ q) (hw : if b = true then w = v + 1 else w = v) : ∀ (d i : Nat), i + d = l.length →
    Ev (fun k => skiarealaw27_RevokeKeeps.l2 k b i v l w q 0 named) true := by
  have hr := (right_zero w q).1 hq
  intro d
  induction d with
  | zero =>
    intro i hi
    refine Ev.step (f := fun k => ((revoke_Right.f k w q).bind fun t401 => (if t401 = 0 then (if b = true then (if w = (wrap64 (v + 1)) then (some true) else (none)) else (some (w == v))) else (none)))) (fun k => by simp only [skiarealaw27_RevokeKeeps.l2]; rw [if_neg (by omega)]) ?_
    refine Ev.bind (rightW w q (by omega)) ?_
    rw [hq]
    simp only [if_true]
    cases b with
    | true =>
      simp only [if_true] at hw ⊢
      rw [wr_small (by omega) (by omega), if_pos hw]
      exact Ev.now _
    | false =>
      simp only [if_neg (show ¬ (false = true) by decide)] at hw ⊢
      exact ev_some (by simp [hw])
  | succ d ih =>
    intro i hi
    have h1 : i < l.length := by omega
    refine Ev.step (f := fun k => ((skiarearef27_Has.f k 0 named l[i]).bind fun t398 => (if t398 = true then (skiarealaw27_RevokeKeeps.l2 k b ((i + 1 : Nat) : Int) v l w q 0 named) else ((revoke_Has.f k w q l[i]).bind fun t400 => (if t400 = true then (skiarealaw27_RevokeKeeps.l2 k b ((i + 1 : Nat) : Int) v l w q 0 named) else (none)))))) (fun k => by simp only [skiarealaw27_RevokeKeeps.l2]; rw [if_pos (by omega), if_pos (by omega), rd_nat _ _ h1, wr1 (by omega)]) ?_
    refine Ev.bind (hasR 0 named l[i] (by omega)) ?_
    by_cases e : l[i] ∈ named
    · simp only [decide_eq_true e, if_true]
      exact ih (i + 1) (by omega)
    · simp only [decide_eq_false e, if_neg (show ¬ (false = true) by decide)]
      refine Ev.bind (hasW w q l[i] hr.2.2.2 (by omega)) ?_
      simp only [decide_eq_true ((hin l[i] (List.getElem_mem h1)).resolve_left e), if_true]
      exact ih (i + 1) (by omega)
/-- Is an element of a list not in another one? -/
def outB (l : List Int) (q : List Int) : Bool := q.any (fun x => !decide (x ∈ l))
theorem keeps_l1 (v : Int) (l : List Int) (w : Int) (q named : List Int) (b0 : Bool) (hq : rightC w q = 0) (hi0 : Inc l) (hl : l.length ≤ 1000) (hn : named.length ≤ 1000) (hv : -1000000 ≤ v ∧ v ≤ 1000000) (hin : ∀ x ∈ l, x ∈ named ∨ x ∈ q) (hout : ∀ x ∈ q, x ∈ named ∨ x ∈ l) (hw : if (b0 || outB l q) = true then w = v + 1 else w = v) : ∀ (d i : Nat), i + d = q.length → ∀ b : Bool, (b || outB l (q.drop i)) = (b0 || outB l q) →
    Ev (fun k => skiarealaw27_RevokeKeeps.l1 k b i v l w q 0 named) true := by
  have hr := (right_zero w q).1 hq
  intro d
  induction d with
  | zero =>
    intro i hi b hb
    rw [List.drop_of_length_le (by omega)] at hb
    have hb : b = (b0 || outB l q) := by rw [← hb]; simp [outB]
    rw [← hb] at hw
    exact Ev.step (f := fun k => skiarealaw27_RevokeKeeps.l2 k b ((0 : Nat) : Int) v l w q 0 named) (fun k => by simp only [skiarealaw27_RevokeKeeps.l1]; rw [if_neg (by omega)]; rfl) (keeps_l2 v l w q named b hq hl hn hv hin hw l.length 0 (by omega))
  | succ d ih =>
    intro i hi b hb
    have h1 : i < q.length := by omega
    have hd : outB l (q.drop i) = (!decide (q[i] ∈ l) || outB l (q.drop (i + 1))) := by
      unfold outB
      rw [List.drop_eq_getElem_cons h1, List.any_cons]
    rw [hd] at hb
    have hmem := hout q[i] (List.getElem_mem h1)
    cases b with
    | true =>
      have hnext := ih (i + 1) (by omega) true (by rw [Bool.true_or] at hb ⊢; exact hb)
      refine Ev.step (f := fun k => ((skiarearef27_Has.f k 0 named q[i]).bind fun t388 => (if t388 = true then (skiarealaw27_RevokeKeeps.l1 k true ((i + 1 : Nat) : Int) v l w q 0 named) else ((revoke_Has.f k v l q[i]).bind fun t390 => (if t390 = true then (skiarealaw27_RevokeKeeps.l1 k true ((i + 1 : Nat) : Int) v l w q 0 named) else (none)))))) (fun k => by simp only [skiarealaw27_RevokeKeeps.l1]; rw [if_pos (by omega), if_pos trivial, if_pos (by omega), rd_nat _ _ h1, wr1 (by omega)]) ?_
      refine Ev.bind (hasR 0 named q[i] (by omega)) ?_
      by_cases e : q[i] ∈ named
      · simp only [decide_eq_true e, if_true]
        exact hnext
      · simp only [decide_eq_false e, if_neg (show ¬ (false = true) by decide)]
        refine Ev.bind (hasW v l q[i] hi0 (by omega)) ?_
        simp only [decide_eq_true (hmem.resolve_left e), if_true]
        exact hnext
    | false =>
      have hnext := ih (i + 1) (by omega) (!decide (q[i] ∈ l)) (by rw [Bool.false_or] at hb; exact hb)
      refine Ev.step (f := fun k => ((revoke_Has.f k v l q[i]).bind fun t392 => ((skiarearef27_Has.f k 0 named q[i]).bind fun t394 => (if t394 = true then (skiarealaw27_RevokeKeeps.l1 k (!t392) ((i + 1 : Nat) : Int) v l w q 0 named) else ((revoke_Has.f k v l q[i]).bind fun t396 => (if t396 = true then (skiarealaw27_RevokeKeeps.l1 k (!t392) ((i + 1 : Nat) : Int) v l w q 0 named) else (none))))))) (fun k => by simp only [skiarealaw27_RevokeKeeps.l1]; rw [if_pos (by omega), if_neg (by decide), if_pos (by omega), rd_nat _ _ h1, wr1 (by omega)]) ?_
      refine Ev.bind (hasW v l q[i] hi0 (by omega)) (Ev.bind (hasR 0 named q[i] (by omega)) ?_)
      by_cases e : q[i] ∈ named
      · simp only [decide_eq_true e, if_true]
        exact hnext
      · simp only [decide_eq_false e, if_neg (show ¬ (false = true) by decide)]
        refine Ev.bind (hasW v l q[i] hi0 (by omega)) ?_
        simp only [decide_eq_true (hmem.resolve_left e), if_true]
        rw [decide_eq_true (hmem.resolve_left e)] at hnext
        exact hnext
theorem keeps_l0 (v : Int) (l add named : List Int) (w : Int) (q : List Int) (hq : rightC w q = 0) (ha : add.length ≤ 1000) (hn : named.length ≤ 1000) (r : Bool)
    (hnext : Ev (fun k => skiarealaw27_RevokeKeeps.l1 k ((q.length : Int) != (l.length : Int)) ((0 : Nat) : Int) v l w q 0 named) r)
    (h1 : ∀ i, ∀ h : i < named.length, 1 ≤ i → i ≤ add.length → named[i] ∈ q) (h2 : ∀ i, ∀ h : i < named.length, add.length < i → (named[i] ∈ q ↔ named[i] ∈ add)) : ∀ (d i : Nat), 1 ≤ i → i + d = named.length →
    Ev (fun k => skiarealaw27_RevokeKeeps.l0 k add named i v l w q) r := by
  have hr := (right_zero w q).1 hq
  intro d
  induction d with
  | zero =>
    intro i h0 hi
    exact Ev.step (f := fun k => skiarealaw27_RevokeKeeps.l1 k ((q.length : Int) != (l.length : Int)) ((0 : Nat) : Int) v l w q 0 named) (fun k => by simp only [skiarealaw27_RevokeKeeps.l0]; rw [if_neg (by omega)]; rfl) hnext
  | succ d ih =>
    intro i h0 hi
    have hlt : i < named.length := by omega
    refine Ev.step (f := fun k => ((revoke_Has.f k w q named[i]).bind fun t383 => (if (i : Int) ≤ (add.length : Int) then (if (t383 != true) = true then (none) else (skiarealaw27_RevokeKeeps.l0 k add named ((i + 1 : Nat) : Int) v l w q)) else ((skiarearef27_Has.f k 0 add named[i]).bind fun t385 => (if (t383 != t385) = true then (none) else (skiarealaw27_RevokeKeeps.l0 k add named ((i + 1 : Nat) : Int) v l w q)))))) (fun k => by simp only [skiarealaw27_RevokeKeeps.l0]; rw [if_pos (by omega), if_pos (by omega), rd_nat _ _ hlt, wr1 (by omega)]) ?_
    refine Ev.bind (hasW w q named[i] hr.2.2.2 (by omega)) ?_
    by_cases c : (i : Int) ≤ (add.length : Int)
    · simp only [if_pos c, decide_eq_true (h1 i hlt h0 (by omega))]
      exact ih (i + 1) (by omega) (by omega)
    · simp only [if_neg c]
      refine Ev.bind (hasR 0 add named[i] (by omega)) ?_
      have hd : decide (named[i] ∈ q) = decide (named[i] ∈ add) := decide_eq_decide.2 (h2 i hlt (by omega))
      simp only [hd, bne_self_eq_false, if_neg (show ¬ (false = true) by decide)]
      exact ih (i + 1) (by omega) (by omega)
theorem change_err {v : Int} {l add drop : List Int} (h : ¬ (changeS v l add drop).2.2 = 0) : (changeS v l add drop).1 = 0 ∧ (changeS v l add drop).2.1 = [] ∧ ((changeS v l add drop).2.2 = 2 ∨ (changeS v l add drop).2.2 = 12 ∨ (changeS v l add drop).2.2 = 9) := by
  unfold changeS at h ⊢
  by_cases c : add.any badNo = true ∨ drop.any badNo = true
  · rw [if_pos c]; exact ⟨rfl, rfl, .inl rfl⟩
  · rw [if_neg c] at h ⊢
    by_cases c1 : newL l add drop = l
    · rw [if_pos c1] at h; exact absurd rfl h
    · rw [if_neg c1] at h ⊢
      by_cases c2 : v ≥ 1000000
      · rw [if_pos c2]; exact ⟨rfl, rfl, .inr (.inl rfl)⟩
      · rw [if_neg c2] at h ⊢
        by_cases c3 : (newL l add drop).length > 200
        · rw [if_pos c3]; exact ⟨rfl, rfl, .inr (.inr rfl)⟩
        · rw [if_neg c3] at h; exact absurd rfl h
theorem named_at (add drop : List Int) (i : Nat) (h : i < (([0] ++ add) ++ drop).length) : (1 ≤ i → i ≤ add.length → (([0] ++ add) ++ drop)[i] ∈ add) ∧ (add.length < i → (([0] ++ add) ++ drop)[i] ∈ drop) := by
  constructor
  · intro h1 h2
    rw [List.getElem_append_left (by simp; omega), List.getElem_append_right (by simp; omega)]
    exact List.getElem_mem _
  · intro h1
    rw [List.getElem_append_right (by simp; omega)]
    exact List.getElem_mem _
theorem RevokeKeeps (v : Int) (l add drop : List Int) : ∃ k, skiarealaw27_RevokeKeeps.f k v l add drop = some true := by
  refine Ev.rounds (Ev.cg (f := fun k => ((skiarealaw27_right.f k v l).bind fun t364 => (if t364 = true then ((skiarealaw27_few.f add).bind fun t365 => (if t365 = true then ((skiarealaw27_few.f drop).bind fun t366 => (if t366 = true then ((revoke_Change.f k v l add drop).bind fun bt367 => (if bt367.2.2 = 0 then ((some (([0] : List Int) : List Int)).bind fun y373 => (if y373.length + add.length < 17592186044416 then ((some (y373 ++ add : List Int)).bind fun y376 => (if y376.length + drop.length < 17592186044416 then (skiarealaw27_RevokeKeeps.l0 k add (y376 ++ drop) ((1 : Nat) : Int) v l bt367.1 bt367.2.1) else (none))) else (none))) else ((skiarearef27_Same.f k bt367.1 bt367.2.1 0 ([] : List Int)).bind fun t402 => (if t402 = true then (if bt367.2.2 = 2 then (some true) else (if bt367.2.2 = 12 then (some true) else (some (bt367.2.2 == 9)))) else (none))))) else (some true))) else (some true))) else (some true)))) ?_ (fun k => rfl))
  refine Ev.bind (lawRight v l) ?_
  cases h1 : okB v l with
  | false => exact Ev.now _
  | true =>
    have hr : rightC v l = 0 := of_decide_eq_true h1
    have hr1 := (right_zero v l).1 hr
    simp only [if_true]
    rw [few_eq, few_eq]
    refine Ev.bind (Ev.now _) ?_
    by_cases c1 : add.length ≤ 250
    · simp only [decide_eq_true c1, if_true]
      refine Ev.bind (Ev.now _) ?_
      by_cases c2 : drop.length ≤ 250
      · simp only [decide_eq_true c2, if_true]
        refine Ev.bind (changeW v l add drop (by omega) (by omega) (by omega) (by omega)) ?_
        by_cases e : (changeS v l add drop).2.2 = 0
        · obtain ⟨e1, e2, e3⟩ := change_ok hr e
          simp only [if_pos e, Option.bind_some]
          simp only [if_pos (show ([0] : List Int).length + add.length < 17592186044416 by simp; omega), if_pos (show (([0] : List Int) ++ add).length + drop.length < 17592186044416 by simp; omega)]
          rw [e1]
          have hnl := (right_zero _ _).1 e2
          have hin : ∀ x ∈ l, x ∈ (([0] ++ add) ++ drop) ∨ x ∈ newL l add drop := fun x hx => by
            rw [mem_new]
            by_cases hd : x ∈ drop
            · exact .inl (List.mem_append_right _ hd)
            · exact .inr (.inl ⟨hx, hd⟩)
          have hout : ∀ x ∈ newL l add drop, x ∈ (([0] ++ add) ++ drop) ∨ x ∈ l := fun x hx => by
            rcases (mem_new x l add drop).1 hx with ⟨h, _⟩ | h
            · exact .inr h
            · exact .inl (List.mem_append_left _ (List.mem_append_right _ h))
          have hw : if ((((newL l add drop).length : Int) != (l.length : Int)) || outB l (newL l add drop)) = true then (changeS v l add drop).1 = v + 1 else (changeS v l add drop).1 = v := by
            rcases e3 with ⟨h2, h3⟩ | ⟨h2, h3⟩
            · rw [h2, if_neg, h3]
              have : outB l l = false := by
                unfold outB
                rw [List.any_eq_false]
                intro x hx
                simp [hx]
              rw [this]
              simp
            · rw [if_pos, h3]
              by_cases hlen : (newL l add drop).length = l.length
              · have : outB l (newL l add drop) = true := by
                  by_cases hc : outB l (newL l add drop) = true
                  · exact hc
                  · refine absurd ((inc_sub l (newL l add drop) hr1.2.2.2 (inc_new _ _ _) (fun x hx => ?_)).2 hlen) h2
                    by_cases hx2 : x ∈ l
                    · exact hx2
                    · exact absurd (List.any_eq_true.2 ⟨x, hx, by simp [hx2]⟩) hc
                rw [this, Bool.or_true]
              · have : (((newL l add drop).length : Int) != (l.length : Int)) = true := bne_iff_ne.2 (by omega)
                rw [this, Bool.true_or]
          refine keeps_l0 v l add (([0] ++ add) ++ drop) _ (newL l add drop) e2 (by omega) (by simp; omega) true ?_ ?_ ?_ ((([0] ++ add) ++ drop).length - 1) 1 (Nat.le_refl _) (by simp; omega)
          · exact keeps_l1 v l _ (newL l add drop) (([0] ++ add) ++ drop) _ e2 hr1.2.2.2 (by omega) (by simp; omega) (by omega) hin hout hw (newL l add drop).length 0 (by omega) _ (by rw [List.drop_zero])
          · intro i h h3 h4
            rw [mem_new]
            exact .inr ((named_at add drop i h).1 h3 h4)
          · intro i h h3
            rw [mem_new]
            have hd := (named_at add drop i h).2 h3
            exact ⟨fun h => h.resolve_left (fun h => h.2 hd), .inr⟩
        · obtain ⟨e1, e2, e3⟩ := change_err e
          simp only [if_neg e]
          rw [e1, e2]
          refine Ev.bind (sameV 0 [] (by simp)) ?_
          simp only [if_true]
          rcases e3 with h | h | h
          · rw [h]; exact Ev.now _
          · rw [h]; exact Ev.now _
          · rw [h]; exact Ev.now _
      · simp only [decide_eq_false c2, if_neg (show ¬ (false = true) by decide)]
        exact Ev.now _
    · simp only [decide_eq_false c1, if_neg (show ¬ (false = true) by decide)]
      exact Ev.now _
end Go.Proofs.Ytedjibjmbgllkaa.Pure
