/- Grow, of the program and of the reference, of right paths. -/
import Derived.Test.YtfjnpdgjigkbcaaPAllx10
import Derived.Test.YtfjnpdgjigkbcaaPAllx12
import Derived.Test.YtfjnpdgjigkbcaaUSame
namespace Go.Proofs.Ytfjnpdgjigkbcaa.Pure
open Go.RowKit Go.Proofs.Ytfjnpdgjigkbcaa.PAll Go.Proofs.YtfjnpdgjigkbcaaW.PrintWords Go.Proofs.YtfjnpdgjigkbcaaW.PrintLast Go.Proofs.YtfjnpdgjigkbcaaW.PrintMore
set_option linter.unusedVariables false
set_option linter.unusedSimpArgs false
/-- What a right list is. -/
def Right (l : List S34) : Prop := l.length ≤ 32 ∧ (∀ w ∈ l, badB w = false ∧ 0 < w.f1.length ∧ upB 32 w.f1 = true ∧ upB 9999 w.f2 = true) ∧ l.Pairwise (fun a b => a.f0 ≠ b.f0)
theorem rightS_zero : ∀ (rest pre : List S34), rightS pre rest = 0 ↔ (∀ w ∈ rest, badB w = false ∧ 0 < w.f1.length ∧ upB 32 w.f1 = true ∧ upB 9999 w.f2 = true) ∧ (∀ p ∈ pre, ∀ w ∈ rest, p.f0 ≠ w.f0) ∧ rest.Pairwise (fun a b => a.f0 ≠ b.f0)
  | [], pre => by simp [rightS]
  | w :: r, pre => by
    unfold rightS
    cases hb : badB w with
    | true => simp [hb]
    | false =>
      simp only [if_neg (show ¬ (false = true) by decide)]
      cases hc : pre.any (fun p => decide (p.f0 = w.f0)) with
      | true =>
        simp only [if_true]
        obtain ⟨p, hp, hpw⟩ := List.any_eq_true.1 hc
        constructor
        · intro h; simp at h
        · rintro ⟨_, h, _⟩
          exact absurd (of_decide_eq_true hpw) (h p hp w (by simp))
      | false =>
        simp only [if_neg (show ¬ (false = true) by decide)]
        have hn : ∀ p ∈ pre, p.f0 ≠ w.f0 := fun p hp e => by
          rw [List.any_eq_true.2 ⟨p, hp, decide_eq_true e⟩] at hc; cases hc
        by_cases h0 : w.f1.length = 0
        · rw [if_pos h0]
          constructor
          · intro h; simp at h
          · rintro ⟨h, _⟩; have := (h w (by simp)).2.1; omega
        · rw [if_neg h0]
          cases hu : upB 32 w.f1 with
          | false =>
            simp only [if_neg (show ¬ (false = true) by decide)]
            constructor
            · intro h; simp at h
            · rintro ⟨h, _⟩; have := (h w (by simp)).2.2.1; rw [hu] at this; cases this
          | true =>
            cases hv : upB 9999 w.f2 with
            | false =>
              simp only [if_true, if_neg (show ¬ (false = true) by decide)]
              constructor
              · intro h; simp at h
              · rintro ⟨h, _⟩; have := (h w (by simp)).2.2.2; rw [hv] at this; cases this
            | true =>
              simp only [if_true]
              rw [rightS_zero r (pre ++ [w])]
              constructor
              · rintro ⟨h1, h2, h3⟩
                refine ⟨fun x hx => ?_, fun p hp x hx => ?_, List.pairwise_cons.2 ⟨fun x hx => h2 w (by simp) x hx, h3⟩⟩
                · rcases List.mem_cons.1 hx with rfl | hx
                  · exact ⟨hb, by omega, hu, hv⟩
                  · exact h1 x hx
                · rcases List.mem_cons.1 hx with rfl | hx
                  · exact hn p hp
                  · exact h2 p (by simp [hp]) x hx
              · rintro ⟨h1, h2, h3⟩
                obtain ⟨h4, h5⟩ := List.pairwise_cons.1 h3
                refine ⟨fun x hx => h1 x (by simp [hx]), fun p hp x hx => ?_, h5⟩
                rcases List.mem_append.1 hp with hp | hp
                · exact h2 p hp x (by simp [hx])
                · obtain rfl := List.mem_singleton.1 hp
                  exact h4 x hx
theorem rightC_zero (l : List S34) : rightC l = 0 ↔ Right l := by
  unfold rightC Right
  by_cases h : l.length > 32
  · rw [if_pos h]
    constructor
    · intro h; simp at h
    · rintro ⟨h1, _⟩; omega
  · rw [if_neg h, rightS_zero]
    simp only [List.not_mem_nil, false_implies, implies_true, true_and]
    constructor
    · rintro ⟨h1, h2⟩; exact ⟨by omega, h1, h2⟩
    · rintro ⟨_, h1, h2⟩; exact ⟨h1, h2⟩
theorem right_nums {l : List S34} (h : Right l) {x : S34} (hx : x ∈ l) : 1 ≤ x.f0 ∧ x.f0 ≤ 9999 ∧ 4 ≤ x.f3 ∧ x.f3 ≤ 100000 ∧ 0 ≤ x.f4 ∧ x.f4 ≤ 100000 ∧ -1 ≤ x.f5 ∧ x.f5 ≤ 20000000 := by
  have := (h.2.1 x hx).1
  simp only [badB, decide_eq_false_iff_not, Classical.not_not] at this
  exact this
theorem ok_parts {l : List S34} (h : okB l = true) : smallB l = true ∧ Right l := by
  simp only [okB, Bool.and_eq_true, beq_iff_eq] at h
  exact ⟨h.1, (rightC_zero l).1 h.2⟩
theorem up_mem (m : Int) : ∀ (l : List Int) (p : Int), okUp m p l = true → (∀ x ∈ l, 1 ≤ x ∧ x ≤ m ∧ p < x) ∧ l.Pairwise (· < ·)
  | [], _, _ => by simp
  | x :: r, p, h => by
    simp only [okUp, Bool.and_eq_true, decide_eq_true_eq] at h
    obtain ⟨h1, h2⟩ := up_mem m r x h.2
    refine ⟨fun y hy => ?_, List.pairwise_cons.2 ⟨fun y hy => (h1 y hy).2.2, h2⟩⟩
    rcases List.mem_cons.1 hy with rfl | hy
    · exact h.1
    · have := h1 y hy
      omega
/-- Paths that were read as small: what copied asks. -/
theorem small_copied {l : List S34} (h : smallB l = true) : avalanche_copied.f l = some l := by
  unfold avalanche_copied.f
  rw [if_pos ⟨by have := (small_all h).1; omega, fun x hx => by have := (small_all h).2 x hx; omega⟩]
theorem small_own {l : List S34} (h : smallB l = true) : skiarearef50_Own.f l = some l := by
  unfold skiarearef50_Own.f
  rw [if_pos ⟨by have := (small_all h).1; omega, fun x hx => by have := (small_all h).2 x hx; omega⟩]
/-! ### Grow -/
def more (fresh gust : Int) : Int := fresh + (if gust > 10000 then (gust - 10000) / 1000 else 0)
def grown (m : Int) (x : S34) : S34 := ⟨x.f0, x.f1, x.f2, x.f3, if x.f4 + m > 100000 then 100000 else x.f4 + m, x.f5⟩
theorem mid_len (g : S34 → S34) (l : List S34) (i : Nat) : ((l.take i).map g ++ l.drop i).length = l.length := by simp; omega
theorem mid_rd (g : S34 → S34) (l : List S34) (i : Nat) (h : i < l.length) : rd_T34 ((l.take i).map g ++ l.drop i) (i : Int) = l[i] := by
  rw [rdS_nat _ _ (by rw [mid_len]; exact h), List.getElem_append_right (by simp; omega)]
  simp [show i - min i l.length = 0 by omega]
theorem mid_set (g : S34 → S34) (l : List S34) (i : Nat) (h : i < l.length) (y : S34) : ((l.take i).map g ++ l.drop i).set i y = (l.take i).map g ++ y :: l.drop (i + 1) := by
  have h0 : i - ((l.take i).map g).length = 0 := by simp; omega
  rw [List.set_append_right _ _ (by simp; omega), h0, List.drop_eq_getElem_cons h, List.set_cons_zero]
theorem mid_next (g : S34 → S34) (l : List S34) (i : Nat) (h : i < l.length) : (l.take i).map g ++ g l[i] :: l.drop (i + 1) = (l.take (i + 1)).map g ++ l.drop (i + 1) := by
  rw [take_succ l i h, List.map_append, List.append_assoc]; rfl
theorem growW_l0 (l : List S34) (fresh gust : Int) (hr : Right l) (h1 : 0 ≤ fresh ∧ fresh ≤ 2000) (h2 : 0 ≤ gust ∧ gust ≤ 100000) : ∀ (d i : Nat), i + d = l.length →
    Ev (fun k => avalanche_Grow.l0 k fresh gust ((l.take i).map (grown (more fresh gust)) ++ l.drop i) (l.length : Int) i) (l.map (grown (more fresh gust)), 0) := by
  intro d
  have hl := hr.1
  induction d with
  | zero =>
    intro i hi
    rw [List.take_of_length_le (by omega), List.drop_of_length_le (by omega), List.append_nil]
    exact Ev.step (f := fun _ => some (l.map (grown (more fresh gust)), 0)) (fun k => by simp only [avalanche_Grow.l0]; rw [if_neg (by omega)]) (Ev.now _)
  | succ d ih =>
    intro i hi
    have hlt : i < l.length := by omega
    have hn := right_nums hr (List.getElem_mem hlt)
    have hv : mn (wrap64 ((wrap64 (l[i].f4 + fresh)) + (wrap64 ((mx 0 (wrap64 (gust - 10000))) / 1000)))) 100000 = (if l[i].f4 + more fresh gust > 100000 then 100000 else l[i].f4 + more fresh gust) := by
      rw [wr_small (x := l[i].f4 + fresh) (by omega) (by omega), wr_small (x := gust - 10000) (by omega) (by omega)]
      have hm : mx 0 (gust - 10000) / 1000 = (if gust > 10000 then (gust - 10000) / 1000 else 0) := by
        unfold mx
        by_cases c : gust > 10000
        · rw [if_pos (by omega), if_pos c]
        · rw [if_neg (by omega), if_neg c]; rfl
      have hm2 : 0 ≤ (if gust > 10000 then (gust - 10000) / 1000 else 0) ∧ (if gust > 10000 then (gust - 10000) / 1000 else 0) ≤ 100000 := by split <;> omega
      rw [hm, wr_small (x := (if gust > 10000 then (gust - 10000) / 1000 else 0)) (by omega) (by omega)]
      unfold more
      generalize (if gust > 10000 then (gust - 10000) / 1000 else 0) = q at hm2
      rw [wr_small (x := l[i].f4 + fresh + q) (by omega) (by omega)]
      unfold mn
      by_cases c : l[i].f4 + (fresh + q) > 100000
      · rw [if_pos (by omega), if_pos c]
      · rw [if_neg (by omega), if_neg c]; omega
    refine Ev.step (f := fun k => avalanche_Grow.l0 k fresh gust ((l.take (i + 1)).map (grown (more fresh gust)) ++ l.drop (i + 1)) (l.length : Int) ((i + 1 : Nat) : Int)) (fun k => ?_) (ih (i + 1) (by omega))
    simp only [avalanche_Grow.l0]
    rw [if_pos (by omega), if_pos (by omega), if_pos (by rw [mid_len]; omega), mid_rd _ _ _ hlt, hv, Int.toNat_natCast, mid_set _ _ _ hlt, wr1 (by omega), ← mid_next _ _ _ hlt]
    rfl
def goodB (fresh gust : Int) : Bool := decide (0 ≤ fresh ∧ fresh ≤ 2000 ∧ 0 ≤ gust ∧ gust ≤ 100000)
def growS (l : List S34) (fresh gust : Int) : List S34 × Int := if goodB fresh gust = true then (l.map (grown (more fresh gust)), 0) else ([], 2)
theorem growW (l : List S34) (fresh gust : Int) (hr : Right l) (hs : smallB l = true) : Ev (fun k => avalanche_Grow.f k l fresh gust) (growS l fresh gust) := by
  have hbad : Ev (fun k => avalanche_Grow.j0 k l fresh gust true) ([], 2) := Ev.step (f := fun _ => some ([], 2)) (fun k => by simp only [avalanche_Grow.j0]; rw [if_pos trivial]) (Ev.now _)
  unfold growS goodB
  by_cases h1 : 0 ≤ fresh ∧ fresh ≤ 2000
  · by_cases h2 : 0 ≤ gust ∧ gust ≤ 100000
    · rw [if_pos (decide_eq_true (by omega))]
      refine Ev.cg (f := fun k => avalanche_Grow.j0 k l fresh gust false) ?_ (fun k => by simp only [avalanche_Grow.f]; rw [within_eq, within_eq, decide_eq_true h1, decide_eq_true h2]; rfl)
      refine Ev.step (f := fun k => avalanche_Grow.l0 k fresh gust l (l.length : Int) ((0 : Nat) : Int)) (fun k => by simp only [avalanche_Grow.j0]; rw [if_neg (by decide), small_copied hs]; rfl) ?_
      have := growW_l0 l fresh gust hr h1 h2 l.length 0 (by omega)
      simpa using this
    · rw [if_neg (by simp; omega)]
      exact Ev.cg hbad (fun k => by simp only [avalanche_Grow.f]; rw [within_eq, within_eq, decide_eq_true h1, decide_eq_false h2]; rfl)
  · rw [if_neg (by simp; omega)]
    exact Ev.cg hbad (fun k => by simp only [avalanche_Grow.f]; rw [within_eq, decide_eq_false h1]; rfl)
theorem growR_l0 (l : List S34) (m : Int) (hr : Right l) (hm : 0 ≤ m ∧ m ≤ 200000) : ∀ (d i : Nat), i + d = l.length →
    Ev (fun k => skiarearef50_Grow.l0 k m ((l.take i).map (grown m) ++ l.drop i) i) (l.map (grown m), 0) := by
  intro d
  have hl := hr.1
  induction d with
  | zero =>
    intro i hi
    rw [List.take_of_length_le (by omega), List.drop_of_length_le (by omega), List.append_nil]
    exact Ev.step (f := fun _ => some (l.map (grown m), 0)) (fun k => by simp only [skiarearef50_Grow.l0]; rw [if_neg (by simp; omega)]) (Ev.now _)
  | succ d ih =>
    intro i hi
    have hlt : i < l.length := by omega
    have hn := right_nums hr (List.getElem_mem hlt)
    refine Ev.step (f := fun k => skiarearef50_Grow.l0 k m ((l.take (i + 1)).map (grown m) ++ l.drop (i + 1)) ((i + 1 : Nat) : Int)) (fun k => ?_) (ih (i + 1) (by omega))
    have hset : ∀ y : S34, rd_T34 ((l.take i).map (grown m) ++ y :: l.drop (i + 1)) (i : Int) = y := fun y => by
      rw [rdS_nat _ _ (by simp; omega), List.getElem_append_right (by simp; omega)]
      simp [show i - min i l.length = 0 by omega]
    have hset2 : ∀ y z : S34, ((l.take i).map (grown m) ++ y :: l.drop (i + 1)).set i z = (l.take i).map (grown m) ++ z :: l.drop (i + 1) := fun y z => by
      have h0 : i - ((l.take i).map (grown m)).length = 0 := by simp; omega
      rw [List.set_append_right _ _ (by simp; omega), h0, List.set_cons_zero]
    simp only [skiarearef50_Grow.l0]
    rw [if_pos (by rw [mid_len]; omega), if_pos (by omega), mid_rd _ _ _ hlt, Int.toNat_natCast, mid_set _ _ _ hlt, wr1 (by omega), wr_small (x := l[i].f4 + m) (by omega) (by omega)]
    simp only [Option.bind_some, hset, hset2]
    rw [← mid_next _ _ _ hlt]
    unfold grown
    by_cases c : l[i].f4 + m > 100000
    · rw [if_pos c, if_pos c]
    · rw [if_neg c, if_neg c]
theorem growR (l : List S34) (fresh gust : Int) (hr : Right l) (hs : smallB l = true) : Ev (fun k => skiarearef50_Grow.f k l fresh gust) (growS l fresh gust) := by
  have hbad : Ev (fun k => skiarearef50_Grow.j0 k l fresh gust true) ([], 2) := Ev.step (f := fun _ => some ([], 2)) (fun k => by simp only [skiarearef50_Grow.j0]; rw [if_pos trivial]) (Ev.now _)
  have hj1 : ∀ m, 0 ≤ m ∧ m ≤ 200000 → Ev (fun k => skiarearef50_Grow.j1 k l m) (l.map (grown m), 0) := fun m hm => by
    refine Ev.step (f := fun k => skiarearef50_Grow.l0 k m l ((0 : Nat) : Int)) (fun k => by simp only [skiarearef50_Grow.j1]; rw [small_own hs]; rfl) ?_
    have := growR_l0 l m hr hm l.length 0 (by omega)
    simpa using this
  unfold growS goodB
  by_cases h1 : fresh < 0
  · rw [if_neg (by simp; omega)]
    exact Ev.cg hbad (fun k => by simp only [skiarearef50_Grow.f]; rw [if_pos h1])
  by_cases h2 : fresh > 2000
  · rw [if_neg (by simp; omega)]
    exact Ev.cg hbad (fun k => by simp only [skiarearef50_Grow.f]; rw [if_neg h1, if_pos h2])
  by_cases h3 : gust < 0
  · rw [if_neg (by simp; omega)]
    exact Ev.cg hbad (fun k => by simp only [skiarearef50_Grow.f]; rw [if_neg h1, if_neg h2, if_pos h3])
  by_cases h4 : gust > 100000
  · rw [if_neg (by simp; omega)]
    exact Ev.cg hbad (fun k => by simp only [skiarearef50_Grow.f]; rw [if_neg h1, if_neg h2, if_neg h3, decide_eq_true h4])
  rw [if_pos (decide_eq_true (by omega))]
  refine Ev.cg (f := fun k => skiarearef50_Grow.j0 k l fresh gust false) ?_ (fun k => by simp only [skiarearef50_Grow.f]; rw [if_neg h1, if_neg h2, if_neg h3, decide_eq_false h4])
  by_cases c : gust > 10000
  · have e : wrap64 (fresh + (wrap64 (Int.tdiv (wrap64 (gust - 10000)) 1000))) = more fresh gust := by
      unfold more
      rw [if_pos c, wr_small (x := gust - 10000) (by omega) (by omega), Int.tdiv_eq_ediv_of_nonneg (by omega), wr_small (x := (gust - 10000) / 1000) (by omega) (by omega), wr_small (by omega) (by omega)]
    refine Ev.step (f := fun k => skiarearef50_Grow.j1 k l (more fresh gust)) (fun k => by simp only [skiarearef50_Grow.j0]; rw [if_neg (by decide), if_pos c, e]) (hj1 _ ?_)
    unfold more
    rw [if_pos c]
    omega
  · have e : fresh = more fresh gust := by unfold more; rw [if_neg c]; omega
    refine Ev.step (f := fun k => skiarearef50_Grow.j1 k l (more fresh gust)) (fun k => by simp only [skiarearef50_Grow.j0]; rw [if_neg (by decide), if_neg c, ← e]) (hj1 _ ?_)
    rw [← e]
    omega
end Go.Proofs.Ytfjnpdgjigkbcaa.Pure
