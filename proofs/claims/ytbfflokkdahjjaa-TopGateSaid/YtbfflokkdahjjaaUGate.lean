/- What Decide, Use and Pass answer, in plain terms: the facts that the laws ask. -/
import Derived.Test.YtbfflokkdahjjaaGPassA
import Derived.Test.YtbfflokkdahjjaaGRef22
namespace Go.Proofs.Ytbfflokkdahjjaa.PV
open Go.RowKit Go.Proofs.Ytbfflokkdahjjaa.PAll Go.Proofs.Ytbfflokkdahjjaa.Pure Go.Proofs.YtbfflokkdahjjaaW.PrintWords Go.Proofs.YtbfflokkdahjjaaW.PrintLast Go.Proofs.YtbfflokkdahjjaaW.PrintMore
set_option linter.unusedVariables false
set_option linter.unusedSimpArgs false
theorem why_zero {p : S40} {m : M9} {op lift t : Int} : why p m op lift t = 0 ↔
    (p.f7.f0 ≤ t ∧ t < p.f7.f1) ∧ op ∈ p.f5 ∧ openP p t = true ∧ used p m t = false ∧ ¬ (t < m.f7 ∨ (lift = m.f6 ∧ t < wrap64 (m.f7 + 300))) := by
  unfold why
  by_cases h1 : t < p.f7.f0 ∨ t ≥ p.f7.f1
  · rw [if_pos h1]; constructor
    · intro h; simp at h
    · rintro ⟨h, _⟩; omega
  · rw [if_neg h1]
    by_cases h2 : op ∈ p.f5
    · rw [if_neg (fun h => h h2)]
      by_cases h3 : openP p t = false
      · rw [if_pos h3]; constructor
        · intro h; simp at h
        · rintro ⟨_, _, h, _⟩; rw [h3] at h; simp at h
      · rw [if_neg h3]
        by_cases h4 : used p m t = true
        · rw [if_pos h4]; constructor
          · intro h; simp at h
          · rintro ⟨_, _, _, h, _⟩; rw [h4] at h; simp at h
        · rw [if_neg h4]
          by_cases h5 : t < m.f7 ∨ (lift = m.f6 ∧ t < wrap64 (m.f7 + 300))
          · rw [if_pos h5]; constructor
            · intro h; simp at h
            · rintro ⟨_, _, _, _, h⟩; exact absurd h5 h
          · rw [if_neg h5]
            exact ⟨fun _ => ⟨by omega, h2, by simpa using h3, by simpa using h4, h5⟩, fun _ => rfl⟩
    · rw [if_pos h2]; constructor
      · intro h; simp at h
      · rintro ⟨_, h, _⟩; exact absurd h h2
theorem chk_iff {key : Int} {m : M9} : chk key m = true ↔ (mrange m.f0 m.f1 m.f2 m.f3 m.f4 m.f5 m.f6 m.f7 ∧ ¬ mstate m.f3 m.f5 m.f6 m.f7) ∧ signT key m.f0 m.f1 m.f2 m.f3 m.f4 m.f5 m.f6 m.f7 = m.f8 := by
  unfold chk checkF
  rw [Bool.and_eq_true, decide_eq_true_eq, decide_eq_true_eq, mright_zero]
theorem chk_signM {key : Int} {n : M9} (h : mrange n.f0 n.f1 n.f2 n.f3 n.f4 n.f5 n.f6 n.f7 ∧ ¬ mstate n.f3 n.f5 n.f6 n.f7) : chk key (signM key n) = true := chk_iff.2 ⟨h, rfl⟩
/-- A medium after a ride has contents that are in order. -/
theorem use_right {p : S40} {m : M9} {op lift t : Int} (hm : mrange m.f0 m.f1 m.f2 m.f3 m.f4 m.f5 m.f6 m.f7 ∧ ¬ mstate m.f3 m.f5 m.f6 m.f7) (h : (useF p m op lift t).2 = 0) (hg : good p) :
    mrange (useF p m op lift t).1.f0 (useF p m op lift t).1.f1 (useF p m op lift t).1.f2 (useF p m op lift t).1.f3 (useF p m op lift t).1.f4 (useF p m op lift t).1.f5 (useF p m op lift t).1.f6 (useF p m op lift t).1.f7 ∧
    ¬ mstate (useF p m op lift t).1.f3 (useF p m op lift t).1.f5 (useF p m op lift t).1.f6 (useF p m op lift t).1.f7 := by
  obtain ⟨h1, h2, h3, h4⟩ := use_one h
  obtain ⟨hs, _, _, hu, hb⟩ := why_zero.1 h1
  obtain ⟨hr, hst⟩ := hm
  have hg1 := hg.1
  have hd := day_le t
  have hd0 : 0 ≤ dayF t := by unfold dayF; rw [if_pos (by omega)]; omega
  rw [h4]
  unfold mrange at hr
  unfold mstate at hst
  have w1 : wrap64 (m.f1 + 1) = m.f1 + 1 := by unfold wrap64; omega
  have w2 : wrap64 (m.f4 - 1) = m.f4 - 1 := by unfold wrap64; omega
  have hl : p.f1 = 2 ∨ (p.f1 = 1 ∧ ¬ dayF t = m.f5) → 1 ≤ m.f4 := by
    intro hp
    unfold used at hu
    rcases hp with hp | ⟨hp, hday⟩
    · rw [if_neg (by omega), if_neg (by omega)] at hu
      have := of_decide_eq_false hu
      omega
    · rw [if_neg (by omega), if_pos hp, decide_eq_true (show dayF t ≠ m.f5 from hday), Bool.and_true] at hu
      have := of_decide_eq_false hu
      omega
  simp only [w1, w2]
  unfold mrange mstate
  refine ⟨⟨by omega, by omega, by omega, by split <;> omega, by omega, by split <;> omega, by omega, by omega⟩, ?_⟩
  split <;> omega
/-- Behind a ride the gate does not open again at once. -/
theorem not_again {g : G8} {l : List (S40)} {m : M9} {t : Int} (h : (useF (findP l m.f2).1 m g.f2 g.f1 t).2 = 0) (hg : good (findP l m.f2).1) :
    ¬ decideF (passOk g m (useF (findP l m.f2).1 m g.f2 g.f1 t).1 t).1 l (passOk g m (useF (findP l m.f2).1 m g.f2 g.f1 t).1 t).2.1 t = 0 := by
  intro hd
  obtain ⟨h1, h2, h3, h4⟩ := use_one h
  obtain ⟨hs, _⟩ := why_zero.1 h1
  have hg1 := hg.1
  have hw := (why_zero.1 (decide_open.1 hd).2.2.2.2).2.2.2.2
  apply hw
  rw [h4]
  unfold passOk signM
  simp only
  have : wrap64 (t + 300) = t + 300 := by unfold wrap64; omega
  rw [this]
  right
  exact ⟨by first | trivial | rfl, by omega⟩
theorem use_errors {p : S40} {m : M9} {op lift t : Int} (h1 : why p m op lift t = 0) (hl : 1 ≤ lift ∧ lift ≤ 9999) : (useF p m op lift t).2 = if m.f1 ≥ 1000000 then 12 else 0 := by
  unfold useF
  rw [if_neg (by omega)]
  by_cases h2 : m.f1 ≥ 1000000
  · rw [if_pos h2, if_pos h2]
  · rw [if_neg h2, if_neg h2, if_neg (by omega)]
theorem gright_ok {g : G8} (h : gright g = 0) : gateOk g ∧ rightC g.f5 g.f6 = 0 := by
  unfold gright at h
  by_cases c : gateOk g
  · rw [if_pos c] at h; exact ⟨c, h⟩
  · rw [if_neg c] at h; simp at h
theorem good_few {l : List (S40)} (h : ∀ p ∈ l, good p) : Few l := fun p hp => by
  have := (h p hp).2.2
  omega
/-- What Pass does, by the four ways. -/
theorem pass_ways (g : G8) (l : List (S40)) (m : M9) (t : Int) (hg : gateOk g) :
    (¬ decideF g l m t = 0 ∧ passF g l m t = (gz, mz, rz, 13)) ∨
    (decideF g l m t = 0 ∧ g.f3 ≥ 1000000 ∧ passF g l m t = (gz, mz, rz, 9)) ∨
    (decideF g l m t = 0 ∧ g.f3 < 1000000 ∧ m.f1 ≥ 1000000 ∧ passF g l m t = (gz, mz, rz, 12)) ∨
    (decideF g l m t = 0 ∧ g.f3 < 1000000 ∧ m.f1 < 1000000 ∧ (useF (findP l m.f2).1 m g.f2 g.f1 t).2 = 0 ∧ passF g l m t = passOk g m (useF (findP l m.f2).1 m g.f2 g.f1 t).1 t) := by
  unfold gateOk at hg
  by_cases h1 : decideF g l m t = 0
  · have hu := use_errors (decide_open.1 h1).2.2.2.2 hg.2.1
    right
    by_cases h2 : g.f3 ≥ 1000000
    · left
      exact ⟨h1, h2, by unfold passF; rw [if_neg (by omega), if_pos h2]⟩
    · right
      by_cases h3 : m.f1 ≥ 1000000
      · left
        rw [if_pos h3] at hu
        exact ⟨h1, by omega, h3, by unfold passF; rw [if_neg (by omega), if_neg h2, hu, if_pos (by omega)]⟩
      · right
        rw [if_neg h3] at hu
        exact ⟨h1, by omega, by omega, hu, by unfold passF; rw [if_neg (by omega), if_neg h2, hu, if_neg (by omega)]⟩
  · left
    exact ⟨h1, by unfold passF; rw [if_pos h1]⟩
end Go.Proofs.Ytbfflokkdahjjaa.PV
