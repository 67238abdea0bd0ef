/- The reference's Right of products: whatever it returns, 0 only for products whose season, kind and lists are in bounds. No condition. -/
import Derived.Test.YtbfflokkdahjjaaPAllx19
import Derived.Test.YtbfflokkdahjjaaPAllx20
import Derived.Test.YtbfflokkdahjjaaPAllx21
import Derived.Test.YtbfflokkdahjjaaUBase
import Derived.Test.YtbfflokkdahjjaaGPassA
namespace Go.Proofs.Ytbfflokkdahjjaa.PV
open Go.RowKit Go.Proofs.Ytbfflokkdahjjaa.PAll Go.Proofs.Ytbfflokkdahjjaa.Pure Go.Proofs.YtbfflokkdahjjaaW.PrintWords Go.Proofs.YtbfflokkdahjjaaW.PrintLast Go.Proofs.YtbfflokkdahjjaaW.PrintMore
set_option linter.unusedVariables false
set_option linter.unusedSimpArgs false
theorem hours_l0 (l : List (S73)) (hb : l.length ≤ 1000000) : ∀ (d i : Nat), i + d = l.length → ∃ r, Ev (fun k => skiarearef02_Right.l0 k l i) r := by
  intro d
  induction d with
  | zero =>
    intro i hi
    exact ⟨true, Ev.step (f := fun _ => some true) (fun k => by simp only [skiarearef02_Right.l0]; rw [if_neg (by omega)]) (Ev.now _)⟩
  | succ d ih =>
    intro i hi
    obtain ⟨r, hr⟩ := ih (i + 1) (by omega)
    by_cases c : (rd_T73 l i).f0 < 1 ∨ (rd_T73 l i).f0 > 127 ∨ (rd_T73 l i).f1 < 0 ∨ (rd_T73 l i).f1 ≥ (rd_T73 l i).f2 ∨ (rd_T73 l i).f2 > 86400
    · refine ⟨false, Ev.step (f := fun _ => some false) (fun k => ?_) (Ev.now _)⟩
      simp only [skiarearef02_Right.l0]
      rw [if_pos (by omega), if_pos (by omega)]
      (repeat' split) <;> first | rfl | (exfalso; omega)
    · refine ⟨r, Ev.step (f := fun k => skiarearef02_Right.l0 k l ((i + 1 : Nat) : Int)) (fun k => ?_) hr⟩
      simp only [skiarearef02_Right.l0]
      rw [if_pos (by omega), if_pos (by omega), if_neg (by omega), if_neg (by omega), if_neg (by omega), if_neg (by omega), if_neg (by omega), wr1 (by omega)]
theorem hours_f (l : List (S73)) : ∃ b, Ev (fun k => skiarearef02_Right.f k l) b ∧ (b = true → l.length ≤ 16) := by
  by_cases h : l.length ≤ 16
  · obtain ⟨r, hr⟩ := hours_l0 l (by omega) l.length 0 (by omega)
    exact ⟨r, Ev.cg hr (fun k => by unfold skiarearef02_Right.f; rw [if_neg (by omega)]; rfl), fun _ => h⟩
  · exact ⟨false, Ev.cg (f := fun _ => some false) (Ev.now _) (fun k => by unfold skiarearef02_Right.f; rw [if_pos (by omega)]), fun h => by simp at h⟩
theorem hours_c (A : Option Addr) (c : Nat) (l : List (S73)) (w : World) (hC : Kd.C k73 w A l.length l) (hc : l.length ≤ c) :
    ∃ b, (b = true → l.length ≤ 16) ∧ ∀ w, Kd.C k73 w A l.length l → Calls Try.prog 28 #[.slice A l.length c] w fun e w' => e = .returned (.bool b) ∧ Drawn0 w w' := by
  obtain ⟨b, hb, h16⟩ := hours_f l
  obtain ⟨k, hk⟩ := hb.rounds
  exact ⟨b, h16, fun w hC => skiarearef02_Right.calls k A c l b w hC hc hk⟩
/-- What is known of a product that Right accepts. -/
def good (p : S40) : Prop := (0 ≤ p.f7.f0 ∧ p.f7.f0 < p.f7.f1 ∧ p.f7.f1 ≤ 20000000) ∧ (p.f1 = 0 ∨ p.f1 = 1 ∨ p.f1 = 2) ∧ p.f5.length ≤ 8 ∧ p.f6.length ≤ 16
/-- The operators up to k are in order. -/
def ups (l : List Int) (k : Nat) : Prop := k ≤ l.length ∧ ∀ j, j < k → ((j : Int) + 1 ≤ rd l (j : Int) ∧ rd l (j : Int) ≤ 8)
theorem ups_len {l : List Int} (h : ups l l.length) : l.length ≤ 8 := by
  rcases Nat.lt_or_ge 8 l.length with h8 | h8
  · have := h.2 8 h8
    omega
  · exact h8
theorem ups_le {l : List Int} {k : Nat} (h : ups l k) : k ≤ 8 := by
  rcases Nat.lt_or_ge 8 k with h8 | h8
  · have := h.2 8 h8
    omega
  · exact h8
theorem ups_zero (l : List Int) : ups l 0 := ⟨Nat.zero_le _, fun j hj => absurd hj (Nat.not_lt_zero _)⟩
theorem ups_next {l : List Int} {k : Nat} (h : ups l k) (hk : k < l.length) (h8 : rd l (k : Int) ≤ 8) (h1 : 1 ≤ rd l (k : Int)) (h2 : 0 < k → rd l ((k - 1 : Nat) : Int) < rd l (k : Int)) : ups l (k + 1) := by
  refine ⟨hk, fun j hj => ?_⟩
  rcases Nat.lt_or_ge j k with hjk | hjk
  · exact h.2 j hjk
  · obtain rfl : j = k := by omega
    rcases Nat.eq_zero_or_pos j with h0 | h0
    · subst h0; exact ⟨by simpa using h1, h8⟩
    · have h3 := (h.2 (j - 1) (by omega)).1
      have h4 := h2 h0
      exact ⟨by omega, h8⟩
def gateOk (g : G8) : Prop := (1 ≤ g.f0 ∧ g.f0 ≤ 9999) ∧ (1 ≤ g.f1 ∧ g.f1 ≤ 9999) ∧ (1 ≤ g.f2 ∧ g.f2 ≤ 8) ∧ (1 ≤ g.f3 ∧ g.f3 ≤ 1000000) ∧ (0 ≤ g.f7 ∧ g.f7 ≤ 20000000)
instance (g : G8) : Decidable (gateOk g) := by unfold gateOk; infer_instance
/-- What Right of a gate returns. -/
def gright (g : G8) : Int := if gateOk g then rightC g.f5 g.f6 else 2
theorem right28R (g : G8) (h : g.f6.length ≤ 1000000) : Ev (fun k => skiarearef28_Right.f k g.f0 g.f1 g.f2 g.f3 g.f4 g.f5 g.f6 g.f7) (gright g) := by
  unfold gright
  by_cases c : gateOk g
  · rw [if_pos c]
    unfold gateOk at c
    refine Ev.cg (f := fun k => (skiarearef27_Right.f k g.f5 g.f6).bind fun t => some t) (Ev.bind (f := fun _ t => some t) (rightR g.f5 g.f6 h) (Ev.now _)) (fun k => ?_)
    unfold skiarearef28_Right.f
    rw [if_neg (by omega), if_neg (by omega), if_neg (by omega), if_neg (by omega), if_neg (by omega), if_neg (by omega), if_neg (by omega), if_neg (by omega), if_neg (by omega), if_neg (by omega)]
  · rw [if_neg c]
    refine Ev.cg (f := fun _ => some 2) (Ev.now _) (fun k => ?_)
    unfold gateOk at c
    unfold skiarearef28_Right.f
    (repeat' split) <;> first | rfl | (exfalso; omega)
theorem right28_c (g : G8) (A : Option Addr) (c : Nat) (w : World) (hC : Kd.C (Kd.int .i64) w A g.f6.length g.f6) (hc : g.f6.length ≤ c) (h : g.f6.length ≤ 1000000) :
    Calls Try.prog 6 #[.agg #[.int .i64 g.f0, .int .i64 g.f1, .int .i64 g.f2, .int .i64 g.f3, .int .u64 g.f4, .int .i64 g.f5, .slice A g.f6.length c, .int .i64 g.f7]] w fun e w' => e = .returned (.int .i64 (gright g)) ∧ Below w.heap.size w w' := by
  obtain ⟨k, hk⟩ := (right28R g h).rounds
  exact skiarearef28_Right.calls k _ _ _ _ _ _ A c _ _ _ w hC hc hk
end Go.Proofs.Ytbfflokkdahjjaa.PV
