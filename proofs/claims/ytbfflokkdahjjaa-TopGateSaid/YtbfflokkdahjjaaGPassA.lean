/- gate.Pass: the gate, the medium and the ride after a guest, or the error. Conditions as for Decide, and a bound on the time at which the gate opens. -/
import Derived.Test.YtbfflokkdahjjaaPAllx18
import Derived.Test.YtbfflokkdahjjaaGDecide
namespace Go.Proofs.Ytbfflokkdahjjaa.PV
open Go.RowKit Go.Proofs.Ytbfflokkdahjjaa.PAll Go.Proofs.Ytbfflokkdahjjaa.Pure Go.Proofs.YtbfflokkdahjjaaW.PrintWords Go.Proofs.YtbfflokkdahjjaaW.PrintLast Go.Proofs.YtbfflokkdahjjaaW.PrintMore
set_option linter.unusedVariables false
set_option linter.unusedSimpArgs false
def gz : G8 := ⟨0, 0, 0, 0, 0, 0, [], 0⟩
def rz : R7 := ⟨0, 0, 0, 0, 0, 0, 0⟩
def signM (key : Int) (m : M9) : M9 := ⟨m.f0, m.f1, m.f2, m.f3, m.f4, m.f5, m.f6, m.f7, signT key m.f0 m.f1 m.f2 m.f3 m.f4 m.f5 m.f6 m.f7⟩
def passOk (g : G8) (m n : M9) (t : Int) : G8 × M9 × R7 × Int :=
  (⟨g.f0, g.f1, g.f2, wrap64 (g.f3 + 1), g.f4, g.f5, g.f6, g.f7⟩, signM g.f4 n, ⟨g.f0, g.f3, m.f0, n.f1, m.f2, g.f1, t⟩, 0)
def passF (g : G8) (l : List (S40)) (m : M9) (t : Int) : G8 × M9 × R7 × Int :=
  if ¬ decideF g l m t = 0 then (gz, mz, rz, 13) else if g.f3 ≥ 1000000 then (gz, mz, rz, 9)
  else if ¬ (useF (findP l m.f2).1 m g.f2 g.f1 t).2 = 0 then (gz, mz, rz, (useF (findP l m.f2).1 m g.f2 g.f1 t).2)
  else passOk g m (useF (findP l m.f2).1 m g.f2 g.f1 t).1 t
theorem decide_open {g : G8} {l : List (S40)} {m : M9} {t : Int} : decideF g l m t = 0 ↔
    (g.f7 ≤ t ∧ wrap64 (t - g.f7) < 86400) ∧ chk g.f4 m = true ∧ ¬ m.f0 ∈ g.f6 ∧ (findP l m.f2).2 = true ∧ why (findP l m.f2).1 m g.f2 g.f1 t = 0 := by
  unfold decideF
  by_cases h1 : t < g.f7 ∨ wrap64 (t - g.f7) ≥ 86400
  · rw [if_pos h1]; constructor
    · intro h; simp at h
    · rintro ⟨h, _⟩; omega
  · rw [if_neg h1]
    by_cases h2 : chk g.f4 m = false
    · rw [if_pos h2]; constructor
      · intro h; simp at h
      · rintro ⟨_, h, _⟩; rw [h2] at h; simp at h
    · rw [if_neg h2]
      by_cases h3 : m.f0 ∈ g.f6
      · rw [if_pos h3]; constructor
        · intro h; simp at h
        · rintro ⟨_, _, h, _⟩; exact absurd h3 h
      · rw [if_neg h3]
        by_cases h4 : (findP l m.f2).2 = false
        · rw [if_pos h4]; constructor
          · intro h; simp at h
          · rintro ⟨_, _, _, h, _⟩; rw [h4] at h; simp at h
        · rw [if_neg h4]
          exact ⟨fun h => ⟨by omega, by simpa using h2, h3, by simpa using h4, h⟩, fun h => h.2.2.2.2⟩
theorem chk_range {key : Int} {m : M9} (h : chk key m = true) : mrange m.f0 m.f1 m.f2 m.f3 m.f4 m.f5 m.f6 m.f7 ∧ ¬ mstate m.f3 m.f5 m.f6 m.f7 := by
  unfold chk checkF at h
  simp only [Bool.and_eq_true, decide_eq_true_eq] at h
  exact mright_zero.1 h.1
theorem use_one {p : S40} {m : M9} {op lift t : Int} (h : (useF p m op lift t).2 = 0) :
    why p m op lift t = 0 ∧ m.f1 < 1000000 ∧ (1 ≤ lift ∧ lift ≤ 9999) ∧
    (useF p m op lift t).1 = ⟨m.f0, wrap64 (m.f1 + 1), m.f2, if m.f3 = -1 then t else m.f3, if p.f1 = 2 ∨ (p.f1 = 1 ∧ ¬ dayF t = m.f5) then wrap64 (m.f4 - 1) else m.f4, dayF t, lift, t, 0⟩ := by
  unfold useF at h ⊢
  by_cases h1 : why p m op lift t = 0
  · rw [if_neg (by omega)] at h ⊢
    by_cases h2 : m.f1 ≥ 1000000
    · rw [if_pos h2] at h; simp at h
    · rw [if_neg h2] at h ⊢
      by_cases h3 : lift < 1 ∨ lift > 9999
      · rw [if_pos h3] at h; simp at h
      · rw [if_neg h3]
        exact ⟨h1, by omega, by omega, rfl⟩
  · rw [if_pos h1] at h; simp at h
theorem day_le (t : Int) : -1 ≤ dayF t ∧ dayF t ≤ 231 := by
  unfold dayF; split <;> omega
theorem use_ok {key : Int} {p : S40} {m : M9} {op lift t : Int} (hc : chk key m = true) (h : (useF p m op lift t).2 = 0) (ht : -1 ≤ t ∧ t ≤ 900000000) :
    media_Body.ok (useF p m op lift t).1.f0 (useF p m op lift t).1.f1 (useF p m op lift t).1.f2 (useF p m op lift t).1.f3 (useF p m op lift t).1.f4 (useF p m op lift t).1.f5 (useF p m op lift t).1.f6 (useF p m op lift t).1.f7 := by
  obtain ⟨h1, h2, h3, h4⟩ := use_one h
  obtain ⟨hr, _⟩ := chk_range hc
  have hd := day_le t
  rw [h4]
  unfold mrange at hr
  have w1 : wrap64 (m.f1 + 1) = m.f1 + 1 := by unfold wrap64; omega
  have w2 : wrap64 (m.f4 - 1) = m.f4 - 1 := by unfold wrap64; omega
  unfold media_Body.ok
  simp only [w1, w2]
  refine ⟨by omega, by omega, by omega, by split <;> omega, by split <;> omega, by omega, by omega, by omega⟩
theorem copied_c (g : G8) (A : Option Addr) (c : Nat) (w : World) (hC : Kd.C (Kd.int .i64) w A g.f6.length g.f6) (hc : g.f6.length ≤ c) (hf : g.f6.length ≤ 1000000) :
    Calls Try.prog 26 #[.agg #[.int .i64 g.f0, .int .i64 g.f1, .int .i64 g.f2, .int .i64 g.f3, .int .u64 g.f4, .int .i64 g.f5, .slice A g.f6.length c, .int .i64 g.f7]] w fun e w' => ∃ v, e = .returned (.agg #[.int .i64 g.f0, .int .i64 g.f1, .int .i64 g.f2, .int .i64 g.f3, .int .u64 g.f4, .int .i64 g.f5, v, .int .i64 g.f7]) ∧ Kd.R (Kd.int .i64) 3 w' w.heap.size (fun _ => True) v g.f6 ∧ Below w.heap.size w w' :=
  gate_copied.calls _ _ _ _ _ _ A c _ _ _ _ _ _ _ _ _ _ w hC hc (by unfold gate_copied.f slices_Clone_int_int.f; rw [if_pos hf]; rfl)
set_option maxHeartbeats 1000000 in
theorem fail_c (e : Int) (w : World) : Calls Try.prog 24 #[.int .i64 e] w fun x w' => x = .returned (.tuple #[.agg #[.int .i64 0, .int .i64 0, .int .i64 0, .int .i64 0, .int .u64 0, .int .i64 0, .slice none 0 0, .int .i64 0], .agg #[.int .i64 0, .int .i64 0, .int .i64 0, .int .i64 0, .int .i64 0, .int .i64 0, .int .i64 0, .int .i64 0, .int .u64 0], .agg #[.int .i64 0, .int .i64 0, .int .i64 0, .int .i64 0, .int .i64 0, .int .i64 0, .int .i64 0], .int .i64 e]) ∧ Below w.heap.size w w' := by
  have hu := Try.underlying27
  have hu2 := Try.underlying30
  have hu3 := Try.underlying47
  go_enter Try.func24, Try.ntmps24
  go_wp2
  refine bodyPost_ret (results_list (rs := [.cell 2 27, .cell 3 30, .cell 4 47, .tmp 5]) rfl (by simp)
    (.cell w.heap.size 27 _ (0, 0) _ rfl (blk_alloc (blk_alloc (blk_new w _) _) _) Try.underlying27 rfl (by kernel_rfl)
    (.cell (w.heap.size + 1) 30 _ (0, 0) _ rfl (blk_alloc (blk_new1 w _ _) _) Try.underlying30 rfl (by kernel_rfl)
    (.cell (w.heap.size + 1 + 1) 47 _ (0, 0) _ rfl (blk_new2 w _ _ _) Try.underlying47 rfl (by kernel_rfl) (.tmp .nil))))) rfl ?_
  exact ⟨rfl, below_alloc (below_alloc (below_alloc (Below.refl _ _) _) _) _⟩
end Go.Proofs.Ytbfflokkdahjjaa.PV
