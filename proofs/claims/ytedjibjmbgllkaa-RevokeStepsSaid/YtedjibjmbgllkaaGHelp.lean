/- Small facts on rows of whole numbers that are read or owned, for the contracts by hand. -/
import Derived.Test.YtedjibjmbgllkaaWMore
namespace Go.Proofs.Ytedjibjmbgllkaa.Help
set_option linter.unusedVariables false
set_option linter.unusedSimpArgs false
open Go.RowKit Go.Proofs.YtedjibjmbgllkaaW.PrintWords

theorem int_cells {w : World} {A : Option Addr} {l : List Int} (h : Kd.C (Kd.int .i64) w A l.length l) (h0 : 0 < l.length) :
    ∃ b off, A = some ⟨b, off, none⟩ ∧ ∀ j, j < l.length → w.cell? ⟨b, off + j, none⟩ = some (.int .i64 (l.getD j 0)) := by
  obtain ⟨_, _, h⟩ := Kd.reads_of_C (enc := Value.int .i64) (d := (0:Int)) (h1 := fun _ => rfl) h
  obtain ⟨⟨b, off, sp⟩, rfl, hc⟩ := h h0
  have h1 := hc 0 h0
  have hsp : sp = none := by
    cases sp with
    | none => rfl
    | some x => simp only [Addr.add, if_true, World.cell?] at h1; split at h1 <;> simp at h1
  subst hsp
  exact ⟨b, off, rfl, fun j hj => by have := hc j hj; rwa [Addr.add_lit] at this⟩
theorem int_nil {w : World} {A : Option Addr} {l : List Int} (h : Kd.C (Kd.int .i64) w A l.length l) (h0 : A = none) : l = [] := by
  rcases Nat.eq_zero_or_pos l.length with h1 | h1
  · exact List.eq_nil_of_length_eq_zero h1
  · obtain ⟨b, off, e, _⟩ := int_cells h h1
    rw [h0] at e
    cases e
theorem int_own {w : World} {base e : Nat} {v : Value} {l : List Int} (h : w.ownsRow base e 1 v l.length (l.map (Value.int .i64))) : Kd.R (Kd.int .i64) e w base (fun _ => True) v l := Kd.R_of_own h (fun _ _ => trivial)
end Go.Proofs.Ytedjibjmbgllkaa.Help
