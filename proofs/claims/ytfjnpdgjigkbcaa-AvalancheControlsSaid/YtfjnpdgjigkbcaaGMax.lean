/- slices.Max at []int returns the greatest number of a list that is not empty. -/
import Derived.Test.YtfjnpdgjigkbcaaPAllx0
import Derived.Test.YtfjnpdgjigkbcaaGHelp
import Derived.Test.YtfjnpdgjigkbcaaShelf
namespace Go.Proofs.Ytfjnpdgjigkbcaa.PAll
open Go.RowKit Go.Proofs.YtfjnpdgjigkbcaaW.PrintWords Go.Proofs.YtfjnpdgjigkbcaaW.PrintLast Go.Proofs.YtfjnpdgjigkbcaaW.PrintMore
set_option linter.unusedVariables false
set_option linter.unusedSimpArgs false
def slices_Max_int_int.f (l0 : List Int) : Option (Int) := if 0 < l0.length then some (Go.Lib.maxOf l0) else none
theorem slices_Max_int_int.calls (A0 : Option Addr) (c0 : Nat) (l0 : List Int) (r : Int) (w : World) (hr0 : Kd.C (Kd.int .i64) w A0 l0.length l0) (hc0 : l0.length ≤ c0) (h : slices_Max_int_int.f l0 = some r) :
    Calls Try.prog 38 #[.slice A0 l0.length c0] w fun e w' => e = .returned (.int .i64 r) ∧ Drawn0 w w' := by
  unfold slices_Max_int_int.f at h
  split at h
  · rename_i h0
    injection h with h
    subst h
    have hm := Kd.C_max hr0
    obtain ⟨b, off, rfl, hc⟩ := Help.int_cells hr0 h0
    refine (Try.slices_Max_int b off l0.length c0 l0 w h0 (Nat.le_refl _) hm hc).mono ?_
    rintro e w' ⟨rfl, rfl⟩
    rw [List.take_length]
    exact ⟨rfl, 0, rfl⟩
  · cases h
end Go.Proofs.Ytfjnpdgjigkbcaa.PAll
