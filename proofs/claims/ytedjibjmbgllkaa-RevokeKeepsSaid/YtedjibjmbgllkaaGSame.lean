/- The comparison with the empty list, in the form in which a composite literal without fields stands. -/
import Derived.Test.YtedjibjmbgllkaaPAllx11
namespace Go.Proofs.Ytedjibjmbgllkaa.PAll
open Go.RowKit Go.Proofs.YtedjibjmbgllkaaW.PrintWords Go.Proofs.YtedjibjmbgllkaaW.PrintLast Go.Proofs.YtedjibjmbgllkaaW.PrintMore
set_option linter.unusedVariables false
set_option linter.unusedSimpArgs false
theorem skiarearef27_SameNil (k : Nat) (a0_0 : Int) (A0_1 : Option Addr) (c0_1 : Nat) (l0_1 : List Int) (r : Bool) (w : World) (hr0_1 : Kd.C (Kd.int .i64) w A0_1 l0_1.length l0_1) (hc0_1 : l0_1.length ≤ c0_1) (h : skiarearef27_Same.f k a0_0 l0_1 0 [] = some r) :
    Calls Try.prog 18 #[.agg #[.int .i64 a0_0, .slice A0_1 l0_1.length c0_1], .agg #[.int .i64 0, .slice none 0 0]] w fun e w' => e = .returned (.bool r) ∧ Below w.heap.size w w' :=
  skiarearef27_Same.calls k a0_0 A0_1 c0_1 l0_1 0 none 0 [] r w hr0_1 hc0_1 (Kd.C_nil _ _) (Nat.le_refl _) h
end Go.Proofs.Ytedjibjmbgllkaa.PAll
