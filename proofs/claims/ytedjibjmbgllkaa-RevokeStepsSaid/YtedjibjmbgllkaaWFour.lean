-- Of the words that print.sh lays for this seat, those that its texts use.
import Derived.Test.YtedjibjmbgllkaaWTab
/-! ### 56. Four, five, six operations that may come up next, in any order -/
namespace Go.Proofs.YtedjibjmbgllkaaW.PrintLast
section
variable {P : Program} {ops : Array Oper} {Q : Exit → Act → World → Prop} {md : Region.Mode} {S : World → Prop} {ds : List Nat} {T : Bool × List (List Nat × List Nat)}
end
end Go.Proofs.YtedjibjmbgllkaaW.PrintLast
