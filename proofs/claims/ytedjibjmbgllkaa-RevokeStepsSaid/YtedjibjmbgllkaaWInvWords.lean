-- Of the words that print.sh lays for this seat, those that its texts use.
import Derived.Test.YtedjibjmbgllkaaWInv
import Derived.Test.YtedjibjmbgllkaaWFootNe
namespace Go.Proofs.YtedjibjmbgllkaaW.PrintWords
open Go.RowKit
end Go.Proofs.YtedjibjmbgllkaaW.PrintWords
namespace Go.Proofs.YtedjibjmbgllkaaW.PrintLast
section
variable {ops : Array Oper} {a : Act} {o og : Oper} {g : Nat} {t : Tmp} {u : Bool}
end
end Go.Proofs.YtedjibjmbgllkaaW.PrintLast
