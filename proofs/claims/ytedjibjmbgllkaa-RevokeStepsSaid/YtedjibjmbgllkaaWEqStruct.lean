-- Of the words that print.sh lays for this seat, those that its texts use.
import Derived.Test.YtedjibjmbgllkaaWWords
import Derived.Laws.StructEq
/-! ### 53. '==' of structs as_ one Bool -/
namespace Go.Proofs.YtedjibjmbgllkaaW.PrintWords
open Go.RowKit
section
variable {P : Program} {d : Nat} {xs ys : Array Value} {f : Field} {fs : List Field} {a b : Value} {r s : Bool} {w : World}
end
end Go.Proofs.YtedjibjmbgllkaaW.PrintWords
