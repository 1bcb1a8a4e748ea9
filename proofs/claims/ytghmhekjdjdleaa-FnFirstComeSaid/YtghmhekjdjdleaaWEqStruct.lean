/- Words that print.sh wrote, shortened by a program of this session to what the claim names; conditions: those of each theorem. -/
import Derived.Test.YtghmhekjdjdleaaWWords
import Derived.Laws.StructEq
namespace Go.Proofs.YtghmhekjdjdleaaW.PrintWords
open Go.RowKit
section
variable {P : Program} {d : Nat} {xs ys : Array Value} {f : Field} {fs : List Field} {a b : Value} {r s : Bool} {w : World}
end
end Go.Proofs.YtghmhekjdjdleaaW.PrintWords
