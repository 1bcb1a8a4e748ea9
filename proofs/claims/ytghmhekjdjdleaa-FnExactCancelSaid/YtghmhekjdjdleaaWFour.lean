/- Words that print.sh wrote, shortened by a program of this session to what the claim names; conditions: those of each theorem. -/
import Derived.Test.YtghmhekjdjdleaaWTab
namespace Go.Proofs.YtghmhekjdjdleaaW.PrintLast
section
variable {P : Program} {ops : Array Oper} {Q : Exit → Act → World → Prop} {md : Region.Mode} {S : World → Prop} {ds : List Nat} {T : Bool × List (List Nat × List Nat)}
end
end Go.Proofs.YtghmhekjdjdleaaW.PrintLast
