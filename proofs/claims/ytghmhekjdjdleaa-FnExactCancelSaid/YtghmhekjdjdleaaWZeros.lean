/- Words that print.sh wrote, shortened by a program of this session to what the claim names; conditions: those of each theorem. -/
import Derived.Test.YtghmhekjdjdleaaWApart
import Derived.Test.YtghmhekjdjdleaaWArr
namespace Go.Proofs.YtghmhekjdjdleaaW.PrintWords
open Go.RowKit
section
variable {P : Program}
end
namespace Kd
section
variable {P : Program} {ops : Array Oper} {rest : List Oper} {o : Oper} {a : Act} {Q : Exit → Act → World → Prop} {Kc : Act → World → Prop} {α : Type}
end
section
variable {α : Type} {d : Kd α} {e : Nat} {w : World} {base : Nat} {ok : Nat → Prop} {v : Value} {xs : List α}
end
section
variable {P : Program} {ops : Array Oper} {rest : List Oper} {o : Oper} {a : Act} {Q : Exit → Act → World → Prop} {Kc : Act → World → Prop} {α : Type}
end
end Kd
end Go.Proofs.YtghmhekjdjdleaaW.PrintWords
