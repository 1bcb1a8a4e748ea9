/- Arguments that can be read as data, laid open to their cells: integers, bools, strings, structs and slices of whatever these are; conditions: none beyond the reading itself. -/
import Derived.Test.YtalehmhjddnmoaaWWords
import Derived.WalkKit
import Derived.ProofKit
import Derived.OpenShut
import Derived.ChangeArms
import Derived.DataReads
import Derived.Deep.Slices
namespace Go.Proofs.YtalehmhjddnmoaaO
open Go.RowKit Go.WideShapes Go.ChangeShapes Go.Proofs.YtalehmhjddnmoaaW.PrintWords
section
variable {H : Type} {enc : TypeId × Value → H} {P : Program} {w : World} {base : Nat} {spare : Nat → Bool} {held : Bool}
end
end Go.Proofs.YtalehmhjddnmoaaO
