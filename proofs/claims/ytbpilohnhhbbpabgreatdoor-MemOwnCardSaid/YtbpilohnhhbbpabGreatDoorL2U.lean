/- Contracts of loads and stores by a buffer and a table. -/
import Derived.Test.YtbpilohnhhbbpabGreatDoorL2Bs
import Derived.Test.YtbpilohnhhbbpabGreatDoorPuU
set_option linter.unusedVariables false
set_option linter.constructorNameAsVariable false
namespace Go.Sx.L2
end Go.Sx.L2
