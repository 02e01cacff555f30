/- The executor: texts of it, one behind another. -/
import Derived.Test.YtbpilohnhhbbpaaGreatDoorL2B
import Derived.Test.YtbpilohnhhbbpaaGreatDoorSxM7
import Derived.Test.YtbpilohnhhbbpaaGreatDoorSxSel
import Derived.Test.YtbpilohnhhbbpaaGreatDoorL2CB
import Derived.Test.YtbpilohnhhbbpaaGreatDoorL2S
import Derived.Test.YtbpilohnhhbbpaaGreatDoorL2UserAllNNST
set_option linter.unusedVariables false
set_option linter.constructorNameAsVariable false
/- A part of the proof of messuagelaw11.UserAll. -/
set_option linter.unusedVariables false
set_option linter.unusedSimpArgs false
open Go Go.Sx
namespace Go.Proofs.YtbpilohnhhbbpaaGreatDoor
open Go.ChangeShapes Go.WideShapes Go.RowKit
set_option maxRecDepth 100000
theorem UserAll_nns_s0 : Tree.mn UserAll_nns_x [true, true, true, true] = Tree.idT (Tree.mn UserAll_nns_t [true, true, true, true]) := by kernel_rfl
end Go.Proofs.YtbpilohnhhbbpaaGreatDoor
/- A part of the proof of messuagelaw11.UserAll. -/
set_option linter.unusedVariables false
set_option linter.unusedSimpArgs false
open Go Go.Sx
namespace Go.Proofs.YtbpilohnhhbbpaaGreatDoor
open Go.ChangeShapes Go.WideShapes Go.RowKit
set_option maxRecDepth 100000
theorem UserAll_nns_s1 : Tree.mn (Tree.pk UserAll_nns_x [true, true, true, true, true, true]) [true, true, true, true, true, true, true, false, false, false] = Tree.idT (Tree.mn (Tree.pk UserAll_nns_t [true, true, true, true, true, true]) [true, true, true, true, true, true, true, false, false, false]) := by kernel_rfl
theorem UserAll_nns_s2 : Tree.pk UserAll_nns_x [true, true, true, true, true, true, true, false, false, false, true] = Tree.idT (Tree.pk UserAll_nns_t [true, true, true, true, true, true, true, false, false, false, true]) := by kernel_rfl
theorem UserAll_nns_s3 : Tree.pk UserAll_nns_x [true, true, true, true, true, true, true, false, false, false, false] = Tree.idT (Tree.pk UserAll_nns_t [true, true, true, true, true, true, true, false, false, false, false]) := by kernel_rfl
end Go.Proofs.YtbpilohnhhbbpaaGreatDoor
/- A part of the proof of messuagelaw11.UserAll. -/
set_option linter.unusedVariables false
set_option linter.unusedSimpArgs false
open Go Go.Sx
namespace Go.Proofs.YtbpilohnhhbbpaaGreatDoor
open Go.ChangeShapes Go.WideShapes Go.RowKit
set_option maxRecDepth 100000
theorem UserAll_nns_s4 : Tree.mn (Tree.pk UserAll_nns_x [true, true, true, true, true, false]) [true, true, true, true, true, false, true, false, false, false] = Tree.idT (Tree.mn (Tree.pk UserAll_nns_t [true, true, true, true, true, false]) [true, true, true, true, true, false, true, false, false, false]) := by kernel_rfl
theorem UserAll_nns_s5 : Tree.pk UserAll_nns_x [true, true, true, true, true, false, true, false, false, false, true] = Tree.idT (Tree.pk UserAll_nns_t [true, true, true, true, true, false, true, false, false, false, true]) := by kernel_rfl
theorem UserAll_nns_s6 : Tree.pk UserAll_nns_x [true, true, true, true, true, false, true, false, false, false, false] = Tree.idT (Tree.pk UserAll_nns_t [true, true, true, true, true, false, true, false, false, false, false]) := by kernel_rfl
end Go.Proofs.YtbpilohnhhbbpaaGreatDoor
