/- The contracts of messuagelaw1.begun and messuagelaw2.begun, at messuagelaw2's dump. -/
import Derived.Test.YthjfkblnbecjgaaGreatDoorL2Facts
set_option linter.unusedVariables false
open Go Go.Sx
namespace Go.Proofs.YthjfkblnbecjgaaGreatDoor
set_option maxRecDepth 100000
theorem begun1_tree : (L2.yes L2.f_messuagelaw1_begun).exe Tryz.prog (L2.cfg Tryz.prog) [] 20 200 = .done [] [] := by kernel_rfl
theorem begun1_holds : (L2.yes L2.f_messuagelaw1_begun).Holds Tryz.prog L2.ro := FSpec.holds [] 20 200 cfg_ok mixed (by
  intro is ls h1 h2 hp hr hl
  rw [begun1_tree]
  trivial)
end Go.Proofs.YthjfkblnbecjgaaGreatDoor
