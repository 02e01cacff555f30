/- A text of the proof; what is proved is said in the claim's last text. -/
import Derived.Test.YtgkinefofnlnlaaDoorVL1Facts
set_option linter.unusedVariables false
open Go Go.Sx
namespace Go.Proofs.YtgkinefofnlnlaaDoor
set_option maxRecDepth 100000
theorem begun_tree : L1.begun.exe Tryd.prog (L1.cfg Tryd.prog) [] 20 100 = .done [] [] := by kernel_rfl
theorem begun_holds : L1.begun.Holds Tryd.prog L1.ro := FSpec.holds [] 20 100 cfg_ok mixed (by
  intro is ls h1 h2 hp hr hl
  rw [begun_tree]
  trivial)
#print axioms begun_holds
end Go.Proofs.YtgkinefofnlnlaaDoor
