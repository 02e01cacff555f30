/- The contracts of messuagelaw1.begun and messuagelaw2.begun, at the seat's dump. -/
import Derived.Test.YtpmgfdakljjlaaaGreatDoorL2Facts
import Derived.Test.YtpmgfdakljjlaaaGreatDoorSxM7
set_option linter.unusedVariables false
set_option linter.constructorNameAsVariable false
open Go Go.Sx
namespace Go.Proofs.YtpmgfdakljjlaaaGreatDoor
set_option maxRecDepth 100000
theorem begun1_tree : (L2.yes L2.f_messuagelaw1_begun).exe Tryz.prog (L2.cfg Tryz.prog) [] 20 200 = .done [] [] := by kernel_rfl
theorem begun1_holds : (L2.yes L2.f_messuagelaw1_begun).Holds Tryz.prog L2.ro := FSpec.holds [] 20 200 cfg_ok mixed (by
  intro is ls h1 h2 hp hr hl
  rw [begun1_tree]
  trivial)
theorem cfg1_ok : (L2.cfg1 Tryz.prog).Ok Tryz.prog := by
  refine ⟨?_, cfg_ok.meths⟩
  intro s hs
  rcases List.mem_append.1 hs with hs | hs
  · simp only [List.mem_cons, List.not_mem_nil, or_false] at hs
    subst hs
    exact FSpec.spec_ok begun1_holds
  · exact cfg_ok.specs s hs
noncomputable def begun2_t : Tree := .any (.c 1) (.c 9223372036854775807) (.any (.c 2) (.c 9223372036854775807) (.any (.c 1) (.c 9223372036854775807) (.any (.c 1) (.c 9223372036854775807) (.letI (.cmp .eql (.v 3) (.c 1)) (.ite (.v 4) (.call 128 (L2.yes L2.f_messuagelaw1_begun).rel [] [] 0 0 (.any (.c 1) (.c 9223372036854775807) (.any (.c 1) (.c 9223372036854775807) (.done [] [])))) (.letI (.sub (.v 3) (.c 1)) (.call 128 (L2.yes L2.f_messuagelaw1_begun).rel [] [] 0 0 (.any (.c 1) (.c 9223372036854775807) (.any (.c 1) (.c 9223372036854775807) (.done [] []))))))))))
theorem begun2_tree : (L2.yes L2.f_messuagelaw2_begun).exe Tryz.prog (L2.cfg1 Tryz.prog) [] 20 200 = begun2_t := by kernel_rfl
theorem begun2_holds : (L2.yes L2.f_messuagelaw2_begun).Holds Tryz.prog L2.ro := FSpec.holds (cfg := L2.cfg1 Tryz.prog) [] 20 200 cfg1_ok mixed (by
  intro is ls h1 h2 hp hr hl
  rw [begun2_tree]
  obtain rfl := list0 h1
  simp [begun2_t, den_any, den_letI, den_ite, den_done, call_none, L2.yes])
theorem cfg2_ok : (L2.cfg2 Tryz.prog).Ok Tryz.prog := by
  refine ⟨?_, cfg_ok.meths⟩
  intro s hs
  rcases List.mem_append.1 hs with hs | hs
  · simp only [List.mem_cons, List.not_mem_nil, or_false] at hs
    subst hs
    exact FSpec.spec_ok begun2_holds
  · exact cfg_ok.specs s hs
end Go.Proofs.YtpmgfdakljjlaaaGreatDoor
