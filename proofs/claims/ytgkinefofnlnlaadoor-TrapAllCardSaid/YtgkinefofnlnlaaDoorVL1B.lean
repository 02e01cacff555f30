/- A text of the proof; what is proved is said in the claim's last text. -/
import Derived.Test.YtgkinefofnlnlaaDoorVL1A
import Derived.Test.YtgkinefofnlnlaaDoorVSxArg
import Derived.Test.YtgkinefofnlnlaaDoorRows
import Derived.Test.YtgkinefofnlnlaaDoorTie
import Derived.Test.YtgkinefofnlnlaaDoorCards
import Derived.SevenTiedAt
set_option linter.unusedVariables false
open Go Go.Sx
namespace Go.Proofs.YtgkinefofnlnlaaDoor
open Go.ChangeShapes Go.WideShapes Go.RowKit
set_option maxRecDepth 100000

/-! ### The contracts of begun and code, and the laws' trees -/
theorem code_tree : L1.code.exe Tryd.prog (L1.cfg Tryd.prog) [] 20 100 = .letI (.rem (.v 0) (.c 11)) (.letI (.add (.v 1) (.c 11)) (.letI (.rem (.v 2) (.c 11)) (.letI (.add (.v 3) (.c 1)) (.done [.v 4] [])))) := by kernel_rfl
theorem code_holds : L1.code.Holds Tryd.prog L1.ro := FSpec.holds [] 20 100 cfg_ok mixed (by
  intro is ls h1 h2 hp hr hl
  rw [code_tree]
  simp only [Tree.den, IOp.den, L1.code]
  match is, h1 with
  | [x], _ =>
  intro a ha b hb c hc d hd
  simp [At.den] at *
  subst ha hb hc hd
  simp)
theorem cfgB_ok : (L1.cfgB Tryd.prog).Ok Tryd.prog := by
  refine ⟨?_, cfg_ok.meths⟩
  intro s hs
  rcases List.mem_append.1 hs with hs | hs
  · simp only [List.mem_cons, List.not_mem_nil, or_false] at hs
    rcases hs with rfl | rfl
    · exact FSpec.spec_ok begun_holds
    · exact FSpec.spec_ok code_holds
  · exact cfg_ok.specs s hs
theorem wrap_tree : (L1.lawC 7 2).exe Tryd.prog (L1.cfgB Tryd.prog) [] 20 100 = .call 11 L1.begun.rel [] [] 0 0 (.call 12 L1.code.rel [.v 0] [] 1 0 (.done [] [])) := by kernel_rfl
theorem wrap_holds : (L1.lawC 7 2).Holds Tryd.prog L1.ro := FSpec.holds (cfg := L1.cfgB Tryd.prog) [] 20 100 cfgB_ok mixed (by
  intro is ls h1 h2 hp hr hl
  rw [wrap_tree]
  simp only [Tree.den]
  exact ⟨trivial, fun _ _ _ _ _ => ⟨trivial, fun _ _ _ _ _ => trivial⟩⟩)

/-! ### The rows -/
theorem Tryd.own : ownKnob Tryd.prog.godebug = none := by kernel_rfl
theorem Tryd.laidOut : laidOutB Tryd.prog = true := by kernel_rfl
theorem Tryd.et : Tryd.prog.globalNamed "errors.errorType" = some 0 := by kernel_rfl
theorem Tryd.rt : (Tryd.prog.cutTypes.find? (·.1 == "internal/reflectlite.rtype")).map (·.2) = some 81 := by kernel_rfl
theorem Tryd.oneRow : ((List.range 137).filter fun t => Tryd.prog.rowNamed t [101, 114, 114, 111, 114]) = [30] := by kernel_rfl
theorem Tryd.size : Tryd.prog.types.size = 137 := by kernel_rfl
theorem und25 : Tryd.prog.underlying 25 = some (.array 5 23) := by kernel_rfl
theorem und23 : Tryd.prog.underlying 23 = some (.int .u64) := by kernel_rfl
theorem und3 : Tryd.prog.underlying 3 = some (.int .i64) := by kernel_rfl
theorem und4 : Tryd.prog.underlying 4 = some .bool := by kernel_rfl
theorem cells23 : Tryd.prog.cellsOf 23 = 1 := by kernel_rfl
theorem cells25 : Tryd.prog.cellsOf 25 = 5 := by kernel_rfl

abbrev laid1 : List (String × DataW Unit) := [("errors.errorType", Rows.laid_errors_errorType)]
/-- What the condition gives a walk: the variable's one cell. -/
theorem ro_of_laid {W : World} (h : laidMetH Tryd.prog laid1 W) : ∀ p ∈ L1.ro, W.cell? p.1 = some p.2 ∧ p.1.block < W.heap.size := by
  have h' : laidMet Tryd.prog [] W ∧ handlesMet Tryd.prog laid1 W := h
  obtain ⟨name, u, ty, e1, e2, e3, e4, e5⟩ := h'.2 _ (List.mem_singleton.2 rfl)
  have en : name = [101, 114, 114, 111, 114] := (Option.some.inj e1).symm
  subst en
  obtain rfl := Option.some.inj (Tryd.rt.symm.trans e2)
  have hm : ty ∈ (List.range 137).filter fun t => Tryd.prog.rowNamed t [101, 114, 114, 111, 114] := List.mem_filter.2 ⟨List.mem_range.2 (by rw [← Tryd.size]; exact e3), e4⟩
  rw [Tryd.oneRow] at hm
  obtain rfl := List.mem_singleton.1 hm
  have hh : typeHandle Tryd.prog 30 = .pointer (some ⟨4, 30, none⟩) := by kernel_rfl
  rw [hh] at e5
  have hc : W.cell? ⟨0, 0, none⟩ = some (.iface 81 (.agg #[.pointer (some ⟨4, 30, none⟩)])) := by simpa using World.var?_cell Tryd.et e5 0
  intro p hp
  simp only [L1.ro, List.mem_cons, List.not_mem_nil, or_false] at hp
  subst hp
  refine ⟨hc, ?_⟩
  rcases Nat.lt_or_ge 0 W.heap.size with h0 | h0
  · exact h0
  · simp [World.cell?, Array.getElem?_eq_none h0] at hc

/-- A world that meets the condition. -/
noncomputable def laidWorld (os : Os) : World :=
  let w0 := World.holding Tryd.prog os ⟨#[], #[], []⟩
  { w0 with heap := w0.heap.modify 0 fun
      | .cells _ t frozen => .cells #[.iface 81 (.agg #[.pointer (some ⟨4, 30, none⟩)])] t frozen
      | o => o }
theorem laidWorld_met (os : Os) (args : Array Value) : laidMetH Tryd.prog laid1 ((laidWorld os).forCall (fun _ _ => 0) ⟨#[], args, []⟩).memory :=
  laidMetH_of_parts (laidMet_nil _ _) (by kernel_rfl)

end Go.Proofs.YtgkinefofnlnlaaDoor
