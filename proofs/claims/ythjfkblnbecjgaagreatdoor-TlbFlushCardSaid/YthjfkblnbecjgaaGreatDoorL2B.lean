/- messuagelaw2.begun's contract; what the rows of messuagelaw2 use. -/
import Derived.Test.YthjfkblnbecjgaaGreatDoorL2A
import Derived.Test.YthjfkblnbecjgaaGreatDoorSxM7
import Derived.Test.YthjfkblnbecjgaaGreatDoorRows
import Derived.Test.YthjfkblnbecjgaaGreatDoorTie
import Derived.Test.YthjfkblnbecjgaaGreatDoorCards
import Derived.SevenTiedAt
set_option linter.unusedVariables false
open Go Go.Sx
namespace Go.Sx.L2
abbrev ks5 : List CK := [.i .u64, .i .u64, .i .u64, .i .u64, .i .u64]
abbrev ks3 : List CK := [.i .i64, .i .i64, .i .i64]
abbrev ksOp : List CK := [.i .i64, .i .u64, .i .u64]
abbrev ks4 : List CK := [.i .i64, .i .i64, .i .i64, .i .i64]
abbrev ks6 : List CK := [.i .i64, .i .i64, .i .i64, .i .i64, .i .i64, .i .i64]
abbrev ks7 : List CK := [.i .i64, .i .i64, .i .i64, .i .i64, .i .i64, .i .i64, .i .i64]
end Go.Sx.L2
namespace Go.Proofs.YthjfkblnbecjgaaGreatDoor
open Go.ChangeShapes Go.WideShapes Go.RowKit
set_option maxRecDepth 100000
theorem cfg1_ok : (L2.cfg1 Tryz.prog).Ok Tryz.prog := by
  refine ⟨?_, cfg_ok.meths⟩
  intro s hs
  rcases List.mem_append.1 hs with hs | hs
  · simp only [List.mem_cons, List.not_mem_nil, or_false] at hs
    subst hs
    exact FSpec.spec_ok begun1_holds
  · exact cfg_ok.specs s hs
theorem begun2_tree : (L2.yes L2.f_messuagelaw2_begun).exe Tryz.prog (L2.cfg1 Tryz.prog) [] 20 200 = .any (.c 1) (.c 9223372036854775807) (.any (.c 2) (.c 9223372036854775807) (.any (.c 1) (.c 9223372036854775807) (.any (.c 1) (.c 9223372036854775807) (.letI (.cmp .eql (.v 3) (.c 1)) (.ite (.v 4) (.call 115 (L2.yes L2.f_messuagelaw1_begun).rel [] [] 0 0 (.any (.c 1) (.c 9223372036854775807) (.any (.c 1) (.c 9223372036854775807) (.done [] [])))) (.letI (.sub (.v 3) (.c 1)) (.call 115 (L2.yes L2.f_messuagelaw1_begun).rel [] [] 0 0 (.any (.c 1) (.c 9223372036854775807) (.any (.c 1) (.c 9223372036854775807) (.done [] [])))))))))) := by kernel_rfl
theorem call_yes {Φ : Phi} {f g : FuncId} {t : Tree} {is : List Int} {lls : List (List Int)} : (Tree.call f (L2.yes g).rel [] [] 0 0 t).den Φ is lls ↔ t.den Φ is lls := call_none
theorem begun2_holds : (L2.yes L2.f_messuagelaw2_begun).Holds Tryz.prog L2.ro := FSpec.holds (cfg := L2.cfg1 Tryz.prog) [] 20 200 cfg1_ok mixed (by
  intro is ls h1 h2 hp hr hl
  rw [begun2_tree]
  obtain rfl := list0 h1
  simp [den_any, den_letI, den_ite, den_done, call_none, L2.yes])
theorem cfg2_ok : (L2.cfg2 Tryz.prog).Ok Tryz.prog := by
  refine ⟨?_, cfg_ok.meths⟩
  intro s hs
  rcases List.mem_append.1 hs with hs | hs
  · simp only [List.mem_cons, List.not_mem_nil, or_false] at hs
    subst hs
    exact FSpec.spec_ok begun2_holds
  · exact cfg_ok.specs s hs

/-! ### The rows -/
noncomputable def initChars : { l : List Char // Tryz.prog.initOrder = String.ofList l } := ⟨_, rfl⟩
theorem initList : Tryz.prog.initOrder.toList = initChars.1 := (congrArg String.toList initChars.2).trans String.toList_ofList
noncomputable def hashChars : { l : List Char // "8c0441bbc8609432f713c1c89f5af20e6af72254f1482b9eed96a33066278ab6" = String.ofList l } := ⟨_, rfl⟩
theorem hashList : "8c0441bbc8609432f713c1c89f5af20e6af72254f1482b9eed96a33066278ab6".toList = hashChars.1 := (congrArg String.toList hashChars.2).trans String.toList_ofList
theorem make_cut {P : Program} {l : List Char} {r : List (List Char)} (h : P.initOrder.toList = l) (hb : behindMainWord (wordsSigns l) = "cut".toList :: r) : P.make = some .cut := by
  unfold Program.make
  rw [h, hb]
  have e1 : ("cut".toList == "gc".toList || "cut".toList == "spec".toList) = false := by decide +kernel
  have e2 : ("cut".toList == "cut".toList) = true := by decide +kernel
  simp only [e1, e2, Bool.true_or, if_true, Bool.false_eq_true, if_false]
theorem strip_cut (r : List (List Char)) : stripLifts liftWords ("cut".toList :: r) = ([], "cut".toList :: r) := by rfl
theorem lifts_cut {P : Program} {l : List Char} {r : List (List Char)} (h : P.initOrder.toList = l) (hb : behindMainWord (wordsSigns l) = "cut".toList :: r) : P.liftsFinal = false := by
  have e1 : (some "cut".toList == some "carried".toList) = false := by decide +kernel
  have hl : P.headLifts = [] := by
    unfold Program.headLifts
    rw [h, hb, strip_cut]
    exact ite_self _
  unfold Program.liftsFinal
  rw [h, hb, hl]
  simp only [List.head?_cons, e1, Bool.false_and, Bool.false_or]
  rfl
theorem mayEnter_cut {P : Program} {l : List Char} {r : List (List Char)} (h : P.initOrder.toList = l) (hb : behindMainWord (wordsSigns l) = "cut".toList :: r)
    (h1 : P.laysLater = false) (h2 : P.bearsReflect = false) (h3 : P.doorFits [] = true) : P.mayEnter = true := by
  have e1 : (some "cut".toList == some "cut".toList) = true := by decide +kernel
  unfold Program.mayEnter
  rw [h, hb]
  simp only [strip_cut, List.head?_cons, e1, h1, h2, h3]
  simp
theorem main_harness {P : Program} {l s : List Char} {r : List (List Char)} (h : P.initOrder.toList = l) (hb : wordsSigns l = "harness".toList :: s :: r) (hs : isSumSigns s = true) : P.mainIs = some (true, s) := by
  have e1 : ("harness".toList == "harness".toList) = true := by decide +kernel
  unfold Program.mainIs
  rw [h, hb]
  simp [hs]
theorem Tryz.behind : behindMainWord (wordsSigns initChars.1) = "cut".toList :: (behindMainWord (wordsSigns initChars.1)).tail := by kernel_rfl
theorem Tryz.mayEnter : Tryz.prog.mayEnter = true := mayEnter_cut initList Tryz.behind (by kernel_rfl) (by kernel_rfl) (by kernel_rfl)
theorem Tryz.liftsFinal : Tryz.prog.liftsFinal = false := lifts_cut initList Tryz.behind
theorem Tryz.make : Tryz.prog.make = some .cut := make_cut initList Tryz.behind
theorem Tryz.words : wordsSigns initChars.1 = "harness".toList :: hashChars.1 :: (wordsSigns initChars.1).tail.tail := by kernel_rfl
theorem Tryz.mainIs : Tryz.pinned.checked.prog.mainIs = some (true, "8c0441bbc8609432f713c1c89f5af20e6af72254f1482b9eed96a33066278ab6".toList) := by
  rw [hashList]
  exact main_harness (P := Tryz.prog) initList Tryz.words (by kernel_rfl)
/-- What is left of a row's facts where the head's words are known. -/
noncomputable def restFacts : { g : Program → FuncId → Func → ChangeSpec → OpenClaim → Bool // ∀ P f fn s c, P.mayEnter = true → P.liftsFinal = c.lifted → P.make = some c.make → g P f fn s c = true → joinedFacts P f fn s c = true } := by
  refine ⟨?g, ?h⟩
  case h =>
    intro P f fn s c h1 h2 h3 h
    unfold joinedFacts
    rw [h1, h2, h3]
    exact h
theorem Tryz.own : ownKnob Tryz.prog.godebug = none := by kernel_rfl
theorem Tryz.laidOut : laidOutB Tryz.prog = true := by kernel_rfl
theorem Tryz.et : Tryz.prog.globalNamed "errors.errorType" = some 0 := by kernel_rfl
theorem Tryz.rt : (Tryz.prog.cutTypes.find? (·.1 == "internal/reflectlite.rtype")).map (·.2) = some 195 := by kernel_rfl
theorem Tryz.oneRow : ((List.range 252).filter fun t => Tryz.prog.rowNamed t [101, 114, 114, 111, 114]) = [165] := by kernel_rfl
theorem Tryz.size : Tryz.prog.types.size = 252 := by kernel_rfl

theorem und3 : Tryz.prog.underlying 3 = some (.int .i64) := by kernel_rfl
theorem und4 : Tryz.prog.underlying 4 = some .bool := by kernel_rfl
theorem und24 : Tryz.prog.underlying 24 = some (.int .u64) := by kernel_rfl
theorem und23 : Tryz.prog.underlying 23 = some (.slice 3) := by kernel_rfl
theorem und40 : Tryz.prog.underlying 40 = some (.slice 24) := by kernel_rfl
theorem und69 : Tryz.prog.underlying 69 = some (.slice 4) := by kernel_rfl
theorem und99 : Tryz.prog.underlying 99 = some (.slice 101) := by kernel_rfl
theorem und80 : Tryz.prog.underlying 80 = some (.slice 78) := by kernel_rfl
theorem und108 : Tryz.prog.underlying 108 = some (.slice 112) := by kernel_rfl
theorem und119 : Tryz.prog.underlying 119 = some (.slice 122) := by kernel_rfl
theorem flat3 : flatT Tryz.prog 9 3 = some [.i .i64] := by kernel_rfl
theorem flat24 : flatT Tryz.prog 9 24 = some [.i .u64] := by kernel_rfl
theorem flat4 : flatT Tryz.prog 9 4 = some [.b] := by kernel_rfl
theorem flat26 : flatT Tryz.prog 9 26 = some L2.ks5 := by kernel_rfl
theorem flat37 : flatT Tryz.prog 9 37 = some L2.ks3 := by kernel_rfl
theorem flat101 : flatT Tryz.prog 9 101 = some L2.ksOp := by kernel_rfl
theorem flat78 : flatT Tryz.prog 9 78 = some L2.ks4 := by kernel_rfl
theorem flat112 : flatT Tryz.prog 9 112 = some L2.ks7 := by kernel_rfl
theorem flat122 : flatT Tryz.prog 9 122 = some L2.ks6 := by kernel_rfl
theorem cells3 : Tryz.prog.cellsOf 3 = List.length ([.i .i64] : List CK) := by kernel_rfl
theorem cells24 : Tryz.prog.cellsOf 24 = List.length ([.i .u64] : List CK) := by kernel_rfl
theorem cells4 : Tryz.prog.cellsOf 4 = List.length ([.b] : List CK) := by kernel_rfl
theorem cells101 : Tryz.prog.cellsOf 101 = List.length (L2.ksOp : List CK) := by kernel_rfl
theorem cells78 : Tryz.prog.cellsOf 78 = List.length (L2.ks4 : List CK) := by kernel_rfl
theorem cells112 : Tryz.prog.cellsOf 112 = List.length (L2.ks7 : List CK) := by kernel_rfl
theorem cells122 : Tryz.prog.cellsOf 122 = List.length (L2.ks6 : List CK) := by kernel_rfl
theorem agg26 : (match Tryz.prog.underlying 26 with | some (.struct _) => true | some (.array _ _) => true | _ => false) = true := by kernel_rfl
theorem agg37 : (match Tryz.prog.underlying 37 with | some (.struct _) => true | some (.array _ _) => true | _ => false) = true := by kernel_rfl

abbrev laid1 : List (String × DataW Unit) := [("errors.errorType", Rows.laid_errors_errorType)]
/-- What the condition gives a walk: the variable's one cell. -/
theorem ro_of_laid {W : World} (h : laidMetH Tryz.prog laid1 W) : ∀ p ∈ L2.ro, W.cell? p.1 = some p.2 ∧ p.1.block < W.heap.size := by
  have h' : laidMet Tryz.prog [] W ∧ handlesMet Tryz.prog laid1 W := h
  obtain ⟨name, u, ty, e1, e2, e3, e4, e5⟩ := h'.2 _ (List.mem_singleton.2 rfl)
  have en : name = [101, 114, 114, 111, 114] := (Option.some.inj e1).symm
  subst en
  obtain rfl := Option.some.inj (Tryz.rt.symm.trans e2)
  have hm : ty ∈ (List.range 252).filter fun t => Tryz.prog.rowNamed t [101, 114, 114, 111, 114] := List.mem_filter.2 ⟨List.mem_range.2 (by rw [← Tryz.size]; exact e3), e4⟩
  rw [Tryz.oneRow] at hm
  obtain rfl := List.mem_singleton.1 hm
  have hh : typeHandle Tryz.prog 165 = .pointer (some ⟨4, 165, none⟩) := by kernel_rfl
  rw [hh] at e5
  have hc : W.cell? ⟨0, 0, none⟩ = some (.iface 195 (.agg #[.pointer (some ⟨4, 165, none⟩)])) := by simpa using World.var?_cell Tryz.et e5 0
  intro p hp
  simp only [L2.ro, List.mem_cons, List.not_mem_nil, or_false] at hp
  subst hp
  refine ⟨hc, ?_⟩
  rcases Nat.lt_or_ge 0 W.heap.size with h0 | h0
  · exact h0
  · simp [World.cell?, Array.getElem?_eq_none h0] at hc

/-- A world that meets the condition. -/
noncomputable def laidWorld (os : Os) : World :=
  let w0 := World.holding Tryz.prog os ⟨#[], #[], []⟩
  { w0 with heap := w0.heap.modify 0 fun
      | .cells _ t frozen => .cells #[.iface 195 (.agg #[.pointer (some ⟨4, 165, none⟩)])] t frozen
      | o => o }
theorem laidWorld_met (os : Os) (args : Array Value) : laidMetH Tryz.prog laid1 ((laidWorld os).forCall (fun _ _ => 0) ⟨#[], args, []⟩).memory :=
  laidMetH_of_parts (laidMet_nil _ _) (by kernel_rfl)

end Go.Proofs.YthjfkblnbecjgaaGreatDoor
