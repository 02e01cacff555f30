/- messuagelaw2.begun's contract; what the seat's rows use. -/
import Derived.Test.YtpmgfdakljjlaaaGreatDoorL2Bg
import Derived.Test.YtpmgfdakljjlaaaGreatDoorSxM7
import Derived.Test.YtpmgfdakljjlaaaGreatDoorRows
import Derived.Test.YtpmgfdakljjlaaaGreatDoorTie
import Derived.Test.YtpmgfdakljjlaaaGreatDoorCards
import Derived.SevenTiedAt
set_option linter.unusedVariables false
set_option linter.constructorNameAsVariable false
open Go Go.Sx
namespace Go.Sx.L2
abbrev ks5 : List CK := [.i .u64, .i .u64, .i .u64, .i .u64, .i .u64]
abbrev ks3 : List CK := [.i .i64, .i .i64, .i .i64]
abbrev ksOp : List CK := [.i .i64, .i .u64, .i .u64]
abbrev ks4 : List CK := [.i .i64, .i .i64, .i .i64, .i .i64]
abbrev ks6 : List CK := [.i .i64, .i .i64, .i .i64, .i .i64, .i .i64, .i .i64]
abbrev ksAsk : List CK := [.i .i64, .i .u64, .i .u64, .i .u64, .i .u64, .i .u64]
abbrev ks7 : List CK := [.i .i64, .i .i64, .i .i64, .i .i64, .i .i64, .i .i64, .i .i64]
end Go.Sx.L2
namespace Go.Proofs.YtpmgfdakljjlaaaGreatDoor
open Go.ChangeShapes Go.WideShapes Go.RowKit
set_option maxRecDepth 100000
theorem cfgB_ok : (L2.cfgB Tryz.prog).Ok Tryz.prog := by
  refine ⟨?_, cfg_ok.meths⟩
  intro s hs
  rcases List.mem_append.1 hs with hs | hs
  · simp only [List.mem_cons, List.not_mem_nil, or_false] at hs
    subst hs
    exact FSpec.spec_ok begunB_holds
  · exact cfg_ok.specs s hs

/-! ### The rows -/
noncomputable def initChars : { l : List Char // Tryz.prog.initOrder = String.ofList l } := ⟨_, rfl⟩
theorem initList : Tryz.prog.initOrder.toList = initChars.1 := (congrArg String.toList initChars.2).trans String.toList_ofList
noncomputable def hashChars : { l : List Char // "c37214cd26cf5f1276fdeee23c58ff70ef53484e76f0d89ddbe54588837d2cdb" = String.ofList l } := ⟨_, rfl⟩
theorem hashList : "c37214cd26cf5f1276fdeee23c58ff70ef53484e76f0d89ddbe54588837d2cdb".toList = hashChars.1 := (congrArg String.toList hashChars.2).trans String.toList_ofList
theorem make_cut {P : Program} {l : List Char} {r : List (List Char)} (h : P.initOrder.toList = l) (hb : behindMainWord (wordsSigns l) = "cut".toList :: r) : P.make = some .cut := by
  unfold Program.make
  rw [h, hb]
  have e1 : ("cut".toList == "gc".toList || "cut".toList == "spec".toList) = false := by decide +kernel
  have e2 : ("cut".toList == "cut".toList) = true := by decide +kernel
  simp only [e1, e2, Bool.true_or, if_true, Bool.false_eq_true, if_false]
theorem strip_cut (r : List (List Char)) : stripLifts liftWords ("cut".toList :: r) = ([], "cut".toList :: r) := by rfl
theorem lifts_cut {P : Program} {l : List Char} {r : List (List Char)} (h : P.initOrder.toList = l) (hb : behindMainWord (wordsSigns l) = "cut".toList :: r) : P.liftsFinal = false := by
  have e1 : (some "cut".toList == some "carried".toList) = false := by decide +kernel
  have hl : P.headLifts = [] := by
    unfold Program.headLifts
    rw [h, hb, strip_cut]
    exact ite_self _
  unfold Program.liftsFinal
  rw [h, hb, hl]
  simp only [List.head?_cons, e1, Bool.false_and, Bool.false_or]
  rfl
theorem mayEnter_cut {P : Program} {l : List Char} {r : List (List Char)} (h : P.initOrder.toList = l) (hb : behindMainWord (wordsSigns l) = "cut".toList :: r)
    (h1 : P.laysLater = false) (h2 : P.bearsReflect = false) (h3 : P.doorFits [] = true) : P.mayEnter = true := by
  have e1 : (some "cut".toList == some "cut".toList) = true := by decide +kernel
  unfold Program.mayEnter
  rw [h, hb]
  simp only [strip_cut, List.head?_cons, e1, h1, h2, h3]
  simp
theorem main_harness {P : Program} {l s : List Char} {r : List (List Char)} (h : P.initOrder.toList = l) (hb : wordsSigns l = "harness".toList :: s :: r) (hs : isSumSigns s = true) : P.mainIs = some (true, s) := by
  have e1 : ("harness".toList == "harness".toList) = true := by decide +kernel
  unfold Program.mainIs
  rw [h, hb]
  simp [hs]
theorem Tryz.behind : behindMainWord (wordsSigns initChars.1) = "cut".toList :: (behindMainWord (wordsSigns initChars.1)).tail := by kernel_rfl
theorem Tryz.mayEnter : Tryz.prog.mayEnter = true := mayEnter_cut initList Tryz.behind (by kernel_rfl) (by kernel_rfl) (by kernel_rfl)
theorem Tryz.liftsFinal : Tryz.prog.liftsFinal = false := lifts_cut initList Tryz.behind
theorem Tryz.make : Tryz.prog.make = some .cut := make_cut initList Tryz.behind
theorem Tryz.words : wordsSigns initChars.1 = "harness".toList :: hashChars.1 :: (wordsSigns initChars.1).tail.tail := by kernel_rfl
theorem Tryz.mainIs : Tryz.pinned.checked.prog.mainIs = some (true, "c37214cd26cf5f1276fdeee23c58ff70ef53484e76f0d89ddbe54588837d2cdb".toList) := by
  rw [hashList]
  exact main_harness (P := Tryz.prog) initList Tryz.words (by kernel_rfl)
/-- What is left of a row's facts where the head's words are known. -/
noncomputable def restFacts : { g : Program → FuncId → Func → ChangeSpec → OpenClaim → Bool // ∀ P f fn s c, P.mayEnter = true → P.liftsFinal = c.lifted → P.make = some c.make → g P f fn s c = true → joinedFacts P f fn s c = true } := by
  refine ⟨?g, ?h⟩
  case h =>
    intro P f fn s c h1 h2 h3 h
    unfold joinedFacts
    rw [h1, h2, h3]
    exact h
theorem Tryz.own : ownKnob Tryz.prog.godebug = none := by kernel_rfl
theorem Tryz.laidOut : laidOutB Tryz.prog = true := by kernel_rfl
theorem Tryz.et : Tryz.prog.globalNamed "errors.errorType" = some 0 := by kernel_rfl
theorem Tryz.rt : (Tryz.prog.cutTypes.find? (·.1 == "internal/reflectlite.rtype")).map (·.2) = some 189 := by kernel_rfl
theorem Tryz.oneRow : ((List.range 287).filter fun t => Tryz.prog.rowNamed t [101, 114, 114, 111, 114]) = [93] := by kernel_rfl
theorem Tryz.size : Tryz.prog.types.size = 287 := by kernel_rfl

theorem und22 : Tryz.prog.underlying 22 = some (.slice 3) := by kernel_rfl
theorem flat3 : flatT Tryz.prog 9 3 = some [.i .i64] := by kernel_rfl
theorem cells3 : Tryz.prog.cellsOf 3 = List.length ([.i .i64] : List CK) := by kernel_rfl
theorem und4 : Tryz.prog.underlying 4 = some .bool := by kernel_rfl
theorem und3 : Tryz.prog.underlying 3 = some (.int .i64) := by kernel_rfl
theorem und41 : Tryz.prog.underlying 41 = some (.slice 49) := by kernel_rfl
theorem flat49 : flatT Tryz.prog 9 49 = some L2.ks7 := by kernel_rfl
theorem cells49 : Tryz.prog.cellsOf 49 = List.length (L2.ks7 : List CK) := by kernel_rfl

abbrev laid1 : List (String × DataW Unit) := [("errors.errorType", Rows.laid_errors_errorType)]
/-- What the condition gives a walk: the variable's one cell. -/
theorem ro_of_laid {W : World} (h : laidMetH Tryz.prog laid1 W) : ∀ p ∈ L2.ro, W.cell? p.1 = some p.2 ∧ p.1.block < W.heap.size := by
  have h' : laidMet Tryz.prog [] W ∧ handlesMet Tryz.prog laid1 W := h
  obtain ⟨name, u, ty, e1, e2, e3, e4, e5⟩ := h'.2 _ (List.mem_singleton.2 rfl)
  have en : name = [101, 114, 114, 111, 114] := (Option.some.inj e1).symm
  subst en
  obtain rfl := Option.some.inj (Tryz.rt.symm.trans e2)
  have hm : ty ∈ (List.range 287).filter fun t => Tryz.prog.rowNamed t [101, 114, 114, 111, 114] := List.mem_filter.2 ⟨List.mem_range.2 (by rw [← Tryz.size]; exact e3), e4⟩
  rw [Tryz.oneRow] at hm
  obtain rfl := List.mem_singleton.1 hm
  have hh : typeHandle Tryz.prog 93 = .pointer (some ⟨4, 93, none⟩) := by kernel_rfl
  rw [hh] at e5
  have hc : W.cell? ⟨0, 0, none⟩ = some (.iface 189 (.agg #[.pointer (some ⟨4, 93, none⟩)])) := by simpa using World.var?_cell Tryz.et e5 0
  intro p hp
  simp only [L2.ro, List.mem_cons, List.not_mem_nil, or_false] at hp
  subst hp
  refine ⟨hc, ?_⟩
  rcases Nat.lt_or_ge 0 W.heap.size with h0 | h0
  · exact h0
  · simp [World.cell?, Array.getElem?_eq_none h0] at hc

/-- A world that meets the condition. -/
noncomputable def laidWorld (os : Os) : World :=
  let w0 := World.holding Tryz.prog os ⟨#[], #[], []⟩
  { w0 with heap := w0.heap.modify 0 fun
      | .cells _ t frozen => .cells #[.iface 189 (.agg #[.pointer (some ⟨4, 93, none⟩)])] t frozen
      | o => o }
theorem laidWorld_met (os : Os) (args : Array Value) : laidMetH Tryz.prog laid1 ((laidWorld os).forCall (fun _ _ => 0) ⟨#[], args, []⟩).memory :=
  laidMetH_of_parts (laidMet_nil _ _) (by kernel_rfl)

end Go.Proofs.YtpmgfdakljjlaaaGreatDoor
