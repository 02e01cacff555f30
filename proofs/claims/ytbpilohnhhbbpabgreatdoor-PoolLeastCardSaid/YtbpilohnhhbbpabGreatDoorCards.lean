/-
  DERIVED. GIVEN WITH THE SEED: THE CARDS: each row of YtbpilohnhhbbpabGreatDoorRows.lean that lists a variable, with what it lists TIED to the program's text (the seventh form; the later family's looks); each row that meets fmt, with fmt's text TOLD by the authors' own Lean function (tested against real Go, not proved from fmt's source: count such statements apart). THE CARD IS WHAT COUNTS. Prove the row's statement (the work); the ties are given (YtbpilohnhhbbpabGreatDoorTie.lean); close each card by the builder's one call (the guide's Derived/Test/ToyasCard.lean, 'card_holds'). Laid BY PROGRAM, IN A SANDBOX (cutbox-door.mjs). By AI agents, Wed Nov 11 2026. No macro, syntax, notation, axiom, sorry.
-/
import Derived.Test.YtbpilohnhhbbpabGreatDoorRows
import GoSem.ClaimSeven
namespace Go.Proofs.YtbpilohnhhbbpabGreatDoor
namespace Rows

/-- THE TIED CARD OF 'messuagelaw2.MemOwn'. -/
def memOwnCard : Claim7 := { stood := { row := memOwnRow, standIns := [], harness := (true, "69927e01dcca4c7c2bbffabccbcc929abb28667155f79c84450e8dbe7e20a15b"), looks := true }, kinds := [], alts := [], laidByText := true, laidKinds := [.handle], laidTests := true, laidLooks := .later }
def MemOwnCardSaid : Prop := Claim7.holds Tryz.pinned (.plain (OpenSpec.ofChange memOwnSpec)) memOwnCard

/-- THE TIED CARD OF 'messuagelaw2.WordEdge'. -/
def wordEdgeCard : Claim7 := { stood := { row := wordEdgeRow, standIns := [], harness := (true, "69927e01dcca4c7c2bbffabccbcc929abb28667155f79c84450e8dbe7e20a15b"), looks := true }, kinds := [], alts := [], laidByText := true, laidKinds := [.handle], laidTests := true, laidLooks := .later }
def WordEdgeCardSaid : Prop := Claim7.holds Tryz.pinned (.plain (OpenSpec.ofChange wordEdgeSpec)) wordEdgeCard

/-- THE TIED CARD OF 'messuagelaw2.MailOrder'. -/
def mailOrderCard : Claim7 := { stood := { row := mailOrderRow, standIns := [], harness := (true, "69927e01dcca4c7c2bbffabccbcc929abb28667155f79c84450e8dbe7e20a15b"), looks := true }, kinds := [], alts := [], laidByText := true, laidKinds := [.handle], laidTests := true, laidLooks := .later }
def MailOrderCardSaid : Prop := Claim7.holds Tryz.pinned (.plain (OpenSpec.ofChange mailOrderSpec)) mailOrderCard

/-- THE TIED CARD OF 'messuagelaw2.PoolLeast'. -/
def poolLeastCard : Claim7 := { stood := { row := poolLeastRow, standIns := [], harness := (true, "69927e01dcca4c7c2bbffabccbcc929abb28667155f79c84450e8dbe7e20a15b"), looks := true }, kinds := [], alts := [], laidByText := true, laidKinds := [.handle], laidTests := true, laidLooks := .later }
def PoolLeastCardSaid : Prop := Claim7.holds Tryz.pinned (.plain (OpenSpec.ofChange poolLeastSpec)) poolLeastCard

/-- THE TIED CARD OF 'messuagelaw2.TlbSets'. -/
def tlbSetsCard : Claim7 := { stood := { row := tlbSetsRow, standIns := [], harness := (true, "69927e01dcca4c7c2bbffabccbcc929abb28667155f79c84450e8dbe7e20a15b"), looks := true }, kinds := [], alts := [], laidByText := true, laidKinds := [.handle], laidTests := true, laidLooks := .later }
def TlbSetsCardSaid : Prop := Claim7.holds Tryz.pinned (.plain (OpenSpec.ofChange tlbSetsSpec)) tlbSetsCard

/-- THE SECOND FORM's CARD OF 'messuagelaw2.MemOwn'. -/
def memOwnUptoCard : Claim7 := { stood := { row := memOwnUptoRow, standIns := [], harness := (true, "69927e01dcca4c7c2bbffabccbcc929abb28667155f79c84450e8dbe7e20a15b"), looks := true }, kinds := [], alts := [], laidByText := true, laidKinds := [.handle], laidTests := true, laidLooks := .later }
def MemOwnUptoCardSaid : Prop := Claim7.holds Tryz.pinned (.plain (OpenSpec.upto memOwnSpec)) memOwnUptoCard

/-- THE SECOND FORM's CARD OF 'messuagelaw2.WordEdge'. -/
def wordEdgeUptoCard : Claim7 := { stood := { row := wordEdgeUptoRow, standIns := [], harness := (true, "69927e01dcca4c7c2bbffabccbcc929abb28667155f79c84450e8dbe7e20a15b"), looks := true }, kinds := [], alts := [], laidByText := true, laidKinds := [.handle], laidTests := true, laidLooks := .later }
def WordEdgeUptoCardSaid : Prop := Claim7.holds Tryz.pinned (.plain (OpenSpec.upto wordEdgeSpec)) wordEdgeUptoCard

/-- THE SECOND FORM's CARD OF 'messuagelaw2.MailOrder'. -/
def mailOrderUptoCard : Claim7 := { stood := { row := mailOrderUptoRow, standIns := [], harness := (true, "69927e01dcca4c7c2bbffabccbcc929abb28667155f79c84450e8dbe7e20a15b"), looks := true }, kinds := [], alts := [], laidByText := true, laidKinds := [.handle], laidTests := true, laidLooks := .later }
def MailOrderUptoCardSaid : Prop := Claim7.holds Tryz.pinned (.plain (OpenSpec.upto mailOrderSpec)) mailOrderUptoCard

/-- THE SECOND FORM's CARD OF 'messuagelaw2.PoolLeast'. -/
def poolLeastUptoCard : Claim7 := { stood := { row := poolLeastUptoRow, standIns := [], harness := (true, "69927e01dcca4c7c2bbffabccbcc929abb28667155f79c84450e8dbe7e20a15b"), looks := true }, kinds := [], alts := [], laidByText := true, laidKinds := [.handle], laidTests := true, laidLooks := .later }
def PoolLeastUptoCardSaid : Prop := Claim7.holds Tryz.pinned (.plain (OpenSpec.upto poolLeastSpec)) poolLeastUptoCard

/-- THE SECOND FORM's CARD OF 'messuagelaw2.TlbSets'. -/
def tlbSetsUptoCard : Claim7 := { stood := { row := tlbSetsUptoRow, standIns := [], harness := (true, "69927e01dcca4c7c2bbffabccbcc929abb28667155f79c84450e8dbe7e20a15b"), looks := true }, kinds := [], alts := [], laidByText := true, laidKinds := [.handle], laidTests := true, laidLooks := .later }
def TlbSetsUptoCardSaid : Prop := Claim7.holds Tryz.pinned (.plain (OpenSpec.upto tlbSetsSpec)) tlbSetsUptoCard
end Rows
end Go.Proofs.YtbpilohnhhbbpabGreatDoor
