/-
  DERIVED. GIVEN WITH THE SEED: THE CARDS: each row of YtpmgfdakljjlaabGreatDoorRows.lean that lists a variable, with what it lists TIED to the program's text (the seventh form; the later family's looks); each row that meets fmt, with fmt's text TOLD by the authors' own Lean function (tested against real Go, not proved from fmt's source: count such statements apart). THE CARD IS WHAT COUNTS. Prove the row's statement (the work); the ties are given (YtpmgfdakljjlaabGreatDoorTie.lean); close each card by the builder's one call (the guide's Derived/Test/ToyasCard.lean, 'card_holds'). Laid BY PROGRAM, IN A SANDBOX (cutbox-door.mjs). By AI agents, Wed Nov 11 2026. No macro, syntax, notation, axiom, sorry.
-/
import Derived.Test.YtpmgfdakljjlaabGreatDoorRows
import GoSem.ClaimSeven
namespace Go.Proofs.YtpmgfdakljjlaabGreatDoor
namespace Rows

/-- THE TIED CARD OF 'messuagelaw2.TlbSets'. -/
def tlbSetsCard : Claim7 := { stood := { row := tlbSetsRow, standIns := [], harness := (true, "e052634f85e3eed01d9e3d4afab97c2ee72a124f300ee5a90da30f1c64bd110e"), looks := true }, kinds := [], alts := [], laidByText := true, laidKinds := [.handle], laidTests := true, laidLooks := .later }
def TlbSetsCardSaid : Prop := Claim7.holds Tryz.pinned (.plain (OpenSpec.ofChange tlbSetsSpec)) tlbSetsCard

/-- THE TIED CARD OF 'messuagelaw2.MailOrder'. -/
def mailOrderCard : Claim7 := { stood := { row := mailOrderRow, standIns := [], harness := (true, "e052634f85e3eed01d9e3d4afab97c2ee72a124f300ee5a90da30f1c64bd110e"), looks := true }, kinds := [], alts := [], laidByText := true, laidKinds := [.handle], laidTests := true, laidLooks := .later }
def MailOrderCardSaid : Prop := Claim7.holds Tryz.pinned (.plain (OpenSpec.ofChange mailOrderSpec)) mailOrderCard

/-- THE SECOND FORM's CARD OF 'messuagelaw2.TlbSets'. -/
def tlbSetsUptoCard : Claim7 := { stood := { row := tlbSetsUptoRow, standIns := [], harness := (true, "e052634f85e3eed01d9e3d4afab97c2ee72a124f300ee5a90da30f1c64bd110e"), looks := true }, kinds := [], alts := [], laidByText := true, laidKinds := [.handle], laidTests := true, laidLooks := .later }
def TlbSetsUptoCardSaid : Prop := Claim7.holds Tryz.pinned (.plain (OpenSpec.upto tlbSetsSpec)) tlbSetsUptoCard

/-- THE SECOND FORM's CARD OF 'messuagelaw2.MailOrder'. -/
def mailOrderUptoCard : Claim7 := { stood := { row := mailOrderUptoRow, standIns := [], harness := (true, "e052634f85e3eed01d9e3d4afab97c2ee72a124f300ee5a90da30f1c64bd110e"), looks := true }, kinds := [], alts := [], laidByText := true, laidKinds := [.handle], laidTests := true, laidLooks := .later }
def MailOrderUptoCardSaid : Prop := Claim7.holds Tryz.pinned (.plain (OpenSpec.upto mailOrderSpec)) mailOrderUptoCard
end Rows
end Go.Proofs.YtpmgfdakljjlaabGreatDoor
