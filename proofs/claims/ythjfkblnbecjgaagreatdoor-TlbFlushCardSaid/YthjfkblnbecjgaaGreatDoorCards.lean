/-
  DERIVED. GIVEN WITH THE SEED: THE CARDS: each row of YthjfkblnbecjgaaGreatDoorRows.lean that lists a variable, with what it lists TIED to the program's text (the seventh form; the later family's looks); each row that meets fmt, with fmt's text TOLD by the authors' own Lean function (tested against real Go, not proved from fmt's source: count such statements apart). THE CARD IS WHAT COUNTS. Prove the row's statement (the work); the ties are given (YthjfkblnbecjgaaGreatDoorTie.lean); close each card by the builder's one call (the guide's Derived/Test/ToyasCard.lean, 'card_holds'). Laid BY PROGRAM, IN A SANDBOX (cutbox-door.mjs). By AI agents, Wed Nov 11 2026. No macro, syntax, notation, axiom, sorry.
-/
import Derived.Test.YthjfkblnbecjgaaGreatDoorRows
import GoSem.ClaimSeven
namespace Go.Proofs.YthjfkblnbecjgaaGreatDoor
namespace Rows

/-- THE TIED CARD OF 'messuagelaw2.WordEdge'. -/
def wordEdgeCard : Claim7 := { stood := { row := wordEdgeRow, standIns := [], harness := (true, "8c0441bbc8609432f713c1c89f5af20e6af72254f1482b9eed96a33066278ab6"), looks := true }, kinds := [], alts := [], laidByText := true, laidKinds := [.handle], laidTests := true, laidLooks := .later }
def WordEdgeCardSaid : Prop := Claim7.holds Tryz.pinned (.plain (OpenSpec.ofChange wordEdgeSpec)) wordEdgeCard

/-- THE TIED CARD OF 'messuagelaw2.WordOrder'. -/
def wordOrderCard : Claim7 := { stood := { row := wordOrderRow, standIns := [], harness := (true, "8c0441bbc8609432f713c1c89f5af20e6af72254f1482b9eed96a33066278ab6"), looks := true }, kinds := [], alts := [], laidByText := true, laidKinds := [.handle], laidTests := true, laidLooks := .later }
def WordOrderCardSaid : Prop := Claim7.holds Tryz.pinned (.plain (OpenSpec.ofChange wordOrderSpec)) wordOrderCard

/-- THE TIED CARD OF 'messuagelaw2.TableBy'. -/
def tableByCard : Claim7 := { stood := { row := tableByRow, standIns := [], harness := (true, "8c0441bbc8609432f713c1c89f5af20e6af72254f1482b9eed96a33066278ab6"), looks := true }, kinds := [], alts := [], laidByText := true, laidKinds := [.handle], laidTests := true, laidLooks := .later }
def TableByCardSaid : Prop := Claim7.holds Tryz.pinned (.plain (OpenSpec.ofChange tableBySpec)) tableByCard

/-- THE TIED CARD OF 'messuagelaw2.MailOrder'. -/
def mailOrderCard : Claim7 := { stood := { row := mailOrderRow, standIns := [], harness := (true, "8c0441bbc8609432f713c1c89f5af20e6af72254f1482b9eed96a33066278ab6"), looks := true }, kinds := [], alts := [], laidByText := true, laidKinds := [.handle], laidTests := true, laidLooks := .later }
def MailOrderCardSaid : Prop := Claim7.holds Tryz.pinned (.plain (OpenSpec.ofChange mailOrderSpec)) mailOrderCard

/-- THE TIED CARD OF 'messuagelaw2.CellSwap'. -/
def cellSwapCard : Claim7 := { stood := { row := cellSwapRow, standIns := [], harness := (true, "8c0441bbc8609432f713c1c89f5af20e6af72254f1482b9eed96a33066278ab6"), looks := true }, kinds := [], alts := [], laidByText := true, laidKinds := [.handle], laidTests := true, laidLooks := .later }
def CellSwapCardSaid : Prop := Claim7.holds Tryz.pinned (.plain (OpenSpec.ofChange cellSwapSpec)) cellSwapCard

/-- THE TIED CARD OF 'messuagelaw2.WordAll'. -/
def wordAllCard : Claim7 := { stood := { row := wordAllRow, standIns := [], harness := (true, "8c0441bbc8609432f713c1c89f5af20e6af72254f1482b9eed96a33066278ab6"), looks := true }, kinds := [], alts := [], laidByText := true, laidKinds := [.handle], laidTests := true, laidLooks := .later }
def WordAllCardSaid : Prop := Claim7.holds Tryz.pinned (.plain (OpenSpec.ofChange wordAllSpec)) wordAllCard

/-- THE TIED CARD OF 'messuagelaw2.WordEach'. -/
def wordEachCard : Claim7 := { stood := { row := wordEachRow, standIns := [], harness := (true, "8c0441bbc8609432f713c1c89f5af20e6af72254f1482b9eed96a33066278ab6"), looks := true }, kinds := [], alts := [], laidByText := true, laidKinds := [.handle], laidTests := true, laidLooks := .later }
def WordEachCardSaid : Prop := Claim7.holds Tryz.pinned (.plain (OpenSpec.ofChange wordEachSpec)) wordEachCard

/-- THE TIED CARD OF 'messuagelaw2.TicketAll'. -/
def ticketAllCard : Claim7 := { stood := { row := ticketAllRow, standIns := [], harness := (true, "8c0441bbc8609432f713c1c89f5af20e6af72254f1482b9eed96a33066278ab6"), looks := true }, kinds := [], alts := [], laidByText := true, laidKinds := [.handle], laidTests := true, laidLooks := .later }
def TicketAllCardSaid : Prop := Claim7.holds Tryz.pinned (.plain (OpenSpec.ofChange ticketAllSpec)) ticketAllCard

/-- THE TIED CARD OF 'messuagelaw2.TicketFair'. -/
def ticketFairCard : Claim7 := { stood := { row := ticketFairRow, standIns := [], harness := (true, "8c0441bbc8609432f713c1c89f5af20e6af72254f1482b9eed96a33066278ab6"), looks := true }, kinds := [], alts := [], laidByText := true, laidKinds := [.handle], laidTests := true, laidLooks := .later }
def TicketFairCardSaid : Prop := Claim7.holds Tryz.pinned (.plain (OpenSpec.ofChange ticketFairSpec)) ticketFairCard

/-- THE TIED CARD OF 'messuagelaw2.PteOne'. -/
def pteOneCard : Claim7 := { stood := { row := pteOneRow, standIns := [], harness := (true, "8c0441bbc8609432f713c1c89f5af20e6af72254f1482b9eed96a33066278ab6"), looks := true }, kinds := [], alts := [], laidByText := true, laidKinds := [.handle], laidTests := true, laidLooks := .later }
def PteOneCardSaid : Prop := Claim7.holds Tryz.pinned (.plain (OpenSpec.ofChange pteOneSpec)) pteOneCard

/-- THE TIED CARD OF 'messuagelaw2.CellCount'. -/
def cellCountCard : Claim7 := { stood := { row := cellCountRow, standIns := [], harness := (true, "8c0441bbc8609432f713c1c89f5af20e6af72254f1482b9eed96a33066278ab6"), looks := true }, kinds := [], alts := [], laidByText := true, laidKinds := [.handle], laidTests := true, laidLooks := .later }
def CellCountCardSaid : Prop := Claim7.holds Tryz.pinned (.plain (OpenSpec.ofChange cellCountSpec)) cellCountCard

/-- THE TIED CARD OF 'messuagelaw2.PteEach'. -/
def pteEachCard : Claim7 := { stood := { row := pteEachRow, standIns := [], harness := (true, "8c0441bbc8609432f713c1c89f5af20e6af72254f1482b9eed96a33066278ab6"), looks := true }, kinds := [], alts := [], laidByText := true, laidKinds := [.handle], laidTests := true, laidLooks := .later }
def PteEachCardSaid : Prop := Claim7.holds Tryz.pinned (.plain (OpenSpec.ofChange pteEachSpec)) pteEachCard

/-- THE TIED CARD OF 'messuagelaw2.TlbSets'. -/
def tlbSetsCard : Claim7 := { stood := { row := tlbSetsRow, standIns := [], harness := (true, "8c0441bbc8609432f713c1c89f5af20e6af72254f1482b9eed96a33066278ab6"), looks := true }, kinds := [], alts := [], laidByText := true, laidKinds := [.handle], laidTests := true, laidLooks := .later }
def TlbSetsCardSaid : Prop := Claim7.holds Tryz.pinned (.plain (OpenSpec.ofChange tlbSetsSpec)) tlbSetsCard

/-- THE TIED CARD OF 'messuagelaw2.PoolLeast'. -/
def poolLeastCard : Claim7 := { stood := { row := poolLeastRow, standIns := [], harness := (true, "8c0441bbc8609432f713c1c89f5af20e6af72254f1482b9eed96a33066278ab6"), looks := true }, kinds := [], alts := [], laidByText := true, laidKinds := [.handle], laidTests := true, laidLooks := .later }
def PoolLeastCardSaid : Prop := Claim7.holds Tryz.pinned (.plain (OpenSpec.ofChange poolLeastSpec)) poolLeastCard

/-- THE TIED CARD OF 'messuagelaw2.MemAtomic'. -/
def memAtomicCard : Claim7 := { stood := { row := memAtomicRow, standIns := [], harness := (true, "8c0441bbc8609432f713c1c89f5af20e6af72254f1482b9eed96a33066278ab6"), looks := true }, kinds := [], alts := [], laidByText := true, laidKinds := [.handle], laidTests := true, laidLooks := .later }
def MemAtomicCardSaid : Prop := Claim7.holds Tryz.pinned (.plain (OpenSpec.ofChange memAtomicSpec)) memAtomicCard

/-- THE TIED CARD OF 'messuagelaw2.PoolSeven'. -/
def poolSevenCard : Claim7 := { stood := { row := poolSevenRow, standIns := [], harness := (true, "8c0441bbc8609432f713c1c89f5af20e6af72254f1482b9eed96a33066278ab6"), looks := true }, kinds := [], alts := [], laidByText := true, laidKinds := [.handle], laidTests := true, laidLooks := .later }
def PoolSevenCardSaid : Prop := Claim7.holds Tryz.pinned (.plain (OpenSpec.ofChange poolSevenSpec)) poolSevenCard

/-- THE TIED CARD OF 'messuagelaw2.MemOwn'. -/
def memOwnCard : Claim7 := { stood := { row := memOwnRow, standIns := [], harness := (true, "8c0441bbc8609432f713c1c89f5af20e6af72254f1482b9eed96a33066278ab6"), looks := true }, kinds := [], alts := [], laidByText := true, laidKinds := [.handle], laidTests := true, laidLooks := .later }
def MemOwnCardSaid : Prop := Claim7.holds Tryz.pinned (.plain (OpenSpec.ofChange memOwnSpec)) memOwnCard

/-- THE TIED CARD OF 'messuagelaw2.PteAll'. -/
def pteAllCard : Claim7 := { stood := { row := pteAllRow, standIns := [], harness := (true, "8c0441bbc8609432f713c1c89f5af20e6af72254f1482b9eed96a33066278ab6"), looks := true }, kinds := [], alts := [], laidByText := true, laidKinds := [.handle], laidTests := true, laidLooks := .later }
def PteAllCardSaid : Prop := Claim7.holds Tryz.pinned (.plain (OpenSpec.ofChange pteAllSpec)) pteAllCard

/-- THE TIED CARD OF 'messuagelaw2.CellAll'. -/
def cellAllCard : Claim7 := { stood := { row := cellAllRow, standIns := [], harness := (true, "8c0441bbc8609432f713c1c89f5af20e6af72254f1482b9eed96a33066278ab6"), looks := true }, kinds := [], alts := [], laidByText := true, laidKinds := [.handle], laidTests := true, laidLooks := .later }
def CellAllCardSaid : Prop := Claim7.holds Tryz.pinned (.plain (OpenSpec.ofChange cellAllSpec)) cellAllCard

/-- THE TIED CARD OF 'messuagelaw2.TlbFlush'. -/
def tlbFlushCard : Claim7 := { stood := { row := tlbFlushRow, standIns := [], harness := (true, "8c0441bbc8609432f713c1c89f5af20e6af72254f1482b9eed96a33066278ab6"), looks := true }, kinds := [], alts := [], laidByText := true, laidKinds := [.handle], laidTests := true, laidLooks := .later }
def TlbFlushCardSaid : Prop := Claim7.holds Tryz.pinned (.plain (OpenSpec.ofChange tlbFlushSpec)) tlbFlushCard

/-- THE TIED CARD OF 'messuagelaw2.TlbAll'. -/
def tlbAllCard : Claim7 := { stood := { row := tlbAllRow, standIns := [], harness := (true, "8c0441bbc8609432f713c1c89f5af20e6af72254f1482b9eed96a33066278ab6"), looks := true }, kinds := [], alts := [], laidByText := true, laidKinds := [.handle], laidTests := true, laidLooks := .later }
def TlbAllCardSaid : Prop := Claim7.holds Tryz.pinned (.plain (OpenSpec.ofChange tlbAllSpec)) tlbAllCard

/-- THE TIED CARD OF 'messuagelaw2.TableAll'. -/
def tableAllCard : Claim7 := { stood := { row := tableAllRow, standIns := [], harness := (true, "8c0441bbc8609432f713c1c89f5af20e6af72254f1482b9eed96a33066278ab6"), looks := true }, kinds := [], alts := [], laidByText := true, laidKinds := [.handle], laidTests := true, laidLooks := .later }
def TableAllCardSaid : Prop := Claim7.holds Tryz.pinned (.plain (OpenSpec.ofChange tableAllSpec)) tableAllCard

/-- THE SECOND FORM's CARD OF 'messuagelaw2.WordEdge'. -/
def wordEdgeUptoCard : Claim7 := { stood := { row := wordEdgeUptoRow, standIns := [], harness := (true, "8c0441bbc8609432f713c1c89f5af20e6af72254f1482b9eed96a33066278ab6"), looks := true }, kinds := [], alts := [], laidByText := true, laidKinds := [.handle], laidTests := true, laidLooks := .later }
def WordEdgeUptoCardSaid : Prop := Claim7.holds Tryz.pinned (.plain (OpenSpec.upto wordEdgeSpec)) wordEdgeUptoCard

/-- THE SECOND FORM's CARD OF 'messuagelaw2.WordOrder'. -/
def wordOrderUptoCard : Claim7 := { stood := { row := wordOrderUptoRow, standIns := [], harness := (true, "8c0441bbc8609432f713c1c89f5af20e6af72254f1482b9eed96a33066278ab6"), looks := true }, kinds := [], alts := [], laidByText := true, laidKinds := [.handle], laidTests := true, laidLooks := .later }
def WordOrderUptoCardSaid : Prop := Claim7.holds Tryz.pinned (.plain (OpenSpec.upto wordOrderSpec)) wordOrderUptoCard

/-- THE SECOND FORM's CARD OF 'messuagelaw2.TableBy'. -/
def tableByUptoCard : Claim7 := { stood := { row := tableByUptoRow, standIns := [], harness := (true, "8c0441bbc8609432f713c1c89f5af20e6af72254f1482b9eed96a33066278ab6"), looks := true }, kinds := [], alts := [], laidByText := true, laidKinds := [.handle], laidTests := true, laidLooks := .later }
def TableByUptoCardSaid : Prop := Claim7.holds Tryz.pinned (.plain (OpenSpec.upto tableBySpec)) tableByUptoCard

/-- THE SECOND FORM's CARD OF 'messuagelaw2.MailOrder'. -/
def mailOrderUptoCard : Claim7 := { stood := { row := mailOrderUptoRow, standIns := [], harness := (true, "8c0441bbc8609432f713c1c89f5af20e6af72254f1482b9eed96a33066278ab6"), looks := true }, kinds := [], alts := [], laidByText := true, laidKinds := [.handle], laidTests := true, laidLooks := .later }
def MailOrderUptoCardSaid : Prop := Claim7.holds Tryz.pinned (.plain (OpenSpec.upto mailOrderSpec)) mailOrderUptoCard

/-- THE SECOND FORM's CARD OF 'messuagelaw2.CellSwap'. -/
def cellSwapUptoCard : Claim7 := { stood := { row := cellSwapUptoRow, standIns := [], harness := (true, "8c0441bbc8609432f713c1c89f5af20e6af72254f1482b9eed96a33066278ab6"), looks := true }, kinds := [], alts := [], laidByText := true, laidKinds := [.handle], laidTests := true, laidLooks := .later }
def CellSwapUptoCardSaid : Prop := Claim7.holds Tryz.pinned (.plain (OpenSpec.upto cellSwapSpec)) cellSwapUptoCard

/-- THE SECOND FORM's CARD OF 'messuagelaw2.WordAll'. -/
def wordAllUptoCard : Claim7 := { stood := { row := wordAllUptoRow, standIns := [], harness := (true, "8c0441bbc8609432f713c1c89f5af20e6af72254f1482b9eed96a33066278ab6"), looks := true }, kinds := [], alts := [], laidByText := true, laidKinds := [.handle], laidTests := true, laidLooks := .later }
def WordAllUptoCardSaid : Prop := Claim7.holds Tryz.pinned (.plain (OpenSpec.upto wordAllSpec)) wordAllUptoCard

/-- THE SECOND FORM's CARD OF 'messuagelaw2.WordEach'. -/
def wordEachUptoCard : Claim7 := { stood := { row := wordEachUptoRow, standIns := [], harness := (true, "8c0441bbc8609432f713c1c89f5af20e6af72254f1482b9eed96a33066278ab6"), looks := true }, kinds := [], alts := [], laidByText := true, laidKinds := [.handle], laidTests := true, laidLooks := .later }
def WordEachUptoCardSaid : Prop := Claim7.holds Tryz.pinned (.plain (OpenSpec.upto wordEachSpec)) wordEachUptoCard

/-- THE SECOND FORM's CARD OF 'messuagelaw2.TicketAll'. -/
def ticketAllUptoCard : Claim7 := { stood := { row := ticketAllUptoRow, standIns := [], harness := (true, "8c0441bbc8609432f713c1c89f5af20e6af72254f1482b9eed96a33066278ab6"), looks := true }, kinds := [], alts := [], laidByText := true, laidKinds := [.handle], laidTests := true, laidLooks := .later }
def TicketAllUptoCardSaid : Prop := Claim7.holds Tryz.pinned (.plain (OpenSpec.upto ticketAllSpec)) ticketAllUptoCard

/-- THE SECOND FORM's CARD OF 'messuagelaw2.TicketFair'. -/
def ticketFairUptoCard : Claim7 := { stood := { row := ticketFairUptoRow, standIns := [], harness := (true, "8c0441bbc8609432f713c1c89f5af20e6af72254f1482b9eed96a33066278ab6"), looks := true }, kinds := [], alts := [], laidByText := true, laidKinds := [.handle], laidTests := true, laidLooks := .later }
def TicketFairUptoCardSaid : Prop := Claim7.holds Tryz.pinned (.plain (OpenSpec.upto ticketFairSpec)) ticketFairUptoCard

/-- THE SECOND FORM's CARD OF 'messuagelaw2.PteOne'. -/
def pteOneUptoCard : Claim7 := { stood := { row := pteOneUptoRow, standIns := [], harness := (true, "8c0441bbc8609432f713c1c89f5af20e6af72254f1482b9eed96a33066278ab6"), looks := true }, kinds := [], alts := [], laidByText := true, laidKinds := [.handle], laidTests := true, laidLooks := .later }
def PteOneUptoCardSaid : Prop := Claim7.holds Tryz.pinned (.plain (OpenSpec.upto pteOneSpec)) pteOneUptoCard

/-- THE SECOND FORM's CARD OF 'messuagelaw2.CellCount'. -/
def cellCountUptoCard : Claim7 := { stood := { row := cellCountUptoRow, standIns := [], harness := (true, "8c0441bbc8609432f713c1c89f5af20e6af72254f1482b9eed96a33066278ab6"), looks := true }, kinds := [], alts := [], laidByText := true, laidKinds := [.handle], laidTests := true, laidLooks := .later }
def CellCountUptoCardSaid : Prop := Claim7.holds Tryz.pinned (.plain (OpenSpec.upto cellCountSpec)) cellCountUptoCard

/-- THE SECOND FORM's CARD OF 'messuagelaw2.PteEach'. -/
def pteEachUptoCard : Claim7 := { stood := { row := pteEachUptoRow, standIns := [], harness := (true, "8c0441bbc8609432f713c1c89f5af20e6af72254f1482b9eed96a33066278ab6"), looks := true }, kinds := [], alts := [], laidByText := true, laidKinds := [.handle], laidTests := true, laidLooks := .later }
def PteEachUptoCardSaid : Prop := Claim7.holds Tryz.pinned (.plain (OpenSpec.upto pteEachSpec)) pteEachUptoCard

/-- THE SECOND FORM's CARD OF 'messuagelaw2.TlbSets'. -/
def tlbSetsUptoCard : Claim7 := { stood := { row := tlbSetsUptoRow, standIns := [], harness := (true, "8c0441bbc8609432f713c1c89f5af20e6af72254f1482b9eed96a33066278ab6"), looks := true }, kinds := [], alts := [], laidByText := true, laidKinds := [.handle], laidTests := true, laidLooks := .later }
def TlbSetsUptoCardSaid : Prop := Claim7.holds Tryz.pinned (.plain (OpenSpec.upto tlbSetsSpec)) tlbSetsUptoCard

/-- THE SECOND FORM's CARD OF 'messuagelaw2.PoolLeast'. -/
def poolLeastUptoCard : Claim7 := { stood := { row := poolLeastUptoRow, standIns := [], harness := (true, "8c0441bbc8609432f713c1c89f5af20e6af72254f1482b9eed96a33066278ab6"), looks := true }, kinds := [], alts := [], laidByText := true, laidKinds := [.handle], laidTests := true, laidLooks := .later }
def PoolLeastUptoCardSaid : Prop := Claim7.holds Tryz.pinned (.plain (OpenSpec.upto poolLeastSpec)) poolLeastUptoCard

/-- THE SECOND FORM's CARD OF 'messuagelaw2.MemAtomic'. -/
def memAtomicUptoCard : Claim7 := { stood := { row := memAtomicUptoRow, standIns := [], harness := (true, "8c0441bbc8609432f713c1c89f5af20e6af72254f1482b9eed96a33066278ab6"), looks := true }, kinds := [], alts := [], laidByText := true, laidKinds := [.handle], laidTests := true, laidLooks := .later }
def MemAtomicUptoCardSaid : Prop := Claim7.holds Tryz.pinned (.plain (OpenSpec.upto memAtomicSpec)) memAtomicUptoCard

/-- THE SECOND FORM's CARD OF 'messuagelaw2.PoolSeven'. -/
def poolSevenUptoCard : Claim7 := { stood := { row := poolSevenUptoRow, standIns := [], harness := (true, "8c0441bbc8609432f713c1c89f5af20e6af72254f1482b9eed96a33066278ab6"), looks := true }, kinds := [], alts := [], laidByText := true, laidKinds := [.handle], laidTests := true, laidLooks := .later }
def PoolSevenUptoCardSaid : Prop := Claim7.holds Tryz.pinned (.plain (OpenSpec.upto poolSevenSpec)) poolSevenUptoCard

/-- THE SECOND FORM's CARD OF 'messuagelaw2.MemOwn'. -/
def memOwnUptoCard : Claim7 := { stood := { row := memOwnUptoRow, standIns := [], harness := (true, "8c0441bbc8609432f713c1c89f5af20e6af72254f1482b9eed96a33066278ab6"), looks := true }, kinds := [], alts := [], laidByText := true, laidKinds := [.handle], laidTests := true, laidLooks := .later }
def MemOwnUptoCardSaid : Prop := Claim7.holds Tryz.pinned (.plain (OpenSpec.upto memOwnSpec)) memOwnUptoCard

/-- THE SECOND FORM's CARD OF 'messuagelaw2.PteAll'. -/
def pteAllUptoCard : Claim7 := { stood := { row := pteAllUptoRow, standIns := [], harness := (true, "8c0441bbc8609432f713c1c89f5af20e6af72254f1482b9eed96a33066278ab6"), looks := true }, kinds := [], alts := [], laidByText := true, laidKinds := [.handle], laidTests := true, laidLooks := .later }
def PteAllUptoCardSaid : Prop := Claim7.holds Tryz.pinned (.plain (OpenSpec.upto pteAllSpec)) pteAllUptoCard

/-- THE SECOND FORM's CARD OF 'messuagelaw2.CellAll'. -/
def cellAllUptoCard : Claim7 := { stood := { row := cellAllUptoRow, standIns := [], harness := (true, "8c0441bbc8609432f713c1c89f5af20e6af72254f1482b9eed96a33066278ab6"), looks := true }, kinds := [], alts := [], laidByText := true, laidKinds := [.handle], laidTests := true, laidLooks := .later }
def CellAllUptoCardSaid : Prop := Claim7.holds Tryz.pinned (.plain (OpenSpec.upto cellAllSpec)) cellAllUptoCard

/-- THE SECOND FORM's CARD OF 'messuagelaw2.TlbFlush'. -/
def tlbFlushUptoCard : Claim7 := { stood := { row := tlbFlushUptoRow, standIns := [], harness := (true, "8c0441bbc8609432f713c1c89f5af20e6af72254f1482b9eed96a33066278ab6"), looks := true }, kinds := [], alts := [], laidByText := true, laidKinds := [.handle], laidTests := true, laidLooks := .later }
def TlbFlushUptoCardSaid : Prop := Claim7.holds Tryz.pinned (.plain (OpenSpec.upto tlbFlushSpec)) tlbFlushUptoCard

/-- THE SECOND FORM's CARD OF 'messuagelaw2.TlbAll'. -/
def tlbAllUptoCard : Claim7 := { stood := { row := tlbAllUptoRow, standIns := [], harness := (true, "8c0441bbc8609432f713c1c89f5af20e6af72254f1482b9eed96a33066278ab6"), looks := true }, kinds := [], alts := [], laidByText := true, laidKinds := [.handle], laidTests := true, laidLooks := .later }
def TlbAllUptoCardSaid : Prop := Claim7.holds Tryz.pinned (.plain (OpenSpec.upto tlbAllSpec)) tlbAllUptoCard

/-- THE SECOND FORM's CARD OF 'messuagelaw2.TableAll'. -/
def tableAllUptoCard : Claim7 := { stood := { row := tableAllUptoRow, standIns := [], harness := (true, "8c0441bbc8609432f713c1c89f5af20e6af72254f1482b9eed96a33066278ab6"), looks := true }, kinds := [], alts := [], laidByText := true, laidKinds := [.handle], laidTests := true, laidLooks := .later }
def TableAllUptoCardSaid : Prop := Claim7.holds Tryz.pinned (.plain (OpenSpec.upto tableAllSpec)) tableAllUptoCard
end Rows
end Go.Proofs.YthjfkblnbecjgaaGreatDoor
