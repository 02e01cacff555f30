/-
  DERIVED. GIVEN WITH THE SEED: THE CARDS: each row of YtbeeilndeglnhaaGreatDoorRows.lean that lists a variable, with what it lists TIED to the program's text (the seventh form; the later family's looks); each row that meets fmt, with fmt's text TOLD by the authors' own Lean function (tested against real Go, not proved from fmt's source: count such statements apart). THE CARD IS WHAT COUNTS. Prove the row's statement (the work); the ties are given (YtbeeilndeglnhaaGreatDoorTie.lean); close each card by the builder's one call (the guide's Derived/Test/ToyasCard.lean, 'card_holds'). Laid BY PROGRAM, IN A SANDBOX (cutbox-door.mjs). By AI agents, Wed Nov 11 2026. No macro, syntax, notation, axiom, sorry.
-/
import Derived.Test.YtbeeilndeglnhaaGreatDoorRows
import GoSem.ClaimSeven
namespace Go.Proofs.YtbeeilndeglnhaaGreatDoor
namespace Rows

/-- THE TIED CARD OF 'messuagelaw11.PlainFull'. -/
def plainFullCard : Claim7 := { stood := { row := plainFullRow, standIns := [], harness := (true, "03e61672702d19706c8d68169ee10bb2a69f43bc4acf47496bc14f440cc30522"), looks := true }, kinds := [], alts := [], laidByText := true, laidKinds := [.handle], laidTests := true, laidLooks := .later }
def PlainFullCardSaid : Prop := Claim7.holds Tryz.pinned (.plain (OpenSpec.ofChange plainFullSpec)) plainFullCard

/-- THE TIED CARD OF 'messuagelaw11.PlainSleep'. -/
def plainSleepCard : Claim7 := { stood := { row := plainSleepRow, standIns := [], harness := (true, "03e61672702d19706c8d68169ee10bb2a69f43bc4acf47496bc14f440cc30522"), looks := true }, kinds := [], alts := [], laidByText := true, laidKinds := [.handle], laidTests := true, laidLooks := .later }
def PlainSleepCardSaid : Prop := Claim7.holds Tryz.pinned (.plain (OpenSpec.ofChange plainSleepSpec)) plainSleepCard

/-- THE TIED CARD OF 'messuagelaw11.PlainOrder'. -/
def plainOrderCard : Claim7 := { stood := { row := plainOrderRow, standIns := [], harness := (true, "03e61672702d19706c8d68169ee10bb2a69f43bc4acf47496bc14f440cc30522"), looks := true }, kinds := [], alts := [], laidByText := true, laidKinds := [.handle], laidTests := true, laidLooks := .later }
def PlainOrderCardSaid : Prop := Claim7.holds Tryz.pinned (.plain (OpenSpec.ofChange plainOrderSpec)) plainOrderCard

/-- THE TIED CARD OF 'messuagelaw11.PlainRemap'. -/
def plainRemapCard : Claim7 := { stood := { row := plainRemapRow, standIns := [], harness := (true, "03e61672702d19706c8d68169ee10bb2a69f43bc4acf47496bc14f440cc30522"), looks := true }, kinds := [], alts := [], laidByText := true, laidKinds := [.handle], laidTests := true, laidLooks := .later }
def PlainRemapCardSaid : Prop := Claim7.holds Tryz.pinned (.plain (OpenSpec.ofChange plainRemapSpec)) plainRemapCard

/-- THE TIED CARD OF 'messuagelaw11.PlainProtect'. -/
def plainProtectCard : Claim7 := { stood := { row := plainProtectRow, standIns := [], harness := (true, "03e61672702d19706c8d68169ee10bb2a69f43bc4acf47496bc14f440cc30522"), looks := true }, kinds := [], alts := [], laidByText := true, laidKinds := [.handle], laidTests := true, laidLooks := .later }
def PlainProtectCardSaid : Prop := Claim7.holds Tryz.pinned (.plain (OpenSpec.ofChange plainProtectSpec)) plainProtectCard

/-- THE TIED CARD OF 'messuagelaw11.PlainShare'. -/
def plainShareCard : Claim7 := { stood := { row := plainShareRow, standIns := [], harness := (true, "03e61672702d19706c8d68169ee10bb2a69f43bc4acf47496bc14f440cc30522"), looks := true }, kinds := [], alts := [], laidByText := true, laidKinds := [.handle], laidTests := true, laidLooks := .later }
def PlainShareCardSaid : Prop := Claim7.holds Tryz.pinned (.plain (OpenSpec.ofChange plainShareSpec)) plainShareCard

/-- THE TIED CARD OF 'messuagelaw11.PlainDrop'. -/
def plainDropCard : Claim7 := { stood := { row := plainDropRow, standIns := [], harness := (true, "03e61672702d19706c8d68169ee10bb2a69f43bc4acf47496bc14f440cc30522"), looks := true }, kinds := [], alts := [], laidByText := true, laidKinds := [.handle], laidTests := true, laidLooks := .later }
def PlainDropCardSaid : Prop := Claim7.holds Tryz.pinned (.plain (OpenSpec.ofChange plainDropSpec)) plainDropCard

/-- THE TIED CARD OF 'messuagelaw11.KernelNone'. -/
def kernelNoneCard : Claim7 := { stood := { row := kernelNoneRow, standIns := [], harness := (true, "03e61672702d19706c8d68169ee10bb2a69f43bc4acf47496bc14f440cc30522"), looks := true }, kinds := [], alts := [], laidByText := true, laidKinds := [.handle], laidTests := true, laidLooks := .later }
def KernelNoneCardSaid : Prop := Claim7.holds Tryz.pinned (.plain (OpenSpec.ofChange kernelNoneSpec)) kernelNoneCard

/-- THE SECOND FORM's CARD OF 'messuagelaw11.PlainFull'. -/
def plainFullUptoCard : Claim7 := { stood := { row := plainFullUptoRow, standIns := [], harness := (true, "03e61672702d19706c8d68169ee10bb2a69f43bc4acf47496bc14f440cc30522"), looks := true }, kinds := [], alts := [], laidByText := true, laidKinds := [.handle], laidTests := true, laidLooks := .later }
def PlainFullUptoCardSaid : Prop := Claim7.holds Tryz.pinned (.plain (OpenSpec.upto plainFullSpec)) plainFullUptoCard

/-- THE SECOND FORM's CARD OF 'messuagelaw11.PlainSleep'. -/
def plainSleepUptoCard : Claim7 := { stood := { row := plainSleepUptoRow, standIns := [], harness := (true, "03e61672702d19706c8d68169ee10bb2a69f43bc4acf47496bc14f440cc30522"), looks := true }, kinds := [], alts := [], laidByText := true, laidKinds := [.handle], laidTests := true, laidLooks := .later }
def PlainSleepUptoCardSaid : Prop := Claim7.holds Tryz.pinned (.plain (OpenSpec.upto plainSleepSpec)) plainSleepUptoCard

/-- THE SECOND FORM's CARD OF 'messuagelaw11.PlainOrder'. -/
def plainOrderUptoCard : Claim7 := { stood := { row := plainOrderUptoRow, standIns := [], harness := (true, "03e61672702d19706c8d68169ee10bb2a69f43bc4acf47496bc14f440cc30522"), looks := true }, kinds := [], alts := [], laidByText := true, laidKinds := [.handle], laidTests := true, laidLooks := .later }
def PlainOrderUptoCardSaid : Prop := Claim7.holds Tryz.pinned (.plain (OpenSpec.upto plainOrderSpec)) plainOrderUptoCard

/-- THE SECOND FORM's CARD OF 'messuagelaw11.PlainRemap'. -/
def plainRemapUptoCard : Claim7 := { stood := { row := plainRemapUptoRow, standIns := [], harness := (true, "03e61672702d19706c8d68169ee10bb2a69f43bc4acf47496bc14f440cc30522"), looks := true }, kinds := [], alts := [], laidByText := true, laidKinds := [.handle], laidTests := true, laidLooks := .later }
def PlainRemapUptoCardSaid : Prop := Claim7.holds Tryz.pinned (.plain (OpenSpec.upto plainRemapSpec)) plainRemapUptoCard

/-- THE SECOND FORM's CARD OF 'messuagelaw11.PlainProtect'. -/
def plainProtectUptoCard : Claim7 := { stood := { row := plainProtectUptoRow, standIns := [], harness := (true, "03e61672702d19706c8d68169ee10bb2a69f43bc4acf47496bc14f440cc30522"), looks := true }, kinds := [], alts := [], laidByText := true, laidKinds := [.handle], laidTests := true, laidLooks := .later }
def PlainProtectUptoCardSaid : Prop := Claim7.holds Tryz.pinned (.plain (OpenSpec.upto plainProtectSpec)) plainProtectUptoCard

/-- THE SECOND FORM's CARD OF 'messuagelaw11.PlainShare'. -/
def plainShareUptoCard : Claim7 := { stood := { row := plainShareUptoRow, standIns := [], harness := (true, "03e61672702d19706c8d68169ee10bb2a69f43bc4acf47496bc14f440cc30522"), looks := true }, kinds := [], alts := [], laidByText := true, laidKinds := [.handle], laidTests := true, laidLooks := .later }
def PlainShareUptoCardSaid : Prop := Claim7.holds Tryz.pinned (.plain (OpenSpec.upto plainShareSpec)) plainShareUptoCard

/-- THE SECOND FORM's CARD OF 'messuagelaw11.PlainDrop'. -/
def plainDropUptoCard : Claim7 := { stood := { row := plainDropUptoRow, standIns := [], harness := (true, "03e61672702d19706c8d68169ee10bb2a69f43bc4acf47496bc14f440cc30522"), looks := true }, kinds := [], alts := [], laidByText := true, laidKinds := [.handle], laidTests := true, laidLooks := .later }
def PlainDropUptoCardSaid : Prop := Claim7.holds Tryz.pinned (.plain (OpenSpec.upto plainDropSpec)) plainDropUptoCard

/-- THE SECOND FORM's CARD OF 'messuagelaw11.KernelNone'. -/
def kernelNoneUptoCard : Claim7 := { stood := { row := kernelNoneUptoRow, standIns := [], harness := (true, "03e61672702d19706c8d68169ee10bb2a69f43bc4acf47496bc14f440cc30522"), looks := true }, kinds := [], alts := [], laidByText := true, laidKinds := [.handle], laidTests := true, laidLooks := .later }
def KernelNoneUptoCardSaid : Prop := Claim7.holds Tryz.pinned (.plain (OpenSpec.upto kernelNoneSpec)) kernelNoneUptoCard
end Rows
end Go.Proofs.YtbeeilndeglnhaaGreatDoor
