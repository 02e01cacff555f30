/-
  DERIVED. GIVEN WITH THE SEED: THE CARDS: each row of YtbpilohnhhbbpaaGreatDoorRows.lean that lists a variable, with what it lists TIED to the program's text (the seventh form; the later family's looks); each row that meets fmt, with fmt's text TOLD by the authors' own Lean function (tested against real Go, not proved from fmt's source: count such statements apart). THE CARD IS WHAT COUNTS. Prove the row's statement (the work); the ties are given (YtbpilohnhhbbpaaGreatDoorTie.lean); close each card by the builder's one call (the guide's Derived/Test/ToyasCard.lean, 'card_holds'). Laid BY PROGRAM, IN A SANDBOX (cutbox-door.mjs). By AI agents, Wed Nov 11 2026. No macro, syntax, notation, axiom, sorry.
-/
import Derived.Test.YtbpilohnhhbbpaaGreatDoorRows
import GoSem.ClaimSeven
namespace Go.Proofs.YtbpilohnhhbbpaaGreatDoor
namespace Rows

/-- THE TIED CARD OF 'messuagelaw11.KernelNone'. -/
def kernelNoneCard : Claim7 := { stood := { row := kernelNoneRow, standIns := [], harness := (true, "851eb3c6cb4eec7be8b282394a5029edcc67dd85afd058a13b27a4b6edc94801"), looks := true }, kinds := [], alts := [], laidByText := true, laidKinds := [.handle], laidTests := true, laidLooks := .later }
def KernelNoneCardSaid : Prop := Claim7.holds Tryz.pinned (.plain (OpenSpec.ofChange kernelNoneSpec)) kernelNoneCard

/-- THE TIED CARD OF 'messuagelaw11.PlainSleep'. -/
def plainSleepCard : Claim7 := { stood := { row := plainSleepRow, standIns := [], harness := (true, "851eb3c6cb4eec7be8b282394a5029edcc67dd85afd058a13b27a4b6edc94801"), looks := true }, kinds := [], alts := [], laidByText := true, laidKinds := [.handle], laidTests := true, laidLooks := .later }
def PlainSleepCardSaid : Prop := Claim7.holds Tryz.pinned (.plain (OpenSpec.ofChange plainSleepSpec)) plainSleepCard

/-- THE TIED CARD OF 'messuagelaw11.PlainShare'. -/
def plainShareCard : Claim7 := { stood := { row := plainShareRow, standIns := [], harness := (true, "851eb3c6cb4eec7be8b282394a5029edcc67dd85afd058a13b27a4b6edc94801"), looks := true }, kinds := [], alts := [], laidByText := true, laidKinds := [.handle], laidTests := true, laidLooks := .later }
def PlainShareCardSaid : Prop := Claim7.holds Tryz.pinned (.plain (OpenSpec.ofChange plainShareSpec)) plainShareCard

/-- THE TIED CARD OF 'messuagelaw11.PlainProtect'. -/
def plainProtectCard : Claim7 := { stood := { row := plainProtectRow, standIns := [], harness := (true, "851eb3c6cb4eec7be8b282394a5029edcc67dd85afd058a13b27a4b6edc94801"), looks := true }, kinds := [], alts := [], laidByText := true, laidKinds := [.handle], laidTests := true, laidLooks := .later }
def PlainProtectCardSaid : Prop := Claim7.holds Tryz.pinned (.plain (OpenSpec.ofChange plainProtectSpec)) plainProtectCard

/-- THE TIED CARD OF 'messuagelaw11.PlainAlloc'. -/
def plainAllocCard : Claim7 := { stood := { row := plainAllocRow, standIns := [], harness := (true, "851eb3c6cb4eec7be8b282394a5029edcc67dd85afd058a13b27a4b6edc94801"), looks := true }, kinds := [], alts := [], laidByText := true, laidKinds := [.handle], laidTests := true, laidLooks := .later }
def PlainAllocCardSaid : Prop := Claim7.holds Tryz.pinned (.plain (OpenSpec.ofChange plainAllocSpec)) plainAllocCard

/-- THE TIED CARD OF 'messuagelaw11.PlainFull'. -/
def plainFullCard : Claim7 := { stood := { row := plainFullRow, standIns := [], harness := (true, "851eb3c6cb4eec7be8b282394a5029edcc67dd85afd058a13b27a4b6edc94801"), looks := true }, kinds := [], alts := [], laidByText := true, laidKinds := [.handle], laidTests := true, laidLooks := .later }
def PlainFullCardSaid : Prop := Claim7.holds Tryz.pinned (.plain (OpenSpec.ofChange plainFullSpec)) plainFullCard

/-- THE TIED CARD OF 'messuagelaw11.UserAll'. -/
def userAllCard : Claim7 := { stood := { row := userAllRow, standIns := [], harness := (true, "851eb3c6cb4eec7be8b282394a5029edcc67dd85afd058a13b27a4b6edc94801"), looks := true }, kinds := [], alts := [], laidByText := true, laidKinds := [.handle], laidTests := true, laidLooks := .later }
def UserAllCardSaid : Prop := Claim7.holds Tryz.pinned (.plain (OpenSpec.ofChange userAllSpec)) userAllCard

/-- THE SECOND FORM's CARD OF 'messuagelaw11.KernelNone'. -/
def kernelNoneUptoCard : Claim7 := { stood := { row := kernelNoneUptoRow, standIns := [], harness := (true, "851eb3c6cb4eec7be8b282394a5029edcc67dd85afd058a13b27a4b6edc94801"), looks := true }, kinds := [], alts := [], laidByText := true, laidKinds := [.handle], laidTests := true, laidLooks := .later }
def KernelNoneUptoCardSaid : Prop := Claim7.holds Tryz.pinned (.plain (OpenSpec.upto kernelNoneSpec)) kernelNoneUptoCard

/-- THE SECOND FORM's CARD OF 'messuagelaw11.PlainSleep'. -/
def plainSleepUptoCard : Claim7 := { stood := { row := plainSleepUptoRow, standIns := [], harness := (true, "851eb3c6cb4eec7be8b282394a5029edcc67dd85afd058a13b27a4b6edc94801"), looks := true }, kinds := [], alts := [], laidByText := true, laidKinds := [.handle], laidTests := true, laidLooks := .later }
def PlainSleepUptoCardSaid : Prop := Claim7.holds Tryz.pinned (.plain (OpenSpec.upto plainSleepSpec)) plainSleepUptoCard

/-- THE SECOND FORM's CARD OF 'messuagelaw11.PlainShare'. -/
def plainShareUptoCard : Claim7 := { stood := { row := plainShareUptoRow, standIns := [], harness := (true, "851eb3c6cb4eec7be8b282394a5029edcc67dd85afd058a13b27a4b6edc94801"), looks := true }, kinds := [], alts := [], laidByText := true, laidKinds := [.handle], laidTests := true, laidLooks := .later }
def PlainShareUptoCardSaid : Prop := Claim7.holds Tryz.pinned (.plain (OpenSpec.upto plainShareSpec)) plainShareUptoCard

/-- THE SECOND FORM's CARD OF 'messuagelaw11.PlainProtect'. -/
def plainProtectUptoCard : Claim7 := { stood := { row := plainProtectUptoRow, standIns := [], harness := (true, "851eb3c6cb4eec7be8b282394a5029edcc67dd85afd058a13b27a4b6edc94801"), looks := true }, kinds := [], alts := [], laidByText := true, laidKinds := [.handle], laidTests := true, laidLooks := .later }
def PlainProtectUptoCardSaid : Prop := Claim7.holds Tryz.pinned (.plain (OpenSpec.upto plainProtectSpec)) plainProtectUptoCard

/-- THE SECOND FORM's CARD OF 'messuagelaw11.PlainAlloc'. -/
def plainAllocUptoCard : Claim7 := { stood := { row := plainAllocUptoRow, standIns := [], harness := (true, "851eb3c6cb4eec7be8b282394a5029edcc67dd85afd058a13b27a4b6edc94801"), looks := true }, kinds := [], alts := [], laidByText := true, laidKinds := [.handle], laidTests := true, laidLooks := .later }
def PlainAllocUptoCardSaid : Prop := Claim7.holds Tryz.pinned (.plain (OpenSpec.upto plainAllocSpec)) plainAllocUptoCard

/-- THE SECOND FORM's CARD OF 'messuagelaw11.PlainFull'. -/
def plainFullUptoCard : Claim7 := { stood := { row := plainFullUptoRow, standIns := [], harness := (true, "851eb3c6cb4eec7be8b282394a5029edcc67dd85afd058a13b27a4b6edc94801"), looks := true }, kinds := [], alts := [], laidByText := true, laidKinds := [.handle], laidTests := true, laidLooks := .later }
def PlainFullUptoCardSaid : Prop := Claim7.holds Tryz.pinned (.plain (OpenSpec.upto plainFullSpec)) plainFullUptoCard

/-- THE SECOND FORM's CARD OF 'messuagelaw11.UserAll'. -/
def userAllUptoCard : Claim7 := { stood := { row := userAllUptoRow, standIns := [], harness := (true, "851eb3c6cb4eec7be8b282394a5029edcc67dd85afd058a13b27a4b6edc94801"), looks := true }, kinds := [], alts := [], laidByText := true, laidKinds := [.handle], laidTests := true, laidLooks := .later }
def UserAllUptoCardSaid : Prop := Claim7.holds Tryz.pinned (.plain (OpenSpec.upto userAllSpec)) userAllUptoCard
end Rows
end Go.Proofs.YtbpilohnhhbbpaaGreatDoor
