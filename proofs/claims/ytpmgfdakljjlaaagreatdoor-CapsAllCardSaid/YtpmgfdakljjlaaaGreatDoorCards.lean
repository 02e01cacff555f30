/-
  DERIVED. GIVEN WITH THE SEED: THE CARDS: each row of YtpmgfdakljjlaaaGreatDoorRows.lean that lists a variable, with what it lists TIED to the program's text (the seventh form; the later family's looks); each row that meets fmt, with fmt's text TOLD by the authors' own Lean function (tested against real Go, not proved from fmt's source: count such statements apart). THE CARD IS WHAT COUNTS. Prove the row's statement (the work); the ties are given (YtpmgfdakljjlaaaGreatDoorTie.lean); close each card by the builder's one call (the guide's Derived/Test/ToyasCard.lean, 'card_holds'). Laid BY PROGRAM, IN A SANDBOX (cutbox-door.mjs). By AI agents, Wed Nov 11 2026. No macro, syntax, notation, axiom, sorry.
-/
import Derived.Test.YtpmgfdakljjlaaaGreatDoorRows
import GoSem.ClaimSeven
namespace Go.Proofs.YtpmgfdakljjlaaaGreatDoor
namespace Rows

/-- THE TIED CARD OF 'messuagelaw11.PlainPages'. -/
def plainPagesCard : Claim7 := { stood := { row := plainPagesRow, standIns := [], harness := (true, "c37214cd26cf5f1276fdeee23c58ff70ef53484e76f0d89ddbe54588837d2cdb"), looks := true }, kinds := [], alts := [], laidByText := true, laidKinds := [.handle], laidTests := true, laidLooks := .later }
def PlainPagesCardSaid : Prop := Claim7.holds Tryz.pinned (.plain (OpenSpec.ofChange plainPagesSpec)) plainPagesCard

/-- THE TIED CARD OF 'messuagelaw11.CapsAll'. -/
def capsAllCard : Claim7 := { stood := { row := capsAllRow, standIns := [], harness := (true, "c37214cd26cf5f1276fdeee23c58ff70ef53484e76f0d89ddbe54588837d2cdb"), looks := true }, kinds := [], alts := [], laidByText := true, laidKinds := [.handle], laidTests := true, laidLooks := .later }
def CapsAllCardSaid : Prop := Claim7.holds Tryz.pinned (.plain (OpenSpec.ofChange capsAllSpec)) capsAllCard

/-- THE SECOND FORM's CARD OF 'messuagelaw11.PlainPages'. -/
def plainPagesUptoCard : Claim7 := { stood := { row := plainPagesUptoRow, standIns := [], harness := (true, "c37214cd26cf5f1276fdeee23c58ff70ef53484e76f0d89ddbe54588837d2cdb"), looks := true }, kinds := [], alts := [], laidByText := true, laidKinds := [.handle], laidTests := true, laidLooks := .later }
def PlainPagesUptoCardSaid : Prop := Claim7.holds Tryz.pinned (.plain (OpenSpec.upto plainPagesSpec)) plainPagesUptoCard

/-- THE SECOND FORM's CARD OF 'messuagelaw11.CapsAll'. -/
def capsAllUptoCard : Claim7 := { stood := { row := capsAllUptoRow, standIns := [], harness := (true, "c37214cd26cf5f1276fdeee23c58ff70ef53484e76f0d89ddbe54588837d2cdb"), looks := true }, kinds := [], alts := [], laidByText := true, laidKinds := [.handle], laidTests := true, laidLooks := .later }
def CapsAllUptoCardSaid : Prop := Claim7.holds Tryz.pinned (.plain (OpenSpec.upto capsAllSpec)) capsAllUptoCard
end Rows
end Go.Proofs.YtpmgfdakljjlaaaGreatDoor
