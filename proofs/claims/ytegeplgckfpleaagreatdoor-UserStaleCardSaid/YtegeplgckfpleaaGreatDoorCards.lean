/-
  DERIVED. GIVEN WITH THE SEED: THE CARDS: each row of YtegeplgckfpleaaGreatDoorRows.lean that lists a variable, with what it lists TIED to the program's text (the seventh form; the later family's looks); each row that meets fmt, with fmt's text TOLD by the authors' own Lean function (tested against real Go, not proved from fmt's source: count such statements apart). THE CARD IS WHAT COUNTS. Prove the row's statement (the work); the ties are given (YtegeplgckfpleaaGreatDoorTie.lean); close each card by the builder's one call (the guide's Derived/Test/ToyasCard.lean, 'card_holds'). Laid BY PROGRAM, IN A SANDBOX (cutbox-door.mjs). By AI agents, Wed Nov 11 2026. No macro, syntax, notation, axiom, sorry.
-/
import Derived.Test.YtegeplgckfpleaaGreatDoorRows
import GoSem.ClaimSeven
namespace Go.Proofs.YtegeplgckfpleaaGreatDoor
namespace Rows

/-- THE TIED CARD OF 'messuagelaw11.UserWalk'. -/
def userWalkCard : Claim7 := { stood := { row := userWalkRow, standIns := [], harness := (true, "2b6aa8c52f26a36866b589049fd1d65802bdae42632cc16d24d227b9428605b6"), looks := true }, kinds := [], alts := [], laidByText := true, laidKinds := [.handle], laidTests := true, laidLooks := .later }
def UserWalkCardSaid : Prop := Claim7.holds Tryz.pinned (.plain (OpenSpec.ofChange userWalkSpec)) userWalkCard

/-- THE TIED CARD OF 'messuagelaw11.CapsRights'. -/
def capsRightsCard : Claim7 := { stood := { row := capsRightsRow, standIns := [], harness := (true, "2b6aa8c52f26a36866b589049fd1d65802bdae42632cc16d24d227b9428605b6"), looks := true }, kinds := [], alts := [], laidByText := true, laidKinds := [.handle], laidTests := true, laidLooks := .later }
def CapsRightsCardSaid : Prop := Claim7.holds Tryz.pinned (.plain (OpenSpec.ofChange capsRightsSpec)) capsRightsCard

/-- THE TIED CARD OF 'messuagelaw11.EpochAck'. -/
def epochAckCard : Claim7 := { stood := { row := epochAckRow, standIns := [], harness := (true, "2b6aa8c52f26a36866b589049fd1d65802bdae42632cc16d24d227b9428605b6"), looks := true }, kinds := [], alts := [], laidByText := true, laidKinds := [.handle], laidTests := true, laidLooks := .later }
def EpochAckCardSaid : Prop := Claim7.holds Tryz.pinned (.plain (OpenSpec.ofChange epochAckSpec)) epochAckCard

/-- THE TIED CARD OF 'messuagelaw11.UserStale'. -/
def userStaleCard : Claim7 := { stood := { row := userStaleRow, standIns := [], harness := (true, "2b6aa8c52f26a36866b589049fd1d65802bdae42632cc16d24d227b9428605b6"), looks := true }, kinds := [], alts := [], laidByText := true, laidKinds := [.handle], laidTests := true, laidLooks := .later }
def UserStaleCardSaid : Prop := Claim7.holds Tryz.pinned (.plain (OpenSpec.ofChange userStaleSpec)) userStaleCard

/-- THE TIED CARD OF 'messuagelaw11.UserMore'. -/
def userMoreCard : Claim7 := { stood := { row := userMoreRow, standIns := [], harness := (true, "2b6aa8c52f26a36866b589049fd1d65802bdae42632cc16d24d227b9428605b6"), looks := true }, kinds := [], alts := [], laidByText := true, laidKinds := [.handle], laidTests := true, laidLooks := .later }
def UserMoreCardSaid : Prop := Claim7.holds Tryz.pinned (.plain (OpenSpec.ofChange userMoreSpec)) userMoreCard

/-- THE TIED CARD OF 'messuagelaw11.UserKinds'. -/
def userKindsCard : Claim7 := { stood := { row := userKindsRow, standIns := [], harness := (true, "2b6aa8c52f26a36866b589049fd1d65802bdae42632cc16d24d227b9428605b6"), looks := true }, kinds := [], alts := [], laidByText := true, laidKinds := [.handle], laidTests := true, laidLooks := .later }
def UserKindsCardSaid : Prop := Claim7.holds Tryz.pinned (.plain (OpenSpec.ofChange userKindsSpec)) userKindsCard

/-- THE TIED CARD OF 'messuagelaw11.EpochMany'. -/
def epochManyCard : Claim7 := { stood := { row := epochManyRow, standIns := [], harness := (true, "2b6aa8c52f26a36866b589049fd1d65802bdae42632cc16d24d227b9428605b6"), looks := true }, kinds := [], alts := [], laidByText := true, laidKinds := [.handle], laidTests := true, laidLooks := .later }
def EpochManyCardSaid : Prop := Claim7.holds Tryz.pinned (.plain (OpenSpec.ofChange epochManySpec)) epochManyCard

/-- THE TIED CARD OF 'messuagelaw11.CapsAll'. -/
def capsAllCard : Claim7 := { stood := { row := capsAllRow, standIns := [], harness := (true, "2b6aa8c52f26a36866b589049fd1d65802bdae42632cc16d24d227b9428605b6"), looks := true }, kinds := [], alts := [], laidByText := true, laidKinds := [.handle], laidTests := true, laidLooks := .later }
def CapsAllCardSaid : Prop := Claim7.holds Tryz.pinned (.plain (OpenSpec.ofChange capsAllSpec)) capsAllCard

/-- THE TIED CARD OF 'messuagelaw11.CapsChain'. -/
def capsChainCard : Claim7 := { stood := { row := capsChainRow, standIns := [], harness := (true, "2b6aa8c52f26a36866b589049fd1d65802bdae42632cc16d24d227b9428605b6"), looks := true }, kinds := [], alts := [], laidByText := true, laidKinds := [.handle], laidTests := true, laidLooks := .later }
def CapsChainCardSaid : Prop := Claim7.holds Tryz.pinned (.plain (OpenSpec.ofChange capsChainSpec)) capsChainCard

/-- THE TIED CARD OF 'messuagelaw11.CapsFan'. -/
def capsFanCard : Claim7 := { stood := { row := capsFanRow, standIns := [], harness := (true, "2b6aa8c52f26a36866b589049fd1d65802bdae42632cc16d24d227b9428605b6"), looks := true }, kinds := [], alts := [], laidByText := true, laidKinds := [.handle], laidTests := true, laidLooks := .later }
def CapsFanCardSaid : Prop := Claim7.holds Tryz.pinned (.plain (OpenSpec.ofChange capsFanSpec)) capsFanCard

/-- THE TIED CARD OF 'messuagelaw11.PredAll'. -/
def predAllCard : Claim7 := { stood := { row := predAllRow, standIns := [], harness := (true, "2b6aa8c52f26a36866b589049fd1d65802bdae42632cc16d24d227b9428605b6"), looks := true }, kinds := [], alts := [], laidByText := true, laidKinds := [.handle], laidTests := true, laidLooks := .later }
def PredAllCardSaid : Prop := Claim7.holds Tryz.pinned (.plain (OpenSpec.ofChange predAllSpec)) predAllCard

/-- THE TIED CARD OF 'messuagelaw11.UserAll'. -/
def userAllCard : Claim7 := { stood := { row := userAllRow, standIns := [], harness := (true, "2b6aa8c52f26a36866b589049fd1d65802bdae42632cc16d24d227b9428605b6"), looks := true }, kinds := [], alts := [], laidByText := true, laidKinds := [.handle], laidTests := true, laidLooks := .later }
def UserAllCardSaid : Prop := Claim7.holds Tryz.pinned (.plain (OpenSpec.ofChange userAllSpec)) userAllCard

/-- THE SECOND FORM's CARD OF 'messuagelaw11.UserWalk'. -/
def userWalkUptoCard : Claim7 := { stood := { row := userWalkUptoRow, standIns := [], harness := (true, "2b6aa8c52f26a36866b589049fd1d65802bdae42632cc16d24d227b9428605b6"), looks := true }, kinds := [], alts := [], laidByText := true, laidKinds := [.handle], laidTests := true, laidLooks := .later }
def UserWalkUptoCardSaid : Prop := Claim7.holds Tryz.pinned (.plain (OpenSpec.upto userWalkSpec)) userWalkUptoCard

/-- THE SECOND FORM's CARD OF 'messuagelaw11.CapsRights'. -/
def capsRightsUptoCard : Claim7 := { stood := { row := capsRightsUptoRow, standIns := [], harness := (true, "2b6aa8c52f26a36866b589049fd1d65802bdae42632cc16d24d227b9428605b6"), looks := true }, kinds := [], alts := [], laidByText := true, laidKinds := [.handle], laidTests := true, laidLooks := .later }
def CapsRightsUptoCardSaid : Prop := Claim7.holds Tryz.pinned (.plain (OpenSpec.upto capsRightsSpec)) capsRightsUptoCard

/-- THE SECOND FORM's CARD OF 'messuagelaw11.EpochAck'. -/
def epochAckUptoCard : Claim7 := { stood := { row := epochAckUptoRow, standIns := [], harness := (true, "2b6aa8c52f26a36866b589049fd1d65802bdae42632cc16d24d227b9428605b6"), looks := true }, kinds := [], alts := [], laidByText := true, laidKinds := [.handle], laidTests := true, laidLooks := .later }
def EpochAckUptoCardSaid : Prop := Claim7.holds Tryz.pinned (.plain (OpenSpec.upto epochAckSpec)) epochAckUptoCard

/-- THE SECOND FORM's CARD OF 'messuagelaw11.UserStale'. -/
def userStaleUptoCard : Claim7 := { stood := { row := userStaleUptoRow, standIns := [], harness := (true, "2b6aa8c52f26a36866b589049fd1d65802bdae42632cc16d24d227b9428605b6"), looks := true }, kinds := [], alts := [], laidByText := true, laidKinds := [.handle], laidTests := true, laidLooks := .later }
def UserStaleUptoCardSaid : Prop := Claim7.holds Tryz.pinned (.plain (OpenSpec.upto userStaleSpec)) userStaleUptoCard

/-- THE SECOND FORM's CARD OF 'messuagelaw11.UserMore'. -/
def userMoreUptoCard : Claim7 := { stood := { row := userMoreUptoRow, standIns := [], harness := (true, "2b6aa8c52f26a36866b589049fd1d65802bdae42632cc16d24d227b9428605b6"), looks := true }, kinds := [], alts := [], laidByText := true, laidKinds := [.handle], laidTests := true, laidLooks := .later }
def UserMoreUptoCardSaid : Prop := Claim7.holds Tryz.pinned (.plain (OpenSpec.upto userMoreSpec)) userMoreUptoCard

/-- THE SECOND FORM's CARD OF 'messuagelaw11.UserKinds'. -/
def userKindsUptoCard : Claim7 := { stood := { row := userKindsUptoRow, standIns := [], harness := (true, "2b6aa8c52f26a36866b589049fd1d65802bdae42632cc16d24d227b9428605b6"), looks := true }, kinds := [], alts := [], laidByText := true, laidKinds := [.handle], laidTests := true, laidLooks := .later }
def UserKindsUptoCardSaid : Prop := Claim7.holds Tryz.pinned (.plain (OpenSpec.upto userKindsSpec)) userKindsUptoCard

/-- THE SECOND FORM's CARD OF 'messuagelaw11.EpochMany'. -/
def epochManyUptoCard : Claim7 := { stood := { row := epochManyUptoRow, standIns := [], harness := (true, "2b6aa8c52f26a36866b589049fd1d65802bdae42632cc16d24d227b9428605b6"), looks := true }, kinds := [], alts := [], laidByText := true, laidKinds := [.handle], laidTests := true, laidLooks := .later }
def EpochManyUptoCardSaid : Prop := Claim7.holds Tryz.pinned (.plain (OpenSpec.upto epochManySpec)) epochManyUptoCard

/-- THE SECOND FORM's CARD OF 'messuagelaw11.CapsAll'. -/
def capsAllUptoCard : Claim7 := { stood := { row := capsAllUptoRow, standIns := [], harness := (true, "2b6aa8c52f26a36866b589049fd1d65802bdae42632cc16d24d227b9428605b6"), looks := true }, kinds := [], alts := [], laidByText := true, laidKinds := [.handle], laidTests := true, laidLooks := .later }
def CapsAllUptoCardSaid : Prop := Claim7.holds Tryz.pinned (.plain (OpenSpec.upto capsAllSpec)) capsAllUptoCard

/-- THE SECOND FORM's CARD OF 'messuagelaw11.CapsChain'. -/
def capsChainUptoCard : Claim7 := { stood := { row := capsChainUptoRow, standIns := [], harness := (true, "2b6aa8c52f26a36866b589049fd1d65802bdae42632cc16d24d227b9428605b6"), looks := true }, kinds := [], alts := [], laidByText := true, laidKinds := [.handle], laidTests := true, laidLooks := .later }
def CapsChainUptoCardSaid : Prop := Claim7.holds Tryz.pinned (.plain (OpenSpec.upto capsChainSpec)) capsChainUptoCard

/-- THE SECOND FORM's CARD OF 'messuagelaw11.CapsFan'. -/
def capsFanUptoCard : Claim7 := { stood := { row := capsFanUptoRow, standIns := [], harness := (true, "2b6aa8c52f26a36866b589049fd1d65802bdae42632cc16d24d227b9428605b6"), looks := true }, kinds := [], alts := [], laidByText := true, laidKinds := [.handle], laidTests := true, laidLooks := .later }
def CapsFanUptoCardSaid : Prop := Claim7.holds Tryz.pinned (.plain (OpenSpec.upto capsFanSpec)) capsFanUptoCard

/-- THE SECOND FORM's CARD OF 'messuagelaw11.PredAll'. -/
def predAllUptoCard : Claim7 := { stood := { row := predAllUptoRow, standIns := [], harness := (true, "2b6aa8c52f26a36866b589049fd1d65802bdae42632cc16d24d227b9428605b6"), looks := true }, kinds := [], alts := [], laidByText := true, laidKinds := [.handle], laidTests := true, laidLooks := .later }
def PredAllUptoCardSaid : Prop := Claim7.holds Tryz.pinned (.plain (OpenSpec.upto predAllSpec)) predAllUptoCard

/-- THE SECOND FORM's CARD OF 'messuagelaw11.UserAll'. -/
def userAllUptoCard : Claim7 := { stood := { row := userAllUptoRow, standIns := [], harness := (true, "2b6aa8c52f26a36866b589049fd1d65802bdae42632cc16d24d227b9428605b6"), looks := true }, kinds := [], alts := [], laidByText := true, laidKinds := [.handle], laidTests := true, laidLooks := .later }
def UserAllUptoCardSaid : Prop := Claim7.holds Tryz.pinned (.plain (OpenSpec.upto userAllSpec)) userAllUptoCard
end Rows
end Go.Proofs.YtegeplgckfpleaaGreatDoor
