/-
  DERIVED. GIVEN WITH THE SEED: THE CARDS: each row of YtgkinefofnlnlaaDoorRows.lean that lists a variable, with what it lists TIED to the program's text (the seventh form; the later family's looks); each row that meets fmt, with fmt's text TOLD by the authors' own Lean function (tested against real Go, not proved from fmt's source: count such statements apart). THE CARD IS WHAT COUNTS. Prove the row's statement (the work); the ties are given (YtgkinefofnlnlaaDoorTie.lean); close each card by the builder's one call (the guide's Derived/Test/ToyasCard.lean, 'card_holds'). Laid BY PROGRAM, IN A SANDBOX (cutbox-door.mjs). By AI agents, Wed Nov 11 2026. No macro, syntax, notation, axiom, sorry.
-/
import Derived.Test.YtgkinefofnlnlaaDoorRows
import GoSem.ClaimSeven
namespace Go.Proofs.YtgkinefofnlnlaaDoor
namespace Rows

/-- THE TIED CARD OF 'messuagelaw1.TrapAll'. -/
def trapAllCard : Claim7 := { stood := { row := trapAllRow, standIns := [], harness := (true, "7638421efab938d917ef4a33a3f13491bb579d54ec70411b972aa9fe9f152a7b"), looks := true }, kinds := [], alts := [], laidByText := true, laidKinds := [.handle], laidTests := true, laidLooks := .later }
def TrapAllCardSaid : Prop := Claim7.holds Tryd.pinned (.plain (OpenSpec.ofChange trapAllSpec)) trapAllCard

/-- THE TIED CARD OF 'messuagelaw1.TrapNone'. -/
def trapNoneCard : Claim7 := { stood := { row := trapNoneRow, standIns := [], harness := (true, "7638421efab938d917ef4a33a3f13491bb579d54ec70411b972aa9fe9f152a7b"), looks := true }, kinds := [], alts := [], laidByText := true, laidKinds := [.data, .data, .data, .handle], laidTests := true, laidLooks := .later }
def TrapNoneCardSaid : Prop := Claim7.holds Tryd.pinned (.plain (OpenSpec.ofChange trapNoneSpec)) trapNoneCard

/-- THE TIED CARD OF 'messuagelaw1.TrapOf'. -/
def trapOfCard : Claim7 := { stood := { row := trapOfRow, standIns := [], harness := (true, "7638421efab938d917ef4a33a3f13491bb579d54ec70411b972aa9fe9f152a7b"), looks := true }, kinds := [], alts := [], laidByText := true, laidKinds := [.handle], laidTests := true, laidLooks := .later }
def TrapOfCardSaid : Prop := Claim7.holds Tryd.pinned (.plain (OpenSpec.ofChange trapOfSpec)) trapOfCard

/-- THE TIED CARD OF 'messuagelaw1.TrapAs'. -/
def trapAsCard : Claim7 := { stood := { row := trapAsRow, standIns := [], harness := (true, "7638421efab938d917ef4a33a3f13491bb579d54ec70411b972aa9fe9f152a7b"), looks := true }, kinds := [], alts := [], laidByText := true, laidKinds := [.data, .data, .data, .handle], laidTests := true, laidLooks := .later }
def TrapAsCardSaid : Prop := Claim7.holds Tryd.pinned (.plain (OpenSpec.ofChange trapAsSpec)) trapAsCard

/-- THE TIED CARD OF 'messuagelaw1.TrapWrap'. -/
def trapWrapCard : Claim7 := { stood := { row := trapWrapRow, standIns := [], harness := (true, "7638421efab938d917ef4a33a3f13491bb579d54ec70411b972aa9fe9f152a7b"), looks := true }, kinds := [], alts := [], laidByText := true, laidKinds := [.handle], laidTests := true, laidLooks := .later }
def TrapWrapCardSaid : Prop := Claim7.holds Tryd.pinned (.plain (OpenSpec.ofChange trapWrapSpec)) trapWrapCard

/-- THE TIED CARD OF 'messuagelaw1.TrapOuter'. -/
def trapOuterCard : Claim7 := { stood := { row := trapOuterRow, standIns := [], harness := (true, "7638421efab938d917ef4a33a3f13491bb579d54ec70411b972aa9fe9f152a7b"), looks := true }, kinds := [], alts := [], laidByText := true, laidKinds := [.handle], laidTests := true, laidLooks := .later }
def TrapOuterCardSaid : Prop := Claim7.holds Tryd.pinned (.plain (OpenSpec.ofChange trapOuterSpec)) trapOuterCard

/-- THE TIED CARD OF 'messuagelaw1.TrapJoin'. -/
def trapJoinCard : Claim7 := { stood := { row := trapJoinRow, standIns := [], harness := (true, "7638421efab938d917ef4a33a3f13491bb579d54ec70411b972aa9fe9f152a7b"), looks := true }, kinds := [], alts := [], laidByText := true, laidKinds := [.handle], laidTests := true, laidLooks := .later }
def TrapJoinCardSaid : Prop := Claim7.holds Tryd.pinned (.plain (OpenSpec.ofChange trapJoinSpec)) trapJoinCard

/-- THE TIED CARD OF 'messuagelaw1.TrapOther'. -/
def trapOtherCard : Claim7 := { stood := { row := trapOtherRow, standIns := [], harness := (true, "7638421efab938d917ef4a33a3f13491bb579d54ec70411b972aa9fe9f152a7b"), looks := true }, kinds := [], alts := [], laidByText := true, laidKinds := [.handle], laidTests := true, laidLooks := .later }
def TrapOtherCardSaid : Prop := Claim7.holds Tryd.pinned (.plain (OpenSpec.ofChange trapOtherSpec)) trapOtherCard

/-- THE SECOND FORM's CARD OF 'messuagelaw1.TrapAll'. -/
def trapAllUptoCard : Claim7 := { stood := { row := trapAllUptoRow, standIns := [], harness := (true, "7638421efab938d917ef4a33a3f13491bb579d54ec70411b972aa9fe9f152a7b"), looks := true }, kinds := [], alts := [], laidByText := true, laidKinds := [.handle], laidTests := true, laidLooks := .later }
def TrapAllUptoCardSaid : Prop := Claim7.holds Tryd.pinned (.plain (OpenSpec.upto trapAllSpec)) trapAllUptoCard

/-- THE SECOND FORM's CARD OF 'messuagelaw1.TrapNone'. -/
def trapNoneUptoCard : Claim7 := { stood := { row := trapNoneUptoRow, standIns := [], harness := (true, "7638421efab938d917ef4a33a3f13491bb579d54ec70411b972aa9fe9f152a7b"), looks := true }, kinds := [], alts := [], laidByText := true, laidKinds := [.data, .data, .data, .handle], laidTests := true, laidLooks := .later }
def TrapNoneUptoCardSaid : Prop := Claim7.holds Tryd.pinned (.plain (OpenSpec.upto trapNoneSpec)) trapNoneUptoCard

/-- THE SECOND FORM's CARD OF 'messuagelaw1.TrapOf'. -/
def trapOfUptoCard : Claim7 := { stood := { row := trapOfUptoRow, standIns := [], harness := (true, "7638421efab938d917ef4a33a3f13491bb579d54ec70411b972aa9fe9f152a7b"), looks := true }, kinds := [], alts := [], laidByText := true, laidKinds := [.handle], laidTests := true, laidLooks := .later }
def TrapOfUptoCardSaid : Prop := Claim7.holds Tryd.pinned (.plain (OpenSpec.upto trapOfSpec)) trapOfUptoCard

/-- THE SECOND FORM's CARD OF 'messuagelaw1.TrapAs'. -/
def trapAsUptoCard : Claim7 := { stood := { row := trapAsUptoRow, standIns := [], harness := (true, "7638421efab938d917ef4a33a3f13491bb579d54ec70411b972aa9fe9f152a7b"), looks := true }, kinds := [], alts := [], laidByText := true, laidKinds := [.data, .data, .data, .handle], laidTests := true, laidLooks := .later }
def TrapAsUptoCardSaid : Prop := Claim7.holds Tryd.pinned (.plain (OpenSpec.upto trapAsSpec)) trapAsUptoCard

/-- THE SECOND FORM's CARD OF 'messuagelaw1.TrapWrap'. -/
def trapWrapUptoCard : Claim7 := { stood := { row := trapWrapUptoRow, standIns := [], harness := (true, "7638421efab938d917ef4a33a3f13491bb579d54ec70411b972aa9fe9f152a7b"), looks := true }, kinds := [], alts := [], laidByText := true, laidKinds := [.handle], laidTests := true, laidLooks := .later }
def TrapWrapUptoCardSaid : Prop := Claim7.holds Tryd.pinned (.plain (OpenSpec.upto trapWrapSpec)) trapWrapUptoCard

/-- THE SECOND FORM's CARD OF 'messuagelaw1.TrapOuter'. -/
def trapOuterUptoCard : Claim7 := { stood := { row := trapOuterUptoRow, standIns := [], harness := (true, "7638421efab938d917ef4a33a3f13491bb579d54ec70411b972aa9fe9f152a7b"), looks := true }, kinds := [], alts := [], laidByText := true, laidKinds := [.handle], laidTests := true, laidLooks := .later }
def TrapOuterUptoCardSaid : Prop := Claim7.holds Tryd.pinned (.plain (OpenSpec.upto trapOuterSpec)) trapOuterUptoCard

/-- THE SECOND FORM's CARD OF 'messuagelaw1.TrapJoin'. -/
def trapJoinUptoCard : Claim7 := { stood := { row := trapJoinUptoRow, standIns := [], harness := (true, "7638421efab938d917ef4a33a3f13491bb579d54ec70411b972aa9fe9f152a7b"), looks := true }, kinds := [], alts := [], laidByText := true, laidKinds := [.handle], laidTests := true, laidLooks := .later }
def TrapJoinUptoCardSaid : Prop := Claim7.holds Tryd.pinned (.plain (OpenSpec.upto trapJoinSpec)) trapJoinUptoCard

/-- THE SECOND FORM's CARD OF 'messuagelaw1.TrapOther'. -/
def trapOtherUptoCard : Claim7 := { stood := { row := trapOtherUptoRow, standIns := [], harness := (true, "7638421efab938d917ef4a33a3f13491bb579d54ec70411b972aa9fe9f152a7b"), looks := true }, kinds := [], alts := [], laidByText := true, laidKinds := [.handle], laidTests := true, laidLooks := .later }
def TrapOtherUptoCardSaid : Prop := Claim7.holds Tryd.pinned (.plain (OpenSpec.upto trapOtherSpec)) trapOtherUptoCard
end Rows
end Go.Proofs.YtgkinefofnlnlaaDoor
