/-
  DERIVED. GIVEN WITH THE SEED: THE CARDS: each row of YtmpclgepoemneaaDoorRows.lean that lists a variable, with what it lists TIED to the program's text (the seventh form; the later family's looks); each row that meets fmt, with fmt's text TOLD by the authors' own Lean function (tested against real Go, not proved from fmt's source: count such statements apart). THE CARD IS WHAT COUNTS. Prove the row's statement (the work); the ties are given (YtmpclgepoemneaaDoorTie.lean); close each card by the builder's one call (the guide's Derived/Test/ToyasCard.lean, 'card_holds'). Laid BY PROGRAM, IN A SANDBOX (cutbox-door.mjs). By AI agents, Wed Nov 11 2026. No macro, syntax, notation, axiom, sorry.
-/
import Derived.Test.YtmpclgepoemneaaDoorRows
import GoSem.ClaimSeven
namespace Go.Proofs.YtmpclgepoemneaaDoor
namespace Rows

/-- THE TIED CARD OF 'huerlaw01.CryWheres'. -/
def cryWheresCard : Claim7 := { stood := { row := cryWheresRow, standIns := [], harness := (true, "a295f3d41a3336ae29b1d144df0a3d78aff5507084b6b76102d477d2dd98ad5d"), looks := false }, kinds := [], alts := [], laidByText := true, laidKinds := [.funcs], laidTests := true, laidLooks := .later }
def CryWheresCardSaid : Prop := Claim7.holds Tryd.pinned (.plain (OpenSpec.ofChange cryWheresSpec)) cryWheresCard

/-- THE TIED CARD OF 'huerlaw01.CryShots'. -/
def cryShotsCard : Claim7 := { stood := { row := cryShotsRow, standIns := [], harness := (true, "a295f3d41a3336ae29b1d144df0a3d78aff5507084b6b76102d477d2dd98ad5d"), looks := false }, kinds := [], alts := [], laidByText := true, laidKinds := [.funcs], laidTests := true, laidLooks := .later }
def CryShotsCardSaid : Prop := Claim7.holds Tryd.pinned (.plain (OpenSpec.ofChange cryShotsSpec)) cryShotsCard

/-- THE TIED CARD OF 'huerlaw01.CryWrongs'. -/
def cryWrongsCard : Claim7 := { stood := { row := cryWrongsRow, standIns := [], harness := (true, "a295f3d41a3336ae29b1d144df0a3d78aff5507084b6b76102d477d2dd98ad5d"), looks := false }, kinds := [], alts := [], laidByText := true, laidKinds := [.funcs], laidTests := true, laidLooks := .later }
def CryWrongsCardSaid : Prop := Claim7.holds Tryd.pinned (.plain (OpenSpec.ofChange cryWrongsSpec)) cryWrongsCard

/-- THE TIED CARD OF 'huerlaw01.CryTrue'. -/
def cryTrueCard : Claim7 := { stood := { row := cryTrueRow, standIns := [], harness := (true, "a295f3d41a3336ae29b1d144df0a3d78aff5507084b6b76102d477d2dd98ad5d"), looks := false }, kinds := [], alts := [], laidByText := true, laidKinds := [.funcs], laidTests := true, laidLooks := .later }
def CryTrueCardSaid : Prop := Claim7.holds Tryd.pinned (.plain (OpenSpec.ofChange cryTrueSpec)) cryTrueCard

/-- THE TIED CARD OF 'huerlaw01.CryMore'. -/
def cryMoreCard : Claim7 := { stood := { row := cryMoreRow, standIns := [], harness := (true, "a295f3d41a3336ae29b1d144df0a3d78aff5507084b6b76102d477d2dd98ad5d"), looks := false }, kinds := [], alts := [], laidByText := true, laidKinds := [.funcs], laidTests := true, laidLooks := .later }
def CryMoreCardSaid : Prop := Claim7.holds Tryd.pinned (.plain (OpenSpec.ofChange cryMoreSpec)) cryMoreCard

/-- THE TIED CARD OF 'huerlaw01.CrySwims'. -/
def crySwimsCard : Claim7 := { stood := { row := crySwimsRow, standIns := [], harness := (true, "a295f3d41a3336ae29b1d144df0a3d78aff5507084b6b76102d477d2dd98ad5d"), looks := false }, kinds := [], alts := [], laidByText := true, laidKinds := [.funcs], laidTests := true, laidLooks := .later }
def CrySwimsCardSaid : Prop := Claim7.holds Tryd.pinned (.plain (OpenSpec.ofChange crySwimsSpec)) crySwimsCard

/-- THE TIED CARD OF 'huerlaw01.CryShot'. -/
def cryShotCard : Claim7 := { stood := { row := cryShotRow, standIns := [], harness := (true, "a295f3d41a3336ae29b1d144df0a3d78aff5507084b6b76102d477d2dd98ad5d"), looks := false }, kinds := [], alts := [], laidByText := true, laidKinds := [.funcs], laidTests := true, laidLooks := .later }
def CryShotCardSaid : Prop := Claim7.holds Tryd.pinned (.plain (OpenSpec.ofChange cryShotSpec)) cryShotCard

/-- THE TIED CARD OF 'huerlaw01.CryBoth'. -/
def cryBothCard : Claim7 := { stood := { row := cryBothRow, standIns := [], harness := (true, "a295f3d41a3336ae29b1d144df0a3d78aff5507084b6b76102d477d2dd98ad5d"), looks := false }, kinds := [], alts := [], laidByText := true, laidKinds := [.funcs], laidTests := true, laidLooks := .later }
def CryBothCardSaid : Prop := Claim7.holds Tryd.pinned (.plain (OpenSpec.ofChange cryBothSpec)) cryBothCard

/-- THE TIED CARD OF 'huerlaw01.CryMirror'. -/
def cryMirrorCard : Claim7 := { stood := { row := cryMirrorRow, standIns := [], harness := (true, "a295f3d41a3336ae29b1d144df0a3d78aff5507084b6b76102d477d2dd98ad5d"), looks := false }, kinds := [], alts := [], laidByText := true, laidKinds := [.funcs], laidTests := true, laidLooks := .later }
def CryMirrorCardSaid : Prop := Claim7.holds Tryd.pinned (.plain (OpenSpec.ofChange cryMirrorSpec)) cryMirrorCard

/-- THE TIED CARD OF 'huerlaw01.CryOpen'. -/
def cryOpenCard : Claim7 := { stood := { row := cryOpenRow, standIns := [], harness := (true, "a295f3d41a3336ae29b1d144df0a3d78aff5507084b6b76102d477d2dd98ad5d"), looks := false }, kinds := [], alts := [], laidByText := true, laidKinds := [.funcs], laidTests := true, laidLooks := .later }
def CryOpenCardSaid : Prop := Claim7.holds Tryd.pinned (.plain (OpenSpec.ofChange cryOpenSpec)) cryOpenCard

/-- THE TIED CARD OF 'huerlaw01.CryWrong'. -/
def cryWrongCard : Claim7 := { stood := { row := cryWrongRow, standIns := [], harness := (true, "a295f3d41a3336ae29b1d144df0a3d78aff5507084b6b76102d477d2dd98ad5d"), looks := false }, kinds := [], alts := [], laidByText := true, laidKinds := [.funcs], laidTests := true, laidLooks := .later }
def CryWrongCardSaid : Prop := Claim7.holds Tryd.pinned (.plain (OpenSpec.ofChange cryWrongSpec)) cryWrongCard

/-- THE TIED CARD OF 'huerlaw01.CryKnown'. -/
def cryKnownCard : Claim7 := { stood := { row := cryKnownRow, standIns := [], harness := (true, "a295f3d41a3336ae29b1d144df0a3d78aff5507084b6b76102d477d2dd98ad5d"), looks := false }, kinds := [], alts := [], laidByText := true, laidKinds := [.funcs], laidTests := true, laidLooks := .later }
def CryKnownCardSaid : Prop := Claim7.holds Tryd.pinned (.plain (OpenSpec.ofChange cryKnownSpec)) cryKnownCard

/-- THE SECOND FORM's CARD OF 'huerlaw01.CryWheres'. -/
def cryWheresUptoCard : Claim7 := { stood := { row := cryWheresUptoRow, standIns := [], harness := (true, "a295f3d41a3336ae29b1d144df0a3d78aff5507084b6b76102d477d2dd98ad5d"), looks := false }, kinds := [], alts := [], laidByText := true, laidKinds := [.funcs], laidTests := true, laidLooks := .later }
def CryWheresUptoCardSaid : Prop := Claim7.holds Tryd.pinned (.plain (OpenSpec.upto cryWheresSpec)) cryWheresUptoCard

/-- THE SECOND FORM's CARD OF 'huerlaw01.CryShots'. -/
def cryShotsUptoCard : Claim7 := { stood := { row := cryShotsUptoRow, standIns := [], harness := (true, "a295f3d41a3336ae29b1d144df0a3d78aff5507084b6b76102d477d2dd98ad5d"), looks := false }, kinds := [], alts := [], laidByText := true, laidKinds := [.funcs], laidTests := true, laidLooks := .later }
def CryShotsUptoCardSaid : Prop := Claim7.holds Tryd.pinned (.plain (OpenSpec.upto cryShotsSpec)) cryShotsUptoCard

/-- THE SECOND FORM's CARD OF 'huerlaw01.CryWrongs'. -/
def cryWrongsUptoCard : Claim7 := { stood := { row := cryWrongsUptoRow, standIns := [], harness := (true, "a295f3d41a3336ae29b1d144df0a3d78aff5507084b6b76102d477d2dd98ad5d"), looks := false }, kinds := [], alts := [], laidByText := true, laidKinds := [.funcs], laidTests := true, laidLooks := .later }
def CryWrongsUptoCardSaid : Prop := Claim7.holds Tryd.pinned (.plain (OpenSpec.upto cryWrongsSpec)) cryWrongsUptoCard

/-- THE SECOND FORM's CARD OF 'huerlaw01.CryTrue'. -/
def cryTrueUptoCard : Claim7 := { stood := { row := cryTrueUptoRow, standIns := [], harness := (true, "a295f3d41a3336ae29b1d144df0a3d78aff5507084b6b76102d477d2dd98ad5d"), looks := false }, kinds := [], alts := [], laidByText := true, laidKinds := [.funcs], laidTests := true, laidLooks := .later }
def CryTrueUptoCardSaid : Prop := Claim7.holds Tryd.pinned (.plain (OpenSpec.upto cryTrueSpec)) cryTrueUptoCard

/-- THE SECOND FORM's CARD OF 'huerlaw01.CryMore'. -/
def cryMoreUptoCard : Claim7 := { stood := { row := cryMoreUptoRow, standIns := [], harness := (true, "a295f3d41a3336ae29b1d144df0a3d78aff5507084b6b76102d477d2dd98ad5d"), looks := false }, kinds := [], alts := [], laidByText := true, laidKinds := [.funcs], laidTests := true, laidLooks := .later }
def CryMoreUptoCardSaid : Prop := Claim7.holds Tryd.pinned (.plain (OpenSpec.upto cryMoreSpec)) cryMoreUptoCard

/-- THE SECOND FORM's CARD OF 'huerlaw01.CrySwims'. -/
def crySwimsUptoCard : Claim7 := { stood := { row := crySwimsUptoRow, standIns := [], harness := (true, "a295f3d41a3336ae29b1d144df0a3d78aff5507084b6b76102d477d2dd98ad5d"), looks := false }, kinds := [], alts := [], laidByText := true, laidKinds := [.funcs], laidTests := true, laidLooks := .later }
def CrySwimsUptoCardSaid : Prop := Claim7.holds Tryd.pinned (.plain (OpenSpec.upto crySwimsSpec)) crySwimsUptoCard

/-- THE SECOND FORM's CARD OF 'huerlaw01.CryShot'. -/
def cryShotUptoCard : Claim7 := { stood := { row := cryShotUptoRow, standIns := [], harness := (true, "a295f3d41a3336ae29b1d144df0a3d78aff5507084b6b76102d477d2dd98ad5d"), looks := false }, kinds := [], alts := [], laidByText := true, laidKinds := [.funcs], laidTests := true, laidLooks := .later }
def CryShotUptoCardSaid : Prop := Claim7.holds Tryd.pinned (.plain (OpenSpec.upto cryShotSpec)) cryShotUptoCard

/-- THE SECOND FORM's CARD OF 'huerlaw01.CryBoth'. -/
def cryBothUptoCard : Claim7 := { stood := { row := cryBothUptoRow, standIns := [], harness := (true, "a295f3d41a3336ae29b1d144df0a3d78aff5507084b6b76102d477d2dd98ad5d"), looks := false }, kinds := [], alts := [], laidByText := true, laidKinds := [.funcs], laidTests := true, laidLooks := .later }
def CryBothUptoCardSaid : Prop := Claim7.holds Tryd.pinned (.plain (OpenSpec.upto cryBothSpec)) cryBothUptoCard

/-- THE SECOND FORM's CARD OF 'huerlaw01.CryMirror'. -/
def cryMirrorUptoCard : Claim7 := { stood := { row := cryMirrorUptoRow, standIns := [], harness := (true, "a295f3d41a3336ae29b1d144df0a3d78aff5507084b6b76102d477d2dd98ad5d"), looks := false }, kinds := [], alts := [], laidByText := true, laidKinds := [.funcs], laidTests := true, laidLooks := .later }
def CryMirrorUptoCardSaid : Prop := Claim7.holds Tryd.pinned (.plain (OpenSpec.upto cryMirrorSpec)) cryMirrorUptoCard

/-- THE SECOND FORM's CARD OF 'huerlaw01.CryOpen'. -/
def cryOpenUptoCard : Claim7 := { stood := { row := cryOpenUptoRow, standIns := [], harness := (true, "a295f3d41a3336ae29b1d144df0a3d78aff5507084b6b76102d477d2dd98ad5d"), looks := false }, kinds := [], alts := [], laidByText := true, laidKinds := [.funcs], laidTests := true, laidLooks := .later }
def CryOpenUptoCardSaid : Prop := Claim7.holds Tryd.pinned (.plain (OpenSpec.upto cryOpenSpec)) cryOpenUptoCard

/-- THE SECOND FORM's CARD OF 'huerlaw01.CryWrong'. -/
def cryWrongUptoCard : Claim7 := { stood := { row := cryWrongUptoRow, standIns := [], harness := (true, "a295f3d41a3336ae29b1d144df0a3d78aff5507084b6b76102d477d2dd98ad5d"), looks := false }, kinds := [], alts := [], laidByText := true, laidKinds := [.funcs], laidTests := true, laidLooks := .later }
def CryWrongUptoCardSaid : Prop := Claim7.holds Tryd.pinned (.plain (OpenSpec.upto cryWrongSpec)) cryWrongUptoCard

/-- THE SECOND FORM's CARD OF 'huerlaw01.CryKnown'. -/
def cryKnownUptoCard : Claim7 := { stood := { row := cryKnownUptoRow, standIns := [], harness := (true, "a295f3d41a3336ae29b1d144df0a3d78aff5507084b6b76102d477d2dd98ad5d"), looks := false }, kinds := [], alts := [], laidByText := true, laidKinds := [.funcs], laidTests := true, laidLooks := .later }
def CryKnownUptoCardSaid : Prop := Claim7.holds Tryd.pinned (.plain (OpenSpec.upto cryKnownSpec)) cryKnownUptoCard
end Rows
end Go.Proofs.YtmpclgepoemneaaDoor
