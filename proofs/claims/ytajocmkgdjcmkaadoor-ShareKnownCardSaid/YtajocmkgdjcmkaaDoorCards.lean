/-
  DERIVED. GIVEN WITH THE SEED: THE CARDS: each row of YtajocmkgdjcmkaaDoorRows.lean that lists a variable, with what it lists TIED to the program's text (the seventh form; the later family's looks); each row that meets fmt, with fmt's text TOLD by the authors' own Lean function (tested against real Go, not proved from fmt's source: count such statements apart). THE CARD IS WHAT COUNTS. Prove the row's statement (the work); the ties are given (YtajocmkgdjcmkaaDoorTie.lean); close each card by the builder's one call (the guide's Derived/Test/ToyasCard.lean, 'card_holds'). Laid BY PROGRAM, IN A SANDBOX (cutbox-door.mjs). By AI agents, Wed Nov 11 2026. No macro, syntax, notation, axiom, sorry.
-/
import Derived.Test.YtajocmkgdjcmkaaDoorRows
import GoSem.ClaimSeven
namespace Go.Proofs.YtajocmkgdjcmkaaDoor
namespace Rows

/-- THE TIED CARD OF 'huerlaw08.ShareOrders'. -/
def shareOrdersCard : Claim7 := { stood := { row := shareOrdersRow, standIns := [], harness := (true, "20f1c602cb67beb356386abafac1584e779a842966ecefc0422132f633c95df5"), looks := false }, kinds := [], alts := [], laidByText := true, laidKinds := [.funcs], laidTests := true, laidLooks := .later }
def ShareOrdersCardSaid : Prop := Claim7.holds Tryd.pinned (.plain (OpenSpec.ofChange shareOrdersSpec)) shareOrdersCard

/-- THE TIED CARD OF 'huerlaw08.SharePays'. -/
def sharePaysCard : Claim7 := { stood := { row := sharePaysRow, standIns := [], harness := (true, "20f1c602cb67beb356386abafac1584e779a842966ecefc0422132f633c95df5"), looks := false }, kinds := [], alts := [], laidByText := true, laidKinds := [.funcs], laidTests := true, laidLooks := .later }
def SharePaysCardSaid : Prop := Claim7.holds Tryd.pinned (.plain (OpenSpec.ofChange sharePaysSpec)) sharePaysCard

/-- THE TIED CARD OF 'huerlaw08.ShareAsks'. -/
def shareAsksCard : Claim7 := { stood := { row := shareAsksRow, standIns := [], harness := (true, "20f1c602cb67beb356386abafac1584e779a842966ecefc0422132f633c95df5"), looks := false }, kinds := [], alts := [], laidByText := true, laidKinds := [.funcs], laidTests := true, laidLooks := .later }
def ShareAsksCardSaid : Prop := Claim7.holds Tryd.pinned (.plain (OpenSpec.ofChange shareAsksSpec)) shareAsksCard

/-- THE TIED CARD OF 'huerlaw08.ShareTrue'. -/
def shareTrueCard : Claim7 := { stood := { row := shareTrueRow, standIns := [], harness := (true, "20f1c602cb67beb356386abafac1584e779a842966ecefc0422132f633c95df5"), looks := false }, kinds := [], alts := [], laidByText := true, laidKinds := [.funcs], laidTests := true, laidLooks := .later }
def ShareTrueCardSaid : Prop := Claim7.holds Tryd.pinned (.plain (OpenSpec.ofChange shareTrueSpec)) shareTrueCard

/-- THE TIED CARD OF 'huerlaw08.ShareOrder'. -/
def shareOrderCard : Claim7 := { stood := { row := shareOrderRow, standIns := [], harness := (true, "20f1c602cb67beb356386abafac1584e779a842966ecefc0422132f633c95df5"), looks := false }, kinds := [], alts := [], laidByText := true, laidKinds := [.funcs], laidTests := true, laidLooks := .later }
def ShareOrderCardSaid : Prop := Claim7.holds Tryd.pinned (.plain (OpenSpec.ofChange shareOrderSpec)) shareOrderCard

/-- THE TIED CARD OF 'huerlaw08.ShareAgain'. -/
def shareAgainCard : Claim7 := { stood := { row := shareAgainRow, standIns := [], harness := (true, "20f1c602cb67beb356386abafac1584e779a842966ecefc0422132f633c95df5"), looks := false }, kinds := [], alts := [], laidByText := true, laidKinds := [.funcs], laidTests := true, laidLooks := .later }
def ShareAgainCardSaid : Prop := Claim7.holds Tryd.pinned (.plain (OpenSpec.ofChange shareAgainSpec)) shareAgainCard

/-- THE TIED CARD OF 'huerlaw08.SharePenny'. -/
def sharePennyCard : Claim7 := { stood := { row := sharePennyRow, standIns := [], harness := (true, "20f1c602cb67beb356386abafac1584e779a842966ecefc0422132f633c95df5"), looks := false }, kinds := [], alts := [], laidByText := true, laidKinds := [.funcs], laidTests := true, laidLooks := .later }
def SharePennyCardSaid : Prop := Claim7.holds Tryd.pinned (.plain (OpenSpec.ofChange sharePennySpec)) sharePennyCard

/-- THE TIED CARD OF 'huerlaw08.ShareEnds'. -/
def shareEndsCard : Claim7 := { stood := { row := shareEndsRow, standIns := [], harness := (true, "20f1c602cb67beb356386abafac1584e779a842966ecefc0422132f633c95df5"), looks := false }, kinds := [], alts := [], laidByText := true, laidKinds := [.funcs], laidTests := true, laidLooks := .later }
def ShareEndsCardSaid : Prop := Claim7.holds Tryd.pinned (.plain (OpenSpec.ofChange shareEndsSpec)) shareEndsCard

/-- THE TIED CARD OF 'huerlaw08.ShareWrong'. -/
def shareWrongCard : Claim7 := { stood := { row := shareWrongRow, standIns := [], harness := (true, "20f1c602cb67beb356386abafac1584e779a842966ecefc0422132f633c95df5"), looks := false }, kinds := [], alts := [], laidByText := true, laidKinds := [.funcs], laidTests := true, laidLooks := .later }
def ShareWrongCardSaid : Prop := Claim7.holds Tryd.pinned (.plain (OpenSpec.ofChange shareWrongSpec)) shareWrongCard

/-- THE TIED CARD OF 'huerlaw08.ShareAsk'. -/
def shareAskCard : Claim7 := { stood := { row := shareAskRow, standIns := [], harness := (true, "20f1c602cb67beb356386abafac1584e779a842966ecefc0422132f633c95df5"), looks := false }, kinds := [], alts := [], laidByText := true, laidKinds := [.funcs], laidTests := true, laidLooks := .later }
def ShareAskCardSaid : Prop := Claim7.holds Tryd.pinned (.plain (OpenSpec.ofChange shareAskSpec)) shareAskCard

/-- THE TIED CARD OF 'huerlaw08.ShareKnows'. -/
def shareKnowsCard : Claim7 := { stood := { row := shareKnowsRow, standIns := [], harness := (true, "20f1c602cb67beb356386abafac1584e779a842966ecefc0422132f633c95df5"), looks := false }, kinds := [], alts := [], laidByText := true, laidKinds := [.funcs], laidTests := true, laidLooks := .later }
def ShareKnowsCardSaid : Prop := Claim7.holds Tryd.pinned (.plain (OpenSpec.ofChange shareKnowsSpec)) shareKnowsCard

/-- THE TIED CARD OF 'huerlaw08.ShareKnown'. -/
def shareKnownCard : Claim7 := { stood := { row := shareKnownRow, standIns := [], harness := (true, "20f1c602cb67beb356386abafac1584e779a842966ecefc0422132f633c95df5"), looks := false }, kinds := [], alts := [], laidByText := true, laidKinds := [.funcs], laidTests := true, laidLooks := .later }
def ShareKnownCardSaid : Prop := Claim7.holds Tryd.pinned (.plain (OpenSpec.ofChange shareKnownSpec)) shareKnownCard

/-- THE SECOND FORM's CARD OF 'huerlaw08.ShareOrders'. -/
def shareOrdersUptoCard : Claim7 := { stood := { row := shareOrdersUptoRow, standIns := [], harness := (true, "20f1c602cb67beb356386abafac1584e779a842966ecefc0422132f633c95df5"), looks := false }, kinds := [], alts := [], laidByText := true, laidKinds := [.funcs], laidTests := true, laidLooks := .later }
def ShareOrdersUptoCardSaid : Prop := Claim7.holds Tryd.pinned (.plain (OpenSpec.upto shareOrdersSpec)) shareOrdersUptoCard

/-- THE SECOND FORM's CARD OF 'huerlaw08.SharePays'. -/
def sharePaysUptoCard : Claim7 := { stood := { row := sharePaysUptoRow, standIns := [], harness := (true, "20f1c602cb67beb356386abafac1584e779a842966ecefc0422132f633c95df5"), looks := false }, kinds := [], alts := [], laidByText := true, laidKinds := [.funcs], laidTests := true, laidLooks := .later }
def SharePaysUptoCardSaid : Prop := Claim7.holds Tryd.pinned (.plain (OpenSpec.upto sharePaysSpec)) sharePaysUptoCard

/-- THE SECOND FORM's CARD OF 'huerlaw08.ShareAsks'. -/
def shareAsksUptoCard : Claim7 := { stood := { row := shareAsksUptoRow, standIns := [], harness := (true, "20f1c602cb67beb356386abafac1584e779a842966ecefc0422132f633c95df5"), looks := false }, kinds := [], alts := [], laidByText := true, laidKinds := [.funcs], laidTests := true, laidLooks := .later }
def ShareAsksUptoCardSaid : Prop := Claim7.holds Tryd.pinned (.plain (OpenSpec.upto shareAsksSpec)) shareAsksUptoCard

/-- THE SECOND FORM's CARD OF 'huerlaw08.ShareTrue'. -/
def shareTrueUptoCard : Claim7 := { stood := { row := shareTrueUptoRow, standIns := [], harness := (true, "20f1c602cb67beb356386abafac1584e779a842966ecefc0422132f633c95df5"), looks := false }, kinds := [], alts := [], laidByText := true, laidKinds := [.funcs], laidTests := true, laidLooks := .later }
def ShareTrueUptoCardSaid : Prop := Claim7.holds Tryd.pinned (.plain (OpenSpec.upto shareTrueSpec)) shareTrueUptoCard

/-- THE SECOND FORM's CARD OF 'huerlaw08.ShareOrder'. -/
def shareOrderUptoCard : Claim7 := { stood := { row := shareOrderUptoRow, standIns := [], harness := (true, "20f1c602cb67beb356386abafac1584e779a842966ecefc0422132f633c95df5"), looks := false }, kinds := [], alts := [], laidByText := true, laidKinds := [.funcs], laidTests := true, laidLooks := .later }
def ShareOrderUptoCardSaid : Prop := Claim7.holds Tryd.pinned (.plain (OpenSpec.upto shareOrderSpec)) shareOrderUptoCard

/-- THE SECOND FORM's CARD OF 'huerlaw08.ShareAgain'. -/
def shareAgainUptoCard : Claim7 := { stood := { row := shareAgainUptoRow, standIns := [], harness := (true, "20f1c602cb67beb356386abafac1584e779a842966ecefc0422132f633c95df5"), looks := false }, kinds := [], alts := [], laidByText := true, laidKinds := [.funcs], laidTests := true, laidLooks := .later }
def ShareAgainUptoCardSaid : Prop := Claim7.holds Tryd.pinned (.plain (OpenSpec.upto shareAgainSpec)) shareAgainUptoCard

/-- THE SECOND FORM's CARD OF 'huerlaw08.SharePenny'. -/
def sharePennyUptoCard : Claim7 := { stood := { row := sharePennyUptoRow, standIns := [], harness := (true, "20f1c602cb67beb356386abafac1584e779a842966ecefc0422132f633c95df5"), looks := false }, kinds := [], alts := [], laidByText := true, laidKinds := [.funcs], laidTests := true, laidLooks := .later }
def SharePennyUptoCardSaid : Prop := Claim7.holds Tryd.pinned (.plain (OpenSpec.upto sharePennySpec)) sharePennyUptoCard

/-- THE SECOND FORM's CARD OF 'huerlaw08.ShareEnds'. -/
def shareEndsUptoCard : Claim7 := { stood := { row := shareEndsUptoRow, standIns := [], harness := (true, "20f1c602cb67beb356386abafac1584e779a842966ecefc0422132f633c95df5"), looks := false }, kinds := [], alts := [], laidByText := true, laidKinds := [.funcs], laidTests := true, laidLooks := .later }
def ShareEndsUptoCardSaid : Prop := Claim7.holds Tryd.pinned (.plain (OpenSpec.upto shareEndsSpec)) shareEndsUptoCard

/-- THE SECOND FORM's CARD OF 'huerlaw08.ShareWrong'. -/
def shareWrongUptoCard : Claim7 := { stood := { row := shareWrongUptoRow, standIns := [], harness := (true, "20f1c602cb67beb356386abafac1584e779a842966ecefc0422132f633c95df5"), looks := false }, kinds := [], alts := [], laidByText := true, laidKinds := [.funcs], laidTests := true, laidLooks := .later }
def ShareWrongUptoCardSaid : Prop := Claim7.holds Tryd.pinned (.plain (OpenSpec.upto shareWrongSpec)) shareWrongUptoCard

/-- THE SECOND FORM's CARD OF 'huerlaw08.ShareAsk'. -/
def shareAskUptoCard : Claim7 := { stood := { row := shareAskUptoRow, standIns := [], harness := (true, "20f1c602cb67beb356386abafac1584e779a842966ecefc0422132f633c95df5"), looks := false }, kinds := [], alts := [], laidByText := true, laidKinds := [.funcs], laidTests := true, laidLooks := .later }
def ShareAskUptoCardSaid : Prop := Claim7.holds Tryd.pinned (.plain (OpenSpec.upto shareAskSpec)) shareAskUptoCard

/-- THE SECOND FORM's CARD OF 'huerlaw08.ShareKnows'. -/
def shareKnowsUptoCard : Claim7 := { stood := { row := shareKnowsUptoRow, standIns := [], harness := (true, "20f1c602cb67beb356386abafac1584e779a842966ecefc0422132f633c95df5"), looks := false }, kinds := [], alts := [], laidByText := true, laidKinds := [.funcs], laidTests := true, laidLooks := .later }
def ShareKnowsUptoCardSaid : Prop := Claim7.holds Tryd.pinned (.plain (OpenSpec.upto shareKnowsSpec)) shareKnowsUptoCard

/-- THE SECOND FORM's CARD OF 'huerlaw08.ShareKnown'. -/
def shareKnownUptoCard : Claim7 := { stood := { row := shareKnownUptoRow, standIns := [], harness := (true, "20f1c602cb67beb356386abafac1584e779a842966ecefc0422132f633c95df5"), looks := false }, kinds := [], alts := [], laidByText := true, laidKinds := [.funcs], laidTests := true, laidLooks := .later }
def ShareKnownUptoCardSaid : Prop := Claim7.holds Tryd.pinned (.plain (OpenSpec.upto shareKnownSpec)) shareKnownUptoCard
end Rows
end Go.Proofs.YtajocmkgdjcmkaaDoor
