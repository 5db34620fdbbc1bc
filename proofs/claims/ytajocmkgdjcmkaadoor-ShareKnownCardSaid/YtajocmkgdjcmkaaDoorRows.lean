/-
  NARROWER THAN 'FOR EVERY INPUT', by the rows' own cells (each row's printed sentence says how): ShareOrders: laid · SharePays: laid · ShareAsks: laid · ShareTrue: laid · ShareOrder: laid · ShareAgain: laid · SharePenny: laid · ShareEnds: laid · ShareWrong: laid · ShareAsk: laid · ShareKnows: laid · ShareKnown: laid.
  DERIVED. THE GIVEN ROWS OF THIS SEAT. 12 by the template 'for every input the law returns true; each argument reads behind the call as it read before'; 0 by the template 'total and deterministic' (their statements: YtajocmkgdjcmkaaDoorTotals.lean).
  GIVEN WITH THE SEED: the statements are not yours to turn. If you find one false, say at which input.
  Laid BY PROGRAM, IN A SANDBOX (cutbox-rows.mjs): the forced cells as the released guide's own fill.sh prints them over the translation 76430ff06f6b148d… (all of the seat's roots in one cut). By AI agents, Wed Nov 11 2026. No macro, syntax, notation, axiom, sorry.
-/
import Derived.Test.YtajocmkgdjcmkaaDoorChecked
import GoSem.Claim
import GoSem.ClaimJoined
import GoSem.ClaimMapViews
import Derived.JoinedTies
import Derived.KernelRfl
namespace Go.Proofs.YtajocmkgdjcmkaaDoor
/- THE CELL 'sum', in the pinned program and in every row, IS THE sha256 OF THE DUMP (.gsa) THAT YtajocmkgdjcmkaaDoorProg.lean LOADS. Nothing in Lean hashes anything: it is a label: what it is worth is what the hold of that sum in a sandbox is worth. -/
noncomputable def Tryd.pinned : Pinned := { name := "ytajocmkgdjcmkaadoor", sum := "76430ff06f6b148d1c2ac7bce48bc7e23dc7a352e0b21bfee925da3f3ca2f2aa", checked := Tryd.checked }
namespace Rows
def none {H : Type} : Left H := { results := [], args := [] }

/- WHAT THE LISTED PACKAGE-LEVEL VARIABLES READ AS WHEN THE CALL BEGINS. Each datum BY PROGRAM (the guide's laid-datum.mjs) off the statement by which the dump's own 'gosem.cut.vars' lays the variable. In a bare row this is a premise. The card (YtajocmkgdjcmkaaDoorCards.lean) ties it to the program's text. -/
def laid_huer_share_kinds {H : Type} : DataW H := .iface "func table" (.agg [.iface "func" (.lit (.string [40, 104, 117, 101, 114, 47, 115, 104, 97, 114, 101, 46, 111, 119, 110, 115, 41, 46, 98, 111, 97, 116, 115])), .iface "func" (.lit (.string [40, 104, 117, 101, 114, 47, 115, 104, 97, 114, 101, 46, 111, 119, 110, 115, 41, 46, 110, 101, 116, 115])), .iface "func" (.lit (.string [40, 104, 117, 101, 114, 47, 115, 104, 97, 114, 101, 46, 111, 119, 110, 115, 41, 46, 109, 101, 110]))])

/-- 'huerlaw08.ShareOrders': WHATEVER THE INPUT: true; the input reads as it did. -/
def shareOrdersSpec : ChangeSpec := { name := "shareOrders", fn := fun _ => fun
  | [d1, d2] => { results := [.lit (.bool true)], args := [d1, d2] }
  | _ => none }
def shareOrdersRow : OpenClaim := { program := "ytajocmkgdjcmkaadoor", sum := "76430ff06f6b148d1c2ac7bce48bc7e23dc7a352e0b21bfee925da3f3ca2f2aa", func := "huer/huerlaw08.ShareOrders", spec := "shareOrders", unfollowed := true, recurses := true, named := ["huer/share.kinds"], plainKeys := false, apart := false, laid := [("huer/share.kinds", laid_huer_share_kinds)] }
def ShareOrdersSaid : Prop := shareOrdersRow.holds Tryd.pinned (OpenSpec.ofChange shareOrdersSpec)

/-- ITS FALSE NEIGHBOUR: 'it returns false'. Refute it at one input. -/
def shareOrdersWrong : ChangeSpec := { name := "shareOrders", fn := fun _ => fun
  | [d1, d2] => { results := [.lit (.bool false)], args := [d1, d2] }
  | _ => none }
def ShareOrdersWrongFalsely : Prop := shareOrdersRow.holds Tryd.pinned (OpenSpec.ofChange shareOrdersWrong)

/-- 'huerlaw08.SharePays': WHATEVER THE INPUT: true; the input reads as it did. -/
def sharePaysSpec : ChangeSpec := { name := "sharePays", fn := fun _ => fun
  | [d1, d2, d3] => { results := [.lit (.bool true)], args := [d1, d2, d3] }
  | _ => none }
def sharePaysRow : OpenClaim := { program := "ytajocmkgdjcmkaadoor", sum := "76430ff06f6b148d1c2ac7bce48bc7e23dc7a352e0b21bfee925da3f3ca2f2aa", func := "huer/huerlaw08.SharePays", spec := "sharePays", unfollowed := true, recurses := true, named := ["huer/share.kinds"], plainKeys := false, apart := false, laid := [("huer/share.kinds", laid_huer_share_kinds)] }
def SharePaysSaid : Prop := sharePaysRow.holds Tryd.pinned (OpenSpec.ofChange sharePaysSpec)

/-- ITS FALSE NEIGHBOUR: 'it returns false'. Refute it at one input. -/
def sharePaysWrong : ChangeSpec := { name := "sharePays", fn := fun _ => fun
  | [d1, d2, d3] => { results := [.lit (.bool false)], args := [d1, d2, d3] }
  | _ => none }
def SharePaysWrongFalsely : Prop := sharePaysRow.holds Tryd.pinned (OpenSpec.ofChange sharePaysWrong)

/-- 'huerlaw08.ShareAsks': WHATEVER THE INPUT: true; the input reads as it did. -/
def shareAsksSpec : ChangeSpec := { name := "shareAsks", fn := fun _ => fun
  | [d] => { results := [.lit (.bool true)], args := [d] }
  | _ => none }
def shareAsksRow : OpenClaim := { program := "ytajocmkgdjcmkaadoor", sum := "76430ff06f6b148d1c2ac7bce48bc7e23dc7a352e0b21bfee925da3f3ca2f2aa", func := "huer/huerlaw08.ShareAsks", spec := "shareAsks", unfollowed := true, recurses := true, named := ["huer/share.kinds"], plainKeys := false, apart := false, laid := [("huer/share.kinds", laid_huer_share_kinds)] }
def ShareAsksSaid : Prop := shareAsksRow.holds Tryd.pinned (OpenSpec.ofChange shareAsksSpec)

/-- ITS FALSE NEIGHBOUR: 'it returns false'. Refute it at one input. -/
def shareAsksWrong : ChangeSpec := { name := "shareAsks", fn := fun _ => fun
  | [d] => { results := [.lit (.bool false)], args := [d] }
  | _ => none }
def ShareAsksWrongFalsely : Prop := shareAsksRow.holds Tryd.pinned (OpenSpec.ofChange shareAsksWrong)

/-- 'huerlaw08.ShareTrue': WHATEVER THE INPUT: true; the input reads as it did. -/
def shareTrueSpec : ChangeSpec := { name := "shareTrue", fn := fun _ => fun
  | [d1, d2] => { results := [.lit (.bool true)], args := [d1, d2] }
  | _ => none }
def shareTrueRow : OpenClaim := { program := "ytajocmkgdjcmkaadoor", sum := "76430ff06f6b148d1c2ac7bce48bc7e23dc7a352e0b21bfee925da3f3ca2f2aa", func := "huer/huerlaw08.ShareTrue", spec := "shareTrue", unfollowed := true, recurses := true, named := ["huer/share.kinds"], plainKeys := false, apart := false, laid := [("huer/share.kinds", laid_huer_share_kinds)] }
def ShareTrueSaid : Prop := shareTrueRow.holds Tryd.pinned (OpenSpec.ofChange shareTrueSpec)

/-- ITS FALSE NEIGHBOUR: 'it returns false'. Refute it at one input. -/
def shareTrueWrong : ChangeSpec := { name := "shareTrue", fn := fun _ => fun
  | [d1, d2] => { results := [.lit (.bool false)], args := [d1, d2] }
  | _ => none }
def ShareTrueWrongFalsely : Prop := shareTrueRow.holds Tryd.pinned (OpenSpec.ofChange shareTrueWrong)

/-- 'huerlaw08.ShareOrder': WHATEVER THE INPUT: true; the input reads as it did. -/
def shareOrderSpec : ChangeSpec := { name := "shareOrder", fn := fun _ => fun
  | [d1, d2] => { results := [.lit (.bool true)], args := [d1, d2] }
  | _ => none }
def shareOrderRow : OpenClaim := { program := "ytajocmkgdjcmkaadoor", sum := "76430ff06f6b148d1c2ac7bce48bc7e23dc7a352e0b21bfee925da3f3ca2f2aa", func := "huer/huerlaw08.ShareOrder", spec := "shareOrder", unfollowed := true, recurses := true, named := ["huer/share.kinds"], plainKeys := false, apart := false, laid := [("huer/share.kinds", laid_huer_share_kinds)] }
def ShareOrderSaid : Prop := shareOrderRow.holds Tryd.pinned (OpenSpec.ofChange shareOrderSpec)

/-- ITS FALSE NEIGHBOUR: 'it returns false'. Refute it at one input. -/
def shareOrderWrong : ChangeSpec := { name := "shareOrder", fn := fun _ => fun
  | [d1, d2] => { results := [.lit (.bool false)], args := [d1, d2] }
  | _ => none }
def ShareOrderWrongFalsely : Prop := shareOrderRow.holds Tryd.pinned (OpenSpec.ofChange shareOrderWrong)

/-- 'huerlaw08.ShareAgain': WHATEVER THE INPUT: true; the input reads as it did. -/
def shareAgainSpec : ChangeSpec := { name := "shareAgain", fn := fun _ => fun
  | [d] => { results := [.lit (.bool true)], args := [d] }
  | _ => none }
def shareAgainRow : OpenClaim := { program := "ytajocmkgdjcmkaadoor", sum := "76430ff06f6b148d1c2ac7bce48bc7e23dc7a352e0b21bfee925da3f3ca2f2aa", func := "huer/huerlaw08.ShareAgain", spec := "shareAgain", unfollowed := true, recurses := true, named := ["huer/share.kinds"], plainKeys := false, apart := false, laid := [("huer/share.kinds", laid_huer_share_kinds)] }
def ShareAgainSaid : Prop := shareAgainRow.holds Tryd.pinned (OpenSpec.ofChange shareAgainSpec)

/-- ITS FALSE NEIGHBOUR: 'it returns false'. Refute it at one input. -/
def shareAgainWrong : ChangeSpec := { name := "shareAgain", fn := fun _ => fun
  | [d] => { results := [.lit (.bool false)], args := [d] }
  | _ => none }
def ShareAgainWrongFalsely : Prop := shareAgainRow.holds Tryd.pinned (OpenSpec.ofChange shareAgainWrong)

/-- 'huerlaw08.SharePenny': WHATEVER THE INPUT: true; the input reads as it did. -/
def sharePennySpec : ChangeSpec := { name := "sharePenny", fn := fun _ => fun
  | [d1, d2] => { results := [.lit (.bool true)], args := [d1, d2] }
  | _ => none }
def sharePennyRow : OpenClaim := { program := "ytajocmkgdjcmkaadoor", sum := "76430ff06f6b148d1c2ac7bce48bc7e23dc7a352e0b21bfee925da3f3ca2f2aa", func := "huer/huerlaw08.SharePenny", spec := "sharePenny", unfollowed := true, recurses := true, named := ["huer/share.kinds"], plainKeys := false, apart := false, laid := [("huer/share.kinds", laid_huer_share_kinds)] }
def SharePennySaid : Prop := sharePennyRow.holds Tryd.pinned (OpenSpec.ofChange sharePennySpec)

/-- ITS FALSE NEIGHBOUR: 'it returns false'. Refute it at one input. -/
def sharePennyWrong : ChangeSpec := { name := "sharePenny", fn := fun _ => fun
  | [d1, d2] => { results := [.lit (.bool false)], args := [d1, d2] }
  | _ => none }
def SharePennyWrongFalsely : Prop := sharePennyRow.holds Tryd.pinned (OpenSpec.ofChange sharePennyWrong)

/-- 'huerlaw08.ShareEnds': WHATEVER THE INPUT: true; the input reads as it did. -/
def shareEndsSpec : ChangeSpec := { name := "shareEnds", fn := fun _ => fun
  | [d1, d2] => { results := [.lit (.bool true)], args := [d1, d2] }
  | _ => none }
def shareEndsRow : OpenClaim := { program := "ytajocmkgdjcmkaadoor", sum := "76430ff06f6b148d1c2ac7bce48bc7e23dc7a352e0b21bfee925da3f3ca2f2aa", func := "huer/huerlaw08.ShareEnds", spec := "shareEnds", unfollowed := true, recurses := true, named := ["huer/share.kinds"], plainKeys := false, apart := false, laid := [("huer/share.kinds", laid_huer_share_kinds)] }
def ShareEndsSaid : Prop := shareEndsRow.holds Tryd.pinned (OpenSpec.ofChange shareEndsSpec)

/-- ITS FALSE NEIGHBOUR: 'it returns false'. Refute it at one input. -/
def shareEndsWrong : ChangeSpec := { name := "shareEnds", fn := fun _ => fun
  | [d1, d2] => { results := [.lit (.bool false)], args := [d1, d2] }
  | _ => none }
def ShareEndsWrongFalsely : Prop := shareEndsRow.holds Tryd.pinned (OpenSpec.ofChange shareEndsWrong)

/-- 'huerlaw08.ShareWrong': WHATEVER THE INPUT: true; the input reads as it did. -/
def shareWrongSpec : ChangeSpec := { name := "shareWrong", fn := fun _ => fun
  | [d1, d2] => { results := [.lit (.bool true)], args := [d1, d2] }
  | _ => none }
def shareWrongRow : OpenClaim := { program := "ytajocmkgdjcmkaadoor", sum := "76430ff06f6b148d1c2ac7bce48bc7e23dc7a352e0b21bfee925da3f3ca2f2aa", func := "huer/huerlaw08.ShareWrong", spec := "shareWrong", unfollowed := true, recurses := true, named := ["huer/share.kinds"], plainKeys := false, apart := false, laid := [("huer/share.kinds", laid_huer_share_kinds)] }
def ShareWrongSaid : Prop := shareWrongRow.holds Tryd.pinned (OpenSpec.ofChange shareWrongSpec)

/-- ITS FALSE NEIGHBOUR: 'it returns false'. Refute it at one input. -/
def shareWrongWrong : ChangeSpec := { name := "shareWrong", fn := fun _ => fun
  | [d1, d2] => { results := [.lit (.bool false)], args := [d1, d2] }
  | _ => none }
def ShareWrongWrongFalsely : Prop := shareWrongRow.holds Tryd.pinned (OpenSpec.ofChange shareWrongWrong)

/-- 'huerlaw08.ShareAsk': WHATEVER THE INPUT: true; the input reads as it did. -/
def shareAskSpec : ChangeSpec := { name := "shareAsk", fn := fun _ => fun
  | [d1, d2] => { results := [.lit (.bool true)], args := [d1, d2] }
  | _ => none }
def shareAskRow : OpenClaim := { program := "ytajocmkgdjcmkaadoor", sum := "76430ff06f6b148d1c2ac7bce48bc7e23dc7a352e0b21bfee925da3f3ca2f2aa", func := "huer/huerlaw08.ShareAsk", spec := "shareAsk", unfollowed := true, recurses := true, named := ["huer/share.kinds"], plainKeys := false, apart := false, laid := [("huer/share.kinds", laid_huer_share_kinds)] }
def ShareAskSaid : Prop := shareAskRow.holds Tryd.pinned (OpenSpec.ofChange shareAskSpec)

/-- ITS FALSE NEIGHBOUR: 'it returns false'. Refute it at one input. -/
def shareAskWrong : ChangeSpec := { name := "shareAsk", fn := fun _ => fun
  | [d1, d2] => { results := [.lit (.bool false)], args := [d1, d2] }
  | _ => none }
def ShareAskWrongFalsely : Prop := shareAskRow.holds Tryd.pinned (OpenSpec.ofChange shareAskWrong)

/-- 'huerlaw08.ShareKnows': WHATEVER THE INPUT: true; the input reads as it did. -/
def shareKnowsSpec : ChangeSpec := { name := "shareKnows", fn := fun _ => fun
  | [d1, d2] => { results := [.lit (.bool true)], args := [d1, d2] }
  | _ => none }
def shareKnowsRow : OpenClaim := { program := "ytajocmkgdjcmkaadoor", sum := "76430ff06f6b148d1c2ac7bce48bc7e23dc7a352e0b21bfee925da3f3ca2f2aa", func := "huer/huerlaw08.ShareKnows", spec := "shareKnows", unfollowed := true, recurses := true, named := ["huer/share.kinds"], plainKeys := false, apart := false, laid := [("huer/share.kinds", laid_huer_share_kinds)] }
def ShareKnowsSaid : Prop := shareKnowsRow.holds Tryd.pinned (OpenSpec.ofChange shareKnowsSpec)

/-- ITS FALSE NEIGHBOUR: 'it returns false'. Refute it at one input. -/
def shareKnowsWrong : ChangeSpec := { name := "shareKnows", fn := fun _ => fun
  | [d1, d2] => { results := [.lit (.bool false)], args := [d1, d2] }
  | _ => none }
def ShareKnowsWrongFalsely : Prop := shareKnowsRow.holds Tryd.pinned (OpenSpec.ofChange shareKnowsWrong)

/-- 'huerlaw08.ShareKnown': WHATEVER THE INPUT: true; the input reads as it did. -/
def shareKnownSpec : ChangeSpec := { name := "shareKnown", fn := fun _ => fun
  | [] => { results := [.lit (.bool true)], args := [] }
  | _ => none }
def shareKnownRow : OpenClaim := { program := "ytajocmkgdjcmkaadoor", sum := "76430ff06f6b148d1c2ac7bce48bc7e23dc7a352e0b21bfee925da3f3ca2f2aa", func := "huer/huerlaw08.ShareKnown", spec := "shareKnown", unfollowed := true, recurses := true, named := ["huer/share.kinds"], plainKeys := false, apart := false, laid := [("huer/share.kinds", laid_huer_share_kinds)] }
def ShareKnownSaid : Prop := shareKnownRow.holds Tryd.pinned (OpenSpec.ofChange shareKnownSpec)

/-- ITS FALSE NEIGHBOUR: 'it returns false'. Refute it at one input. -/
def shareKnownWrong : ChangeSpec := { name := "shareKnown", fn := fun _ => fun
  | [] => { results := [.lit (.bool false)], args := [] }
  | _ => none }
def ShareKnownWrongFalsely : Prop := shareKnownRow.holds Tryd.pinned (OpenSpec.ofChange shareKnownWrong)

/- THE SECOND FORM. 'bulk': how many values and letters a reading holds, each counted each time it is reached (what is shared counts as often as it is met; a slice's spare places count too). A statement '..UptoSaid' is the law's where the arguments, and the package variables that the reading takes, are together of bulk at most 1048576: NARROWER than '..Said'. Prove '..Said' where nothing that the law and all that it calls make is longer than what came in: it says more and counts as full. Else prove '..UptoSaid'. A law counts once. -/
mutual
def uptoBulk {H : Type} : DataW H → Nat
  | .lit (.string bytes) => bytes.length + 1
  | .lit _ => 1
  | .nil => 1
  | .ptr d => uptoBulk d + 1
  | .slice elems spare => uptoBulkAll elems + uptoBulkAll spare + 1
  | .agg parts => uptoBulkAll parts + 1
  | .iface _ d => uptoBulk d + 1
  | .map entries => uptoBulkEntries entries + 1
  | .held _ => 1
def uptoBulkAll {H : Type} : List (DataW H) → Nat
  | [] => 0
  | d :: r => uptoBulk d + uptoBulkAll r
def uptoBulkEntries {H : Type} : List (Lit × DataW H) → Nat
  | [] => 0
  | x :: r => uptoBulkEntry x + uptoBulkEntries r
def uptoBulkEntry {H : Type} : Lit × DataW H → Nat
  | (.string bytes, d) => bytes.length + uptoBulk d + 1
  | (_, d) => uptoBulk d + 1
 end
def uptoSmall : (H : Type) → List (DataW H) → Bool := fun _ ds => decide (uptoBulkAll ds ≤ 1048576)
def OpenSpec.upto (s : _root_.Go.ChangeSpec) : _root_.Go.OpenSpec := { _root_.Go.OpenSpec.ofChange s with cond := some uptoSmall }

/-- 'huerlaw08.ShareOrders', WHERE WHAT IT READS IS OF BULK AT MOST 1048576: true; the input reads as it did. -/
def shareOrdersUptoRow : OpenClaim := { program := "ytajocmkgdjcmkaadoor", sum := "76430ff06f6b148d1c2ac7bce48bc7e23dc7a352e0b21bfee925da3f3ca2f2aa", func := "huer/huerlaw08.ShareOrders", spec := "shareOrders", unfollowed := true, recurses := true, named := ["huer/share.kinds"], plainKeys := false, apart := false, laid := [("huer/share.kinds", laid_huer_share_kinds)], narrowed := true }
def ShareOrdersUptoSaid : Prop := shareOrdersUptoRow.holds Tryd.pinned (OpenSpec.upto shareOrdersSpec)

/-- 'huerlaw08.SharePays', WHERE WHAT IT READS IS OF BULK AT MOST 1048576: true; the input reads as it did. -/
def sharePaysUptoRow : OpenClaim := { program := "ytajocmkgdjcmkaadoor", sum := "76430ff06f6b148d1c2ac7bce48bc7e23dc7a352e0b21bfee925da3f3ca2f2aa", func := "huer/huerlaw08.SharePays", spec := "sharePays", unfollowed := true, recurses := true, named := ["huer/share.kinds"], plainKeys := false, apart := false, laid := [("huer/share.kinds", laid_huer_share_kinds)], narrowed := true }
def SharePaysUptoSaid : Prop := sharePaysUptoRow.holds Tryd.pinned (OpenSpec.upto sharePaysSpec)

/-- 'huerlaw08.ShareAsks', WHERE WHAT IT READS IS OF BULK AT MOST 1048576: true; the input reads as it did. -/
def shareAsksUptoRow : OpenClaim := { program := "ytajocmkgdjcmkaadoor", sum := "76430ff06f6b148d1c2ac7bce48bc7e23dc7a352e0b21bfee925da3f3ca2f2aa", func := "huer/huerlaw08.ShareAsks", spec := "shareAsks", unfollowed := true, recurses := true, named := ["huer/share.kinds"], plainKeys := false, apart := false, laid := [("huer/share.kinds", laid_huer_share_kinds)], narrowed := true }
def ShareAsksUptoSaid : Prop := shareAsksUptoRow.holds Tryd.pinned (OpenSpec.upto shareAsksSpec)

/-- 'huerlaw08.ShareTrue', WHERE WHAT IT READS IS OF BULK AT MOST 1048576: true; the input reads as it did. -/
def shareTrueUptoRow : OpenClaim := { program := "ytajocmkgdjcmkaadoor", sum := "76430ff06f6b148d1c2ac7bce48bc7e23dc7a352e0b21bfee925da3f3ca2f2aa", func := "huer/huerlaw08.ShareTrue", spec := "shareTrue", unfollowed := true, recurses := true, named := ["huer/share.kinds"], plainKeys := false, apart := false, laid := [("huer/share.kinds", laid_huer_share_kinds)], narrowed := true }
def ShareTrueUptoSaid : Prop := shareTrueUptoRow.holds Tryd.pinned (OpenSpec.upto shareTrueSpec)

/-- 'huerlaw08.ShareOrder', WHERE WHAT IT READS IS OF BULK AT MOST 1048576: true; the input reads as it did. -/
def shareOrderUptoRow : OpenClaim := { program := "ytajocmkgdjcmkaadoor", sum := "76430ff06f6b148d1c2ac7bce48bc7e23dc7a352e0b21bfee925da3f3ca2f2aa", func := "huer/huerlaw08.ShareOrder", spec := "shareOrder", unfollowed := true, recurses := true, named := ["huer/share.kinds"], plainKeys := false, apart := false, laid := [("huer/share.kinds", laid_huer_share_kinds)], narrowed := true }
def ShareOrderUptoSaid : Prop := shareOrderUptoRow.holds Tryd.pinned (OpenSpec.upto shareOrderSpec)

/-- 'huerlaw08.ShareAgain', WHERE WHAT IT READS IS OF BULK AT MOST 1048576: true; the input reads as it did. -/
def shareAgainUptoRow : OpenClaim := { program := "ytajocmkgdjcmkaadoor", sum := "76430ff06f6b148d1c2ac7bce48bc7e23dc7a352e0b21bfee925da3f3ca2f2aa", func := "huer/huerlaw08.ShareAgain", spec := "shareAgain", unfollowed := true, recurses := true, named := ["huer/share.kinds"], plainKeys := false, apart := false, laid := [("huer/share.kinds", laid_huer_share_kinds)], narrowed := true }
def ShareAgainUptoSaid : Prop := shareAgainUptoRow.holds Tryd.pinned (OpenSpec.upto shareAgainSpec)

/-- 'huerlaw08.SharePenny', WHERE WHAT IT READS IS OF BULK AT MOST 1048576: true; the input reads as it did. -/
def sharePennyUptoRow : OpenClaim := { program := "ytajocmkgdjcmkaadoor", sum := "76430ff06f6b148d1c2ac7bce48bc7e23dc7a352e0b21bfee925da3f3ca2f2aa", func := "huer/huerlaw08.SharePenny", spec := "sharePenny", unfollowed := true, recurses := true, named := ["huer/share.kinds"], plainKeys := false, apart := false, laid := [("huer/share.kinds", laid_huer_share_kinds)], narrowed := true }
def SharePennyUptoSaid : Prop := sharePennyUptoRow.holds Tryd.pinned (OpenSpec.upto sharePennySpec)

/-- 'huerlaw08.ShareEnds', WHERE WHAT IT READS IS OF BULK AT MOST 1048576: true; the input reads as it did. -/
def shareEndsUptoRow : OpenClaim := { program := "ytajocmkgdjcmkaadoor", sum := "76430ff06f6b148d1c2ac7bce48bc7e23dc7a352e0b21bfee925da3f3ca2f2aa", func := "huer/huerlaw08.ShareEnds", spec := "shareEnds", unfollowed := true, recurses := true, named := ["huer/share.kinds"], plainKeys := false, apart := false, laid := [("huer/share.kinds", laid_huer_share_kinds)], narrowed := true }
def ShareEndsUptoSaid : Prop := shareEndsUptoRow.holds Tryd.pinned (OpenSpec.upto shareEndsSpec)

/-- 'huerlaw08.ShareWrong', WHERE WHAT IT READS IS OF BULK AT MOST 1048576: true; the input reads as it did. -/
def shareWrongUptoRow : OpenClaim := { program := "ytajocmkgdjcmkaadoor", sum := "76430ff06f6b148d1c2ac7bce48bc7e23dc7a352e0b21bfee925da3f3ca2f2aa", func := "huer/huerlaw08.ShareWrong", spec := "shareWrong", unfollowed := true, recurses := true, named := ["huer/share.kinds"], plainKeys := false, apart := false, laid := [("huer/share.kinds", laid_huer_share_kinds)], narrowed := true }
def ShareWrongUptoSaid : Prop := shareWrongUptoRow.holds Tryd.pinned (OpenSpec.upto shareWrongSpec)

/-- 'huerlaw08.ShareAsk', WHERE WHAT IT READS IS OF BULK AT MOST 1048576: true; the input reads as it did. -/
def shareAskUptoRow : OpenClaim := { program := "ytajocmkgdjcmkaadoor", sum := "76430ff06f6b148d1c2ac7bce48bc7e23dc7a352e0b21bfee925da3f3ca2f2aa", func := "huer/huerlaw08.ShareAsk", spec := "shareAsk", unfollowed := true, recurses := true, named := ["huer/share.kinds"], plainKeys := false, apart := false, laid := [("huer/share.kinds", laid_huer_share_kinds)], narrowed := true }
def ShareAskUptoSaid : Prop := shareAskUptoRow.holds Tryd.pinned (OpenSpec.upto shareAskSpec)

/-- 'huerlaw08.ShareKnows', WHERE WHAT IT READS IS OF BULK AT MOST 1048576: true; the input reads as it did. -/
def shareKnowsUptoRow : OpenClaim := { program := "ytajocmkgdjcmkaadoor", sum := "76430ff06f6b148d1c2ac7bce48bc7e23dc7a352e0b21bfee925da3f3ca2f2aa", func := "huer/huerlaw08.ShareKnows", spec := "shareKnows", unfollowed := true, recurses := true, named := ["huer/share.kinds"], plainKeys := false, apart := false, laid := [("huer/share.kinds", laid_huer_share_kinds)], narrowed := true }
def ShareKnowsUptoSaid : Prop := shareKnowsUptoRow.holds Tryd.pinned (OpenSpec.upto shareKnowsSpec)

/-- 'huerlaw08.ShareKnown', WHERE WHAT IT READS IS OF BULK AT MOST 1048576: true; the input reads as it did. -/
def shareKnownUptoRow : OpenClaim := { program := "ytajocmkgdjcmkaadoor", sum := "76430ff06f6b148d1c2ac7bce48bc7e23dc7a352e0b21bfee925da3f3ca2f2aa", func := "huer/huerlaw08.ShareKnown", spec := "shareKnown", unfollowed := true, recurses := true, named := ["huer/share.kinds"], plainKeys := false, apart := false, laid := [("huer/share.kinds", laid_huer_share_kinds)], narrowed := true }
def ShareKnownUptoSaid : Prop := shareKnownUptoRow.holds Tryd.pinned (OpenSpec.upto shareKnownSpec)

end Rows
end Go.Proofs.YtajocmkgdjcmkaaDoor
