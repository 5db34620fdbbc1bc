/-
  NARROWER THAN 'FOR EVERY INPUT', by the rows' own cells (each row's printed sentence says how): CryWheres: laid · CryShots: laid · CryWrongs: laid · CryTrue: laid · CryMore: laid · CrySwims: laid · CryShot: laid · CryBoth: laid · CryMirror: laid · CryOpen: laid · CryWrong: laid · CryKnown: laid.
  DERIVED. THE GIVEN ROWS OF THIS SEAT. 12 by the template 'for every input the law returns true; each argument reads behind the call as it read before'; 0 by the template 'total and deterministic' (their statements: YtmpclgepoemneaaDoorTotals.lean).
  GIVEN WITH THE SEED: the statements are not yours to turn. If you find one false, say at which input.
  Laid BY PROGRAM, IN A SANDBOX (cutbox-rows.mjs): the forced cells as the released guide's own fill.sh prints them over the translation 89989342a7255e47… (all of the seat's roots in one cut). By AI agents, Wed Nov 11 2026. No macro, syntax, notation, axiom, sorry.
-/
import Derived.Test.YtmpclgepoemneaaDoorChecked
import GoSem.Claim
import GoSem.ClaimJoined
import GoSem.ClaimMapViews
import Derived.JoinedTies
import Derived.KernelRfl
namespace Go.Proofs.YtmpclgepoemneaaDoor
/- THE CELL 'sum', in the pinned program and in every row, IS THE sha256 OF THE DUMP (.gsa) THAT YtmpclgepoemneaaDoorProg.lean LOADS. Nothing in Lean hashes anything: it is a label: what it is worth is what the hold of that sum in a sandbox is worth. -/
noncomputable def Tryd.pinned : Pinned := { name := "ytmpclgepoemneaadoor", sum := "89989342a7255e47a2ada29db5e34d1f07a88ebc814adef5d0a469f4532d3b12", checked := Tryd.checked }
namespace Rows
def none {H : Type} : Left H := { results := [], args := [] }

/- WHAT THE LISTED PACKAGE-LEVEL VARIABLES READ AS WHEN THE CALL BEGINS. Each datum BY PROGRAM (the guide's laid-datum.mjs) off the statement by which the dump's own 'gosem.cut.vars' lays the variable. In a bare row this is a premise. The card (YtmpclgepoemneaaDoorCards.lean) ties it to the program's text. -/
def laid_huer_cry_kinds {H : Type} : DataW H := .iface "func table" (.agg [.iface "func" (.lit (.string [40, 104, 117, 101, 114, 47, 99, 114, 121, 46, 98, 97, 121, 41, 46, 115, 101, 101, 115])), .iface "func" (.lit (.string [40, 104, 117, 101, 114, 47, 99, 114, 121, 46, 98, 97, 121, 41, 46, 110, 111, 116]))])

/-- 'huerlaw01.CryWheres': WHATEVER THE INPUT: true; the input reads as it did. -/
def cryWheresSpec : ChangeSpec := { name := "cryWheres", fn := fun _ => fun
  | [d1, d2] => { results := [.lit (.bool true)], args := [d1, d2] }
  | _ => none }
def cryWheresRow : OpenClaim := { program := "ytmpclgepoemneaadoor", sum := "89989342a7255e47a2ada29db5e34d1f07a88ebc814adef5d0a469f4532d3b12", func := "huer/huerlaw01.CryWheres", spec := "cryWheres", unfollowed := true, recurses := true, named := ["huer/cry.kinds"], plainKeys := false, apart := false, laid := [("huer/cry.kinds", laid_huer_cry_kinds)] }
def CryWheresSaid : Prop := cryWheresRow.holds Tryd.pinned (OpenSpec.ofChange cryWheresSpec)

/-- ITS FALSE NEIGHBOUR: 'it returns false'. Refute it at one input. -/
def cryWheresWrong : ChangeSpec := { name := "cryWheres", fn := fun _ => fun
  | [d1, d2] => { results := [.lit (.bool false)], args := [d1, d2] }
  | _ => none }
def CryWheresWrongFalsely : Prop := cryWheresRow.holds Tryd.pinned (OpenSpec.ofChange cryWheresWrong)

/-- 'huerlaw01.CryShots': WHATEVER THE INPUT: true; the input reads as it did. -/
def cryShotsSpec : ChangeSpec := { name := "cryShots", fn := fun _ => fun
  | [d1, d2] => { results := [.lit (.bool true)], args := [d1, d2] }
  | _ => none }
def cryShotsRow : OpenClaim := { program := "ytmpclgepoemneaadoor", sum := "89989342a7255e47a2ada29db5e34d1f07a88ebc814adef5d0a469f4532d3b12", func := "huer/huerlaw01.CryShots", spec := "cryShots", unfollowed := true, recurses := true, named := ["huer/cry.kinds"], plainKeys := false, apart := false, laid := [("huer/cry.kinds", laid_huer_cry_kinds)] }
def CryShotsSaid : Prop := cryShotsRow.holds Tryd.pinned (OpenSpec.ofChange cryShotsSpec)

/-- ITS FALSE NEIGHBOUR: 'it returns false'. Refute it at one input. -/
def cryShotsWrong : ChangeSpec := { name := "cryShots", fn := fun _ => fun
  | [d1, d2] => { results := [.lit (.bool false)], args := [d1, d2] }
  | _ => none }
def CryShotsWrongFalsely : Prop := cryShotsRow.holds Tryd.pinned (OpenSpec.ofChange cryShotsWrong)

/-- 'huerlaw01.CryWrongs': WHATEVER THE INPUT: true; the input reads as it did. -/
def cryWrongsSpec : ChangeSpec := { name := "cryWrongs", fn := fun _ => fun
  | [d1, d2] => { results := [.lit (.bool true)], args := [d1, d2] }
  | _ => none }
def cryWrongsRow : OpenClaim := { program := "ytmpclgepoemneaadoor", sum := "89989342a7255e47a2ada29db5e34d1f07a88ebc814adef5d0a469f4532d3b12", func := "huer/huerlaw01.CryWrongs", spec := "cryWrongs", unfollowed := true, recurses := true, named := ["huer/cry.kinds"], plainKeys := false, apart := false, laid := [("huer/cry.kinds", laid_huer_cry_kinds)] }
def CryWrongsSaid : Prop := cryWrongsRow.holds Tryd.pinned (OpenSpec.ofChange cryWrongsSpec)

/-- ITS FALSE NEIGHBOUR: 'it returns false'. Refute it at one input. -/
def cryWrongsWrong : ChangeSpec := { name := "cryWrongs", fn := fun _ => fun
  | [d1, d2] => { results := [.lit (.bool false)], args := [d1, d2] }
  | _ => none }
def CryWrongsWrongFalsely : Prop := cryWrongsRow.holds Tryd.pinned (OpenSpec.ofChange cryWrongsWrong)

/-- 'huerlaw01.CryTrue': WHATEVER THE INPUT: true; the input reads as it did. -/
def cryTrueSpec : ChangeSpec := { name := "cryTrue", fn := fun _ => fun
  | [d1, d2, d3] => { results := [.lit (.bool true)], args := [d1, d2, d3] }
  | _ => none }
def cryTrueRow : OpenClaim := { program := "ytmpclgepoemneaadoor", sum := "89989342a7255e47a2ada29db5e34d1f07a88ebc814adef5d0a469f4532d3b12", func := "huer/huerlaw01.CryTrue", spec := "cryTrue", unfollowed := true, recurses := true, named := ["huer/cry.kinds"], plainKeys := false, apart := false, laid := [("huer/cry.kinds", laid_huer_cry_kinds)] }
def CryTrueSaid : Prop := cryTrueRow.holds Tryd.pinned (OpenSpec.ofChange cryTrueSpec)

/-- ITS FALSE NEIGHBOUR: 'it returns false'. Refute it at one input. -/
def cryTrueWrong : ChangeSpec := { name := "cryTrue", fn := fun _ => fun
  | [d1, d2, d3] => { results := [.lit (.bool false)], args := [d1, d2, d3] }
  | _ => none }
def CryTrueWrongFalsely : Prop := cryTrueRow.holds Tryd.pinned (OpenSpec.ofChange cryTrueWrong)

/-- 'huerlaw01.CryMore': WHATEVER THE INPUT: true; the input reads as it did. -/
def cryMoreSpec : ChangeSpec := { name := "cryMore", fn := fun _ => fun
  | [d1, d2, d3] => { results := [.lit (.bool true)], args := [d1, d2, d3] }
  | _ => none }
def cryMoreRow : OpenClaim := { program := "ytmpclgepoemneaadoor", sum := "89989342a7255e47a2ada29db5e34d1f07a88ebc814adef5d0a469f4532d3b12", func := "huer/huerlaw01.CryMore", spec := "cryMore", unfollowed := true, recurses := true, named := ["huer/cry.kinds"], plainKeys := false, apart := false, laid := [("huer/cry.kinds", laid_huer_cry_kinds)] }
def CryMoreSaid : Prop := cryMoreRow.holds Tryd.pinned (OpenSpec.ofChange cryMoreSpec)

/-- ITS FALSE NEIGHBOUR: 'it returns false'. Refute it at one input. -/
def cryMoreWrong : ChangeSpec := { name := "cryMore", fn := fun _ => fun
  | [d1, d2, d3] => { results := [.lit (.bool false)], args := [d1, d2, d3] }
  | _ => none }
def CryMoreWrongFalsely : Prop := cryMoreRow.holds Tryd.pinned (OpenSpec.ofChange cryMoreWrong)

/-- 'huerlaw01.CrySwims': WHATEVER THE INPUT: true; the input reads as it did. -/
def crySwimsSpec : ChangeSpec := { name := "crySwims", fn := fun _ => fun
  | [d1, d2] => { results := [.lit (.bool true)], args := [d1, d2] }
  | _ => none }
def crySwimsRow : OpenClaim := { program := "ytmpclgepoemneaadoor", sum := "89989342a7255e47a2ada29db5e34d1f07a88ebc814adef5d0a469f4532d3b12", func := "huer/huerlaw01.CrySwims", spec := "crySwims", unfollowed := true, recurses := true, named := ["huer/cry.kinds"], plainKeys := false, apart := false, laid := [("huer/cry.kinds", laid_huer_cry_kinds)] }
def CrySwimsSaid : Prop := crySwimsRow.holds Tryd.pinned (OpenSpec.ofChange crySwimsSpec)

/-- ITS FALSE NEIGHBOUR: 'it returns false'. Refute it at one input. -/
def crySwimsWrong : ChangeSpec := { name := "crySwims", fn := fun _ => fun
  | [d1, d2] => { results := [.lit (.bool false)], args := [d1, d2] }
  | _ => none }
def CrySwimsWrongFalsely : Prop := crySwimsRow.holds Tryd.pinned (OpenSpec.ofChange crySwimsWrong)

/-- 'huerlaw01.CryShot': WHATEVER THE INPUT: true; the input reads as it did. -/
def cryShotSpec : ChangeSpec := { name := "cryShot", fn := fun _ => fun
  | [d1, d2] => { results := [.lit (.bool true)], args := [d1, d2] }
  | _ => none }
def cryShotRow : OpenClaim := { program := "ytmpclgepoemneaadoor", sum := "89989342a7255e47a2ada29db5e34d1f07a88ebc814adef5d0a469f4532d3b12", func := "huer/huerlaw01.CryShot", spec := "cryShot", unfollowed := true, recurses := true, named := ["huer/cry.kinds"], plainKeys := false, apart := false, laid := [("huer/cry.kinds", laid_huer_cry_kinds)] }
def CryShotSaid : Prop := cryShotRow.holds Tryd.pinned (OpenSpec.ofChange cryShotSpec)

/-- ITS FALSE NEIGHBOUR: 'it returns false'. Refute it at one input. -/
def cryShotWrong : ChangeSpec := { name := "cryShot", fn := fun _ => fun
  | [d1, d2] => { results := [.lit (.bool false)], args := [d1, d2] }
  | _ => none }
def CryShotWrongFalsely : Prop := cryShotRow.holds Tryd.pinned (OpenSpec.ofChange cryShotWrong)

/-- 'huerlaw01.CryBoth': WHATEVER THE INPUT: true; the input reads as it did. -/
def cryBothSpec : ChangeSpec := { name := "cryBoth", fn := fun _ => fun
  | [d1, d2] => { results := [.lit (.bool true)], args := [d1, d2] }
  | _ => none }
def cryBothRow : OpenClaim := { program := "ytmpclgepoemneaadoor", sum := "89989342a7255e47a2ada29db5e34d1f07a88ebc814adef5d0a469f4532d3b12", func := "huer/huerlaw01.CryBoth", spec := "cryBoth", unfollowed := true, recurses := true, named := ["huer/cry.kinds"], plainKeys := false, apart := false, laid := [("huer/cry.kinds", laid_huer_cry_kinds)] }
def CryBothSaid : Prop := cryBothRow.holds Tryd.pinned (OpenSpec.ofChange cryBothSpec)

/-- ITS FALSE NEIGHBOUR: 'it returns false'. Refute it at one input. -/
def cryBothWrong : ChangeSpec := { name := "cryBoth", fn := fun _ => fun
  | [d1, d2] => { results := [.lit (.bool false)], args := [d1, d2] }
  | _ => none }
def CryBothWrongFalsely : Prop := cryBothRow.holds Tryd.pinned (OpenSpec.ofChange cryBothWrong)

/-- 'huerlaw01.CryMirror': WHATEVER THE INPUT: true; the input reads as it did. -/
def cryMirrorSpec : ChangeSpec := { name := "cryMirror", fn := fun _ => fun
  | [d1, d2] => { results := [.lit (.bool true)], args := [d1, d2] }
  | _ => none }
def cryMirrorRow : OpenClaim := { program := "ytmpclgepoemneaadoor", sum := "89989342a7255e47a2ada29db5e34d1f07a88ebc814adef5d0a469f4532d3b12", func := "huer/huerlaw01.CryMirror", spec := "cryMirror", unfollowed := true, recurses := true, named := ["huer/cry.kinds"], plainKeys := false, apart := false, laid := [("huer/cry.kinds", laid_huer_cry_kinds)] }
def CryMirrorSaid : Prop := cryMirrorRow.holds Tryd.pinned (OpenSpec.ofChange cryMirrorSpec)

/-- ITS FALSE NEIGHBOUR: 'it returns false'. Refute it at one input. -/
def cryMirrorWrong : ChangeSpec := { name := "cryMirror", fn := fun _ => fun
  | [d1, d2] => { results := [.lit (.bool false)], args := [d1, d2] }
  | _ => none }
def CryMirrorWrongFalsely : Prop := cryMirrorRow.holds Tryd.pinned (OpenSpec.ofChange cryMirrorWrong)

/-- 'huerlaw01.CryOpen': WHATEVER THE INPUT: true; the input reads as it did. -/
def cryOpenSpec : ChangeSpec := { name := "cryOpen", fn := fun _ => fun
  | [d1, d2] => { results := [.lit (.bool true)], args := [d1, d2] }
  | _ => none }
def cryOpenRow : OpenClaim := { program := "ytmpclgepoemneaadoor", sum := "89989342a7255e47a2ada29db5e34d1f07a88ebc814adef5d0a469f4532d3b12", func := "huer/huerlaw01.CryOpen", spec := "cryOpen", unfollowed := true, recurses := true, named := ["huer/cry.kinds"], plainKeys := false, apart := false, laid := [("huer/cry.kinds", laid_huer_cry_kinds)] }
def CryOpenSaid : Prop := cryOpenRow.holds Tryd.pinned (OpenSpec.ofChange cryOpenSpec)

/-- ITS FALSE NEIGHBOUR: 'it returns false'. Refute it at one input. -/
def cryOpenWrong : ChangeSpec := { name := "cryOpen", fn := fun _ => fun
  | [d1, d2] => { results := [.lit (.bool false)], args := [d1, d2] }
  | _ => none }
def CryOpenWrongFalsely : Prop := cryOpenRow.holds Tryd.pinned (OpenSpec.ofChange cryOpenWrong)

/-- 'huerlaw01.CryWrong': WHATEVER THE INPUT: true; the input reads as it did. -/
def cryWrongSpec : ChangeSpec := { name := "cryWrong", fn := fun _ => fun
  | [d1, d2] => { results := [.lit (.bool true)], args := [d1, d2] }
  | _ => none }
def cryWrongRow : OpenClaim := { program := "ytmpclgepoemneaadoor", sum := "89989342a7255e47a2ada29db5e34d1f07a88ebc814adef5d0a469f4532d3b12", func := "huer/huerlaw01.CryWrong", spec := "cryWrong", unfollowed := true, recurses := true, named := ["huer/cry.kinds"], plainKeys := false, apart := false, laid := [("huer/cry.kinds", laid_huer_cry_kinds)] }
def CryWrongSaid : Prop := cryWrongRow.holds Tryd.pinned (OpenSpec.ofChange cryWrongSpec)

/-- ITS FALSE NEIGHBOUR: 'it returns false'. Refute it at one input. -/
def cryWrongWrong : ChangeSpec := { name := "cryWrong", fn := fun _ => fun
  | [d1, d2] => { results := [.lit (.bool false)], args := [d1, d2] }
  | _ => none }
def CryWrongWrongFalsely : Prop := cryWrongRow.holds Tryd.pinned (OpenSpec.ofChange cryWrongWrong)

/-- 'huerlaw01.CryKnown': WHATEVER THE INPUT: true; the input reads as it did. -/
def cryKnownSpec : ChangeSpec := { name := "cryKnown", fn := fun _ => fun
  | [] => { results := [.lit (.bool true)], args := [] }
  | _ => none }
def cryKnownRow : OpenClaim := { program := "ytmpclgepoemneaadoor", sum := "89989342a7255e47a2ada29db5e34d1f07a88ebc814adef5d0a469f4532d3b12", func := "huer/huerlaw01.CryKnown", spec := "cryKnown", unfollowed := true, recurses := true, named := ["huer/cry.kinds"], plainKeys := false, apart := false, laid := [("huer/cry.kinds", laid_huer_cry_kinds)] }
def CryKnownSaid : Prop := cryKnownRow.holds Tryd.pinned (OpenSpec.ofChange cryKnownSpec)

/-- ITS FALSE NEIGHBOUR: 'it returns false'. Refute it at one input. -/
def cryKnownWrong : ChangeSpec := { name := "cryKnown", fn := fun _ => fun
  | [] => { results := [.lit (.bool false)], args := [] }
  | _ => none }
def CryKnownWrongFalsely : Prop := cryKnownRow.holds Tryd.pinned (OpenSpec.ofChange cryKnownWrong)

/- THE SECOND FORM. 'bulk': how many values and letters a reading holds, each counted each time it is reached (what is shared counts as often as it is met; a slice's spare places count too). A statement '..UptoSaid' is the law's where the arguments, and the package variables that the reading takes, are together of bulk at most 1048576: NARROWER than '..Said'. Prove '..Said' where nothing that the law and all that it calls make is longer than what came in: it says more and counts as full. Else prove '..UptoSaid'. A law counts once. -/
mutual
def uptoBulk {H : Type} : DataW H → Nat
  | .lit (.string bytes) => bytes.length + 1
  | .lit _ => 1
  | .nil => 1
  | .ptr d => uptoBulk d + 1
  | .slice elems spare => uptoBulkAll elems + uptoBulkAll spare + 1
  | .agg parts => uptoBulkAll parts + 1
  | .iface _ d => uptoBulk d + 1
  | .map entries => uptoBulkEntries entries + 1
  | .held _ => 1
def uptoBulkAll {H : Type} : List (DataW H) → Nat
  | [] => 0
  | d :: r => uptoBulk d + uptoBulkAll r
def uptoBulkEntries {H : Type} : List (Lit × DataW H) → Nat
  | [] => 0
  | x :: r => uptoBulkEntry x + uptoBulkEntries r
def uptoBulkEntry {H : Type} : Lit × DataW H → Nat
  | (.string bytes, d) => bytes.length + uptoBulk d + 1
  | (_, d) => uptoBulk d + 1
 end
def uptoSmall : (H : Type) → List (DataW H) → Bool := fun _ ds => decide (uptoBulkAll ds ≤ 1048576)
def OpenSpec.upto (s : _root_.Go.ChangeSpec) : _root_.Go.OpenSpec := { _root_.Go.OpenSpec.ofChange s with cond := some uptoSmall }

/-- 'huerlaw01.CryWheres', WHERE WHAT IT READS IS OF BULK AT MOST 1048576: true; the input reads as it did. -/
def cryWheresUptoRow : OpenClaim := { program := "ytmpclgepoemneaadoor", sum := "89989342a7255e47a2ada29db5e34d1f07a88ebc814adef5d0a469f4532d3b12", func := "huer/huerlaw01.CryWheres", spec := "cryWheres", unfollowed := true, recurses := true, named := ["huer/cry.kinds"], plainKeys := false, apart := false, laid := [("huer/cry.kinds", laid_huer_cry_kinds)], narrowed := true }
def CryWheresUptoSaid : Prop := cryWheresUptoRow.holds Tryd.pinned (OpenSpec.upto cryWheresSpec)

/-- 'huerlaw01.CryShots', WHERE WHAT IT READS IS OF BULK AT MOST 1048576: true; the input reads as it did. -/
def cryShotsUptoRow : OpenClaim := { program := "ytmpclgepoemneaadoor", sum := "89989342a7255e47a2ada29db5e34d1f07a88ebc814adef5d0a469f4532d3b12", func := "huer/huerlaw01.CryShots", spec := "cryShots", unfollowed := true, recurses := true, named := ["huer/cry.kinds"], plainKeys := false, apart := false, laid := [("huer/cry.kinds", laid_huer_cry_kinds)], narrowed := true }
def CryShotsUptoSaid : Prop := cryShotsUptoRow.holds Tryd.pinned (OpenSpec.upto cryShotsSpec)

/-- 'huerlaw01.CryWrongs', WHERE WHAT IT READS IS OF BULK AT MOST 1048576: true; the input reads as it did. -/
def cryWrongsUptoRow : OpenClaim := { program := "ytmpclgepoemneaadoor", sum := "89989342a7255e47a2ada29db5e34d1f07a88ebc814adef5d0a469f4532d3b12", func := "huer/huerlaw01.CryWrongs", spec := "cryWrongs", unfollowed := true, recurses := true, named := ["huer/cry.kinds"], plainKeys := false, apart := false, laid := [("huer/cry.kinds", laid_huer_cry_kinds)], narrowed := true }
def CryWrongsUptoSaid : Prop := cryWrongsUptoRow.holds Tryd.pinned (OpenSpec.upto cryWrongsSpec)

/-- 'huerlaw01.CryTrue', WHERE WHAT IT READS IS OF BULK AT MOST 1048576: true; the input reads as it did. -/
def cryTrueUptoRow : OpenClaim := { program := "ytmpclgepoemneaadoor", sum := "89989342a7255e47a2ada29db5e34d1f07a88ebc814adef5d0a469f4532d3b12", func := "huer/huerlaw01.CryTrue", spec := "cryTrue", unfollowed := true, recurses := true, named := ["huer/cry.kinds"], plainKeys := false, apart := false, laid := [("huer/cry.kinds", laid_huer_cry_kinds)], narrowed := true }
def CryTrueUptoSaid : Prop := cryTrueUptoRow.holds Tryd.pinned (OpenSpec.upto cryTrueSpec)

/-- 'huerlaw01.CryMore', WHERE WHAT IT READS IS OF BULK AT MOST 1048576: true; the input reads as it did. -/
def cryMoreUptoRow : OpenClaim := { program := "ytmpclgepoemneaadoor", sum := "89989342a7255e47a2ada29db5e34d1f07a88ebc814adef5d0a469f4532d3b12", func := "huer/huerlaw01.CryMore", spec := "cryMore", unfollowed := true, recurses := true, named := ["huer/cry.kinds"], plainKeys := false, apart := false, laid := [("huer/cry.kinds", laid_huer_cry_kinds)], narrowed := true }
def CryMoreUptoSaid : Prop := cryMoreUptoRow.holds Tryd.pinned (OpenSpec.upto cryMoreSpec)

/-- 'huerlaw01.CrySwims', WHERE WHAT IT READS IS OF BULK AT MOST 1048576: true; the input reads as it did. -/
def crySwimsUptoRow : OpenClaim := { program := "ytmpclgepoemneaadoor", sum := "89989342a7255e47a2ada29db5e34d1f07a88ebc814adef5d0a469f4532d3b12", func := "huer/huerlaw01.CrySwims", spec := "crySwims", unfollowed := true, recurses := true, named := ["huer/cry.kinds"], plainKeys := false, apart := false, laid := [("huer/cry.kinds", laid_huer_cry_kinds)], narrowed := true }
def CrySwimsUptoSaid : Prop := crySwimsUptoRow.holds Tryd.pinned (OpenSpec.upto crySwimsSpec)

/-- 'huerlaw01.CryShot', WHERE WHAT IT READS IS OF BULK AT MOST 1048576: true; the input reads as it did. -/
def cryShotUptoRow : OpenClaim := { program := "ytmpclgepoemneaadoor", sum := "89989342a7255e47a2ada29db5e34d1f07a88ebc814adef5d0a469f4532d3b12", func := "huer/huerlaw01.CryShot", spec := "cryShot", unfollowed := true, recurses := true, named := ["huer/cry.kinds"], plainKeys := false, apart := false, laid := [("huer/cry.kinds", laid_huer_cry_kinds)], narrowed := true }
def CryShotUptoSaid : Prop := cryShotUptoRow.holds Tryd.pinned (OpenSpec.upto cryShotSpec)

/-- 'huerlaw01.CryBoth', WHERE WHAT IT READS IS OF BULK AT MOST 1048576: true; the input reads as it did. -/
def cryBothUptoRow : OpenClaim := { program := "ytmpclgepoemneaadoor", sum := "89989342a7255e47a2ada29db5e34d1f07a88ebc814adef5d0a469f4532d3b12", func := "huer/huerlaw01.CryBoth", spec := "cryBoth", unfollowed := true, recurses := true, named := ["huer/cry.kinds"], plainKeys := false, apart := false, laid := [("huer/cry.kinds", laid_huer_cry_kinds)], narrowed := true }
def CryBothUptoSaid : Prop := cryBothUptoRow.holds Tryd.pinned (OpenSpec.upto cryBothSpec)

/-- 'huerlaw01.CryMirror', WHERE WHAT IT READS IS OF BULK AT MOST 1048576: true; the input reads as it did. -/
def cryMirrorUptoRow : OpenClaim := { program := "ytmpclgepoemneaadoor", sum := "89989342a7255e47a2ada29db5e34d1f07a88ebc814adef5d0a469f4532d3b12", func := "huer/huerlaw01.CryMirror", spec := "cryMirror", unfollowed := true, recurses := true, named := ["huer/cry.kinds"], plainKeys := false, apart := false, laid := [("huer/cry.kinds", laid_huer_cry_kinds)], narrowed := true }
def CryMirrorUptoSaid : Prop := cryMirrorUptoRow.holds Tryd.pinned (OpenSpec.upto cryMirrorSpec)

/-- 'huerlaw01.CryOpen', WHERE WHAT IT READS IS OF BULK AT MOST 1048576: true; the input reads as it did. -/
def cryOpenUptoRow : OpenClaim := { program := "ytmpclgepoemneaadoor", sum := "89989342a7255e47a2ada29db5e34d1f07a88ebc814adef5d0a469f4532d3b12", func := "huer/huerlaw01.CryOpen", spec := "cryOpen", unfollowed := true, recurses := true, named := ["huer/cry.kinds"], plainKeys := false, apart := false, laid := [("huer/cry.kinds", laid_huer_cry_kinds)], narrowed := true }
def CryOpenUptoSaid : Prop := cryOpenUptoRow.holds Tryd.pinned (OpenSpec.upto cryOpenSpec)

/-- 'huerlaw01.CryWrong', WHERE WHAT IT READS IS OF BULK AT MOST 1048576: true; the input reads as it did. -/
def cryWrongUptoRow : OpenClaim := { program := "ytmpclgepoemneaadoor", sum := "89989342a7255e47a2ada29db5e34d1f07a88ebc814adef5d0a469f4532d3b12", func := "huer/huerlaw01.CryWrong", spec := "cryWrong", unfollowed := true, recurses := true, named := ["huer/cry.kinds"], plainKeys := false, apart := false, laid := [("huer/cry.kinds", laid_huer_cry_kinds)], narrowed := true }
def CryWrongUptoSaid : Prop := cryWrongUptoRow.holds Tryd.pinned (OpenSpec.upto cryWrongSpec)

/-- 'huerlaw01.CryKnown', WHERE WHAT IT READS IS OF BULK AT MOST 1048576: true; the input reads as it did. -/
def cryKnownUptoRow : OpenClaim := { program := "ytmpclgepoemneaadoor", sum := "89989342a7255e47a2ada29db5e34d1f07a88ebc814adef5d0a469f4532d3b12", func := "huer/huerlaw01.CryKnown", spec := "cryKnown", unfollowed := true, recurses := true, named := ["huer/cry.kinds"], plainKeys := false, apart := false, laid := [("huer/cry.kinds", laid_huer_cry_kinds)], narrowed := true }
def CryKnownUptoSaid : Prop := cryKnownUptoRow.holds Tryd.pinned (OpenSpec.upto cryKnownSpec)

end Rows
end Go.Proofs.YtmpclgepoemneaaDoor
