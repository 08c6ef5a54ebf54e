/-
  NARROWER THAN 'FOR EVERY INPUT', by the rows' own cells (each row's printed sentence says how): FnClosureNone: laid · FnClosure: laid · FnClosureOne: laid · FnRootOutAll: laid.
  DERIVED. THE GIVEN ROWS OF THIS SEAT. 4 by the template 'for every input the law returns true; each argument reads behind the call as it read before'; 0 by the template 'total and deterministic' (their statements: YtbkkbojncgpkkaaGreatDoorTotals.lean).
  GIVEN WITH THE SEED: the statements are not yours to turn. If you find one false, say at which input.
  Laid BY PROGRAM, IN A SANDBOX (cutbox-rows.mjs): the forced cells as the released guide's own fill.sh prints them over the translation 11696aa61632d89c… (all of the seat's roots in one cut). By AI agents, Wed Nov 11 2026. No macro, syntax, notation, axiom, sorry.
-/
import Derived.Test.YtbkkbojncgpkkaaGreatDoorChecked
import GoSem.PinnedTables
import GoSem.Claim
import GoSem.ClaimJoined
import GoSem.ClaimMapViews
import Derived.JoinedTies
import Derived.KernelRfl
namespace Go.Proofs.YtbkkbojncgpkkaaGreatDoor
/- THE CELL 'sum', in the pinned program and in every row, IS THE sha256 OF THE DUMP (.gsa) THAT YtbkkbojncgpkkaaGreatDoorProg.lean LOADS. Nothing in Lean hashes anything: it is a label: what it is worth is what the hold of that sum in a sandbox is worth. -/
noncomputable def Tryz.pinned : Pinned := { name := "ytbkkbojncgpkkaagreatdoor", sum := "11696aa61632d89cef008c2bf27546f607575e87e6b303f3ca9c1334cc6065f0", checked := Tryz.checked }
namespace Rows
def none {H : Type} : Left H := { results := [], args := [] }

/- WHAT THE LISTED PACKAGE-LEVEL VARIABLES READ AS WHEN THE CALL BEGINS. Each datum BY PROGRAM (the guide's laid-datum.mjs) off the statement by which the dump's own 'gosem.cut.vars' lays the variable. In a bare row this is a premise. The card (YtbkkbojncgpkkaaGreatDoorCards.lean) ties it to the program's text. -/
def laid_unicode_utf8_acceptRanges {H : Type} : DataW H := .agg [.agg [.lit (.int .u8 128), .lit (.int .u8 191)], .agg [.lit (.int .u8 160), .lit (.int .u8 191)], .agg [.lit (.int .u8 128), .lit (.int .u8 159)], .agg [.lit (.int .u8 144), .lit (.int .u8 191)], .agg [.lit (.int .u8 128), .lit (.int .u8 143)], .agg [.lit (.int .u8 0), .lit (.int .u8 0)], .agg [.lit (.int .u8 0), .lit (.int .u8 0)], .agg [.lit (.int .u8 0), .lit (.int .u8 0)], .agg [.lit (.int .u8 0), .lit (.int .u8 0)], .agg [.lit (.int .u8 0), .lit (.int .u8 0)], .agg [.lit (.int .u8 0), .lit (.int .u8 0)], .agg [.lit (.int .u8 0), .lit (.int .u8 0)], .agg [.lit (.int .u8 0), .lit (.int .u8 0)], .agg [.lit (.int .u8 0), .lit (.int .u8 0)], .agg [.lit (.int .u8 0), .lit (.int .u8 0)], .agg [.lit (.int .u8 0), .lit (.int .u8 0)]]
/-- One of Go's own tables, pinned by name: the form's constant. -/
def laid_unicode_utf8_first : DataW Unit := Go.Pinned.utf8First

/-- 'laws.FnClosureNone': WHATEVER THE INPUT: true; the input reads as it did. -/
def fnClosureNoneSpec : ChangeSpec := { name := "fnClosureNone", fn := fun _ => fun
  | [d] => { results := [.lit (.bool true)], args := [d] }
  | _ => none }
def fnClosureNoneRow : OpenClaim := { program := "ytbkkbojncgpkkaagreatdoor", sum := "11696aa61632d89cef008c2bf27546f607575e87e6b303f3ca9c1334cc6065f0", func := "loop.example/jackstay/laws.FnClosureNone", spec := "fnClosureNone", inPlace := ["internal/bytealg.IndexByteString", "internal/bytealg.IndexString"], unfollowed := true, recurses := true, named := ["unicode/utf8.first", "unicode/utf8.acceptRanges", "internal/bytealg.MaxLen"], apart := false, laid := [("unicode/utf8.acceptRanges", laid_unicode_utf8_acceptRanges), ("unicode/utf8.first", laid_unicode_utf8_first)] }
def FnClosureNoneSaid : Prop := fnClosureNoneRow.holds Tryz.pinned (OpenSpec.ofChange fnClosureNoneSpec)

/-- ITS FALSE NEIGHBOUR: 'it returns false'. Refute it at one input. -/
def fnClosureNoneWrong : ChangeSpec := { name := "fnClosureNone", fn := fun _ => fun
  | [d] => { results := [.lit (.bool false)], args := [d] }
  | _ => none }
def FnClosureNoneWrongFalsely : Prop := fnClosureNoneRow.holds Tryz.pinned (OpenSpec.ofChange fnClosureNoneWrong)

/-- 'laws.FnClosure': WHATEVER THE INPUT: true; the input reads as it did. -/
def fnClosureSpec : ChangeSpec := { name := "fnClosure", fn := fun _ => fun
  | [d] => { results := [.lit (.bool true)], args := [d] }
  | _ => none }
def fnClosureRow : OpenClaim := { program := "ytbkkbojncgpkkaagreatdoor", sum := "11696aa61632d89cef008c2bf27546f607575e87e6b303f3ca9c1334cc6065f0", func := "loop.example/jackstay/laws.FnClosure", spec := "fnClosure", inPlace := ["internal/bytealg.IndexByteString", "internal/bytealg.IndexString"], unfollowed := true, recurses := true, named := ["unicode/utf8.first", "unicode/utf8.acceptRanges", "internal/bytealg.MaxLen"], apart := false, laid := [("unicode/utf8.acceptRanges", laid_unicode_utf8_acceptRanges), ("unicode/utf8.first", laid_unicode_utf8_first)] }
def FnClosureSaid : Prop := fnClosureRow.holds Tryz.pinned (OpenSpec.ofChange fnClosureSpec)

/-- ITS FALSE NEIGHBOUR: 'it returns false'. Refute it at one input. -/
def fnClosureWrong : ChangeSpec := { name := "fnClosure", fn := fun _ => fun
  | [d] => { results := [.lit (.bool false)], args := [d] }
  | _ => none }
def FnClosureWrongFalsely : Prop := fnClosureRow.holds Tryz.pinned (OpenSpec.ofChange fnClosureWrong)

/-- 'laws.FnClosureOne': WHATEVER THE INPUT: true; the input reads as it did. -/
def fnClosureOneSpec : ChangeSpec := { name := "fnClosureOne", fn := fun _ => fun
  | [d] => { results := [.lit (.bool true)], args := [d] }
  | _ => none }
def fnClosureOneRow : OpenClaim := { program := "ytbkkbojncgpkkaagreatdoor", sum := "11696aa61632d89cef008c2bf27546f607575e87e6b303f3ca9c1334cc6065f0", func := "loop.example/jackstay/laws.FnClosureOne", spec := "fnClosureOne", inPlace := ["internal/bytealg.IndexByteString", "internal/bytealg.IndexString"], unfollowed := true, recurses := true, named := ["unicode/utf8.first", "unicode/utf8.acceptRanges", "internal/bytealg.MaxLen"], apart := false, laid := [("unicode/utf8.acceptRanges", laid_unicode_utf8_acceptRanges), ("unicode/utf8.first", laid_unicode_utf8_first)] }
def FnClosureOneSaid : Prop := fnClosureOneRow.holds Tryz.pinned (OpenSpec.ofChange fnClosureOneSpec)

/-- ITS FALSE NEIGHBOUR: 'it returns false'. Refute it at one input. -/
def fnClosureOneWrong : ChangeSpec := { name := "fnClosureOne", fn := fun _ => fun
  | [d] => { results := [.lit (.bool false)], args := [d] }
  | _ => none }
def FnClosureOneWrongFalsely : Prop := fnClosureOneRow.holds Tryz.pinned (OpenSpec.ofChange fnClosureOneWrong)

/-- 'laws.FnRootOutAll': WHATEVER THE INPUT: true; the input reads as it did. -/
def fnRootOutAllSpec : ChangeSpec := { name := "fnRootOutAll", fn := fun _ => fun
  | [d] => { results := [.lit (.bool true)], args := [d] }
  | _ => none }
def fnRootOutAllRow : OpenClaim := { program := "ytbkkbojncgpkkaagreatdoor", sum := "11696aa61632d89cef008c2bf27546f607575e87e6b303f3ca9c1334cc6065f0", func := "loop.example/jackstay/laws.FnRootOutAll", spec := "fnRootOutAll", inPlace := ["internal/bytealg.IndexByteString", "internal/bytealg.IndexString", "slices.overlaps[loop.example/jackstay/impl.Entry]"], unfollowed := true, recurses := true, named := ["unicode/utf8.first", "unicode/utf8.acceptRanges", "internal/bytealg.MaxLen"], apart := false, laid := [("unicode/utf8.acceptRanges", laid_unicode_utf8_acceptRanges), ("unicode/utf8.first", laid_unicode_utf8_first)] }
def FnRootOutAllSaid : Prop := fnRootOutAllRow.holds Tryz.pinned (OpenSpec.ofChange fnRootOutAllSpec)

/-- ITS FALSE NEIGHBOUR: 'it returns false'. Refute it at one input. -/
def fnRootOutAllWrong : ChangeSpec := { name := "fnRootOutAll", fn := fun _ => fun
  | [d] => { results := [.lit (.bool false)], args := [d] }
  | _ => none }
def FnRootOutAllWrongFalsely : Prop := fnRootOutAllRow.holds Tryz.pinned (OpenSpec.ofChange fnRootOutAllWrong)

/- THE SECOND FORM. 'bulk': how many values and letters a reading holds, each counted each time it is reached (what is shared counts as often as it is met; a slice's spare places count too). A statement '..UptoSaid' is the law's where the arguments, and the package variables that the reading takes, are together of bulk at most 1048576: NARROWER than '..Said'. Prove '..Said' where nothing that the law and all that it calls make is longer than what came in: it says more and counts as full. Else prove '..UptoSaid'. A law counts once. -/
mutual
def uptoBulk {H : Type} : DataW H → Nat
  | .lit (.string bytes) => bytes.length + 1
  | .lit _ => 1
  | .nil => 1
  | .ptr d => uptoBulk d + 1
  | .slice elems spare => uptoBulkAll elems + uptoBulkAll spare + 1
  | .agg parts => uptoBulkAll parts + 1
  | .iface _ d => uptoBulk d + 1
  | .map entries => uptoBulkEntries entries + 1
  | .held _ => 1
def uptoBulkAll {H : Type} : List (DataW H) → Nat
  | [] => 0
  | d :: r => uptoBulk d + uptoBulkAll r
def uptoBulkEntries {H : Type} : List (Lit × DataW H) → Nat
  | [] => 0
  | x :: r => uptoBulkEntry x + uptoBulkEntries r
def uptoBulkEntry {H : Type} : Lit × DataW H → Nat
  | (.string bytes, d) => bytes.length + uptoBulk d + 1
  | (_, d) => uptoBulk d + 1
 end
def uptoSmall : (H : Type) → List (DataW H) → Bool := fun _ ds => decide (uptoBulkAll ds ≤ 1048576)
def OpenSpec.upto (s : _root_.Go.ChangeSpec) : _root_.Go.OpenSpec := { _root_.Go.OpenSpec.ofChange s with cond := some uptoSmall }

/-- 'laws.FnClosureNone', WHERE WHAT IT READS IS OF BULK AT MOST 1048576: true; the input reads as it did. -/
def fnClosureNoneUptoRow : OpenClaim := { program := "ytbkkbojncgpkkaagreatdoor", sum := "11696aa61632d89cef008c2bf27546f607575e87e6b303f3ca9c1334cc6065f0", func := "loop.example/jackstay/laws.FnClosureNone", spec := "fnClosureNone", inPlace := ["internal/bytealg.IndexByteString", "internal/bytealg.IndexString"], unfollowed := true, recurses := true, named := ["unicode/utf8.first", "unicode/utf8.acceptRanges", "internal/bytealg.MaxLen"], apart := false, laid := [("unicode/utf8.acceptRanges", laid_unicode_utf8_acceptRanges), ("unicode/utf8.first", laid_unicode_utf8_first)], narrowed := true }
def FnClosureNoneUptoSaid : Prop := fnClosureNoneUptoRow.holds Tryz.pinned (OpenSpec.upto fnClosureNoneSpec)

/-- 'laws.FnClosure', WHERE WHAT IT READS IS OF BULK AT MOST 1048576: true; the input reads as it did. -/
def fnClosureUptoRow : OpenClaim := { program := "ytbkkbojncgpkkaagreatdoor", sum := "11696aa61632d89cef008c2bf27546f607575e87e6b303f3ca9c1334cc6065f0", func := "loop.example/jackstay/laws.FnClosure", spec := "fnClosure", inPlace := ["internal/bytealg.IndexByteString", "internal/bytealg.IndexString"], unfollowed := true, recurses := true, named := ["unicode/utf8.first", "unicode/utf8.acceptRanges", "internal/bytealg.MaxLen"], apart := false, laid := [("unicode/utf8.acceptRanges", laid_unicode_utf8_acceptRanges), ("unicode/utf8.first", laid_unicode_utf8_first)], narrowed := true }
def FnClosureUptoSaid : Prop := fnClosureUptoRow.holds Tryz.pinned (OpenSpec.upto fnClosureSpec)

/-- 'laws.FnClosureOne', WHERE WHAT IT READS IS OF BULK AT MOST 1048576: true; the input reads as it did. -/
def fnClosureOneUptoRow : OpenClaim := { program := "ytbkkbojncgpkkaagreatdoor", sum := "11696aa61632d89cef008c2bf27546f607575e87e6b303f3ca9c1334cc6065f0", func := "loop.example/jackstay/laws.FnClosureOne", spec := "fnClosureOne", inPlace := ["internal/bytealg.IndexByteString", "internal/bytealg.IndexString"], unfollowed := true, recurses := true, named := ["unicode/utf8.first", "unicode/utf8.acceptRanges", "internal/bytealg.MaxLen"], apart := false, laid := [("unicode/utf8.acceptRanges", laid_unicode_utf8_acceptRanges), ("unicode/utf8.first", laid_unicode_utf8_first)], narrowed := true }
def FnClosureOneUptoSaid : Prop := fnClosureOneUptoRow.holds Tryz.pinned (OpenSpec.upto fnClosureOneSpec)

/-- 'laws.FnRootOutAll', WHERE WHAT IT READS IS OF BULK AT MOST 1048576: true; the input reads as it did. -/
def fnRootOutAllUptoRow : OpenClaim := { program := "ytbkkbojncgpkkaagreatdoor", sum := "11696aa61632d89cef008c2bf27546f607575e87e6b303f3ca9c1334cc6065f0", func := "loop.example/jackstay/laws.FnRootOutAll", spec := "fnRootOutAll", inPlace := ["internal/bytealg.IndexByteString", "internal/bytealg.IndexString", "slices.overlaps[loop.example/jackstay/impl.Entry]"], unfollowed := true, recurses := true, named := ["unicode/utf8.first", "unicode/utf8.acceptRanges", "internal/bytealg.MaxLen"], apart := false, laid := [("unicode/utf8.acceptRanges", laid_unicode_utf8_acceptRanges), ("unicode/utf8.first", laid_unicode_utf8_first)], narrowed := true }
def FnRootOutAllUptoSaid : Prop := fnRootOutAllUptoRow.holds Tryz.pinned (OpenSpec.upto fnRootOutAllSpec)

end Rows
end Go.Proofs.YtbkkbojncgpkkaaGreatDoor
