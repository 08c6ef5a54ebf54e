/-
  NARROWER THAN 'FOR EVERY INPUT', by the rows' own cells (each row's printed sentence says how): FnRootTree: laid · FnRootOwner: laid · FnRootClash: laid · FnRootTwo: laid · FnRootNeeds: laid · FnRootIn: laid · FnRootSwap: laid · FnExactRootOut: laid · FnExactRootIn: laid · FnExactRootSwap: laid · FnRootOutAll: laid · FnRootOut: laid.
  DERIVED. THE GIVEN ROWS OF THIS SEAT. 12 by the template 'for every input the law returns true; each argument reads behind the call as it read before'; 0 by the template 'total and deterministic' (their statements: YtgcbngajjbjjoaaGreatDoorTotals.lean).
  GIVEN WITH THE SEED: the statements are not yours to turn. If you find one false, say at which input.
  Laid BY PROGRAM, IN A SANDBOX (cutbox-rows.mjs): the forced cells as the released guide's own fill.sh prints them over the translation 5728b174184375f8… (all of the seat's roots in one cut). By AI agents, Wed Nov 11 2026. No macro, syntax, notation, axiom, sorry.
-/
import Derived.Test.YtgcbngajjbjjoaaGreatDoorChecked
import GoSem.PinnedTables
import GoSem.Claim
import GoSem.ClaimJoined
import GoSem.ClaimMapViews
import Derived.JoinedTies
import Derived.KernelRfl
namespace Go.Proofs.YtgcbngajjbjjoaaGreatDoor
/- THE CELL 'sum', in the pinned program and in every row, IS THE sha256 OF THE DUMP (.gsa) THAT YtgcbngajjbjjoaaGreatDoorProg.lean LOADS. Nothing in Lean hashes anything: it is a label: what it is worth is what the hold of that sum in a sandbox is worth. -/
noncomputable def Tryz.pinned : Pinned := { name := "ytgcbngajjbjjoaagreatdoor", sum := "5728b174184375f8028d6c3b3fdb9f7ef1d6b0cf628370a6e10a9ef47da6568a", checked := Tryz.checked }
namespace Rows
def none {H : Type} : Left H := { results := [], args := [] }

/- WHAT THE LISTED PACKAGE-LEVEL VARIABLES READ AS WHEN THE CALL BEGINS. Each datum BY PROGRAM (the guide's laid-datum.mjs) off the statement by which the dump's own 'gosem.cut.vars' lays the variable. In a bare row this is a premise. The card (YtgcbngajjbjjoaaGreatDoorCards.lean) ties it to the program's text. -/
def laid_unicode_utf8_acceptRanges {H : Type} : DataW H := .agg [.agg [.lit (.int .u8 128), .lit (.int .u8 191)], .agg [.lit (.int .u8 160), .lit (.int .u8 191)], .agg [.lit (.int .u8 128), .lit (.int .u8 159)], .agg [.lit (.int .u8 144), .lit (.int .u8 191)], .agg [.lit (.int .u8 128), .lit (.int .u8 143)], .agg [.lit (.int .u8 0), .lit (.int .u8 0)], .agg [.lit (.int .u8 0), .lit (.int .u8 0)], .agg [.lit (.int .u8 0), .lit (.int .u8 0)], .agg [.lit (.int .u8 0), .lit (.int .u8 0)], .agg [.lit (.int .u8 0), .lit (.int .u8 0)], .agg [.lit (.int .u8 0), .lit (.int .u8 0)], .agg [.lit (.int .u8 0), .lit (.int .u8 0)], .agg [.lit (.int .u8 0), .lit (.int .u8 0)], .agg [.lit (.int .u8 0), .lit (.int .u8 0)], .agg [.lit (.int .u8 0), .lit (.int .u8 0)], .agg [.lit (.int .u8 0), .lit (.int .u8 0)]]
/-- One of Go's own tables, pinned by name: the form's constant. -/
def laid_unicode_utf8_first : DataW Unit := Go.Pinned.utf8First

/-- 'laws.FnRootTree': WHATEVER THE INPUT: true; the input reads as it did. -/
def fnRootTreeSpec : ChangeSpec := { name := "fnRootTree", fn := fun _ => fun
  | [d] => { results := [.lit (.bool true)], args := [d] }
  | _ => none }
def fnRootTreeRow : OpenClaim := { program := "ytgcbngajjbjjoaagreatdoor", sum := "5728b174184375f8028d6c3b3fdb9f7ef1d6b0cf628370a6e10a9ef47da6568a", func := "loop.example/jackstay/laws.FnRootTree", spec := "fnRootTree", inPlace := ["internal/bytealg.IndexByteString", "internal/bytealg.IndexString", "slices.overlaps[loop.example/jackstay/impl.Entry]"], unfollowed := true, recurses := true, named := ["unicode/utf8.first", "unicode/utf8.acceptRanges", "internal/bytealg.MaxLen"], apart := false, laid := [("unicode/utf8.acceptRanges", laid_unicode_utf8_acceptRanges), ("unicode/utf8.first", laid_unicode_utf8_first)] }
def FnRootTreeSaid : Prop := fnRootTreeRow.holds Tryz.pinned (OpenSpec.ofChange fnRootTreeSpec)

/-- ITS FALSE NEIGHBOUR: 'it returns false'. Refute it at one input. -/
def fnRootTreeWrong : ChangeSpec := { name := "fnRootTree", fn := fun _ => fun
  | [d] => { results := [.lit (.bool false)], args := [d] }
  | _ => none }
def FnRootTreeWrongFalsely : Prop := fnRootTreeRow.holds Tryz.pinned (OpenSpec.ofChange fnRootTreeWrong)

/-- 'laws.FnRootOwner': WHATEVER THE INPUT: true; the input reads as it did. -/
def fnRootOwnerSpec : ChangeSpec := { name := "fnRootOwner", fn := fun _ => fun
  | [d] => { results := [.lit (.bool true)], args := [d] }
  | _ => none }
def fnRootOwnerRow : OpenClaim := { program := "ytgcbngajjbjjoaagreatdoor", sum := "5728b174184375f8028d6c3b3fdb9f7ef1d6b0cf628370a6e10a9ef47da6568a", func := "loop.example/jackstay/laws.FnRootOwner", spec := "fnRootOwner", inPlace := ["internal/bytealg.IndexByteString", "internal/bytealg.IndexString", "slices.overlaps[loop.example/jackstay/impl.Entry]"], unfollowed := true, recurses := true, named := ["unicode/utf8.first", "unicode/utf8.acceptRanges", "internal/bytealg.MaxLen"], apart := false, laid := [("unicode/utf8.acceptRanges", laid_unicode_utf8_acceptRanges), ("unicode/utf8.first", laid_unicode_utf8_first)] }
def FnRootOwnerSaid : Prop := fnRootOwnerRow.holds Tryz.pinned (OpenSpec.ofChange fnRootOwnerSpec)

/-- ITS FALSE NEIGHBOUR: 'it returns false'. Refute it at one input. -/
def fnRootOwnerWrong : ChangeSpec := { name := "fnRootOwner", fn := fun _ => fun
  | [d] => { results := [.lit (.bool false)], args := [d] }
  | _ => none }
def FnRootOwnerWrongFalsely : Prop := fnRootOwnerRow.holds Tryz.pinned (OpenSpec.ofChange fnRootOwnerWrong)

/-- 'laws.FnRootClash': WHATEVER THE INPUT: true; the input reads as it did. -/
def fnRootClashSpec : ChangeSpec := { name := "fnRootClash", fn := fun _ => fun
  | [d] => { results := [.lit (.bool true)], args := [d] }
  | _ => none }
def fnRootClashRow : OpenClaim := { program := "ytgcbngajjbjjoaagreatdoor", sum := "5728b174184375f8028d6c3b3fdb9f7ef1d6b0cf628370a6e10a9ef47da6568a", func := "loop.example/jackstay/laws.FnRootClash", spec := "fnRootClash", inPlace := ["internal/bytealg.IndexByteString", "internal/bytealg.IndexString", "slices.overlaps[loop.example/jackstay/impl.Entry]", "slices.overlaps[loop.example/jackstay/impl.Pack]"], unfollowed := true, recurses := true, named := ["unicode/utf8.first", "unicode/utf8.acceptRanges", "internal/bytealg.MaxLen"], apart := false, laid := [("unicode/utf8.acceptRanges", laid_unicode_utf8_acceptRanges), ("unicode/utf8.first", laid_unicode_utf8_first)] }
def FnRootClashSaid : Prop := fnRootClashRow.holds Tryz.pinned (OpenSpec.ofChange fnRootClashSpec)

/-- ITS FALSE NEIGHBOUR: 'it returns false'. Refute it at one input. -/
def fnRootClashWrong : ChangeSpec := { name := "fnRootClash", fn := fun _ => fun
  | [d] => { results := [.lit (.bool false)], args := [d] }
  | _ => none }
def FnRootClashWrongFalsely : Prop := fnRootClashRow.holds Tryz.pinned (OpenSpec.ofChange fnRootClashWrong)

/-- 'laws.FnRootTwo': WHATEVER THE INPUT: true; the input reads as it did. -/
def fnRootTwoSpec : ChangeSpec := { name := "fnRootTwo", fn := fun _ => fun
  | [d1, d2] => { results := [.lit (.bool true)], args := [d1, d2] }
  | _ => none }
def fnRootTwoRow : OpenClaim := { program := "ytgcbngajjbjjoaagreatdoor", sum := "5728b174184375f8028d6c3b3fdb9f7ef1d6b0cf628370a6e10a9ef47da6568a", func := "loop.example/jackstay/laws.FnRootTwo", spec := "fnRootTwo", inPlace := ["internal/bytealg.IndexByteString", "internal/bytealg.IndexString", "slices.overlaps[loop.example/jackstay/impl.Entry]", "slices.overlaps[loop.example/jackstay/impl.Pack]"], unfollowed := true, recurses := true, named := ["unicode/utf8.first", "unicode/utf8.acceptRanges", "internal/bytealg.MaxLen"], apart := false, laid := [("unicode/utf8.acceptRanges", laid_unicode_utf8_acceptRanges), ("unicode/utf8.first", laid_unicode_utf8_first)] }
def FnRootTwoSaid : Prop := fnRootTwoRow.holds Tryz.pinned (OpenSpec.ofChange fnRootTwoSpec)

/-- ITS FALSE NEIGHBOUR: 'it returns false'. Refute it at one input. -/
def fnRootTwoWrong : ChangeSpec := { name := "fnRootTwo", fn := fun _ => fun
  | [d1, d2] => { results := [.lit (.bool false)], args := [d1, d2] }
  | _ => none }
def FnRootTwoWrongFalsely : Prop := fnRootTwoRow.holds Tryz.pinned (OpenSpec.ofChange fnRootTwoWrong)

/-- 'laws.FnRootNeeds': WHATEVER THE INPUT: true; the input reads as it did. -/
def fnRootNeedsSpec : ChangeSpec := { name := "fnRootNeeds", fn := fun _ => fun
  | [d] => { results := [.lit (.bool true)], args := [d] }
  | _ => none }
def fnRootNeedsRow : OpenClaim := { program := "ytgcbngajjbjjoaagreatdoor", sum := "5728b174184375f8028d6c3b3fdb9f7ef1d6b0cf628370a6e10a9ef47da6568a", func := "loop.example/jackstay/laws.FnRootNeeds", spec := "fnRootNeeds", inPlace := ["internal/bytealg.IndexByteString", "internal/bytealg.IndexString", "slices.overlaps[loop.example/jackstay/impl.Entry]", "slices.overlaps[loop.example/jackstay/impl.Pack]"], unfollowed := true, recurses := true, named := ["unicode/utf8.first", "unicode/utf8.acceptRanges", "internal/bytealg.MaxLen"], apart := false, laid := [("unicode/utf8.acceptRanges", laid_unicode_utf8_acceptRanges), ("unicode/utf8.first", laid_unicode_utf8_first)] }
def FnRootNeedsSaid : Prop := fnRootNeedsRow.holds Tryz.pinned (OpenSpec.ofChange fnRootNeedsSpec)

/-- ITS FALSE NEIGHBOUR: 'it returns false'. Refute it at one input. -/
def fnRootNeedsWrong : ChangeSpec := { name := "fnRootNeeds", fn := fun _ => fun
  | [d] => { results := [.lit (.bool false)], args := [d] }
  | _ => none }
def FnRootNeedsWrongFalsely : Prop := fnRootNeedsRow.holds Tryz.pinned (OpenSpec.ofChange fnRootNeedsWrong)

/-- 'laws.FnRootIn': WHATEVER THE INPUT: true; the input reads as it did. -/
def fnRootInSpec : ChangeSpec := { name := "fnRootIn", fn := fun _ => fun
  | [d] => { results := [.lit (.bool true)], args := [d] }
  | _ => none }
def fnRootInRow : OpenClaim := { program := "ytgcbngajjbjjoaagreatdoor", sum := "5728b174184375f8028d6c3b3fdb9f7ef1d6b0cf628370a6e10a9ef47da6568a", func := "loop.example/jackstay/laws.FnRootIn", spec := "fnRootIn", inPlace := ["internal/bytealg.IndexByteString", "internal/bytealg.IndexString", "slices.overlaps[loop.example/jackstay/impl.Entry]", "slices.overlaps[loop.example/jackstay/impl.Pack]"], unfollowed := true, recurses := true, named := ["unicode/utf8.first", "unicode/utf8.acceptRanges", "internal/bytealg.MaxLen"], apart := false, laid := [("unicode/utf8.acceptRanges", laid_unicode_utf8_acceptRanges), ("unicode/utf8.first", laid_unicode_utf8_first)] }
def FnRootInSaid : Prop := fnRootInRow.holds Tryz.pinned (OpenSpec.ofChange fnRootInSpec)

/-- ITS FALSE NEIGHBOUR: 'it returns false'. Refute it at one input. -/
def fnRootInWrong : ChangeSpec := { name := "fnRootIn", fn := fun _ => fun
  | [d] => { results := [.lit (.bool false)], args := [d] }
  | _ => none }
def FnRootInWrongFalsely : Prop := fnRootInRow.holds Tryz.pinned (OpenSpec.ofChange fnRootInWrong)

/-- 'laws.FnRootSwap': WHATEVER THE INPUT: true; the input reads as it did. -/
def fnRootSwapSpec : ChangeSpec := { name := "fnRootSwap", fn := fun _ => fun
  | [d] => { results := [.lit (.bool true)], args := [d] }
  | _ => none }
def fnRootSwapRow : OpenClaim := { program := "ytgcbngajjbjjoaagreatdoor", sum := "5728b174184375f8028d6c3b3fdb9f7ef1d6b0cf628370a6e10a9ef47da6568a", func := "loop.example/jackstay/laws.FnRootSwap", spec := "fnRootSwap", inPlace := ["internal/bytealg.IndexByteString", "internal/bytealg.IndexString", "slices.overlaps[loop.example/jackstay/impl.Entry]", "slices.overlaps[loop.example/jackstay/impl.Pack]"], unfollowed := true, recurses := true, named := ["unicode/utf8.first", "unicode/utf8.acceptRanges", "internal/bytealg.MaxLen"], apart := false, laid := [("unicode/utf8.acceptRanges", laid_unicode_utf8_acceptRanges), ("unicode/utf8.first", laid_unicode_utf8_first)] }
def FnRootSwapSaid : Prop := fnRootSwapRow.holds Tryz.pinned (OpenSpec.ofChange fnRootSwapSpec)

/-- ITS FALSE NEIGHBOUR: 'it returns false'. Refute it at one input. -/
def fnRootSwapWrong : ChangeSpec := { name := "fnRootSwap", fn := fun _ => fun
  | [d] => { results := [.lit (.bool false)], args := [d] }
  | _ => none }
def FnRootSwapWrongFalsely : Prop := fnRootSwapRow.holds Tryz.pinned (OpenSpec.ofChange fnRootSwapWrong)

/-- 'laws.FnExactRootOut': WHATEVER THE INPUT: true; the input reads as it did. -/
def fnExactRootOutSpec : ChangeSpec := { name := "fnExactRootOut", fn := fun _ => fun
  | [d1, d2] => { results := [.lit (.bool true)], args := [d1, d2] }
  | _ => none }
def fnExactRootOutRow : OpenClaim := { program := "ytgcbngajjbjjoaagreatdoor", sum := "5728b174184375f8028d6c3b3fdb9f7ef1d6b0cf628370a6e10a9ef47da6568a", func := "loop.example/jackstay/laws.FnExactRootOut", spec := "fnExactRootOut", inPlace := ["internal/bytealg.IndexByteString", "internal/bytealg.IndexString", "slices.overlaps[loop.example/jackstay/impl.Entry]"], unfollowed := true, recurses := true, named := ["unicode/utf8.first", "unicode/utf8.acceptRanges", "internal/bytealg.MaxLen"], apart := false, laid := [("unicode/utf8.acceptRanges", laid_unicode_utf8_acceptRanges), ("unicode/utf8.first", laid_unicode_utf8_first)] }
def FnExactRootOutSaid : Prop := fnExactRootOutRow.holds Tryz.pinned (OpenSpec.ofChange fnExactRootOutSpec)

/-- ITS FALSE NEIGHBOUR: 'it returns false'. Refute it at one input. -/
def fnExactRootOutWrong : ChangeSpec := { name := "fnExactRootOut", fn := fun _ => fun
  | [d1, d2] => { results := [.lit (.bool false)], args := [d1, d2] }
  | _ => none }
def FnExactRootOutWrongFalsely : Prop := fnExactRootOutRow.holds Tryz.pinned (OpenSpec.ofChange fnExactRootOutWrong)

/-- 'laws.FnExactRootIn': WHATEVER THE INPUT: true; the input reads as it did. -/
def fnExactRootInSpec : ChangeSpec := { name := "fnExactRootIn", fn := fun _ => fun
  | [d1, d2] => { results := [.lit (.bool true)], args := [d1, d2] }
  | _ => none }
def fnExactRootInRow : OpenClaim := { program := "ytgcbngajjbjjoaagreatdoor", sum := "5728b174184375f8028d6c3b3fdb9f7ef1d6b0cf628370a6e10a9ef47da6568a", func := "loop.example/jackstay/laws.FnExactRootIn", spec := "fnExactRootIn", inPlace := ["internal/bytealg.IndexByteString", "internal/bytealg.IndexString", "slices.overlaps[loop.example/jackstay/impl.Entry]", "slices.overlaps[loop.example/jackstay/impl.Pack]"], unfollowed := true, recurses := true, named := ["unicode/utf8.first", "unicode/utf8.acceptRanges", "internal/bytealg.MaxLen"], apart := false, laid := [("unicode/utf8.acceptRanges", laid_unicode_utf8_acceptRanges), ("unicode/utf8.first", laid_unicode_utf8_first)] }
def FnExactRootInSaid : Prop := fnExactRootInRow.holds Tryz.pinned (OpenSpec.ofChange fnExactRootInSpec)

/-- ITS FALSE NEIGHBOUR: 'it returns false'. Refute it at one input. -/
def fnExactRootInWrong : ChangeSpec := { name := "fnExactRootIn", fn := fun _ => fun
  | [d1, d2] => { results := [.lit (.bool false)], args := [d1, d2] }
  | _ => none }
def FnExactRootInWrongFalsely : Prop := fnExactRootInRow.holds Tryz.pinned (OpenSpec.ofChange fnExactRootInWrong)

/-- 'laws.FnExactRootSwap': WHATEVER THE INPUT: true; the input reads as it did. -/
def fnExactRootSwapSpec : ChangeSpec := { name := "fnExactRootSwap", fn := fun _ => fun
  | [d1, d2] => { results := [.lit (.bool true)], args := [d1, d2] }
  | _ => none }
def fnExactRootSwapRow : OpenClaim := { program := "ytgcbngajjbjjoaagreatdoor", sum := "5728b174184375f8028d6c3b3fdb9f7ef1d6b0cf628370a6e10a9ef47da6568a", func := "loop.example/jackstay/laws.FnExactRootSwap", spec := "fnExactRootSwap", inPlace := ["internal/bytealg.IndexByteString", "internal/bytealg.IndexString", "slices.overlaps[loop.example/jackstay/impl.Entry]", "slices.overlaps[loop.example/jackstay/impl.Pack]"], unfollowed := true, recurses := true, named := ["unicode/utf8.first", "unicode/utf8.acceptRanges", "internal/bytealg.MaxLen"], apart := false, laid := [("unicode/utf8.acceptRanges", laid_unicode_utf8_acceptRanges), ("unicode/utf8.first", laid_unicode_utf8_first)] }
def FnExactRootSwapSaid : Prop := fnExactRootSwapRow.holds Tryz.pinned (OpenSpec.ofChange fnExactRootSwapSpec)

/-- ITS FALSE NEIGHBOUR: 'it returns false'. Refute it at one input. -/
def fnExactRootSwapWrong : ChangeSpec := { name := "fnExactRootSwap", fn := fun _ => fun
  | [d1, d2] => { results := [.lit (.bool false)], args := [d1, d2] }
  | _ => none }
def FnExactRootSwapWrongFalsely : Prop := fnExactRootSwapRow.holds Tryz.pinned (OpenSpec.ofChange fnExactRootSwapWrong)

/-- 'laws.FnRootOutAll': WHATEVER THE INPUT: true; the input reads as it did. -/
def fnRootOutAllSpec : ChangeSpec := { name := "fnRootOutAll", fn := fun _ => fun
  | [d] => { results := [.lit (.bool true)], args := [d] }
  | _ => none }
def fnRootOutAllRow : OpenClaim := { program := "ytgcbngajjbjjoaagreatdoor", sum := "5728b174184375f8028d6c3b3fdb9f7ef1d6b0cf628370a6e10a9ef47da6568a", func := "loop.example/jackstay/laws.FnRootOutAll", spec := "fnRootOutAll", inPlace := ["internal/bytealg.IndexByteString", "internal/bytealg.IndexString", "slices.overlaps[loop.example/jackstay/impl.Entry]"], unfollowed := true, recurses := true, named := ["unicode/utf8.first", "unicode/utf8.acceptRanges", "internal/bytealg.MaxLen"], apart := false, laid := [("unicode/utf8.acceptRanges", laid_unicode_utf8_acceptRanges), ("unicode/utf8.first", laid_unicode_utf8_first)] }
def FnRootOutAllSaid : Prop := fnRootOutAllRow.holds Tryz.pinned (OpenSpec.ofChange fnRootOutAllSpec)

/-- ITS FALSE NEIGHBOUR: 'it returns false'. Refute it at one input. -/
def fnRootOutAllWrong : ChangeSpec := { name := "fnRootOutAll", fn := fun _ => fun
  | [d] => { results := [.lit (.bool false)], args := [d] }
  | _ => none }
def FnRootOutAllWrongFalsely : Prop := fnRootOutAllRow.holds Tryz.pinned (OpenSpec.ofChange fnRootOutAllWrong)

/-- 'laws.FnRootOut': WHATEVER THE INPUT: true; the input reads as it did. -/
def fnRootOutSpec : ChangeSpec := { name := "fnRootOut", fn := fun _ => fun
  | [d] => { results := [.lit (.bool true)], args := [d] }
  | _ => none }
def fnRootOutRow : OpenClaim := { program := "ytgcbngajjbjjoaagreatdoor", sum := "5728b174184375f8028d6c3b3fdb9f7ef1d6b0cf628370a6e10a9ef47da6568a", func := "loop.example/jackstay/laws.FnRootOut", spec := "fnRootOut", inPlace := ["internal/bytealg.IndexByteString", "internal/bytealg.IndexString", "slices.overlaps[loop.example/jackstay/impl.Entry]"], unfollowed := true, recurses := true, named := ["unicode/utf8.first", "unicode/utf8.acceptRanges", "internal/bytealg.MaxLen"], apart := false, laid := [("unicode/utf8.acceptRanges", laid_unicode_utf8_acceptRanges), ("unicode/utf8.first", laid_unicode_utf8_first)] }
def FnRootOutSaid : Prop := fnRootOutRow.holds Tryz.pinned (OpenSpec.ofChange fnRootOutSpec)

/-- ITS FALSE NEIGHBOUR: 'it returns false'. Refute it at one input. -/
def fnRootOutWrong : ChangeSpec := { name := "fnRootOut", fn := fun _ => fun
  | [d] => { results := [.lit (.bool false)], args := [d] }
  | _ => none }
def FnRootOutWrongFalsely : Prop := fnRootOutRow.holds Tryz.pinned (OpenSpec.ofChange fnRootOutWrong)

/- THE SECOND FORM. 'bulk': how many values and letters a reading holds, each counted each time it is reached (what is shared counts as often as it is met; a slice's spare places count too). A statement '..UptoSaid' is the law's where the arguments, and the package variables that the reading takes, are together of bulk at most 1048576: NARROWER than '..Said'. Prove '..Said' where nothing that the law and all that it calls make is longer than what came in: it says more and counts as full. Else prove '..UptoSaid'. A law counts once. -/
mutual
def uptoBulk {H : Type} : DataW H → Nat
  | .lit (.string bytes) => bytes.length + 1
  | .lit _ => 1
  | .nil => 1
  | .ptr d => uptoBulk d + 1
  | .slice elems spare => uptoBulkAll elems + uptoBulkAll spare + 1
  | .agg parts => uptoBulkAll parts + 1
  | .iface _ d => uptoBulk d + 1
  | .map entries => uptoBulkEntries entries + 1
  | .held _ => 1
def uptoBulkAll {H : Type} : List (DataW H) → Nat
  | [] => 0
  | d :: r => uptoBulk d + uptoBulkAll r
def uptoBulkEntries {H : Type} : List (Lit × DataW H) → Nat
  | [] => 0
  | x :: r => uptoBulkEntry x + uptoBulkEntries r
def uptoBulkEntry {H : Type} : Lit × DataW H → Nat
  | (.string bytes, d) => bytes.length + uptoBulk d + 1
  | (_, d) => uptoBulk d + 1
 end
def uptoSmall : (H : Type) → List (DataW H) → Bool := fun _ ds => decide (uptoBulkAll ds ≤ 1048576)
def OpenSpec.upto (s : _root_.Go.ChangeSpec) : _root_.Go.OpenSpec := { _root_.Go.OpenSpec.ofChange s with cond := some uptoSmall }

/-- 'laws.FnRootTree', WHERE WHAT IT READS IS OF BULK AT MOST 1048576: true; the input reads as it did. -/
def fnRootTreeUptoRow : OpenClaim := { program := "ytgcbngajjbjjoaagreatdoor", sum := "5728b174184375f8028d6c3b3fdb9f7ef1d6b0cf628370a6e10a9ef47da6568a", func := "loop.example/jackstay/laws.FnRootTree", spec := "fnRootTree", inPlace := ["internal/bytealg.IndexByteString", "internal/bytealg.IndexString", "slices.overlaps[loop.example/jackstay/impl.Entry]"], unfollowed := true, recurses := true, named := ["unicode/utf8.first", "unicode/utf8.acceptRanges", "internal/bytealg.MaxLen"], apart := false, laid := [("unicode/utf8.acceptRanges", laid_unicode_utf8_acceptRanges), ("unicode/utf8.first", laid_unicode_utf8_first)], narrowed := true }
def FnRootTreeUptoSaid : Prop := fnRootTreeUptoRow.holds Tryz.pinned (OpenSpec.upto fnRootTreeSpec)

/-- 'laws.FnRootOwner', WHERE WHAT IT READS IS OF BULK AT MOST 1048576: true; the input reads as it did. -/
def fnRootOwnerUptoRow : OpenClaim := { program := "ytgcbngajjbjjoaagreatdoor", sum := "5728b174184375f8028d6c3b3fdb9f7ef1d6b0cf628370a6e10a9ef47da6568a", func := "loop.example/jackstay/laws.FnRootOwner", spec := "fnRootOwner", inPlace := ["internal/bytealg.IndexByteString", "internal/bytealg.IndexString", "slices.overlaps[loop.example/jackstay/impl.Entry]"], unfollowed := true, recurses := true, named := ["unicode/utf8.first", "unicode/utf8.acceptRanges", "internal/bytealg.MaxLen"], apart := false, laid := [("unicode/utf8.acceptRanges", laid_unicode_utf8_acceptRanges), ("unicode/utf8.first", laid_unicode_utf8_first)], narrowed := true }
def FnRootOwnerUptoSaid : Prop := fnRootOwnerUptoRow.holds Tryz.pinned (OpenSpec.upto fnRootOwnerSpec)

/-- 'laws.FnRootClash', WHERE WHAT IT READS IS OF BULK AT MOST 1048576: true; the input reads as it did. -/
def fnRootClashUptoRow : OpenClaim := { program := "ytgcbngajjbjjoaagreatdoor", sum := "5728b174184375f8028d6c3b3fdb9f7ef1d6b0cf628370a6e10a9ef47da6568a", func := "loop.example/jackstay/laws.FnRootClash", spec := "fnRootClash", inPlace := ["internal/bytealg.IndexByteString", "internal/bytealg.IndexString", "slices.overlaps[loop.example/jackstay/impl.Entry]", "slices.overlaps[loop.example/jackstay/impl.Pack]"], unfollowed := true, recurses := true, named := ["unicode/utf8.first", "unicode/utf8.acceptRanges", "internal/bytealg.MaxLen"], apart := false, laid := [("unicode/utf8.acceptRanges", laid_unicode_utf8_acceptRanges), ("unicode/utf8.first", laid_unicode_utf8_first)], narrowed := true }
def FnRootClashUptoSaid : Prop := fnRootClashUptoRow.holds Tryz.pinned (OpenSpec.upto fnRootClashSpec)

/-- 'laws.FnRootTwo', WHERE WHAT IT READS IS OF BULK AT MOST 1048576: true; the input reads as it did. -/
def fnRootTwoUptoRow : OpenClaim := { program := "ytgcbngajjbjjoaagreatdoor", sum := "5728b174184375f8028d6c3b3fdb9f7ef1d6b0cf628370a6e10a9ef47da6568a", func := "loop.example/jackstay/laws.FnRootTwo", spec := "fnRootTwo", inPlace := ["internal/bytealg.IndexByteString", "internal/bytealg.IndexString", "slices.overlaps[loop.example/jackstay/impl.Entry]", "slices.overlaps[loop.example/jackstay/impl.Pack]"], unfollowed := true, recurses := true, named := ["unicode/utf8.first", "unicode/utf8.acceptRanges", "internal/bytealg.MaxLen"], apart := false, laid := [("unicode/utf8.acceptRanges", laid_unicode_utf8_acceptRanges), ("unicode/utf8.first", laid_unicode_utf8_first)], narrowed := true }
def FnRootTwoUptoSaid : Prop := fnRootTwoUptoRow.holds Tryz.pinned (OpenSpec.upto fnRootTwoSpec)

/-- 'laws.FnRootNeeds', WHERE WHAT IT READS IS OF BULK AT MOST 1048576: true; the input reads as it did. -/
def fnRootNeedsUptoRow : OpenClaim := { program := "ytgcbngajjbjjoaagreatdoor", sum := "5728b174184375f8028d6c3b3fdb9f7ef1d6b0cf628370a6e10a9ef47da6568a", func := "loop.example/jackstay/laws.FnRootNeeds", spec := "fnRootNeeds", inPlace := ["internal/bytealg.IndexByteString", "internal/bytealg.IndexString", "slices.overlaps[loop.example/jackstay/impl.Entry]", "slices.overlaps[loop.example/jackstay/impl.Pack]"], unfollowed := true, recurses := true, named := ["unicode/utf8.first", "unicode/utf8.acceptRanges", "internal/bytealg.MaxLen"], apart := false, laid := [("unicode/utf8.acceptRanges", laid_unicode_utf8_acceptRanges), ("unicode/utf8.first", laid_unicode_utf8_first)], narrowed := true }
def FnRootNeedsUptoSaid : Prop := fnRootNeedsUptoRow.holds Tryz.pinned (OpenSpec.upto fnRootNeedsSpec)

/-- 'laws.FnRootIn', WHERE WHAT IT READS IS OF BULK AT MOST 1048576: true; the input reads as it did. -/
def fnRootInUptoRow : OpenClaim := { program := "ytgcbngajjbjjoaagreatdoor", sum := "5728b174184375f8028d6c3b3fdb9f7ef1d6b0cf628370a6e10a9ef47da6568a", func := "loop.example/jackstay/laws.FnRootIn", spec := "fnRootIn", inPlace := ["internal/bytealg.IndexByteString", "internal/bytealg.IndexString", "slices.overlaps[loop.example/jackstay/impl.Entry]", "slices.overlaps[loop.example/jackstay/impl.Pack]"], unfollowed := true, recurses := true, named := ["unicode/utf8.first", "unicode/utf8.acceptRanges", "internal/bytealg.MaxLen"], apart := false, laid := [("unicode/utf8.acceptRanges", laid_unicode_utf8_acceptRanges), ("unicode/utf8.first", laid_unicode_utf8_first)], narrowed := true }
def FnRootInUptoSaid : Prop := fnRootInUptoRow.holds Tryz.pinned (OpenSpec.upto fnRootInSpec)

/-- 'laws.FnRootSwap', WHERE WHAT IT READS IS OF BULK AT MOST 1048576: true; the input reads as it did. -/
def fnRootSwapUptoRow : OpenClaim := { program := "ytgcbngajjbjjoaagreatdoor", sum := "5728b174184375f8028d6c3b3fdb9f7ef1d6b0cf628370a6e10a9ef47da6568a", func := "loop.example/jackstay/laws.FnRootSwap", spec := "fnRootSwap", inPlace := ["internal/bytealg.IndexByteString", "internal/bytealg.IndexString", "slices.overlaps[loop.example/jackstay/impl.Entry]", "slices.overlaps[loop.example/jackstay/impl.Pack]"], unfollowed := true, recurses := true, named := ["unicode/utf8.first", "unicode/utf8.acceptRanges", "internal/bytealg.MaxLen"], apart := false, laid := [("unicode/utf8.acceptRanges", laid_unicode_utf8_acceptRanges), ("unicode/utf8.first", laid_unicode_utf8_first)], narrowed := true }
def FnRootSwapUptoSaid : Prop := fnRootSwapUptoRow.holds Tryz.pinned (OpenSpec.upto fnRootSwapSpec)

/-- 'laws.FnExactRootOut', WHERE WHAT IT READS IS OF BULK AT MOST 1048576: true; the input reads as it did. -/
def fnExactRootOutUptoRow : OpenClaim := { program := "ytgcbngajjbjjoaagreatdoor", sum := "5728b174184375f8028d6c3b3fdb9f7ef1d6b0cf628370a6e10a9ef47da6568a", func := "loop.example/jackstay/laws.FnExactRootOut", spec := "fnExactRootOut", inPlace := ["internal/bytealg.IndexByteString", "internal/bytealg.IndexString", "slices.overlaps[loop.example/jackstay/impl.Entry]"], unfollowed := true, recurses := true, named := ["unicode/utf8.first", "unicode/utf8.acceptRanges", "internal/bytealg.MaxLen"], apart := false, laid := [("unicode/utf8.acceptRanges", laid_unicode_utf8_acceptRanges), ("unicode/utf8.first", laid_unicode_utf8_first)], narrowed := true }
def FnExactRootOutUptoSaid : Prop := fnExactRootOutUptoRow.holds Tryz.pinned (OpenSpec.upto fnExactRootOutSpec)

/-- 'laws.FnExactRootIn', WHERE WHAT IT READS IS OF BULK AT MOST 1048576: true; the input reads as it did. -/
def fnExactRootInUptoRow : OpenClaim := { program := "ytgcbngajjbjjoaagreatdoor", sum := "5728b174184375f8028d6c3b3fdb9f7ef1d6b0cf628370a6e10a9ef47da6568a", func := "loop.example/jackstay/laws.FnExactRootIn", spec := "fnExactRootIn", inPlace := ["internal/bytealg.IndexByteString", "internal/bytealg.IndexString", "slices.overlaps[loop.example/jackstay/impl.Entry]", "slices.overlaps[loop.example/jackstay/impl.Pack]"], unfollowed := true, recurses := true, named := ["unicode/utf8.first", "unicode/utf8.acceptRanges", "internal/bytealg.MaxLen"], apart := false, laid := [("unicode/utf8.acceptRanges", laid_unicode_utf8_acceptRanges), ("unicode/utf8.first", laid_unicode_utf8_first)], narrowed := true }
def FnExactRootInUptoSaid : Prop := fnExactRootInUptoRow.holds Tryz.pinned (OpenSpec.upto fnExactRootInSpec)

/-- 'laws.FnExactRootSwap', WHERE WHAT IT READS IS OF BULK AT MOST 1048576: true; the input reads as it did. -/
def fnExactRootSwapUptoRow : OpenClaim := { program := "ytgcbngajjbjjoaagreatdoor", sum := "5728b174184375f8028d6c3b3fdb9f7ef1d6b0cf628370a6e10a9ef47da6568a", func := "loop.example/jackstay/laws.FnExactRootSwap", spec := "fnExactRootSwap", inPlace := ["internal/bytealg.IndexByteString", "internal/bytealg.IndexString", "slices.overlaps[loop.example/jackstay/impl.Entry]", "slices.overlaps[loop.example/jackstay/impl.Pack]"], unfollowed := true, recurses := true, named := ["unicode/utf8.first", "unicode/utf8.acceptRanges", "internal/bytealg.MaxLen"], apart := false, laid := [("unicode/utf8.acceptRanges", laid_unicode_utf8_acceptRanges), ("unicode/utf8.first", laid_unicode_utf8_first)], narrowed := true }
def FnExactRootSwapUptoSaid : Prop := fnExactRootSwapUptoRow.holds Tryz.pinned (OpenSpec.upto fnExactRootSwapSpec)

/-- 'laws.FnRootOutAll', WHERE WHAT IT READS IS OF BULK AT MOST 1048576: true; the input reads as it did. -/
def fnRootOutAllUptoRow : OpenClaim := { program := "ytgcbngajjbjjoaagreatdoor", sum := "5728b174184375f8028d6c3b3fdb9f7ef1d6b0cf628370a6e10a9ef47da6568a", func := "loop.example/jackstay/laws.FnRootOutAll", spec := "fnRootOutAll", inPlace := ["internal/bytealg.IndexByteString", "internal/bytealg.IndexString", "slices.overlaps[loop.example/jackstay/impl.Entry]"], unfollowed := true, recurses := true, named := ["unicode/utf8.first", "unicode/utf8.acceptRanges", "internal/bytealg.MaxLen"], apart := false, laid := [("unicode/utf8.acceptRanges", laid_unicode_utf8_acceptRanges), ("unicode/utf8.first", laid_unicode_utf8_first)], narrowed := true }
def FnRootOutAllUptoSaid : Prop := fnRootOutAllUptoRow.holds Tryz.pinned (OpenSpec.upto fnRootOutAllSpec)

/-- 'laws.FnRootOut', WHERE WHAT IT READS IS OF BULK AT MOST 1048576: true; the input reads as it did. -/
def fnRootOutUptoRow : OpenClaim := { program := "ytgcbngajjbjjoaagreatdoor", sum := "5728b174184375f8028d6c3b3fdb9f7ef1d6b0cf628370a6e10a9ef47da6568a", func := "loop.example/jackstay/laws.FnRootOut", spec := "fnRootOut", inPlace := ["internal/bytealg.IndexByteString", "internal/bytealg.IndexString", "slices.overlaps[loop.example/jackstay/impl.Entry]"], unfollowed := true, recurses := true, named := ["unicode/utf8.first", "unicode/utf8.acceptRanges", "internal/bytealg.MaxLen"], apart := false, laid := [("unicode/utf8.acceptRanges", laid_unicode_utf8_acceptRanges), ("unicode/utf8.first", laid_unicode_utf8_first)], narrowed := true }
def FnRootOutUptoSaid : Prop := fnRootOutUptoRow.holds Tryz.pinned (OpenSpec.upto fnRootOutSpec)

end Rows
end Go.Proofs.YtgcbngajjbjjoaaGreatDoor
