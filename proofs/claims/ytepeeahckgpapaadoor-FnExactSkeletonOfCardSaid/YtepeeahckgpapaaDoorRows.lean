/-
  NARROWER THAN 'FOR EVERY INPUT', by the rows' own cells (each row's printed sentence says how): FnExactSkeletonOf: laid · FnExactColumns: laid · FnExactJustified: laid · FnJustified: laid · FnExactPutMark: laid · FnMarked: laid · FnHyphens: laid.
  DERIVED. THE GIVEN ROWS OF THIS SEAT. 7 by the template 'for every input the law returns true; each argument reads behind the call as it read before'; 0 by the template 'total and deterministic' (their statements: YtepeeahckgpapaaDoorTotals.lean).
  GIVEN WITH THE SEED: the statements are not yours to turn. If you find one false, say at which input.
  Laid BY PROGRAM, IN A SANDBOX (cutbox-rows.mjs): the forced cells as the released guide's own fill.sh prints them over the translation e20c18435707270a… (all of the seat's roots in one cut). By AI agents, Wed Nov 11 2026. No macro, syntax, notation, axiom, sorry.
-/
import Derived.Test.YtepeeahckgpapaaDoorChecked
import GoSem.PinnedTables
import GoSem.Claim
import GoSem.ClaimJoined
import GoSem.ClaimMapViews
import Derived.JoinedTies
import Derived.KernelRfl
namespace Go.Proofs.YtepeeahckgpapaaDoor
/- THE CELL 'sum', in the pinned program and in every row, IS THE sha256 OF THE DUMP (.gsa) THAT YtepeeahckgpapaaDoorProg.lean LOADS. Nothing in Lean hashes anything: it is a label: what it is worth is what the hold of that sum in a sandbox is worth. -/
noncomputable def Tryd.pinned : Pinned := { name := "ytepeeahckgpapaadoor", sum := "e20c18435707270af8d3a76f246620512a926fa0ec257441064b865edcb31957", checked := Tryd.checked }
namespace Rows
def none {H : Type} : Left H := { results := [], args := [] }

/- WHAT THE LISTED PACKAGE-LEVEL VARIABLES READ AS WHEN THE CALL BEGINS. Each datum BY PROGRAM (the guide's laid-datum.mjs) off the statement by which the dump's own 'gosem.cut.vars' lays the variable. In a bare row this is a premise. The card (YtepeeahckgpapaaDoorCards.lean) ties it to the program's text. -/
def laid_unicode_utf8_acceptRanges {H : Type} : DataW H := .agg [.agg [.lit (.int .u8 128), .lit (.int .u8 191)], .agg [.lit (.int .u8 160), .lit (.int .u8 191)], .agg [.lit (.int .u8 128), .lit (.int .u8 159)], .agg [.lit (.int .u8 144), .lit (.int .u8 191)], .agg [.lit (.int .u8 128), .lit (.int .u8 143)], .agg [.lit (.int .u8 0), .lit (.int .u8 0)], .agg [.lit (.int .u8 0), .lit (.int .u8 0)], .agg [.lit (.int .u8 0), .lit (.int .u8 0)], .agg [.lit (.int .u8 0), .lit (.int .u8 0)], .agg [.lit (.int .u8 0), .lit (.int .u8 0)], .agg [.lit (.int .u8 0), .lit (.int .u8 0)], .agg [.lit (.int .u8 0), .lit (.int .u8 0)], .agg [.lit (.int .u8 0), .lit (.int .u8 0)], .agg [.lit (.int .u8 0), .lit (.int .u8 0)], .agg [.lit (.int .u8 0), .lit (.int .u8 0)], .agg [.lit (.int .u8 0), .lit (.int .u8 0)]]
def laid_loop_example_g00044_impl_digitRows {H : Type} : DataW H := .slice [.lit (.int .i64 48), .lit (.int .i64 592), .lit (.int .i64 848), .lit (.int .i64 1104), .lit (.int .i64 1360), .lit (.int .i64 1616), .lit (.int .i64 10016)] []
/-- One of Go's own tables, pinned by name: the form's constant. -/
def laid_unicode_utf8_first : DataW Unit := Go.Pinned.utf8First

/-- 'laws.FnExactSkeletonOf': WHATEVER THE INPUT: true; the input reads as it did. -/
def fnExactSkeletonOfSpec : ChangeSpec := { name := "fnExactSkeletonOf", vars := ["loop.example/g00044/impl.digitRows"], fn := fun _ => fun
  | [d, g1] => { results := [.lit (.bool true)], args := [d], vars := [g1] }
  | _ => none }
def fnExactSkeletonOfRow : OpenClaim := { program := "ytepeeahckgpapaadoor", sum := "e20c18435707270af8d3a76f246620512a926fa0ec257441064b865edcb31957", func := "loop.example/g00044/laws.FnExactSkeletonOf", spec := "fnExactSkeletonOf", unfollowed := true, recurses := true, named := ["unicode/utf8.first", "unicode/utf8.acceptRanges", "loop.example/g00044/impl.digitRows"], apart := false, laid := [("unicode/utf8.acceptRanges", laid_unicode_utf8_acceptRanges), ("loop.example/g00044/impl.digitRows", laid_loop_example_g00044_impl_digitRows), ("unicode/utf8.first", laid_unicode_utf8_first)] }
def FnExactSkeletonOfSaid : Prop := fnExactSkeletonOfRow.holds Tryd.pinned (OpenSpec.ofChange fnExactSkeletonOfSpec)

/-- ITS FALSE NEIGHBOUR: 'it returns false'. Refute it at one input. -/
def fnExactSkeletonOfWrong : ChangeSpec := { name := "fnExactSkeletonOf", vars := ["loop.example/g00044/impl.digitRows"], fn := fun _ => fun
  | [d, g1] => { results := [.lit (.bool false)], args := [d], vars := [g1] }
  | _ => none }
def FnExactSkeletonOfWrongFalsely : Prop := fnExactSkeletonOfRow.holds Tryd.pinned (OpenSpec.ofChange fnExactSkeletonOfWrong)

/-- 'laws.FnExactColumns': WHATEVER THE INPUT: true; the input reads as it did. -/
def fnExactColumnsSpec : ChangeSpec := { name := "fnExactColumns", fn := fun _ => fun
  | [d1, d2] => { results := [.lit (.bool true)], args := [d1, d2] }
  | _ => none }
def fnExactColumnsRow : OpenClaim := { program := "ytepeeahckgpapaadoor", sum := "e20c18435707270af8d3a76f246620512a926fa0ec257441064b865edcb31957", func := "loop.example/g00044/laws.FnExactColumns", spec := "fnExactColumns", inPlace := ["internal/bytealg.CountString", "internal/bytealg.IndexByteString", "internal/bytealg.IndexString", "internal/abi.NoEscape", "internal/bytealg.MakeNoZero"], unfollowed := true, recurses := true, named := ["unicode/utf8.first", "unicode/utf8.acceptRanges", "internal/bytealg.MaxLen"], apart := false, laid := [("unicode/utf8.acceptRanges", laid_unicode_utf8_acceptRanges), ("unicode/utf8.first", laid_unicode_utf8_first)] }
def FnExactColumnsSaid : Prop := fnExactColumnsRow.holds Tryd.pinned (OpenSpec.ofChange fnExactColumnsSpec)

/-- ITS FALSE NEIGHBOUR: 'it returns false'. Refute it at one input. -/
def fnExactColumnsWrong : ChangeSpec := { name := "fnExactColumns", fn := fun _ => fun
  | [d1, d2] => { results := [.lit (.bool false)], args := [d1, d2] }
  | _ => none }
def FnExactColumnsWrongFalsely : Prop := fnExactColumnsRow.holds Tryd.pinned (OpenSpec.ofChange fnExactColumnsWrong)

/-- 'laws.FnExactJustified': WHATEVER THE INPUT: true; the input reads as it did. -/
def fnExactJustifiedSpec : ChangeSpec := { name := "fnExactJustified", fn := fun _ => fun
  | [d1, d2] => { results := [.lit (.bool true)], args := [d1, d2] }
  | _ => none }
def fnExactJustifiedRow : OpenClaim := { program := "ytepeeahckgpapaadoor", sum := "e20c18435707270af8d3a76f246620512a926fa0ec257441064b865edcb31957", func := "loop.example/g00044/laws.FnExactJustified", spec := "fnExactJustified", inPlace := ["internal/bytealg.IndexByteString", "internal/bytealg.IndexString", "internal/abi.NoEscape", "internal/bytealg.MakeNoZero"], unfollowed := true, recurses := true, named := ["unicode/utf8.first", "unicode/utf8.acceptRanges", "internal/bytealg.MaxLen"], apart := false, laid := [("unicode/utf8.acceptRanges", laid_unicode_utf8_acceptRanges), ("unicode/utf8.first", laid_unicode_utf8_first)] }
def FnExactJustifiedSaid : Prop := fnExactJustifiedRow.holds Tryd.pinned (OpenSpec.ofChange fnExactJustifiedSpec)

/-- ITS FALSE NEIGHBOUR: 'it returns false'. Refute it at one input. -/
def fnExactJustifiedWrong : ChangeSpec := { name := "fnExactJustified", fn := fun _ => fun
  | [d1, d2] => { results := [.lit (.bool false)], args := [d1, d2] }
  | _ => none }
def FnExactJustifiedWrongFalsely : Prop := fnExactJustifiedRow.holds Tryd.pinned (OpenSpec.ofChange fnExactJustifiedWrong)

/-- 'laws.FnJustified': WHATEVER THE INPUT: true; the input reads as it did. -/
def fnJustifiedSpec : ChangeSpec := { name := "fnJustified", fn := fun _ => fun
  | [d] => { results := [.lit (.bool true)], args := [d] }
  | _ => none }
def fnJustifiedRow : OpenClaim := { program := "ytepeeahckgpapaadoor", sum := "e20c18435707270af8d3a76f246620512a926fa0ec257441064b865edcb31957", func := "loop.example/g00044/laws.FnJustified", spec := "fnJustified", inPlace := ["internal/bytealg.IndexByteString", "internal/bytealg.IndexString", "internal/abi.NoEscape", "internal/bytealg.MakeNoZero"], unfollowed := true, recurses := true, named := ["unicode/utf8.first", "unicode/utf8.acceptRanges", "internal/bytealg.MaxLen"], apart := false, laid := [("unicode/utf8.acceptRanges", laid_unicode_utf8_acceptRanges), ("unicode/utf8.first", laid_unicode_utf8_first)] }
def FnJustifiedSaid : Prop := fnJustifiedRow.holds Tryd.pinned (OpenSpec.ofChange fnJustifiedSpec)

/-- ITS FALSE NEIGHBOUR: 'it returns false'. Refute it at one input. -/
def fnJustifiedWrong : ChangeSpec := { name := "fnJustified", fn := fun _ => fun
  | [d] => { results := [.lit (.bool false)], args := [d] }
  | _ => none }
def FnJustifiedWrongFalsely : Prop := fnJustifiedRow.holds Tryd.pinned (OpenSpec.ofChange fnJustifiedWrong)

/-- 'laws.FnExactPutMark': WHATEVER THE INPUT: true; the input reads as it did. -/
def fnExactPutMarkSpec : ChangeSpec := { name := "fnExactPutMark", fn := fun _ => fun
  | [d1, d2] => { results := [.lit (.bool true)], args := [d1, d2] }
  | _ => none }
def fnExactPutMarkRow : OpenClaim := { program := "ytepeeahckgpapaadoor", sum := "e20c18435707270af8d3a76f246620512a926fa0ec257441064b865edcb31957", func := "loop.example/g00044/laws.FnExactPutMark", spec := "fnExactPutMark", inPlace := ["internal/abi.NoEscape", "internal/bytealg.CountString", "internal/bytealg.IndexByteString", "internal/bytealg.IndexString", "internal/bytealg.abigen_runtime_cmpstring"], unfollowed := true, recurses := true, named := ["internal/bytealg.MaxLen", "unicode/utf8.first", "unicode/utf8.acceptRanges"], apart := false, laid := [("unicode/utf8.acceptRanges", laid_unicode_utf8_acceptRanges), ("unicode/utf8.first", laid_unicode_utf8_first)] }
def FnExactPutMarkSaid : Prop := fnExactPutMarkRow.holds Tryd.pinned (OpenSpec.ofChange fnExactPutMarkSpec)

/-- ITS FALSE NEIGHBOUR: 'it returns false'. Refute it at one input. -/
def fnExactPutMarkWrong : ChangeSpec := { name := "fnExactPutMark", fn := fun _ => fun
  | [d1, d2] => { results := [.lit (.bool false)], args := [d1, d2] }
  | _ => none }
def FnExactPutMarkWrongFalsely : Prop := fnExactPutMarkRow.holds Tryd.pinned (OpenSpec.ofChange fnExactPutMarkWrong)

/-- 'laws.FnMarked': WHATEVER THE INPUT: true; the input reads as it did. -/
def fnMarkedSpec : ChangeSpec := { name := "fnMarked", fn := fun _ => fun
  | [d] => { results := [.lit (.bool true)], args := [d] }
  | _ => none }
def fnMarkedRow : OpenClaim := { program := "ytepeeahckgpapaadoor", sum := "e20c18435707270af8d3a76f246620512a926fa0ec257441064b865edcb31957", func := "loop.example/g00044/laws.FnMarked", spec := "fnMarked", inPlace := ["internal/abi.NoEscape", "internal/bytealg.CountString", "internal/bytealg.IndexByteString", "internal/bytealg.IndexString", "internal/bytealg.abigen_runtime_cmpstring"], unfollowed := true, recurses := true, named := ["internal/bytealg.MaxLen", "unicode/utf8.first", "unicode/utf8.acceptRanges"], apart := false, laid := [("unicode/utf8.acceptRanges", laid_unicode_utf8_acceptRanges), ("unicode/utf8.first", laid_unicode_utf8_first)] }
def FnMarkedSaid : Prop := fnMarkedRow.holds Tryd.pinned (OpenSpec.ofChange fnMarkedSpec)

/-- ITS FALSE NEIGHBOUR: 'it returns false'. Refute it at one input. -/
def fnMarkedWrong : ChangeSpec := { name := "fnMarked", fn := fun _ => fun
  | [d] => { results := [.lit (.bool false)], args := [d] }
  | _ => none }
def FnMarkedWrongFalsely : Prop := fnMarkedRow.holds Tryd.pinned (OpenSpec.ofChange fnMarkedWrong)

/-- 'laws.FnHyphens': WHATEVER THE INPUT: true; the input reads as it did. -/
def fnHyphensSpec : ChangeSpec := { name := "fnHyphens", fn := fun _ => fun
  | [d1, d2] => { results := [.lit (.bool true)], args := [d1, d2] }
  | _ => none }
def fnHyphensRow : OpenClaim := { program := "ytepeeahckgpapaadoor", sum := "e20c18435707270af8d3a76f246620512a926fa0ec257441064b865edcb31957", func := "loop.example/g00044/laws.FnHyphens", spec := "fnHyphens", inPlace := ["internal/bytealg.IndexByteString", "internal/bytealg.IndexString", "internal/bytealg.CountString", "internal/abi.NoEscape", "internal/bytealg.MakeNoZero"], unfollowed := true, recurses := true, named := ["internal/bytealg.MaxLen", "unicode/utf8.first", "unicode/utf8.acceptRanges"], apart := false, laid := [("unicode/utf8.acceptRanges", laid_unicode_utf8_acceptRanges), ("unicode/utf8.first", laid_unicode_utf8_first)] }
def FnHyphensSaid : Prop := fnHyphensRow.holds Tryd.pinned (OpenSpec.ofChange fnHyphensSpec)

/-- ITS FALSE NEIGHBOUR: 'it returns false'. Refute it at one input. -/
def fnHyphensWrong : ChangeSpec := { name := "fnHyphens", fn := fun _ => fun
  | [d1, d2] => { results := [.lit (.bool false)], args := [d1, d2] }
  | _ => none }
def FnHyphensWrongFalsely : Prop := fnHyphensRow.holds Tryd.pinned (OpenSpec.ofChange fnHyphensWrong)

/- THE SECOND FORM. 'bulk': how many values and letters a reading holds, each counted each time it is reached (what is shared counts as often as it is met; a slice's spare places count too). A statement '..UptoSaid' is the law's where the arguments, and the package variables that the reading takes, are together of bulk at most 1048576: NARROWER than '..Said'. Prove '..Said' where nothing that the law and all that it calls make is longer than what came in: it says more and counts as full. Else prove '..UptoSaid'. A law counts once. -/
mutual
def uptoBulk {H : Type} : DataW H → Nat
  | .lit (.string bytes) => bytes.length + 1
  | .lit _ => 1
  | .nil => 1
  | .ptr d => uptoBulk d + 1
  | .slice elems spare => uptoBulkAll elems + uptoBulkAll spare + 1
  | .agg parts => uptoBulkAll parts + 1
  | .iface _ d => uptoBulk d + 1
  | .map entries => uptoBulkEntries entries + 1
  | .held _ => 1
def uptoBulkAll {H : Type} : List (DataW H) → Nat
  | [] => 0
  | d :: r => uptoBulk d + uptoBulkAll r
def uptoBulkEntries {H : Type} : List (Lit × DataW H) → Nat
  | [] => 0
  | x :: r => uptoBulkEntry x + uptoBulkEntries r
def uptoBulkEntry {H : Type} : Lit × DataW H → Nat
  | (.string bytes, d) => bytes.length + uptoBulk d + 1
  | (_, d) => uptoBulk d + 1
 end
def uptoSmall : (H : Type) → List (DataW H) → Bool := fun _ ds => decide (uptoBulkAll ds ≤ 1048576)
def OpenSpec.upto (s : _root_.Go.ChangeSpec) : _root_.Go.OpenSpec := { _root_.Go.OpenSpec.ofChange s with cond := some uptoSmall }

/-- 'laws.FnExactSkeletonOf', WHERE WHAT IT READS IS OF BULK AT MOST 1048576: true; the input reads as it did. -/
def fnExactSkeletonOfUptoRow : OpenClaim := { program := "ytepeeahckgpapaadoor", sum := "e20c18435707270af8d3a76f246620512a926fa0ec257441064b865edcb31957", func := "loop.example/g00044/laws.FnExactSkeletonOf", spec := "fnExactSkeletonOf", unfollowed := true, recurses := true, named := ["unicode/utf8.first", "unicode/utf8.acceptRanges", "loop.example/g00044/impl.digitRows"], apart := false, laid := [("unicode/utf8.acceptRanges", laid_unicode_utf8_acceptRanges), ("loop.example/g00044/impl.digitRows", laid_loop_example_g00044_impl_digitRows), ("unicode/utf8.first", laid_unicode_utf8_first)], narrowed := true }
def FnExactSkeletonOfUptoSaid : Prop := fnExactSkeletonOfUptoRow.holds Tryd.pinned (OpenSpec.upto fnExactSkeletonOfSpec)

/-- 'laws.FnExactColumns', WHERE WHAT IT READS IS OF BULK AT MOST 1048576: true; the input reads as it did. -/
def fnExactColumnsUptoRow : OpenClaim := { program := "ytepeeahckgpapaadoor", sum := "e20c18435707270af8d3a76f246620512a926fa0ec257441064b865edcb31957", func := "loop.example/g00044/laws.FnExactColumns", spec := "fnExactColumns", inPlace := ["internal/bytealg.CountString", "internal/bytealg.IndexByteString", "internal/bytealg.IndexString", "internal/abi.NoEscape", "internal/bytealg.MakeNoZero"], unfollowed := true, recurses := true, named := ["unicode/utf8.first", "unicode/utf8.acceptRanges", "internal/bytealg.MaxLen"], apart := false, laid := [("unicode/utf8.acceptRanges", laid_unicode_utf8_acceptRanges), ("unicode/utf8.first", laid_unicode_utf8_first)], narrowed := true }
def FnExactColumnsUptoSaid : Prop := fnExactColumnsUptoRow.holds Tryd.pinned (OpenSpec.upto fnExactColumnsSpec)

/-- 'laws.FnExactJustified', WHERE WHAT IT READS IS OF BULK AT MOST 1048576: true; the input reads as it did. -/
def fnExactJustifiedUptoRow : OpenClaim := { program := "ytepeeahckgpapaadoor", sum := "e20c18435707270af8d3a76f246620512a926fa0ec257441064b865edcb31957", func := "loop.example/g00044/laws.FnExactJustified", spec := "fnExactJustified", inPlace := ["internal/bytealg.IndexByteString", "internal/bytealg.IndexString", "internal/abi.NoEscape", "internal/bytealg.MakeNoZero"], unfollowed := true, recurses := true, named := ["unicode/utf8.first", "unicode/utf8.acceptRanges", "internal/bytealg.MaxLen"], apart := false, laid := [("unicode/utf8.acceptRanges", laid_unicode_utf8_acceptRanges), ("unicode/utf8.first", laid_unicode_utf8_first)], narrowed := true }
def FnExactJustifiedUptoSaid : Prop := fnExactJustifiedUptoRow.holds Tryd.pinned (OpenSpec.upto fnExactJustifiedSpec)

/-- 'laws.FnJustified', WHERE WHAT IT READS IS OF BULK AT MOST 1048576: true; the input reads as it did. -/
def fnJustifiedUptoRow : OpenClaim := { program := "ytepeeahckgpapaadoor", sum := "e20c18435707270af8d3a76f246620512a926fa0ec257441064b865edcb31957", func := "loop.example/g00044/laws.FnJustified", spec := "fnJustified", inPlace := ["internal/bytealg.IndexByteString", "internal/bytealg.IndexString", "internal/abi.NoEscape", "internal/bytealg.MakeNoZero"], unfollowed := true, recurses := true, named := ["unicode/utf8.first", "unicode/utf8.acceptRanges", "internal/bytealg.MaxLen"], apart := false, laid := [("unicode/utf8.acceptRanges", laid_unicode_utf8_acceptRanges), ("unicode/utf8.first", laid_unicode_utf8_first)], narrowed := true }
def FnJustifiedUptoSaid : Prop := fnJustifiedUptoRow.holds Tryd.pinned (OpenSpec.upto fnJustifiedSpec)

/-- 'laws.FnExactPutMark', WHERE WHAT IT READS IS OF BULK AT MOST 1048576: true; the input reads as it did. -/
def fnExactPutMarkUptoRow : OpenClaim := { program := "ytepeeahckgpapaadoor", sum := "e20c18435707270af8d3a76f246620512a926fa0ec257441064b865edcb31957", func := "loop.example/g00044/laws.FnExactPutMark", spec := "fnExactPutMark", inPlace := ["internal/abi.NoEscape", "internal/bytealg.CountString", "internal/bytealg.IndexByteString", "internal/bytealg.IndexString", "internal/bytealg.abigen_runtime_cmpstring"], unfollowed := true, recurses := true, named := ["internal/bytealg.MaxLen", "unicode/utf8.first", "unicode/utf8.acceptRanges"], apart := false, laid := [("unicode/utf8.acceptRanges", laid_unicode_utf8_acceptRanges), ("unicode/utf8.first", laid_unicode_utf8_first)], narrowed := true }
def FnExactPutMarkUptoSaid : Prop := fnExactPutMarkUptoRow.holds Tryd.pinned (OpenSpec.upto fnExactPutMarkSpec)

/-- 'laws.FnMarked', WHERE WHAT IT READS IS OF BULK AT MOST 1048576: true; the input reads as it did. -/
def fnMarkedUptoRow : OpenClaim := { program := "ytepeeahckgpapaadoor", sum := "e20c18435707270af8d3a76f246620512a926fa0ec257441064b865edcb31957", func := "loop.example/g00044/laws.FnMarked", spec := "fnMarked", inPlace := ["internal/abi.NoEscape", "internal/bytealg.CountString", "internal/bytealg.IndexByteString", "internal/bytealg.IndexString", "internal/bytealg.abigen_runtime_cmpstring"], unfollowed := true, recurses := true, named := ["internal/bytealg.MaxLen", "unicode/utf8.first", "unicode/utf8.acceptRanges"], apart := false, laid := [("unicode/utf8.acceptRanges", laid_unicode_utf8_acceptRanges), ("unicode/utf8.first", laid_unicode_utf8_first)], narrowed := true }
def FnMarkedUptoSaid : Prop := fnMarkedUptoRow.holds Tryd.pinned (OpenSpec.upto fnMarkedSpec)

/-- 'laws.FnHyphens', WHERE WHAT IT READS IS OF BULK AT MOST 1048576: true; the input reads as it did. -/
def fnHyphensUptoRow : OpenClaim := { program := "ytepeeahckgpapaadoor", sum := "e20c18435707270af8d3a76f246620512a926fa0ec257441064b865edcb31957", func := "loop.example/g00044/laws.FnHyphens", spec := "fnHyphens", inPlace := ["internal/bytealg.IndexByteString", "internal/bytealg.IndexString", "internal/bytealg.CountString", "internal/abi.NoEscape", "internal/bytealg.MakeNoZero"], unfollowed := true, recurses := true, named := ["internal/bytealg.MaxLen", "unicode/utf8.first", "unicode/utf8.acceptRanges"], apart := false, laid := [("unicode/utf8.acceptRanges", laid_unicode_utf8_acceptRanges), ("unicode/utf8.first", laid_unicode_utf8_first)], narrowed := true }
def FnHyphensUptoSaid : Prop := fnHyphensUptoRow.holds Tryd.pinned (OpenSpec.upto fnHyphensSpec)

end Rows
end Go.Proofs.YtepeeahckgpapaaDoor
