/-
  NARROWER THAN 'FOR EVERY INPUT', by the rows' own cells (each row's printed sentence says how): FnTreePart: laid · FnTreeTurn: laid · FnGramTurn: laid · FnTreeMany: laid · FnTreeFrom: laid · FnTreeBack: laid · FnGramText: laid · FnTreeSmall: laid · FnTreeBent: laid · FnItemsText: laid.
  DERIVED. THE GIVEN ROWS OF THIS SEAT. 10 by the template 'for every input the law returns true; each argument reads behind the call as it read before'; 0 by the template 'total and deterministic' (their statements: YtkofhmmfhmipgaaDoorTotals.lean).
  GIVEN WITH THE SEED: the statements are not yours to turn. If you find one false, say at which input.
  Laid BY PROGRAM, IN A SANDBOX (cutbox-rows.mjs): the forced cells as the released guide's own fill.sh prints them over the translation 09993e0f152b178c… (all of the seat's roots in one cut). By AI agents, Wed Nov 11 2026. No macro, syntax, notation, axiom, sorry.
-/
import Derived.Test.YtkofhmmfhmipgaaDoorChecked
import GoSem.PinnedTables
import GoSem.Claim
import GoSem.ClaimJoined
import GoSem.ClaimMapViews
import Derived.JoinedTies
import Derived.KernelRfl
namespace Go.Proofs.YtkofhmmfhmipgaaDoor
/- THE CELL 'sum', in the pinned program and in every row, IS THE sha256 OF THE DUMP (.gsa) THAT YtkofhmmfhmipgaaDoorProg.lean LOADS. Nothing in Lean hashes anything: it is a label: what it is worth is what the hold of that sum in a sandbox is worth. -/
noncomputable def Tryd.pinned : Pinned := { name := "ytkofhmmfhmipgaadoor", sum := "09993e0f152b178c7904ffbd195439d25b11713685d30fc6934789da15016c58", checked := Tryd.checked }
namespace Rows
def none {H : Type} : Left H := { results := [], args := [] }

/- WHAT THE LISTED PACKAGE-LEVEL VARIABLES READ AS WHEN THE CALL BEGINS. Each datum BY PROGRAM (the guide's laid-datum.mjs) off the statement by which the dump's own 'gosem.cut.vars' lays the variable. In a bare row this is a premise. The card (YtkofhmmfhmipgaaDoorCards.lean) ties it to the program's text. -/
def laid_unicode_utf8_acceptRanges {H : Type} : DataW H := .agg [.agg [.lit (.int .u8 128), .lit (.int .u8 191)], .agg [.lit (.int .u8 160), .lit (.int .u8 191)], .agg [.lit (.int .u8 128), .lit (.int .u8 159)], .agg [.lit (.int .u8 144), .lit (.int .u8 191)], .agg [.lit (.int .u8 128), .lit (.int .u8 143)], .agg [.lit (.int .u8 0), .lit (.int .u8 0)], .agg [.lit (.int .u8 0), .lit (.int .u8 0)], .agg [.lit (.int .u8 0), .lit (.int .u8 0)], .agg [.lit (.int .u8 0), .lit (.int .u8 0)], .agg [.lit (.int .u8 0), .lit (.int .u8 0)], .agg [.lit (.int .u8 0), .lit (.int .u8 0)], .agg [.lit (.int .u8 0), .lit (.int .u8 0)], .agg [.lit (.int .u8 0), .lit (.int .u8 0)], .agg [.lit (.int .u8 0), .lit (.int .u8 0)], .agg [.lit (.int .u8 0), .lit (.int .u8 0)], .agg [.lit (.int .u8 0), .lit (.int .u8 0)]]
/-- One of Go's own tables, pinned by name: the form's constant. -/
def laid_unicode_utf8_first : DataW Unit := Go.Pinned.utf8First
def laid_math_bits_deBruijn32tab {H : Type} : DataW H := .agg [.lit (.int .u8 0), .lit (.int .u8 1), .lit (.int .u8 28), .lit (.int .u8 2), .lit (.int .u8 29), .lit (.int .u8 14), .lit (.int .u8 24), .lit (.int .u8 3), .lit (.int .u8 30), .lit (.int .u8 22), .lit (.int .u8 20), .lit (.int .u8 15), .lit (.int .u8 25), .lit (.int .u8 17), .lit (.int .u8 4), .lit (.int .u8 8), .lit (.int .u8 31), .lit (.int .u8 27), .lit (.int .u8 13), .lit (.int .u8 23), .lit (.int .u8 21), .lit (.int .u8 19), .lit (.int .u8 16), .lit (.int .u8 7), .lit (.int .u8 26), .lit (.int .u8 12), .lit (.int .u8 18), .lit (.int .u8 6), .lit (.int .u8 11), .lit (.int .u8 5), .lit (.int .u8 10), .lit (.int .u8 9)]
def laid_math_bits_deBruijn64tab {H : Type} : DataW H := .agg [.lit (.int .u8 0), .lit (.int .u8 1), .lit (.int .u8 56), .lit (.int .u8 2), .lit (.int .u8 57), .lit (.int .u8 49), .lit (.int .u8 28), .lit (.int .u8 3), .lit (.int .u8 61), .lit (.int .u8 58), .lit (.int .u8 42), .lit (.int .u8 50), .lit (.int .u8 38), .lit (.int .u8 29), .lit (.int .u8 17), .lit (.int .u8 4), .lit (.int .u8 62), .lit (.int .u8 47), .lit (.int .u8 59), .lit (.int .u8 36), .lit (.int .u8 45), .lit (.int .u8 43), .lit (.int .u8 51), .lit (.int .u8 22), .lit (.int .u8 53), .lit (.int .u8 39), .lit (.int .u8 33), .lit (.int .u8 30), .lit (.int .u8 24), .lit (.int .u8 18), .lit (.int .u8 12), .lit (.int .u8 5), .lit (.int .u8 63), .lit (.int .u8 55), .lit (.int .u8 48), .lit (.int .u8 27), .lit (.int .u8 60), .lit (.int .u8 41), .lit (.int .u8 37), .lit (.int .u8 16), .lit (.int .u8 46), .lit (.int .u8 35), .lit (.int .u8 44), .lit (.int .u8 21), .lit (.int .u8 52), .lit (.int .u8 32), .lit (.int .u8 23), .lit (.int .u8 11), .lit (.int .u8 54), .lit (.int .u8 26), .lit (.int .u8 40), .lit (.int .u8 15), .lit (.int .u8 34), .lit (.int .u8 20), .lit (.int .u8 31), .lit (.int .u8 10), .lit (.int .u8 25), .lit (.int .u8 14), .lit (.int .u8 19), .lit (.int .u8 9), .lit (.int .u8 13), .lit (.int .u8 8), .lit (.int .u8 7), .lit (.int .u8 6)]
def laid_internal_strconv_uint64pow10 {H : Type} : DataW H := .agg [.lit (.int .u64 1), .lit (.int .u64 10), .lit (.int .u64 100), .lit (.int .u64 1000), .lit (.int .u64 10000), .lit (.int .u64 100000), .lit (.int .u64 1000000), .lit (.int .u64 10000000), .lit (.int .u64 100000000), .lit (.int .u64 1000000000), .lit (.int .u64 10000000000), .lit (.int .u64 100000000000), .lit (.int .u64 1000000000000), .lit (.int .u64 10000000000000), .lit (.int .u64 100000000000000), .lit (.int .u64 1000000000000000), .lit (.int .u64 10000000000000000), .lit (.int .u64 100000000000000000), .lit (.int .u64 1000000000000000000), .lit (.int .u64 10000000000000000000)]

/-- 'laws.FnTreePart': WHATEVER THE INPUT: true; the input reads as it did. -/
def fnTreePartSpec : ChangeSpec := { name := "fnTreePart", fn := fun _ => fun
  | [d] => { results := [.lit (.bool true)], args := [d] }
  | _ => none }
def fnTreePartRow : OpenClaim := { program := "ytkofhmmfhmipgaadoor", sum := "09993e0f152b178c7904ffbd195439d25b11713685d30fc6934789da15016c58", func := "loop.example/construer/laws.FnTreePart", spec := "fnTreePart", inPlace := ["internal/bytealg.IndexByteString", "internal/bytealg.IndexString"], recurses := true, named := ["unicode/utf8.first", "unicode/utf8.acceptRanges", "internal/bytealg.MaxLen"], plainKeys := false, apart := false, laid := [("unicode/utf8.acceptRanges", laid_unicode_utf8_acceptRanges), ("unicode/utf8.first", laid_unicode_utf8_first)] }
def FnTreePartSaid : Prop := fnTreePartRow.holds Tryd.pinned (OpenSpec.ofChange fnTreePartSpec)

/-- ITS FALSE NEIGHBOUR: 'it returns false'. Refute it at one input. -/
def fnTreePartWrong : ChangeSpec := { name := "fnTreePart", fn := fun _ => fun
  | [d] => { results := [.lit (.bool false)], args := [d] }
  | _ => none }
def FnTreePartWrongFalsely : Prop := fnTreePartRow.holds Tryd.pinned (OpenSpec.ofChange fnTreePartWrong)

/-- 'laws.FnTreeTurn': WHATEVER THE INPUT: true; the input reads as it did. -/
def fnTreeTurnSpec : ChangeSpec := { name := "fnTreeTurn", fn := fun _ => fun
  | [d] => { results := [.lit (.bool true)], args := [d] }
  | _ => none }
def fnTreeTurnRow : OpenClaim := { program := "ytkofhmmfhmipgaadoor", sum := "09993e0f152b178c7904ffbd195439d25b11713685d30fc6934789da15016c58", func := "loop.example/construer/laws.FnTreeTurn", spec := "fnTreeTurn", inPlace := ["internal/abi.NoEscape", "internal/bytealg.IndexByteString", "internal/bytealg.IndexString"], unfollowed := true, recurses := true, named := ["unicode/utf8.first", "unicode/utf8.acceptRanges", "internal/bytealg.MaxLen"], plainKeys := false, apart := false, laid := [("unicode/utf8.acceptRanges", laid_unicode_utf8_acceptRanges), ("unicode/utf8.first", laid_unicode_utf8_first)] }
def FnTreeTurnSaid : Prop := fnTreeTurnRow.holds Tryd.pinned (OpenSpec.ofChange fnTreeTurnSpec)

/-- ITS FALSE NEIGHBOUR: 'it returns false'. Refute it at one input. -/
def fnTreeTurnWrong : ChangeSpec := { name := "fnTreeTurn", fn := fun _ => fun
  | [d] => { results := [.lit (.bool false)], args := [d] }
  | _ => none }
def FnTreeTurnWrongFalsely : Prop := fnTreeTurnRow.holds Tryd.pinned (OpenSpec.ofChange fnTreeTurnWrong)

/-- 'laws.FnGramTurn': WHATEVER THE INPUT: true; the input reads as it did. -/
def fnGramTurnSpec : ChangeSpec := { name := "fnGramTurn", fn := fun _ => fun
  | [d] => { results := [.lit (.bool true)], args := [d] }
  | _ => none }
def fnGramTurnRow : OpenClaim := { program := "ytkofhmmfhmipgaadoor", sum := "09993e0f152b178c7904ffbd195439d25b11713685d30fc6934789da15016c58", func := "loop.example/construer/laws.FnGramTurn", spec := "fnGramTurn", inPlace := ["internal/bytealg.IndexByteString", "internal/bytealg.IndexString"], unfollowed := true, recurses := true, named := ["unicode/utf8.first", "unicode/utf8.acceptRanges", "internal/bytealg.MaxLen"], plainKeys := false, apart := false, laid := [("unicode/utf8.acceptRanges", laid_unicode_utf8_acceptRanges), ("unicode/utf8.first", laid_unicode_utf8_first)] }
def FnGramTurnSaid : Prop := fnGramTurnRow.holds Tryd.pinned (OpenSpec.ofChange fnGramTurnSpec)

/-- ITS FALSE NEIGHBOUR: 'it returns false'. Refute it at one input. -/
def fnGramTurnWrong : ChangeSpec := { name := "fnGramTurn", fn := fun _ => fun
  | [d] => { results := [.lit (.bool false)], args := [d] }
  | _ => none }
def FnGramTurnWrongFalsely : Prop := fnGramTurnRow.holds Tryd.pinned (OpenSpec.ofChange fnGramTurnWrong)

/-- 'laws.FnTreeMany': WHATEVER THE INPUT: true; the input reads as it did. -/
def fnTreeManySpec : ChangeSpec := { name := "fnTreeMany", fn := fun _ => fun
  | [d] => { results := [.lit (.bool true)], args := [d] }
  | _ => none }
def fnTreeManyRow : OpenClaim := { program := "ytkofhmmfhmipgaadoor", sum := "09993e0f152b178c7904ffbd195439d25b11713685d30fc6934789da15016c58", func := "loop.example/construer/laws.FnTreeMany", spec := "fnTreeMany", inPlace := ["internal/bytealg.IndexByteString", "internal/bytealg.IndexString", "internal/abi.NoEscape"], recurses := true, named := ["unicode/utf8.first", "unicode/utf8.acceptRanges", "internal/bytealg.MaxLen"], plainKeys := false, apart := false, laid := [("unicode/utf8.acceptRanges", laid_unicode_utf8_acceptRanges), ("unicode/utf8.first", laid_unicode_utf8_first)] }
def FnTreeManySaid : Prop := fnTreeManyRow.holds Tryd.pinned (OpenSpec.ofChange fnTreeManySpec)

/-- ITS FALSE NEIGHBOUR: 'it returns false'. Refute it at one input. -/
def fnTreeManyWrong : ChangeSpec := { name := "fnTreeMany", fn := fun _ => fun
  | [d] => { results := [.lit (.bool false)], args := [d] }
  | _ => none }
def FnTreeManyWrongFalsely : Prop := fnTreeManyRow.holds Tryd.pinned (OpenSpec.ofChange fnTreeManyWrong)

/-- 'laws.FnTreeFrom': WHATEVER THE INPUT: true; the input reads as it did. -/
def fnTreeFromSpec : ChangeSpec := { name := "fnTreeFrom", fn := fun _ => fun
  | [d] => { results := [.lit (.bool true)], args := [d] }
  | _ => none }
def fnTreeFromRow : OpenClaim := { program := "ytkofhmmfhmipgaadoor", sum := "09993e0f152b178c7904ffbd195439d25b11713685d30fc6934789da15016c58", func := "loop.example/construer/laws.FnTreeFrom", spec := "fnTreeFrom", inPlace := ["internal/bytealg.IndexByteString", "internal/bytealg.IndexString"], unfollowed := true, recurses := true, named := ["unicode/utf8.first", "unicode/utf8.acceptRanges", "internal/bytealg.MaxLen"], plainKeys := false, apart := false, laid := [("unicode/utf8.acceptRanges", laid_unicode_utf8_acceptRanges), ("unicode/utf8.first", laid_unicode_utf8_first)] }
def FnTreeFromSaid : Prop := fnTreeFromRow.holds Tryd.pinned (OpenSpec.ofChange fnTreeFromSpec)

/-- ITS FALSE NEIGHBOUR: 'it returns false'. Refute it at one input. -/
def fnTreeFromWrong : ChangeSpec := { name := "fnTreeFrom", fn := fun _ => fun
  | [d] => { results := [.lit (.bool false)], args := [d] }
  | _ => none }
def FnTreeFromWrongFalsely : Prop := fnTreeFromRow.holds Tryd.pinned (OpenSpec.ofChange fnTreeFromWrong)

/-- 'laws.FnTreeBack': WHATEVER THE INPUT: true; the input reads as it did. -/
def fnTreeBackSpec : ChangeSpec := { name := "fnTreeBack", fn := fun _ => fun
  | [d] => { results := [.lit (.bool true)], args := [d] }
  | _ => none }
def fnTreeBackRow : OpenClaim := { program := "ytkofhmmfhmipgaadoor", sum := "09993e0f152b178c7904ffbd195439d25b11713685d30fc6934789da15016c58", func := "loop.example/construer/laws.FnTreeBack", spec := "fnTreeBack", inPlace := ["internal/bytealg.IndexByteString", "internal/bytealg.IndexString"], unfollowed := true, recurses := true, named := ["unicode/utf8.first", "unicode/utf8.acceptRanges", "internal/bytealg.MaxLen"], plainKeys := false, apart := false, laid := [("unicode/utf8.acceptRanges", laid_unicode_utf8_acceptRanges), ("unicode/utf8.first", laid_unicode_utf8_first)] }
def FnTreeBackSaid : Prop := fnTreeBackRow.holds Tryd.pinned (OpenSpec.ofChange fnTreeBackSpec)

/-- ITS FALSE NEIGHBOUR: 'it returns false'. Refute it at one input. -/
def fnTreeBackWrong : ChangeSpec := { name := "fnTreeBack", fn := fun _ => fun
  | [d] => { results := [.lit (.bool false)], args := [d] }
  | _ => none }
def FnTreeBackWrongFalsely : Prop := fnTreeBackRow.holds Tryd.pinned (OpenSpec.ofChange fnTreeBackWrong)

/-- 'laws.FnGramText': WHATEVER THE INPUT: true; the input reads as it did. -/
def fnGramTextSpec : ChangeSpec := { name := "fnGramText", fn := fun _ => fun
  | [d1, d2] => { results := [.lit (.bool true)], args := [d1, d2] }
  | _ => none }
def fnGramTextRow : OpenClaim := { program := "ytkofhmmfhmipgaadoor", sum := "09993e0f152b178c7904ffbd195439d25b11713685d30fc6934789da15016c58", func := "loop.example/construer/laws.FnGramText", spec := "fnGramText", inPlace := ["internal/bytealg.IndexByteString", "internal/bytealg.IndexString", "internal/bytealg.CountString"], named := ["unicode/utf8.first", "unicode/utf8.acceptRanges", "internal/bytealg.MaxLen"], plainKeys := false, apart := false, laid := [("unicode/utf8.acceptRanges", laid_unicode_utf8_acceptRanges), ("unicode/utf8.first", laid_unicode_utf8_first)] }
def FnGramTextSaid : Prop := fnGramTextRow.holds Tryd.pinned (OpenSpec.ofChange fnGramTextSpec)

/-- ITS FALSE NEIGHBOUR: 'it returns false'. Refute it at one input. -/
def fnGramTextWrong : ChangeSpec := { name := "fnGramText", fn := fun _ => fun
  | [d1, d2] => { results := [.lit (.bool false)], args := [d1, d2] }
  | _ => none }
def FnGramTextWrongFalsely : Prop := fnGramTextRow.holds Tryd.pinned (OpenSpec.ofChange fnGramTextWrong)

/-- 'laws.FnTreeSmall': WHATEVER THE INPUT: true; the input reads as it did. -/
def fnTreeSmallSpec : ChangeSpec := { name := "fnTreeSmall", fn := fun _ => fun
  | [d] => { results := [.lit (.bool true)], args := [d] }
  | _ => none }
def fnTreeSmallRow : OpenClaim := { program := "ytkofhmmfhmipgaadoor", sum := "09993e0f152b178c7904ffbd195439d25b11713685d30fc6934789da15016c58", func := "loop.example/construer/laws.FnTreeSmall", spec := "fnTreeSmall", inPlace := ["internal/bytealg.IndexByteString", "internal/bytealg.IndexString", "internal/abi.NoEscape"], unfollowed := true, recurses := true, named := ["unicode/utf8.first", "unicode/utf8.acceptRanges", "internal/bytealg.MaxLen"], plainKeys := false, apart := false, laid := [("unicode/utf8.acceptRanges", laid_unicode_utf8_acceptRanges), ("unicode/utf8.first", laid_unicode_utf8_first)] }
def FnTreeSmallSaid : Prop := fnTreeSmallRow.holds Tryd.pinned (OpenSpec.ofChange fnTreeSmallSpec)

/-- ITS FALSE NEIGHBOUR: 'it returns false'. Refute it at one input. -/
def fnTreeSmallWrong : ChangeSpec := { name := "fnTreeSmall", fn := fun _ => fun
  | [d] => { results := [.lit (.bool false)], args := [d] }
  | _ => none }
def FnTreeSmallWrongFalsely : Prop := fnTreeSmallRow.holds Tryd.pinned (OpenSpec.ofChange fnTreeSmallWrong)

/-- 'laws.FnTreeBent': WHATEVER THE INPUT: true; the input reads as it did. -/
def fnTreeBentSpec : ChangeSpec := { name := "fnTreeBent", fn := fun _ => fun
  | [d] => { results := [.lit (.bool true)], args := [d] }
  | _ => none }
def fnTreeBentRow : OpenClaim := { program := "ytkofhmmfhmipgaadoor", sum := "09993e0f152b178c7904ffbd195439d25b11713685d30fc6934789da15016c58", func := "loop.example/construer/laws.FnTreeBent", spec := "fnTreeBent", inPlace := ["internal/bytealg.IndexByteString", "internal/bytealg.IndexString"], recurses := true, named := ["unicode/utf8.first", "unicode/utf8.acceptRanges", "internal/strconv.uint64pow10", "math/bits.deBruijn32tab", "math/bits.deBruijn64tab", "internal/bytealg.MaxLen"], plainKeys := false, apart := false, laid := [("math/bits.deBruijn32tab", laid_math_bits_deBruijn32tab), ("math/bits.deBruijn64tab", laid_math_bits_deBruijn64tab), ("internal/strconv.uint64pow10", laid_internal_strconv_uint64pow10), ("unicode/utf8.acceptRanges", laid_unicode_utf8_acceptRanges), ("unicode/utf8.first", laid_unicode_utf8_first)] }
def FnTreeBentSaid : Prop := fnTreeBentRow.holds Tryd.pinned (OpenSpec.ofChange fnTreeBentSpec)

/-- ITS FALSE NEIGHBOUR: 'it returns false'. Refute it at one input. -/
def fnTreeBentWrong : ChangeSpec := { name := "fnTreeBent", fn := fun _ => fun
  | [d] => { results := [.lit (.bool false)], args := [d] }
  | _ => none }
def FnTreeBentWrongFalsely : Prop := fnTreeBentRow.holds Tryd.pinned (OpenSpec.ofChange fnTreeBentWrong)

/-- 'laws.FnItemsText': WHATEVER THE INPUT: true; the input reads as it did. -/
def fnItemsTextSpec : ChangeSpec := { name := "fnItemsText", fn := fun _ => fun
  | [d] => { results := [.lit (.bool true)], args := [d] }
  | _ => none }
def fnItemsTextRow : OpenClaim := { program := "ytkofhmmfhmipgaadoor", sum := "09993e0f152b178c7904ffbd195439d25b11713685d30fc6934789da15016c58", func := "loop.example/construer/laws.FnItemsText", spec := "fnItemsText", inPlace := ["internal/bytealg.IndexByteString", "internal/bytealg.IndexString", "internal/abi.NoEscape"], named := ["unicode/utf8.first", "unicode/utf8.acceptRanges", "internal/bytealg.MaxLen"], plainKeys := false, apart := false, laid := [("unicode/utf8.acceptRanges", laid_unicode_utf8_acceptRanges), ("unicode/utf8.first", laid_unicode_utf8_first)] }
def FnItemsTextSaid : Prop := fnItemsTextRow.holds Tryd.pinned (OpenSpec.ofChange fnItemsTextSpec)

/-- ITS FALSE NEIGHBOUR: 'it returns false'. Refute it at one input. -/
def fnItemsTextWrong : ChangeSpec := { name := "fnItemsText", fn := fun _ => fun
  | [d] => { results := [.lit (.bool false)], args := [d] }
  | _ => none }
def FnItemsTextWrongFalsely : Prop := fnItemsTextRow.holds Tryd.pinned (OpenSpec.ofChange fnItemsTextWrong)

/- THE SECOND FORM. 'bulk': how many values and letters a reading holds, each counted each time it is reached (what is shared counts as often as it is met; a slice's spare places count too). A statement '..UptoSaid' is the law's where the arguments, and the package variables that the reading takes, are together of bulk at most 1048576: NARROWER than '..Said'. Prove '..Said' where nothing that the law and all that it calls make is longer than what came in: it says more and counts as full. Else prove '..UptoSaid'. A law counts once. -/
mutual
def uptoBulk {H : Type} : DataW H → Nat
  | .lit (.string bytes) => bytes.length + 1
  | .lit _ => 1
  | .nil => 1
  | .ptr d => uptoBulk d + 1
  | .slice elems spare => uptoBulkAll elems + uptoBulkAll spare + 1
  | .agg parts => uptoBulkAll parts + 1
  | .iface _ d => uptoBulk d + 1
  | .map entries => uptoBulkEntries entries + 1
  | .held _ => 1
def uptoBulkAll {H : Type} : List (DataW H) → Nat
  | [] => 0
  | d :: r => uptoBulk d + uptoBulkAll r
def uptoBulkEntries {H : Type} : List (Lit × DataW H) → Nat
  | [] => 0
  | x :: r => uptoBulkEntry x + uptoBulkEntries r
def uptoBulkEntry {H : Type} : Lit × DataW H → Nat
  | (.string bytes, d) => bytes.length + uptoBulk d + 1
  | (_, d) => uptoBulk d + 1
 end
def uptoSmall : (H : Type) → List (DataW H) → Bool := fun _ ds => decide (uptoBulkAll ds ≤ 1048576)
def OpenSpec.upto (s : _root_.Go.ChangeSpec) : _root_.Go.OpenSpec := { _root_.Go.OpenSpec.ofChange s with cond := some uptoSmall }

/-- 'laws.FnTreePart', WHERE WHAT IT READS IS OF BULK AT MOST 1048576: true; the input reads as it did. -/
def fnTreePartUptoRow : OpenClaim := { program := "ytkofhmmfhmipgaadoor", sum := "09993e0f152b178c7904ffbd195439d25b11713685d30fc6934789da15016c58", func := "loop.example/construer/laws.FnTreePart", spec := "fnTreePart", inPlace := ["internal/bytealg.IndexByteString", "internal/bytealg.IndexString"], recurses := true, named := ["unicode/utf8.first", "unicode/utf8.acceptRanges", "internal/bytealg.MaxLen"], plainKeys := false, apart := false, laid := [("unicode/utf8.acceptRanges", laid_unicode_utf8_acceptRanges), ("unicode/utf8.first", laid_unicode_utf8_first)], narrowed := true }
def FnTreePartUptoSaid : Prop := fnTreePartUptoRow.holds Tryd.pinned (OpenSpec.upto fnTreePartSpec)

/-- 'laws.FnTreeTurn', WHERE WHAT IT READS IS OF BULK AT MOST 1048576: true; the input reads as it did. -/
def fnTreeTurnUptoRow : OpenClaim := { program := "ytkofhmmfhmipgaadoor", sum := "09993e0f152b178c7904ffbd195439d25b11713685d30fc6934789da15016c58", func := "loop.example/construer/laws.FnTreeTurn", spec := "fnTreeTurn", inPlace := ["internal/abi.NoEscape", "internal/bytealg.IndexByteString", "internal/bytealg.IndexString"], unfollowed := true, recurses := true, named := ["unicode/utf8.first", "unicode/utf8.acceptRanges", "internal/bytealg.MaxLen"], plainKeys := false, apart := false, laid := [("unicode/utf8.acceptRanges", laid_unicode_utf8_acceptRanges), ("unicode/utf8.first", laid_unicode_utf8_first)], narrowed := true }
def FnTreeTurnUptoSaid : Prop := fnTreeTurnUptoRow.holds Tryd.pinned (OpenSpec.upto fnTreeTurnSpec)

/-- 'laws.FnGramTurn', WHERE WHAT IT READS IS OF BULK AT MOST 1048576: true; the input reads as it did. -/
def fnGramTurnUptoRow : OpenClaim := { program := "ytkofhmmfhmipgaadoor", sum := "09993e0f152b178c7904ffbd195439d25b11713685d30fc6934789da15016c58", func := "loop.example/construer/laws.FnGramTurn", spec := "fnGramTurn", inPlace := ["internal/bytealg.IndexByteString", "internal/bytealg.IndexString"], unfollowed := true, recurses := true, named := ["unicode/utf8.first", "unicode/utf8.acceptRanges", "internal/bytealg.MaxLen"], plainKeys := false, apart := false, laid := [("unicode/utf8.acceptRanges", laid_unicode_utf8_acceptRanges), ("unicode/utf8.first", laid_unicode_utf8_first)], narrowed := true }
def FnGramTurnUptoSaid : Prop := fnGramTurnUptoRow.holds Tryd.pinned (OpenSpec.upto fnGramTurnSpec)

/-- 'laws.FnTreeMany', WHERE WHAT IT READS IS OF BULK AT MOST 1048576: true; the input reads as it did. -/
def fnTreeManyUptoRow : OpenClaim := { program := "ytkofhmmfhmipgaadoor", sum := "09993e0f152b178c7904ffbd195439d25b11713685d30fc6934789da15016c58", func := "loop.example/construer/laws.FnTreeMany", spec := "fnTreeMany", inPlace := ["internal/bytealg.IndexByteString", "internal/bytealg.IndexString", "internal/abi.NoEscape"], recurses := true, named := ["unicode/utf8.first", "unicode/utf8.acceptRanges", "internal/bytealg.MaxLen"], plainKeys := false, apart := false, laid := [("unicode/utf8.acceptRanges", laid_unicode_utf8_acceptRanges), ("unicode/utf8.first", laid_unicode_utf8_first)], narrowed := true }
def FnTreeManyUptoSaid : Prop := fnTreeManyUptoRow.holds Tryd.pinned (OpenSpec.upto fnTreeManySpec)

/-- 'laws.FnTreeFrom', WHERE WHAT IT READS IS OF BULK AT MOST 1048576: true; the input reads as it did. -/
def fnTreeFromUptoRow : OpenClaim := { program := "ytkofhmmfhmipgaadoor", sum := "09993e0f152b178c7904ffbd195439d25b11713685d30fc6934789da15016c58", func := "loop.example/construer/laws.FnTreeFrom", spec := "fnTreeFrom", inPlace := ["internal/bytealg.IndexByteString", "internal/bytealg.IndexString"], unfollowed := true, recurses := true, named := ["unicode/utf8.first", "unicode/utf8.acceptRanges", "internal/bytealg.MaxLen"], plainKeys := false, apart := false, laid := [("unicode/utf8.acceptRanges", laid_unicode_utf8_acceptRanges), ("unicode/utf8.first", laid_unicode_utf8_first)], narrowed := true }
def FnTreeFromUptoSaid : Prop := fnTreeFromUptoRow.holds Tryd.pinned (OpenSpec.upto fnTreeFromSpec)

/-- 'laws.FnTreeBack', WHERE WHAT IT READS IS OF BULK AT MOST 1048576: true; the input reads as it did. -/
def fnTreeBackUptoRow : OpenClaim := { program := "ytkofhmmfhmipgaadoor", sum := "09993e0f152b178c7904ffbd195439d25b11713685d30fc6934789da15016c58", func := "loop.example/construer/laws.FnTreeBack", spec := "fnTreeBack", inPlace := ["internal/bytealg.IndexByteString", "internal/bytealg.IndexString"], unfollowed := true, recurses := true, named := ["unicode/utf8.first", "unicode/utf8.acceptRanges", "internal/bytealg.MaxLen"], plainKeys := false, apart := false, laid := [("unicode/utf8.acceptRanges", laid_unicode_utf8_acceptRanges), ("unicode/utf8.first", laid_unicode_utf8_first)], narrowed := true }
def FnTreeBackUptoSaid : Prop := fnTreeBackUptoRow.holds Tryd.pinned (OpenSpec.upto fnTreeBackSpec)

/-- 'laws.FnGramText', WHERE WHAT IT READS IS OF BULK AT MOST 1048576: true; the input reads as it did. -/
def fnGramTextUptoRow : OpenClaim := { program := "ytkofhmmfhmipgaadoor", sum := "09993e0f152b178c7904ffbd195439d25b11713685d30fc6934789da15016c58", func := "loop.example/construer/laws.FnGramText", spec := "fnGramText", inPlace := ["internal/bytealg.IndexByteString", "internal/bytealg.IndexString", "internal/bytealg.CountString"], named := ["unicode/utf8.first", "unicode/utf8.acceptRanges", "internal/bytealg.MaxLen"], plainKeys := false, apart := false, laid := [("unicode/utf8.acceptRanges", laid_unicode_utf8_acceptRanges), ("unicode/utf8.first", laid_unicode_utf8_first)], narrowed := true }
def FnGramTextUptoSaid : Prop := fnGramTextUptoRow.holds Tryd.pinned (OpenSpec.upto fnGramTextSpec)

/-- 'laws.FnTreeSmall', WHERE WHAT IT READS IS OF BULK AT MOST 1048576: true; the input reads as it did. -/
def fnTreeSmallUptoRow : OpenClaim := { program := "ytkofhmmfhmipgaadoor", sum := "09993e0f152b178c7904ffbd195439d25b11713685d30fc6934789da15016c58", func := "loop.example/construer/laws.FnTreeSmall", spec := "fnTreeSmall", inPlace := ["internal/bytealg.IndexByteString", "internal/bytealg.IndexString", "internal/abi.NoEscape"], unfollowed := true, recurses := true, named := ["unicode/utf8.first", "unicode/utf8.acceptRanges", "internal/bytealg.MaxLen"], plainKeys := false, apart := false, laid := [("unicode/utf8.acceptRanges", laid_unicode_utf8_acceptRanges), ("unicode/utf8.first", laid_unicode_utf8_first)], narrowed := true }
def FnTreeSmallUptoSaid : Prop := fnTreeSmallUptoRow.holds Tryd.pinned (OpenSpec.upto fnTreeSmallSpec)

/-- 'laws.FnTreeBent', WHERE WHAT IT READS IS OF BULK AT MOST 1048576: true; the input reads as it did. -/
def fnTreeBentUptoRow : OpenClaim := { program := "ytkofhmmfhmipgaadoor", sum := "09993e0f152b178c7904ffbd195439d25b11713685d30fc6934789da15016c58", func := "loop.example/construer/laws.FnTreeBent", spec := "fnTreeBent", inPlace := ["internal/bytealg.IndexByteString", "internal/bytealg.IndexString"], recurses := true, named := ["unicode/utf8.first", "unicode/utf8.acceptRanges", "internal/strconv.uint64pow10", "math/bits.deBruijn32tab", "math/bits.deBruijn64tab", "internal/bytealg.MaxLen"], plainKeys := false, apart := false, laid := [("math/bits.deBruijn32tab", laid_math_bits_deBruijn32tab), ("math/bits.deBruijn64tab", laid_math_bits_deBruijn64tab), ("internal/strconv.uint64pow10", laid_internal_strconv_uint64pow10), ("unicode/utf8.acceptRanges", laid_unicode_utf8_acceptRanges), ("unicode/utf8.first", laid_unicode_utf8_first)], narrowed := true }
def FnTreeBentUptoSaid : Prop := fnTreeBentUptoRow.holds Tryd.pinned (OpenSpec.upto fnTreeBentSpec)

/-- 'laws.FnItemsText', WHERE WHAT IT READS IS OF BULK AT MOST 1048576: true; the input reads as it did. -/
def fnItemsTextUptoRow : OpenClaim := { program := "ytkofhmmfhmipgaadoor", sum := "09993e0f152b178c7904ffbd195439d25b11713685d30fc6934789da15016c58", func := "loop.example/construer/laws.FnItemsText", spec := "fnItemsText", inPlace := ["internal/bytealg.IndexByteString", "internal/bytealg.IndexString", "internal/abi.NoEscape"], named := ["unicode/utf8.first", "unicode/utf8.acceptRanges", "internal/bytealg.MaxLen"], plainKeys := false, apart := false, laid := [("unicode/utf8.acceptRanges", laid_unicode_utf8_acceptRanges), ("unicode/utf8.first", laid_unicode_utf8_first)], narrowed := true }
def FnItemsTextUptoSaid : Prop := fnItemsTextUptoRow.holds Tryd.pinned (OpenSpec.upto fnItemsTextSpec)

end Rows
end Go.Proofs.YtkofhmmfhmipgaaDoor
