/-
  NARROWER THAN 'FOR EVERY INPUT', by the rows' own cells (each row's printed sentence says how): FnAutoNot: laid · FnAutoOf: laid · FnAutoOwn: laid · FnMeetBoth: laid · FnMeetOf: laid · FnExactAutoOf: laid.
  DERIVED. THE GIVEN ROWS OF THIS SEAT. 6 by the template 'for every input the law returns true; each argument reads behind the call as it read before'; 0 by the template 'total and deterministic' (their statements: YtmonmbjjobcnaaaDoorTotals.lean).
  GIVEN WITH THE SEED: the statements are not yours to turn. If you find one false, say at which input.
  Laid BY PROGRAM, IN A SANDBOX (cutbox-rows.mjs): the forced cells as the released guide's own fill.sh prints them over the translation c710fa80862f1d2e… (all of the seat's roots in one cut). By AI agents, Wed Nov 11 2026. No macro, syntax, notation, axiom, sorry.
-/
import Derived.Test.YtmonmbjjobcnaaaDoorChecked
import GoSem.PinnedTables
import GoSem.Claim
import GoSem.ClaimJoined
import GoSem.ClaimMapViews
import Derived.JoinedTies
import Derived.KernelRfl
namespace Go.Proofs.YtmonmbjjobcnaaaDoor
/- THE CELL 'sum', in the pinned program and in every row, IS THE sha256 OF THE DUMP (.gsa) THAT YtmonmbjjobcnaaaDoorProg.lean LOADS. Nothing in Lean hashes anything: it is a label: what it is worth is what the hold of that sum in a sandbox is worth. -/
noncomputable def Tryd.pinned : Pinned := { name := "ytmonmbjjobcnaaadoor", sum := "c710fa80862f1d2e3e3e8ccc625f511ec159e9ff975f75e0e8ae9c4b8f920f2f", checked := Tryd.checked }
namespace Rows
def none {H : Type} : Left H := { results := [], args := [] }

/- WHAT THE LISTED PACKAGE-LEVEL VARIABLES READ AS WHEN THE CALL BEGINS. Each datum BY PROGRAM (the guide's laid-datum.mjs) off the statement by which the dump's own 'gosem.cut.vars' lays the variable. In a bare row this is a premise. The card (YtmonmbjjobcnaaaDoorCards.lean) ties it to the program's text. -/
def laid_unicode_utf8_acceptRanges {H : Type} : DataW H := .agg [.agg [.lit (.int .u8 128), .lit (.int .u8 191)], .agg [.lit (.int .u8 160), .lit (.int .u8 191)], .agg [.lit (.int .u8 128), .lit (.int .u8 159)], .agg [.lit (.int .u8 144), .lit (.int .u8 191)], .agg [.lit (.int .u8 128), .lit (.int .u8 143)], .agg [.lit (.int .u8 0), .lit (.int .u8 0)], .agg [.lit (.int .u8 0), .lit (.int .u8 0)], .agg [.lit (.int .u8 0), .lit (.int .u8 0)], .agg [.lit (.int .u8 0), .lit (.int .u8 0)], .agg [.lit (.int .u8 0), .lit (.int .u8 0)], .agg [.lit (.int .u8 0), .lit (.int .u8 0)], .agg [.lit (.int .u8 0), .lit (.int .u8 0)], .agg [.lit (.int .u8 0), .lit (.int .u8 0)], .agg [.lit (.int .u8 0), .lit (.int .u8 0)], .agg [.lit (.int .u8 0), .lit (.int .u8 0)], .agg [.lit (.int .u8 0), .lit (.int .u8 0)]]
/-- One of Go's own tables, pinned by name: the form's constant. -/
def laid_unicode_utf8_first : DataW Unit := Go.Pinned.utf8First

/-- 'laws.FnAutoNot': WHATEVER THE INPUT: true; the input reads as it did. -/
def fnAutoNotSpec : ChangeSpec := { name := "fnAutoNot", fn := fun _ => fun
  | [d] => { results := [.lit (.bool true)], args := [d] }
  | _ => none }
def fnAutoNotRow : OpenClaim := { program := "ytmonmbjjobcnaaadoor", sum := "c710fa80862f1d2e3e3e8ccc625f511ec159e9ff975f75e0e8ae9c4b8f920f2f", func := "loop.example/construer/laws.FnAutoNot", spec := "fnAutoNot", inPlace := ["internal/bytealg.IndexByteString", "internal/bytealg.IndexString"], unfollowed := true, recurses := true, named := ["unicode/utf8.first", "unicode/utf8.acceptRanges", "internal/bytealg.MaxLen"], plainKeys := false, apart := false, laid := [("unicode/utf8.acceptRanges", laid_unicode_utf8_acceptRanges), ("unicode/utf8.first", laid_unicode_utf8_first)] }
def FnAutoNotSaid : Prop := fnAutoNotRow.holds Tryd.pinned (OpenSpec.ofChange fnAutoNotSpec)

/-- ITS FALSE NEIGHBOUR: 'it returns false'. Refute it at one input. -/
def fnAutoNotWrong : ChangeSpec := { name := "fnAutoNot", fn := fun _ => fun
  | [d] => { results := [.lit (.bool false)], args := [d] }
  | _ => none }
def FnAutoNotWrongFalsely : Prop := fnAutoNotRow.holds Tryd.pinned (OpenSpec.ofChange fnAutoNotWrong)

/-- 'laws.FnAutoOf': WHATEVER THE INPUT: true; the input reads as it did. -/
def fnAutoOfSpec : ChangeSpec := { name := "fnAutoOf", fn := fun _ => fun
  | [d] => { results := [.lit (.bool true)], args := [d] }
  | _ => none }
def fnAutoOfRow : OpenClaim := { program := "ytmonmbjjobcnaaadoor", sum := "c710fa80862f1d2e3e3e8ccc625f511ec159e9ff975f75e0e8ae9c4b8f920f2f", func := "loop.example/construer/laws.FnAutoOf", spec := "fnAutoOf", inPlace := ["internal/bytealg.IndexByteString", "internal/bytealg.IndexString"], unfollowed := true, recurses := true, named := ["unicode/utf8.first", "unicode/utf8.acceptRanges", "internal/bytealg.MaxLen"], plainKeys := false, apart := false, laid := [("unicode/utf8.acceptRanges", laid_unicode_utf8_acceptRanges), ("unicode/utf8.first", laid_unicode_utf8_first)] }
def FnAutoOfSaid : Prop := fnAutoOfRow.holds Tryd.pinned (OpenSpec.ofChange fnAutoOfSpec)

/-- ITS FALSE NEIGHBOUR: 'it returns false'. Refute it at one input. -/
def fnAutoOfWrong : ChangeSpec := { name := "fnAutoOf", fn := fun _ => fun
  | [d] => { results := [.lit (.bool false)], args := [d] }
  | _ => none }
def FnAutoOfWrongFalsely : Prop := fnAutoOfRow.holds Tryd.pinned (OpenSpec.ofChange fnAutoOfWrong)

/-- 'laws.FnAutoOwn': WHATEVER THE INPUT: true; the input reads as it did. -/
def fnAutoOwnSpec : ChangeSpec := { name := "fnAutoOwn", fn := fun _ => fun
  | [d] => { results := [.lit (.bool true)], args := [d] }
  | _ => none }
def fnAutoOwnRow : OpenClaim := { program := "ytmonmbjjobcnaaadoor", sum := "c710fa80862f1d2e3e3e8ccc625f511ec159e9ff975f75e0e8ae9c4b8f920f2f", func := "loop.example/construer/laws.FnAutoOwn", spec := "fnAutoOwn", inPlace := ["internal/bytealg.IndexByteString", "internal/bytealg.IndexString"], unfollowed := true, recurses := true, named := ["unicode/utf8.first", "unicode/utf8.acceptRanges", "internal/bytealg.MaxLen"], plainKeys := false, apart := false, laid := [("unicode/utf8.acceptRanges", laid_unicode_utf8_acceptRanges), ("unicode/utf8.first", laid_unicode_utf8_first)] }
def FnAutoOwnSaid : Prop := fnAutoOwnRow.holds Tryd.pinned (OpenSpec.ofChange fnAutoOwnSpec)

/-- ITS FALSE NEIGHBOUR: 'it returns false'. Refute it at one input. -/
def fnAutoOwnWrong : ChangeSpec := { name := "fnAutoOwn", fn := fun _ => fun
  | [d] => { results := [.lit (.bool false)], args := [d] }
  | _ => none }
def FnAutoOwnWrongFalsely : Prop := fnAutoOwnRow.holds Tryd.pinned (OpenSpec.ofChange fnAutoOwnWrong)

/-- 'laws.FnMeetBoth': WHATEVER THE INPUT: true; the input reads as it did. -/
def fnMeetBothSpec : ChangeSpec := { name := "fnMeetBoth", fn := fun _ => fun
  | [d] => { results := [.lit (.bool true)], args := [d] }
  | _ => none }
def fnMeetBothRow : OpenClaim := { program := "ytmonmbjjobcnaaadoor", sum := "c710fa80862f1d2e3e3e8ccc625f511ec159e9ff975f75e0e8ae9c4b8f920f2f", func := "loop.example/construer/laws.FnMeetBoth", spec := "fnMeetBoth", inPlace := ["internal/bytealg.IndexByteString", "internal/bytealg.IndexString"], unfollowed := true, recurses := true, named := ["unicode/utf8.first", "unicode/utf8.acceptRanges", "internal/bytealg.MaxLen"], plainKeys := false, apart := false, laid := [("unicode/utf8.acceptRanges", laid_unicode_utf8_acceptRanges), ("unicode/utf8.first", laid_unicode_utf8_first)] }
def FnMeetBothSaid : Prop := fnMeetBothRow.holds Tryd.pinned (OpenSpec.ofChange fnMeetBothSpec)

/-- ITS FALSE NEIGHBOUR: 'it returns false'. Refute it at one input. -/
def fnMeetBothWrong : ChangeSpec := { name := "fnMeetBoth", fn := fun _ => fun
  | [d] => { results := [.lit (.bool false)], args := [d] }
  | _ => none }
def FnMeetBothWrongFalsely : Prop := fnMeetBothRow.holds Tryd.pinned (OpenSpec.ofChange fnMeetBothWrong)

/-- 'laws.FnMeetOf': WHATEVER THE INPUT: true; the input reads as it did. -/
def fnMeetOfSpec : ChangeSpec := { name := "fnMeetOf", fn := fun _ => fun
  | [d] => { results := [.lit (.bool true)], args := [d] }
  | _ => none }
def fnMeetOfRow : OpenClaim := { program := "ytmonmbjjobcnaaadoor", sum := "c710fa80862f1d2e3e3e8ccc625f511ec159e9ff975f75e0e8ae9c4b8f920f2f", func := "loop.example/construer/laws.FnMeetOf", spec := "fnMeetOf", inPlace := ["internal/bytealg.IndexByteString", "internal/bytealg.IndexString"], unfollowed := true, recurses := true, named := ["unicode/utf8.first", "unicode/utf8.acceptRanges", "internal/bytealg.MaxLen"], plainKeys := false, apart := false, laid := [("unicode/utf8.acceptRanges", laid_unicode_utf8_acceptRanges), ("unicode/utf8.first", laid_unicode_utf8_first)] }
def FnMeetOfSaid : Prop := fnMeetOfRow.holds Tryd.pinned (OpenSpec.ofChange fnMeetOfSpec)

/-- ITS FALSE NEIGHBOUR: 'it returns false'. Refute it at one input. -/
def fnMeetOfWrong : ChangeSpec := { name := "fnMeetOf", fn := fun _ => fun
  | [d] => { results := [.lit (.bool false)], args := [d] }
  | _ => none }
def FnMeetOfWrongFalsely : Prop := fnMeetOfRow.holds Tryd.pinned (OpenSpec.ofChange fnMeetOfWrong)

/-- 'laws.FnExactAutoOf': WHATEVER THE INPUT: true; the input reads as it did. -/
def fnExactAutoOfSpec : ChangeSpec := { name := "fnExactAutoOf", fn := fun _ => fun
  | [d] => { results := [.lit (.bool true)], args := [d] }
  | _ => none }
def fnExactAutoOfRow : OpenClaim := { program := "ytmonmbjjobcnaaadoor", sum := "c710fa80862f1d2e3e3e8ccc625f511ec159e9ff975f75e0e8ae9c4b8f920f2f", func := "loop.example/construer/laws.FnExactAutoOf", spec := "fnExactAutoOf", inPlace := ["internal/bytealg.IndexByteString", "internal/bytealg.IndexString"], named := ["unicode/utf8.first", "unicode/utf8.acceptRanges", "internal/bytealg.MaxLen"], plainKeys := false, apart := false, laid := [("unicode/utf8.acceptRanges", laid_unicode_utf8_acceptRanges), ("unicode/utf8.first", laid_unicode_utf8_first)] }
def FnExactAutoOfSaid : Prop := fnExactAutoOfRow.holds Tryd.pinned (OpenSpec.ofChange fnExactAutoOfSpec)

/-- ITS FALSE NEIGHBOUR: 'it returns false'. Refute it at one input. -/
def fnExactAutoOfWrong : ChangeSpec := { name := "fnExactAutoOf", fn := fun _ => fun
  | [d] => { results := [.lit (.bool false)], args := [d] }
  | _ => none }
def FnExactAutoOfWrongFalsely : Prop := fnExactAutoOfRow.holds Tryd.pinned (OpenSpec.ofChange fnExactAutoOfWrong)

/- THE SECOND FORM. 'bulk': how many values and letters a reading holds, each counted each time it is reached (what is shared counts as often as it is met; a slice's spare places count too). A statement '..UptoSaid' is the law's where the arguments, and the package variables that the reading takes, are together of bulk at most 1048576: NARROWER than '..Said'. Prove '..Said' where nothing that the law and all that it calls make is longer than what came in: it says more and counts as full. Else prove '..UptoSaid'. A law counts once. -/
mutual
def uptoBulk {H : Type} : DataW H → Nat
  | .lit (.string bytes) => bytes.length + 1
  | .lit _ => 1
  | .nil => 1
  | .ptr d => uptoBulk d + 1
  | .slice elems spare => uptoBulkAll elems + uptoBulkAll spare + 1
  | .agg parts => uptoBulkAll parts + 1
  | .iface _ d => uptoBulk d + 1
  | .map entries => uptoBulkEntries entries + 1
  | .held _ => 1
def uptoBulkAll {H : Type} : List (DataW H) → Nat
  | [] => 0
  | d :: r => uptoBulk d + uptoBulkAll r
def uptoBulkEntries {H : Type} : List (Lit × DataW H) → Nat
  | [] => 0
  | x :: r => uptoBulkEntry x + uptoBulkEntries r
def uptoBulkEntry {H : Type} : Lit × DataW H → Nat
  | (.string bytes, d) => bytes.length + uptoBulk d + 1
  | (_, d) => uptoBulk d + 1
 end
def uptoSmall : (H : Type) → List (DataW H) → Bool := fun _ ds => decide (uptoBulkAll ds ≤ 1048576)
def OpenSpec.upto (s : _root_.Go.ChangeSpec) : _root_.Go.OpenSpec := { _root_.Go.OpenSpec.ofChange s with cond := some uptoSmall }

/-- 'laws.FnAutoNot', WHERE WHAT IT READS IS OF BULK AT MOST 1048576: true; the input reads as it did. -/
def fnAutoNotUptoRow : OpenClaim := { program := "ytmonmbjjobcnaaadoor", sum := "c710fa80862f1d2e3e3e8ccc625f511ec159e9ff975f75e0e8ae9c4b8f920f2f", func := "loop.example/construer/laws.FnAutoNot", spec := "fnAutoNot", inPlace := ["internal/bytealg.IndexByteString", "internal/bytealg.IndexString"], unfollowed := true, recurses := true, named := ["unicode/utf8.first", "unicode/utf8.acceptRanges", "internal/bytealg.MaxLen"], plainKeys := false, apart := false, laid := [("unicode/utf8.acceptRanges", laid_unicode_utf8_acceptRanges), ("unicode/utf8.first", laid_unicode_utf8_first)], narrowed := true }
def FnAutoNotUptoSaid : Prop := fnAutoNotUptoRow.holds Tryd.pinned (OpenSpec.upto fnAutoNotSpec)

/-- 'laws.FnAutoOf', WHERE WHAT IT READS IS OF BULK AT MOST 1048576: true; the input reads as it did. -/
def fnAutoOfUptoRow : OpenClaim := { program := "ytmonmbjjobcnaaadoor", sum := "c710fa80862f1d2e3e3e8ccc625f511ec159e9ff975f75e0e8ae9c4b8f920f2f", func := "loop.example/construer/laws.FnAutoOf", spec := "fnAutoOf", inPlace := ["internal/bytealg.IndexByteString", "internal/bytealg.IndexString"], unfollowed := true, recurses := true, named := ["unicode/utf8.first", "unicode/utf8.acceptRanges", "internal/bytealg.MaxLen"], plainKeys := false, apart := false, laid := [("unicode/utf8.acceptRanges", laid_unicode_utf8_acceptRanges), ("unicode/utf8.first", laid_unicode_utf8_first)], narrowed := true }
def FnAutoOfUptoSaid : Prop := fnAutoOfUptoRow.holds Tryd.pinned (OpenSpec.upto fnAutoOfSpec)

/-- 'laws.FnAutoOwn', WHERE WHAT IT READS IS OF BULK AT MOST 1048576: true; the input reads as it did. -/
def fnAutoOwnUptoRow : OpenClaim := { program := "ytmonmbjjobcnaaadoor", sum := "c710fa80862f1d2e3e3e8ccc625f511ec159e9ff975f75e0e8ae9c4b8f920f2f", func := "loop.example/construer/laws.FnAutoOwn", spec := "fnAutoOwn", inPlace := ["internal/bytealg.IndexByteString", "internal/bytealg.IndexString"], unfollowed := true, recurses := true, named := ["unicode/utf8.first", "unicode/utf8.acceptRanges", "internal/bytealg.MaxLen"], plainKeys := false, apart := false, laid := [("unicode/utf8.acceptRanges", laid_unicode_utf8_acceptRanges), ("unicode/utf8.first", laid_unicode_utf8_first)], narrowed := true }
def FnAutoOwnUptoSaid : Prop := fnAutoOwnUptoRow.holds Tryd.pinned (OpenSpec.upto fnAutoOwnSpec)

/-- 'laws.FnMeetBoth', WHERE WHAT IT READS IS OF BULK AT MOST 1048576: true; the input reads as it did. -/
def fnMeetBothUptoRow : OpenClaim := { program := "ytmonmbjjobcnaaadoor", sum := "c710fa80862f1d2e3e3e8ccc625f511ec159e9ff975f75e0e8ae9c4b8f920f2f", func := "loop.example/construer/laws.FnMeetBoth", spec := "fnMeetBoth", inPlace := ["internal/bytealg.IndexByteString", "internal/bytealg.IndexString"], unfollowed := true, recurses := true, named := ["unicode/utf8.first", "unicode/utf8.acceptRanges", "internal/bytealg.MaxLen"], plainKeys := false, apart := false, laid := [("unicode/utf8.acceptRanges", laid_unicode_utf8_acceptRanges), ("unicode/utf8.first", laid_unicode_utf8_first)], narrowed := true }
def FnMeetBothUptoSaid : Prop := fnMeetBothUptoRow.holds Tryd.pinned (OpenSpec.upto fnMeetBothSpec)

/-- 'laws.FnMeetOf', WHERE WHAT IT READS IS OF BULK AT MOST 1048576: true; the input reads as it did. -/
def fnMeetOfUptoRow : OpenClaim := { program := "ytmonmbjjobcnaaadoor", sum := "c710fa80862f1d2e3e3e8ccc625f511ec159e9ff975f75e0e8ae9c4b8f920f2f", func := "loop.example/construer/laws.FnMeetOf", spec := "fnMeetOf", inPlace := ["internal/bytealg.IndexByteString", "internal/bytealg.IndexString"], unfollowed := true, recurses := true, named := ["unicode/utf8.first", "unicode/utf8.acceptRanges", "internal/bytealg.MaxLen"], plainKeys := false, apart := false, laid := [("unicode/utf8.acceptRanges", laid_unicode_utf8_acceptRanges), ("unicode/utf8.first", laid_unicode_utf8_first)], narrowed := true }
def FnMeetOfUptoSaid : Prop := fnMeetOfUptoRow.holds Tryd.pinned (OpenSpec.upto fnMeetOfSpec)

/-- 'laws.FnExactAutoOf', WHERE WHAT IT READS IS OF BULK AT MOST 1048576: true; the input reads as it did. -/
def fnExactAutoOfUptoRow : OpenClaim := { program := "ytmonmbjjobcnaaadoor", sum := "c710fa80862f1d2e3e3e8ccc625f511ec159e9ff975f75e0e8ae9c4b8f920f2f", func := "loop.example/construer/laws.FnExactAutoOf", spec := "fnExactAutoOf", inPlace := ["internal/bytealg.IndexByteString", "internal/bytealg.IndexString"], named := ["unicode/utf8.first", "unicode/utf8.acceptRanges", "internal/bytealg.MaxLen"], plainKeys := false, apart := false, laid := [("unicode/utf8.acceptRanges", laid_unicode_utf8_acceptRanges), ("unicode/utf8.first", laid_unicode_utf8_first)], narrowed := true }
def FnExactAutoOfUptoSaid : Prop := fnExactAutoOfUptoRow.holds Tryd.pinned (OpenSpec.upto fnExactAutoOfSpec)

end Rows
end Go.Proofs.YtmonmbjjobcnaaaDoor
