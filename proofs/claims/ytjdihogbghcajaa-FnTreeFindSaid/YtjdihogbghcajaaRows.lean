/-
  No cell of these rows narrows 'for every input' (looked for: loops, veiled, ifaces, maps, wideKeys, modest, calm, conditions, laid).
  DERIVED. THE GIVEN ROWS OF THIS SEAT. 11 by the template 'for every input the law returns true; each argument reads behind the call as it read before'; 0 by the template 'total and deterministic' (their statements: YtjdihogbghcajaaTotals.lean).
  GIVEN WITH THE SEED: the statements are not yours to turn. If you find one false, say at which input.
  Laid BY PROGRAM, IN A SANDBOX (cutbox-rows.mjs): the forced cells as the released guide's own fill.sh prints them over the translation 60f3f5d6ba110f9f… (all of the seat's roots in one cut). By AI agents, Wed Nov 11 2026. No macro, syntax, notation, axiom, sorry.
-/
import Derived.Test.YtjdihogbghcajaaChecked
import GoSem.Claim
import GoSem.ClaimJoined
import GoSem.ClaimMapViews
import Derived.JoinedTies
import Derived.KernelRfl
namespace Go.Proofs.Ytjdihogbghcajaa
/- THE CELL 'sum', in the pinned program and in every row, IS THE sha256 OF THE DUMP (.gsa) THAT YtjdihogbghcajaaProg.lean LOADS. Nothing in Lean hashes anything: it is a label: what it is worth is what the hold of that sum in a sandbox is worth. -/
noncomputable def Try.pinned : Pinned := { name := "ytjdihogbghcajaa", sum := "60f3f5d6ba110f9f58e49b8ec74201e28957289f4b8416b9e3b45aaa384be56c", checked := Try.checked }
namespace Rows
def none {H : Type} : Left H := { results := [], args := [] }

/-- 'laws.FnGramSame': WHATEVER THE INPUT: true; the input reads as it did. -/
def fnGramSameSpec : ChangeSpec := { name := "fnGramSame", fn := fun _ => fun
  | [d] => { results := [.lit (.bool true)], args := [d] }
  | _ => none }
def fnGramSameRow : OpenClaim := { program := "ytjdihogbghcajaa", sum := "60f3f5d6ba110f9f58e49b8ec74201e28957289f4b8416b9e3b45aaa384be56c", func := "loop.example/construer/laws.FnGramSame", spec := "fnGramSame", apart := false }
def FnGramSameSaid : Prop := fnGramSameRow.holds Try.pinned (OpenSpec.ofChange fnGramSameSpec)

/-- ITS FALSE NEIGHBOUR: 'it returns false'. Refute it at one input. -/
def fnGramSameWrong : ChangeSpec := { name := "fnGramSame", fn := fun _ => fun
  | [d] => { results := [.lit (.bool false)], args := [d] }
  | _ => none }
def FnGramSameWrongFalsely : Prop := fnGramSameRow.holds Try.pinned (OpenSpec.ofChange fnGramSameWrong)

/-- 'laws.FnExactAutoOk': WHATEVER THE INPUT: true; the input reads as it did. -/
def fnExactAutoOkSpec : ChangeSpec := { name := "fnExactAutoOk", fn := fun _ => fun
  | [d] => { results := [.lit (.bool true)], args := [d] }
  | _ => none }
def fnExactAutoOkRow : OpenClaim := { program := "ytjdihogbghcajaa", sum := "60f3f5d6ba110f9f58e49b8ec74201e28957289f4b8416b9e3b45aaa384be56c", func := "loop.example/construer/laws.FnExactAutoOk", spec := "fnExactAutoOk", unfollowed := true, recurses := true, apart := false }
def FnExactAutoOkSaid : Prop := fnExactAutoOkRow.holds Try.pinned (OpenSpec.ofChange fnExactAutoOkSpec)

/-- ITS FALSE NEIGHBOUR: 'it returns false'. Refute it at one input. -/
def fnExactAutoOkWrong : ChangeSpec := { name := "fnExactAutoOk", fn := fun _ => fun
  | [d] => { results := [.lit (.bool false)], args := [d] }
  | _ => none }
def FnExactAutoOkWrongFalsely : Prop := fnExactAutoOkRow.holds Try.pinned (OpenSpec.ofChange fnExactAutoOkWrong)

/-- 'laws.FnExactAutoSame': WHATEVER THE INPUT: true; the input reads as it did. -/
def fnExactAutoSameSpec : ChangeSpec := { name := "fnExactAutoSame", fn := fun _ => fun
  | [d1, d2] => { results := [.lit (.bool true)], args := [d1, d2] }
  | _ => none }
def fnExactAutoSameRow : OpenClaim := { program := "ytjdihogbghcajaa", sum := "60f3f5d6ba110f9f58e49b8ec74201e28957289f4b8416b9e3b45aaa384be56c", func := "loop.example/construer/laws.FnExactAutoSame", spec := "fnExactAutoSame", unfollowed := true, recurses := true, apart := false }
def FnExactAutoSameSaid : Prop := fnExactAutoSameRow.holds Try.pinned (OpenSpec.ofChange fnExactAutoSameSpec)

/-- ITS FALSE NEIGHBOUR: 'it returns false'. Refute it at one input. -/
def fnExactAutoSameWrong : ChangeSpec := { name := "fnExactAutoSame", fn := fun _ => fun
  | [d1, d2] => { results := [.lit (.bool false)], args := [d1, d2] }
  | _ => none }
def FnExactAutoSameWrongFalsely : Prop := fnExactAutoSameRow.holds Try.pinned (OpenSpec.ofChange fnExactAutoSameWrong)

/-- 'laws.FnEditsFar': WHATEVER THE INPUT: true; the input reads as it did. -/
def fnEditsFarSpec : ChangeSpec := { name := "fnEditsFar", fn := fun _ => fun
  | [d1, d2] => { results := [.lit (.bool true)], args := [d1, d2] }
  | _ => none }
def fnEditsFarRow : OpenClaim := { program := "ytjdihogbghcajaa", sum := "60f3f5d6ba110f9f58e49b8ec74201e28957289f4b8416b9e3b45aaa384be56c", func := "loop.example/construer/laws.FnEditsFar", spec := "fnEditsFar", apart := false }
def FnEditsFarSaid : Prop := fnEditsFarRow.holds Try.pinned (OpenSpec.ofChange fnEditsFarSpec)

/-- ITS FALSE NEIGHBOUR: 'it returns false'. Refute it at one input. -/
def fnEditsFarWrong : ChangeSpec := { name := "fnEditsFar", fn := fun _ => fun
  | [d1, d2] => { results := [.lit (.bool false)], args := [d1, d2] }
  | _ => none }
def FnEditsFarWrongFalsely : Prop := fnEditsFarRow.holds Try.pinned (OpenSpec.ofChange fnEditsFarWrong)

/-- 'laws.FnTreeSame': WHATEVER THE INPUT: true; the input reads as it did. -/
def fnTreeSameSpec : ChangeSpec := { name := "fnTreeSame", fn := fun _ => fun
  | [d] => { results := [.lit (.bool true)], args := [d] }
  | _ => none }
def fnTreeSameRow : OpenClaim := { program := "ytjdihogbghcajaa", sum := "60f3f5d6ba110f9f58e49b8ec74201e28957289f4b8416b9e3b45aaa384be56c", func := "loop.example/construer/laws.FnTreeSame", spec := "fnTreeSame", unfollowed := true, recurses := true, apart := false }
def FnTreeSameSaid : Prop := fnTreeSameRow.holds Try.pinned (OpenSpec.ofChange fnTreeSameSpec)

/-- ITS FALSE NEIGHBOUR: 'it returns false'. Refute it at one input. -/
def fnTreeSameWrong : ChangeSpec := { name := "fnTreeSame", fn := fun _ => fun
  | [d] => { results := [.lit (.bool false)], args := [d] }
  | _ => none }
def FnTreeSameWrongFalsely : Prop := fnTreeSameRow.holds Try.pinned (OpenSpec.ofChange fnTreeSameWrong)

/-- 'laws.FnAutoSame': WHATEVER THE INPUT: true; the input reads as it did. -/
def fnAutoSameSpec : ChangeSpec := { name := "fnAutoSame", fn := fun _ => fun
  | [d] => { results := [.lit (.bool true)], args := [d] }
  | _ => none }
def fnAutoSameRow : OpenClaim := { program := "ytjdihogbghcajaa", sum := "60f3f5d6ba110f9f58e49b8ec74201e28957289f4b8416b9e3b45aaa384be56c", func := "loop.example/construer/laws.FnAutoSame", spec := "fnAutoSame", unfollowed := true, recurses := true, apart := false }
def FnAutoSameSaid : Prop := fnAutoSameRow.holds Try.pinned (OpenSpec.ofChange fnAutoSameSpec)

/-- ITS FALSE NEIGHBOUR: 'it returns false'. Refute it at one input. -/
def fnAutoSameWrong : ChangeSpec := { name := "fnAutoSame", fn := fun _ => fun
  | [d] => { results := [.lit (.bool false)], args := [d] }
  | _ => none }
def FnAutoSameWrongFalsely : Prop := fnAutoSameRow.holds Try.pinned (OpenSpec.ofChange fnAutoSameWrong)

/-- 'laws.FnTreeYield': WHATEVER THE INPUT: true; the input reads as it did. -/
def fnTreeYieldSpec : ChangeSpec := { name := "fnTreeYield", fn := fun _ => fun
  | [d] => { results := [.lit (.bool true)], args := [d] }
  | _ => none }
def fnTreeYieldRow : OpenClaim := { program := "ytjdihogbghcajaa", sum := "60f3f5d6ba110f9f58e49b8ec74201e28957289f4b8416b9e3b45aaa384be56c", func := "loop.example/construer/laws.FnTreeYield", spec := "fnTreeYield", inPlace := ["internal/abi.NoEscape"], recurses := true, apart := false }
def FnTreeYieldSaid : Prop := fnTreeYieldRow.holds Try.pinned (OpenSpec.ofChange fnTreeYieldSpec)

/-- ITS FALSE NEIGHBOUR: 'it returns false'. Refute it at one input. -/
def fnTreeYieldWrong : ChangeSpec := { name := "fnTreeYield", fn := fun _ => fun
  | [d] => { results := [.lit (.bool false)], args := [d] }
  | _ => none }
def FnTreeYieldWrongFalsely : Prop := fnTreeYieldRow.holds Try.pinned (OpenSpec.ofChange fnTreeYieldWrong)

/-- 'laws.FnTreeParts': WHATEVER THE INPUT: true; the input reads as it did. -/
def fnTreePartsSpec : ChangeSpec := { name := "fnTreeParts", fn := fun _ => fun
  | [d] => { results := [.lit (.bool true)], args := [d] }
  | _ => none }
def fnTreePartsRow : OpenClaim := { program := "ytjdihogbghcajaa", sum := "60f3f5d6ba110f9f58e49b8ec74201e28957289f4b8416b9e3b45aaa384be56c", func := "loop.example/construer/laws.FnTreeParts", spec := "fnTreeParts", inPlace := ["internal/abi.NoEscape"], unfollowed := true, recurses := true, apart := false }
def FnTreePartsSaid : Prop := fnTreePartsRow.holds Try.pinned (OpenSpec.ofChange fnTreePartsSpec)

/-- ITS FALSE NEIGHBOUR: 'it returns false'. Refute it at one input. -/
def fnTreePartsWrong : ChangeSpec := { name := "fnTreeParts", fn := fun _ => fun
  | [d] => { results := [.lit (.bool false)], args := [d] }
  | _ => none }
def FnTreePartsWrongFalsely : Prop := fnTreePartsRow.holds Try.pinned (OpenSpec.ofChange fnTreePartsWrong)

/-- 'laws.FnExactAutoBoth': WHATEVER THE INPUT: true; the input reads as it did. -/
def fnExactAutoBothSpec : ChangeSpec := { name := "fnExactAutoBoth", fn := fun _ => fun
  | [d1, d2] => { results := [.lit (.bool true)], args := [d1, d2] }
  | _ => none }
def fnExactAutoBothRow : OpenClaim := { program := "ytjdihogbghcajaa", sum := "60f3f5d6ba110f9f58e49b8ec74201e28957289f4b8416b9e3b45aaa384be56c", func := "loop.example/construer/laws.FnExactAutoBoth", spec := "fnExactAutoBoth", unfollowed := true, recurses := true, apart := false }
def FnExactAutoBothSaid : Prop := fnExactAutoBothRow.holds Try.pinned (OpenSpec.ofChange fnExactAutoBothSpec)

/-- ITS FALSE NEIGHBOUR: 'it returns false'. Refute it at one input. -/
def fnExactAutoBothWrong : ChangeSpec := { name := "fnExactAutoBoth", fn := fun _ => fun
  | [d1, d2] => { results := [.lit (.bool false)], args := [d1, d2] }
  | _ => none }
def FnExactAutoBothWrongFalsely : Prop := fnExactAutoBothRow.holds Try.pinned (OpenSpec.ofChange fnExactAutoBothWrong)

/-- 'laws.FnTreeFind': WHATEVER THE INPUT: true; the input reads as it did. -/
def fnTreeFindSpec : ChangeSpec := { name := "fnTreeFind", fn := fun _ => fun
  | [d] => { results := [.lit (.bool true)], args := [d] }
  | _ => none }
def fnTreeFindRow : OpenClaim := { program := "ytjdihogbghcajaa", sum := "60f3f5d6ba110f9f58e49b8ec74201e28957289f4b8416b9e3b45aaa384be56c", func := "loop.example/construer/laws.FnTreeFind", spec := "fnTreeFind", inPlace := ["internal/abi.NoEscape"], unfollowed := true, recurses := true, apart := false }
def FnTreeFindSaid : Prop := fnTreeFindRow.holds Try.pinned (OpenSpec.ofChange fnTreeFindSpec)

/-- ITS FALSE NEIGHBOUR: 'it returns false'. Refute it at one input. -/
def fnTreeFindWrong : ChangeSpec := { name := "fnTreeFind", fn := fun _ => fun
  | [d] => { results := [.lit (.bool false)], args := [d] }
  | _ => none }
def FnTreeFindWrongFalsely : Prop := fnTreeFindRow.holds Try.pinned (OpenSpec.ofChange fnTreeFindWrong)

/-- 'laws.FnExactAutoNot': WHATEVER THE INPUT: true; the input reads as it did. -/
def fnExactAutoNotSpec : ChangeSpec := { name := "fnExactAutoNot", fn := fun _ => fun
  | [d] => { results := [.lit (.bool true)], args := [d] }
  | _ => none }
def fnExactAutoNotRow : OpenClaim := { program := "ytjdihogbghcajaa", sum := "60f3f5d6ba110f9f58e49b8ec74201e28957289f4b8416b9e3b45aaa384be56c", func := "loop.example/construer/laws.FnExactAutoNot", spec := "fnExactAutoNot", unfollowed := true, recurses := true, apart := false }
def FnExactAutoNotSaid : Prop := fnExactAutoNotRow.holds Try.pinned (OpenSpec.ofChange fnExactAutoNotSpec)

/-- ITS FALSE NEIGHBOUR: 'it returns false'. Refute it at one input. -/
def fnExactAutoNotWrong : ChangeSpec := { name := "fnExactAutoNot", fn := fun _ => fun
  | [d] => { results := [.lit (.bool false)], args := [d] }
  | _ => none }
def FnExactAutoNotWrongFalsely : Prop := fnExactAutoNotRow.holds Try.pinned (OpenSpec.ofChange fnExactAutoNotWrong)

/- THE SECOND FORM. 'bulk': how many values and letters a reading holds, each counted each time it is reached (what is shared counts as often as it is met; a slice's spare places count too). A statement '..UptoSaid' is the law's where the arguments, and the package variables that the reading takes, are together of bulk at most 1048576: NARROWER than '..Said'. Prove '..Said' where nothing that the law and all that it calls make is longer than what came in: it says more and counts as full. Else prove '..UptoSaid'. A law counts once. -/
mutual
def uptoBulk {H : Type} : DataW H → Nat
  | .lit (.string bytes) => bytes.length + 1
  | .lit _ => 1
  | .nil => 1
  | .ptr d => uptoBulk d + 1
  | .slice elems spare => uptoBulkAll elems + uptoBulkAll spare + 1
  | .agg parts => uptoBulkAll parts + 1
  | .iface _ d => uptoBulk d + 1
  | .map entries => uptoBulkEntries entries + 1
  | .held _ => 1
def uptoBulkAll {H : Type} : List (DataW H) → Nat
  | [] => 0
  | d :: r => uptoBulk d + uptoBulkAll r
def uptoBulkEntries {H : Type} : List (Lit × DataW H) → Nat
  | [] => 0
  | x :: r => uptoBulkEntry x + uptoBulkEntries r
def uptoBulkEntry {H : Type} : Lit × DataW H → Nat
  | (.string bytes, d) => bytes.length + uptoBulk d + 1
  | (_, d) => uptoBulk d + 1
 end
def uptoSmall : (H : Type) → List (DataW H) → Bool := fun _ ds => decide (uptoBulkAll ds ≤ 1048576)
def OpenSpec.upto (s : _root_.Go.ChangeSpec) : _root_.Go.OpenSpec := { _root_.Go.OpenSpec.ofChange s with cond := some uptoSmall }

/-- 'laws.FnGramSame', WHERE WHAT IT READS IS OF BULK AT MOST 1048576: true; the input reads as it did. -/
def fnGramSameUptoRow : OpenClaim := { program := "ytjdihogbghcajaa", sum := "60f3f5d6ba110f9f58e49b8ec74201e28957289f4b8416b9e3b45aaa384be56c", func := "loop.example/construer/laws.FnGramSame", spec := "fnGramSame", apart := false, narrowed := true }
def FnGramSameUptoSaid : Prop := fnGramSameUptoRow.holds Try.pinned (OpenSpec.upto fnGramSameSpec)

/-- 'laws.FnExactAutoOk', WHERE WHAT IT READS IS OF BULK AT MOST 1048576: true; the input reads as it did. -/
def fnExactAutoOkUptoRow : OpenClaim := { program := "ytjdihogbghcajaa", sum := "60f3f5d6ba110f9f58e49b8ec74201e28957289f4b8416b9e3b45aaa384be56c", func := "loop.example/construer/laws.FnExactAutoOk", spec := "fnExactAutoOk", unfollowed := true, recurses := true, apart := false, narrowed := true }
def FnExactAutoOkUptoSaid : Prop := fnExactAutoOkUptoRow.holds Try.pinned (OpenSpec.upto fnExactAutoOkSpec)

/-- 'laws.FnExactAutoSame', WHERE WHAT IT READS IS OF BULK AT MOST 1048576: true; the input reads as it did. -/
def fnExactAutoSameUptoRow : OpenClaim := { program := "ytjdihogbghcajaa", sum := "60f3f5d6ba110f9f58e49b8ec74201e28957289f4b8416b9e3b45aaa384be56c", func := "loop.example/construer/laws.FnExactAutoSame", spec := "fnExactAutoSame", unfollowed := true, recurses := true, apart := false, narrowed := true }
def FnExactAutoSameUptoSaid : Prop := fnExactAutoSameUptoRow.holds Try.pinned (OpenSpec.upto fnExactAutoSameSpec)

/-- 'laws.FnEditsFar', WHERE WHAT IT READS IS OF BULK AT MOST 1048576: true; the input reads as it did. -/
def fnEditsFarUptoRow : OpenClaim := { program := "ytjdihogbghcajaa", sum := "60f3f5d6ba110f9f58e49b8ec74201e28957289f4b8416b9e3b45aaa384be56c", func := "loop.example/construer/laws.FnEditsFar", spec := "fnEditsFar", apart := false, narrowed := true }
def FnEditsFarUptoSaid : Prop := fnEditsFarUptoRow.holds Try.pinned (OpenSpec.upto fnEditsFarSpec)

/-- 'laws.FnTreeSame', WHERE WHAT IT READS IS OF BULK AT MOST 1048576: true; the input reads as it did. -/
def fnTreeSameUptoRow : OpenClaim := { program := "ytjdihogbghcajaa", sum := "60f3f5d6ba110f9f58e49b8ec74201e28957289f4b8416b9e3b45aaa384be56c", func := "loop.example/construer/laws.FnTreeSame", spec := "fnTreeSame", unfollowed := true, recurses := true, apart := false, narrowed := true }
def FnTreeSameUptoSaid : Prop := fnTreeSameUptoRow.holds Try.pinned (OpenSpec.upto fnTreeSameSpec)

/-- 'laws.FnAutoSame', WHERE WHAT IT READS IS OF BULK AT MOST 1048576: true; the input reads as it did. -/
def fnAutoSameUptoRow : OpenClaim := { program := "ytjdihogbghcajaa", sum := "60f3f5d6ba110f9f58e49b8ec74201e28957289f4b8416b9e3b45aaa384be56c", func := "loop.example/construer/laws.FnAutoSame", spec := "fnAutoSame", unfollowed := true, recurses := true, apart := false, narrowed := true }
def FnAutoSameUptoSaid : Prop := fnAutoSameUptoRow.holds Try.pinned (OpenSpec.upto fnAutoSameSpec)

/-- 'laws.FnTreeYield', WHERE WHAT IT READS IS OF BULK AT MOST 1048576: true; the input reads as it did. -/
def fnTreeYieldUptoRow : OpenClaim := { program := "ytjdihogbghcajaa", sum := "60f3f5d6ba110f9f58e49b8ec74201e28957289f4b8416b9e3b45aaa384be56c", func := "loop.example/construer/laws.FnTreeYield", spec := "fnTreeYield", inPlace := ["internal/abi.NoEscape"], recurses := true, apart := false, narrowed := true }
def FnTreeYieldUptoSaid : Prop := fnTreeYieldUptoRow.holds Try.pinned (OpenSpec.upto fnTreeYieldSpec)

/-- 'laws.FnTreeParts', WHERE WHAT IT READS IS OF BULK AT MOST 1048576: true; the input reads as it did. -/
def fnTreePartsUptoRow : OpenClaim := { program := "ytjdihogbghcajaa", sum := "60f3f5d6ba110f9f58e49b8ec74201e28957289f4b8416b9e3b45aaa384be56c", func := "loop.example/construer/laws.FnTreeParts", spec := "fnTreeParts", inPlace := ["internal/abi.NoEscape"], unfollowed := true, recurses := true, apart := false, narrowed := true }
def FnTreePartsUptoSaid : Prop := fnTreePartsUptoRow.holds Try.pinned (OpenSpec.upto fnTreePartsSpec)

/-- 'laws.FnExactAutoBoth', WHERE WHAT IT READS IS OF BULK AT MOST 1048576: true; the input reads as it did. -/
def fnExactAutoBothUptoRow : OpenClaim := { program := "ytjdihogbghcajaa", sum := "60f3f5d6ba110f9f58e49b8ec74201e28957289f4b8416b9e3b45aaa384be56c", func := "loop.example/construer/laws.FnExactAutoBoth", spec := "fnExactAutoBoth", unfollowed := true, recurses := true, apart := false, narrowed := true }
def FnExactAutoBothUptoSaid : Prop := fnExactAutoBothUptoRow.holds Try.pinned (OpenSpec.upto fnExactAutoBothSpec)

/-- 'laws.FnTreeFind', WHERE WHAT IT READS IS OF BULK AT MOST 1048576: true; the input reads as it did. -/
def fnTreeFindUptoRow : OpenClaim := { program := "ytjdihogbghcajaa", sum := "60f3f5d6ba110f9f58e49b8ec74201e28957289f4b8416b9e3b45aaa384be56c", func := "loop.example/construer/laws.FnTreeFind", spec := "fnTreeFind", inPlace := ["internal/abi.NoEscape"], unfollowed := true, recurses := true, apart := false, narrowed := true }
def FnTreeFindUptoSaid : Prop := fnTreeFindUptoRow.holds Try.pinned (OpenSpec.upto fnTreeFindSpec)

/-- 'laws.FnExactAutoNot', WHERE WHAT IT READS IS OF BULK AT MOST 1048576: true; the input reads as it did. -/
def fnExactAutoNotUptoRow : OpenClaim := { program := "ytjdihogbghcajaa", sum := "60f3f5d6ba110f9f58e49b8ec74201e28957289f4b8416b9e3b45aaa384be56c", func := "loop.example/construer/laws.FnExactAutoNot", spec := "fnExactAutoNot", unfollowed := true, recurses := true, apart := false, narrowed := true }
def FnExactAutoNotUptoSaid : Prop := fnExactAutoNotUptoRow.holds Try.pinned (OpenSpec.upto fnExactAutoNotSpec)

end Rows
end Go.Proofs.Ytjdihogbghcajaa
