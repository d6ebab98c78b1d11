/-
  No cell of these rows narrows 'for every input' (looked for: loops, veiled, ifaces, maps, wideKeys, modest, calm, conditions, laid).
  DERIVED. THE GIVEN ROWS OF THIS SEAT. 5 by the template 'for every input the law returns true; each argument reads behind the call as it read before'; 0 by the template 'total and deterministic' (their statements: YtjpljbcodljhlaaTotals.lean).
  GIVEN WITH THE SEED: the statements are not yours to turn. If you find one false, say at which input.
  Laid BY PROGRAM, IN A SANDBOX (cutbox-rows.mjs): the forced cells as the released guide's own fill.sh prints them over the translation 2330ff79dd1b1335… (all of the seat's roots in one cut). By AI agents, Wed Nov 11 2026. No macro, syntax, notation, axiom, sorry.
-/
import Derived.Test.YtjpljbcodljhlaaChecked
import GoSem.Claim
import GoSem.ClaimJoined
import GoSem.ClaimMapViews
import Derived.JoinedTies
import Derived.KernelRfl
namespace Go.Proofs.Ytjpljbcodljhlaa
/- THE CELL 'sum', in the pinned program and in every row, IS THE sha256 OF THE DUMP (.gsa) THAT YtjpljbcodljhlaaProg.lean LOADS. Nothing in Lean hashes anything: it is a label: what it is worth is what the hold of that sum in a sandbox is worth. -/
noncomputable def Try.pinned : Pinned := { name := "ytjpljbcodljhlaa", sum := "2330ff79dd1b133587668c8cc4f64b9a526f416a5cfa8a61f3e6a1b97324ea61", checked := Try.checked }
namespace Rows
def none {H : Type} : Left H := { results := [], args := [] }

/-- 'laws.FnExactEqualLoaders': WHATEVER THE INPUT: true; the input reads as it did. -/
def fnExactEqualLoadersSpec : ChangeSpec := { name := "fnExactEqualLoaders", fn := fun _ => fun
  | [d1, d2] => { results := [.lit (.bool true)], args := [d1, d2] }
  | _ => none }
def fnExactEqualLoadersRow : OpenClaim := { program := "ytjpljbcodljhlaa", sum := "2330ff79dd1b133587668c8cc4f64b9a526f416a5cfa8a61f3e6a1b97324ea61", func := "loop.example/g01919/laws.FnExactEqualLoaders", spec := "fnExactEqualLoaders", unfollowed := true, recurses := true, apart := false }
def FnExactEqualLoadersSaid : Prop := fnExactEqualLoadersRow.holds Try.pinned (OpenSpec.ofChange fnExactEqualLoadersSpec)

/-- ITS FALSE NEIGHBOUR: 'it returns false'. Refute it at one input. -/
def fnExactEqualLoadersWrong : ChangeSpec := { name := "fnExactEqualLoaders", fn := fun _ => fun
  | [d1, d2] => { results := [.lit (.bool false)], args := [d1, d2] }
  | _ => none }
def FnExactEqualLoadersWrongFalsely : Prop := fnExactEqualLoadersRow.holds Try.pinned (OpenSpec.ofChange fnExactEqualLoadersWrong)

/-- 'laws.FnExactCanUnfold': WHATEVER THE INPUT: true; the input reads as it did. -/
def fnExactCanUnfoldSpec : ChangeSpec := { name := "fnExactCanUnfold", fn := fun _ => fun
  | [d1, d2, d3] => { results := [.lit (.bool true)], args := [d1, d2, d3] }
  | _ => none }
def fnExactCanUnfoldRow : OpenClaim := { program := "ytjpljbcodljhlaa", sum := "2330ff79dd1b133587668c8cc4f64b9a526f416a5cfa8a61f3e6a1b97324ea61", func := "loop.example/g01919/laws.FnExactCanUnfold", spec := "fnExactCanUnfold", unfollowed := true, recurses := true, apart := false }
def FnExactCanUnfoldSaid : Prop := fnExactCanUnfoldRow.holds Try.pinned (OpenSpec.ofChange fnExactCanUnfoldSpec)

/-- ITS FALSE NEIGHBOUR: 'it returns false'. Refute it at one input. -/
def fnExactCanUnfoldWrong : ChangeSpec := { name := "fnExactCanUnfold", fn := fun _ => fun
  | [d1, d2, d3] => { results := [.lit (.bool false)], args := [d1, d2, d3] }
  | _ => none }
def FnExactCanUnfoldWrongFalsely : Prop := fnExactCanUnfoldRow.holds Try.pinned (OpenSpec.ofChange fnExactCanUnfoldWrong)

/-- 'laws.FnExactCountTerms': WHATEVER THE INPUT: true; the input reads as it did. -/
def fnExactCountTermsSpec : ChangeSpec := { name := "fnExactCountTerms", fn := fun _ => fun
  | [d1, d2] => { results := [.lit (.bool true)], args := [d1, d2] }
  | _ => none }
def fnExactCountTermsRow : OpenClaim := { program := "ytjpljbcodljhlaa", sum := "2330ff79dd1b133587668c8cc4f64b9a526f416a5cfa8a61f3e6a1b97324ea61", func := "loop.example/g01919/laws.FnExactCountTerms", spec := "fnExactCountTerms", unfollowed := true, recurses := true, apart := false }
def FnExactCountTermsSaid : Prop := fnExactCountTermsRow.holds Try.pinned (OpenSpec.ofChange fnExactCountTermsSpec)

/-- ITS FALSE NEIGHBOUR: 'it returns false'. Refute it at one input. -/
def fnExactCountTermsWrong : ChangeSpec := { name := "fnExactCountTerms", fn := fun _ => fun
  | [d1, d2] => { results := [.lit (.bool false)], args := [d1, d2] }
  | _ => none }
def FnExactCountTermsWrongFalsely : Prop := fnExactCountTermsRow.holds Try.pinned (OpenSpec.ofChange fnExactCountTermsWrong)

/-- 'laws.FnExactTermDepth': WHATEVER THE INPUT: true; the input reads as it did. -/
def fnExactTermDepthSpec : ChangeSpec := { name := "fnExactTermDepth", fn := fun _ => fun
  | [d1, d2] => { results := [.lit (.bool true)], args := [d1, d2] }
  | _ => none }
def fnExactTermDepthRow : OpenClaim := { program := "ytjpljbcodljhlaa", sum := "2330ff79dd1b133587668c8cc4f64b9a526f416a5cfa8a61f3e6a1b97324ea61", func := "loop.example/g01919/laws.FnExactTermDepth", spec := "fnExactTermDepth", unfollowed := true, recurses := true, apart := false }
def FnExactTermDepthSaid : Prop := fnExactTermDepthRow.holds Try.pinned (OpenSpec.ofChange fnExactTermDepthSpec)

/-- ITS FALSE NEIGHBOUR: 'it returns false'. Refute it at one input. -/
def fnExactTermDepthWrong : ChangeSpec := { name := "fnExactTermDepth", fn := fun _ => fun
  | [d1, d2] => { results := [.lit (.bool false)], args := [d1, d2] }
  | _ => none }
def FnExactTermDepthWrongFalsely : Prop := fnExactTermDepthRow.holds Try.pinned (OpenSpec.ofChange fnExactTermDepthWrong)

/-- 'laws.FnExactMaxDepthAt': WHATEVER THE INPUT: true; the input reads as it did. -/
def fnExactMaxDepthAtSpec : ChangeSpec := { name := "fnExactMaxDepthAt", fn := fun _ => fun
  | [d1, d2] => { results := [.lit (.bool true)], args := [d1, d2] }
  | _ => none }
def fnExactMaxDepthAtRow : OpenClaim := { program := "ytjpljbcodljhlaa", sum := "2330ff79dd1b133587668c8cc4f64b9a526f416a5cfa8a61f3e6a1b97324ea61", func := "loop.example/g01919/laws.FnExactMaxDepthAt", spec := "fnExactMaxDepthAt", unfollowed := true, recurses := true, apart := false }
def FnExactMaxDepthAtSaid : Prop := fnExactMaxDepthAtRow.holds Try.pinned (OpenSpec.ofChange fnExactMaxDepthAtSpec)

/-- ITS FALSE NEIGHBOUR: 'it returns false'. Refute it at one input. -/
def fnExactMaxDepthAtWrong : ChangeSpec := { name := "fnExactMaxDepthAt", fn := fun _ => fun
  | [d1, d2] => { results := [.lit (.bool false)], args := [d1, d2] }
  | _ => none }
def FnExactMaxDepthAtWrongFalsely : Prop := fnExactMaxDepthAtRow.holds Try.pinned (OpenSpec.ofChange fnExactMaxDepthAtWrong)

/- THE SECOND FORM. 'bulk': how many values and letters a reading holds, each counted each time it is reached (what is shared counts as often as it is met; a slice's spare places count too). A statement '..UptoSaid' is the law's where the arguments, and the package variables that the reading takes, are together of bulk at most 1048576: NARROWER than '..Said'. Prove '..Said' where nothing that the law and all that it calls make is longer than what came in: it says more and counts as full. Else prove '..UptoSaid'. A law counts once. -/
mutual
def uptoBulk {H : Type} : DataW H → Nat
  | .lit (.string bytes) => bytes.length + 1
  | .lit _ => 1
  | .nil => 1
  | .ptr d => uptoBulk d + 1
  | .slice elems spare => uptoBulkAll elems + uptoBulkAll spare + 1
  | .agg parts => uptoBulkAll parts + 1
  | .iface _ d => uptoBulk d + 1
  | .map entries => uptoBulkEntries entries + 1
  | .held _ => 1
def uptoBulkAll {H : Type} : List (DataW H) → Nat
  | [] => 0
  | d :: r => uptoBulk d + uptoBulkAll r
def uptoBulkEntries {H : Type} : List (Lit × DataW H) → Nat
  | [] => 0
  | x :: r => uptoBulkEntry x + uptoBulkEntries r
def uptoBulkEntry {H : Type} : Lit × DataW H → Nat
  | (.string bytes, d) => bytes.length + uptoBulk d + 1
  | (_, d) => uptoBulk d + 1
 end
def uptoSmall : (H : Type) → List (DataW H) → Bool := fun _ ds => decide (uptoBulkAll ds ≤ 1048576)
def OpenSpec.upto (s : _root_.Go.ChangeSpec) : _root_.Go.OpenSpec := { _root_.Go.OpenSpec.ofChange s with cond := some uptoSmall }

/-- 'laws.FnExactEqualLoaders', WHERE WHAT IT READS IS OF BULK AT MOST 1048576: true; the input reads as it did. -/
def fnExactEqualLoadersUptoRow : OpenClaim := { program := "ytjpljbcodljhlaa", sum := "2330ff79dd1b133587668c8cc4f64b9a526f416a5cfa8a61f3e6a1b97324ea61", func := "loop.example/g01919/laws.FnExactEqualLoaders", spec := "fnExactEqualLoaders", unfollowed := true, recurses := true, apart := false, narrowed := true }
def FnExactEqualLoadersUptoSaid : Prop := fnExactEqualLoadersUptoRow.holds Try.pinned (OpenSpec.upto fnExactEqualLoadersSpec)

/-- 'laws.FnExactCanUnfold', WHERE WHAT IT READS IS OF BULK AT MOST 1048576: true; the input reads as it did. -/
def fnExactCanUnfoldUptoRow : OpenClaim := { program := "ytjpljbcodljhlaa", sum := "2330ff79dd1b133587668c8cc4f64b9a526f416a5cfa8a61f3e6a1b97324ea61", func := "loop.example/g01919/laws.FnExactCanUnfold", spec := "fnExactCanUnfold", unfollowed := true, recurses := true, apart := false, narrowed := true }
def FnExactCanUnfoldUptoSaid : Prop := fnExactCanUnfoldUptoRow.holds Try.pinned (OpenSpec.upto fnExactCanUnfoldSpec)

/-- 'laws.FnExactCountTerms', WHERE WHAT IT READS IS OF BULK AT MOST 1048576: true; the input reads as it did. -/
def fnExactCountTermsUptoRow : OpenClaim := { program := "ytjpljbcodljhlaa", sum := "2330ff79dd1b133587668c8cc4f64b9a526f416a5cfa8a61f3e6a1b97324ea61", func := "loop.example/g01919/laws.FnExactCountTerms", spec := "fnExactCountTerms", unfollowed := true, recurses := true, apart := false, narrowed := true }
def FnExactCountTermsUptoSaid : Prop := fnExactCountTermsUptoRow.holds Try.pinned (OpenSpec.upto fnExactCountTermsSpec)

/-- 'laws.FnExactTermDepth', WHERE WHAT IT READS IS OF BULK AT MOST 1048576: true; the input reads as it did. -/
def fnExactTermDepthUptoRow : OpenClaim := { program := "ytjpljbcodljhlaa", sum := "2330ff79dd1b133587668c8cc4f64b9a526f416a5cfa8a61f3e6a1b97324ea61", func := "loop.example/g01919/laws.FnExactTermDepth", spec := "fnExactTermDepth", unfollowed := true, recurses := true, apart := false, narrowed := true }
def FnExactTermDepthUptoSaid : Prop := fnExactTermDepthUptoRow.holds Try.pinned (OpenSpec.upto fnExactTermDepthSpec)

/-- 'laws.FnExactMaxDepthAt', WHERE WHAT IT READS IS OF BULK AT MOST 1048576: true; the input reads as it did. -/
def fnExactMaxDepthAtUptoRow : OpenClaim := { program := "ytjpljbcodljhlaa", sum := "2330ff79dd1b133587668c8cc4f64b9a526f416a5cfa8a61f3e6a1b97324ea61", func := "loop.example/g01919/laws.FnExactMaxDepthAt", spec := "fnExactMaxDepthAt", unfollowed := true, recurses := true, apart := false, narrowed := true }
def FnExactMaxDepthAtUptoSaid : Prop := fnExactMaxDepthAtUptoRow.holds Try.pinned (OpenSpec.upto fnExactMaxDepthAtSpec)

end Rows
end Go.Proofs.Ytjpljbcodljhlaa
