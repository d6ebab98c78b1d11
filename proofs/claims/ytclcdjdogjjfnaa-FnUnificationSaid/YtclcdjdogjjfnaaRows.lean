/-
  No cell of these rows narrows 'for every input' (looked for: loops, veiled, ifaces, maps, wideKeys, modest, calm, conditions, laid).
  DERIVED. THE GIVEN ROWS OF THIS SEAT. 6 by the template 'for every input the law returns true; each argument reads behind the call as it read before'; 0 by the template 'total and deterministic' (their statements: YtclcdjdogjjfnaaTotals.lean).
  GIVEN WITH THE SEED: the statements are not yours to turn. If you find one false, say at which input.
  Laid BY PROGRAM, IN A SANDBOX (cutbox-rows.mjs): the forced cells as the released guide's own fill.sh prints them over the translation 28f542173b46fdc7… (all of the seat's roots in one cut). By AI agents, Wed Nov 11 2026. No macro, syntax, notation, axiom, sorry.
-/
import Derived.Test.YtclcdjdogjjfnaaChecked
import GoSem.Claim
import GoSem.ClaimJoined
import GoSem.ClaimMapViews
import Derived.JoinedTies
import Derived.KernelRfl
namespace Go.Proofs.Ytclcdjdogjjfnaa
/- THE CELL 'sum', in the pinned program and in every row, IS THE sha256 OF THE DUMP (.gsa) THAT YtclcdjdogjjfnaaProg.lean LOADS. Nothing in Lean hashes anything: it is a label: what it is worth is what the hold of that sum in a sandbox is worth. -/
noncomputable def Try.pinned : Pinned := { name := "ytclcdjdogjjfnaa", sum := "28f542173b46fdc727074bdd89cea3a51d918f68bcf2b9abb1035645def41210", checked := Try.checked }
namespace Rows
def none {H : Type} : Left H := { results := [], args := [] }

/-- 'laws.FnExactStringDifference': WHATEVER THE INPUT: true; the input reads as it did. -/
def fnExactStringDifferenceSpec : ChangeSpec := { name := "fnExactStringDifference", fn := fun _ => fun
  | [d1, d2] => { results := [.lit (.bool true)], args := [d1, d2] }
  | _ => none }
def fnExactStringDifferenceRow : OpenClaim := { program := "ytclcdjdogjjfnaa", sum := "28f542173b46fdc727074bdd89cea3a51d918f68bcf2b9abb1035645def41210", func := "loop.example/g01919/laws.FnExactStringDifference", spec := "fnExactStringDifference", apart := false }
def FnExactStringDifferenceSaid : Prop := fnExactStringDifferenceRow.holds Try.pinned (OpenSpec.ofChange fnExactStringDifferenceSpec)

/-- ITS FALSE NEIGHBOUR: 'it returns false'. Refute it at one input. -/
def fnExactStringDifferenceWrong : ChangeSpec := { name := "fnExactStringDifference", fn := fun _ => fun
  | [d1, d2] => { results := [.lit (.bool false)], args := [d1, d2] }
  | _ => none }
def FnExactStringDifferenceWrongFalsely : Prop := fnExactStringDifferenceRow.holds Try.pinned (OpenSpec.ofChange fnExactStringDifferenceWrong)

/-- 'laws.FnExactUnifyAtoms': WHATEVER THE INPUT: true; the input reads as it did. -/
def fnExactUnifyAtomsSpec : ChangeSpec := { name := "fnExactUnifyAtoms", fn := fun _ => fun
  | [d1, d2] => { results := [.lit (.bool true)], args := [d1, d2] }
  | _ => none }
def fnExactUnifyAtomsRow : OpenClaim := { program := "ytclcdjdogjjfnaa", sum := "28f542173b46fdc727074bdd89cea3a51d918f68bcf2b9abb1035645def41210", func := "loop.example/g01919/laws.FnExactUnifyAtoms", spec := "fnExactUnifyAtoms", unfollowed := true, recurses := true, apart := false }
def FnExactUnifyAtomsSaid : Prop := fnExactUnifyAtomsRow.holds Try.pinned (OpenSpec.ofChange fnExactUnifyAtomsSpec)

/-- ITS FALSE NEIGHBOUR: 'it returns false'. Refute it at one input. -/
def fnExactUnifyAtomsWrong : ChangeSpec := { name := "fnExactUnifyAtoms", fn := fun _ => fun
  | [d1, d2] => { results := [.lit (.bool false)], args := [d1, d2] }
  | _ => none }
def FnExactUnifyAtomsWrongFalsely : Prop := fnExactUnifyAtomsRow.holds Try.pinned (OpenSpec.ofChange fnExactUnifyAtomsWrong)

/-- 'laws.FnUnification': WHATEVER THE INPUT: true; the input reads as it did. -/
def fnUnificationSpec : ChangeSpec := { name := "fnUnification", fn := fun _ => fun
  | [d] => { results := [.lit (.bool true)], args := [d] }
  | _ => none }
def fnUnificationRow : OpenClaim := { program := "ytclcdjdogjjfnaa", sum := "28f542173b46fdc727074bdd89cea3a51d918f68bcf2b9abb1035645def41210", func := "loop.example/g01919/laws.FnUnification", spec := "fnUnification", unfollowed := true, recurses := true, apart := false }
def FnUnificationSaid : Prop := fnUnificationRow.holds Try.pinned (OpenSpec.ofChange fnUnificationSpec)

/-- ITS FALSE NEIGHBOUR: 'it returns false'. Refute it at one input. -/
def fnUnificationWrong : ChangeSpec := { name := "fnUnification", fn := fun _ => fun
  | [d] => { results := [.lit (.bool false)], args := [d] }
  | _ => none }
def FnUnificationWrongFalsely : Prop := fnUnificationRow.holds Try.pinned (OpenSpec.ofChange fnUnificationWrong)

/-- 'laws.FnExactCountFacts': WHATEVER THE INPUT: true; the input reads as it did. -/
def fnExactCountFactsSpec : ChangeSpec := { name := "fnExactCountFacts", fn := fun _ => fun
  | [d1, d2] => { results := [.lit (.bool true)], args := [d1, d2] }
  | _ => none }
def fnExactCountFactsRow : OpenClaim := { program := "ytclcdjdogjjfnaa", sum := "28f542173b46fdc727074bdd89cea3a51d918f68bcf2b9abb1035645def41210", func := "loop.example/g01919/laws.FnExactCountFacts", spec := "fnExactCountFacts", apart := false }
def FnExactCountFactsSaid : Prop := fnExactCountFactsRow.holds Try.pinned (OpenSpec.ofChange fnExactCountFactsSpec)

/-- ITS FALSE NEIGHBOUR: 'it returns false'. Refute it at one input. -/
def fnExactCountFactsWrong : ChangeSpec := { name := "fnExactCountFacts", fn := fun _ => fun
  | [d1, d2] => { results := [.lit (.bool false)], args := [d1, d2] }
  | _ => none }
def FnExactCountFactsWrongFalsely : Prop := fnExactCountFactsRow.holds Try.pinned (OpenSpec.ofChange fnExactCountFactsWrong)

/-- 'laws.FnExactEqualityDependencies': WHATEVER THE INPUT: true; the input reads as it did. -/
def fnExactEqualityDependenciesSpec : ChangeSpec := { name := "fnExactEqualityDependencies", fn := fun _ => fun
  | [d] => { results := [.lit (.bool true)], args := [d] }
  | _ => none }
def fnExactEqualityDependenciesRow : OpenClaim := { program := "ytclcdjdogjjfnaa", sum := "28f542173b46fdc727074bdd89cea3a51d918f68bcf2b9abb1035645def41210", func := "loop.example/g01919/laws.FnExactEqualityDependencies", spec := "fnExactEqualityDependencies", unfollowed := true, recurses := true, apart := false }
def FnExactEqualityDependenciesSaid : Prop := fnExactEqualityDependenciesRow.holds Try.pinned (OpenSpec.ofChange fnExactEqualityDependenciesSpec)

/-- ITS FALSE NEIGHBOUR: 'it returns false'. Refute it at one input. -/
def fnExactEqualityDependenciesWrong : ChangeSpec := { name := "fnExactEqualityDependencies", fn := fun _ => fun
  | [d] => { results := [.lit (.bool false)], args := [d] }
  | _ => none }
def FnExactEqualityDependenciesWrongFalsely : Prop := fnExactEqualityDependenciesRow.holds Try.pinned (OpenSpec.ofChange fnExactEqualityDependenciesWrong)

/-- 'laws.FnExactIsFull': WHATEVER THE INPUT: true; the input reads as it did. -/
def fnExactIsFullSpec : ChangeSpec := { name := "fnExactIsFull", fn := fun _ => fun
  | [d] => { results := [.lit (.bool true)], args := [d] }
  | _ => none }
def fnExactIsFullRow : OpenClaim := { program := "ytclcdjdogjjfnaa", sum := "28f542173b46fdc727074bdd89cea3a51d918f68bcf2b9abb1035645def41210", func := "loop.example/g01919/laws.FnExactIsFull", spec := "fnExactIsFull", recurses := true, apart := false }
def FnExactIsFullSaid : Prop := fnExactIsFullRow.holds Try.pinned (OpenSpec.ofChange fnExactIsFullSpec)

/-- ITS FALSE NEIGHBOUR: 'it returns false'. Refute it at one input. -/
def fnExactIsFullWrong : ChangeSpec := { name := "fnExactIsFull", fn := fun _ => fun
  | [d] => { results := [.lit (.bool false)], args := [d] }
  | _ => none }
def FnExactIsFullWrongFalsely : Prop := fnExactIsFullRow.holds Try.pinned (OpenSpec.ofChange fnExactIsFullWrong)

/- THE SECOND FORM. 'bulk': how many values and letters a reading holds, each counted each time it is reached (what is shared counts as often as it is met; a slice's spare places count too). A statement '..UptoSaid' is the law's where the arguments, and the package variables that the reading takes, are together of bulk at most 1048576: NARROWER than '..Said'. Prove '..Said' where nothing that the law and all that it calls make is longer than what came in: it says more and counts as full. Else prove '..UptoSaid'. A law counts once. -/
mutual
def uptoBulk {H : Type} : DataW H → Nat
  | .lit (.string bytes) => bytes.length + 1
  | .lit _ => 1
  | .nil => 1
  | .ptr d => uptoBulk d + 1
  | .slice elems spare => uptoBulkAll elems + uptoBulkAll spare + 1
  | .agg parts => uptoBulkAll parts + 1
  | .iface _ d => uptoBulk d + 1
  | .map entries => uptoBulkEntries entries + 1
  | .held _ => 1
def uptoBulkAll {H : Type} : List (DataW H) → Nat
  | [] => 0
  | d :: r => uptoBulk d + uptoBulkAll r
def uptoBulkEntries {H : Type} : List (Lit × DataW H) → Nat
  | [] => 0
  | x :: r => uptoBulkEntry x + uptoBulkEntries r
def uptoBulkEntry {H : Type} : Lit × DataW H → Nat
  | (.string bytes, d) => bytes.length + uptoBulk d + 1
  | (_, d) => uptoBulk d + 1
 end
def uptoSmall : (H : Type) → List (DataW H) → Bool := fun _ ds => decide (uptoBulkAll ds ≤ 1048576)
def OpenSpec.upto (s : _root_.Go.ChangeSpec) : _root_.Go.OpenSpec := { _root_.Go.OpenSpec.ofChange s with cond := some uptoSmall }

/-- 'laws.FnExactStringDifference', WHERE WHAT IT READS IS OF BULK AT MOST 1048576: true; the input reads as it did. -/
def fnExactStringDifferenceUptoRow : OpenClaim := { program := "ytclcdjdogjjfnaa", sum := "28f542173b46fdc727074bdd89cea3a51d918f68bcf2b9abb1035645def41210", func := "loop.example/g01919/laws.FnExactStringDifference", spec := "fnExactStringDifference", apart := false, narrowed := true }
def FnExactStringDifferenceUptoSaid : Prop := fnExactStringDifferenceUptoRow.holds Try.pinned (OpenSpec.upto fnExactStringDifferenceSpec)

/-- 'laws.FnExactUnifyAtoms', WHERE WHAT IT READS IS OF BULK AT MOST 1048576: true; the input reads as it did. -/
def fnExactUnifyAtomsUptoRow : OpenClaim := { program := "ytclcdjdogjjfnaa", sum := "28f542173b46fdc727074bdd89cea3a51d918f68bcf2b9abb1035645def41210", func := "loop.example/g01919/laws.FnExactUnifyAtoms", spec := "fnExactUnifyAtoms", unfollowed := true, recurses := true, apart := false, narrowed := true }
def FnExactUnifyAtomsUptoSaid : Prop := fnExactUnifyAtomsUptoRow.holds Try.pinned (OpenSpec.upto fnExactUnifyAtomsSpec)

/-- 'laws.FnUnification', WHERE WHAT IT READS IS OF BULK AT MOST 1048576: true; the input reads as it did. -/
def fnUnificationUptoRow : OpenClaim := { program := "ytclcdjdogjjfnaa", sum := "28f542173b46fdc727074bdd89cea3a51d918f68bcf2b9abb1035645def41210", func := "loop.example/g01919/laws.FnUnification", spec := "fnUnification", unfollowed := true, recurses := true, apart := false, narrowed := true }
def FnUnificationUptoSaid : Prop := fnUnificationUptoRow.holds Try.pinned (OpenSpec.upto fnUnificationSpec)

/-- 'laws.FnExactCountFacts', WHERE WHAT IT READS IS OF BULK AT MOST 1048576: true; the input reads as it did. -/
def fnExactCountFactsUptoRow : OpenClaim := { program := "ytclcdjdogjjfnaa", sum := "28f542173b46fdc727074bdd89cea3a51d918f68bcf2b9abb1035645def41210", func := "loop.example/g01919/laws.FnExactCountFacts", spec := "fnExactCountFacts", apart := false, narrowed := true }
def FnExactCountFactsUptoSaid : Prop := fnExactCountFactsUptoRow.holds Try.pinned (OpenSpec.upto fnExactCountFactsSpec)

/-- 'laws.FnExactEqualityDependencies', WHERE WHAT IT READS IS OF BULK AT MOST 1048576: true; the input reads as it did. -/
def fnExactEqualityDependenciesUptoRow : OpenClaim := { program := "ytclcdjdogjjfnaa", sum := "28f542173b46fdc727074bdd89cea3a51d918f68bcf2b9abb1035645def41210", func := "loop.example/g01919/laws.FnExactEqualityDependencies", spec := "fnExactEqualityDependencies", unfollowed := true, recurses := true, apart := false, narrowed := true }
def FnExactEqualityDependenciesUptoSaid : Prop := fnExactEqualityDependenciesUptoRow.holds Try.pinned (OpenSpec.upto fnExactEqualityDependenciesSpec)

/-- 'laws.FnExactIsFull', WHERE WHAT IT READS IS OF BULK AT MOST 1048576: true; the input reads as it did. -/
def fnExactIsFullUptoRow : OpenClaim := { program := "ytclcdjdogjjfnaa", sum := "28f542173b46fdc727074bdd89cea3a51d918f68bcf2b9abb1035645def41210", func := "loop.example/g01919/laws.FnExactIsFull", spec := "fnExactIsFull", recurses := true, apart := false, narrowed := true }
def FnExactIsFullUptoSaid : Prop := fnExactIsFullUptoRow.holds Try.pinned (OpenSpec.upto fnExactIsFullSpec)

end Rows
end Go.Proofs.Ytclcdjdogjjfnaa
