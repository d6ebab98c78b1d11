/-
  No cell of these rows narrows 'for every input' (looked for: loops, veiled, ifaces, maps, wideKeys, modest, calm, conditions, laid).
  DERIVED. THE GIVEN ROWS OF THIS SEAT. 4 by the template 'for every input the law returns true; each argument reads behind the call as it read before'; 0 by the template 'total and deterministic' (their statements: YtegfjcnhendciaaGreatTotals.lean).
  GIVEN WITH THE SEED: the statements are not yours to turn. If you find one false, say at which input.
  Laid BY PROGRAM, IN A SANDBOX (cutbox-rows.mjs): the forced cells as the released guide's own fill.sh prints them over the translation 16fc74ac62d5c5b2… (all of the seat's roots in one cut). By AI agents, Wed Nov 11 2026. No macro, syntax, notation, axiom, sorry.
-/
import Derived.Test.YtegfjcnhendciaaGreatChecked
import GoSem.Claim
import GoSem.ClaimJoined
import GoSem.ClaimMapViews
import Derived.JoinedTies
import Derived.KernelRfl
namespace Go.Proofs.YtegfjcnhendciaaGreat
/- THE CELL 'sum', in the pinned program and in every row, IS THE sha256 OF THE DUMP (.gsa) THAT YtegfjcnhendciaaGreatProg.lean LOADS. Nothing in Lean hashes anything: it is a label: what it is worth is what the hold of that sum in a sandbox is worth. -/
noncomputable def Tryz.pinned : Pinned := { name := "ytegfjcnhendciaagreat", sum := "16fc74ac62d5c5b2f3c2cb9d3757fbc0bdbac2ef857ac13bbb00771cb79ef0a6", checked := Tryz.checked }
namespace Rows
def none {H : Type} : Left H := { results := [], args := [] }

/-- 'laws.FnExactNewLoader': WHATEVER THE INPUT: true; the input reads as it did. -/
def fnExactNewLoaderSpec : ChangeSpec := { name := "fnExactNewLoader", fn := fun _ => fun
  | [d1, d2, d3] => { results := [.lit (.bool true)], args := [d1, d2, d3] }
  | _ => none }
def fnExactNewLoaderRow : OpenClaim := { program := "ytegfjcnhendciaagreat", sum := "16fc74ac62d5c5b2f3c2cb9d3757fbc0bdbac2ef857ac13bbb00771cb79ef0a6", func := "loop.example/g01919/laws.FnExactNewLoader", spec := "fnExactNewLoader", unfollowed := true, recurses := true, apart := false }
def FnExactNewLoaderSaid : Prop := fnExactNewLoaderRow.holds Tryz.pinned (OpenSpec.ofChange fnExactNewLoaderSpec)

/-- ITS FALSE NEIGHBOUR: 'it returns false'. Refute it at one input. -/
def fnExactNewLoaderWrong : ChangeSpec := { name := "fnExactNewLoader", fn := fun _ => fun
  | [d1, d2, d3] => { results := [.lit (.bool false)], args := [d1, d2, d3] }
  | _ => none }
def FnExactNewLoaderWrongFalsely : Prop := fnExactNewLoaderRow.holds Tryz.pinned (OpenSpec.ofChange fnExactNewLoaderWrong)

/-- 'laws.FnExactRespectsRanks': WHATEVER THE INPUT: true; the input reads as it did. -/
def fnExactRespectsRanksSpec : ChangeSpec := { name := "fnExactRespectsRanks", fn := fun _ => fun
  | [d1, d2] => { results := [.lit (.bool true)], args := [d1, d2] }
  | _ => none }
def fnExactRespectsRanksRow : OpenClaim := { program := "ytegfjcnhendciaagreat", sum := "16fc74ac62d5c5b2f3c2cb9d3757fbc0bdbac2ef857ac13bbb00771cb79ef0a6", func := "loop.example/g01919/laws.FnExactRespectsRanks", spec := "fnExactRespectsRanks", unfollowed := true, recurses := true, apart := false }
def FnExactRespectsRanksSaid : Prop := fnExactRespectsRanksRow.holds Tryz.pinned (OpenSpec.ofChange fnExactRespectsRanksSpec)

/-- ITS FALSE NEIGHBOUR: 'it returns false'. Refute it at one input. -/
def fnExactRespectsRanksWrong : ChangeSpec := { name := "fnExactRespectsRanks", fn := fun _ => fun
  | [d1, d2] => { results := [.lit (.bool false)], args := [d1, d2] }
  | _ => none }
def FnExactRespectsRanksWrongFalsely : Prop := fnExactRespectsRanksRow.holds Tryz.pinned (OpenSpec.ofChange fnExactRespectsRanksWrong)

/-- 'laws.FnExactDerivationLevel': WHATEVER THE INPUT: true; the input reads as it did. -/
def fnExactDerivationLevelSpec : ChangeSpec := { name := "fnExactDerivationLevel", fn := fun _ => fun
  | [d1, d2, d3] => { results := [.lit (.bool true)], args := [d1, d2, d3] }
  | _ => none }
def fnExactDerivationLevelRow : OpenClaim := { program := "ytegfjcnhendciaagreat", sum := "16fc74ac62d5c5b2f3c2cb9d3757fbc0bdbac2ef857ac13bbb00771cb79ef0a6", func := "loop.example/g01919/laws.FnExactDerivationLevel", spec := "fnExactDerivationLevel", unfollowed := true, recurses := true, apart := false }
def FnExactDerivationLevelSaid : Prop := fnExactDerivationLevelRow.holds Tryz.pinned (OpenSpec.ofChange fnExactDerivationLevelSpec)

/-- ITS FALSE NEIGHBOUR: 'it returns false'. Refute it at one input. -/
def fnExactDerivationLevelWrong : ChangeSpec := { name := "fnExactDerivationLevel", fn := fun _ => fun
  | [d1, d2, d3] => { results := [.lit (.bool false)], args := [d1, d2, d3] }
  | _ => none }
def FnExactDerivationLevelWrongFalsely : Prop := fnExactDerivationLevelRow.holds Tryz.pinned (OpenSpec.ofChange fnExactDerivationLevelWrong)

/-- 'laws.FnExactIsWellFounded': WHATEVER THE INPUT: true; the input reads as it did. -/
def fnExactIsWellFoundedSpec : ChangeSpec := { name := "fnExactIsWellFounded", fn := fun _ => fun
  | [d1, d2] => { results := [.lit (.bool true)], args := [d1, d2] }
  | _ => none }
def fnExactIsWellFoundedRow : OpenClaim := { program := "ytegfjcnhendciaagreat", sum := "16fc74ac62d5c5b2f3c2cb9d3757fbc0bdbac2ef857ac13bbb00771cb79ef0a6", func := "loop.example/g01919/laws.FnExactIsWellFounded", spec := "fnExactIsWellFounded", unfollowed := true, recurses := true, apart := false }
def FnExactIsWellFoundedSaid : Prop := fnExactIsWellFoundedRow.holds Tryz.pinned (OpenSpec.ofChange fnExactIsWellFoundedSpec)

/-- ITS FALSE NEIGHBOUR: 'it returns false'. Refute it at one input. -/
def fnExactIsWellFoundedWrong : ChangeSpec := { name := "fnExactIsWellFounded", fn := fun _ => fun
  | [d1, d2] => { results := [.lit (.bool false)], args := [d1, d2] }
  | _ => none }
def FnExactIsWellFoundedWrongFalsely : Prop := fnExactIsWellFoundedRow.holds Tryz.pinned (OpenSpec.ofChange fnExactIsWellFoundedWrong)

/- THE SECOND FORM. 'bulk': how many values and letters a reading holds, each counted each time it is reached (what is shared counts as often as it is met; a slice's spare places count too). A statement '..UptoSaid' is the law's where the arguments, and the package variables that the reading takes, are together of bulk at most 1048576: NARROWER than '..Said'. Prove '..Said' where nothing that the law and all that it calls make is longer than what came in: it says more and counts as full. Else prove '..UptoSaid'. A law counts once. -/
mutual
def uptoBulk {H : Type} : DataW H → Nat
  | .lit (.string bytes) => bytes.length + 1
  | .lit _ => 1
  | .nil => 1
  | .ptr d => uptoBulk d + 1
  | .slice elems spare => uptoBulkAll elems + uptoBulkAll spare + 1
  | .agg parts => uptoBulkAll parts + 1
  | .iface _ d => uptoBulk d + 1
  | .map entries => uptoBulkEntries entries + 1
  | .held _ => 1
def uptoBulkAll {H : Type} : List (DataW H) → Nat
  | [] => 0
  | d :: r => uptoBulk d + uptoBulkAll r
def uptoBulkEntries {H : Type} : List (Lit × DataW H) → Nat
  | [] => 0
  | x :: r => uptoBulkEntry x + uptoBulkEntries r
def uptoBulkEntry {H : Type} : Lit × DataW H → Nat
  | (.string bytes, d) => bytes.length + uptoBulk d + 1
  | (_, d) => uptoBulk d + 1
 end
def uptoSmall : (H : Type) → List (DataW H) → Bool := fun _ ds => decide (uptoBulkAll ds ≤ 1048576)
def OpenSpec.upto (s : _root_.Go.ChangeSpec) : _root_.Go.OpenSpec := { _root_.Go.OpenSpec.ofChange s with cond := some uptoSmall }

/-- 'laws.FnExactNewLoader', WHERE WHAT IT READS IS OF BULK AT MOST 1048576: true; the input reads as it did. -/
def fnExactNewLoaderUptoRow : OpenClaim := { program := "ytegfjcnhendciaagreat", sum := "16fc74ac62d5c5b2f3c2cb9d3757fbc0bdbac2ef857ac13bbb00771cb79ef0a6", func := "loop.example/g01919/laws.FnExactNewLoader", spec := "fnExactNewLoader", unfollowed := true, recurses := true, apart := false, narrowed := true }
def FnExactNewLoaderUptoSaid : Prop := fnExactNewLoaderUptoRow.holds Tryz.pinned (OpenSpec.upto fnExactNewLoaderSpec)

/-- 'laws.FnExactRespectsRanks', WHERE WHAT IT READS IS OF BULK AT MOST 1048576: true; the input reads as it did. -/
def fnExactRespectsRanksUptoRow : OpenClaim := { program := "ytegfjcnhendciaagreat", sum := "16fc74ac62d5c5b2f3c2cb9d3757fbc0bdbac2ef857ac13bbb00771cb79ef0a6", func := "loop.example/g01919/laws.FnExactRespectsRanks", spec := "fnExactRespectsRanks", unfollowed := true, recurses := true, apart := false, narrowed := true }
def FnExactRespectsRanksUptoSaid : Prop := fnExactRespectsRanksUptoRow.holds Tryz.pinned (OpenSpec.upto fnExactRespectsRanksSpec)

/-- 'laws.FnExactDerivationLevel', WHERE WHAT IT READS IS OF BULK AT MOST 1048576: true; the input reads as it did. -/
def fnExactDerivationLevelUptoRow : OpenClaim := { program := "ytegfjcnhendciaagreat", sum := "16fc74ac62d5c5b2f3c2cb9d3757fbc0bdbac2ef857ac13bbb00771cb79ef0a6", func := "loop.example/g01919/laws.FnExactDerivationLevel", spec := "fnExactDerivationLevel", unfollowed := true, recurses := true, apart := false, narrowed := true }
def FnExactDerivationLevelUptoSaid : Prop := fnExactDerivationLevelUptoRow.holds Tryz.pinned (OpenSpec.upto fnExactDerivationLevelSpec)

/-- 'laws.FnExactIsWellFounded', WHERE WHAT IT READS IS OF BULK AT MOST 1048576: true; the input reads as it did. -/
def fnExactIsWellFoundedUptoRow : OpenClaim := { program := "ytegfjcnhendciaagreat", sum := "16fc74ac62d5c5b2f3c2cb9d3757fbc0bdbac2ef857ac13bbb00771cb79ef0a6", func := "loop.example/g01919/laws.FnExactIsWellFounded", spec := "fnExactIsWellFounded", unfollowed := true, recurses := true, apart := false, narrowed := true }
def FnExactIsWellFoundedUptoSaid : Prop := fnExactIsWellFoundedUptoRow.holds Tryz.pinned (OpenSpec.upto fnExactIsWellFoundedSpec)

end Rows
end Go.Proofs.YtegfjcnhendciaaGreat
