/-
  No cell of these rows narrows 'for every input' (looked for: loops, veiled, ifaces, maps, wideKeys, modest, calm, conditions, laid).
  DERIVED. THE GIVEN ROWS OF THIS SEAT. 2 by the template 'for every input the law returns true; each argument reads behind the call as it read before'; 0 by the template 'total and deterministic' (their statements: YtaipbjannlhhdaaGreatTotals.lean).
  GIVEN WITH THE SEED: the statements are not yours to turn. If you find one false, say at which input.
  Laid BY PROGRAM, IN A SANDBOX (cutbox-rows.mjs): the forced cells as the released guide's own fill.sh prints them over the translation 4cfcd3edb11af85a… (all of the seat's roots in one cut). By AI agents, Wed Nov 11 2026. No macro, syntax, notation, axiom, sorry.
-/
import Derived.Test.YtaipbjannlhhdaaGreatChecked
import GoSem.Claim
import GoSem.ClaimJoined
import GoSem.ClaimMapViews
import Derived.JoinedTies
import Derived.KernelRfl
namespace Go.Proofs.YtaipbjannlhhdaaGreat
/- THE CELL 'sum', in the pinned program and in every row, IS THE sha256 OF THE DUMP (.gsa) THAT YtaipbjannlhhdaaGreatProg.lean LOADS. Nothing in Lean hashes anything: it is a label: what it is worth is what the hold of that sum in a sandbox is worth. -/
noncomputable def Tryz.pinned : Pinned := { name := "ytaipbjannlhhdaagreat", sum := "4cfcd3edb11af85a1a7df9bbf881d8ee4f898ee842001b86cadde33fb56db659", checked := Tryz.checked }
namespace Rows
def none {H : Type} : Left H := { results := [], args := [] }

/-- 'laws.FnDependsOn': WHATEVER THE INPUT: true; the input reads as it did. -/
def fnDependsOnSpec : ChangeSpec := { name := "fnDependsOn", fn := fun _ => fun
  | [d] => { results := [.lit (.bool true)], args := [d] }
  | _ => none }
def fnDependsOnRow : OpenClaim := { program := "ytaipbjannlhhdaagreat", sum := "4cfcd3edb11af85a1a7df9bbf881d8ee4f898ee842001b86cadde33fb56db659", func := "loop.example/g01919/laws.FnDependsOn", spec := "fnDependsOn", unfollowed := true, recurses := true, apart := false }
def FnDependsOnSaid : Prop := fnDependsOnRow.holds Tryz.pinned (OpenSpec.ofChange fnDependsOnSpec)

/-- ITS FALSE NEIGHBOUR: 'it returns false'. Refute it at one input. -/
def fnDependsOnWrong : ChangeSpec := { name := "fnDependsOn", fn := fun _ => fun
  | [d] => { results := [.lit (.bool false)], args := [d] }
  | _ => none }
def FnDependsOnWrongFalsely : Prop := fnDependsOnRow.holds Tryz.pinned (OpenSpec.ofChange fnDependsOnWrong)

/-- 'laws.FnDerivations': WHATEVER THE INPUT: true; the input reads as it did. -/
def fnDerivationsSpec : ChangeSpec := { name := "fnDerivations", fn := fun _ => fun
  | [d] => { results := [.lit (.bool true)], args := [d] }
  | _ => none }
def fnDerivationsRow : OpenClaim := { program := "ytaipbjannlhhdaagreat", sum := "4cfcd3edb11af85a1a7df9bbf881d8ee4f898ee842001b86cadde33fb56db659", func := "loop.example/g01919/laws.FnDerivations", spec := "fnDerivations", unfollowed := true, recurses := true, apart := false }
def FnDerivationsSaid : Prop := fnDerivationsRow.holds Tryz.pinned (OpenSpec.ofChange fnDerivationsSpec)

/-- ITS FALSE NEIGHBOUR: 'it returns false'. Refute it at one input. -/
def fnDerivationsWrong : ChangeSpec := { name := "fnDerivations", fn := fun _ => fun
  | [d] => { results := [.lit (.bool false)], args := [d] }
  | _ => none }
def FnDerivationsWrongFalsely : Prop := fnDerivationsRow.holds Tryz.pinned (OpenSpec.ofChange fnDerivationsWrong)

/- THE SECOND FORM. 'bulk': how many values and letters a reading holds, each counted each time it is reached (what is shared counts as often as it is met; a slice's spare places count too). A statement '..UptoSaid' is the law's where the arguments, and the package variables that the reading takes, are together of bulk at most 1048576: NARROWER than '..Said'. Prove '..Said' where nothing that the law and all that it calls make is longer than what came in: it says more and counts as full. Else prove '..UptoSaid'. A law counts once. -/
mutual
def uptoBulk {H : Type} : DataW H → Nat
  | .lit (.string bytes) => bytes.length + 1
  | .lit _ => 1
  | .nil => 1
  | .ptr d => uptoBulk d + 1
  | .slice elems spare => uptoBulkAll elems + uptoBulkAll spare + 1
  | .agg parts => uptoBulkAll parts + 1
  | .iface _ d => uptoBulk d + 1
  | .map entries => uptoBulkEntries entries + 1
  | .held _ => 1
def uptoBulkAll {H : Type} : List (DataW H) → Nat
  | [] => 0
  | d :: r => uptoBulk d + uptoBulkAll r
def uptoBulkEntries {H : Type} : List (Lit × DataW H) → Nat
  | [] => 0
  | x :: r => uptoBulkEntry x + uptoBulkEntries r
def uptoBulkEntry {H : Type} : Lit × DataW H → Nat
  | (.string bytes, d) => bytes.length + uptoBulk d + 1
  | (_, d) => uptoBulk d + 1
 end
def uptoSmall : (H : Type) → List (DataW H) → Bool := fun _ ds => decide (uptoBulkAll ds ≤ 1048576)
def OpenSpec.upto (s : _root_.Go.ChangeSpec) : _root_.Go.OpenSpec := { _root_.Go.OpenSpec.ofChange s with cond := some uptoSmall }

/-- 'laws.FnDependsOn', WHERE WHAT IT READS IS OF BULK AT MOST 1048576: true; the input reads as it did. -/
def fnDependsOnUptoRow : OpenClaim := { program := "ytaipbjannlhhdaagreat", sum := "4cfcd3edb11af85a1a7df9bbf881d8ee4f898ee842001b86cadde33fb56db659", func := "loop.example/g01919/laws.FnDependsOn", spec := "fnDependsOn", unfollowed := true, recurses := true, apart := false, narrowed := true }
def FnDependsOnUptoSaid : Prop := fnDependsOnUptoRow.holds Tryz.pinned (OpenSpec.upto fnDependsOnSpec)

/-- 'laws.FnDerivations', WHERE WHAT IT READS IS OF BULK AT MOST 1048576: true; the input reads as it did. -/
def fnDerivationsUptoRow : OpenClaim := { program := "ytaipbjannlhhdaagreat", sum := "4cfcd3edb11af85a1a7df9bbf881d8ee4f898ee842001b86cadde33fb56db659", func := "loop.example/g01919/laws.FnDerivations", spec := "fnDerivations", unfollowed := true, recurses := true, apart := false, narrowed := true }
def FnDerivationsUptoSaid : Prop := fnDerivationsUptoRow.holds Tryz.pinned (OpenSpec.upto fnDerivationsSpec)

end Rows
end Go.Proofs.YtaipbjannlhhdaaGreat
