/-
  No cell of these rows narrows 'for every input' (looked for: loops, veiled, ifaces, maps, wideKeys, modest, calm, conditions, laid).
  DERIVED. THE GIVEN ROWS OF THIS SEAT. 6 by the template 'for every input the law returns true; each argument reads behind the call as it read before'; 0 by the template 'total and deterministic' (their statements: YtggmgbobmeblcaaGreatTotals.lean).
  GIVEN WITH THE SEED: the statements are not yours to turn. If you find one false, say at which input.
  Laid BY PROGRAM, IN A SANDBOX (cutbox-rows.mjs): the forced cells as the released guide's own fill.sh prints them over the translation 604b00aa7ba76752… (all of the seat's roots in one cut). By AI agents, Wed Nov 11 2026. No macro, syntax, notation, axiom, sorry.
-/
import Derived.Test.YtggmgbobmeblcaaGreatChecked
import GoSem.Claim
import GoSem.ClaimJoined
import GoSem.ClaimMapViews
import Derived.JoinedTies
import Derived.KernelRfl
namespace Go.Proofs.YtggmgbobmeblcaaGreat
/- THE CELL 'sum', in the pinned program and in every row, IS THE sha256 OF THE DUMP (.gsa) THAT YtggmgbobmeblcaaGreatProg.lean LOADS. Nothing in Lean hashes anything: it is a label: what it is worth is what the hold of that sum in a sandbox is worth. -/
noncomputable def Tryz.pinned : Pinned := { name := "ytggmgbobmeblcaagreat", sum := "604b00aa7ba76752a82f47a3902d58d5af3c2ecc5ff4a20af5da263b3831eae9", checked := Tryz.checked }
namespace Rows
def none {H : Type} : Left H := { results := [], args := [] }

/-- 'laws.FnExactDependsOn': WHATEVER THE INPUT: true; the input reads as it did. -/
def fnExactDependsOnSpec : ChangeSpec := { name := "fnExactDependsOn", fn := fun _ => fun
  | [d1, d2, d3, d4] => { results := [.lit (.bool true)], args := [d1, d2, d3, d4] }
  | _ => none }
def fnExactDependsOnRow : OpenClaim := { program := "ytggmgbobmeblcaagreat", sum := "604b00aa7ba76752a82f47a3902d58d5af3c2ecc5ff4a20af5da263b3831eae9", func := "loop.example/g01919/laws.FnExactDependsOn", spec := "fnExactDependsOn", unfollowed := true, recurses := true, apart := false }
def FnExactDependsOnSaid : Prop := fnExactDependsOnRow.holds Tryz.pinned (OpenSpec.ofChange fnExactDependsOnSpec)

/-- ITS FALSE NEIGHBOUR: 'it returns false'. Refute it at one input. -/
def fnExactDependsOnWrong : ChangeSpec := { name := "fnExactDependsOn", fn := fun _ => fun
  | [d1, d2, d3, d4] => { results := [.lit (.bool false)], args := [d1, d2, d3, d4] }
  | _ => none }
def FnExactDependsOnWrongFalsely : Prop := fnExactDependsOnRow.holds Tryz.pinned (OpenSpec.ofChange fnExactDependsOnWrong)

/-- 'laws.FnExactIsFailureProof': WHATEVER THE INPUT: true; the input reads as it did. -/
def fnExactIsFailureProofSpec : ChangeSpec := { name := "fnExactIsFailureProof", fn := fun _ => fun
  | [d1, d2, d3] => { results := [.lit (.bool true)], args := [d1, d2, d3] }
  | _ => none }
def fnExactIsFailureProofRow : OpenClaim := { program := "ytggmgbobmeblcaagreat", sum := "604b00aa7ba76752a82f47a3902d58d5af3c2ecc5ff4a20af5da263b3831eae9", func := "loop.example/g01919/laws.FnExactIsFailureProof", spec := "fnExactIsFailureProof", unfollowed := true, recurses := true, apart := false }
def FnExactIsFailureProofSaid : Prop := fnExactIsFailureProofRow.holds Tryz.pinned (OpenSpec.ofChange fnExactIsFailureProofSpec)

/-- ITS FALSE NEIGHBOUR: 'it returns false'. Refute it at one input. -/
def fnExactIsFailureProofWrong : ChangeSpec := { name := "fnExactIsFailureProof", fn := fun _ => fun
  | [d1, d2, d3] => { results := [.lit (.bool false)], args := [d1, d2, d3] }
  | _ => none }
def FnExactIsFailureProofWrongFalsely : Prop := fnExactIsFailureProofRow.holds Tryz.pinned (OpenSpec.ofChange fnExactIsFailureProofWrong)

/-- 'laws.FnExactConflictingConstants': WHATEVER THE INPUT: true; the input reads as it did. -/
def fnExactConflictingConstantsSpec : ChangeSpec := { name := "fnExactConflictingConstants", fn := fun _ => fun
  | [d1, d2, d3] => { results := [.lit (.bool true)], args := [d1, d2, d3] }
  | _ => none }
def fnExactConflictingConstantsRow : OpenClaim := { program := "ytggmgbobmeblcaagreat", sum := "604b00aa7ba76752a82f47a3902d58d5af3c2ecc5ff4a20af5da263b3831eae9", func := "loop.example/g01919/laws.FnExactConflictingConstants", spec := "fnExactConflictingConstants", unfollowed := true, recurses := true, apart := false }
def FnExactConflictingConstantsSaid : Prop := fnExactConflictingConstantsRow.holds Tryz.pinned (OpenSpec.ofChange fnExactConflictingConstantsSpec)

/-- ITS FALSE NEIGHBOUR: 'it returns false'. Refute it at one input. -/
def fnExactConflictingConstantsWrong : ChangeSpec := { name := "fnExactConflictingConstants", fn := fun _ => fun
  | [d1, d2, d3] => { results := [.lit (.bool false)], args := [d1, d2, d3] }
  | _ => none }
def FnExactConflictingConstantsWrongFalsely : Prop := fnExactConflictingConstantsRow.holds Tryz.pinned (OpenSpec.ofChange fnExactConflictingConstantsWrong)

/-- 'laws.FnExactMustBeEqual': WHATEVER THE INPUT: true; the input reads as it did. -/
def fnExactMustBeEqualSpec : ChangeSpec := { name := "fnExactMustBeEqual", fn := fun _ => fun
  | [d1, d2, d3, d4] => { results := [.lit (.bool true)], args := [d1, d2, d3, d4] }
  | _ => none }
def fnExactMustBeEqualRow : OpenClaim := { program := "ytggmgbobmeblcaagreat", sum := "604b00aa7ba76752a82f47a3902d58d5af3c2ecc5ff4a20af5da263b3831eae9", func := "loop.example/g01919/laws.FnExactMustBeEqual", spec := "fnExactMustBeEqual", unfollowed := true, recurses := true, apart := false }
def FnExactMustBeEqualSaid : Prop := fnExactMustBeEqualRow.holds Tryz.pinned (OpenSpec.ofChange fnExactMustBeEqualSpec)

/-- ITS FALSE NEIGHBOUR: 'it returns false'. Refute it at one input. -/
def fnExactMustBeEqualWrong : ChangeSpec := { name := "fnExactMustBeEqual", fn := fun _ => fun
  | [d1, d2, d3, d4] => { results := [.lit (.bool false)], args := [d1, d2, d3, d4] }
  | _ => none }
def FnExactMustBeEqualWrongFalsely : Prop := fnExactMustBeEqualRow.holds Tryz.pinned (OpenSpec.ofChange fnExactMustBeEqualWrong)

/-- 'laws.FnExactForcedConstant': WHATEVER THE INPUT: true; the input reads as it did. -/
def fnExactForcedConstantSpec : ChangeSpec := { name := "fnExactForcedConstant", fn := fun _ => fun
  | [d1, d2, d3] => { results := [.lit (.bool true)], args := [d1, d2, d3] }
  | _ => none }
def fnExactForcedConstantRow : OpenClaim := { program := "ytggmgbobmeblcaagreat", sum := "604b00aa7ba76752a82f47a3902d58d5af3c2ecc5ff4a20af5da263b3831eae9", func := "loop.example/g01919/laws.FnExactForcedConstant", spec := "fnExactForcedConstant", unfollowed := true, recurses := true, apart := false }
def FnExactForcedConstantSaid : Prop := fnExactForcedConstantRow.holds Tryz.pinned (OpenSpec.ofChange fnExactForcedConstantSpec)

/-- ITS FALSE NEIGHBOUR: 'it returns false'. Refute it at one input. -/
def fnExactForcedConstantWrong : ChangeSpec := { name := "fnExactForcedConstant", fn := fun _ => fun
  | [d1, d2, d3] => { results := [.lit (.bool false)], args := [d1, d2, d3] }
  | _ => none }
def FnExactForcedConstantWrongFalsely : Prop := fnExactForcedConstantRow.holds Tryz.pinned (OpenSpec.ofChange fnExactForcedConstantWrong)

/-- 'laws.FnExactIsComplete': WHATEVER THE INPUT: true; the input reads as it did. -/
def fnExactIsCompleteSpec : ChangeSpec := { name := "fnExactIsComplete", fn := fun _ => fun
  | [d1, d2] => { results := [.lit (.bool true)], args := [d1, d2] }
  | _ => none }
def fnExactIsCompleteRow : OpenClaim := { program := "ytggmgbobmeblcaagreat", sum := "604b00aa7ba76752a82f47a3902d58d5af3c2ecc5ff4a20af5da263b3831eae9", func := "loop.example/g01919/laws.FnExactIsComplete", spec := "fnExactIsComplete", unfollowed := true, recurses := true, apart := false }
def FnExactIsCompleteSaid : Prop := fnExactIsCompleteRow.holds Tryz.pinned (OpenSpec.ofChange fnExactIsCompleteSpec)

/-- ITS FALSE NEIGHBOUR: 'it returns false'. Refute it at one input. -/
def fnExactIsCompleteWrong : ChangeSpec := { name := "fnExactIsComplete", fn := fun _ => fun
  | [d1, d2] => { results := [.lit (.bool false)], args := [d1, d2] }
  | _ => none }
def FnExactIsCompleteWrongFalsely : Prop := fnExactIsCompleteRow.holds Tryz.pinned (OpenSpec.ofChange fnExactIsCompleteWrong)

/- THE SECOND FORM. 'bulk': how many values and letters a reading holds, each counted each time it is reached (what is shared counts as often as it is met; a slice's spare places count too). A statement '..UptoSaid' is the law's where the arguments, and the package variables that the reading takes, are together of bulk at most 1048576: NARROWER than '..Said'. Prove '..Said' where nothing that the law and all that it calls make is longer than what came in: it says more and counts as full. Else prove '..UptoSaid'. A law counts once. -/
mutual
def uptoBulk {H : Type} : DataW H → Nat
  | .lit (.string bytes) => bytes.length + 1
  | .lit _ => 1
  | .nil => 1
  | .ptr d => uptoBulk d + 1
  | .slice elems spare => uptoBulkAll elems + uptoBulkAll spare + 1
  | .agg parts => uptoBulkAll parts + 1
  | .iface _ d => uptoBulk d + 1
  | .map entries => uptoBulkEntries entries + 1
  | .held _ => 1
def uptoBulkAll {H : Type} : List (DataW H) → Nat
  | [] => 0
  | d :: r => uptoBulk d + uptoBulkAll r
def uptoBulkEntries {H : Type} : List (Lit × DataW H) → Nat
  | [] => 0
  | x :: r => uptoBulkEntry x + uptoBulkEntries r
def uptoBulkEntry {H : Type} : Lit × DataW H → Nat
  | (.string bytes, d) => bytes.length + uptoBulk d + 1
  | (_, d) => uptoBulk d + 1
 end
def uptoSmall : (H : Type) → List (DataW H) → Bool := fun _ ds => decide (uptoBulkAll ds ≤ 1048576)
def OpenSpec.upto (s : _root_.Go.ChangeSpec) : _root_.Go.OpenSpec := { _root_.Go.OpenSpec.ofChange s with cond := some uptoSmall }

/-- 'laws.FnExactDependsOn', WHERE WHAT IT READS IS OF BULK AT MOST 1048576: true; the input reads as it did. -/
def fnExactDependsOnUptoRow : OpenClaim := { program := "ytggmgbobmeblcaagreat", sum := "604b00aa7ba76752a82f47a3902d58d5af3c2ecc5ff4a20af5da263b3831eae9", func := "loop.example/g01919/laws.FnExactDependsOn", spec := "fnExactDependsOn", unfollowed := true, recurses := true, apart := false, narrowed := true }
def FnExactDependsOnUptoSaid : Prop := fnExactDependsOnUptoRow.holds Tryz.pinned (OpenSpec.upto fnExactDependsOnSpec)

/-- 'laws.FnExactIsFailureProof', WHERE WHAT IT READS IS OF BULK AT MOST 1048576: true; the input reads as it did. -/
def fnExactIsFailureProofUptoRow : OpenClaim := { program := "ytggmgbobmeblcaagreat", sum := "604b00aa7ba76752a82f47a3902d58d5af3c2ecc5ff4a20af5da263b3831eae9", func := "loop.example/g01919/laws.FnExactIsFailureProof", spec := "fnExactIsFailureProof", unfollowed := true, recurses := true, apart := false, narrowed := true }
def FnExactIsFailureProofUptoSaid : Prop := fnExactIsFailureProofUptoRow.holds Tryz.pinned (OpenSpec.upto fnExactIsFailureProofSpec)

/-- 'laws.FnExactConflictingConstants', WHERE WHAT IT READS IS OF BULK AT MOST 1048576: true; the input reads as it did. -/
def fnExactConflictingConstantsUptoRow : OpenClaim := { program := "ytggmgbobmeblcaagreat", sum := "604b00aa7ba76752a82f47a3902d58d5af3c2ecc5ff4a20af5da263b3831eae9", func := "loop.example/g01919/laws.FnExactConflictingConstants", spec := "fnExactConflictingConstants", unfollowed := true, recurses := true, apart := false, narrowed := true }
def FnExactConflictingConstantsUptoSaid : Prop := fnExactConflictingConstantsUptoRow.holds Tryz.pinned (OpenSpec.upto fnExactConflictingConstantsSpec)

/-- 'laws.FnExactMustBeEqual', WHERE WHAT IT READS IS OF BULK AT MOST 1048576: true; the input reads as it did. -/
def fnExactMustBeEqualUptoRow : OpenClaim := { program := "ytggmgbobmeblcaagreat", sum := "604b00aa7ba76752a82f47a3902d58d5af3c2ecc5ff4a20af5da263b3831eae9", func := "loop.example/g01919/laws.FnExactMustBeEqual", spec := "fnExactMustBeEqual", unfollowed := true, recurses := true, apart := false, narrowed := true }
def FnExactMustBeEqualUptoSaid : Prop := fnExactMustBeEqualUptoRow.holds Tryz.pinned (OpenSpec.upto fnExactMustBeEqualSpec)

/-- 'laws.FnExactForcedConstant', WHERE WHAT IT READS IS OF BULK AT MOST 1048576: true; the input reads as it did. -/
def fnExactForcedConstantUptoRow : OpenClaim := { program := "ytggmgbobmeblcaagreat", sum := "604b00aa7ba76752a82f47a3902d58d5af3c2ecc5ff4a20af5da263b3831eae9", func := "loop.example/g01919/laws.FnExactForcedConstant", spec := "fnExactForcedConstant", unfollowed := true, recurses := true, apart := false, narrowed := true }
def FnExactForcedConstantUptoSaid : Prop := fnExactForcedConstantUptoRow.holds Tryz.pinned (OpenSpec.upto fnExactForcedConstantSpec)

/-- 'laws.FnExactIsComplete', WHERE WHAT IT READS IS OF BULK AT MOST 1048576: true; the input reads as it did. -/
def fnExactIsCompleteUptoRow : OpenClaim := { program := "ytggmgbobmeblcaagreat", sum := "604b00aa7ba76752a82f47a3902d58d5af3c2ecc5ff4a20af5da263b3831eae9", func := "loop.example/g01919/laws.FnExactIsComplete", spec := "fnExactIsComplete", unfollowed := true, recurses := true, apart := false, narrowed := true }
def FnExactIsCompleteUptoSaid : Prop := fnExactIsCompleteUptoRow.holds Tryz.pinned (OpenSpec.upto fnExactIsCompleteSpec)

end Rows
end Go.Proofs.YtggmgbobmeblcaaGreat
