/-
  No cell of these rows narrows 'for every input' (looked for: loops, veiled, ifaces, maps, wideKeys, modest, calm, conditions, laid).
  DERIVED. THE GIVEN ROWS OF THIS SEAT. 4 by the template 'for every input the law returns true; each argument reads behind the call as it read before'; 0 by the template 'total and deterministic' (their statements: YtmfgkhfgnpeohaaGreatTotals.lean).
  GIVEN WITH THE SEED: the statements are not yours to turn. If you find one false, say at which input.
  Laid BY PROGRAM, IN A SANDBOX (cutbox-rows.mjs): the forced cells as the released guide's own fill.sh prints them over the translation e963e7ef85dc9051… (all of the seat's roots in one cut). By AI agents, Wed Nov 11 2026. No macro, syntax, notation, axiom, sorry.
-/
import Derived.Test.YtmfgkhfgnpeohaaGreatChecked
import GoSem.Claim
import GoSem.ClaimJoined
import GoSem.ClaimMapViews
import Derived.JoinedTies
import Derived.KernelRfl
namespace Go.Proofs.YtmfgkhfgnpeohaaGreat
/- THE CELL 'sum', in the pinned program and in every row, IS THE sha256 OF THE DUMP (.gsa) THAT YtmfgkhfgnpeohaaGreatProg.lean LOADS. Nothing in Lean hashes anything: it is a label: what it is worth is what the hold of that sum in a sandbox is worth. -/
noncomputable def Tryz.pinned : Pinned := { name := "ytmfgkhfgnpeohaagreat", sum := "e963e7ef85dc90518e8d9346d1ef4675d7342dfef3fe92b8b7b086e897e6e6f9", checked := Tryz.checked }
namespace Rows
def none {H : Type} : Left H := { results := [], args := [] }

/-- 'laws.FnExactDerivations': WHATEVER THE INPUT: true; the input reads as it did. -/
def fnExactDerivationsSpec : ChangeSpec := { name := "fnExactDerivations", fn := fun _ => fun
  | [d1, d2, d3] => { results := [.lit (.bool true)], args := [d1, d2, d3] }
  | _ => none }
def fnExactDerivationsRow : OpenClaim := { program := "ytmfgkhfgnpeohaagreat", sum := "e963e7ef85dc90518e8d9346d1ef4675d7342dfef3fe92b8b7b086e897e6e6f9", func := "loop.example/g01919/laws.FnExactDerivations", spec := "fnExactDerivations", unfollowed := true, recurses := true, apart := false }
def FnExactDerivationsSaid : Prop := fnExactDerivationsRow.holds Tryz.pinned (OpenSpec.ofChange fnExactDerivationsSpec)

/-- ITS FALSE NEIGHBOUR: 'it returns false'. Refute it at one input. -/
def fnExactDerivationsWrong : ChangeSpec := { name := "fnExactDerivations", fn := fun _ => fun
  | [d1, d2, d3] => { results := [.lit (.bool false)], args := [d1, d2, d3] }
  | _ => none }
def FnExactDerivationsWrongFalsely : Prop := fnExactDerivationsRow.holds Tryz.pinned (OpenSpec.ofChange fnExactDerivationsWrong)

/-- 'laws.FnExactFindFailureProof': WHATEVER THE INPUT: true; the input reads as it did. -/
def fnExactFindFailureProofSpec : ChangeSpec := { name := "fnExactFindFailureProof", fn := fun _ => fun
  | [d1, d2] => { results := [.lit (.bool true)], args := [d1, d2] }
  | _ => none }
def fnExactFindFailureProofRow : OpenClaim := { program := "ytmfgkhfgnpeohaagreat", sum := "e963e7ef85dc90518e8d9346d1ef4675d7342dfef3fe92b8b7b086e897e6e6f9", func := "loop.example/g01919/laws.FnExactFindFailureProof", spec := "fnExactFindFailureProof", unfollowed := true, recurses := true, apart := false }
def FnExactFindFailureProofSaid : Prop := fnExactFindFailureProofRow.holds Tryz.pinned (OpenSpec.ofChange fnExactFindFailureProofSpec)

/-- ITS FALSE NEIGHBOUR: 'it returns false'. Refute it at one input. -/
def fnExactFindFailureProofWrong : ChangeSpec := { name := "fnExactFindFailureProof", fn := fun _ => fun
  | [d1, d2] => { results := [.lit (.bool false)], args := [d1, d2] }
  | _ => none }
def FnExactFindFailureProofWrongFalsely : Prop := fnExactFindFailureProofRow.holds Tryz.pinned (OpenSpec.ofChange fnExactFindFailureProofWrong)

/-- 'laws.FnExactChaseEqualities': WHATEVER THE INPUT: true; the input reads as it did. -/
def fnExactChaseEqualitiesSpec : ChangeSpec := { name := "fnExactChaseEqualities", fn := fun _ => fun
  | [d1, d2] => { results := [.lit (.bool true)], args := [d1, d2] }
  | _ => none }
def fnExactChaseEqualitiesRow : OpenClaim := { program := "ytmfgkhfgnpeohaagreat", sum := "e963e7ef85dc90518e8d9346d1ef4675d7342dfef3fe92b8b7b086e897e6e6f9", func := "loop.example/g01919/laws.FnExactChaseEqualities", spec := "fnExactChaseEqualities", unfollowed := true, recurses := true, apart := false }
def FnExactChaseEqualitiesSaid : Prop := fnExactChaseEqualitiesRow.holds Tryz.pinned (OpenSpec.ofChange fnExactChaseEqualitiesSpec)

/-- ITS FALSE NEIGHBOUR: 'it returns false'. Refute it at one input. -/
def fnExactChaseEqualitiesWrong : ChangeSpec := { name := "fnExactChaseEqualities", fn := fun _ => fun
  | [d1, d2] => { results := [.lit (.bool false)], args := [d1, d2] }
  | _ => none }
def FnExactChaseEqualitiesWrongFalsely : Prop := fnExactChaseEqualitiesRow.holds Tryz.pinned (OpenSpec.ofChange fnExactChaseEqualitiesWrong)

/-- 'laws.FnExactSkolemChase': WHATEVER THE INPUT: true; the input reads as it did. -/
def fnExactSkolemChaseSpec : ChangeSpec := { name := "fnExactSkolemChase", fn := fun _ => fun
  | [d1, d2] => { results := [.lit (.bool true)], args := [d1, d2] }
  | _ => none }
def fnExactSkolemChaseRow : OpenClaim := { program := "ytmfgkhfgnpeohaagreat", sum := "e963e7ef85dc90518e8d9346d1ef4675d7342dfef3fe92b8b7b086e897e6e6f9", func := "loop.example/g01919/laws.FnExactSkolemChase", spec := "fnExactSkolemChase", unfollowed := true, recurses := true, apart := false }
def FnExactSkolemChaseSaid : Prop := fnExactSkolemChaseRow.holds Tryz.pinned (OpenSpec.ofChange fnExactSkolemChaseSpec)

/-- ITS FALSE NEIGHBOUR: 'it returns false'. Refute it at one input. -/
def fnExactSkolemChaseWrong : ChangeSpec := { name := "fnExactSkolemChase", fn := fun _ => fun
  | [d1, d2] => { results := [.lit (.bool false)], args := [d1, d2] }
  | _ => none }
def FnExactSkolemChaseWrongFalsely : Prop := fnExactSkolemChaseRow.holds Tryz.pinned (OpenSpec.ofChange fnExactSkolemChaseWrong)

/- THE SECOND FORM. 'bulk': how many values and letters a reading holds, each counted each time it is reached (what is shared counts as often as it is met; a slice's spare places count too). A statement '..UptoSaid' is the law's where the arguments, and the package variables that the reading takes, are together of bulk at most 1048576: NARROWER than '..Said'. Prove '..Said' where nothing that the law and all that it calls make is longer than what came in: it says more and counts as full. Else prove '..UptoSaid'. A law counts once. -/
mutual
def uptoBulk {H : Type} : DataW H → Nat
  | .lit (.string bytes) => bytes.length + 1
  | .lit _ => 1
  | .nil => 1
  | .ptr d => uptoBulk d + 1
  | .slice elems spare => uptoBulkAll elems + uptoBulkAll spare + 1
  | .agg parts => uptoBulkAll parts + 1
  | .iface _ d => uptoBulk d + 1
  | .map entries => uptoBulkEntries entries + 1
  | .held _ => 1
def uptoBulkAll {H : Type} : List (DataW H) → Nat
  | [] => 0
  | d :: r => uptoBulk d + uptoBulkAll r
def uptoBulkEntries {H : Type} : List (Lit × DataW H) → Nat
  | [] => 0
  | x :: r => uptoBulkEntry x + uptoBulkEntries r
def uptoBulkEntry {H : Type} : Lit × DataW H → Nat
  | (.string bytes, d) => bytes.length + uptoBulk d + 1
  | (_, d) => uptoBulk d + 1
 end
def uptoSmall : (H : Type) → List (DataW H) → Bool := fun _ ds => decide (uptoBulkAll ds ≤ 1048576)
def OpenSpec.upto (s : _root_.Go.ChangeSpec) : _root_.Go.OpenSpec := { _root_.Go.OpenSpec.ofChange s with cond := some uptoSmall }

/-- 'laws.FnExactDerivations', WHERE WHAT IT READS IS OF BULK AT MOST 1048576: true; the input reads as it did. -/
def fnExactDerivationsUptoRow : OpenClaim := { program := "ytmfgkhfgnpeohaagreat", sum := "e963e7ef85dc90518e8d9346d1ef4675d7342dfef3fe92b8b7b086e897e6e6f9", func := "loop.example/g01919/laws.FnExactDerivations", spec := "fnExactDerivations", unfollowed := true, recurses := true, apart := false, narrowed := true }
def FnExactDerivationsUptoSaid : Prop := fnExactDerivationsUptoRow.holds Tryz.pinned (OpenSpec.upto fnExactDerivationsSpec)

/-- 'laws.FnExactFindFailureProof', WHERE WHAT IT READS IS OF BULK AT MOST 1048576: true; the input reads as it did. -/
def fnExactFindFailureProofUptoRow : OpenClaim := { program := "ytmfgkhfgnpeohaagreat", sum := "e963e7ef85dc90518e8d9346d1ef4675d7342dfef3fe92b8b7b086e897e6e6f9", func := "loop.example/g01919/laws.FnExactFindFailureProof", spec := "fnExactFindFailureProof", unfollowed := true, recurses := true, apart := false, narrowed := true }
def FnExactFindFailureProofUptoSaid : Prop := fnExactFindFailureProofUptoRow.holds Tryz.pinned (OpenSpec.upto fnExactFindFailureProofSpec)

/-- 'laws.FnExactChaseEqualities', WHERE WHAT IT READS IS OF BULK AT MOST 1048576: true; the input reads as it did. -/
def fnExactChaseEqualitiesUptoRow : OpenClaim := { program := "ytmfgkhfgnpeohaagreat", sum := "e963e7ef85dc90518e8d9346d1ef4675d7342dfef3fe92b8b7b086e897e6e6f9", func := "loop.example/g01919/laws.FnExactChaseEqualities", spec := "fnExactChaseEqualities", unfollowed := true, recurses := true, apart := false, narrowed := true }
def FnExactChaseEqualitiesUptoSaid : Prop := fnExactChaseEqualitiesUptoRow.holds Tryz.pinned (OpenSpec.upto fnExactChaseEqualitiesSpec)

/-- 'laws.FnExactSkolemChase', WHERE WHAT IT READS IS OF BULK AT MOST 1048576: true; the input reads as it did. -/
def fnExactSkolemChaseUptoRow : OpenClaim := { program := "ytmfgkhfgnpeohaagreat", sum := "e963e7ef85dc90518e8d9346d1ef4675d7342dfef3fe92b8b7b086e897e6e6f9", func := "loop.example/g01919/laws.FnExactSkolemChase", spec := "fnExactSkolemChase", unfollowed := true, recurses := true, apart := false, narrowed := true }
def FnExactSkolemChaseUptoSaid : Prop := fnExactSkolemChaseUptoRow.holds Tryz.pinned (OpenSpec.upto fnExactSkolemChaseSpec)

end Rows
end Go.Proofs.YtmfgkhfgnpeohaaGreat
