/-
  The functions that are reached: types, signatures, what a call of each gives.
-/
import Derived.Test.YtclcdjdogjjfnaaVE
import Derived.Test.YtclcdjdogjjfnaaProg
import Derived.KernelRfl
set_option linter.unusedVariables false
set_option linter.unusedSimpArgs false
set_option maxRecDepth 1000000
set_option maxHeartbeats 4000000
set_option linter.unusedVariables false
namespace Go.V
open Go Go.Proofs
abbrev h0 : Sh := .pair (.int .u8) .unit
abbrev h1 : Sh := .pair .bool h0
abbrev h2 : Sh := .pair (.int .i64) h1
abbrev h3 : Sh := .pair (.int .i64) h2
abbrev h4 : Sh := .pair (.int .u64) .unit
abbrev h5 : Sh := .pair .str h4
abbrev h6 : Sh := .pair (.sl 3 (.int .i64)) .unit
abbrev h7 : Sh := .pair (.int .i64) h6
abbrev h8 : Sh := .pair .bool .unit
abbrev h9 : Sh := .pair (.int .i64) h8
abbrev h10 : Sh := .pair .str h9
abbrev h11 : Sh := .sl 109 h10
abbrev h12 : Sh := .sl 111 h7
abbrev h13 : Sh := .pair h12 .unit
abbrev h14 : Sh := .pair h11 h13
abbrev h15 : Sh := .sl 107 h10
abbrev h16 : Sh := .sl 90 h7
abbrev h17 : Sh := .pair h16 .unit
abbrev h18 : Sh := .pair h15 h17
abbrev h19 : Sh := .sl 29 h7
abbrev h20 : Sh := .pair (.int .i64) .unit
abbrev h21 : Sh := .pair (.int .i64) h20
abbrev h22 : Sh := .pair .bool h21
abbrev h23 : Sh := .pair h19 h22
abbrev h24 : Sh := .pair h19 h23
abbrev h25 : Sh := .sl 67 h24
abbrev h26 : Sh := .sl 33 h7
abbrev h27 : Sh := .pair h26 h22
abbrev h28 : Sh := .pair h26 h27
abbrev h29 : Sh := .sl 72 h28
abbrev h30 : Sh := .pair (.sl 5 (.int .u8)) h21
noncomputable abbrev prog : Program := Try.prog
def shTab : List (Nat × Sh) := [(2, .int .i64), (3, .int .i64), (4, .bool), (5, .int .u8), (6, .int .u8), (7, h3), (8, h3), (9, .str), (10, .str), (11, .str), (12, .int .u64), (13, h5), (14, h5), (21, .int .i32), (22, .sl 9 .str), (27, .sl 3 (.int .i64)), (28, h7), (29, h7), (33, h7), (40, .sl 5 (.int .u8)), (44, h11), (45, h12), (46, h14), (47, h14), (50, h15), (51, h16), (52, h18), (53, h18), (57, h25), (59, h29), (65, h19), (66, h24), (67, h24), (70, h26), (71, h28), (72, h28), (82, .ptr h30), (89, h7), (90, h7), (102, h30), (103, h30), (106, h10), (107, h10), (109, h10), (111, h7), (120, .int .u64), (126, .int .i64), (135, .int .u32), (137, .int .u64), (138, .int .u64), (142, .ptr (.int .i64)), (144, .ptr (.int .u64)), (154, .int .u8), (155, .int .u8), (157, .ptr (.int .u8)), (158, .int .i32), (159, .int .i32)]
def sigTab : List (Nat × List Sig) := [(7, [⟨[.z], [(.bool, .z)], [.z]⟩]), (16, [⟨[.z, .z], [(.int .i64, .z)], [.z, .z]⟩]), (18, [⟨[.z], [(h7, .pr .z (.pr (.own .z) .z))], [.z]⟩]), (20, [⟨[.z, .z], [(.bool, .z)], [.z, .z]⟩]), (21, [⟨[.z, .z], [(.bool, .z)], [.z, .z]⟩]), (23, [⟨[.own .z, .z], [(.int .i64, .z)], [.own .z, .z]⟩]), (24, [⟨[.z, .z], [(.int .i64, .z)], [.z, .z]⟩]), (33, [⟨[.z, .z], [(.int .i64, .z)], [.z, .z]⟩]), (34, [⟨[.z], [(h29, .own (.pr (.own (.pr .z (.pr (.own .z) .z))) (.pr (.own (.pr .z (.pr (.own .z) .z))) .z)))], [.z]⟩]), (35, [⟨[.z], [(h29, .own (.pr (.own (.pr .z (.pr (.own .z) .z))) (.pr (.own (.pr .z (.pr (.own .z) .z))) .z)))], [.z]⟩]), (36, [⟨[.z], [(h29, .own (.pr (.own (.pr .z (.pr (.own .z) .z))) (.pr (.own (.pr .z (.pr (.own .z) .z))) .z)))], [.z]⟩]), (37, [⟨[.z, .z], [(.bool, .z)], [.z, .z]⟩]), (38, [⟨[.own (.pr (.own (.pr .z (.pr (.own .z) .z))) (.pr (.own (.pr .z (.pr (.own .z) .z))) .z)), .z], [(.int .i64, .z)], [.own (.pr (.own (.pr .z (.pr (.own .z) .z))) (.pr (.own (.pr .z (.pr (.own .z) .z))) .z)), .z]⟩]), (39, [⟨[.z, .z], [(.int .i64, .z)], [.z, .z]⟩]), (40, [⟨[.z, .z], [(.int .i64, .z)], [.z, .z]⟩]), (42, [⟨[.z], [(h28, .pr (.own (.pr .z (.pr (.own .z) .z))) (.pr (.own (.pr .z (.pr (.own .z) .z))) .z))], [.z]⟩]), (44, [⟨[.z, .z], [(.bool, .z)], [.z, .z]⟩]), (47, [⟨[.z, .z], [(.int .i64, .z)], [.z, .z]⟩]), (50, [⟨[.z], [(.sl 3 (.int .i64), .own .z)], [.z]⟩]), (65, [⟨[.z], [(h28, .pr (.own (.pr .z (.pr (.own .z) .z))) (.pr (.own (.pr .z (.pr (.own .z) .z))) .z))], [.z]⟩]), (66, [⟨[.z], [(h28, .pr (.own (.pr .z (.pr (.own .z) .z))) (.pr (.own (.pr .z (.pr (.own .z) .z))) .z))], [.z]⟩]), (67, [⟨[.own (.pr .z (.pr (.own .z) .z)), .z], [(.int .i64, .z)], [.own (.pr .z (.pr (.own .z) .z)), .z]⟩]), (68, [⟨[.z, .z], [(.int .i64, .z)], [.z, .z]⟩]), (69, [⟨[.z, .z], [(.int .i64, .z)], [.z, .z]⟩]), (71, [⟨[.z], [(h26, .own (.pr .z (.pr (.own .z) .z)))], [.z]⟩]), (73, [⟨[.z, .z], [(.bool, .z)], [.z, .z]⟩]), (83, [⟨[.z], [(h26, .own (.pr .z (.pr (.own .z) .z)))], [.z]⟩]), (84, [⟨[.z], [(.sl 3 (.int .i64), .own .z)], [.z]⟩])]
def parTab : List (Nat × List (Option Sh)) := [(7, [some (h25)]), (16, [some (h7), some (.int .i64)]), (18, [some (h7)]), (20, [some (.sl 3 (.int .i64)), some (.sl 3 (.int .i64))]), (21, [some (h7), some (h7)]), (23, [some (.sl 3 (.int .i64)), some (.int .i64)]), (24, [some (.sl 3 (.int .i64)), some (.int .i64)]), (33, [some (h25), some (.int .i64)]), (34, [some (h29)]), (35, [some (h25)]), (36, [some (h29)]), (37, [some (h29), some (h29)]), (38, [some (h29), some (.int .i64)]), (39, [some (h29), some (.int .i64)]), (40, [some (h24), some (.int .i64)]), (42, [some (h24)]), (44, [some (h28), some (h28)]), (47, [some (.sl 3 (.int .i64)), some (.int .i64)]), (50, [some (.sl 3 (.int .i64))]), (65, [some (h28)]), (66, [some (h28)]), (67, [some (h26), some (.int .i64)]), (68, [some (h26), some (.int .i64)]), (69, [some (h19), some (.int .i64)]), (71, [some (h19)]), (73, [some (h26), some (h26)]), (83, [some (h26)]), (84, [some (.sl 3 (.int .i64))])]
noncomputable def E : Env := { sh := fun t => look t shTab, sigs := fun f => (look f sigTab).getD [], params := fun f => (look f parTab).getD [], gives := GivesS prog }
theorem types_ok : ∀ t s, E.sh t = some s → ShOk prog s none t := tab_ok (by kernel_rfl)
theorem mixed : prog.follows .mixedOrders = true := by kernel_rfl
/-- laws.FnExactEqualityDependencies -/
def G7 (x0 : List ((List (Int × (List Int) × Unit)) × (List (Int × (List Int) × Unit)) × Bool × Int × Int × Unit)) (y0 : Bool) : Prop := GivesS prog 7 [⟨h25, .z, x0⟩] [⟨.bool, .z, y0⟩] [⟨h25, .z, x0⟩]
/-- laws.heldDependencyS -/
def G39 (x0 : List ((List (Int × (List Int) × Unit)) × (List (Int × (List Int) × Unit)) × Bool × Int × Int × Unit)) (x1 : Int) (y0 : Int) : Prop := GivesS prog 39 [⟨h29, .z, x0⟩, ⟨.int .i64, .z, x1⟩] [⟨.int .i64, .z, y0⟩] [⟨h29, .z, x0⟩, ⟨.int .i64, .z, x1⟩]
/-- laws.heldAtomS -/
def G68 (x0 : List (Int × (List Int) × Unit)) (x1 : Int) (y0 : Int) : Prop := GivesS prog 68 [⟨h26, .z, x0⟩, ⟨.int .i64, .z, x1⟩] [⟨.int .i64, .z, y0⟩] [⟨h26, .z, x0⟩, ⟨.int .i64, .z, x1⟩]
/-- laws.heldIntS -/
def G24 (x0 : List Int) (x1 : Int) (y0 : Int) : Prop := GivesS prog 24 [⟨.sl 3 (.int .i64), .z, x0⟩, ⟨.int .i64, .z, x1⟩] [⟨.int .i64, .z, y0⟩] [⟨.sl 3 (.int .i64), .z, x0⟩, ⟨.int .i64, .z, x1⟩]
/-- laws.eqDependencyS -/
def G37 (x0 : List ((List (Int × (List Int) × Unit)) × (List (Int × (List Int) × Unit)) × Bool × Int × Int × Unit)) (x1 : List ((List (Int × (List Int) × Unit)) × (List (Int × (List Int) × Unit)) × Bool × Int × Int × Unit)) (y0 : Bool) : Prop := GivesS prog 37 [⟨h29, .z, x0⟩, ⟨h29, .z, x1⟩] [⟨.bool, .z, y0⟩] [⟨h29, .z, x0⟩, ⟨h29, .z, x1⟩]
/-- laws.eqDependency -/
def G44 (x0 : (List (Int × (List Int) × Unit)) × (List (Int × (List Int) × Unit)) × Bool × Int × Int × Unit) (x1 : (List (Int × (List Int) × Unit)) × (List (Int × (List Int) × Unit)) × Bool × Int × Int × Unit) (y0 : Bool) : Prop := GivesS prog 44 [⟨h28, .z, x0⟩, ⟨h28, .z, x1⟩] [⟨.bool, .z, y0⟩] [⟨h28, .z, x0⟩, ⟨h28, .z, x1⟩]
/-- laws.eqAtomS -/
def G73 (x0 : List (Int × (List Int) × Unit)) (x1 : List (Int × (List Int) × Unit)) (y0 : Bool) : Prop := GivesS prog 73 [⟨h26, .z, x0⟩, ⟨h26, .z, x1⟩] [⟨.bool, .z, y0⟩] [⟨h26, .z, x0⟩, ⟨h26, .z, x1⟩]
/-- laws.eqAtom -/
def G21 (x0 : Int × (List Int) × Unit) (x1 : Int × (List Int) × Unit) (y0 : Bool) : Prop := GivesS prog 21 [⟨h7, .z, x0⟩, ⟨h7, .z, x1⟩] [⟨.bool, .z, y0⟩] [⟨h7, .z, x0⟩, ⟨h7, .z, x1⟩]
/-- laws.eqIntS -/
def G20 (x0 : List Int) (x1 : List Int) (y0 : Bool) : Prop := GivesS prog 20 [⟨.sl 3 (.int .i64), .z, x0⟩, ⟨.sl 3 (.int .i64), .z, x1⟩] [⟨.bool, .z, y0⟩] [⟨.sl 3 (.int .i64), .z, x0⟩, ⟨.sl 3 (.int .i64), .z, x1⟩]
/-- impl.EqualityDependencies -/
def G36 (x0 : List ((List (Int × (List Int) × Unit)) × (List (Int × (List Int) × Unit)) × Bool × Int × Int × Unit)) (y0 : List ((List (Int × (List Int) × Unit)) × (List (Int × (List Int) × Unit)) × Bool × Int × Int × Unit)) : Prop := GivesS prog 36 [⟨h29, .z, x0⟩] [⟨h29, .own (.pr (.own (.pr .z (.pr (.own .z) .z))) (.pr (.own (.pr .z (.pr (.own .z) .z))) .z)), y0⟩] [⟨h29, .z, x0⟩]
/-- impl.dependencyCopy -/
def G66 (x0 : (List (Int × (List Int) × Unit)) × (List (Int × (List Int) × Unit)) × Bool × Int × Int × Unit) (y0 : (List (Int × (List Int) × Unit)) × (List (Int × (List Int) × Unit)) × Bool × Int × Int × Unit) : Prop := GivesS prog 66 [⟨h28, .z, x0⟩] [⟨h28, .pr (.own (.pr .z (.pr (.own .z) .z))) (.pr (.own (.pr .z (.pr (.own .z) .z))) .z), y0⟩] [⟨h28, .z, x0⟩]
/-- impl.dependencyCopy$1 -/
def G83 (x0 : List (Int × (List Int) × Unit)) (y0 : List (Int × (List Int) × Unit)) : Prop := GivesS prog 83 [⟨h26, .z, x0⟩] [⟨h26, .own (.pr .z (.pr (.own .z) .z)), y0⟩] [⟨h26, .z, x0⟩]
/-- slices.Clone[[]int,int] -/
def G84 (x0 : List Int) (y0 : List Int) : Prop := GivesS prog 84 [⟨.sl 3 (.int .i64), .z, x0⟩] [⟨.sl 3 (.int .i64), .own .z, y0⟩] [⟨.sl 3 (.int .i64), .z, x0⟩]
/-- laws.toDependencyS -/
def G35 (x0 : List ((List (Int × (List Int) × Unit)) × (List (Int × (List Int) × Unit)) × Bool × Int × Int × Unit)) (y0 : List ((List (Int × (List Int) × Unit)) × (List (Int × (List Int) × Unit)) × Bool × Int × Int × Unit)) : Prop := GivesS prog 35 [⟨h25, .z, x0⟩] [⟨h29, .own (.pr (.own (.pr .z (.pr (.own .z) .z))) (.pr (.own (.pr .z (.pr (.own .z) .z))) .z)), y0⟩] [⟨h25, .z, x0⟩]
/-- laws.toDependency -/
def G42 (x0 : (List (Int × (List Int) × Unit)) × (List (Int × (List Int) × Unit)) × Bool × Int × Int × Unit) (y0 : (List (Int × (List Int) × Unit)) × (List (Int × (List Int) × Unit)) × Bool × Int × Int × Unit) : Prop := GivesS prog 42 [⟨h24, .z, x0⟩] [⟨h28, .pr (.own (.pr .z (.pr (.own .z) .z))) (.pr (.own (.pr .z (.pr (.own .z) .z))) .z), y0⟩] [⟨h24, .z, x0⟩]
/-- laws.toAtomS -/
def G71 (x0 : List (Int × (List Int) × Unit)) (y0 : List (Int × (List Int) × Unit)) : Prop := GivesS prog 71 [⟨h19, .z, x0⟩] [⟨h26, .own (.pr .z (.pr (.own .z) .z)), y0⟩] [⟨h19, .z, x0⟩]
/-- laws.toAtom -/
def G18 (x0 : Int × (List Int) × Unit) (y0 : Int × (List Int) × Unit) : Prop := GivesS prog 18 [⟨h7, .z, x0⟩] [⟨h7, .pr .z (.pr (.own .z) .z), y0⟩] [⟨h7, .z, x0⟩]
/-- laws.toIntS -/
def G50 (x0 : List Int) (y0 : List Int) : Prop := GivesS prog 50 [⟨.sl 3 (.int .i64), .z, x0⟩] [⟨.sl 3 (.int .i64), .own .z, y0⟩] [⟨.sl 3 (.int .i64), .z, x0⟩]
/-- laws.markDependencyS -/
def G38oownprownprzprownzzprownprzprownzzz (x0 : List ((List (Int × (List Int) × Unit)) × (List (Int × (List Int) × Unit)) × Bool × Int × Int × Unit)) (x1 : Int) (y0 : Int) (z0 : List ((List (Int × (List Int) × Unit)) × (List (Int × (List Int) × Unit)) × Bool × Int × Int × Unit)) : Prop := GivesS prog 38 [⟨h29, .own (.pr (.own (.pr .z (.pr (.own .z) .z))) (.pr (.own (.pr .z (.pr (.own .z) .z))) .z)), x0⟩, ⟨.int .i64, .z, x1⟩] [⟨.int .i64, .z, y0⟩] [⟨h29, .own (.pr (.own (.pr .z (.pr (.own .z) .z))) (.pr (.own (.pr .z (.pr (.own .z) .z))) .z)), z0⟩, ⟨.int .i64, .z, x1⟩]
/-- laws.markAtomS -/
def G67oownprzprownzz (x0 : List (Int × (List Int) × Unit)) (x1 : Int) (y0 : Int) (z0 : List (Int × (List Int) × Unit)) : Prop := GivesS prog 67 [⟨h26, .own (.pr .z (.pr (.own .z) .z)), x0⟩, ⟨.int .i64, .z, x1⟩] [⟨.int .i64, .z, y0⟩] [⟨h26, .own (.pr .z (.pr (.own .z) .z)), z0⟩, ⟨.int .i64, .z, x1⟩]
/-- laws.markIntS -/
def G23oownz (x0 : List Int) (x1 : Int) (y0 : Int) (z0 : List Int) : Prop := GivesS prog 23 [⟨.sl 3 (.int .i64), .own .z, x0⟩, ⟨.int .i64, .z, x1⟩] [⟨.int .i64, .z, y0⟩] [⟨.sl 3 (.int .i64), .own .z, z0⟩, ⟨.int .i64, .z, x1⟩]
/-- spec.EqualityDependencies -/
def G34 (x0 : List ((List (Int × (List Int) × Unit)) × (List (Int × (List Int) × Unit)) × Bool × Int × Int × Unit)) (y0 : List ((List (Int × (List Int) × Unit)) × (List (Int × (List Int) × Unit)) × Bool × Int × Int × Unit)) : Prop := GivesS prog 34 [⟨h29, .z, x0⟩] [⟨h29, .own (.pr (.own (.pr .z (.pr (.own .z) .z))) (.pr (.own (.pr .z (.pr (.own .z) .z))) .z)), y0⟩] [⟨h29, .z, x0⟩]
/-- spec.l9Copy -/
def G65 (x0 : (List (Int × (List Int) × Unit)) × (List (Int × (List Int) × Unit)) × Bool × Int × Int × Unit) (y0 : (List (Int × (List Int) × Unit)) × (List (Int × (List Int) × Unit)) × Bool × Int × Int × Unit) : Prop := GivesS prog 65 [⟨h28, .z, x0⟩] [⟨h28, .pr (.own (.pr .z (.pr (.own .z) .z))) (.pr (.own (.pr .z (.pr (.own .z) .z))) .z), y0⟩] [⟨h28, .z, x0⟩]
/-- laws.szDependencyS -/
def G33 (x0 : List ((List (Int × (List Int) × Unit)) × (List (Int × (List Int) × Unit)) × Bool × Int × Int × Unit)) (x1 : Int) (y0 : Int) : Prop := GivesS prog 33 [⟨h25, .z, x0⟩, ⟨.int .i64, .z, x1⟩] [⟨.int .i64, .z, y0⟩] [⟨h25, .z, x0⟩, ⟨.int .i64, .z, x1⟩]
/-- laws.szDependency -/
def G40 (x0 : (List (Int × (List Int) × Unit)) × (List (Int × (List Int) × Unit)) × Bool × Int × Int × Unit) (x1 : Int) (y0 : Int) : Prop := GivesS prog 40 [⟨h24, .z, x0⟩, ⟨.int .i64, .z, x1⟩] [⟨.int .i64, .z, y0⟩] [⟨h24, .z, x0⟩, ⟨.int .i64, .z, x1⟩]
/-- laws.szAtomS -/
def G69 (x0 : List (Int × (List Int) × Unit)) (x1 : Int) (y0 : Int) : Prop := GivesS prog 69 [⟨h19, .z, x0⟩, ⟨.int .i64, .z, x1⟩] [⟨.int .i64, .z, y0⟩] [⟨h19, .z, x0⟩, ⟨.int .i64, .z, x1⟩]
/-- laws.szAtom -/
def G16 (x0 : Int × (List Int) × Unit) (x1 : Int) (y0 : Int) : Prop := GivesS prog 16 [⟨h7, .z, x0⟩, ⟨.int .i64, .z, x1⟩] [⟨.int .i64, .z, y0⟩] [⟨h7, .z, x0⟩, ⟨.int .i64, .z, x1⟩]
/-- laws.szIntS -/
def G47 (x0 : List Int) (x1 : Int) (y0 : Int) : Prop := GivesS prog 47 [⟨.sl 3 (.int .i64), .z, x0⟩, ⟨.int .i64, .z, x1⟩] [⟨.int .i64, .z, y0⟩] [⟨.sl 3 (.int .i64), .z, x0⟩, ⟨.int .i64, .z, x1⟩]
end Go.V
/- Functions: what is to be proved of each, and that it is enough. -/
set_option maxRecDepth 1000000
set_option maxHeartbeats 4000000
set_option linter.unusedVariables false
namespace Go.V
open Go Go.Proofs
/-- laws.szIntS -/
def S47 (x0 : List Int) (x1 : Int) (K : Int × Unit → Prop) : Prop :=
  bcase (decide ((w64 (x1 - (List.length x0 : Int))) < (0 : Int))) (K ((-1 : Int), ())) (K (w64 (x1 - (List.length x0 : Int)), ()))
theorem V47 (x0 : List Int) (x1 : Int) (K : Int × Unit → Prop) : fnV E (fun i => look i []) (fun i => look i []) Try.f47 ⟨[.z, .z], [(.int .i64, .z)], [.z, .z]⟩ [⟨.sl 3 (.int .i64), .z, x0⟩, ⟨.int .i64, .z, x1⟩] (ansK [(.int .i64, .z)] [(.sl 3 (.int .i64), .z), (.int .i64, .z)] K) = S47 x0 x1 K := by kernel_rfl
theorem M47 (x0 : List Int) (x1 : Int) (y0 : Int) (h : S47 x0 x1 fun r => r = (y0, ())) : G47 x0 x1 y0 := fn_gives (l := [(.int .i64, .z)]) (m := [(.sl 3 (.int .i64), .z), (.int .i64, .z)]) (val := (y0, ())) types_ok (fun _ _ _ _ h => h) mixed Try.func47 (by kernel_rfl) (by rfl) (by rfl) (by rfl) (Eq.mpr (V47 x0 x1 _) h)
/-- laws.szAtom -/
def S16 (x0 : Int × (List Int) × Unit) (x1 : Int) (K : Int × Unit → Prop) : Prop :=
  ∃ y1 : Int, G47 x0.2.1 x1 y1 ∧ (bcase (decide (y1 < (0 : Int))) (K ((-1 : Int), ())) (K (y1, ())))
theorem V16 (x0 : Int × (List Int) × Unit) (x1 : Int) (K : Int × Unit → Prop) : fnV E (fun i => look i []) (fun i => look i []) Try.f16 ⟨[.z, .z], [(.int .i64, .z)], [.z, .z]⟩ [⟨h7, .z, x0⟩, ⟨.int .i64, .z, x1⟩] (ansK [(.int .i64, .z)] [(h7, .z), (.int .i64, .z)] K) = S16 x0 x1 K := by kernel_rfl
theorem M16 (x0 : Int × (List Int) × Unit) (x1 : Int) (y0 : Int) (h : S16 x0 x1 fun r => r = (y0, ())) : G16 x0 x1 y0 := fn_gives (l := [(.int .i64, .z)]) (m := [(h7, .z), (.int .i64, .z)]) (val := (y0, ())) types_ok (fun _ _ _ _ h => h) mixed Try.func16 (by kernel_rfl) (by rfl) (by rfl) (by rfl) (Eq.mpr (V16 x0 x1 _) h)
/-- laws.toIntS -/
def S50 (x0 : List Int) (K : (List Int) × Unit → Prop) : Prop :=
  (0 ≤ (List.length x0 : Int) ∧ (List.length x0 : Int) ≤ (List.length x0 : Int) ∧ (List.length x0 : Int) ≤ maxL) ∧ (LoopP (fun (again2 : Int × (List Int) × Unit → Prop) (a1 : Int × (List Int) × Unit) => bcase (decide (a1.1 < (List.length x0 : Int))) ((0 ≤ a1.1 ∧ a1.1 < (List.length x0 : Int)) ∧ ((0 ≤ a1.1 ∧ a1.1 < (List.length a1.2.1 : Int)) ∧ (again2 (w64 (a1.1 + (1 : Int)), (a1.2.1.set (Int.toNat a1.1) (x0.getD (Int.toNat a1.1) (0 : Int)), ()))))) (K (a1.2.1, ()))) ((0 : Int), (List.replicate (Int.toNat (List.length x0 : Int)) (0 : Int), ())))
theorem V50 (x0 : List Int) (K : (List Int) × Unit → Prop) : fnV E (fun i => look i [(0, { tmps := [(4, .int .i64)], refs := [(3, 7)], roots := [(7, false, false, .sl 3 (.int .i64), .own .z)], ctmps := [0], croots := [] })]) (fun i => look i []) Try.f50 ⟨[.z], [(.sl 3 (.int .i64), .own .z)], [.z]⟩ [⟨.sl 3 (.int .i64), .z, x0⟩] (ansK [(.sl 3 (.int .i64), .own .z)] [(.sl 3 (.int .i64), .z)] K) = S50 x0 K := by kernel_rfl
theorem M50 (x0 : List Int) (y0 : List Int) (h : S50 x0 fun r => r = (y0, ())) : G50 x0 y0 := fn_gives (l := [(.sl 3 (.int .i64), .own .z)]) (m := [(.sl 3 (.int .i64), .z)]) (val := (y0, ())) types_ok (fun _ _ _ _ h => h) mixed Try.func50 (by kernel_rfl) (by rfl) (by rfl) (by rfl) (Eq.mpr (V50 x0 _) h)
/-- laws.toAtom -/
def S18 (x0 : Int × (List Int) × Unit) (K : (Int × (List Int) × Unit) × Unit → Prop) : Prop :=
  ∃ y1 : List Int, G50 x0.2.1 y1 ∧ (K ((x0.1, (y1, ())), ()))
theorem V18 (x0 : Int × (List Int) × Unit) (K : (Int × (List Int) × Unit) × Unit → Prop) : fnV E (fun i => look i []) (fun i => look i []) Try.f18 ⟨[.z], [(h7, .pr .z (.pr (.own .z) .z))], [.z]⟩ [⟨h7, .z, x0⟩] (ansK [(h7, .pr .z (.pr (.own .z) .z))] [(h7, .z)] K) = S18 x0 K := by kernel_rfl
theorem M18 (x0 : Int × (List Int) × Unit) (y0 : Int × (List Int) × Unit) (h : S18 x0 fun r => r = (y0, ())) : G18 x0 y0 := fn_gives (l := [(h7, .pr .z (.pr (.own .z) .z))]) (m := [(h7, .z)]) (val := (y0, ())) types_ok (fun _ _ _ _ h => h) mixed Try.func18 (by kernel_rfl) (by rfl) (by rfl) (by rfl) (Eq.mpr (V18 x0 _) h)
/-- laws.eqIntS -/
def S20 (x0 : List Int) (x1 : List Int) (K : Bool × Unit → Prop) : Prop :=
  bcase ((List.length x0 : Int) != (List.length x1 : Int)) (K (false, ())) (LoopP (fun (again2 : Int × Unit → Prop) (a1 : Int × Unit) => bcase (decide (a1.1 < (List.length x0 : Int))) ((0 ≤ a1.1 ∧ a1.1 < (List.length x0 : Int)) ∧ ((0 ≤ a1.1 ∧ a1.1 < (List.length x1 : Int)) ∧ (bcase ((x0.getD (Int.toNat a1.1) (0 : Int)) != (x1.getD (Int.toNat a1.1) (0 : Int))) (K (false, ())) (again2 (w64 (a1.1 + (1 : Int)), ()))))) (K (true, ()))) ((0 : Int), ()))
theorem V20 (x0 : List Int) (x1 : List Int) (K : Bool × Unit → Prop) : fnV E (fun i => look i [(0, { tmps := [(5, .int .i64)], refs := [], roots := [], ctmps := [0, 1], croots := [] })]) (fun i => look i [(6, (.op 0 (.op 1 (.op 2 (.op 4 (.op 5 (.op 6 (.chk [] (.mem 3 (.mem 7 (.op 8 .nil))) .nil))))))))]) Try.f20 ⟨[.z, .z], [(.bool, .z)], [.z, .z]⟩ [⟨.sl 3 (.int .i64), .z, x0⟩, ⟨.sl 3 (.int .i64), .z, x1⟩] (ansK [(.bool, .z)] [(.sl 3 (.int .i64), .z), (.sl 3 (.int .i64), .z)] K) = S20 x0 x1 K := by kernel_rfl
theorem M20 (x0 : List Int) (x1 : List Int) (y0 : Bool) (h : S20 x0 x1 fun r => r = (y0, ())) : G20 x0 x1 y0 := fn_gives (l := [(.bool, .z)]) (m := [(.sl 3 (.int .i64), .z), (.sl 3 (.int .i64), .z)]) (val := (y0, ())) types_ok (fun _ _ _ _ h => h) mixed Try.func20 (by kernel_rfl) (by rfl) (by rfl) (by rfl) (Eq.mpr (V20 x0 x1 _) h)
/-- laws.eqAtom -/
def S21 (x0 : Int × (List Int) × Unit) (x1 : Int × (List Int) × Unit) (K : Bool × Unit → Prop) : Prop :=
  bcase (x0.1 != x1.1) (K (false, ())) (∃ y1 : Bool, G20 x0.2.1 x1.2.1 y1 ∧ (bcase (!y1) (K (false, ())) (K (true, ()))))
theorem V21 (x0 : Int × (List Int) × Unit) (x1 : Int × (List Int) × Unit) (K : Bool × Unit → Prop) : fnV E (fun i => look i []) (fun i => look i []) Try.f21 ⟨[.z, .z], [(.bool, .z)], [.z, .z]⟩ [⟨h7, .z, x0⟩, ⟨h7, .z, x1⟩] (ansK [(.bool, .z)] [(h7, .z), (h7, .z)] K) = S21 x0 x1 K := by kernel_rfl
theorem M21 (x0 : Int × (List Int) × Unit) (x1 : Int × (List Int) × Unit) (y0 : Bool) (h : S21 x0 x1 fun r => r = (y0, ())) : G21 x0 x1 y0 := fn_gives (l := [(.bool, .z)]) (m := [(h7, .z), (h7, .z)]) (val := (y0, ())) types_ok (fun _ _ _ _ h => h) mixed Try.func21 (by kernel_rfl) (by rfl) (by rfl) (by rfl) (Eq.mpr (V21 x0 x1 _) h)
/-- laws.markIntS -/
def S23oownz (x0 : List Int) (x1 : Int) (K : Int × (List Int) × Unit → Prop) : Prop :=
  LoopP (fun (again2 : Int × Int × (List Int) × Unit → Prop) (a1 : Int × Int × (List Int) × Unit) => bcase (decide (a1.2.1 < (List.length a1.2.2.1 : Int))) ((0 ≤ a1.2.1 ∧ a1.2.1 < (List.length a1.2.2.1 : Int)) ∧ (again2 (w64 (a1.1 + (1 : Int)), (w64 (a1.2.1 + (1 : Int)), (a1.2.2.1.set (Int.toNat a1.2.1) a1.1, ()))))) (K (a1.1, (a1.2.2.1, ())))) (x1, ((0 : Int), (x0, ())))
theorem V23oownz (x0 : List Int) (x1 : Int) (K : Int × (List Int) × Unit → Prop) : fnV E (fun i => look i [(0, { tmps := [(1, .int .i64), (5, .int .i64)], refs := [(0, 0)], roots := [(0, false, true, .sl 3 (.int .i64), .own .z)], ctmps := [], croots := [] })]) (fun i => look i []) Try.f23 ⟨[.own .z, .z], [(.int .i64, .z)], [.own .z, .z]⟩ [⟨.sl 3 (.int .i64), .own .z, x0⟩, ⟨.int .i64, .z, x1⟩] (ansK [(.int .i64, .z)] [(.sl 3 (.int .i64), .own .z), (.int .i64, .z)] K) = S23oownz x0 x1 K := by kernel_rfl
theorem M23oownz (x0 : List Int) (x1 : Int) (y0 : Int) (z0 : List Int) (h : S23oownz x0 x1 fun r => r = (y0, (z0, ()))) : G23oownz x0 x1 y0 z0 := fn_gives (l := [(.int .i64, .z)]) (m := [(.sl 3 (.int .i64), .own .z), (.int .i64, .z)]) (val := (y0, (z0, ()))) types_ok (fun _ _ _ _ h => h) mixed Try.func23 (by kernel_rfl) (by rfl) (by rfl) (by rfl) (Eq.mpr (V23oownz x0 x1 _) h)
/-- laws.heldIntS -/
def S24 (x0 : List Int) (x1 : Int) (K : Int × Unit → Prop) : Prop :=
  LoopP (fun (again2 : Int × Int × Unit → Prop) (a1 : Int × Int × Unit) => bcase (decide (a1.2.1 < (List.length x0 : Int))) ((0 ≤ a1.2.1 ∧ a1.2.1 < (List.length x0 : Int)) ∧ (bcase ((x0.getD (Int.toNat a1.2.1) (0 : Int)) != a1.1) (K ((-1 : Int), ())) (again2 (w64 (a1.1 + (1 : Int)), (w64 (a1.2.1 + (1 : Int)), ()))))) (K (a1.1, ()))) (x1, ((0 : Int), ()))
theorem V24 (x0 : List Int) (x1 : Int) (K : Int × Unit → Prop) : fnV E (fun i => look i [(0, { tmps := [(1, .int .i64), (5, .int .i64)], refs := [], roots := [], ctmps := [0], croots := [] })]) (fun i => look i []) Try.f24 ⟨[.z, .z], [(.int .i64, .z)], [.z, .z]⟩ [⟨.sl 3 (.int .i64), .z, x0⟩, ⟨.int .i64, .z, x1⟩] (ansK [(.int .i64, .z)] [(.sl 3 (.int .i64), .z), (.int .i64, .z)] K) = S24 x0 x1 K := by kernel_rfl
theorem M24 (x0 : List Int) (x1 : Int) (y0 : Int) (h : S24 x0 x1 fun r => r = (y0, ())) : G24 x0 x1 y0 := fn_gives (l := [(.int .i64, .z)]) (m := [(.sl 3 (.int .i64), .z), (.int .i64, .z)]) (val := (y0, ())) types_ok (fun _ _ _ _ h => h) mixed Try.func24 (by kernel_rfl) (by rfl) (by rfl) (by rfl) (Eq.mpr (V24 x0 x1 _) h)
/-- laws.szAtomS -/
def S69 (x0 : List (Int × (List Int) × Unit)) (x1 : Int) (K : Int × Unit → Prop) : Prop :=
  bcase (decide ((w64 (x1 - (List.length x0 : Int))) < (0 : Int))) (K ((-1 : Int), ())) (LoopP (fun (again2 : Int × Int × Unit → Prop) (a1 : Int × Int × Unit) => bcase (decide (a1.2.1 < (List.length x0 : Int))) ((0 ≤ a1.2.1 ∧ a1.2.1 < (List.length x0 : Int)) ∧ (∃ y3 : Int, G16 (x0.getD (Int.toNat a1.2.1) ((0 : Int), (([] : List Int), ()))) a1.1 y3 ∧ (bcase (decide (y3 < (0 : Int))) (K ((-1 : Int), ())) (again2 (y3, (w64 (a1.2.1 + (1 : Int)), ())))))) (K (a1.1, ()))) (w64 (x1 - (List.length x0 : Int)), ((0 : Int), ())))
theorem V69 (x0 : List (Int × (List Int) × Unit)) (x1 : Int) (K : Int × Unit → Prop) : fnV E (fun i => look i [(0, { tmps := [(1, .int .i64), (5, .int .i64)], refs := [], roots := [], ctmps := [0], croots := [] })]) (fun i => look i []) Try.f69 ⟨[.z, .z], [(.int .i64, .z)], [.z, .z]⟩ [⟨h19, .z, x0⟩, ⟨.int .i64, .z, x1⟩] (ansK [(.int .i64, .z)] [(h19, .z), (.int .i64, .z)] K) = S69 x0 x1 K := by kernel_rfl
theorem M69 (x0 : List (Int × (List Int) × Unit)) (x1 : Int) (y0 : Int) (h : S69 x0 x1 fun r => r = (y0, ())) : G69 x0 x1 y0 := fn_gives (l := [(.int .i64, .z)]) (m := [(h19, .z), (.int .i64, .z)]) (val := (y0, ())) types_ok (fun _ _ _ _ h => h) mixed Try.func69 (by kernel_rfl) (by rfl) (by rfl) (by rfl) (Eq.mpr (V69 x0 x1 _) h)
/-- laws.szDependency -/
def S40 (x0 : (List (Int × (List Int) × Unit)) × (List (Int × (List Int) × Unit)) × Bool × Int × Int × Unit) (x1 : Int) (K : Int × Unit → Prop) : Prop :=
  ∃ y1 : Int, G69 x0.1 x1 y1 ∧ (bcase (decide (y1 < (0 : Int))) (K ((-1 : Int), ())) (∃ y2 : Int, G69 x0.2.1 y1 y2 ∧ (bcase (decide (y2 < (0 : Int))) (K ((-1 : Int), ())) (K (y2, ())))))
theorem V40 (x0 : (List (Int × (List Int) × Unit)) × (List (Int × (List Int) × Unit)) × Bool × Int × Int × Unit) (x1 : Int) (K : Int × Unit → Prop) : fnV E (fun i => look i []) (fun i => look i []) Try.f40 ⟨[.z, .z], [(.int .i64, .z)], [.z, .z]⟩ [⟨h24, .z, x0⟩, ⟨.int .i64, .z, x1⟩] (ansK [(.int .i64, .z)] [(h24, .z), (.int .i64, .z)] K) = S40 x0 x1 K := by kernel_rfl
theorem M40 (x0 : (List (Int × (List Int) × Unit)) × (List (Int × (List Int) × Unit)) × Bool × Int × Int × Unit) (x1 : Int) (y0 : Int) (h : S40 x0 x1 fun r => r = (y0, ())) : G40 x0 x1 y0 := fn_gives (l := [(.int .i64, .z)]) (m := [(h24, .z), (.int .i64, .z)]) (val := (y0, ())) types_ok (fun _ _ _ _ h => h) mixed Try.func40 (by kernel_rfl) (by rfl) (by rfl) (by rfl) (Eq.mpr (V40 x0 x1 _) h)
/-- laws.szDependencyS -/
def S33 (x0 : List ((List (Int × (List Int) × Unit)) × (List (Int × (List Int) × Unit)) × Bool × Int × Int × Unit)) (x1 : Int) (K : Int × Unit → Prop) : Prop :=
  bcase (decide ((w64 (x1 - (List.length x0 : Int))) < (0 : Int))) (K ((-1 : Int), ())) (LoopP (fun (again2 : Int × Int × Unit → Prop) (a1 : Int × Int × Unit) => bcase (decide (a1.2.1 < (List.length x0 : Int))) ((0 ≤ a1.2.1 ∧ a1.2.1 < (List.length x0 : Int)) ∧ (∃ y3 : Int, G40 (x0.getD (Int.toNat a1.2.1) (([] : List (Int × (List Int) × Unit)), (([] : List (Int × (List Int) × Unit)), (false, ((0 : Int), ((0 : Int), ())))))) a1.1 y3 ∧ (bcase (decide (y3 < (0 : Int))) (K ((-1 : Int), ())) (again2 (y3, (w64 (a1.2.1 + (1 : Int)), ())))))) (K (a1.1, ()))) (w64 (x1 - (List.length x0 : Int)), ((0 : Int), ())))
theorem V33 (x0 : List ((List (Int × (List Int) × Unit)) × (List (Int × (List Int) × Unit)) × Bool × Int × Int × Unit)) (x1 : Int) (K : Int × Unit → Prop) : fnV E (fun i => look i [(0, { tmps := [(1, .int .i64), (5, .int .i64)], refs := [], roots := [], ctmps := [0], croots := [] })]) (fun i => look i []) Try.f33 ⟨[.z, .z], [(.int .i64, .z)], [.z, .z]⟩ [⟨h25, .z, x0⟩, ⟨.int .i64, .z, x1⟩] (ansK [(.int .i64, .z)] [(h25, .z), (.int .i64, .z)] K) = S33 x0 x1 K := by kernel_rfl
theorem M33 (x0 : List ((List (Int × (List Int) × Unit)) × (List (Int × (List Int) × Unit)) × Bool × Int × Int × Unit)) (x1 : Int) (y0 : Int) (h : S33 x0 x1 fun r => r = (y0, ())) : G33 x0 x1 y0 := fn_gives (l := [(.int .i64, .z)]) (m := [(h25, .z), (.int .i64, .z)]) (val := (y0, ())) types_ok (fun _ _ _ _ h => h) mixed Try.func33 (by kernel_rfl) (by rfl) (by rfl) (by rfl) (Eq.mpr (V33 x0 x1 _) h)
/-- laws.toAtomS -/
def S71 (x0 : List (Int × (List Int) × Unit)) (K : (List (Int × (List Int) × Unit)) × Unit → Prop) : Prop :=
  (0 ≤ (List.length x0 : Int) ∧ (List.length x0 : Int) ≤ (List.length x0 : Int) ∧ (List.length x0 : Int) ≤ maxL) ∧ (LoopP (fun (again2 : Int × (List (Int × (List Int) × Unit)) × Unit → Prop) (a1 : Int × (List (Int × (List Int) × Unit)) × Unit) => bcase (decide (a1.1 < (List.length x0 : Int))) ((0 ≤ a1.1 ∧ a1.1 < (List.length x0 : Int)) ∧ (∃ y3 : Int × (List Int) × Unit, G18 (x0.getD (Int.toNat a1.1) ((0 : Int), (([] : List Int), ()))) y3 ∧ ((0 ≤ a1.1 ∧ a1.1 < (List.length a1.2.1 : Int)) ∧ (again2 (w64 (a1.1 + (1 : Int)), (a1.2.1.set (Int.toNat a1.1) (y3.1, (y3.2.1, y3.2.2)), ())))))) (K (a1.2.1, ()))) ((0 : Int), (List.replicate (Int.toNat (List.length x0 : Int)) ((0 : Int), (([] : List Int), ())), ())))
theorem V71 (x0 : List (Int × (List Int) × Unit)) (K : (List (Int × (List Int) × Unit)) × Unit → Prop) : fnV E (fun i => look i [(0, { tmps := [(4, .int .i64)], refs := [(3, 7)], roots := [(7, false, false, h26, .own (.pr .z (.pr (.own .z) .z)))], ctmps := [0], croots := [] })]) (fun i => look i []) Try.f71 ⟨[.z], [(h26, .own (.pr .z (.pr (.own .z) .z)))], [.z]⟩ [⟨h19, .z, x0⟩] (ansK [(h26, .own (.pr .z (.pr (.own .z) .z)))] [(h19, .z)] K) = S71 x0 K := by kernel_rfl
theorem M71 (x0 : List (Int × (List Int) × Unit)) (y0 : List (Int × (List Int) × Unit)) (h : S71 x0 fun r => r = (y0, ())) : G71 x0 y0 := fn_gives (l := [(h26, .own (.pr .z (.pr (.own .z) .z)))]) (m := [(h19, .z)]) (val := (y0, ())) types_ok (fun _ _ _ _ h => h) mixed Try.func71 (by kernel_rfl) (by rfl) (by rfl) (by rfl) (Eq.mpr (V71 x0 _) h)
/-- laws.toDependency -/
def S42 (x0 : (List (Int × (List Int) × Unit)) × (List (Int × (List Int) × Unit)) × Bool × Int × Int × Unit) (K : ((List (Int × (List Int) × Unit)) × (List (Int × (List Int) × Unit)) × Bool × Int × Int × Unit) × Unit → Prop) : Prop :=
  ∃ y1 : List (Int × (List Int) × Unit), G71 x0.1 y1 ∧ (∃ y2 : List (Int × (List Int) × Unit), G71 x0.2.1 y2 ∧ (K ((y1, (y2, (x0.2.2.1, (x0.2.2.2.1, (x0.2.2.2.2.1, ()))))), ())))
theorem V42 (x0 : (List (Int × (List Int) × Unit)) × (List (Int × (List Int) × Unit)) × Bool × Int × Int × Unit) (K : ((List (Int × (List Int) × Unit)) × (List (Int × (List Int) × Unit)) × Bool × Int × Int × Unit) × Unit → Prop) : fnV E (fun i => look i []) (fun i => look i []) Try.f42 ⟨[.z], [(h28, .pr (.own (.pr .z (.pr (.own .z) .z))) (.pr (.own (.pr .z (.pr (.own .z) .z))) .z))], [.z]⟩ [⟨h24, .z, x0⟩] (ansK [(h28, .pr (.own (.pr .z (.pr (.own .z) .z))) (.pr (.own (.pr .z (.pr (.own .z) .z))) .z))] [(h24, .z)] K) = S42 x0 K := by kernel_rfl
theorem M42 (x0 : (List (Int × (List Int) × Unit)) × (List (Int × (List Int) × Unit)) × Bool × Int × Int × Unit) (y0 : (List (Int × (List Int) × Unit)) × (List (Int × (List Int) × Unit)) × Bool × Int × Int × Unit) (h : S42 x0 fun r => r = (y0, ())) : G42 x0 y0 := fn_gives (l := [(h28, .pr (.own (.pr .z (.pr (.own .z) .z))) (.pr (.own (.pr .z (.pr (.own .z) .z))) .z))]) (m := [(h24, .z)]) (val := (y0, ())) types_ok (fun _ _ _ _ h => h) mixed Try.func42 (by kernel_rfl) (by rfl) (by rfl) (by rfl) (Eq.mpr (V42 x0 _) h)
/-- laws.toDependencyS -/
def S35 (x0 : List ((List (Int × (List Int) × Unit)) × (List (Int × (List Int) × Unit)) × Bool × Int × Int × Unit)) (K : (List ((List (Int × (List Int) × Unit)) × (List (Int × (List Int) × Unit)) × Bool × Int × Int × Unit)) × Unit → Prop) : Prop :=
  (0 ≤ (List.length x0 : Int) ∧ (List.length x0 : Int) ≤ (List.length x0 : Int) ∧ (List.length x0 : Int) ≤ maxL) ∧ (LoopP (fun (again2 : Int × (List ((List (Int × (List Int) × Unit)) × (List (Int × (List Int) × Unit)) × Bool × Int × Int × Unit)) × Unit → Prop) (a1 : Int × (List ((List (Int × (List Int) × Unit)) × (List (Int × (List Int) × Unit)) × Bool × Int × Int × Unit)) × Unit) => bcase (decide (a1.1 < (List.length x0 : Int))) ((0 ≤ a1.1 ∧ a1.1 < (List.length x0 : Int)) ∧ (∃ y3 : (List (Int × (List Int) × Unit)) × (List (Int × (List Int) × Unit)) × Bool × Int × Int × Unit, G42 (x0.getD (Int.toNat a1.1) (([] : List (Int × (List Int) × Unit)), (([] : List (Int × (List Int) × Unit)), (false, ((0 : Int), ((0 : Int), ())))))) y3 ∧ ((0 ≤ a1.1 ∧ a1.1 < (List.length a1.2.1 : Int)) ∧ (again2 (w64 (a1.1 + (1 : Int)), (a1.2.1.set (Int.toNat a1.1) (y3.1, (y3.2.1, y3.2.2)), ())))))) (K (a1.2.1, ()))) ((0 : Int), (List.replicate (Int.toNat (List.length x0 : Int)) (([] : List (Int × (List Int) × Unit)), (([] : List (Int × (List Int) × Unit)), (false, ((0 : Int), ((0 : Int), ()))))), ())))
theorem V35 (x0 : List ((List (Int × (List Int) × Unit)) × (List (Int × (List Int) × Unit)) × Bool × Int × Int × Unit)) (K : (List ((List (Int × (List Int) × Unit)) × (List (Int × (List Int) × Unit)) × Bool × Int × Int × Unit)) × Unit → Prop) : fnV E (fun i => look i [(0, { tmps := [(4, .int .i64)], refs := [(3, 7)], roots := [(7, false, false, h29, .own (.pr (.own (.pr .z (.pr (.own .z) .z))) (.pr (.own (.pr .z (.pr (.own .z) .z))) .z)))], ctmps := [0], croots := [] })]) (fun i => look i []) Try.f35 ⟨[.z], [(h29, .own (.pr (.own (.pr .z (.pr (.own .z) .z))) (.pr (.own (.pr .z (.pr (.own .z) .z))) .z)))], [.z]⟩ [⟨h25, .z, x0⟩] (ansK [(h29, .own (.pr (.own (.pr .z (.pr (.own .z) .z))) (.pr (.own (.pr .z (.pr (.own .z) .z))) .z)))] [(h25, .z)] K) = S35 x0 K := by kernel_rfl
theorem M35 (x0 : List ((List (Int × (List Int) × Unit)) × (List (Int × (List Int) × Unit)) × Bool × Int × Int × Unit)) (y0 : List ((List (Int × (List Int) × Unit)) × (List (Int × (List Int) × Unit)) × Bool × Int × Int × Unit)) (h : S35 x0 fun r => r = (y0, ())) : G35 x0 y0 := fn_gives (l := [(h29, .own (.pr (.own (.pr .z (.pr (.own .z) .z))) (.pr (.own (.pr .z (.pr (.own .z) .z))) .z)))]) (m := [(h25, .z)]) (val := (y0, ())) types_ok (fun _ _ _ _ h => h) mixed Try.func35 (by kernel_rfl) (by rfl) (by rfl) (by rfl) (Eq.mpr (V35 x0 _) h)
/-- spec.l9Copy -/
def S65 (x0 : (List (Int × (List Int) × Unit)) × (List (Int × (List Int) × Unit)) × Bool × Int × Int × Unit) (K : ((List (Int × (List Int) × Unit)) × (List (Int × (List Int) × Unit)) × Bool × Int × Int × Unit) × Unit → Prop) : Prop :=
  LoopP (fun (again2 : Int × ((List (Int × (List Int) × Unit)) × (List (Int × (List Int) × Unit)) × Bool × Int × Int × Unit) × Unit → Prop) (a1 : Int × ((List (Int × (List Int) × Unit)) × (List (Int × (List Int) × Unit)) × Bool × Int × Int × Unit) × Unit) => bcase (decide (a1.1 < (List.length x0.1 : Int))) ((0 ≤ a1.1 ∧ a1.1 < (List.length x0.1 : Int)) ∧ ((0 ≤ a1.1 ∧ a1.1 < (List.length x0.1 : Int)) ∧ (([] : List Int).length + (((x0.1.getD (Int.toNat a1.1) ((0 : Int), (([] : List Int), ()))).2).1).length ≤ maxL ∧ (a1.2.1.1.length + ([((x0.1.getD (Int.toNat a1.1) ((0 : Int), (([] : List Int), ()))).1, (([] : List Int) ++ (((x0.1.getD (Int.toNat a1.1) ((0 : Int), (([] : List Int), ()))).2).1), ()))] : List (Int × (List Int) × Unit)).length ≤ maxL ∧ (let z3 : List (Int × (List Int) × Unit) := a1.2.1.1 ++ ([((x0.1.getD (Int.toNat a1.1) ((0 : Int), (([] : List Int), ()))).1, (([] : List Int) ++ (((x0.1.getD (Int.toNat a1.1) ((0 : Int), (([] : List Int), ()))).2).1), ()))] : List (Int × (List Int) × Unit)); again2 (w64 (a1.1 + (1 : Int)), ((a1.2.1.1 ++ ([((x0.1.getD (Int.toNat a1.1) ((0 : Int), (([] : List Int), ()))).1, (([] : List Int) ++ (((x0.1.getD (Int.toNat a1.1) ((0 : Int), (([] : List Int), ()))).2).1), ()))] : List (Int × (List Int) × Unit)), a1.2.1.2), ()))))))) (LoopP (fun (again5 : Int × ((List (Int × (List Int) × Unit)) × (List (Int × (List Int) × Unit)) × Bool × Int × Int × Unit) × Unit → Prop) (a4 : Int × ((List (Int × (List Int) × Unit)) × (List (Int × (List Int) × Unit)) × Bool × Int × Int × Unit) × Unit) => bcase (decide (a4.1 < (List.length x0.2.1 : Int))) ((0 ≤ a4.1 ∧ a4.1 < (List.length x0.2.1 : Int)) ∧ ((0 ≤ a4.1 ∧ a4.1 < (List.length x0.2.1 : Int)) ∧ (([] : List Int).length + (((x0.2.1.getD (Int.toNat a4.1) ((0 : Int), (([] : List Int), ()))).2).1).length ≤ maxL ∧ (a4.2.1.2.1.length + ([((x0.2.1.getD (Int.toNat a4.1) ((0 : Int), (([] : List Int), ()))).1, (([] : List Int) ++ (((x0.2.1.getD (Int.toNat a4.1) ((0 : Int), (([] : List Int), ()))).2).1), ()))] : List (Int × (List Int) × Unit)).length ≤ maxL ∧ (let z6 : List (Int × (List Int) × Unit) := a4.2.1.2.1 ++ ([((x0.2.1.getD (Int.toNat a4.1) ((0 : Int), (([] : List Int), ()))).1, (([] : List Int) ++ (((x0.2.1.getD (Int.toNat a4.1) ((0 : Int), (([] : List Int), ()))).2).1), ()))] : List (Int × (List Int) × Unit)); again5 (w64 (a4.1 + (1 : Int)), ((a4.2.1.1, (a4.2.1.2.1 ++ ([((x0.2.1.getD (Int.toNat a4.1) ((0 : Int), (([] : List Int), ()))).1, (([] : List Int) ++ (((x0.2.1.getD (Int.toNat a4.1) ((0 : Int), (([] : List Int), ()))).2).1), ()))] : List (Int × (List Int) × Unit)), a4.2.1.2.2)), ()))))))) (K ((a4.2.1.1, (a4.2.1.2.1, a4.2.1.2.2)), ()))) ((0 : Int), (a1.2.1, ())))) ((0 : Int), ((([] : List (Int × (List Int) × Unit)), (([] : List (Int × (List Int) × Unit)), (x0.2.2.1, (x0.2.2.2.1, (x0.2.2.2.2.1, ()))))), ()))
theorem V65 (x0 : (List (Int × (List Int) × Unit)) × (List (Int × (List Int) × Unit)) × Bool × Int × Int × Unit) (K : ((List (Int × (List Int) × Unit)) × (List (Int × (List Int) × Unit)) × Bool × Int × Int × Unit) × Unit → Prop) : fnV E (fun i => look i [(2, { tmps := [(5, .int .i64)], refs := [], roots := [(3, true, false, h28, .pr (.own (.pr .z (.pr (.own .z) .z))) (.pr (.own (.pr .z (.pr (.own .z) .z))) .z))], ctmps := [1, 2, 3], croots := [1, 2] }), (0, { tmps := [(4, .int .i64)], refs := [], roots := [(3, true, false, h28, .pr (.own (.pr .z (.pr (.own .z) .z))) (.pr (.own (.pr .z (.pr (.own .z) .z))) .z))], ctmps := [1, 2, 3], croots := [1, 2] })]) (fun i => look i [(5, (.op 0 (.op 2 (.op 4 (.op 9 (.op 11 (.chk [3] (.mem 1 (.mem 3 (.op 5 (.op 6 (.mem 7 (.mem 10 (.op 12 (.op 13 (.mem 14 (.op 8 (.op 15 (.op 16 (.op 17 .nil))))))))))))) (.op 18 (.op 19 (.op 20 .nil)))))))))), (9, (.op 0 (.op 2 (.op 4 (.op 9 (.op 11 (.chk [3] (.mem 1 (.mem 3 (.op 5 (.op 6 (.mem 7 (.mem 10 (.op 12 (.op 13 (.mem 14 (.op 8 (.op 15 (.op 16 (.op 17 .nil))))))))))))) (.op 18 (.op 19 (.op 20 .nil))))))))))]) Try.f65 ⟨[.z], [(h28, .pr (.own (.pr .z (.pr (.own .z) .z))) (.pr (.own (.pr .z (.pr (.own .z) .z))) .z))], [.z]⟩ [⟨h28, .z, x0⟩] (ansK [(h28, .pr (.own (.pr .z (.pr (.own .z) .z))) (.pr (.own (.pr .z (.pr (.own .z) .z))) .z))] [(h28, .z)] K) = S65 x0 K := by kernel_rfl
theorem M65 (x0 : (List (Int × (List Int) × Unit)) × (List (Int × (List Int) × Unit)) × Bool × Int × Int × Unit) (y0 : (List (Int × (List Int) × Unit)) × (List (Int × (List Int) × Unit)) × Bool × Int × Int × Unit) (h : S65 x0 fun r => r = (y0, ())) : G65 x0 y0 := fn_gives (l := [(h28, .pr (.own (.pr .z (.pr (.own .z) .z))) (.pr (.own (.pr .z (.pr (.own .z) .z))) .z))]) (m := [(h28, .z)]) (val := (y0, ())) types_ok (fun _ _ _ _ h => h) mixed Try.func65 (by kernel_rfl) (by rfl) (by rfl) (by rfl) (Eq.mpr (V65 x0 _) h)
/-- spec.EqualityDependencies -/
def S34 (x0 : List ((List (Int × (List Int) × Unit)) × (List (Int × (List Int) × Unit)) × Bool × Int × Int × Unit)) (K : (List ((List (Int × (List Int) × Unit)) × (List (Int × (List Int) × Unit)) × Bool × Int × Int × Unit)) × Unit → Prop) : Prop :=
  LoopP (fun (again2 : Int × (List ((List (Int × (List Int) × Unit)) × (List (Int × (List Int) × Unit)) × Bool × Int × Int × Unit)) × Unit → Prop) (a1 : Int × (List ((List (Int × (List Int) × Unit)) × (List (Int × (List Int) × Unit)) × Bool × Int × Int × Unit)) × Unit) => bcase (decide (a1.1 < (List.length x0 : Int))) ((0 ≤ a1.1 ∧ a1.1 < (List.length x0 : Int)) ∧ (bcase ((((x0.getD (Int.toNat a1.1) (([] : List (Int × (List Int) × Unit)), (([] : List (Int × (List Int) × Unit)), (false, ((0 : Int), ((0 : Int), ())))))).2).2).1) ((0 ≤ a1.1 ∧ a1.1 < (List.length x0 : Int)) ∧ (∃ y3 : (List (Int × (List Int) × Unit)) × (List (Int × (List Int) × Unit)) × Bool × Int × Int × Unit, G65 (x0.getD (Int.toNat a1.1) (([] : List (Int × (List Int) × Unit)), (([] : List (Int × (List Int) × Unit)), (false, ((0 : Int), ((0 : Int), ())))))) y3 ∧ (a1.2.1.length + ([(y3.1, (y3.2.1, y3.2.2))] : List ((List (Int × (List Int) × Unit)) × (List (Int × (List Int) × Unit)) × Bool × Int × Int × Unit)).length ≤ maxL ∧ (again2 (w64 (a1.1 + (1 : Int)), (a1.2.1 ++ ([(y3.1, (y3.2.1, y3.2.2))] : List ((List (Int × (List Int) × Unit)) × (List (Int × (List Int) × Unit)) × Bool × Int × Int × Unit)), ())))))) (again2 (w64 (a1.1 + (1 : Int)), (a1.2.1, ()))))) (K (a1.2.1, ()))) ((0 : Int), (([] : List ((List (Int × (List Int) × Unit)) × (List (Int × (List Int) × Unit)) × Bool × Int × Int × Unit)), ()))
theorem V34 (x0 : List ((List (Int × (List Int) × Unit)) × (List (Int × (List Int) × Unit)) × Bool × Int × Int × Unit)) (K : (List ((List (Int × (List Int) × Unit)) × (List (Int × (List Int) × Unit)) × Bool × Int × Int × Unit)) × Unit → Prop) : fnV E (fun i => look i [(0, { tmps := [(4, .int .i64)], refs := [(3, 3)], roots := [(3, false, false, h29, .own (.pr (.own (.pr .z (.pr (.own .z) .z))) (.pr (.own (.pr .z (.pr (.own .z) .z))) .z)))], ctmps := [0], croots := [] })]) (fun i => look i []) Try.f34 ⟨[.z], [(h29, .own (.pr (.own (.pr .z (.pr (.own .z) .z))) (.pr (.own (.pr .z (.pr (.own .z) .z))) .z)))], [.z]⟩ [⟨h29, .z, x0⟩] (ansK [(h29, .own (.pr (.own (.pr .z (.pr (.own .z) .z))) (.pr (.own (.pr .z (.pr (.own .z) .z))) .z)))] [(h29, .z)] K) = S34 x0 K := by kernel_rfl
theorem M34 (x0 : List ((List (Int × (List Int) × Unit)) × (List (Int × (List Int) × Unit)) × Bool × Int × Int × Unit)) (y0 : List ((List (Int × (List Int) × Unit)) × (List (Int × (List Int) × Unit)) × Bool × Int × Int × Unit)) (h : S34 x0 fun r => r = (y0, ())) : G34 x0 y0 := fn_gives (l := [(h29, .own (.pr (.own (.pr .z (.pr (.own .z) .z))) (.pr (.own (.pr .z (.pr (.own .z) .z))) .z)))]) (m := [(h29, .z)]) (val := (y0, ())) types_ok (fun _ _ _ _ h => h) mixed Try.func34 (by kernel_rfl) (by rfl) (by rfl) (by rfl) (Eq.mpr (V34 x0 _) h)
/-- slices.Clone[[]int,int] -/
def S84 (x0 : List Int) (K : (List Int) × Unit → Prop) : Prop :=
  bcase (List.isEmpty x0) ((K (([] : List Int), ())) ∧ (([] : List Int).length + x0.length ≤ maxL ∧ (K (([] : List Int) ++ x0, ())))) (([] : List Int).length + x0.length ≤ maxL ∧ (K (([] : List Int) ++ x0, ())))
theorem V84 (x0 : List Int) (K : (List Int) × Unit → Prop) : fnV E (fun i => look i []) (fun i => look i []) Try.f84 ⟨[.z], [(.sl 3 (.int .i64), .own .z)], [.z]⟩ [⟨.sl 3 (.int .i64), .z, x0⟩] (ansK [(.sl 3 (.int .i64), .own .z)] [(.sl 3 (.int .i64), .z)] K) = S84 x0 K := by kernel_rfl
theorem M84 (x0 : List Int) (y0 : List Int) (h : S84 x0 fun r => r = (y0, ())) : G84 x0 y0 := fn_gives (l := [(.sl 3 (.int .i64), .own .z)]) (m := [(.sl 3 (.int .i64), .z)]) (val := (y0, ())) types_ok (fun _ _ _ _ h => h) mixed Try.func84 (by kernel_rfl) (by rfl) (by rfl) (by rfl) (Eq.mpr (V84 x0 _) h)
/-- impl.dependencyCopy$1 -/
def S83 (x0 : List (Int × (List Int) × Unit)) (K : (List (Int × (List Int) × Unit)) × Unit → Prop) : Prop :=
  LoopP (fun (again2 : Int × (List (Int × (List Int) × Unit)) × Unit → Prop) (a1 : Int × (List (Int × (List Int) × Unit)) × Unit) => bcase (decide (a1.1 < (List.length x0 : Int))) ((0 ≤ a1.1 ∧ a1.1 < (List.length x0 : Int)) ∧ (∃ y3 : List Int, G84 (((x0.getD (Int.toNat a1.1) ((0 : Int), (([] : List Int), ()))).2).1) y3 ∧ (a1.2.1.length + ([((x0.getD (Int.toNat a1.1) ((0 : Int), (([] : List Int), ()))).1, (y3, ()))] : List (Int × (List Int) × Unit)).length ≤ maxL ∧ (again2 (w64 (a1.1 + (1 : Int)), (a1.2.1 ++ ([((x0.getD (Int.toNat a1.1) ((0 : Int), (([] : List Int), ()))).1, (y3, ()))] : List (Int × (List Int) × Unit)), ())))))) (K (a1.2.1, ()))) ((0 : Int), (([] : List (Int × (List Int) × Unit)), ()))
theorem V83 (x0 : List (Int × (List Int) × Unit)) (K : (List (Int × (List Int) × Unit)) × Unit → Prop) : fnV E (fun i => look i [(0, { tmps := [(9, .int .i64)], refs := [(3, 3)], roots := [(3, false, false, h26, .own (.pr .z (.pr (.own .z) .z)))], ctmps := [7, 8], croots := [] })]) (fun i => look i [(5, (.op 0 (.op 1 (.op 3 (.chk [5] (.mem 2 (.op 4 (.op 5 .nil))) (.op 6 (.op 7 (.op 8 (.op 9 .nil)))))))))]) Try.f83 ⟨[.z], [(h26, .own (.pr .z (.pr (.own .z) .z)))], [.z]⟩ [⟨h26, .z, x0⟩] (ansK [(h26, .own (.pr .z (.pr (.own .z) .z)))] [(h26, .z)] K) = S83 x0 K := by kernel_rfl
theorem M83 (x0 : List (Int × (List Int) × Unit)) (y0 : List (Int × (List Int) × Unit)) (h : S83 x0 fun r => r = (y0, ())) : G83 x0 y0 := fn_gives (l := [(h26, .own (.pr .z (.pr (.own .z) .z)))]) (m := [(h26, .z)]) (val := (y0, ())) types_ok (fun _ _ _ _ h => h) mixed Try.func83 (by kernel_rfl) (by rfl) (by rfl) (by rfl) (Eq.mpr (V83 x0 _) h)
/-- impl.dependencyCopy -/
def S66 (x0 : (List (Int × (List Int) × Unit)) × (List (Int × (List Int) × Unit)) × Bool × Int × Int × Unit) (K : ((List (Int × (List Int) × Unit)) × (List (Int × (List Int) × Unit)) × Bool × Int × Int × Unit) × Unit → Prop) : Prop :=
  ∃ y1 : List (Int × (List Int) × Unit), G83 x0.1 y1 ∧ (∃ y2 : List (Int × (List Int) × Unit), G83 x0.2.1 y2 ∧ (K ((y1, (y2, x0.2.2)), ())))
theorem V66 (x0 : (List (Int × (List Int) × Unit)) × (List (Int × (List Int) × Unit)) × Bool × Int × Int × Unit) (K : ((List (Int × (List Int) × Unit)) × (List (Int × (List Int) × Unit)) × Bool × Int × Int × Unit) × Unit → Prop) : fnV E (fun i => look i []) (fun i => look i [(2, (.op 0 (.op 1 (.op 4 (.op 5 (.chk [1] (.mem 6 (.op 2 (.op 3 .nil))) (.op 8 (.op 7 (.op 9 (.op 10 (.op 11 .nil)))))))))))]) Try.f66 ⟨[.z], [(h28, .pr (.own (.pr .z (.pr (.own .z) .z))) (.pr (.own (.pr .z (.pr (.own .z) .z))) .z))], [.z]⟩ [⟨h28, .z, x0⟩] (ansK [(h28, .pr (.own (.pr .z (.pr (.own .z) .z))) (.pr (.own (.pr .z (.pr (.own .z) .z))) .z))] [(h28, .z)] K) = S66 x0 K := by kernel_rfl
theorem M66 (x0 : (List (Int × (List Int) × Unit)) × (List (Int × (List Int) × Unit)) × Bool × Int × Int × Unit) (y0 : (List (Int × (List Int) × Unit)) × (List (Int × (List Int) × Unit)) × Bool × Int × Int × Unit) (h : S66 x0 fun r => r = (y0, ())) : G66 x0 y0 := fn_gives (l := [(h28, .pr (.own (.pr .z (.pr (.own .z) .z))) (.pr (.own (.pr .z (.pr (.own .z) .z))) .z))]) (m := [(h28, .z)]) (val := (y0, ())) types_ok (fun _ _ _ _ h => h) mixed Try.func66 (by kernel_rfl) (by rfl) (by rfl) (by rfl) (Eq.mpr (V66 x0 _) h)
/-- impl.EqualityDependencies -/
def S36 (x0 : List ((List (Int × (List Int) × Unit)) × (List (Int × (List Int) × Unit)) × Bool × Int × Int × Unit)) (K : (List ((List (Int × (List Int) × Unit)) × (List (Int × (List Int) × Unit)) × Bool × Int × Int × Unit)) × Unit → Prop) : Prop :=
  LoopP (fun (again2 : Int × (List ((List (Int × (List Int) × Unit)) × (List (Int × (List Int) × Unit)) × Bool × Int × Int × Unit)) × Unit → Prop) (a1 : Int × (List ((List (Int × (List Int) × Unit)) × (List (Int × (List Int) × Unit)) × Bool × Int × Int × Unit)) × Unit) => bcase (decide (a1.1 < (List.length x0 : Int))) ((0 ≤ a1.1 ∧ a1.1 < (List.length x0 : Int)) ∧ (let z3 : (List (Int × (List Int) × Unit)) × (List (Int × (List Int) × Unit)) × Bool × Int × Int × Unit := x0.getD (Int.toNat a1.1) (([] : List (Int × (List Int) × Unit)), (([] : List (Int × (List Int) × Unit)), (false, ((0 : Int), ((0 : Int), ()))))); bcase z3.2.2.1 (∃ y4 : (List (Int × (List Int) × Unit)) × (List (Int × (List Int) × Unit)) × Bool × Int × Int × Unit, G66 z3 y4 ∧ (a1.2.1.length + ([(y4.1, (y4.2.1, y4.2.2))] : List ((List (Int × (List Int) × Unit)) × (List (Int × (List Int) × Unit)) × Bool × Int × Int × Unit)).length ≤ maxL ∧ (again2 (w64 (a1.1 + (1 : Int)), (a1.2.1 ++ ([(y4.1, (y4.2.1, y4.2.2))] : List ((List (Int × (List Int) × Unit)) × (List (Int × (List Int) × Unit)) × Bool × Int × Int × Unit)), ()))))) (again2 (w64 (a1.1 + (1 : Int)), (a1.2.1, ()))))) (K (a1.2.1, ()))) ((0 : Int), (([] : List ((List (Int × (List Int) × Unit)) × (List (Int × (List Int) × Unit)) × Bool × Int × Int × Unit)), ()))
theorem V36 (x0 : List ((List (Int × (List Int) × Unit)) × (List (Int × (List Int) × Unit)) × Bool × Int × Int × Unit)) (K : (List ((List (Int × (List Int) × Unit)) × (List (Int × (List Int) × Unit)) × Bool × Int × Int × Unit)) × Unit → Prop) : fnV E (fun i => look i [(0, { tmps := [(9, .int .i64)], refs := [(3, 3)], roots := [(3, false, false, h29, .own (.pr (.own (.pr .z (.pr (.own .z) .z))) (.pr (.own (.pr .z (.pr (.own .z) .z))) .z)))], ctmps := [7, 8], croots := [] })]) (fun i => look i []) Try.f36 ⟨[.z], [(h29, .own (.pr (.own (.pr .z (.pr (.own .z) .z))) (.pr (.own (.pr .z (.pr (.own .z) .z))) .z)))], [.z]⟩ [⟨h29, .z, x0⟩] (ansK [(h29, .own (.pr (.own (.pr .z (.pr (.own .z) .z))) (.pr (.own (.pr .z (.pr (.own .z) .z))) .z)))] [(h29, .z)] K) = S36 x0 K := by kernel_rfl
theorem M36 (x0 : List ((List (Int × (List Int) × Unit)) × (List (Int × (List Int) × Unit)) × Bool × Int × Int × Unit)) (y0 : List ((List (Int × (List Int) × Unit)) × (List (Int × (List Int) × Unit)) × Bool × Int × Int × Unit)) (h : S36 x0 fun r => r = (y0, ())) : G36 x0 y0 := fn_gives (l := [(h29, .own (.pr (.own (.pr .z (.pr (.own .z) .z))) (.pr (.own (.pr .z (.pr (.own .z) .z))) .z)))]) (m := [(h29, .z)]) (val := (y0, ())) types_ok (fun _ _ _ _ h => h) mixed Try.func36 (by kernel_rfl) (by rfl) (by rfl) (by rfl) (Eq.mpr (V36 x0 _) h)
/-- laws.eqAtomS -/
def S73 (x0 : List (Int × (List Int) × Unit)) (x1 : List (Int × (List Int) × Unit)) (K : Bool × Unit → Prop) : Prop :=
  bcase ((List.length x0 : Int) != (List.length x1 : Int)) (K (false, ())) (LoopP (fun (again2 : Int × Unit → Prop) (a1 : Int × Unit) => bcase (decide (a1.1 < (List.length x0 : Int))) ((0 ≤ a1.1 ∧ a1.1 < (List.length x0 : Int)) ∧ ((0 ≤ a1.1 ∧ a1.1 < (List.length x1 : Int)) ∧ (∃ y3 : Bool, G21 (x0.getD (Int.toNat a1.1) ((0 : Int), (([] : List Int), ()))) (x1.getD (Int.toNat a1.1) ((0 : Int), (([] : List Int), ()))) y3 ∧ (bcase (!y3) (K (false, ())) (again2 (w64 (a1.1 + (1 : Int)), ())))))) (K (true, ()))) ((0 : Int), ()))
theorem V73 (x0 : List (Int × (List Int) × Unit)) (x1 : List (Int × (List Int) × Unit)) (K : Bool × Unit → Prop) : fnV E (fun i => look i [(0, { tmps := [(5, .int .i64)], refs := [], roots := [], ctmps := [0, 1], croots := [] })]) (fun i => look i [(6, (.op 0 (.op 1 (.op 2 (.op 4 (.op 5 (.op 6 (.chk [] (.mem 3 (.mem 7 .nil)) (.op 8 (.op 9 .nil))))))))))]) Try.f73 ⟨[.z, .z], [(.bool, .z)], [.z, .z]⟩ [⟨h26, .z, x0⟩, ⟨h26, .z, x1⟩] (ansK [(.bool, .z)] [(h26, .z), (h26, .z)] K) = S73 x0 x1 K := by kernel_rfl
theorem M73 (x0 : List (Int × (List Int) × Unit)) (x1 : List (Int × (List Int) × Unit)) (y0 : Bool) (h : S73 x0 x1 fun r => r = (y0, ())) : G73 x0 x1 y0 := fn_gives (l := [(.bool, .z)]) (m := [(h26, .z), (h26, .z)]) (val := (y0, ())) types_ok (fun _ _ _ _ h => h) mixed Try.func73 (by kernel_rfl) (by rfl) (by rfl) (by rfl) (Eq.mpr (V73 x0 x1 _) h)
/-- laws.eqDependency -/
def S44 (x0 : (List (Int × (List Int) × Unit)) × (List (Int × (List Int) × Unit)) × Bool × Int × Int × Unit) (x1 : (List (Int × (List Int) × Unit)) × (List (Int × (List Int) × Unit)) × Bool × Int × Int × Unit) (K : Bool × Unit → Prop) : Prop :=
  ∃ y1 : Bool, G73 x0.1 x1.1 y1 ∧ (bcase (!y1) (K (false, ())) (∃ y2 : Bool, G73 x0.2.1 x1.2.1 y2 ∧ (bcase (!y2) (K (false, ())) (bcase (!(x0.2.2.1 == x1.2.2.1)) (K (false, ())) (bcase (x0.2.2.2.1 != x1.2.2.2.1) (K (false, ())) (bcase (x0.2.2.2.2.1 != x1.2.2.2.2.1) (K (false, ())) (K (true, ()))))))))
theorem V44 (x0 : (List (Int × (List Int) × Unit)) × (List (Int × (List Int) × Unit)) × Bool × Int × Int × Unit) (x1 : (List (Int × (List Int) × Unit)) × (List (Int × (List Int) × Unit)) × Bool × Int × Int × Unit) (K : Bool × Unit → Prop) : fnV E (fun i => look i []) (fun i => look i []) Try.f44 ⟨[.z, .z], [(.bool, .z)], [.z, .z]⟩ [⟨h28, .z, x0⟩, ⟨h28, .z, x1⟩] (ansK [(.bool, .z)] [(h28, .z), (h28, .z)] K) = S44 x0 x1 K := by kernel_rfl
theorem M44 (x0 : (List (Int × (List Int) × Unit)) × (List (Int × (List Int) × Unit)) × Bool × Int × Int × Unit) (x1 : (List (Int × (List Int) × Unit)) × (List (Int × (List Int) × Unit)) × Bool × Int × Int × Unit) (y0 : Bool) (h : S44 x0 x1 fun r => r = (y0, ())) : G44 x0 x1 y0 := fn_gives (l := [(.bool, .z)]) (m := [(h28, .z), (h28, .z)]) (val := (y0, ())) types_ok (fun _ _ _ _ h => h) mixed Try.func44 (by kernel_rfl) (by rfl) (by rfl) (by rfl) (Eq.mpr (V44 x0 x1 _) h)
/-- laws.eqDependencyS -/
def S37 (x0 : List ((List (Int × (List Int) × Unit)) × (List (Int × (List Int) × Unit)) × Bool × Int × Int × Unit)) (x1 : List ((List (Int × (List Int) × Unit)) × (List (Int × (List Int) × Unit)) × Bool × Int × Int × Unit)) (K : Bool × Unit → Prop) : Prop :=
  bcase ((List.length x0 : Int) != (List.length x1 : Int)) (K (false, ())) (LoopP (fun (again2 : Int × Unit → Prop) (a1 : Int × Unit) => bcase (decide (a1.1 < (List.length x0 : Int))) ((0 ≤ a1.1 ∧ a1.1 < (List.length x0 : Int)) ∧ ((0 ≤ a1.1 ∧ a1.1 < (List.length x1 : Int)) ∧ (∃ y3 : Bool, G44 (x0.getD (Int.toNat a1.1) (([] : List (Int × (List Int) × Unit)), (([] : List (Int × (List Int) × Unit)), (false, ((0 : Int), ((0 : Int), ())))))) (x1.getD (Int.toNat a1.1) (([] : List (Int × (List Int) × Unit)), (([] : List (Int × (List Int) × Unit)), (false, ((0 : Int), ((0 : Int), ())))))) y3 ∧ (bcase (!y3) (K (false, ())) (again2 (w64 (a1.1 + (1 : Int)), ())))))) (K (true, ()))) ((0 : Int), ()))
theorem V37 (x0 : List ((List (Int × (List Int) × Unit)) × (List (Int × (List Int) × Unit)) × Bool × Int × Int × Unit)) (x1 : List ((List (Int × (List Int) × Unit)) × (List (Int × (List Int) × Unit)) × Bool × Int × Int × Unit)) (K : Bool × Unit → Prop) : fnV E (fun i => look i [(0, { tmps := [(5, .int .i64)], refs := [], roots := [], ctmps := [0, 1], croots := [] })]) (fun i => look i [(6, (.op 0 (.op 1 (.op 2 (.op 4 (.op 5 (.op 6 (.chk [] (.mem 3 (.mem 7 .nil)) (.op 8 (.op 9 .nil))))))))))]) Try.f37 ⟨[.z, .z], [(.bool, .z)], [.z, .z]⟩ [⟨h29, .z, x0⟩, ⟨h29, .z, x1⟩] (ansK [(.bool, .z)] [(h29, .z), (h29, .z)] K) = S37 x0 x1 K := by kernel_rfl
theorem M37 (x0 : List ((List (Int × (List Int) × Unit)) × (List (Int × (List Int) × Unit)) × Bool × Int × Int × Unit)) (x1 : List ((List (Int × (List Int) × Unit)) × (List (Int × (List Int) × Unit)) × Bool × Int × Int × Unit)) (y0 : Bool) (h : S37 x0 x1 fun r => r = (y0, ())) : G37 x0 x1 y0 := fn_gives (l := [(.bool, .z)]) (m := [(h29, .z), (h29, .z)]) (val := (y0, ())) types_ok (fun _ _ _ _ h => h) mixed Try.func37 (by kernel_rfl) (by rfl) (by rfl) (by rfl) (Eq.mpr (V37 x0 x1 _) h)
/-- laws.markAtomS -/
def S67oownprzprownzz (x0 : List (Int × (List Int) × Unit)) (x1 : Int) (K : Int × (List (Int × (List Int) × Unit)) × Unit → Prop) : Prop :=
  LoopP (fun (again2 : Int × Int × (List (Int × (List Int) × Unit)) × Unit → Prop) (a1 : Int × Int × (List (Int × (List Int) × Unit)) × Unit) => bcase (decide (a1.2.1 < (List.length a1.2.2.1 : Int))) ((0 ≤ a1.2.1 ∧ a1.2.1 < (List.length a1.2.2.1 : Int)) ∧ (let z3 : List (Int × (List Int) × Unit) := a1.2.2.1.set (Int.toNat a1.2.1) (a1.1, (a1.2.2.1.getD (Int.toNat a1.2.1) ((0 : Int), (([] : List Int), ()))).2); (0 ≤ a1.2.1 ∧ a1.2.1 < (List.length z3 : Int)) ∧ (∃ y4 : Int, ∃ y5 : List Int, G23oownz (((z3.getD (Int.toNat a1.2.1) ((0 : Int), (([] : List Int), ()))).2).1) (w64 (a1.1 + (1 : Int))) y4 y5 ∧ (again2 (y4, (w64 (a1.2.1 + (1 : Int)), (z3.set (Int.toNat a1.2.1) ((z3.getD (Int.toNat a1.2.1) ((0 : Int), (([] : List Int), ()))).1, (y5, ((z3.getD (Int.toNat a1.2.1) ((0 : Int), (([] : List Int), ()))).2).2)), ()))))))) (K (a1.1, (a1.2.2.1, ())))) (x1, ((0 : Int), (x0, ())))
theorem V67oownprzprownzz (x0 : List (Int × (List Int) × Unit)) (x1 : Int) (K : Int × (List (Int × (List Int) × Unit)) × Unit → Prop) : fnV E (fun i => look i [(0, { tmps := [(1, .int .i64), (5, .int .i64)], refs := [(0, 0)], roots := [(0, false, true, h26, .own (.pr .z (.pr (.own .z) .z)))], ctmps := [], croots := [] })]) (fun i => look i []) Try.f67 ⟨[.own (.pr .z (.pr (.own .z) .z)), .z], [(.int .i64, .z)], [.own (.pr .z (.pr (.own .z) .z)), .z]⟩ [⟨h26, .own (.pr .z (.pr (.own .z) .z)), x0⟩, ⟨.int .i64, .z, x1⟩] (ansK [(.int .i64, .z)] [(h26, .own (.pr .z (.pr (.own .z) .z))), (.int .i64, .z)] K) = S67oownprzprownzz x0 x1 K := by kernel_rfl
theorem M67oownprzprownzz (x0 : List (Int × (List Int) × Unit)) (x1 : Int) (y0 : Int) (z0 : List (Int × (List Int) × Unit)) (h : S67oownprzprownzz x0 x1 fun r => r = (y0, (z0, ()))) : G67oownprzprownzz x0 x1 y0 z0 := fn_gives (l := [(.int .i64, .z)]) (m := [(h26, .own (.pr .z (.pr (.own .z) .z))), (.int .i64, .z)]) (val := (y0, (z0, ()))) types_ok (fun _ _ _ _ h => h) mixed Try.func67 (by kernel_rfl) (by rfl) (by rfl) (by rfl) (Eq.mpr (V67oownprzprownzz x0 x1 _) h)
/-- laws.markDependencyS -/
def S38oownprownprzprownzzprownprzprownzzz (x0 : List ((List (Int × (List Int) × Unit)) × (List (Int × (List Int) × Unit)) × Bool × Int × Int × Unit)) (x1 : Int) (K : Int × (List ((List (Int × (List Int) × Unit)) × (List (Int × (List Int) × Unit)) × Bool × Int × Int × Unit)) × Unit → Prop) : Prop :=
  LoopP (fun (again2 : Int × Int × (List ((List (Int × (List Int) × Unit)) × (List (Int × (List Int) × Unit)) × Bool × Int × Int × Unit)) × Unit → Prop) (a1 : Int × Int × (List ((List (Int × (List Int) × Unit)) × (List (Int × (List Int) × Unit)) × Bool × Int × Int × Unit)) × Unit) => bcase (decide (a1.2.1 < (List.length a1.2.2.1 : Int))) ((0 ≤ a1.2.1 ∧ a1.2.1 < (List.length a1.2.2.1 : Int)) ∧ (∃ y3 : Int, ∃ y4 : List (Int × (List Int) × Unit), G67oownprzprownzz ((a1.2.2.1.getD (Int.toNat a1.2.1) (([] : List (Int × (List Int) × Unit)), (([] : List (Int × (List Int) × Unit)), (false, ((0 : Int), ((0 : Int), ())))))).1) a1.1 y3 y4 ∧ ((0 ≤ a1.2.1 ∧ a1.2.1 < (List.length (a1.2.2.1.set (Int.toNat a1.2.1) (y4, (a1.2.2.1.getD (Int.toNat a1.2.1) (([] : List (Int × (List Int) × Unit)), (([] : List (Int × (List Int) × Unit)), (false, ((0 : Int), ((0 : Int), ())))))).2)) : Int)) ∧ (∃ y5 : Int, ∃ y6 : List (Int × (List Int) × Unit), G67oownprzprownzz ((((a1.2.2.1.set (Int.toNat a1.2.1) (y4, (a1.2.2.1.getD (Int.toNat a1.2.1) (([] : List (Int × (List Int) × Unit)), (([] : List (Int × (List Int) × Unit)), (false, ((0 : Int), ((0 : Int), ())))))).2)).getD (Int.toNat a1.2.1) (([] : List (Int × (List Int) × Unit)), (([] : List (Int × (List Int) × Unit)), (false, ((0 : Int), ((0 : Int), ())))))).2).1) y3 y5 y6 ∧ ((3 : Int) ≠ 0 ∧ ((0 ≤ a1.2.1 ∧ a1.2.1 < (List.length ((a1.2.2.1.set (Int.toNat a1.2.1) (y4, (a1.2.2.1.getD (Int.toNat a1.2.1) (([] : List (Int × (List Int) × Unit)), (([] : List (Int × (List Int) × Unit)), (false, ((0 : Int), ((0 : Int), ())))))).2)).set (Int.toNat a1.2.1) (((a1.2.2.1.set (Int.toNat a1.2.1) (y4, (a1.2.2.1.getD (Int.toNat a1.2.1) (([] : List (Int × (List Int) × Unit)), (([] : List (Int × (List Int) × Unit)), (false, ((0 : Int), ((0 : Int), ())))))).2)).getD (Int.toNat a1.2.1) (([] : List (Int × (List Int) × Unit)), (([] : List (Int × (List Int) × Unit)), (false, ((0 : Int), ((0 : Int), ())))))).1, (y6, (((a1.2.2.1.set (Int.toNat a1.2.1) (y4, (a1.2.2.1.getD (Int.toNat a1.2.1) (([] : List (Int × (List Int) × Unit)), (([] : List (Int × (List Int) × Unit)), (false, ((0 : Int), ((0 : Int), ())))))).2)).getD (Int.toNat a1.2.1) (([] : List (Int × (List Int) × Unit)), (([] : List (Int × (List Int) × Unit)), (false, ((0 : Int), ((0 : Int), ())))))).2).2))) : Int)) ∧ (let z7 : List ((List (Int × (List Int) × Unit)) × (List (Int × (List Int) × Unit)) × Bool × Int × Int × Unit) := ((a1.2.2.1.set (Int.toNat a1.2.1) (y4, (a1.2.2.1.getD (Int.toNat a1.2.1) (([] : List (Int × (List Int) × Unit)), (([] : List (Int × (List Int) × Unit)), (false, ((0 : Int), ((0 : Int), ())))))).2)).set (Int.toNat a1.2.1) (((a1.2.2.1.set (Int.toNat a1.2.1) (y4, (a1.2.2.1.getD (Int.toNat a1.2.1) (([] : List (Int × (List Int) × Unit)), (([] : List (Int × (List Int) × Unit)), (false, ((0 : Int), ((0 : Int), ())))))).2)).getD (Int.toNat a1.2.1) (([] : List (Int × (List Int) × Unit)), (([] : List (Int × (List Int) × Unit)), (false, ((0 : Int), ((0 : Int), ())))))).1, (y6, (((a1.2.2.1.set (Int.toNat a1.2.1) (y4, (a1.2.2.1.getD (Int.toNat a1.2.1) (([] : List (Int × (List Int) × Unit)), (([] : List (Int × (List Int) × Unit)), (false, ((0 : Int), ((0 : Int), ())))))).2)).getD (Int.toNat a1.2.1) (([] : List (Int × (List Int) × Unit)), (([] : List (Int × (List Int) × Unit)), (false, ((0 : Int), ((0 : Int), ())))))).2).2))).set (Int.toNat a1.2.1) ((((a1.2.2.1.set (Int.toNat a1.2.1) (y4, (a1.2.2.1.getD (Int.toNat a1.2.1) (([] : List (Int × (List Int) × Unit)), (([] : List (Int × (List Int) × Unit)), (false, ((0 : Int), ((0 : Int), ())))))).2)).set (Int.toNat a1.2.1) (((a1.2.2.1.set (Int.toNat a1.2.1) (y4, (a1.2.2.1.getD (Int.toNat a1.2.1) (([] : List (Int × (List Int) × Unit)), (([] : List (Int × (List Int) × Unit)), (false, ((0 : Int), ((0 : Int), ())))))).2)).getD (Int.toNat a1.2.1) (([] : List (Int × (List Int) × Unit)), (([] : List (Int × (List Int) × Unit)), (false, ((0 : Int), ((0 : Int), ())))))).1, (y6, (((a1.2.2.1.set (Int.toNat a1.2.1) (y4, (a1.2.2.1.getD (Int.toNat a1.2.1) (([] : List (Int × (List Int) × Unit)), (([] : List (Int × (List Int) × Unit)), (false, ((0 : Int), ((0 : Int), ())))))).2)).getD (Int.toNat a1.2.1) (([] : List (Int × (List Int) × Unit)), (([] : List (Int × (List Int) × Unit)), (false, ((0 : Int), ((0 : Int), ())))))).2).2))).getD (Int.toNat a1.2.1) (([] : List (Int × (List Int) × Unit)), (([] : List (Int × (List Int) × Unit)), (false, ((0 : Int), ((0 : Int), ())))))).1, (((((a1.2.2.1.set (Int.toNat a1.2.1) (y4, (a1.2.2.1.getD (Int.toNat a1.2.1) (([] : List (Int × (List Int) × Unit)), (([] : List (Int × (List Int) × Unit)), (false, ((0 : Int), ((0 : Int), ())))))).2)).set (Int.toNat a1.2.1) (((a1.2.2.1.set (Int.toNat a1.2.1) (y4, (a1.2.2.1.getD (Int.toNat a1.2.1) (([] : List (Int × (List Int) × Unit)), (([] : List (Int × (List Int) × Unit)), (false, ((0 : Int), ((0 : Int), ())))))).2)).getD (Int.toNat a1.2.1) (([] : List (Int × (List Int) × Unit)), (([] : List (Int × (List Int) × Unit)), (false, ((0 : Int), ((0 : Int), ())))))).1, (y6, (((a1.2.2.1.set (Int.toNat a1.2.1) (y4, (a1.2.2.1.getD (Int.toNat a1.2.1) (([] : List (Int × (List Int) × Unit)), (([] : List (Int × (List Int) × Unit)), (false, ((0 : Int), ((0 : Int), ())))))).2)).getD (Int.toNat a1.2.1) (([] : List (Int × (List Int) × Unit)), (([] : List (Int × (List Int) × Unit)), (false, ((0 : Int), ((0 : Int), ())))))).2).2))).getD (Int.toNat a1.2.1) (([] : List (Int × (List Int) × Unit)), (([] : List (Int × (List Int) × Unit)), (false, ((0 : Int), ((0 : Int), ())))))).2).1, ((Int.tmod y5 (3 : Int)) == (0 : Int), (((((a1.2.2.1.set (Int.toNat a1.2.1) (y4, (a1.2.2.1.getD (Int.toNat a1.2.1) (([] : List (Int × (List Int) × Unit)), (([] : List (Int × (List Int) × Unit)), (false, ((0 : Int), ((0 : Int), ())))))).2)).set (Int.toNat a1.2.1) (((a1.2.2.1.set (Int.toNat a1.2.1) (y4, (a1.2.2.1.getD (Int.toNat a1.2.1) (([] : List (Int × (List Int) × Unit)), (([] : List (Int × (List Int) × Unit)), (false, ((0 : Int), ((0 : Int), ())))))).2)).getD (Int.toNat a1.2.1) (([] : List (Int × (List Int) × Unit)), (([] : List (Int × (List Int) × Unit)), (false, ((0 : Int), ((0 : Int), ())))))).1, (y6, (((a1.2.2.1.set (Int.toNat a1.2.1) (y4, (a1.2.2.1.getD (Int.toNat a1.2.1) (([] : List (Int × (List Int) × Unit)), (([] : List (Int × (List Int) × Unit)), (false, ((0 : Int), ((0 : Int), ())))))).2)).getD (Int.toNat a1.2.1) (([] : List (Int × (List Int) × Unit)), (([] : List (Int × (List Int) × Unit)), (false, ((0 : Int), ((0 : Int), ())))))).2).2))).getD (Int.toNat a1.2.1) (([] : List (Int × (List Int) × Unit)), (([] : List (Int × (List Int) × Unit)), (false, ((0 : Int), ((0 : Int), ())))))).2).2).2))); (0 ≤ a1.2.1 ∧ a1.2.1 < (List.length z7 : Int)) ∧ (let z8 : List ((List (Int × (List Int) × Unit)) × (List (Int × (List Int) × Unit)) × Bool × Int × Int × Unit) := z7.set (Int.toNat a1.2.1) ((z7.getD (Int.toNat a1.2.1) (([] : List (Int × (List Int) × Unit)), (([] : List (Int × (List Int) × Unit)), (false, ((0 : Int), ((0 : Int), ())))))).1, (((z7.getD (Int.toNat a1.2.1) (([] : List (Int × (List Int) × Unit)), (([] : List (Int × (List Int) × Unit)), (false, ((0 : Int), ((0 : Int), ())))))).2).1, ((((z7.getD (Int.toNat a1.2.1) (([] : List (Int × (List Int) × Unit)), (([] : List (Int × (List Int) × Unit)), (false, ((0 : Int), ((0 : Int), ())))))).2).2).1, (w64 (y5 + (1 : Int)), ((((z7.getD (Int.toNat a1.2.1) (([] : List (Int × (List Int) × Unit)), (([] : List (Int × (List Int) × Unit)), (false, ((0 : Int), ((0 : Int), ())))))).2).2).2).2)))); (0 ≤ a1.2.1 ∧ a1.2.1 < (List.length z8 : Int)) ∧ (let z9 : List ((List (Int × (List Int) × Unit)) × (List (Int × (List Int) × Unit)) × Bool × Int × Int × Unit) := z8.set (Int.toNat a1.2.1) ((z8.getD (Int.toNat a1.2.1) (([] : List (Int × (List Int) × Unit)), (([] : List (Int × (List Int) × Unit)), (false, ((0 : Int), ((0 : Int), ())))))).1, (((z8.getD (Int.toNat a1.2.1) (([] : List (Int × (List Int) × Unit)), (([] : List (Int × (List Int) × Unit)), (false, ((0 : Int), ((0 : Int), ())))))).2).1, ((((z8.getD (Int.toNat a1.2.1) (([] : List (Int × (List Int) × Unit)), (([] : List (Int × (List Int) × Unit)), (false, ((0 : Int), ((0 : Int), ())))))).2).2).1, (((((z8.getD (Int.toNat a1.2.1) (([] : List (Int × (List Int) × Unit)), (([] : List (Int × (List Int) × Unit)), (false, ((0 : Int), ((0 : Int), ())))))).2).2).2).1, (w64 ((w64 (y5 + (1 : Int))) + (1 : Int)), (((((z8.getD (Int.toNat a1.2.1) (([] : List (Int × (List Int) × Unit)), (([] : List (Int × (List Int) × Unit)), (false, ((0 : Int), ((0 : Int), ())))))).2).2).2).2).2))))); again2 (w64 ((w64 ((w64 (y5 + (1 : Int))) + (1 : Int))) + (1 : Int)), (w64 (a1.2.1 + (1 : Int)), (z9, ())))))))))))) (K (a1.1, (a1.2.2.1, ())))) (x1, ((0 : Int), (x0, ())))
theorem V38oownprownprzprownzzprownprzprownzzz (x0 : List ((List (Int × (List Int) × Unit)) × (List (Int × (List Int) × Unit)) × Bool × Int × Int × Unit)) (x1 : Int) (K : Int × (List ((List (Int × (List Int) × Unit)) × (List (Int × (List Int) × Unit)) × Bool × Int × Int × Unit)) × Unit → Prop) : fnV E (fun i => look i [(0, { tmps := [(1, .int .i64), (5, .int .i64)], refs := [(0, 0)], roots := [(0, false, true, h29, .own (.pr (.own (.pr .z (.pr (.own .z) .z))) (.pr (.own (.pr .z (.pr (.own .z) .z))) .z)))], ctmps := [], croots := [] })]) (fun i => look i []) Try.f38 ⟨[.own (.pr (.own (.pr .z (.pr (.own .z) .z))) (.pr (.own (.pr .z (.pr (.own .z) .z))) .z)), .z], [(.int .i64, .z)], [.own (.pr (.own (.pr .z (.pr (.own .z) .z))) (.pr (.own (.pr .z (.pr (.own .z) .z))) .z)), .z]⟩ [⟨h29, .own (.pr (.own (.pr .z (.pr (.own .z) .z))) (.pr (.own (.pr .z (.pr (.own .z) .z))) .z)), x0⟩, ⟨.int .i64, .z, x1⟩] (ansK [(.int .i64, .z)] [(h29, .own (.pr (.own (.pr .z (.pr (.own .z) .z))) (.pr (.own (.pr .z (.pr (.own .z) .z))) .z))), (.int .i64, .z)] K) = S38oownprownprzprownzzprownprzprownzzz x0 x1 K := by kernel_rfl
theorem M38oownprownprzprownzzprownprzprownzzz (x0 : List ((List (Int × (List Int) × Unit)) × (List (Int × (List Int) × Unit)) × Bool × Int × Int × Unit)) (x1 : Int) (y0 : Int) (z0 : List ((List (Int × (List Int) × Unit)) × (List (Int × (List Int) × Unit)) × Bool × Int × Int × Unit)) (h : S38oownprownprzprownzzprownprzprownzzz x0 x1 fun r => r = (y0, (z0, ()))) : G38oownprownprzprownzzprownprzprownzzz x0 x1 y0 z0 := fn_gives (l := [(.int .i64, .z)]) (m := [(h29, .own (.pr (.own (.pr .z (.pr (.own .z) .z))) (.pr (.own (.pr .z (.pr (.own .z) .z))) .z))), (.int .i64, .z)]) (val := (y0, (z0, ()))) types_ok (fun _ _ _ _ h => h) mixed Try.func38 (by kernel_rfl) (by rfl) (by rfl) (by rfl) (Eq.mpr (V38oownprownprzprownzzprownprzprownzzz x0 x1 _) h)
/-- laws.heldAtomS -/
def S68 (x0 : List (Int × (List Int) × Unit)) (x1 : Int) (K : Int × Unit → Prop) : Prop :=
  LoopP (fun (again2 : Int × Int × Unit → Prop) (a1 : Int × Int × Unit) => bcase (decide (a1.2.1 < (List.length x0 : Int))) ((0 ≤ a1.2.1 ∧ a1.2.1 < (List.length x0 : Int)) ∧ (bcase (((x0.getD (Int.toNat a1.2.1) ((0 : Int), (([] : List Int), ()))).1) != a1.1) (K ((-1 : Int), ())) ((0 ≤ a1.2.1 ∧ a1.2.1 < (List.length x0 : Int)) ∧ (∃ y3 : Int, G24 (((x0.getD (Int.toNat a1.2.1) ((0 : Int), (([] : List Int), ()))).2).1) (w64 (a1.1 + (1 : Int))) y3 ∧ (bcase (decide (y3 < (0 : Int))) (K ((-1 : Int), ())) (again2 (y3, (w64 (a1.2.1 + (1 : Int)), ())))))))) (K (a1.1, ()))) (x1, ((0 : Int), ()))
theorem V68 (x0 : List (Int × (List Int) × Unit)) (x1 : Int) (K : Int × Unit → Prop) : fnV E (fun i => look i [(0, { tmps := [(1, .int .i64), (5, .int .i64)], refs := [], roots := [], ctmps := [0], croots := [] })]) (fun i => look i []) Try.f68 ⟨[.z, .z], [(.int .i64, .z)], [.z, .z]⟩ [⟨h26, .z, x0⟩, ⟨.int .i64, .z, x1⟩] (ansK [(.int .i64, .z)] [(h26, .z), (.int .i64, .z)] K) = S68 x0 x1 K := by kernel_rfl
theorem M68 (x0 : List (Int × (List Int) × Unit)) (x1 : Int) (y0 : Int) (h : S68 x0 x1 fun r => r = (y0, ())) : G68 x0 x1 y0 := fn_gives (l := [(.int .i64, .z)]) (m := [(h26, .z), (.int .i64, .z)]) (val := (y0, ())) types_ok (fun _ _ _ _ h => h) mixed Try.func68 (by kernel_rfl) (by rfl) (by rfl) (by rfl) (Eq.mpr (V68 x0 x1 _) h)
/-- laws.heldDependencyS -/
def S39 (x0 : List ((List (Int × (List Int) × Unit)) × (List (Int × (List Int) × Unit)) × Bool × Int × Int × Unit)) (x1 : Int) (K : Int × Unit → Prop) : Prop :=
  LoopP (fun (again2 : Int × Int × Unit → Prop) (a1 : Int × Int × Unit) => bcase (decide (a1.2.1 < (List.length x0 : Int))) ((0 ≤ a1.2.1 ∧ a1.2.1 < (List.length x0 : Int)) ∧ (∃ y3 : Int, G68 ((x0.getD (Int.toNat a1.2.1) (([] : List (Int × (List Int) × Unit)), (([] : List (Int × (List Int) × Unit)), (false, ((0 : Int), ((0 : Int), ())))))).1) a1.1 y3 ∧ (bcase (decide (y3 < (0 : Int))) (K ((-1 : Int), ())) ((0 ≤ a1.2.1 ∧ a1.2.1 < (List.length x0 : Int)) ∧ (∃ y4 : Int, G68 (((x0.getD (Int.toNat a1.2.1) (([] : List (Int × (List Int) × Unit)), (([] : List (Int × (List Int) × Unit)), (false, ((0 : Int), ((0 : Int), ())))))).2).1) y3 y4 ∧ (bcase (decide (y4 < (0 : Int))) (K ((-1 : Int), ())) ((0 ≤ a1.2.1 ∧ a1.2.1 < (List.length x0 : Int)) ∧ ((3 : Int) ≠ 0 ∧ (bcase (!(((((x0.getD (Int.toNat a1.2.1) (([] : List (Int × (List Int) × Unit)), (([] : List (Int × (List Int) × Unit)), (false, ((0 : Int), ((0 : Int), ())))))).2).2).1) == ((Int.tmod y4 (3 : Int)) == (0 : Int)))) (K ((-1 : Int), ())) ((0 ≤ a1.2.1 ∧ a1.2.1 < (List.length x0 : Int)) ∧ (bcase ((((((x0.getD (Int.toNat a1.2.1) (([] : List (Int × (List Int) × Unit)), (([] : List (Int × (List Int) × Unit)), (false, ((0 : Int), ((0 : Int), ())))))).2).2).2).1) != (w64 (y4 + (1 : Int)))) (K ((-1 : Int), ())) ((0 ≤ a1.2.1 ∧ a1.2.1 < (List.length x0 : Int)) ∧ (bcase (((((((x0.getD (Int.toNat a1.2.1) (([] : List (Int × (List Int) × Unit)), (([] : List (Int × (List Int) × Unit)), (false, ((0 : Int), ((0 : Int), ())))))).2).2).2).2).1) != (w64 ((w64 (y4 + (1 : Int))) + (1 : Int)))) (K ((-1 : Int), ())) (again2 (w64 ((w64 ((w64 (y4 + (1 : Int))) + (1 : Int))) + (1 : Int)), (w64 (a1.2.1 + (1 : Int)), ())))))))))))))))) (K (a1.1, ()))) (x1, ((0 : Int), ()))
theorem V39 (x0 : List ((List (Int × (List Int) × Unit)) × (List (Int × (List Int) × Unit)) × Bool × Int × Int × Unit)) (x1 : Int) (K : Int × Unit → Prop) : fnV E (fun i => look i [(0, { tmps := [(1, .int .i64), (5, .int .i64)], refs := [], roots := [], ctmps := [0], croots := [] })]) (fun i => look i []) Try.f39 ⟨[.z, .z], [(.int .i64, .z)], [.z, .z]⟩ [⟨h29, .z, x0⟩, ⟨.int .i64, .z, x1⟩] (ansK [(.int .i64, .z)] [(h29, .z), (.int .i64, .z)] K) = S39 x0 x1 K := by kernel_rfl
theorem M39 (x0 : List ((List (Int × (List Int) × Unit)) × (List (Int × (List Int) × Unit)) × Bool × Int × Int × Unit)) (x1 : Int) (y0 : Int) (h : S39 x0 x1 fun r => r = (y0, ())) : G39 x0 x1 y0 := fn_gives (l := [(.int .i64, .z)]) (m := [(h29, .z), (.int .i64, .z)]) (val := (y0, ())) types_ok (fun _ _ _ _ h => h) mixed Try.func39 (by kernel_rfl) (by rfl) (by rfl) (by rfl) (Eq.mpr (V39 x0 x1 _) h)
/-- laws.FnExactEqualityDependencies -/
def S7 (x0 : List ((List (Int × (List Int) × Unit)) × (List (Int × (List Int) × Unit)) × Bool × Int × Int × Unit)) (K : Bool × Unit → Prop) : Prop :=
  ∃ y1 : Int, G33 x0 (1048576 : Int) y1 ∧ (bcase (decide (y1 < (0 : Int))) (K (true, ())) (∃ y2 : List ((List (Int × (List Int) × Unit)) × (List (Int × (List Int) × Unit)) × Bool × Int × Int × Unit), G35 x0 y2 ∧ (∃ y3 : List ((List (Int × (List Int) × Unit)) × (List (Int × (List Int) × Unit)) × Bool × Int × Int × Unit), G34 y2 y3 ∧ (∃ y4 : List ((List (Int × (List Int) × Unit)) × (List (Int × (List Int) × Unit)) × Bool × Int × Int × Unit), G35 x0 y4 ∧ (∃ y5 : List ((List (Int × (List Int) × Unit)) × (List (Int × (List Int) × Unit)) × Bool × Int × Int × Unit), G36 y4 y5 ∧ (∃ y6 : Bool, G37 y5 y3 y6 ∧ (bcase (!y6) (K (false, ())) (∃ y7 : List ((List (Int × (List Int) × Unit)) × (List (Int × (List Int) × Unit)) × Bool × Int × Int × Unit), G35 x0 y7 ∧ (∃ y8 : Bool, G37 y4 y7 y8 ∧ (bcase (!y8) (K (false, ())) (∃ y9 : Int, ∃ y10 : List ((List (Int × (List Int) × Unit)) × (List (Int × (List Int) × Unit)) × Bool × Int × Int × Unit), G38oownprownprzprownzzprownprzprownzzz y4 (1 : Int) y9 y10 ∧ (bcase (decide (y9 < (0 : Int))) (K (false, ())) (∃ y11 : Bool, G37 y5 y3 y11 ∧ (bcase (!y11) (K (false, ())) (∃ y12 : Int, ∃ y13 : List ((List (Int × (List Int) × Unit)) × (List (Int × (List Int) × Unit)) × Bool × Int × Int × Unit), G38oownprownprzprownzzprownprzprownzzz y5 (1 : Int) y12 y13 ∧ (∃ y14 : Int, G39 y13 (1 : Int) y14 ∧ (bcase (decide (y14 < (0 : Int))) (K (false, ())) (bcase (y14 != y12) (K (false, ())) (∃ y15 : List ((List (Int × (List Int) × Unit)) × (List (Int × (List Int) × Unit)) × Bool × Int × Int × Unit), G35 x0 y15 ∧ (∃ y16 : List ((List (Int × (List Int) × Unit)) × (List (Int × (List Int) × Unit)) × Bool × Int × Int × Unit), G36 y15 y16 ∧ (∃ y17 : Bool, G37 y16 y3 y17 ∧ (bcase (!y17) (K (false, ())) (∃ y18 : Int, G39 y13 (1 : Int) y18 ∧ (bcase (decide (y18 < (0 : Int))) (K (false, ())) (bcase (y18 != y12) (K (false, ())) (K (true, ())))))))))))))))))))))))))))
theorem V7 (x0 : List ((List (Int × (List Int) × Unit)) × (List (Int × (List Int) × Unit)) × Bool × Int × Int × Unit)) (K : Bool × Unit → Prop) : fnV E (fun i => look i []) (fun i => look i []) Try.f7 ⟨[.z], [(.bool, .z)], [.z]⟩ [⟨h25, .z, x0⟩] (ansK [(.bool, .z)] [(h25, .z)] K) = S7 x0 K := by kernel_rfl
theorem M7 (x0 : List ((List (Int × (List Int) × Unit)) × (List (Int × (List Int) × Unit)) × Bool × Int × Int × Unit)) (y0 : Bool) (h : S7 x0 fun r => r = (y0, ())) : G7 x0 y0 := fn_gives (l := [(.bool, .z)]) (m := [(h25, .z)]) (val := (y0, ())) types_ok (fun _ _ _ _ h => h) mixed Try.func7 (by kernel_rfl) (by rfl) (by rfl) (by rfl) (Eq.mpr (V7 x0 _) h)
end Go.V
/- The family of small functions: sizes, copies, equalities. -/
set_option maxRecDepth 1000000
set_option maxHeartbeats 4000000
set_option linter.unusedVariables false
set_option linter.unusedSimpArgs false
namespace Go.V
open Go
abbrev k0 : Sh := .sl 0 (.int .i64)
theorem s47 {x0 : List Int} {x1 : Int} (h0 : 0 ≤ x1) (h1 : x1 ≤ 1048576) (hb : Bnd k0 x0) : S47 x0 x1 fun r => r = (fits x1 (bulk k0 x0), ()) := by
  unfold S47
  have e : bulk k0 x0 = List.length x0 := bulk_flat fun _ => rfl
  have hl := hb.1
  rw [szw (l := x1) (n := List.length x0) h0 h1 hl]
  by_cases hlt : x1 - (List.length x0 : Int) < 0
  · rw [bc_pos hlt]; exact fits_lt (by omega)
  · rw [bc_neg hlt]; exact fits_ge (by omega) (by omega)
theorem g47 {x0 : List Int} {x1 : Int} (h0 : 0 ≤ x1) (h1 : x1 ≤ 1048576) (hb : Bnd k0 x0) : G47 x0 x1 (fits x1 (bulk k0 x0)) := M47 _ _ _ (s47 h0 h1 hb)
abbrev k1 : Sh := .pair k0 .unit
instance : DecidableEq ((List Int) × Unit) := inferInstance
abbrev k2 : Sh := .pair (.int .i64) k1
instance : DecidableEq (Int × (List Int) × Unit) := inferInstance
theorem s16 {x0 : Int × (List Int) × Unit} {x1 : Int} (h0 : 0 ≤ x1) (h1 : x1 ≤ 1048576) (hb : Bnd k2 x0) : S16 x0 x1 fun r => r = (fits x1 (bulk k2 x0), ()) := by
  unfold S16
  have e : bulk k2 x0 = (0 + (bulk k0 x0.2.1 + 0)) := rfl
  refine ⟨_, g47 (x1 := x1) (by omega) (by omega) hb.2.1, ?_⟩
  by_cases hc1 : x1 < (bulk k0 x0.2.1 : Int)
  · rw [fits_of_lt hc1, bc_pos (by decide)]; exact fits_lt (by omega)
  rw [fits_of_ge (by omega), bc_neg (by omega)]
  exact fits_ge (by omega) (by omega)
theorem g16 {x0 : Int × (List Int) × Unit} {x1 : Int} (h0 : 0 ≤ x1) (h1 : x1 ≤ 1048576) (hb : Bnd k2 x0) : G16 x0 x1 (fits x1 (bulk k2 x0)) := M16 _ _ _ (s16 h0 h1 hb)
theorem s50 {x0 : List Int} (hb : bulk k0 x0 ≤ 1099511627776) : S50 x0 fun r => r = (x0, ()) := by
  unfold S50
  exact toRow id (by have e : bulk k0 x0 = x0.length + (x0.map (bulk (.int .i64))).sum := rfl; omega) (fun y => ((y, ()) : List _ × Unit) = (x0, ())) (fun t B => B t) (fun t ht B hB => hB) (by rw [List.map_id])
theorem g50 {x0 : List Int} (hb : bulk k0 x0 ≤ 1099511627776) : G50 x0 x0 := M50 _ _ (s50 hb)
theorem s18 {x0 : Int × (List Int) × Unit} (hb : bulk k2 x0 ≤ 1099511627776) : S18 x0 fun r => r = (x0, ()) := by
  unfold S18
  have e : bulk k2 x0 = (0 + (bulk k0 x0.2.1 + 0)) := rfl
  exact ⟨_, g50 (by omega), rfl⟩
theorem g18 {x0 : Int × (List Int) × Unit} (hb : bulk k2 x0 ≤ 1099511627776) : G18 x0 x0 := M18 _ _ (s18 hb)
theorem s20 {x0 : List Int} {x1 : List Int} (hb : bulk k0 x0 ≤ 1099511627776) : S20 x0 x1 fun r => r = (decide (x0 = x1), ()) := by
  unfold S20
  exact eqRow (by have e : bulk k0 x0 = x0.length + (x0.map (bulk (.int .i64))).sum := rfl; unfold maxL; omega) (fun y => ((y, ()) : Bool × Unit) = (decide (x0 = x1), ())) (fun t u A B => bcase (t != u) A B) (fun t ht u hu A B hA hB => bc_ne hA hB) rfl
theorem g20 {x0 : List Int} {x1 : List Int} (hb : bulk k0 x0 ≤ 1099511627776) : G20 x0 x1 (decide (x0 = x1)) := M20 _ _ _ (s20 hb)
theorem s21 {x0 : Int × (List Int) × Unit} {x1 : Int × (List Int) × Unit} (hb : bulk k2 x0 ≤ 1099511627776) : S21 x0 x1 fun r => r = (decide (x0 = x1), ()) := by
  unfold S21
  have e : bulk k2 x0 = (0 + (bulk k0 x0.2.1 + 0)) := rfl
  refine bc_ne (fun h => eq_no (fun e => h (by rw [e]))) (fun q0 => ?_)
  refine ⟨_, g20 (by omega), bc_nd (fun h => eq_no (fun e => h (by rw [e]))) (fun q1 => ?_)⟩
  exact eq_yes (Prod.ext q0 (Prod.ext q1 rfl))
theorem g21 {x0 : Int × (List Int) × Unit} {x1 : Int × (List Int) × Unit} (hb : bulk k2 x0 ≤ 1099511627776) : G21 x0 x1 (decide (x0 = x1)) := M21 _ _ _ (s21 hb)
theorem s23oownz {x0 : List Int} {x1 : Int} (h0 : 0 ≤ x1) (hk : x1 + (wt k0 x0 : Int) ≤ 4611686018427387904) (hb : bulk k0 x0 ≤ 1099511627776) : S23oownz x0 x1 fun r => r = (x1 + (wt k0 x0 : Int), (mk (fun _ => []) k0 x0 x1, ())) := by
  unfold S23oownz
  have e : bulk k0 x0 = x0.length + (x0.map (bulk (.int .i64))).sum := rfl
  have hL : (mkRow (α := Int) (mk (fun _ => []) (.int .i64)) (wt (.int .i64)) x0 x1).length = x0.length := mkRow_len _ _ _ _
  refine markRow (α := Int) (mk (fun _ => []) (.int .i64)) (wt (.int .i64)) ?_ ?_
  · intro i j l hi hl hm hj hw X hX
    have ew : wt (.int .i64) l[i] = 1 := rfl
    have ek : wt k0 x0 = (List.map (α := Int) (wt (.int .i64)) x0).sum := rfl
    have hbt := sum_le (bulk (.int .i64)) hm
    have eb : bulk (.int .i64) l[i] = 0 := rfl
    simp only
    rw [bc_pos (by omega)]
    simp only [Int.toNat_natCast, List.length_set, List.set_set, getD_set_at hi, getD_at hi, ge_true, lt_true hi, and_self, true_and, ne_eq, three, not_false_eq_true]
    rw [w64_succ (i := i) (by omega)]
    rw [w64_id (n := j + 1) (by omega) (by omega)]
    exact hX _ (by omega) _ rfl
  · intro X
    simp only
    rw [bc_neg (by omega)]
    rfl
theorem g23oownz {x0 : List Int} {x1 : Int} (h0 : 0 ≤ x1) (hk : x1 + (wt k0 x0 : Int) ≤ 4611686018427387904) (hb : bulk k0 x0 ≤ 1099511627776) : G23oownz x0 x1 (x1 + (wt k0 x0 : Int)) (mk (fun _ => []) k0 x0 x1) := M23oownz _ _ _ _ (s23oownz h0 hk hb)
theorem s24 {x0 : List Int} {x1 : Int} (h0 : 0 ≤ x1) (hk : x1 + (wt k0 x0 : Int) ≤ 4611686018427387904) (hb : bulk k0 x0 ≤ 1099511627776) : S24 (mkRow (mk (fun _ => []) (.int .i64)) (wt (.int .i64)) x0 x1) x1 fun r => r = (x1 + (wt k0 x0 : Int), ()) := by
  unfold S24
  have e : bulk k0 x0 = x0.length + (x0.map (bulk (.int .i64))).sum := rfl
  have hL : (mkRow (α := Int) (mk (fun _ => []) (.int .i64)) (wt (.int .i64)) x0 x1).length = x0.length := mkRow_len _ _ _ _
  refine heldRow (α := Int) (x := x0) (mk (fun _ => []) (.int .i64)) (wt (.int .i64)) ?_ ?_
  · intro i j hi h hj hw hat X hX
    have hm := List.getElem_mem hi
    have ew : wt (.int .i64) x0[i] = 1 := rfl
    have ek : wt k0 x0 = (List.map (α := Int) (wt (.int .i64)) x0).sum := rfl
    have hbt := sum_le (bulk (.int .i64)) hm
    have eb : bulk (.int .i64) x0[i] = 0 := rfl
    simp only
    rw [bc_pos (by omega)]
    simp only [Int.toNat_natCast, List.length_set, List.set_set, getD_set_at h, getD_at h, ge_true, lt_true h, and_self, true_and, ne_eq, three, not_false_eq_true, hat]
    rw [w64_succ (i := i) (by omega)]
    refine bc_ne (fun h => (h rfl).elim) fun _ => ?_
    rw [w64_id (n := j + 1) (by omega) (by omega)]
    exact hX _ (by omega)
  · intro X
    simp only
    rw [bc_neg (by omega)]
    rfl
theorem g24 {x0 : List Int} {x1 : Int} (h0 : 0 ≤ x1) (hk : x1 + (wt k0 x0 : Int) ≤ 4611686018427387904) (hb : bulk k0 x0 ≤ 1099511627776) : G24 (mk (fun _ => []) k0 x0 x1) x1 (x1 + (wt k0 x0 : Int)) := M24 _ _ _ (s24 h0 hk hb)
abbrev k3 : Sh := .sl 0 k2
theorem s69 {x0 : List (Int × (List Int) × Unit)} {x1 : Int} (h0 : 0 ≤ x1) (h1 : x1 ≤ 1048576) (hb : Bnd k3 x0) : S69 x0 x1 fun r => r = (fits x1 (bulk k3 x0), ()) := by
  unfold S69
  exact szRow (b := bulk k2) h0 h1 hb.1 (fun y => ((y, ()) : Int × Unit) = (fits x1 (bulk k3 x0), ())) (fun t l A B => ∃ y, G16 t l y ∧ bcase (decide (y < (0 : Int))) A (B y)) (fun t ht l a b A B hA hB => ⟨_, g16 a b (hb.2 t ht), bc_fits a hA fun h => by rw [fits_of_ge h]; exact hB h⟩) rfl
theorem g69 {x0 : List (Int × (List Int) × Unit)} {x1 : Int} (h0 : 0 ≤ x1) (h1 : x1 ≤ 1048576) (hb : Bnd k3 x0) : G69 x0 x1 (fits x1 (bulk k3 x0)) := M69 _ _ _ (s69 h0 h1 hb)
abbrev k4 : Sh := .pair (.int .i64) .unit
instance : DecidableEq (Int × Unit) := inferInstance
abbrev k5 : Sh := .pair (.int .i64) k4
instance : DecidableEq (Int × Int × Unit) := inferInstance
abbrev k6 : Sh := .pair .bool k5
instance : DecidableEq (Bool × Int × Int × Unit) := inferInstance
abbrev k7 : Sh := .pair k3 k6
instance : DecidableEq ((List (Int × (List Int) × Unit)) × Bool × Int × Int × Unit) := inferInstance
abbrev k8 : Sh := .pair k3 k7
instance : DecidableEq ((List (Int × (List Int) × Unit)) × (List (Int × (List Int) × Unit)) × Bool × Int × Int × Unit) := inferInstance
theorem s40 {x0 : (List (Int × (List Int) × Unit)) × (List (Int × (List Int) × Unit)) × Bool × Int × Int × Unit} {x1 : Int} (h0 : 0 ≤ x1) (h1 : x1 ≤ 1048576) (hb : Bnd k8 x0) : S40 x0 x1 fun r => r = (fits x1 (bulk k8 x0), ()) := by
  unfold S40
  have e : bulk k8 x0 = (bulk k3 x0.1 + (bulk k3 x0.2.1 + (0 + (0 + (0 + 0))))) := rfl
  refine ⟨_, g69 (x1 := x1) (by omega) (by omega) hb.1, ?_⟩
  by_cases hc1 : x1 < (bulk k3 x0.1 : Int)
  · rw [fits_of_lt hc1, bc_pos (by decide)]; exact fits_lt (by omega)
  rw [fits_of_ge (by omega), bc_neg (by omega)]
  refine ⟨_, g69 (x1 := x1 - (bulk k3 x0.1 : Int)) (by omega) (by omega) hb.2.1, ?_⟩
  by_cases hc2 : x1 - (bulk k3 x0.1 : Int) < (bulk k3 x0.2.1 : Int)
  · rw [fits_of_lt hc2, bc_pos (by decide)]; exact fits_lt (by omega)
  rw [fits_of_ge (by omega), bc_neg (by omega)]
  exact fits_ge (by omega) (by omega)
theorem g40 {x0 : (List (Int × (List Int) × Unit)) × (List (Int × (List Int) × Unit)) × Bool × Int × Int × Unit} {x1 : Int} (h0 : 0 ≤ x1) (h1 : x1 ≤ 1048576) (hb : Bnd k8 x0) : G40 x0 x1 (fits x1 (bulk k8 x0)) := M40 _ _ _ (s40 h0 h1 hb)
abbrev k9 : Sh := .sl 0 k8
theorem s33 {x0 : List ((List (Int × (List Int) × Unit)) × (List (Int × (List Int) × Unit)) × Bool × Int × Int × Unit)} {x1 : Int} (h0 : 0 ≤ x1) (h1 : x1 ≤ 1048576) (hb : Bnd k9 x0) : S33 x0 x1 fun r => r = (fits x1 (bulk k9 x0), ()) := by
  unfold S33
  exact szRow (b := bulk k8) h0 h1 hb.1 (fun y => ((y, ()) : Int × Unit) = (fits x1 (bulk k9 x0), ())) (fun t l A B => ∃ y, G40 t l y ∧ bcase (decide (y < (0 : Int))) A (B y)) (fun t ht l a b A B hA hB => ⟨_, g40 a b (hb.2 t ht), bc_fits a hA fun h => by rw [fits_of_ge h]; exact hB h⟩) rfl
theorem g33 {x0 : List ((List (Int × (List Int) × Unit)) × (List (Int × (List Int) × Unit)) × Bool × Int × Int × Unit)} {x1 : Int} (h0 : 0 ≤ x1) (h1 : x1 ≤ 1048576) (hb : Bnd k9 x0) : G33 x0 x1 (fits x1 (bulk k9 x0)) := M33 _ _ _ (s33 h0 h1 hb)
theorem s71 {x0 : List (Int × (List Int) × Unit)} (hb : bulk k3 x0 ≤ 1099511627776) : S71 x0 fun r => r = (x0, ()) := by
  unfold S71
  exact toRow id (by have e : bulk k3 x0 = x0.length + (x0.map (bulk k2)).sum := rfl; omega) (fun y => ((y, ()) : List _ × Unit) = (x0, ())) (fun t B => ∃ y, G18 t y ∧ B y) (fun t ht B hB => ⟨_, g18 (by have h := sum_le (bulk k2) ht; have e : bulk k3 x0 = x0.length + (x0.map (bulk k2)).sum := rfl; omega), hB⟩) (by rw [List.map_id])
theorem g71 {x0 : List (Int × (List Int) × Unit)} (hb : bulk k3 x0 ≤ 1099511627776) : G71 x0 x0 := M71 _ _ (s71 hb)
theorem s42 {x0 : (List (Int × (List Int) × Unit)) × (List (Int × (List Int) × Unit)) × Bool × Int × Int × Unit} (hb : bulk k8 x0 ≤ 1099511627776) : S42 x0 fun r => r = (x0, ()) := by
  unfold S42
  have e : bulk k8 x0 = (bulk k3 x0.1 + (bulk k3 x0.2.1 + (0 + (0 + (0 + 0))))) := rfl
  exact ⟨_, g71 (by omega), _, g71 (by omega), rfl⟩
theorem g42 {x0 : (List (Int × (List Int) × Unit)) × (List (Int × (List Int) × Unit)) × Bool × Int × Int × Unit} (hb : bulk k8 x0 ≤ 1099511627776) : G42 x0 x0 := M42 _ _ (s42 hb)
theorem s35 {x0 : List ((List (Int × (List Int) × Unit)) × (List (Int × (List Int) × Unit)) × Bool × Int × Int × Unit)} (hb : bulk k9 x0 ≤ 1099511627776) : S35 x0 fun r => r = (x0, ()) := by
  unfold S35
  exact toRow id (by have e : bulk k9 x0 = x0.length + (x0.map (bulk k8)).sum := rfl; omega) (fun y => ((y, ()) : List _ × Unit) = (x0, ())) (fun t B => ∃ y, G42 t y ∧ B y) (fun t ht B hB => ⟨_, g42 (by have h := sum_le (bulk k8) ht; have e : bulk k9 x0 = x0.length + (x0.map (bulk k8)).sum := rfl; omega), hB⟩) (by rw [List.map_id])
theorem g35 {x0 : List ((List (Int × (List Int) × Unit)) × (List (Int × (List Int) × Unit)) × Bool × Int × Int × Unit)} (hb : bulk k9 x0 ≤ 1099511627776) : G35 x0 x0 := M35 _ _ (s35 hb)
theorem s73 {x0 : List (Int × (List Int) × Unit)} {x1 : List (Int × (List Int) × Unit)} (hb : bulk k3 x0 ≤ 1099511627776) : S73 x0 x1 fun r => r = (decide (x0 = x1), ()) := by
  unfold S73
  exact eqRow (by have e : bulk k3 x0 = x0.length + (x0.map (bulk k2)).sum := rfl; unfold maxL; omega) (fun y => ((y, ()) : Bool × Unit) = (decide (x0 = x1), ())) (fun t u A B => ∃ y, G21 t u y ∧ bcase (!y) A B) (fun t ht u hu A B hA hB => ⟨_, g21 (by have h := sum_le (bulk k2) ht; have e : bulk k3 x0 = x0.length + (x0.map (bulk k2)).sum := rfl; omega), bc_nd hA hB⟩) rfl
theorem g73 {x0 : List (Int × (List Int) × Unit)} {x1 : List (Int × (List Int) × Unit)} (hb : bulk k3 x0 ≤ 1099511627776) : G73 x0 x1 (decide (x0 = x1)) := M73 _ _ _ (s73 hb)
theorem s44 {x0 : (List (Int × (List Int) × Unit)) × (List (Int × (List Int) × Unit)) × Bool × Int × Int × Unit} {x1 : (List (Int × (List Int) × Unit)) × (List (Int × (List Int) × Unit)) × Bool × Int × Int × Unit} (hb : bulk k8 x0 ≤ 1099511627776) : S44 x0 x1 fun r => r = (decide (x0 = x1), ()) := by
  unfold S44
  have e : bulk k8 x0 = (bulk k3 x0.1 + (bulk k3 x0.2.1 + (0 + (0 + (0 + 0))))) := rfl
  refine ⟨_, g73 (by omega), bc_nd (fun h => eq_no (fun e => h (by rw [e]))) (fun q0 => ?_)⟩
  refine ⟨_, g73 (by omega), bc_nd (fun h => eq_no (fun e => h (by rw [e]))) (fun q1 => ?_)⟩
  refine bc_nb (fun h => eq_no (fun e => h (by rw [e]))) (fun q2 => ?_)
  refine bc_ne (fun h => eq_no (fun e => h (by rw [e]))) (fun q3 => ?_)
  refine bc_ne (fun h => eq_no (fun e => h (by rw [e]))) (fun q4 => ?_)
  exact eq_yes (Prod.ext q0 (Prod.ext q1 (Prod.ext q2 (Prod.ext q3 (Prod.ext q4 rfl)))))
theorem g44 {x0 : (List (Int × (List Int) × Unit)) × (List (Int × (List Int) × Unit)) × Bool × Int × Int × Unit} {x1 : (List (Int × (List Int) × Unit)) × (List (Int × (List Int) × Unit)) × Bool × Int × Int × Unit} (hb : bulk k8 x0 ≤ 1099511627776) : G44 x0 x1 (decide (x0 = x1)) := M44 _ _ _ (s44 hb)
theorem s37 {x0 : List ((List (Int × (List Int) × Unit)) × (List (Int × (List Int) × Unit)) × Bool × Int × Int × Unit)} {x1 : List ((List (Int × (List Int) × Unit)) × (List (Int × (List Int) × Unit)) × Bool × Int × Int × Unit)} (hb : bulk k9 x0 ≤ 1099511627776) : S37 x0 x1 fun r => r = (decide (x0 = x1), ()) := by
  unfold S37
  exact eqRow (by have e : bulk k9 x0 = x0.length + (x0.map (bulk k8)).sum := rfl; unfold maxL; omega) (fun y => ((y, ()) : Bool × Unit) = (decide (x0 = x1), ())) (fun t u A B => ∃ y, G44 t u y ∧ bcase (!y) A B) (fun t ht u hu A B hA hB => ⟨_, g44 (by have h := sum_le (bulk k8) ht; have e : bulk k9 x0 = x0.length + (x0.map (bulk k8)).sum := rfl; omega), bc_nd hA hB⟩) rfl
theorem g37 {x0 : List ((List (Int × (List Int) × Unit)) × (List (Int × (List Int) × Unit)) × Bool × Int × Int × Unit)} {x1 : List ((List (Int × (List Int) × Unit)) × (List (Int × (List Int) × Unit)) × Bool × Int × Int × Unit)} (hb : bulk k9 x0 ≤ 1099511627776) : G37 x0 x1 (decide (x0 = x1)) := M37 _ _ _ (s37 hb)
theorem s67oownprzprownzz {x0 : List (Int × (List Int) × Unit)} {x1 : Int} (h0 : 0 ≤ x1) (hk : x1 + (wt k3 x0 : Int) ≤ 4611686018427387904) (hb : bulk k3 x0 ≤ 1099511627776) : S67oownprzprownzz x0 x1 fun r => r = (x1 + (wt k3 x0 : Int), (mk (fun _ => []) k3 x0 x1, ())) := by
  unfold S67oownprzprownzz
  have e : bulk k3 x0 = x0.length + (x0.map (bulk k2)).sum := rfl
  have hL : (mkRow (α := Int × (List Int) × Unit) (mk (fun _ => []) k2) (wt k2) x0 x1).length = x0.length := mkRow_len _ _ _ _
  refine markRow (α := Int × (List Int) × Unit) (mk (fun _ => []) k2) (wt k2) ?_ ?_
  · intro i j l hi hl hm hj hw X hX
    have ew : wt k2 l[i] = (1 + (wt k0 l[i].2.1 + 0)) := rfl
    have ek : wt k3 x0 = (List.map (α := Int × (List Int) × Unit) (wt k2) x0).sum := rfl
    have hbt := sum_le (bulk k2) hm
    have eb : bulk k2 l[i] = (0 + (bulk k0 l[i].2.1 + 0)) := rfl
    simp only
    rw [bc_pos (by omega)]
    simp only [Int.toNat_natCast, List.length_set, List.set_set, getD_set_at hi, getD_at hi, ge_true, lt_true hi, and_self, true_and, ne_eq, three, not_false_eq_true]
    rw [w64_succ (i := i) (by omega)]
    rw [w64_id (n := j + 1) (by omega) (by omega)]
    refine ⟨_, _, g23oownz (x0 := l[i].2.1) (x1 := j + 1) (by omega) (by omega) (by omega), ?_⟩
    exact hX _ (by omega) _ rfl
  · intro X
    simp only
    rw [bc_neg (by omega)]
    rfl
theorem g67oownprzprownzz {x0 : List (Int × (List Int) × Unit)} {x1 : Int} (h0 : 0 ≤ x1) (hk : x1 + (wt k3 x0 : Int) ≤ 4611686018427387904) (hb : bulk k3 x0 ≤ 1099511627776) : G67oownprzprownzz x0 x1 (x1 + (wt k3 x0 : Int)) (mk (fun _ => []) k3 x0 x1) := M67oownprzprownzz _ _ _ _ (s67oownprzprownzz h0 hk hb)
theorem s38oownprownprzprownzzprownprzprownzzz {x0 : List ((List (Int × (List Int) × Unit)) × (List (Int × (List Int) × Unit)) × Bool × Int × Int × Unit)} {x1 : Int} (h0 : 0 ≤ x1) (hk : x1 + (wt k9 x0 : Int) ≤ 4611686018427387904) (hb : bulk k9 x0 ≤ 1099511627776) : S38oownprownprzprownzzprownprzprownzzz x0 x1 fun r => r = (x1 + (wt k9 x0 : Int), (mk (fun _ => []) k9 x0 x1, ())) := by
  unfold S38oownprownprzprownzzprownprzprownzzz
  have e : bulk k9 x0 = x0.length + (x0.map (bulk k8)).sum := rfl
  have hL : (mkRow (α := (List (Int × (List Int) × Unit)) × (List (Int × (List Int) × Unit)) × Bool × Int × Int × Unit) (mk (fun _ => []) k8) (wt k8) x0 x1).length = x0.length := mkRow_len _ _ _ _
  refine markRow (α := (List (Int × (List Int) × Unit)) × (List (Int × (List Int) × Unit)) × Bool × Int × Int × Unit) (mk (fun _ => []) k8) (wt k8) ?_ ?_
  · intro i j l hi hl hm hj hw X hX
    have ew : wt k8 l[i] = (wt k3 l[i].1 + (wt k3 l[i].2.1 + (1 + (1 + (1 + 0))))) := rfl
    have ek : wt k9 x0 = (List.map (α := (List (Int × (List Int) × Unit)) × (List (Int × (List Int) × Unit)) × Bool × Int × Int × Unit) (wt k8) x0).sum := rfl
    have hbt := sum_le (bulk k8) hm
    have eb : bulk k8 l[i] = (bulk k3 l[i].1 + (bulk k3 l[i].2.1 + (0 + (0 + (0 + 0))))) := rfl
    simp only
    rw [bc_pos (by omega)]
    simp only [Int.toNat_natCast, List.length_set, List.set_set, getD_set_at hi, getD_at hi, ge_true, lt_true hi, and_self, true_and, ne_eq, three, not_false_eq_true]
    rw [w64_succ (i := i) (by omega)]
    refine ⟨_, _, g67oownprzprownzz (x0 := l[i].1) (x1 := j) (by omega) (by omega) (by omega), ?_⟩
    refine ⟨_, _, g67oownprzprownzz (x0 := l[i].2.1) (x1 := j + (wt k3 l[i].1 : Int)) (by omega) (by omega) (by omega), ?_⟩
    rw [w64_id (n := j + (wt k3 l[i].1 : Int) + (wt k3 l[i].2.1 : Int) + 1) (by omega) (by omega)]
    rw [w64_id (n := j + (wt k3 l[i].1 : Int) + (wt k3 l[i].2.1 : Int) + 1 + 1) (by omega) (by omega)]
    rw [w64_id (n := j + (wt k3 l[i].1 : Int) + (wt k3 l[i].2.1 : Int) + 1 + 1 + 1) (by omega) (by omega)]
    exact hX _ (by omega) _ rfl
  · intro X
    simp only
    rw [bc_neg (by omega)]
    rfl
theorem g38oownprownprzprownzzprownprzprownzzz {x0 : List ((List (Int × (List Int) × Unit)) × (List (Int × (List Int) × Unit)) × Bool × Int × Int × Unit)} {x1 : Int} (h0 : 0 ≤ x1) (hk : x1 + (wt k9 x0 : Int) ≤ 4611686018427387904) (hb : bulk k9 x0 ≤ 1099511627776) : G38oownprownprzprownzzprownprzprownzzz x0 x1 (x1 + (wt k9 x0 : Int)) (mk (fun _ => []) k9 x0 x1) := M38oownprownprzprownzzprownprzprownzzz _ _ _ _ (s38oownprownprzprownzzprownprzprownzzz h0 hk hb)
theorem s68 {x0 : List (Int × (List Int) × Unit)} {x1 : Int} (h0 : 0 ≤ x1) (hk : x1 + (wt k3 x0 : Int) ≤ 4611686018427387904) (hb : bulk k3 x0 ≤ 1099511627776) : S68 (mkRow (mk (fun _ => []) k2) (wt k2) x0 x1) x1 fun r => r = (x1 + (wt k3 x0 : Int), ()) := by
  unfold S68
  have e : bulk k3 x0 = x0.length + (x0.map (bulk k2)).sum := rfl
  have hL : (mkRow (α := Int × (List Int) × Unit) (mk (fun _ => []) k2) (wt k2) x0 x1).length = x0.length := mkRow_len _ _ _ _
  refine heldRow (α := Int × (List Int) × Unit) (x := x0) (mk (fun _ => []) k2) (wt k2) ?_ ?_
  · intro i j hi h hj hw hat X hX
    have hm := List.getElem_mem hi
    have ew : wt k2 x0[i] = (1 + (wt k0 x0[i].2.1 + 0)) := rfl
    have ek : wt k3 x0 = (List.map (α := Int × (List Int) × Unit) (wt k2) x0).sum := rfl
    have hbt := sum_le (bulk k2) hm
    have eb : bulk k2 x0[i] = (0 + (bulk k0 x0[i].2.1 + 0)) := rfl
    simp only
    rw [bc_pos (by omega)]
    simp only [Int.toNat_natCast, List.length_set, List.set_set, getD_set_at h, getD_at h, ge_true, lt_true h, and_self, true_and, ne_eq, three, not_false_eq_true, hat]
    rw [w64_succ (i := i) (by omega)]
    refine bc_ne (fun h => (h rfl).elim) fun _ => ?_
    rw [w64_id (n := j + 1) (by omega) (by omega)]
    refine ⟨_, g24 (x0 := x0[i].2.1) (x1 := j + 1) (by omega) (by omega) (by omega), ?_⟩
    rw [bc_neg (by omega)]
    exact hX _ (by omega)
  · intro X
    simp only
    rw [bc_neg (by omega)]
    rfl
theorem g68 {x0 : List (Int × (List Int) × Unit)} {x1 : Int} (h0 : 0 ≤ x1) (hk : x1 + (wt k3 x0 : Int) ≤ 4611686018427387904) (hb : bulk k3 x0 ≤ 1099511627776) : G68 (mk (fun _ => []) k3 x0 x1) x1 (x1 + (wt k3 x0 : Int)) := M68 _ _ _ (s68 h0 hk hb)
theorem s39 {x0 : List ((List (Int × (List Int) × Unit)) × (List (Int × (List Int) × Unit)) × Bool × Int × Int × Unit)} {x1 : Int} (h0 : 0 ≤ x1) (hk : x1 + (wt k9 x0 : Int) ≤ 4611686018427387904) (hb : bulk k9 x0 ≤ 1099511627776) : S39 (mkRow (mk (fun _ => []) k8) (wt k8) x0 x1) x1 fun r => r = (x1 + (wt k9 x0 : Int), ()) := by
  unfold S39
  have e : bulk k9 x0 = x0.length + (x0.map (bulk k8)).sum := rfl
  have hL : (mkRow (α := (List (Int × (List Int) × Unit)) × (List (Int × (List Int) × Unit)) × Bool × Int × Int × Unit) (mk (fun _ => []) k8) (wt k8) x0 x1).length = x0.length := mkRow_len _ _ _ _
  refine heldRow (α := (List (Int × (List Int) × Unit)) × (List (Int × (List Int) × Unit)) × Bool × Int × Int × Unit) (x := x0) (mk (fun _ => []) k8) (wt k8) ?_ ?_
  · intro i j hi h hj hw hat X hX
    have hm := List.getElem_mem hi
    have ew : wt k8 x0[i] = (wt k3 x0[i].1 + (wt k3 x0[i].2.1 + (1 + (1 + (1 + 0))))) := rfl
    have ek : wt k9 x0 = (List.map (α := (List (Int × (List Int) × Unit)) × (List (Int × (List Int) × Unit)) × Bool × Int × Int × Unit) (wt k8) x0).sum := rfl
    have hbt := sum_le (bulk k8) hm
    have eb : bulk k8 x0[i] = (bulk k3 x0[i].1 + (bulk k3 x0[i].2.1 + (0 + (0 + (0 + 0))))) := rfl
    simp only
    rw [bc_pos (by omega)]
    simp only [Int.toNat_natCast, List.length_set, List.set_set, getD_set_at h, getD_at h, ge_true, lt_true h, and_self, true_and, ne_eq, three, not_false_eq_true, hat]
    rw [w64_succ (i := i) (by omega)]
    refine ⟨_, g68 (x0 := x0[i].1) (x1 := j) (by omega) (by omega) (by omega), ?_⟩
    rw [bc_neg (by omega)]
    refine ⟨_, g68 (x0 := x0[i].2.1) (x1 := j + (wt k3 x0[i].1 : Int)) (by omega) (by omega) (by omega), ?_⟩
    rw [bc_neg (by omega)]
    refine bc_nb (fun h => (h rfl).elim) fun _ => ?_
    rw [w64_id (n := j + (wt k3 x0[i].1 : Int) + (wt k3 x0[i].2.1 : Int) + 1) (by omega) (by omega)]
    refine bc_ne (fun h => (h rfl).elim) fun _ => ?_
    rw [w64_id (n := j + (wt k3 x0[i].1 : Int) + (wt k3 x0[i].2.1 : Int) + 1 + 1) (by omega) (by omega)]
    refine bc_ne (fun h => (h rfl).elim) fun _ => ?_
    rw [w64_id (n := j + (wt k3 x0[i].1 : Int) + (wt k3 x0[i].2.1 : Int) + 1 + 1 + 1) (by omega) (by omega)]
    exact hX _ (by omega)
  · intro X
    simp only
    rw [bc_neg (by omega)]
    rfl
theorem g39 {x0 : List ((List (Int × (List Int) × Unit)) × (List (Int × (List Int) × Unit)) × Bool × Int × Int × Unit)} {x1 : Int} (h0 : 0 ≤ x1) (hk : x1 + (wt k9 x0 : Int) ≤ 4611686018427387904) (hb : bulk k9 x0 ≤ 1099511627776) : G39 (mk (fun _ => []) k9 x0 x1) x1 (x1 + (wt k9 x0 : Int)) := M39 _ _ _ (s39 h0 hk hb)
end Go.V
