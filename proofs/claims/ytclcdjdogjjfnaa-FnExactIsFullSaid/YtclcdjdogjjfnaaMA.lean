/-
  The functions that are reached: types, signatures, what a call of each gives.
-/
import Derived.Test.YtclcdjdogjjfnaaVE
import Derived.Test.YtclcdjdogjjfnaaProg
import Derived.KernelRfl
set_option linter.unusedVariables false
set_option linter.unusedSimpArgs false
set_option maxRecDepth 1000000
set_option maxHeartbeats 4000000
set_option linter.unusedVariables false
namespace Go.V
open Go Go.Proofs
abbrev h0 : Sh := .pair (.int .u8) .unit
abbrev h1 : Sh := .pair .bool h0
abbrev h2 : Sh := .pair (.int .i64) h1
abbrev h3 : Sh := .pair (.int .i64) h2
abbrev h4 : Sh := .pair (.int .u64) .unit
abbrev h5 : Sh := .pair .str h4
abbrev h6 : Sh := .pair (.sl 3 (.int .i64)) .unit
abbrev h7 : Sh := .pair (.int .i64) h6
abbrev h8 : Sh := .pair .bool .unit
abbrev h9 : Sh := .pair (.int .i64) h8
abbrev h10 : Sh := .pair .str h9
abbrev h11 : Sh := .sl 109 h10
abbrev h12 : Sh := .sl 111 h7
abbrev h13 : Sh := .pair h12 .unit
abbrev h14 : Sh := .pair h11 h13
abbrev h15 : Sh := .sl 107 h10
abbrev h16 : Sh := .sl 90 h7
abbrev h17 : Sh := .pair h16 .unit
abbrev h18 : Sh := .pair h15 h17
abbrev h19 : Sh := .sl 29 h7
abbrev h20 : Sh := .pair (.int .i64) .unit
abbrev h21 : Sh := .pair (.int .i64) h20
abbrev h22 : Sh := .pair .bool h21
abbrev h23 : Sh := .pair h19 h22
abbrev h24 : Sh := .pair h19 h23
abbrev h25 : Sh := .sl 67 h24
abbrev h26 : Sh := .sl 33 h7
abbrev h27 : Sh := .pair h26 h22
abbrev h28 : Sh := .pair h26 h27
abbrev h29 : Sh := .sl 72 h28
abbrev h30 : Sh := .pair (.sl 5 (.int .u8)) h21
noncomputable abbrev prog : Program := Try.prog
def shTab : List (Nat × Sh) := [(2, .int .i64), (3, .int .i64), (4, .bool), (5, .int .u8), (6, .int .u8), (9, .str), (10, .str), (11, .str), (12, .int .u64), (21, .int .i32), (22, .sl 9 .str), (27, .sl 3 (.int .i64)), (28, h7), (29, h7), (33, h7), (40, .sl 5 (.int .u8)), (44, h11), (45, h12), (46, h14), (47, h14), (50, h15), (51, h16), (52, h18), (53, h18), (57, h25), (59, h29), (65, h19), (66, h24), (67, h24), (70, h26), (71, h28), (72, h28), (82, .ptr h30), (89, h7), (90, h7), (102, h30), (103, h30), (106, h10), (107, h10), (109, h10), (111, h7), (120, .int .u64), (126, .int .i64), (135, .int .u32), (137, .int .u64), (138, .int .u64), (142, .ptr (.int .i64)), (144, .ptr (.int .u64)), (154, .int .u8), (155, .int .u8), (157, .ptr (.int .u8)), (158, .int .i32), (159, .int .i32)]
def sigTab : List (Nat × List Sig) := [(8, [⟨[.z], [(.bool, .z)], [.z]⟩]), (16, [⟨[.z, .z], [(.int .i64, .z)], [.z, .z]⟩]), (18, [⟨[.z], [(h7, .pr .z (.pr (.own .z) .z))], [.z]⟩]), (20, [⟨[.z, .z], [(.bool, .z)], [.z, .z]⟩]), (21, [⟨[.z, .z], [(.bool, .z)], [.z, .z]⟩]), (40, [⟨[.z, .z], [(.int .i64, .z)], [.z, .z]⟩]), (41, [⟨[.z], [(.bool, .z)], [.z]⟩]), (42, [⟨[.z], [(h28, .pr (.own (.pr .z (.pr (.own .z) .z))) (.pr (.own (.pr .z (.pr (.own .z) .z))) .z))], [.z]⟩]), (43, [⟨[.z], [(.bool, .z)], [.z]⟩]), (44, [⟨[.z, .z], [(.bool, .z)], [.z, .z]⟩]), (47, [⟨[.z, .z], [(.int .i64, .z)], [.z, .z]⟩]), (50, [⟨[.z], [(.sl 3 (.int .i64), .own .z)], [.z]⟩]), (69, [⟨[.z, .z], [(.int .i64, .z)], [.z, .z]⟩]), (70, [⟨[.z], [(.sl 3 (.int .i64), .own .z)], [.z]⟩]), (71, [⟨[.z], [(h26, .own (.pr .z (.pr (.own .z) .z)))], [.z]⟩]), (72, [⟨[.z], [(.sl 3 (.int .i64), .own .z)], [.z]⟩]), (73, [⟨[.z, .z], [(.bool, .z)], [.z, .z]⟩]), (85, [⟨[.z], [(.sl 3 (.int .i64), .z)], [.z]⟩]), (86, [⟨[.z, .z], [(.bool, .z)], [.z, .z]⟩]), (87, [⟨[.z, .z], [(.sl 3 (.int .i64), .own .z)], [.z, .z]⟩]), (88, [⟨[.z, .z], [(.sl 3 (.int .i64), .z)], [.z, .z]⟩]), (89, [⟨[.z], [(.sl 3 (.int .i64), .own .z)], [.z]⟩]), (90, [⟨[.z, .z], [(.bool, .z)], [.z, .z]⟩]), (91, [⟨[.own .z], [], [.own .z]⟩]), (92, [⟨[.own .z], [(.sl 3 (.int .i64), .own .z)], [.dead]⟩]), (93, [⟨[.z, .z], [(.int .i64, .z)], [.z, .z]⟩])]
def parTab : List (Nat × List (Option Sh)) := [(8, [some (h24)]), (16, [some (h7), some (.int .i64)]), (18, [some (h7)]), (20, [some (.sl 3 (.int .i64)), some (.sl 3 (.int .i64))]), (21, [some (h7), some (h7)]), (40, [some (h24), some (.int .i64)]), (41, [some (h28)]), (42, [some (h24)]), (43, [some (h28)]), (44, [some (h28), some (h28)]), (47, [some (.sl 3 (.int .i64)), some (.int .i64)]), (50, [some (.sl 3 (.int .i64))]), (69, [some (h19), some (.int .i64)]), (70, [some (h28)]), (71, [some (h19)]), (72, [some (h28)]), (73, [some (h26), some (h26)]), (85, [some (h26)]), (86, [some (.sl 3 (.int .i64)), some (.int .i64)]), (87, [some (h28), some (.bool)]), (88, [some (.sl 3 (.int .i64)), some (.int .i64)]), (89, [some (h26)]), (90, [some (.sl 3 (.int .i64)), some (.int .i64)]), (91, [some (.sl 3 (.int .i64))]), (92, [some (.sl 3 (.int .i64))]), (93, [some (.sl 3 (.int .i64)), some (.int .i64)])]
noncomputable def E : Env := { sh := fun t => look t shTab, sigs := fun f => (look f sigTab).getD [], params := fun f => (look f parTab).getD [], gives := GivesS prog }
theorem types_ok : ∀ t s, E.sh t = some s → ShOk prog s none t := tab_ok (by kernel_rfl)
theorem mixed : prog.follows .mixedOrders = true := by kernel_rfl
/-- laws.FnExactIsFull -/
def G_lFnExactIsFull (x0 : TDep) (y0 : Bool) : Prop := GivesS prog 8 [⟨h24, .z, x0⟩] [⟨.bool, .z, y0⟩] [⟨h24, .z, x0⟩]
/-- laws.eqDependency -/
def G_leqDependency (x0 : TDep) (x1 : TDep) (y0 : Bool) : Prop := GivesS prog 44 [⟨h28, .z, x0⟩, ⟨h28, .z, x1⟩] [⟨.bool, .z, y0⟩] [⟨h28, .z, x0⟩, ⟨h28, .z, x1⟩]
/-- laws.eqAtomS -/
def G_leqAtomS (x0 : List TFact) (x1 : List TFact) (y0 : Bool) : Prop := GivesS prog 73 [⟨h26, .z, x0⟩, ⟨h26, .z, x1⟩] [⟨.bool, .z, y0⟩] [⟨h26, .z, x0⟩, ⟨h26, .z, x1⟩]
/-- laws.eqAtom -/
def G_leqAtom (x0 : TFact) (x1 : TFact) (y0 : Bool) : Prop := GivesS prog 21 [⟨h7, .z, x0⟩, ⟨h7, .z, x1⟩] [⟨.bool, .z, y0⟩] [⟨h7, .z, x0⟩, ⟨h7, .z, x1⟩]
/-- laws.eqIntS -/
def G_leqIntS (x0 : List Int) (x1 : List Int) (y0 : Bool) : Prop := GivesS prog 20 [⟨.sl 3 (.int .i64), .z, x0⟩, ⟨.sl 3 (.int .i64), .z, x1⟩] [⟨.bool, .z, y0⟩] [⟨.sl 3 (.int .i64), .z, x0⟩, ⟨.sl 3 (.int .i64), .z, x1⟩]
/-- laws.toDependency -/
def G_ltoDependency (x0 : TDep) (y0 : TDep) : Prop := GivesS prog 42 [⟨h24, .z, x0⟩] [⟨h28, .pr (.own (.pr .z (.pr (.own .z) .z))) (.pr (.own (.pr .z (.pr (.own .z) .z))) .z), y0⟩] [⟨h24, .z, x0⟩]
/-- laws.toAtomS -/
def G_ltoAtomS (x0 : List TFact) (y0 : List TFact) : Prop := GivesS prog 71 [⟨h19, .z, x0⟩] [⟨h26, .own (.pr .z (.pr (.own .z) .z)), y0⟩] [⟨h19, .z, x0⟩]
/-- laws.toAtom -/
def G_ltoAtom (x0 : TFact) (y0 : TFact) : Prop := GivesS prog 18 [⟨h7, .z, x0⟩] [⟨h7, .pr .z (.pr (.own .z) .z), y0⟩] [⟨h7, .z, x0⟩]
/-- laws.toIntS -/
def G_ltoIntS (x0 : List Int) (y0 : List Int) : Prop := GivesS prog 50 [⟨.sl 3 (.int .i64), .z, x0⟩] [⟨.sl 3 (.int .i64), .own .z, y0⟩] [⟨.sl 3 (.int .i64), .z, x0⟩]
/-- impl.IsFull -/
def G_iIsFull (x0 : TDep) (y0 : Bool) : Prop := GivesS prog 43 [⟨h28, .z, x0⟩] [⟨.bool, .z, y0⟩] [⟨h28, .z, x0⟩]
/-- impl.ExistentialVariables -/
def G_iExistentialVariables (x0 : TDep) (y0 : List Int) : Prop := GivesS prog 72 [⟨h28, .z, x0⟩] [⟨.sl 3 (.int .i64), .own .z, y0⟩] [⟨h28, .z, x0⟩]
/-- impl.headVariables -/
def G_iheadVariables (x0 : TDep) (x1 : Bool) (y0 : List Int) : Prop := GivesS prog 87 [⟨h28, .z, x0⟩, ⟨.bool, .z, x1⟩] [⟨.sl 3 (.int .i64), .own .z, y0⟩] [⟨h28, .z, x0⟩, ⟨.bool, .z, x1⟩]
/-- slices.Contains[[]int,int] -/
def G_slices_Contains_int (x0 : List Int) (x1 : Int) (y0 : Bool) : Prop := GivesS prog 90 [⟨.sl 3 (.int .i64), .z, x0⟩, ⟨.int .i64, .z, x1⟩] [⟨.bool, .z, y0⟩] [⟨.sl 3 (.int .i64), .z, x0⟩, ⟨.int .i64, .z, x1⟩]
/-- slices.Index[[]int,int] -/
def G_slices_Index_int (x0 : List Int) (x1 : Int) (y0 : Int) : Prop := GivesS prog 93 [⟨.sl 3 (.int .i64), .z, x0⟩, ⟨.int .i64, .z, x1⟩] [⟨.int .i64, .z, y0⟩] [⟨.sl 3 (.int .i64), .z, x0⟩, ⟨.int .i64, .z, x1⟩]
/-- impl.Variables -/
def G_iVariables (x0 : List TFact) (y0 : List Int) : Prop := GivesS prog 89 [⟨h26, .z, x0⟩] [⟨.sl 3 (.int .i64), .own .z, y0⟩] [⟨h26, .z, x0⟩]
/-- slices.Compact[[]int,int] -/
def G_slices_Compact_int_ooz (x0 : List Int) (y0 : List Int) : Prop := GivesS prog 92 [⟨.sl 3 (.int .i64), .own .z, x0⟩] [⟨.sl 3 (.int .i64), .own .z, y0⟩] [⟨.sl 3 (.int .i64), .dead, x0⟩]
/-- slices.Sort[[]int,int] -/
def G_slices_Sort_int_ooz (x0 : List Int) (z0 : List Int) : Prop := GivesS prog 91 [⟨.sl 3 (.int .i64), .own .z, x0⟩] [] [⟨.sl 3 (.int .i64), .own .z, z0⟩]
/-- spec.IsFull -/
def G_sIsFull (x0 : TDep) (y0 : Bool) : Prop := GivesS prog 41 [⟨h28, .z, x0⟩] [⟨.bool, .z, y0⟩] [⟨h28, .z, x0⟩]
/-- spec.ExistentialVariables -/
def G_sExistentialVariables (x0 : TDep) (y0 : List Int) : Prop := GivesS prog 70 [⟨h28, .z, x0⟩] [⟨.sl 3 (.int .i64), .own .z, y0⟩] [⟨h28, .z, x0⟩]
/-- spec.l4Has -/
def G_sl4Has (x0 : List Int) (x1 : Int) (y0 : Bool) : Prop := GivesS prog 86 [⟨.sl 3 (.int .i64), .z, x0⟩, ⟨.int .i64, .z, x1⟩] [⟨.bool, .z, y0⟩] [⟨.sl 3 (.int .i64), .z, x0⟩, ⟨.int .i64, .z, x1⟩]
/-- spec.Variables -/
def G_sVariables (x0 : List TFact) (y0 : List Int) : Prop := GivesS prog 85 [⟨h26, .z, x0⟩] [⟨.sl 3 (.int .i64), .z, y0⟩] [⟨h26, .z, x0⟩]
/-- spec.l4Put -/
def G_sl4Put (x0 : List Int) (x1 : Int) (y0 : List Int) : Prop := GivesS prog 88 [⟨.sl 3 (.int .i64), .z, x0⟩, ⟨.int .i64, .z, x1⟩] [⟨.sl 3 (.int .i64), .z, y0⟩] [⟨.sl 3 (.int .i64), .z, x0⟩, ⟨.int .i64, .z, x1⟩]
/-- laws.szDependency -/
def G_lszDependency (x0 : TDep) (x1 : Int) (y0 : Int) : Prop := GivesS prog 40 [⟨h24, .z, x0⟩, ⟨.int .i64, .z, x1⟩] [⟨.int .i64, .z, y0⟩] [⟨h24, .z, x0⟩, ⟨.int .i64, .z, x1⟩]
/-- laws.szAtomS -/
def G_lszAtomS (x0 : List TFact) (x1 : Int) (y0 : Int) : Prop := GivesS prog 69 [⟨h19, .z, x0⟩, ⟨.int .i64, .z, x1⟩] [⟨.int .i64, .z, y0⟩] [⟨h19, .z, x0⟩, ⟨.int .i64, .z, x1⟩]
/-- laws.szAtom -/
def G_lszAtom (x0 : TFact) (x1 : Int) (y0 : Int) : Prop := GivesS prog 16 [⟨h7, .z, x0⟩, ⟨.int .i64, .z, x1⟩] [⟨.int .i64, .z, y0⟩] [⟨h7, .z, x0⟩, ⟨.int .i64, .z, x1⟩]
/-- laws.szIntS -/
def G_lszIntS (x0 : List Int) (x1 : Int) (y0 : Int) : Prop := GivesS prog 47 [⟨.sl 3 (.int .i64), .z, x0⟩, ⟨.int .i64, .z, x1⟩] [⟨.int .i64, .z, y0⟩] [⟨.sl 3 (.int .i64), .z, x0⟩, ⟨.int .i64, .z, x1⟩]
end Go.V
