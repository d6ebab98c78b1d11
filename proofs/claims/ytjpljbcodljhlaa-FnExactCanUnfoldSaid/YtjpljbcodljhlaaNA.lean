/-
  The functions that are reached: types, signatures, what a call of each gives.
-/
import Derived.Test.YtjpljbcodljhlaaVE
import Derived.Test.YtjpljbcodljhlaaProg
import Derived.KernelRfl
set_option linter.unusedVariables false
set_option linter.unusedSimpArgs false
set_option maxRecDepth 1000000
set_option maxHeartbeats 4000000
set_option linter.unusedVariables false
namespace Go.V
open Go Go.Proofs
abbrev h0 : Sh := .pair (.int .u8) .unit
abbrev h1 : Sh := .pair .bool h0
abbrev h2 : Sh := .pair (.int .i64) h1
abbrev h3 : Sh := .pair (.int .i64) h2
abbrev h4 : Sh := .pair (.int .u64) .unit
abbrev h5 : Sh := .pair .str h4
abbrev h6 : Sh := .pair .bool .unit
abbrev h7 : Sh := .pair (.int .i64) h6
abbrev h8 : Sh := .pair .str h7
abbrev h9 : Sh := .sl 82 h8
abbrev h10 : Sh := .pair (.sl 3 (.int .i64)) .unit
abbrev h11 : Sh := .pair (.int .i64) h10
abbrev h12 : Sh := .sl 108 h11
abbrev h13 : Sh := .pair h12 .unit
abbrev h14 : Sh := .pair h9 h13
abbrev h15 : Sh := .pair (.int .i64) h11
abbrev h16 : Sh := .sl 122 h15
abbrev h17 : Sh := .pair h16 .unit
abbrev h18 : Sh := .pair h14 h17
abbrev h19 : Sh := .sl 134 h11
abbrev h20 : Sh := .pair (.int .i64) .unit
abbrev h21 : Sh := .pair (.int .i64) h20
abbrev h22 : Sh := .pair .bool h21
abbrev h23 : Sh := .pair h19 h22
abbrev h24 : Sh := .pair h19 h23
abbrev h25 : Sh := .sl 86 h24
abbrev h26 : Sh := .pair h12 h21
abbrev h27 : Sh := .pair h25 h26
abbrev h28 : Sh := .pair h18 h27
abbrev h29 : Sh := .sl 88 h8
abbrev h30 : Sh := .sl 68 h11
abbrev h31 : Sh := .pair h30 .unit
abbrev h32 : Sh := .pair h29 h31
abbrev h33 : Sh := .sl 70 h15
abbrev h34 : Sh := .pair h33 .unit
abbrev h35 : Sh := .pair h32 h34
abbrev h36 : Sh := .sl 90 h11
abbrev h37 : Sh := .pair h36 h22
abbrev h38 : Sh := .pair h36 h37
abbrev h39 : Sh := .sl 64 h38
abbrev h40 : Sh := .pair h30 h21
abbrev h41 : Sh := .pair h39 h40
abbrev h42 : Sh := .pair h35 h41
abbrev h43 : Sh := .pair (.ptr (.sl 3 (.int .i64))) .unit
abbrev h44 : Sh := .pair (.ptr h29) .unit
noncomputable abbrev prog : Program := Try.prog
def shTab : List (Nat × Sh) := [(2, .int .i64), (3, .int .i64), (4, .bool), (5, .int .u8), (6, .int .u8), (9, .str), (10, .str), (11, .str), (12, .int .u64), (21, .int .i32), (22, h9), (23, h12), (24, h14), (25, h14), (26, h16), (27, h18), (28, h18), (29, h25), (30, h28), (31, h28), (34, h29), (35, h30), (36, h32), (37, h32), (38, h33), (39, h35), (40, h35), (41, h39), (42, h42), (43, h42), (62, h36), (63, h38), (64, h38), (66, .sl 3 (.int .i64)), (67, h11), (68, h11), (69, h15), (70, h15), (81, h8), (82, h8), (84, h19), (85, h24), (86, h24), (88, h8), (89, h11), (90, h11), (108, h11), (122, h15), (134, h11), (155, .int .u64), (157, .int .i64), (165, .int .u32), (167, .int .u64), (168, .int .u64), (172, .ptr (.int .i64)), (174, .ptr (.int .u64)), (184, .int .u8), (185, .int .u8), (187, .ptr (.int .u8)), (188, .int .i32), (189, .int .i32)]
def sigTab : List (Nat × List Sig) := [(4, [⟨[.z, .z, .z], [(.bool, .z)], [.z, .z, .z]⟩]), (13, [⟨[.z, .z], [(.int .i64, .z)], [.z, .z]⟩]), (14, [⟨[.z, .z], [(.int .i64, .z)], [.z, .z]⟩]), (15, [⟨[.z, .z, .z], [(.bool, .z)], [.z, .z, .z]⟩]), (16, [⟨[.z], [(h29, .own .z)], [.z]⟩]), (17, [⟨[.z], [(h39, .own (.pr (.own (.pr .z (.pr (.own .z) .z))) (.pr (.own (.pr .z (.pr (.own .z) .z))) .z)))], [.z]⟩]), (18, [⟨[.z, .z, .z], [(.bool, .z)], [.z, .z, .z]⟩]), (19, [⟨[.z, .z], [(.bool, .z)], [.z, .z]⟩]), (20, [⟨[.z, .z], [(.bool, .z)], [.z, .z]⟩]), (45, [⟨[.z, .z], [(.int .i64, .z)], [.z, .z]⟩]), (46, [⟨[.z, .z], [(.int .i64, .z)], [.z, .z]⟩]), (47, [⟨[.z, .z], [(.bool, .z)], [.z, .z]⟩]), (48, [⟨[.z], [(.bool, .z)], [.z]⟩]), (49, [⟨[.z], [(h8, .z)], [.z]⟩]), (50, [⟨[.z], [(h38, .pr (.own (.pr .z (.pr (.own .z) .z))) (.pr (.own (.pr .z (.pr (.own .z) .z))) .z))], [.z]⟩]), (51, [⟨[.z, .z], [(.bool, .z)], [.z, .z]⟩]), (52, [⟨[.z], [(.bool, .z)], [.z]⟩]), (53, [⟨[.z, .z], [(.bool, .z)], [.z, .z]⟩]), (54, [⟨[.z, .z], [(.bool, .z)], [.z, .z]⟩]), (55, [⟨[.z, .z], [(.bool, .z)], [.z, .z]⟩]), (56, [⟨[.z, .z], [(.bool, .z)], [.z, .z]⟩]), (57, [⟨[.z, .z], [(.bool, .z)], [.z, .z]⟩]), (58, [⟨[.z, .z], [(.bool, .z)], [.z, .z]⟩]), (80, [⟨[.z, .z], [(.int .i64, .z)], [.z, .z]⟩]), (81, [⟨[.z, .z], [(.bool, .z)], [.z, .z]⟩]), (82, [⟨[.z], [(.bool, .z)], [.z]⟩]), (83, [⟨[.z], [(.sl 3 (.int .i64), .own .z)], [.z]⟩]), (84, [⟨[.z], [(h36, .own (.pr .z (.pr (.own .z) .z)))], [.z]⟩]), (85, [⟨[.z], [(.bool, .z)], [.z]⟩]), (86, [⟨[.z, .z], [(.bool, .z)], [.z, .z]⟩]), (87, [⟨[.z, .z], [(.bool, .z)], [.z, .z]⟩]), (88, [⟨[.z, .z], [(.bool, .z)], [.z, .z]⟩]), (89, [⟨[.z], [(.sl 3 (.int .i64), .own .z)], [.z]⟩]), (90, [⟨[.z, .z], [(.int .i64, .z)], [.z, .z]⟩]), (91, [⟨[.z, .z], [(.int .i64, .z)], [.z, .z]⟩]), (92, [⟨[.z, .z], [(.bool, .z)], [.z, .z]⟩]), (95, [⟨[.z, .z, .z], [(.bool, .z)], [.z, .z, .z]⟩]), (104, [⟨[.z, .z, .z], [(.bool, .z)], [.z, .z, .z]⟩]), (105, [⟨[.z, .z], [(.int .i64, .z)], [.z, .z]⟩]), (106, [⟨[.z], [(.sl 3 (.int .i64), .own .z)], [.z]⟩]), (110, [⟨[.z, .z], [(.bool, .z)], [.z, .z]⟩]), (111, [⟨[.z, .z], [(.int .i64, .z)], [.z, .z]⟩]), (112, [⟨[.z, .z], [(.bool, .z)], [.z, .z]⟩]), (113, [⟨[.z], [(.sl 3 (.int .i64), .z)], [.z]⟩]), (114, [⟨[.z, .z], [(.bool, .z)], [.z, .z]⟩]), (115, [⟨[.z], [(.bool, .z)], [.z]⟩]), (116, [⟨[.z], [(h11, .pr .z (.pr (.own .z) .z))], [.z]⟩]), (117, [⟨[.z], [(.bool, .z)], [.z]⟩]), (118, [⟨[.z, .z], [(.int .i64, .z)], [.z, .z]⟩]), (119, [⟨[.z, .z, .z], [(.bool, .z)], [.z, .z, .z]⟩]), (120, [⟨[.z], [(.sl 3 (.int .i64), .own .z)], [.z]⟩]), (121, [⟨[.z, .z], [(.bool, .z)], [.z, .z]⟩]), (122, [⟨[.z, .z], [(.sl 3 (.int .i64), .own .z)], [.z, .z]⟩]), (123, [⟨[.z, .z], [(.bool, .z)], [.z, .z]⟩]), (125, [⟨[.z, .z], [(.sl 3 (.int .i64), .z)], [.z, .z]⟩]), (132, [⟨[.z, .z], [(.bool, .z)], [.z, .z]⟩]), (136, [⟨[.z, .z], [(.bool, .z)], [.z, .z]⟩]), (137, [⟨[.z, .z], [(.bool, .z)], [.z, .z]⟩]), (138, [⟨[.own .z], [], [.own .z]⟩]), (139, [⟨[.own .z], [(.sl 3 (.int .i64), .own .z)], [.dead]⟩]), (146, [⟨[.z, .z], [(.int .i64, .z)], [.z, .z]⟩]), (147, [⟨[.z], [(.bool, .z)], [.z]⟩])]
def parTab : List (Nat × List (Option Sh)) := [(4, [some (h9), some (h25), some (h25)]), (13, [some (h9), some (.int .i64)]), (14, [some (h25), some (.int .i64)]), (15, [some (h29), some (h39), some (h39)]), (16, [some (h9)]), (17, [some (h25)]), (18, [some (h29), some (h39), some (h39)]), (19, [some (h29), some (h29)]), (20, [some (h39), some (h39)]), (45, [some (h8), some (.int .i64)]), (46, [some (h24), some (.int .i64)]), (47, [some (h29), some (h39)]), (48, [some (h38)]), (49, [some (h8)]), (50, [some (h24)]), (51, [some (h29), some (h39)]), (52, [some (h38)]), (53, [some (h36), none]), (54, [some (h11)]), (55, [some (h11)]), (56, [some (.sl 3 (.int .i64)), some (.int .i64)]), (57, [some (h8), some (h8)]), (58, [some (h38), some (h38)]), (80, [some (h19), some (.int .i64)]), (81, [some (h29), some (h38)]), (82, [some (h29)]), (83, [some (h38)]), (84, [some (h19)]), (85, [some (h29)]), (86, [some (h39), none]), (87, [some (h38)]), (88, [some (h29), some (h38)]), (89, [some (h38)]), (90, [some (h36), none]), (91, [some (.sl 3 (.int .i64)), some (.int .i64)]), (92, [some (h36), some (h36)]), (95, [some (.int .i64), some (.int .i64), some (.int .i64)]), (104, [some (.int .i64), some (.int .i64), some (.int .i64)]), (105, [some (.sl 3 (.int .i64)), some (.int .i64)]), (106, [some (.sl 3 (.int .i64))]), (110, [some (.sl 3 (.int .i64)), some (.sl 3 (.int .i64))]), (111, [some (h11), some (.int .i64)]), (112, [some (h29), some (h11)]), (113, [some (h36)]), (114, [some (.sl 3 (.int .i64)), some (.int .i64)]), (115, [some (h8)]), (116, [some (h11)]), (117, [some (h8)]), (118, [some (h39), none]), (119, [some (h29), some (h36), some (.int .i64)]), (120, [some (h36)]), (121, [some (h11)]), (122, [some (h38), some (.bool)]), (123, [some (h11), some (h11)]), (125, [some (.sl 3 (.int .i64)), some (.int .i64)]), (132, [some (.sl 3 (.int .i64)), none]), (136, [some (h11)]), (137, [some (h29), some (h11)]), (138, [some (.sl 3 (.int .i64))]), (139, [some (.sl 3 (.int .i64))]), (146, [some (.sl 3 (.int .i64)), none]), (147, [some (.int .i64)])]
noncomputable def E : Env := { sh := fun t => look t shTab, sigs := fun f => (look f sigTab).getD [], params := fun f => (look f parTab).getD [], gives := GivesS prog }
theorem types_ok : ∀ t s, E.sh t = some s → ShOk prog s none t := tab_ok (by kernel_rfl)
theorem mixed : prog.follows .mixedOrders = true := by kernel_rfl
/-- laws.FnExactCanUnfold -/
def G_lFnExactCanUnfold (x0 : List TRel) (x1 : List TDep) (x2 : List TDep) (y0 : Bool) : Prop := GivesS prog 4 [⟨h9, .z, x0⟩, ⟨h25, .z, x1⟩, ⟨h25, .z, x2⟩] [⟨.bool, .z, y0⟩] [⟨h9, .z, x0⟩, ⟨h25, .z, x1⟩, ⟨h25, .z, x2⟩]
/-- laws.eqDependencyS -/
def G_leqDependencyS (x0 : List TDep) (x1 : List TDep) (y0 : Bool) : Prop := GivesS prog 20 [⟨h39, .z, x0⟩, ⟨h39, .z, x1⟩] [⟨.bool, .z, y0⟩] [⟨h39, .z, x0⟩, ⟨h39, .z, x1⟩]
/-- laws.eqDependency -/
def G_leqDependency (x0 : TDep) (x1 : TDep) (y0 : Bool) : Prop := GivesS prog 58 [⟨h38, .z, x0⟩, ⟨h38, .z, x1⟩] [⟨.bool, .z, y0⟩] [⟨h38, .z, x0⟩, ⟨h38, .z, x1⟩]
/-- laws.eqAtomS -/
def G_leqAtomS (x0 : List TFact) (x1 : List TFact) (y0 : Bool) : Prop := GivesS prog 92 [⟨h36, .z, x0⟩, ⟨h36, .z, x1⟩] [⟨.bool, .z, y0⟩] [⟨h36, .z, x0⟩, ⟨h36, .z, x1⟩]
/-- laws.eqAtom -/
def G_leqAtom (x0 : TFact) (x1 : TFact) (y0 : Bool) : Prop := GivesS prog 123 [⟨h11, .z, x0⟩, ⟨h11, .z, x1⟩] [⟨.bool, .z, y0⟩] [⟨h11, .z, x0⟩, ⟨h11, .z, x1⟩]
/-- laws.eqIntS -/
def G_leqIntS (x0 : List Int) (x1 : List Int) (y0 : Bool) : Prop := GivesS prog 110 [⟨.sl 3 (.int .i64), .z, x0⟩, ⟨.sl 3 (.int .i64), .z, x1⟩] [⟨.bool, .z, y0⟩] [⟨.sl 3 (.int .i64), .z, x0⟩, ⟨.sl 3 (.int .i64), .z, x1⟩]
/-- laws.toDependencyS -/
def G_ltoDependencyS (x0 : List TDep) (y0 : List TDep) : Prop := GivesS prog 17 [⟨h25, .z, x0⟩] [⟨h39, .own (.pr (.own (.pr .z (.pr (.own .z) .z))) (.pr (.own (.pr .z (.pr (.own .z) .z))) .z)), y0⟩] [⟨h25, .z, x0⟩]
/-- laws.toDependency -/
def G_ltoDependency (x0 : TDep) (y0 : TDep) : Prop := GivesS prog 50 [⟨h24, .z, x0⟩] [⟨h38, .pr (.own (.pr .z (.pr (.own .z) .z))) (.pr (.own (.pr .z (.pr (.own .z) .z))) .z), y0⟩] [⟨h24, .z, x0⟩]
/-- laws.toAtomS -/
def G_ltoAtomS (x0 : List TFact) (y0 : List TFact) : Prop := GivesS prog 84 [⟨h19, .z, x0⟩] [⟨h36, .own (.pr .z (.pr (.own .z) .z)), y0⟩] [⟨h19, .z, x0⟩]
/-- laws.toAtom -/
def G_ltoAtom (x0 : TFact) (y0 : TFact) : Prop := GivesS prog 116 [⟨h11, .z, x0⟩] [⟨h11, .pr .z (.pr (.own .z) .z), y0⟩] [⟨h11, .z, x0⟩]
/-- laws.toIntS -/
def G_ltoIntS (x0 : List Int) (y0 : List Int) : Prop := GivesS prog 106 [⟨.sl 3 (.int .i64), .z, x0⟩] [⟨.sl 3 (.int .i64), .own .z, y0⟩] [⟨.sl 3 (.int .i64), .z, x0⟩]
/-- laws.eqRelationS -/
def G_leqRelationS (x0 : List TRel) (x1 : List TRel) (y0 : Bool) : Prop := GivesS prog 19 [⟨h29, .z, x0⟩, ⟨h29, .z, x1⟩] [⟨.bool, .z, y0⟩] [⟨h29, .z, x0⟩, ⟨h29, .z, x1⟩]
/-- laws.eqRelation -/
def G_leqRelation (x0 : TRel) (x1 : TRel) (y0 : Bool) : Prop := GivesS prog 57 [⟨h8, .z, x0⟩, ⟨h8, .z, x1⟩] [⟨.bool, .z, y0⟩] [⟨h8, .z, x0⟩, ⟨h8, .z, x1⟩]
/-- laws.toRelationS -/
def G_ltoRelationS (x0 : List TRel) (y0 : List TRel) : Prop := GivesS prog 16 [⟨h9, .z, x0⟩] [⟨h29, .own .z, y0⟩] [⟨h9, .z, x0⟩]
/-- laws.toRelation -/
def G_ltoRelation (x0 : TRel) (y0 : TRel) : Prop := GivesS prog 49 [⟨h8, .z, x0⟩] [⟨h8, .z, y0⟩] [⟨h8, .z, x0⟩]
/-- impl.CanUnfold -/
def G_iCanUnfold (x0 : List TRel) (x1 : List TDep) (x2 : List TDep) (y0 : Bool) : Prop := GivesS prog 18 [⟨h29, .z, x0⟩, ⟨h39, .z, x1⟩, ⟨h39, .z, x2⟩] [⟨.bool, .z, y0⟩] [⟨h29, .z, x0⟩, ⟨h39, .z, x1⟩, ⟨h39, .z, x2⟩]
/-- slices.ContainsFunc[[]impl.Atom,impl.Atom] -/
def G_slices_ContainsFunc_Atom_c_iCanUnfold_2 (x0 : List TFact) (x1 : TUf) (y0 : Bool) : Prop := GivesS prog 53 [⟨h36, .z, x0⟩, ⟨.fn 55 h43, .z, x1⟩] [⟨.bool, .z, y0⟩] [⟨h36, .z, x0⟩, ⟨.fn 55 h43, .z, x1⟩]
/-- slices.IndexFunc[[]impl.Atom,impl.Atom] -/
def G_slices_IndexFunc_Atom_c_iCanUnfold_2 (x0 : List TFact) (x1 : TUf) (y0 : Int) : Prop := GivesS prog 90 [⟨h36, .z, x0⟩, ⟨.fn 55 h43, .z, x1⟩] [⟨.int .i64, .z, y0⟩] [⟨h36, .z, x0⟩, ⟨.fn 55 h43, .z, x1⟩]
/-- impl.CanUnfold$2 -/
def G_iCanUnfold_2 (x0 : TFact) (x1 : List Int) (y0 : Bool) : Prop := GivesS prog 55 [⟨h11, .z, x0⟩, ⟨.ptr (.sl 3 (.int .i64)), .z, x1⟩] [⟨.bool, .z, y0⟩] [⟨h11, .z, x0⟩, ⟨.ptr (.sl 3 (.int .i64)), .z, x1⟩]
/-- slices.Contains[[]int,int] -/
def G_slices_Contains_int (x0 : List Int) (x1 : Int) (y0 : Bool) : Prop := GivesS prog 56 [⟨.sl 3 (.int .i64), .z, x0⟩, ⟨.int .i64, .z, x1⟩] [⟨.bool, .z, y0⟩] [⟨.sl 3 (.int .i64), .z, x0⟩, ⟨.int .i64, .z, x1⟩]
/-- slices.Index[[]int,int] -/
def G_slices_Index_int (x0 : List Int) (x1 : Int) (y0 : Int) : Prop := GivesS prog 91 [⟨.sl 3 (.int .i64), .z, x0⟩, ⟨.int .i64, .z, x1⟩] [⟨.int .i64, .z, y0⟩] [⟨.sl 3 (.int .i64), .z, x0⟩, ⟨.int .i64, .z, x1⟩]
/-- slices.ContainsFunc[[]impl.Atom,impl.Atom] -/
def G_slices_ContainsFunc_Atom_c_iCanUnfold_1 (x0 : List TFact) (x1 : List TRel × Unit) (y0 : Bool) : Prop := GivesS prog 53 [⟨h36, .z, x0⟩, ⟨.fn 54 h44, .z, x1⟩] [⟨.bool, .z, y0⟩] [⟨h36, .z, x0⟩, ⟨.fn 54 h44, .z, x1⟩]
/-- slices.IndexFunc[[]impl.Atom,impl.Atom] -/
def G_slices_IndexFunc_Atom_c_iCanUnfold_1 (x0 : List TFact) (x1 : List TRel × Unit) (y0 : Int) : Prop := GivesS prog 90 [⟨h36, .z, x0⟩, ⟨.fn 54 h44, .z, x1⟩] [⟨.int .i64, .z, y0⟩] [⟨h36, .z, x0⟩, ⟨.fn 54 h44, .z, x1⟩]
/-- impl.CanUnfold$1 -/
def G_iCanUnfold_1 (x0 : TFact) (x1 : List TRel) (y0 : Bool) : Prop := GivesS prog 54 [⟨h11, .z, x0⟩, ⟨.ptr h29, .z, x1⟩] [⟨.bool, .z, y0⟩] [⟨h11, .z, x0⟩, ⟨.ptr h29, .z, x1⟩]
/-- impl.IsFull -/
def G_iIsFull (x0 : TDep) (y0 : Bool) : Prop := GivesS prog 52 [⟨h38, .z, x0⟩] [⟨.bool, .z, y0⟩] [⟨h38, .z, x0⟩]
/-- impl.ExistentialVariables -/
def G_iExistentialVariables (x0 : TDep) (y0 : List Int) : Prop := GivesS prog 89 [⟨h38, .z, x0⟩] [⟨.sl 3 (.int .i64), .own .z, y0⟩] [⟨h38, .z, x0⟩]
/-- impl.headVariables -/
def G_iheadVariables (x0 : TDep) (x1 : Bool) (y0 : List Int) : Prop := GivesS prog 122 [⟨h38, .z, x0⟩, ⟨.bool, .z, x1⟩] [⟨.sl 3 (.int .i64), .own .z, y0⟩] [⟨h38, .z, x0⟩, ⟨.bool, .z, x1⟩]
/-- impl.Variables -/
def G_iVariables (x0 : List TFact) (y0 : List Int) : Prop := GivesS prog 120 [⟨h36, .z, x0⟩] [⟨.sl 3 (.int .i64), .own .z, y0⟩] [⟨h36, .z, x0⟩]
/-- slices.Compact[[]int,int] -/
def G_slices_Compact_int_ooz (x0 : List Int) (y0 : List Int) : Prop := GivesS prog 139 [⟨.sl 3 (.int .i64), .own .z, x0⟩] [⟨.sl 3 (.int .i64), .own .z, y0⟩] [⟨.sl 3 (.int .i64), .dead, x0⟩]
/-- slices.Sort[[]int,int] -/
def G_slices_Sort_int_ooz (x0 : List Int) (z0 : List Int) : Prop := GivesS prog 138 [⟨.sl 3 (.int .i64), .own .z, x0⟩] [] [⟨.sl 3 (.int .i64), .own .z, z0⟩]
/-- impl.AreValidDependencies -/
def G_iAreValidDependencies (x0 : List TRel) (x1 : List TDep) (y0 : Bool) : Prop := GivesS prog 51 [⟨h29, .z, x0⟩, ⟨h39, .z, x1⟩] [⟨.bool, .z, y0⟩] [⟨h29, .z, x0⟩, ⟨h39, .z, x1⟩]
/-- slices.ContainsFunc[[]impl.Dependency,impl.Dependency] -/
def G_slices_ContainsFunc_Dependency_c_iAreValidDependencies_1 (x0 : List TDep) (x1 : List TRel × Unit) (y0 : Bool) : Prop := GivesS prog 86 [⟨h39, .z, x0⟩, ⟨.fn 87 h44, .z, x1⟩] [⟨.bool, .z, y0⟩] [⟨h39, .z, x0⟩, ⟨.fn 87 h44, .z, x1⟩]
/-- slices.IndexFunc[[]impl.Dependency,impl.Dependency] -/
def G_slices_IndexFunc_Dependency_c_iAreValidDependencies_1 (x0 : List TDep) (x1 : List TRel × Unit) (y0 : Int) : Prop := GivesS prog 118 [⟨h39, .z, x0⟩, ⟨.fn 87 h44, .z, x1⟩] [⟨.int .i64, .z, y0⟩] [⟨h39, .z, x0⟩, ⟨.fn 87 h44, .z, x1⟩]
/-- impl.AreValidDependencies$1 -/
def G_iAreValidDependencies_1 (x0 : TDep) (x1 : List TRel) (y0 : Bool) : Prop := GivesS prog 87 [⟨h38, .z, x0⟩, ⟨.ptr h29, .z, x1⟩] [⟨.bool, .z, y0⟩] [⟨h38, .z, x0⟩, ⟨.ptr h29, .z, x1⟩]
/-- impl.IsValidDependency -/
def G_iIsValidDependency (x0 : List TRel) (x1 : TDep) (y0 : Bool) : Prop := GivesS prog 88 [⟨h29, .z, x0⟩, ⟨h38, .z, x1⟩] [⟨.bool, .z, y0⟩] [⟨h29, .z, x0⟩, ⟨h38, .z, x1⟩]
/-- slices.ContainsFunc[[]impl.Atom,impl.Atom] -/
def G_slices_ContainsFunc_Atom_c_iIsValidDependency_1 (x0 : List TFact) (x1 : List TRel × Unit) (y0 : Bool) : Prop := GivesS prog 53 [⟨h36, .z, x0⟩, ⟨.fn 121 h44, .z, x1⟩] [⟨.bool, .z, y0⟩] [⟨h36, .z, x0⟩, ⟨.fn 121 h44, .z, x1⟩]
/-- slices.IndexFunc[[]impl.Atom,impl.Atom] -/
def G_slices_IndexFunc_Atom_c_iIsValidDependency_1 (x0 : List TFact) (x1 : List TRel × Unit) (y0 : Int) : Prop := GivesS prog 90 [⟨h36, .z, x0⟩, ⟨.fn 121 h44, .z, x1⟩] [⟨.int .i64, .z, y0⟩] [⟨h36, .z, x0⟩, ⟨.fn 121 h44, .z, x1⟩]
/-- impl.IsValidDependency$1 -/
def G_iIsValidDependency_1 (x0 : TFact) (x1 : List TRel) (y0 : Bool) : Prop := GivesS prog 121 [⟨h11, .z, x0⟩, ⟨.ptr h29, .z, x1⟩] [⟨.bool, .z, y0⟩] [⟨h11, .z, x0⟩, ⟨.ptr h29, .z, x1⟩]
/-- impl.areAtoms -/
def G_iareAtoms (x0 : List TRel) (x1 : List TFact) (x2 : Int) (y0 : Bool) : Prop := GivesS prog 119 [⟨h29, .z, x0⟩, ⟨h36, .z, x1⟩, ⟨.int .i64, .z, x2⟩] [⟨.bool, .z, y0⟩] [⟨h29, .z, x0⟩, ⟨h36, .z, x1⟩, ⟨.int .i64, .z, x2⟩]
/-- slices.ContainsFunc[[]impl.Atom,impl.Atom] -/
def G_slices_ContainsFunc_Atom_c_iareAtoms_1 (x0 : List TFact) (x1 : List TRel × Unit) (y0 : Bool) : Prop := GivesS prog 53 [⟨h36, .z, x0⟩, ⟨.fn 136 h44, .z, x1⟩] [⟨.bool, .z, y0⟩] [⟨h36, .z, x0⟩, ⟨.fn 136 h44, .z, x1⟩]
/-- slices.IndexFunc[[]impl.Atom,impl.Atom] -/
def G_slices_IndexFunc_Atom_c_iareAtoms_1 (x0 : List TFact) (x1 : List TRel × Unit) (y0 : Int) : Prop := GivesS prog 90 [⟨h36, .z, x0⟩, ⟨.fn 136 h44, .z, x1⟩] [⟨.int .i64, .z, y0⟩] [⟨h36, .z, x0⟩, ⟨.fn 136 h44, .z, x1⟩]
/-- impl.areAtoms$1 -/
def G_iareAtoms_1 (x0 : TFact) (x1 : List TRel) (y0 : Bool) : Prop := GivesS prog 136 [⟨h11, .z, x0⟩, ⟨.ptr h29, .z, x1⟩] [⟨.bool, .z, y0⟩] [⟨h11, .z, x0⟩, ⟨.ptr h29, .z, x1⟩]
/-- impl.IsValidAtom -/
def G_iIsValidAtom (x0 : List TRel) (x1 : TFact) (y0 : Bool) : Prop := GivesS prog 137 [⟨h29, .z, x0⟩, ⟨h11, .z, x1⟩] [⟨.bool, .z, y0⟩] [⟨h29, .z, x0⟩, ⟨h11, .z, x1⟩]
/-- slices.ContainsFunc[[]int,int] -/
def G_slices_ContainsFunc_int_c_iIsValidAtom_1 (x0 : List Int) (x1 : Unit) (y0 : Bool) : Prop := GivesS prog 132 [⟨.sl 3 (.int .i64), .z, x0⟩, ⟨.fn 147 .unit, .z, x1⟩] [⟨.bool, .z, y0⟩] [⟨.sl 3 (.int .i64), .z, x0⟩, ⟨.fn 147 .unit, .z, x1⟩]
/-- slices.IndexFunc[[]int,int] -/
def G_slices_IndexFunc_int_c_iIsValidAtom_1 (x0 : List Int) (x1 : Unit) (y0 : Int) : Prop := GivesS prog 146 [⟨.sl 3 (.int .i64), .z, x0⟩, ⟨.fn 147 .unit, .z, x1⟩] [⟨.int .i64, .z, y0⟩] [⟨.sl 3 (.int .i64), .z, x0⟩, ⟨.fn 147 .unit, .z, x1⟩]
/-- impl.IsValidAtom$1 -/
def G_iIsValidAtom_1 (x0 : Int) (y0 : Bool) : Prop := GivesS prog 147 [⟨.int .i64, .z, x0⟩] [⟨.bool, .z, y0⟩] [⟨.int .i64, .z, x0⟩]
/-- impl.within -/
def G_iwithin (x0 : Int) (x1 : Int) (x2 : Int) (y0 : Bool) : Prop := GivesS prog 104 [⟨.int .i64, .z, x0⟩, ⟨.int .i64, .z, x1⟩, ⟨.int .i64, .z, x2⟩] [⟨.bool, .z, y0⟩] [⟨.int .i64, .z, x0⟩, ⟨.int .i64, .z, x1⟩, ⟨.int .i64, .z, x2⟩]
/-- impl.AreValidRelations -/
def G_iAreValidRelations (x0 : List TRel) (y0 : Bool) : Prop := GivesS prog 85 [⟨h29, .z, x0⟩] [⟨.bool, .z, y0⟩] [⟨h29, .z, x0⟩]
/-- impl.IsValidRelation -/
def G_iIsValidRelation (x0 : TRel) (y0 : Bool) : Prop := GivesS prog 117 [⟨h8, .z, x0⟩] [⟨.bool, .z, y0⟩] [⟨h8, .z, x0⟩]
/-- spec.CanUnfold -/
def G_sCanUnfold (x0 : List TRel) (x1 : List TDep) (x2 : List TDep) (y0 : Bool) : Prop := GivesS prog 15 [⟨h29, .z, x0⟩, ⟨h39, .z, x1⟩, ⟨h39, .z, x2⟩] [⟨.bool, .z, y0⟩] [⟨h29, .z, x0⟩, ⟨h39, .z, x1⟩, ⟨h39, .z, x2⟩]
/-- spec.IsFull -/
def G_sIsFull (x0 : TDep) (y0 : Bool) : Prop := GivesS prog 48 [⟨h38, .z, x0⟩] [⟨.bool, .z, y0⟩] [⟨h38, .z, x0⟩]
/-- spec.ExistentialVariables -/
def G_sExistentialVariables (x0 : TDep) (y0 : List Int) : Prop := GivesS prog 83 [⟨h38, .z, x0⟩] [⟨.sl 3 (.int .i64), .own .z, y0⟩] [⟨h38, .z, x0⟩]
/-- spec.l4Has -/
def G_sl4Has (x0 : List Int) (x1 : Int) (y0 : Bool) : Prop := GivesS prog 114 [⟨.sl 3 (.int .i64), .z, x0⟩, ⟨.int .i64, .z, x1⟩] [⟨.bool, .z, y0⟩] [⟨.sl 3 (.int .i64), .z, x0⟩, ⟨.int .i64, .z, x1⟩]
/-- spec.Variables -/
def G_sVariables (x0 : List TFact) (y0 : List Int) : Prop := GivesS prog 113 [⟨h36, .z, x0⟩] [⟨.sl 3 (.int .i64), .z, y0⟩] [⟨h36, .z, x0⟩]
/-- spec.l4Put -/
def G_sl4Put (x0 : List Int) (x1 : Int) (y0 : List Int) : Prop := GivesS prog 125 [⟨.sl 3 (.int .i64), .z, x0⟩, ⟨.int .i64, .z, x1⟩] [⟨.sl 3 (.int .i64), .z, y0⟩] [⟨.sl 3 (.int .i64), .z, x0⟩, ⟨.int .i64, .z, x1⟩]
/-- spec.AreValidDependencies -/
def G_sAreValidDependencies (x0 : List TRel) (x1 : List TDep) (y0 : Bool) : Prop := GivesS prog 47 [⟨h29, .z, x0⟩, ⟨h39, .z, x1⟩] [⟨.bool, .z, y0⟩] [⟨h29, .z, x0⟩, ⟨h39, .z, x1⟩]
/-- spec.AreValidRelations -/
def G_sAreValidRelations (x0 : List TRel) (y0 : Bool) : Prop := GivesS prog 82 [⟨h29, .z, x0⟩] [⟨.bool, .z, y0⟩] [⟨h29, .z, x0⟩]
/-- spec.IsValidRelation -/
def G_sIsValidRelation (x0 : TRel) (y0 : Bool) : Prop := GivesS prog 115 [⟨h8, .z, x0⟩] [⟨.bool, .z, y0⟩] [⟨h8, .z, x0⟩]
/-- spec.l1In -/
def G_sl1In (x0 : Int) (x1 : Int) (x2 : Int) (y0 : Bool) : Prop := GivesS prog 95 [⟨.int .i64, .z, x0⟩, ⟨.int .i64, .z, x1⟩, ⟨.int .i64, .z, x2⟩] [⟨.bool, .z, y0⟩] [⟨.int .i64, .z, x0⟩, ⟨.int .i64, .z, x1⟩, ⟨.int .i64, .z, x2⟩]
/-- spec.IsValidDependency -/
def G_sIsValidDependency (x0 : List TRel) (x1 : TDep) (y0 : Bool) : Prop := GivesS prog 81 [⟨h29, .z, x0⟩, ⟨h38, .z, x1⟩] [⟨.bool, .z, y0⟩] [⟨h29, .z, x0⟩, ⟨h38, .z, x1⟩]
/-- spec.IsValidAtom -/
def G_sIsValidAtom (x0 : List TRel) (x1 : TFact) (y0 : Bool) : Prop := GivesS prog 112 [⟨h29, .z, x0⟩, ⟨h11, .z, x1⟩] [⟨.bool, .z, y0⟩] [⟨h29, .z, x0⟩, ⟨h11, .z, x1⟩]
/-- laws.szDependencyS -/
def G_lszDependencyS (x0 : List TDep) (x1 : Int) (y0 : Int) : Prop := GivesS prog 14 [⟨h25, .z, x0⟩, ⟨.int .i64, .z, x1⟩] [⟨.int .i64, .z, y0⟩] [⟨h25, .z, x0⟩, ⟨.int .i64, .z, x1⟩]
/-- laws.szDependency -/
def G_lszDependency (x0 : TDep) (x1 : Int) (y0 : Int) : Prop := GivesS prog 46 [⟨h24, .z, x0⟩, ⟨.int .i64, .z, x1⟩] [⟨.int .i64, .z, y0⟩] [⟨h24, .z, x0⟩, ⟨.int .i64, .z, x1⟩]
/-- laws.szAtomS -/
def G_lszAtomS (x0 : List TFact) (x1 : Int) (y0 : Int) : Prop := GivesS prog 80 [⟨h19, .z, x0⟩, ⟨.int .i64, .z, x1⟩] [⟨.int .i64, .z, y0⟩] [⟨h19, .z, x0⟩, ⟨.int .i64, .z, x1⟩]
/-- laws.szAtom -/
def G_lszAtom (x0 : TFact) (x1 : Int) (y0 : Int) : Prop := GivesS prog 111 [⟨h11, .z, x0⟩, ⟨.int .i64, .z, x1⟩] [⟨.int .i64, .z, y0⟩] [⟨h11, .z, x0⟩, ⟨.int .i64, .z, x1⟩]
/-- laws.szIntS -/
def G_lszIntS (x0 : List Int) (x1 : Int) (y0 : Int) : Prop := GivesS prog 105 [⟨.sl 3 (.int .i64), .z, x0⟩, ⟨.int .i64, .z, x1⟩] [⟨.int .i64, .z, y0⟩] [⟨.sl 3 (.int .i64), .z, x0⟩, ⟨.int .i64, .z, x1⟩]
/-- laws.szRelationS -/
def G_lszRelationS (x0 : List TRel) (x1 : Int) (y0 : Int) : Prop := GivesS prog 13 [⟨h9, .z, x0⟩, ⟨.int .i64, .z, x1⟩] [⟨.int .i64, .z, y0⟩] [⟨h9, .z, x0⟩, ⟨.int .i64, .z, x1⟩]
/-- laws.szRelation -/
def G_lszRelation (x0 : TRel) (x1 : Int) (y0 : Int) : Prop := GivesS prog 45 [⟨h8, .z, x0⟩, ⟨.int .i64, .z, x1⟩] [⟨.int .i64, .z, y0⟩] [⟨h8, .z, x0⟩, ⟨.int .i64, .z, x1⟩]
end Go.V
