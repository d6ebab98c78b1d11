/-
  The functions that are reached: types, signatures, what a call of each gives.
-/
import Derived.Test.YtjpljbcodljhlaaVE
import Derived.Test.YtjpljbcodljhlaaProg
import Derived.KernelRfl
set_option linter.unusedVariables false
set_option linter.unusedSimpArgs false
set_option maxRecDepth 1000000
set_option maxHeartbeats 4000000
set_option linter.unusedVariables false
namespace Go.V
open Go Go.Proofs
abbrev h0 : Sh := .pair (.int .u8) .unit
abbrev h1 : Sh := .pair .bool h0
abbrev h2 : Sh := .pair (.int .i64) h1
abbrev h3 : Sh := .pair (.int .i64) h2
abbrev h4 : Sh := .pair (.int .u64) .unit
abbrev h5 : Sh := .pair .str h4
abbrev h6 : Sh := .pair .bool .unit
abbrev h7 : Sh := .pair (.int .i64) h6
abbrev h8 : Sh := .pair .str h7
abbrev h9 : Sh := .sl 82 h8
abbrev h10 : Sh := .pair (.sl 3 (.int .i64)) .unit
abbrev h11 : Sh := .pair (.int .i64) h10
abbrev h12 : Sh := .sl 108 h11
abbrev h13 : Sh := .pair h12 .unit
abbrev h14 : Sh := .pair h9 h13
abbrev h15 : Sh := .pair (.int .i64) h11
abbrev h16 : Sh := .sl 122 h15
abbrev h17 : Sh := .pair h16 .unit
abbrev h18 : Sh := .pair h14 h17
abbrev h19 : Sh := .sl 134 h11
abbrev h20 : Sh := .pair (.int .i64) .unit
abbrev h21 : Sh := .pair (.int .i64) h20
abbrev h22 : Sh := .pair .bool h21
abbrev h23 : Sh := .pair h19 h22
abbrev h24 : Sh := .pair h19 h23
abbrev h25 : Sh := .sl 86 h24
abbrev h26 : Sh := .pair h12 h21
abbrev h27 : Sh := .pair h25 h26
abbrev h28 : Sh := .pair h18 h27
abbrev h29 : Sh := .sl 88 h8
abbrev h30 : Sh := .sl 68 h11
abbrev h31 : Sh := .pair h30 .unit
abbrev h32 : Sh := .pair h29 h31
abbrev h33 : Sh := .sl 70 h15
abbrev h34 : Sh := .pair h33 .unit
abbrev h35 : Sh := .pair h32 h34
abbrev h36 : Sh := .sl 90 h11
abbrev h37 : Sh := .pair h36 h22
abbrev h38 : Sh := .pair h36 h37
abbrev h39 : Sh := .sl 64 h38
abbrev h40 : Sh := .pair h30 h21
abbrev h41 : Sh := .pair h39 h40
abbrev h42 : Sh := .pair h35 h41
noncomputable abbrev prog : Program := Try.prog
def shTab : List (Nat × Sh) := [(2, .int .i64), (3, .int .i64), (4, .bool), (5, .int .u8), (6, .int .u8), (9, .str), (10, .str), (11, .str), (12, .int .u64), (21, .int .i32), (22, h9), (23, h12), (24, h14), (25, h14), (26, h16), (27, h18), (28, h18), (29, h25), (30, h28), (31, h28), (34, h29), (35, h30), (36, h32), (37, h32), (38, h33), (39, h35), (40, h35), (41, h39), (42, h42), (43, h42), (62, h36), (63, h38), (64, h38), (66, .sl 3 (.int .i64)), (67, h11), (68, h11), (69, h15), (70, h15), (81, h8), (82, h8), (84, h19), (85, h24), (86, h24), (88, h8), (89, h11), (90, h11), (108, h11), (122, h15), (134, h11), (155, .int .u64), (157, .int .i64), (165, .int .u32), (167, .int .u64), (168, .int .u64), (172, .ptr (.int .i64)), (174, .ptr (.int .u64)), (184, .int .u8), (185, .int .u8), (187, .ptr (.int .u8)), (188, .int .i32), (189, .int .i32)]
def sigTab : List (Nat × List Sig) := [(3, [⟨[.z, .z], [(.bool, .z)], [.z, .z]⟩]), (8, [⟨[.z, .z], [(.int .i64, .z)], [.z, .z]⟩]), (9, [⟨[.z, .z], [(.bool, .z)], [.z, .z]⟩]), (10, [⟨[.z], [(h42, .pr (.pr (.pr (.own .z) (.pr (.own (.pr .z (.pr (.own .z) .z))) .z)) (.pr (.own (.pr .z (.pr .z (.pr (.own .z) .z)))) .z)) (.pr (.own (.pr (.own (.pr .z (.pr (.own .z) .z))) (.pr (.own (.pr .z (.pr (.own .z) .z))) .z))) (.pr (.own (.pr .z (.pr (.own .z) .z))) .z)))], [.z]⟩]), (11, [⟨[.z, .z], [(.bool, .z)], [.z, .z]⟩]), (12, [⟨[.z, .z], [(.bool, .z)], [.z, .z]⟩]), (13, [⟨[.z, .z], [(.int .i64, .z)], [.z, .z]⟩]), (14, [⟨[.z, .z], [(.int .i64, .z)], [.z, .z]⟩]), (16, [⟨[.z], [(h29, .own .z)], [.z]⟩]), (17, [⟨[.z], [(h39, .own (.pr (.own (.pr .z (.pr (.own .z) .z))) (.pr (.own (.pr .z (.pr (.own .z) .z))) .z)))], [.z]⟩]), (19, [⟨[.z, .z], [(.bool, .z)], [.z, .z]⟩]), (20, [⟨[.z, .z], [(.bool, .z)], [.z, .z]⟩]), (21, [⟨[.z, .z], [(.int .i64, .z)], [.z, .z]⟩]), (23, [⟨[.z], [(h35, .pr (.pr (.own .z) (.pr (.own (.pr .z (.pr (.own .z) .z))) .z)) (.pr (.own (.pr .z (.pr .z (.pr (.own .z) .z)))) .z))], [.z]⟩]), (25, [⟨[.z, .z], [(.bool, .z)], [.z, .z]⟩]), (30, [⟨[.z, .z], [(.int .i64, .z)], [.z, .z]⟩]), (31, [⟨[.z, .z], [(.bool, .z)], [.z, .z]⟩]), (32, [⟨[.z, .z], [(.bool, .z)], [.z, .z]⟩]), (33, [⟨[.z, .z], [(.int .i64, .z)], [.z, .z]⟩]), (34, [⟨[.z, .z], [(.int .i64, .z)], [.z, .z]⟩]), (35, [⟨[.z], [(h30, .own (.pr .z (.pr (.own .z) .z)))], [.z]⟩]), (36, [⟨[.z, .z], [(.bool, .z)], [.z, .z]⟩]), (37, [⟨[.z, .z, .z], [(.bool, .z)], [.z, .z, .z]⟩]), (38, [⟨[.z, .z], [(.bool, .z)], [.z, .z]⟩]), (39, [⟨[.z, .z], [(.bool, .z)], [.z, .z]⟩]), (40, [⟨[.z, .z, .z], [(.bool, .z)], [.z, .z, .z]⟩]), (41, [⟨[.z, .z], [(.bool, .z)], [.z, .z]⟩]), (42, [⟨[.z, .z, .z], [(.bool, .z)], [.z, .z, .z]⟩]), (43, [⟨[.z, .z], [(.bool, .z)], [.z, .z]⟩]), (44, [⟨[.z, .z], [(.bool, .z)], [.z, .z]⟩]), (45, [⟨[.z, .z], [(.int .i64, .z)], [.z, .z]⟩]), (46, [⟨[.z, .z], [(.int .i64, .z)], [.z, .z]⟩]), (49, [⟨[.z], [(h8, .z)], [.z]⟩]), (50, [⟨[.z], [(h38, .pr (.own (.pr .z (.pr (.own .z) .z))) (.pr (.own (.pr .z (.pr (.own .z) .z))) .z))], [.z]⟩]), (57, [⟨[.z, .z], [(.bool, .z)], [.z, .z]⟩]), (58, [⟨[.z, .z], [(.bool, .z)], [.z, .z]⟩]), (59, [⟨[.z, .z], [(.int .i64, .z)], [.z, .z]⟩]), (60, [⟨[.z, .z], [(.int .i64, .z)], [.z, .z]⟩]), (62, [⟨[.z], [(h32, .pr (.own .z) (.pr (.own (.pr .z (.pr (.own .z) .z))) .z))], [.z]⟩]), (63, [⟨[.z], [(h33, .own (.pr .z (.pr .z (.pr (.own .z) .z))))], [.z]⟩]), (65, [⟨[.z, .z], [(.bool, .z)], [.z, .z]⟩]), (66, [⟨[.z, .z], [(.bool, .z)], [.z, .z]⟩]), (71, [⟨[.z, .z], [(.int .i64, .z)], [.z, .z]⟩]), (72, [⟨[.z, .z], [(.bool, .z)], [.z, .z]⟩]), (73, [⟨[.z, .z], [(.bool, .z)], [.z, .z]⟩]), (74, [⟨[.z], [(h11, .pr .z (.pr (.own .z) .z))], [.z]⟩]), (75, [⟨[.z, .z], [(.bool, .z)], [.z, .z]⟩]), (76, [⟨[.z, .z, .z], [(.bool, .z)], [.z, .z, .z]⟩]), (77, [⟨[.z, .z], [(.bool, .z)], [.z, .z]⟩]), (78, [⟨[.z, .z], [(.int .i64, .z)], [.z, .z]⟩]), (79, [⟨[.z, .z], [(.bool, .z)], [.z, .z]⟩]), (80, [⟨[.z, .z], [(.int .i64, .z)], [.z, .z]⟩]), (84, [⟨[.z], [(h36, .own (.pr .z (.pr (.own .z) .z)))], [.z]⟩]), (92, [⟨[.z, .z], [(.bool, .z)], [.z, .z]⟩]), (93, [⟨[.z, .z], [(.int .i64, .z)], [.z, .z]⟩]), (98, [⟨[.z], [(h15, .pr .z (.pr .z (.pr (.own .z) .z)))], [.z]⟩]), (102, [⟨[.z, .z], [(.bool, .z)], [.z, .z]⟩]), (105, [⟨[.z, .z], [(.int .i64, .z)], [.z, .z]⟩]), (106, [⟨[.z], [(.sl 3 (.int .i64), .own .z)], [.z]⟩]), (107, [⟨[.z], [(.int .i64, .z)], [.z]⟩]), (108, [⟨[.z, .z], [(.int .i64, .z)], [.z, .z]⟩]), (109, [⟨[.z, .z], [(.int .i64, .z)], [.z, .z]⟩]), (110, [⟨[.z, .z], [(.bool, .z)], [.z, .z]⟩]), (111, [⟨[.z, .z], [(.int .i64, .z)], [.z, .z]⟩]), (116, [⟨[.z], [(h11, .pr .z (.pr (.own .z) .z))], [.z]⟩]), (123, [⟨[.z, .z], [(.bool, .z)], [.z, .z]⟩]), (135, [⟨[.z], [(.bool, .z)], [.z]⟩])]
def parTab : List (Nat × List (Option Sh)) := [(3, [some (h28), some (h28)]), (8, [some (h28), some (.int .i64)]), (9, [some (h42), some (h42)]), (10, [some (h28)]), (11, [some (h42), some (h42)]), (12, [some (h42), some (h42)]), (13, [some (h9), some (.int .i64)]), (14, [some (h25), some (.int .i64)]), (16, [some (h9)]), (17, [some (h25)]), (19, [some (h29), some (h29)]), (20, [some (h39), some (h39)]), (21, [some (h18), some (.int .i64)]), (23, [some (h18)]), (25, [some (h35), some (h35)]), (30, [some (h12), some (.int .i64)]), (31, [some (h32), some (h32)]), (32, [some (h38), some (h38)]), (33, [some (h11), some (h11)]), (34, [some (.sl 3 (.int .i64)), some (.sl 3 (.int .i64))]), (35, [some (h12)]), (36, [some (h32), some (h32)]), (37, [some (h33), some (h33), none]), (38, [some (h15), some (h15)]), (39, [some (.sl 3 (.int .i64)), some (.sl 3 (.int .i64))]), (40, [some (h39), some (h39), none]), (41, [some (h38), some (h38)]), (42, [some (h30), some (h30), none]), (43, [some (h11), some (h11)]), (44, [some (h30), some (h30)]), (45, [some (h8), some (.int .i64)]), (46, [some (h24), some (.int .i64)]), (49, [some (h8)]), (50, [some (h24)]), (57, [some (h8), some (h8)]), (58, [some (h38), some (h38)]), (59, [some (h14), some (.int .i64)]), (60, [some (h16), some (.int .i64)]), (62, [some (h14)]), (63, [some (h16)]), (65, [some (h32), some (h32)]), (66, [some (h33), some (h33)]), (71, [some (h11), some (.int .i64)]), (72, [some (h29), some (h29)]), (73, [some (h36), some (h36)]), (74, [some (h11)]), (75, [some (h29), some (h29)]), (76, [some (h36), some (h36), none]), (77, [some (h11), some (h11)]), (78, [some (h11), some (h11)]), (79, [some (h11), some (h11)]), (80, [some (h19), some (.int .i64)]), (84, [some (h19)]), (92, [some (h36), some (h36)]), (93, [some (h15), some (.int .i64)]), (98, [some (h15)]), (102, [some (h15), some (h15)]), (105, [some (.sl 3 (.int .i64)), some (.int .i64)]), (106, [some (.sl 3 (.int .i64))]), (107, [some (.sl 3 (.int .i64))]), (108, [some (.int .i64), some (.int .i64)]), (109, [some (.sl 3 (.int .i64)), some (.sl 3 (.int .i64))]), (110, [some (.sl 3 (.int .i64)), some (.sl 3 (.int .i64))]), (111, [some (h11), some (.int .i64)]), (116, [some (h11)]), (123, [some (h11), some (h11)]), (135, [some (.int .i64)])]
noncomputable def E : Env := { sh := fun t => look t shTab, sigs := fun f => (look f sigTab).getD [], params := fun f => (look f parTab).getD [], gives := GivesS prog }
theorem types_ok : ∀ t s, E.sh t = some s → ShOk prog s none t := tab_ok (by kernel_rfl)
theorem mixed : prog.follows .mixedOrders = true := by kernel_rfl
/-- laws.FnExactEqualLoaders -/
def G_lFnExactEqualLoaders (x0 : TLoader) (x1 : TLoader) (y0 : Bool) : Prop := GivesS prog 3 [⟨h28, .z, x0⟩, ⟨h28, .z, x1⟩] [⟨.bool, .z, y0⟩] [⟨h28, .z, x0⟩, ⟨h28, .z, x1⟩]
/-- laws.eqLoader -/
def G_leqLoader (x0 : TLoader) (x1 : TLoader) (y0 : Bool) : Prop := GivesS prog 12 [⟨h42, .z, x0⟩, ⟨h42, .z, x1⟩] [⟨.bool, .z, y0⟩] [⟨h42, .z, x0⟩, ⟨h42, .z, x1⟩]
/-- laws.eqFactS -/
def G_leqFactS (x0 : List TFact) (x1 : List TFact) (y0 : Bool) : Prop := GivesS prog 44 [⟨h30, .z, x0⟩, ⟨h30, .z, x1⟩] [⟨.bool, .z, y0⟩] [⟨h30, .z, x0⟩, ⟨h30, .z, x1⟩]
/-- laws.eqFact -/
def G_leqFact (x0 : TFact) (x1 : TFact) (y0 : Bool) : Prop := GivesS prog 79 [⟨h11, .z, x0⟩, ⟨h11, .z, x1⟩] [⟨.bool, .z, y0⟩] [⟨h11, .z, x0⟩, ⟨h11, .z, x1⟩]
/-- laws.eqIntS -/
def G_leqIntS (x0 : List Int) (x1 : List Int) (y0 : Bool) : Prop := GivesS prog 110 [⟨.sl 3 (.int .i64), .z, x0⟩, ⟨.sl 3 (.int .i64), .z, x1⟩] [⟨.bool, .z, y0⟩] [⟨.sl 3 (.int .i64), .z, x0⟩, ⟨.sl 3 (.int .i64), .z, x1⟩]
/-- laws.eqDependencyS -/
def G_leqDependencyS (x0 : List TDep) (x1 : List TDep) (y0 : Bool) : Prop := GivesS prog 20 [⟨h39, .z, x0⟩, ⟨h39, .z, x1⟩] [⟨.bool, .z, y0⟩] [⟨h39, .z, x0⟩, ⟨h39, .z, x1⟩]
/-- laws.eqDependency -/
def G_leqDependency (x0 : TDep) (x1 : TDep) (y0 : Bool) : Prop := GivesS prog 58 [⟨h38, .z, x0⟩, ⟨h38, .z, x1⟩] [⟨.bool, .z, y0⟩] [⟨h38, .z, x0⟩, ⟨h38, .z, x1⟩]
/-- laws.eqAtomS -/
def G_leqAtomS (x0 : List TFact) (x1 : List TFact) (y0 : Bool) : Prop := GivesS prog 92 [⟨h36, .z, x0⟩, ⟨h36, .z, x1⟩] [⟨.bool, .z, y0⟩] [⟨h36, .z, x0⟩, ⟨h36, .z, x1⟩]
/-- laws.eqAtom -/
def G_leqAtom (x0 : TFact) (x1 : TFact) (y0 : Bool) : Prop := GivesS prog 123 [⟨h11, .z, x0⟩, ⟨h11, .z, x1⟩] [⟨.bool, .z, y0⟩] [⟨h11, .z, x0⟩, ⟨h11, .z, x1⟩]
/-- laws.eqSkolemState -/
def G_leqSkolemState (x0 : TSk) (x1 : TSk) (y0 : Bool) : Prop := GivesS prog 25 [⟨h35, .z, x0⟩, ⟨h35, .z, x1⟩] [⟨.bool, .z, y0⟩] [⟨h35, .z, x0⟩, ⟨h35, .z, x1⟩]
/-- laws.eqSkolemTermS -/
def G_leqSkolemTermS (x0 : List TTerm) (x1 : List TTerm) (y0 : Bool) : Prop := GivesS prog 66 [⟨h33, .z, x0⟩, ⟨h33, .z, x1⟩] [⟨.bool, .z, y0⟩] [⟨h33, .z, x0⟩, ⟨h33, .z, x1⟩]
/-- laws.eqSkolemTerm -/
def G_leqSkolemTerm (x0 : TTerm) (x1 : TTerm) (y0 : Bool) : Prop := GivesS prog 102 [⟨h15, .z, x0⟩, ⟨h15, .z, x1⟩] [⟨.bool, .z, y0⟩] [⟨h15, .z, x0⟩, ⟨h15, .z, x1⟩]
/-- laws.eqInstance -/
def G_leqInstance (x0 : TInst) (x1 : TInst) (y0 : Bool) : Prop := GivesS prog 65 [⟨h32, .z, x0⟩, ⟨h32, .z, x1⟩] [⟨.bool, .z, y0⟩] [⟨h32, .z, x0⟩, ⟨h32, .z, x1⟩]
/-- laws.eqRelationS -/
def G_leqRelationS (x0 : List TRel) (x1 : List TRel) (y0 : Bool) : Prop := GivesS prog 19 [⟨h29, .z, x0⟩, ⟨h29, .z, x1⟩] [⟨.bool, .z, y0⟩] [⟨h29, .z, x0⟩, ⟨h29, .z, x1⟩]
/-- laws.eqRelation -/
def G_leqRelation (x0 : TRel) (x1 : TRel) (y0 : Bool) : Prop := GivesS prog 57 [⟨h8, .z, x0⟩, ⟨h8, .z, x1⟩] [⟨.bool, .z, y0⟩] [⟨h8, .z, x0⟩, ⟨h8, .z, x1⟩]
/-- laws.toLoader -/
def G_ltoLoader (x0 : TLoader) (y0 : TLoader) : Prop := GivesS prog 10 [⟨h28, .z, x0⟩] [⟨h42, .pr (.pr (.pr (.own .z) (.pr (.own (.pr .z (.pr (.own .z) .z))) .z)) (.pr (.own (.pr .z (.pr .z (.pr (.own .z) .z)))) .z)) (.pr (.own (.pr (.own (.pr .z (.pr (.own .z) .z))) (.pr (.own (.pr .z (.pr (.own .z) .z))) .z))) (.pr (.own (.pr .z (.pr (.own .z) .z))) .z)), y0⟩] [⟨h28, .z, x0⟩]
/-- laws.toFactS -/
def G_ltoFactS (x0 : List TFact) (y0 : List TFact) : Prop := GivesS prog 35 [⟨h12, .z, x0⟩] [⟨h30, .own (.pr .z (.pr (.own .z) .z)), y0⟩] [⟨h12, .z, x0⟩]
/-- laws.toFact -/
def G_ltoFact (x0 : TFact) (y0 : TFact) : Prop := GivesS prog 74 [⟨h11, .z, x0⟩] [⟨h11, .pr .z (.pr (.own .z) .z), y0⟩] [⟨h11, .z, x0⟩]
/-- laws.toIntS -/
def G_ltoIntS (x0 : List Int) (y0 : List Int) : Prop := GivesS prog 106 [⟨.sl 3 (.int .i64), .z, x0⟩] [⟨.sl 3 (.int .i64), .own .z, y0⟩] [⟨.sl 3 (.int .i64), .z, x0⟩]
/-- laws.toDependencyS -/
def G_ltoDependencyS (x0 : List TDep) (y0 : List TDep) : Prop := GivesS prog 17 [⟨h25, .z, x0⟩] [⟨h39, .own (.pr (.own (.pr .z (.pr (.own .z) .z))) (.pr (.own (.pr .z (.pr (.own .z) .z))) .z)), y0⟩] [⟨h25, .z, x0⟩]
/-- laws.toDependency -/
def G_ltoDependency (x0 : TDep) (y0 : TDep) : Prop := GivesS prog 50 [⟨h24, .z, x0⟩] [⟨h38, .pr (.own (.pr .z (.pr (.own .z) .z))) (.pr (.own (.pr .z (.pr (.own .z) .z))) .z), y0⟩] [⟨h24, .z, x0⟩]
/-- laws.toAtomS -/
def G_ltoAtomS (x0 : List TFact) (y0 : List TFact) : Prop := GivesS prog 84 [⟨h19, .z, x0⟩] [⟨h36, .own (.pr .z (.pr (.own .z) .z)), y0⟩] [⟨h19, .z, x0⟩]
/-- laws.toAtom -/
def G_ltoAtom (x0 : TFact) (y0 : TFact) : Prop := GivesS prog 116 [⟨h11, .z, x0⟩] [⟨h11, .pr .z (.pr (.own .z) .z), y0⟩] [⟨h11, .z, x0⟩]
/-- laws.toSkolemState -/
def G_ltoSkolemState (x0 : TSk) (y0 : TSk) : Prop := GivesS prog 23 [⟨h18, .z, x0⟩] [⟨h35, .pr (.pr (.own .z) (.pr (.own (.pr .z (.pr (.own .z) .z))) .z)) (.pr (.own (.pr .z (.pr .z (.pr (.own .z) .z)))) .z), y0⟩] [⟨h18, .z, x0⟩]
/-- laws.toSkolemTermS -/
def G_ltoSkolemTermS (x0 : List TTerm) (y0 : List TTerm) : Prop := GivesS prog 63 [⟨h16, .z, x0⟩] [⟨h33, .own (.pr .z (.pr .z (.pr (.own .z) .z))), y0⟩] [⟨h16, .z, x0⟩]
/-- laws.toSkolemTerm -/
def G_ltoSkolemTerm (x0 : TTerm) (y0 : TTerm) : Prop := GivesS prog 98 [⟨h15, .z, x0⟩] [⟨h15, .pr .z (.pr .z (.pr (.own .z) .z)), y0⟩] [⟨h15, .z, x0⟩]
/-- laws.toInstance -/
def G_ltoInstance (x0 : TInst) (y0 : TInst) : Prop := GivesS prog 62 [⟨h14, .z, x0⟩] [⟨h32, .pr (.own .z) (.pr (.own (.pr .z (.pr (.own .z) .z))) .z), y0⟩] [⟨h14, .z, x0⟩]
/-- laws.toRelationS -/
def G_ltoRelationS (x0 : List TRel) (y0 : List TRel) : Prop := GivesS prog 16 [⟨h9, .z, x0⟩] [⟨h29, .own .z, y0⟩] [⟨h9, .z, x0⟩]
/-- laws.toRelation -/
def G_ltoRelation (x0 : TRel) (y0 : TRel) : Prop := GivesS prog 49 [⟨h8, .z, x0⟩] [⟨h8, .z, y0⟩] [⟨h8, .z, x0⟩]
/-- impl.EqualLoaders -/
def G_iEqualLoaders (x0 : TLoader) (x1 : TLoader) (y0 : Bool) : Prop := GivesS prog 11 [⟨h42, .z, x0⟩, ⟨h42, .z, x1⟩] [⟨.bool, .z, y0⟩] [⟨h42, .z, x0⟩, ⟨h42, .z, x1⟩]
/-- slices.EqualFunc[[]impl.Fact,[]impl.Fact,impl.Fact,impl.Fact] -/
def G_slices_EqualFunc_Fact_c_isameFact (x0 : List TFact) (x1 : List TFact) (x2 : Unit) (y0 : Bool) : Prop := GivesS prog 42 [⟨h30, .z, x0⟩, ⟨h30, .z, x1⟩, ⟨.fn 43 .unit, .z, x2⟩] [⟨.bool, .z, y0⟩] [⟨h30, .z, x0⟩, ⟨h30, .z, x1⟩, ⟨.fn 43 .unit, .z, x2⟩]
/-- impl.sameFact -/
def G_isameFact (x0 : TFact) (x1 : TFact) (y0 : Bool) : Prop := GivesS prog 43 [⟨h11, .z, x0⟩, ⟨h11, .z, x1⟩] [⟨.bool, .z, y0⟩] [⟨h11, .z, x0⟩, ⟨h11, .z, x1⟩]
/-- impl.CompareFacts -/
def G_iCompareFacts (x0 : TFact) (x1 : TFact) (y0 : Int) : Prop := GivesS prog 78 [⟨h11, .z, x0⟩, ⟨h11, .z, x1⟩] [⟨.int .i64, .z, y0⟩] [⟨h11, .z, x0⟩, ⟨h11, .z, x1⟩]
/-- cmp.Or[int] -/
def G_cmp_Or_int (x0 : List Int) (y0 : Int) : Prop := GivesS prog 107 [⟨.sl 3 (.int .i64), .z, x0⟩] [⟨.int .i64, .z, y0⟩] [⟨.sl 3 (.int .i64), .z, x0⟩]
/-- slices.Compare[[]int,int] -/
def G_slices_Compare_int (x0 : List Int) (x1 : List Int) (y0 : Int) : Prop := GivesS prog 109 [⟨.sl 3 (.int .i64), .z, x0⟩, ⟨.sl 3 (.int .i64), .z, x1⟩] [⟨.int .i64, .z, y0⟩] [⟨.sl 3 (.int .i64), .z, x0⟩, ⟨.sl 3 (.int .i64), .z, x1⟩]
/-- cmp.Compare[int] -/
def G_cmp_Compare_int (x0 : Int) (x1 : Int) (y0 : Int) : Prop := GivesS prog 108 [⟨.int .i64, .z, x0⟩, ⟨.int .i64, .z, x1⟩] [⟨.int .i64, .z, y0⟩] [⟨.int .i64, .z, x0⟩, ⟨.int .i64, .z, x1⟩]
/-- cmp.isNaN[int] -/
def G_cmp_isNaN_int (x0 : Int) (y0 : Bool) : Prop := GivesS prog 135 [⟨.int .i64, .z, x0⟩] [⟨.bool, .z, y0⟩] [⟨.int .i64, .z, x0⟩]
/-- slices.EqualFunc[[]impl.Dependency,[]impl.Dependency,impl.Dependency,impl.Dependency] -/
def G_slices_EqualFunc_Dependency_c_iEqualDependencies (x0 : List TDep) (x1 : List TDep) (x2 : Unit) (y0 : Bool) : Prop := GivesS prog 40 [⟨h39, .z, x0⟩, ⟨h39, .z, x1⟩, ⟨.fn 41 .unit, .z, x2⟩] [⟨.bool, .z, y0⟩] [⟨h39, .z, x0⟩, ⟨h39, .z, x1⟩, ⟨.fn 41 .unit, .z, x2⟩]
/-- impl.EqualDependencies -/
def G_iEqualDependencies (x0 : TDep) (x1 : TDep) (y0 : Bool) : Prop := GivesS prog 41 [⟨h38, .z, x0⟩, ⟨h38, .z, x1⟩] [⟨.bool, .z, y0⟩] [⟨h38, .z, x0⟩, ⟨h38, .z, x1⟩]
/-- slices.EqualFunc[[]impl.Atom,[]impl.Atom,impl.Atom,impl.Atom] -/
def G_slices_EqualFunc_Atom_c_isameAtom (x0 : List TFact) (x1 : List TFact) (x2 : Unit) (y0 : Bool) : Prop := GivesS prog 76 [⟨h36, .z, x0⟩, ⟨h36, .z, x1⟩, ⟨.fn 77 .unit, .z, x2⟩] [⟨.bool, .z, y0⟩] [⟨h36, .z, x0⟩, ⟨h36, .z, x1⟩, ⟨.fn 77 .unit, .z, x2⟩]
/-- impl.sameAtom -/
def G_isameAtom (x0 : TFact) (x1 : TFact) (y0 : Bool) : Prop := GivesS prog 77 [⟨h11, .z, x0⟩, ⟨h11, .z, x1⟩] [⟨.bool, .z, y0⟩] [⟨h11, .z, x0⟩, ⟨h11, .z, x1⟩]
/-- slices.Equal[[]int,int] -/
def G_slices_Equal_int (x0 : List Int) (x1 : List Int) (y0 : Bool) : Prop := GivesS prog 39 [⟨.sl 3 (.int .i64), .z, x0⟩, ⟨.sl 3 (.int .i64), .z, x1⟩] [⟨.bool, .z, y0⟩] [⟨.sl 3 (.int .i64), .z, x0⟩, ⟨.sl 3 (.int .i64), .z, x1⟩]
/-- slices.EqualFunc[[]impl.SkolemTerm,[]impl.SkolemTerm,impl.SkolemTerm,impl.SkolemTerm] -/
def G_slices_EqualFunc_SkolemTerm_c_iEqualLoaders_1 (x0 : List TTerm) (x1 : List TTerm) (x2 : Unit) (y0 : Bool) : Prop := GivesS prog 37 [⟨h33, .z, x0⟩, ⟨h33, .z, x1⟩, ⟨.fn 38 .unit, .z, x2⟩] [⟨.bool, .z, y0⟩] [⟨h33, .z, x0⟩, ⟨h33, .z, x1⟩, ⟨.fn 38 .unit, .z, x2⟩]
/-- impl.EqualLoaders$1 -/
def G_iEqualLoaders_1 (x0 : TTerm) (x1 : TTerm) (y0 : Bool) : Prop := GivesS prog 38 [⟨h15, .z, x0⟩, ⟨h15, .z, x1⟩] [⟨.bool, .z, y0⟩] [⟨h15, .z, x0⟩, ⟨h15, .z, x1⟩]
/-- impl.EqualInstances -/
def G_iEqualInstances (x0 : TInst) (x1 : TInst) (y0 : Bool) : Prop := GivesS prog 36 [⟨h32, .z, x0⟩, ⟨h32, .z, x1⟩] [⟨.bool, .z, y0⟩] [⟨h32, .z, x0⟩, ⟨h32, .z, x1⟩]
/-- slices.Equal[[]impl.Relation,impl.Relation] -/
def G_slices_Equal_Relation (x0 : List TRel) (x1 : List TRel) (y0 : Bool) : Prop := GivesS prog 75 [⟨h29, .z, x0⟩, ⟨h29, .z, x1⟩] [⟨.bool, .z, y0⟩] [⟨h29, .z, x0⟩, ⟨h29, .z, x1⟩]
/-- spec.EqualLoaders -/
def G_sEqualLoaders (x0 : TLoader) (x1 : TLoader) (y0 : Bool) : Prop := GivesS prog 9 [⟨h42, .z, x0⟩, ⟨h42, .z, x1⟩] [⟨.bool, .z, y0⟩] [⟨h42, .z, x0⟩, ⟨h42, .z, x1⟩]
/-- spec.l4Ints -/
def G_sl4Ints (x0 : List Int) (x1 : List Int) (y0 : Int) : Prop := GivesS prog 34 [⟨.sl 3 (.int .i64), .z, x0⟩, ⟨.sl 3 (.int .i64), .z, x1⟩] [⟨.int .i64, .z, y0⟩] [⟨.sl 3 (.int .i64), .z, x0⟩, ⟨.sl 3 (.int .i64), .z, x1⟩]
/-- spec.CompareFacts -/
def G_sCompareFacts (x0 : TFact) (x1 : TFact) (y0 : Int) : Prop := GivesS prog 33 [⟨h11, .z, x0⟩, ⟨h11, .z, x1⟩] [⟨.int .i64, .z, y0⟩] [⟨h11, .z, x0⟩, ⟨h11, .z, x1⟩]
/-- spec.EqualDependencies -/
def G_sEqualDependencies (x0 : TDep) (x1 : TDep) (y0 : Bool) : Prop := GivesS prog 32 [⟨h38, .z, x0⟩, ⟨h38, .z, x1⟩] [⟨.bool, .z, y0⟩] [⟨h38, .z, x0⟩, ⟨h38, .z, x1⟩]
/-- spec.l9Atoms -/
def G_sl9Atoms (x0 : List TFact) (x1 : List TFact) (y0 : Bool) : Prop := GivesS prog 73 [⟨h36, .z, x0⟩, ⟨h36, .z, x1⟩] [⟨.bool, .z, y0⟩] [⟨h36, .z, x0⟩, ⟨h36, .z, x1⟩]
/-- spec.EqualInstances -/
def G_sEqualInstances (x0 : TInst) (x1 : TInst) (y0 : Bool) : Prop := GivesS prog 31 [⟨h32, .z, x0⟩, ⟨h32, .z, x1⟩] [⟨.bool, .z, y0⟩] [⟨h32, .z, x0⟩, ⟨h32, .z, x1⟩]
/-- spec.l5Sigs -/
def G_sl5Sigs (x0 : List TRel) (x1 : List TRel) (y0 : Bool) : Prop := GivesS prog 72 [⟨h29, .z, x0⟩, ⟨h29, .z, x1⟩] [⟨.bool, .z, y0⟩] [⟨h29, .z, x0⟩, ⟨h29, .z, x1⟩]
/-- laws.szLoader -/
def G_lszLoader (x0 : TLoader) (x1 : Int) (y0 : Int) : Prop := GivesS prog 8 [⟨h28, .z, x0⟩, ⟨.int .i64, .z, x1⟩] [⟨.int .i64, .z, y0⟩] [⟨h28, .z, x0⟩, ⟨.int .i64, .z, x1⟩]
/-- laws.szFactS -/
def G_lszFactS (x0 : List TFact) (x1 : Int) (y0 : Int) : Prop := GivesS prog 30 [⟨h12, .z, x0⟩, ⟨.int .i64, .z, x1⟩] [⟨.int .i64, .z, y0⟩] [⟨h12, .z, x0⟩, ⟨.int .i64, .z, x1⟩]
/-- laws.szFact -/
def G_lszFact (x0 : TFact) (x1 : Int) (y0 : Int) : Prop := GivesS prog 71 [⟨h11, .z, x0⟩, ⟨.int .i64, .z, x1⟩] [⟨.int .i64, .z, y0⟩] [⟨h11, .z, x0⟩, ⟨.int .i64, .z, x1⟩]
/-- laws.szIntS -/
def G_lszIntS (x0 : List Int) (x1 : Int) (y0 : Int) : Prop := GivesS prog 105 [⟨.sl 3 (.int .i64), .z, x0⟩, ⟨.int .i64, .z, x1⟩] [⟨.int .i64, .z, y0⟩] [⟨.sl 3 (.int .i64), .z, x0⟩, ⟨.int .i64, .z, x1⟩]
/-- laws.szDependencyS -/
def G_lszDependencyS (x0 : List TDep) (x1 : Int) (y0 : Int) : Prop := GivesS prog 14 [⟨h25, .z, x0⟩, ⟨.int .i64, .z, x1⟩] [⟨.int .i64, .z, y0⟩] [⟨h25, .z, x0⟩, ⟨.int .i64, .z, x1⟩]
/-- laws.szDependency -/
def G_lszDependency (x0 : TDep) (x1 : Int) (y0 : Int) : Prop := GivesS prog 46 [⟨h24, .z, x0⟩, ⟨.int .i64, .z, x1⟩] [⟨.int .i64, .z, y0⟩] [⟨h24, .z, x0⟩, ⟨.int .i64, .z, x1⟩]
/-- laws.szAtomS -/
def G_lszAtomS (x0 : List TFact) (x1 : Int) (y0 : Int) : Prop := GivesS prog 80 [⟨h19, .z, x0⟩, ⟨.int .i64, .z, x1⟩] [⟨.int .i64, .z, y0⟩] [⟨h19, .z, x0⟩, ⟨.int .i64, .z, x1⟩]
/-- laws.szAtom -/
def G_lszAtom (x0 : TFact) (x1 : Int) (y0 : Int) : Prop := GivesS prog 111 [⟨h11, .z, x0⟩, ⟨.int .i64, .z, x1⟩] [⟨.int .i64, .z, y0⟩] [⟨h11, .z, x0⟩, ⟨.int .i64, .z, x1⟩]
/-- laws.szSkolemState -/
def G_lszSkolemState (x0 : TSk) (x1 : Int) (y0 : Int) : Prop := GivesS prog 21 [⟨h18, .z, x0⟩, ⟨.int .i64, .z, x1⟩] [⟨.int .i64, .z, y0⟩] [⟨h18, .z, x0⟩, ⟨.int .i64, .z, x1⟩]
/-- laws.szSkolemTermS -/
def G_lszSkolemTermS (x0 : List TTerm) (x1 : Int) (y0 : Int) : Prop := GivesS prog 60 [⟨h16, .z, x0⟩, ⟨.int .i64, .z, x1⟩] [⟨.int .i64, .z, y0⟩] [⟨h16, .z, x0⟩, ⟨.int .i64, .z, x1⟩]
/-- laws.szSkolemTerm -/
def G_lszSkolemTerm (x0 : TTerm) (x1 : Int) (y0 : Int) : Prop := GivesS prog 93 [⟨h15, .z, x0⟩, ⟨.int .i64, .z, x1⟩] [⟨.int .i64, .z, y0⟩] [⟨h15, .z, x0⟩, ⟨.int .i64, .z, x1⟩]
/-- laws.szInstance -/
def G_lszInstance (x0 : TInst) (x1 : Int) (y0 : Int) : Prop := GivesS prog 59 [⟨h14, .z, x0⟩, ⟨.int .i64, .z, x1⟩] [⟨.int .i64, .z, y0⟩] [⟨h14, .z, x0⟩, ⟨.int .i64, .z, x1⟩]
/-- laws.szRelationS -/
def G_lszRelationS (x0 : List TRel) (x1 : Int) (y0 : Int) : Prop := GivesS prog 13 [⟨h9, .z, x0⟩, ⟨.int .i64, .z, x1⟩] [⟨.int .i64, .z, y0⟩] [⟨h9, .z, x0⟩, ⟨.int .i64, .z, x1⟩]
/-- laws.szRelation -/
def G_lszRelation (x0 : TRel) (x1 : Int) (y0 : Int) : Prop := GivesS prog 45 [⟨h8, .z, x0⟩, ⟨.int .i64, .z, x1⟩] [⟨.int .i64, .z, y0⟩] [⟨h8, .z, x0⟩, ⟨.int .i64, .z, x1⟩]
end Go.V
