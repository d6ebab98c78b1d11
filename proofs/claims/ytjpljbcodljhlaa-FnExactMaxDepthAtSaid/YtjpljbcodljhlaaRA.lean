/-
  The functions that are reached: types, signatures, what a call of each gives.
-/
import Derived.Test.YtjpljbcodljhlaaVE
import Derived.Test.YtjpljbcodljhlaaProg
import Derived.KernelRfl
set_option linter.unusedVariables false
set_option linter.unusedSimpArgs false
set_option maxRecDepth 1000000
set_option maxHeartbeats 4000000
set_option linter.unusedVariables false
namespace Go.V
open Go Go.Proofs
abbrev h0 : Sh := .pair (.int .u8) .unit
abbrev h1 : Sh := .pair .bool h0
abbrev h2 : Sh := .pair (.int .i64) h1
abbrev h3 : Sh := .pair (.int .i64) h2
abbrev h4 : Sh := .pair (.int .u64) .unit
abbrev h5 : Sh := .pair .str h4
abbrev h6 : Sh := .pair .bool .unit
abbrev h7 : Sh := .pair (.int .i64) h6
abbrev h8 : Sh := .pair .str h7
abbrev h9 : Sh := .sl 82 h8
abbrev h10 : Sh := .pair (.sl 3 (.int .i64)) .unit
abbrev h11 : Sh := .pair (.int .i64) h10
abbrev h12 : Sh := .sl 108 h11
abbrev h13 : Sh := .pair h12 .unit
abbrev h14 : Sh := .pair h9 h13
abbrev h15 : Sh := .pair (.int .i64) h11
abbrev h16 : Sh := .sl 122 h15
abbrev h17 : Sh := .pair h16 .unit
abbrev h18 : Sh := .pair h14 h17
abbrev h19 : Sh := .sl 134 h11
abbrev h20 : Sh := .pair (.int .i64) .unit
abbrev h21 : Sh := .pair (.int .i64) h20
abbrev h22 : Sh := .pair .bool h21
abbrev h23 : Sh := .pair h19 h22
abbrev h24 : Sh := .pair h19 h23
abbrev h25 : Sh := .sl 86 h24
abbrev h26 : Sh := .pair h12 h21
abbrev h27 : Sh := .pair h25 h26
abbrev h28 : Sh := .pair h18 h27
abbrev h29 : Sh := .sl 88 h8
abbrev h30 : Sh := .sl 68 h11
abbrev h31 : Sh := .pair h30 .unit
abbrev h32 : Sh := .pair h29 h31
abbrev h33 : Sh := .sl 70 h15
abbrev h34 : Sh := .pair h33 .unit
abbrev h35 : Sh := .pair h32 h34
abbrev h36 : Sh := .sl 90 h11
abbrev h37 : Sh := .pair h36 h22
abbrev h38 : Sh := .pair h36 h37
abbrev h39 : Sh := .sl 64 h38
abbrev h40 : Sh := .pair h30 h21
abbrev h41 : Sh := .pair h39 h40
abbrev h42 : Sh := .pair h35 h41
abbrev h43 : Sh := .pair (.ptr h15) .unit
abbrev h44 : Sh := .pair (.ptr (.int .i64)) .unit
noncomputable abbrev prog : Program := Try.prog
def shTab : List (Nat × Sh) := [(2, .int .i64), (3, .int .i64), (4, .bool), (5, .int .u8), (6, .int .u8), (9, .str), (10, .str), (11, .str), (12, .int .u64), (21, .int .i32), (22, h9), (23, h12), (24, h14), (25, h14), (26, h16), (27, h18), (28, h18), (29, h25), (30, h28), (31, h28), (34, h29), (35, h30), (36, h32), (37, h32), (38, h33), (39, h35), (40, h35), (41, h39), (42, h42), (43, h42), (62, h36), (63, h38), (64, h38), (66, .sl 3 (.int .i64)), (67, h11), (68, h11), (69, h15), (70, h15), (81, h8), (82, h8), (84, h19), (85, h24), (86, h24), (88, h8), (89, h11), (90, h11), (108, h11), (122, h15), (134, h11), (155, .int .u64), (157, .int .i64), (165, .int .u32), (167, .int .u64), (168, .int .u64), (172, .ptr (.int .i64)), (174, .ptr (.int .u64)), (184, .int .u8), (185, .int .u8), (187, .ptr (.int .u8)), (188, .int .i32), (189, .int .i32)]
def sigTab : List (Nat × List Sig) := [(7, [⟨[.z, .z], [(.bool, .z)], [.z, .z]⟩]), (13, [⟨[.z, .z], [(.int .i64, .z)], [.z, .z]⟩]), (16, [⟨[.z], [(h29, .own .z)], [.z]⟩]), (19, [⟨[.z, .z], [(.bool, .z)], [.z, .z]⟩]), (21, [⟨[.z, .z], [(.int .i64, .z)], [.z, .z]⟩]), (23, [⟨[.z], [(h35, .pr (.pr (.own .z) (.pr (.own (.pr .z (.pr (.own .z) .z))) .z)) (.pr (.own (.pr .z (.pr .z (.pr (.own .z) .z)))) .z))], [.z]⟩]), (25, [⟨[.z, .z], [(.bool, .z)], [.z, .z]⟩]), (26, [⟨[.z, .z], [(.int .i64, .z)], [.z, .z]⟩]), (28, [⟨[.z, .z], [(.int .i64, .z)], [.z, .z]⟩]), (29, [⟨[.z, .z], [(.int .i64, .z)], [.z, .z]⟩]), (30, [⟨[.z, .z], [(.int .i64, .z)], [.z, .z]⟩]), (33, [⟨[.z, .z], [(.int .i64, .z)], [.z, .z]⟩]), (34, [⟨[.z, .z], [(.int .i64, .z)], [.z, .z]⟩]), (35, [⟨[.z], [(h30, .own (.pr .z (.pr (.own .z) .z)))], [.z]⟩]), (39, [⟨[.z, .z], [(.bool, .z)], [.z, .z]⟩]), (44, [⟨[.z, .z], [(.bool, .z)], [.z, .z]⟩]), (45, [⟨[.z, .z], [(.int .i64, .z)], [.z, .z]⟩]), (49, [⟨[.z], [(h8, .z)], [.z]⟩]), (57, [⟨[.z, .z], [(.bool, .z)], [.z, .z]⟩]), (59, [⟨[.z, .z], [(.int .i64, .z)], [.z, .z]⟩]), (60, [⟨[.z, .z], [(.int .i64, .z)], [.z, .z]⟩]), (61, [⟨[.z], [(.bool, .z)], [.z]⟩]), (62, [⟨[.z], [(h32, .pr (.own .z) (.pr (.own (.pr .z (.pr (.own .z) .z))) .z))], [.z]⟩]), (63, [⟨[.z], [(h33, .own (.pr .z (.pr .z (.pr (.own .z) .z))))], [.z]⟩]), (64, [⟨[.z], [(.bool, .z)], [.z]⟩]), (65, [⟨[.z, .z], [(.bool, .z)], [.z, .z]⟩]), (66, [⟨[.z, .z], [(.bool, .z)], [.z, .z]⟩]), (67, [⟨[.z], [(.int .i64, .z), (.bool, .z)], [.z]⟩]), (68, [⟨[.z, .z], [(.int .i64, .z)], [.z, .z]⟩]), (69, [⟨[.z, .z, .z], [(.int .i64, .z)], [.z, .z, .z]⟩]), (70, [⟨[.z, .z, .z], [(.int .i64, .z)], [.z, .z, .z]⟩]), (71, [⟨[.z, .z], [(.int .i64, .z)], [.z, .z]⟩]), (74, [⟨[.z], [(h11, .pr .z (.pr (.own .z) .z))], [.z]⟩]), (78, [⟨[.z, .z], [(.int .i64, .z)], [.z, .z]⟩]), (79, [⟨[.z, .z], [(.bool, .z)], [.z, .z]⟩]), (82, [⟨[.z], [(.bool, .z)], [.z]⟩]), (85, [⟨[.z], [(.bool, .z)], [.z]⟩]), (93, [⟨[.z, .z], [(.int .i64, .z)], [.z, .z]⟩]), (94, [⟨[.z], [(.bool, .z)], [.z]⟩]), (95, [⟨[.z, .z, .z], [(.bool, .z)], [.z, .z, .z]⟩]), (96, [⟨[.z], [(.sl 3 (.int .i64), .z)], [.z]⟩]), (97, [⟨[.z], [(.bool, .z)], [.z]⟩]), (98, [⟨[.z], [(h15, .pr .z (.pr .z (.pr (.own .z) .z)))], [.z]⟩]), (99, [⟨[.z], [(.bool, .z)], [.z]⟩]), (100, [⟨[.z], [(.int .i64, .z)], [.z]⟩]), (101, [⟨[.z], [(.bool, .z)], [.z]⟩]), (102, [⟨[.z, .z], [(.bool, .z)], [.z, .z]⟩]), (103, [⟨[.z], [(.int .i64, .z), (.bool, .z)], [.z]⟩]), (104, [⟨[.z, .z, .z], [(.bool, .z)], [.z, .z, .z]⟩]), (105, [⟨[.z, .z], [(.int .i64, .z)], [.z, .z]⟩]), (106, [⟨[.z], [(.sl 3 (.int .i64), .own .z)], [.z]⟩]), (107, [⟨[.z], [(.int .i64, .z)], [.z]⟩]), (108, [⟨[.z, .z], [(.int .i64, .z)], [.z, .z]⟩]), (109, [⟨[.z, .z], [(.int .i64, .z)], [.z, .z]⟩]), (110, [⟨[.z, .z], [(.bool, .z)], [.z, .z]⟩]), (115, [⟨[.z], [(.bool, .z)], [.z]⟩]), (117, [⟨[.z], [(.bool, .z)], [.z]⟩]), (124, [⟨[.z], [(.sl 3 (.int .i64), .z)], [.z]⟩]), (125, [⟨[.z, .z], [(.sl 3 (.int .i64), .z)], [.z, .z]⟩]), (126, [⟨[.z, .z], [(.bool, .z)], [.z, .z]⟩]), (127, [⟨[.z, .z], [(.bool, .z)], [.z, .z]⟩]), (128, [⟨[.z], [(.sl 3 (.int .i64), .own .z)], [.z]⟩]), (129, [⟨[.z], [(.sl 3 (.int .i64), .own .z)], [.z]⟩]), (130, [⟨[.z, .z], [(.bool, .z)], [.z, .z]⟩]), (131, [⟨[.z, .z], [(.int .i64, .z)], [.z, .z]⟩]), (132, [⟨[.z, .z], [(.bool, .z)], [.z, .z]⟩]), (133, [⟨[.z], [(.sl 3 (.int .i64), .own .z)], [.z]⟩]), (134, [⟨[.z], [(.bool, .z)], [.z]⟩]), (135, [⟨[.z], [(.bool, .z)], [.z]⟩]), (138, [⟨[.own .z], [], [.own .z]⟩]), (139, [⟨[.own .z], [(.sl 3 (.int .i64), .own .z)], [.dead]⟩]), (140, [⟨[.z], [(.bool, .z)], [.z]⟩]), (141, [⟨[.z], [(.bool, .z)], [.z]⟩]), (142, [⟨[.z], [(.sl 3 (.int .i64), .own .z)], [.z]⟩]), (143, [⟨[.z, .z], [(.bool, .z)], [.z, .z]⟩]), (144, [⟨[.z, .z], [(.int .i64, .z)], [.z, .z]⟩]), (145, [⟨[.z, .z], [(.bool, .z)], [.z, .z]⟩]), (146, [⟨[.z, .z], [(.int .i64, .z)], [.z, .z]⟩])]
def parTab : List (Nat × List (Option Sh)) := [(7, [some (h18), some (.int .i64)]), (13, [some (h9), some (.int .i64)]), (16, [some (h9)]), (19, [some (h29), some (h29)]), (21, [some (h18), some (.int .i64)]), (23, [some (h18)]), (25, [some (h35), some (h35)]), (26, [some (h35), some (.int .i64)]), (28, [some (h35), some (.int .i64)]), (29, [some (h35), some (.int .i64)]), (30, [some (h12), some (.int .i64)]), (33, [some (h11), some (h11)]), (34, [some (.sl 3 (.int .i64)), some (.sl 3 (.int .i64))]), (35, [some (h12)]), (39, [some (.sl 3 (.int .i64)), some (.sl 3 (.int .i64))]), (44, [some (h30), some (h30)]), (45, [some (h8), some (.int .i64)]), (49, [some (h8)]), (57, [some (h8), some (h8)]), (59, [some (h14), some (.int .i64)]), (60, [some (h16), some (.int .i64)]), (61, [some (h35)]), (62, [some (h14)]), (63, [some (h16)]), (64, [some (h35)]), (65, [some (h32), some (h32)]), (66, [some (h33), some (h33)]), (67, [some (.int .i64)]), (68, [some (h35), some (.int .i64)]), (69, [some (h29), some (.int .i64), some (.int .i64)]), (70, [some (h29), some (.int .i64), some (.int .i64)]), (71, [some (h11), some (.int .i64)]), (74, [some (h11)]), (78, [some (h11), some (h11)]), (79, [some (h11), some (h11)]), (82, [some (h29)]), (85, [some (h29)]), (93, [some (h15), some (.int .i64)]), (94, [some (.int .i64)]), (95, [some (.int .i64), some (.int .i64), some (.int .i64)]), (96, [some (h32)]), (97, [some (h32)]), (98, [some (h15)]), (99, [some (h32)]), (100, [some (h32)]), (101, [some (h33)]), (102, [some (h15), some (h15)]), (103, [some (.int .i64)]), (104, [some (.int .i64), some (.int .i64), some (.int .i64)]), (105, [some (.sl 3 (.int .i64)), some (.int .i64)]), (106, [some (.sl 3 (.int .i64))]), (107, [some (.sl 3 (.int .i64))]), (108, [some (.int .i64), some (.int .i64)]), (109, [some (.sl 3 (.int .i64)), some (.sl 3 (.int .i64))]), (110, [some (.sl 3 (.int .i64)), some (.sl 3 (.int .i64))]), (115, [some (h8)]), (117, [some (h8)]), (124, [some (h11)]), (125, [some (.sl 3 (.int .i64)), some (.int .i64)]), (126, [some (h29), some (h11)]), (127, [some (h29), some (h11)]), (128, [some (h11)]), (129, [some (h32)]), (130, [some (h15), some (.int .i64)]), (131, [some (h33), some (h15)]), (132, [some (.sl 3 (.int .i64)), none]), (133, [some (h33)]), (134, [some (.int .i64)]), (135, [some (.int .i64)]), (138, [some (.sl 3 (.int .i64))]), (139, [some (.sl 3 (.int .i64))]), (140, [some (.int .i64)]), (141, [some (.int .i64)]), (142, [some (.sl 3 (.int .i64))]), (143, [some (.int .i64)]), (144, [some (h33), none]), (145, [some (h15)]), (146, [some (.sl 3 (.int .i64)), none])]
noncomputable def E : Env := { sh := fun t => look t shTab, sigs := fun f => (look f sigTab).getD [], params := fun f => (look f parTab).getD [], gives := GivesS prog }
theorem types_ok : ∀ t s, E.sh t = some s → ShOk prog s none t := tab_ok (by kernel_rfl)
theorem mixed : prog.follows .mixedOrders = true := by kernel_rfl
/-- laws.FnExactMaxDepthAt -/
def G_lFnExactMaxDepthAt (x0 : TSk) (x1 : Int) (y0 : Bool) : Prop := GivesS prog 7 [⟨h18, .z, x0⟩, ⟨.int .i64, .z, x1⟩] [⟨.bool, .z, y0⟩] [⟨h18, .z, x0⟩, ⟨.int .i64, .z, x1⟩]
/-- laws.eqSkolemState -/
def G_leqSkolemState (x0 : TSk) (x1 : TSk) (y0 : Bool) : Prop := GivesS prog 25 [⟨h35, .z, x0⟩, ⟨h35, .z, x1⟩] [⟨.bool, .z, y0⟩] [⟨h35, .z, x0⟩, ⟨h35, .z, x1⟩]
/-- laws.eqSkolemTermS -/
def G_leqSkolemTermS (x0 : List TTerm) (x1 : List TTerm) (y0 : Bool) : Prop := GivesS prog 66 [⟨h33, .z, x0⟩, ⟨h33, .z, x1⟩] [⟨.bool, .z, y0⟩] [⟨h33, .z, x0⟩, ⟨h33, .z, x1⟩]
/-- laws.eqSkolemTerm -/
def G_leqSkolemTerm (x0 : TTerm) (x1 : TTerm) (y0 : Bool) : Prop := GivesS prog 102 [⟨h15, .z, x0⟩, ⟨h15, .z, x1⟩] [⟨.bool, .z, y0⟩] [⟨h15, .z, x0⟩, ⟨h15, .z, x1⟩]
/-- laws.eqIntS -/
def G_leqIntS (x0 : List Int) (x1 : List Int) (y0 : Bool) : Prop := GivesS prog 110 [⟨.sl 3 (.int .i64), .z, x0⟩, ⟨.sl 3 (.int .i64), .z, x1⟩] [⟨.bool, .z, y0⟩] [⟨.sl 3 (.int .i64), .z, x0⟩, ⟨.sl 3 (.int .i64), .z, x1⟩]
/-- laws.eqInstance -/
def G_leqInstance (x0 : TInst) (x1 : TInst) (y0 : Bool) : Prop := GivesS prog 65 [⟨h32, .z, x0⟩, ⟨h32, .z, x1⟩] [⟨.bool, .z, y0⟩] [⟨h32, .z, x0⟩, ⟨h32, .z, x1⟩]
/-- laws.eqFactS -/
def G_leqFactS (x0 : List TFact) (x1 : List TFact) (y0 : Bool) : Prop := GivesS prog 44 [⟨h30, .z, x0⟩, ⟨h30, .z, x1⟩] [⟨.bool, .z, y0⟩] [⟨h30, .z, x0⟩, ⟨h30, .z, x1⟩]
/-- laws.eqFact -/
def G_leqFact (x0 : TFact) (x1 : TFact) (y0 : Bool) : Prop := GivesS prog 79 [⟨h11, .z, x0⟩, ⟨h11, .z, x1⟩] [⟨.bool, .z, y0⟩] [⟨h11, .z, x0⟩, ⟨h11, .z, x1⟩]
/-- laws.eqRelationS -/
def G_leqRelationS (x0 : List TRel) (x1 : List TRel) (y0 : Bool) : Prop := GivesS prog 19 [⟨h29, .z, x0⟩, ⟨h29, .z, x1⟩] [⟨.bool, .z, y0⟩] [⟨h29, .z, x0⟩, ⟨h29, .z, x1⟩]
/-- laws.eqRelation -/
def G_leqRelation (x0 : TRel) (x1 : TRel) (y0 : Bool) : Prop := GivesS prog 57 [⟨h8, .z, x0⟩, ⟨h8, .z, x1⟩] [⟨.bool, .z, y0⟩] [⟨h8, .z, x0⟩, ⟨h8, .z, x1⟩]
/-- laws.toSkolemState -/
def G_ltoSkolemState (x0 : TSk) (y0 : TSk) : Prop := GivesS prog 23 [⟨h18, .z, x0⟩] [⟨h35, .pr (.pr (.own .z) (.pr (.own (.pr .z (.pr (.own .z) .z))) .z)) (.pr (.own (.pr .z (.pr .z (.pr (.own .z) .z)))) .z), y0⟩] [⟨h18, .z, x0⟩]
/-- laws.toSkolemTermS -/
def G_ltoSkolemTermS (x0 : List TTerm) (y0 : List TTerm) : Prop := GivesS prog 63 [⟨h16, .z, x0⟩] [⟨h33, .own (.pr .z (.pr .z (.pr (.own .z) .z))), y0⟩] [⟨h16, .z, x0⟩]
/-- laws.toSkolemTerm -/
def G_ltoSkolemTerm (x0 : TTerm) (y0 : TTerm) : Prop := GivesS prog 98 [⟨h15, .z, x0⟩] [⟨h15, .pr .z (.pr .z (.pr (.own .z) .z)), y0⟩] [⟨h15, .z, x0⟩]
/-- laws.toIntS -/
def G_ltoIntS (x0 : List Int) (y0 : List Int) : Prop := GivesS prog 106 [⟨.sl 3 (.int .i64), .z, x0⟩] [⟨.sl 3 (.int .i64), .own .z, y0⟩] [⟨.sl 3 (.int .i64), .z, x0⟩]
/-- laws.toInstance -/
def G_ltoInstance (x0 : TInst) (y0 : TInst) : Prop := GivesS prog 62 [⟨h14, .z, x0⟩] [⟨h32, .pr (.own .z) (.pr (.own (.pr .z (.pr (.own .z) .z))) .z), y0⟩] [⟨h14, .z, x0⟩]
/-- laws.toFactS -/
def G_ltoFactS (x0 : List TFact) (y0 : List TFact) : Prop := GivesS prog 35 [⟨h12, .z, x0⟩] [⟨h30, .own (.pr .z (.pr (.own .z) .z)), y0⟩] [⟨h12, .z, x0⟩]
/-- laws.toFact -/
def G_ltoFact (x0 : TFact) (y0 : TFact) : Prop := GivesS prog 74 [⟨h11, .z, x0⟩] [⟨h11, .pr .z (.pr (.own .z) .z), y0⟩] [⟨h11, .z, x0⟩]
/-- laws.toRelationS -/
def G_ltoRelationS (x0 : List TRel) (y0 : List TRel) : Prop := GivesS prog 16 [⟨h9, .z, x0⟩] [⟨h29, .own .z, y0⟩] [⟨h9, .z, x0⟩]
/-- laws.toRelation -/
def G_ltoRelation (x0 : TRel) (y0 : TRel) : Prop := GivesS prog 49 [⟨h8, .z, x0⟩] [⟨h8, .z, y0⟩] [⟨h8, .z, x0⟩]
/-- impl.MaxDepthAt -/
def G_iMaxDepthAt (x0 : TSk) (x1 : Int) (y0 : Int) : Prop := GivesS prog 29 [⟨h35, .z, x0⟩, ⟨.int .i64, .z, x1⟩] [⟨.int .i64, .z, y0⟩] [⟨h35, .z, x0⟩, ⟨.int .i64, .z, x1⟩]
/-- impl.nesting -/
def G_inesting (x0 : TSk) (x1 : Int) (y0 : Int) : Prop := GivesS prog 68 [⟨h35, .z, x0⟩, ⟨.int .i64, .z, x1⟩] [⟨.int .i64, .z, y0⟩] [⟨h35, .z, x0⟩, ⟨.int .i64, .z, x1⟩]
/-- impl.NullNumber -/
def G_iNullNumber (x0 : Int) (y0 : Int) (y1 : Bool) : Prop := GivesS prog 103 [⟨.int .i64, .z, x0⟩] [⟨.int .i64, .z, y0⟩, ⟨.bool, .z, y1⟩] [⟨.int .i64, .z, x0⟩]
/-- impl.within -/
def G_iwithin (x0 : Int) (x1 : Int) (x2 : Int) (y0 : Bool) : Prop := GivesS prog 104 [⟨.int .i64, .z, x0⟩, ⟨.int .i64, .z, x1⟩, ⟨.int .i64, .z, x2⟩] [⟨.bool, .z, y0⟩] [⟨.int .i64, .z, x0⟩, ⟨.int .i64, .z, x1⟩, ⟨.int .i64, .z, x2⟩]
/-- impl.PositionIndex -/
def G_iPositionIndex (x0 : List TRel) (x1 : Int) (x2 : Int) (y0 : Int) : Prop := GivesS prog 70 [⟨h29, .z, x0⟩, ⟨.int .i64, .z, x1⟩, ⟨.int .i64, .z, x2⟩] [⟨.int .i64, .z, y0⟩] [⟨h29, .z, x0⟩, ⟨.int .i64, .z, x1⟩, ⟨.int .i64, .z, x2⟩]
/-- impl.AreValidRelations -/
def G_iAreValidRelations (x0 : List TRel) (y0 : Bool) : Prop := GivesS prog 85 [⟨h29, .z, x0⟩] [⟨.bool, .z, y0⟩] [⟨h29, .z, x0⟩]
/-- impl.IsValidRelation -/
def G_iIsValidRelation (x0 : TRel) (y0 : Bool) : Prop := GivesS prog 117 [⟨h8, .z, x0⟩] [⟨.bool, .z, y0⟩] [⟨h8, .z, x0⟩]
/-- impl.IsValidSkolemState -/
def G_iIsValidSkolemState (x0 : TSk) (y0 : Bool) : Prop := GivesS prog 64 [⟨h35, .z, x0⟩] [⟨.bool, .z, y0⟩] [⟨h35, .z, x0⟩]
/-- impl.areTerms -/
def G_iareTerms (x0 : List TTerm) (y0 : Bool) : Prop := GivesS prog 101 [⟨h33, .z, x0⟩] [⟨.bool, .z, y0⟩] [⟨h33, .z, x0⟩]
/-- slices.ContainsFunc[[]int,int] -/
def G_slices_ContainsFunc_int_c_iareTerms_1 (x0 : List Int) (x1 : Unit) (y0 : Bool) : Prop := GivesS prog 132 [⟨.sl 3 (.int .i64), .z, x0⟩, ⟨.fn 134 .unit, .z, x1⟩] [⟨.bool, .z, y0⟩] [⟨.sl 3 (.int .i64), .z, x0⟩, ⟨.fn 134 .unit, .z, x1⟩]
/-- slices.IndexFunc[[]int,int] -/
def G_slices_IndexFunc_int_c_iareTerms_1 (x0 : List Int) (x1 : Unit) (y0 : Int) : Prop := GivesS prog 146 [⟨.sl 3 (.int .i64), .z, x0⟩, ⟨.fn 134 .unit, .z, x1⟩] [⟨.int .i64, .z, y0⟩] [⟨.sl 3 (.int .i64), .z, x0⟩, ⟨.fn 134 .unit, .z, x1⟩]
/-- impl.areTerms$1 -/
def G_iareTerms_1 (x0 : Int) (y0 : Bool) : Prop := GivesS prog 134 [⟨.int .i64, .z, x0⟩] [⟨.bool, .z, y0⟩] [⟨.int .i64, .z, x0⟩]
/-- impl.depths -/
def G_idepths (x0 : List TTerm) (y0 : List Int) : Prop := GivesS prog 133 [⟨h33, .z, x0⟩] [⟨.sl 3 (.int .i64), .own .z, y0⟩] [⟨h33, .z, x0⟩]
/-- impl.nullsOf -/
def G_inullsOf (x0 : List Int) (y0 : List Int) : Prop := GivesS prog 142 [⟨.sl 3 (.int .i64), .z, x0⟩] [⟨.sl 3 (.int .i64), .own .z, y0⟩] [⟨.sl 3 (.int .i64), .z, x0⟩]
/-- slices.Compact[[]int,int] -/
def G_slices_Compact_int_ooz (x0 : List Int) (y0 : List Int) : Prop := GivesS prog 139 [⟨.sl 3 (.int .i64), .own .z, x0⟩] [⟨.sl 3 (.int .i64), .own .z, y0⟩] [⟨.sl 3 (.int .i64), .dead, x0⟩]
/-- slices.Sort[[]int,int] -/
def G_slices_Sort_int_ooz (x0 : List Int) (z0 : List Int) : Prop := GivesS prog 138 [⟨.sl 3 (.int .i64), .own .z, x0⟩] [] [⟨.sl 3 (.int .i64), .own .z, z0⟩]
/-- impl.termAt -/
def G_itermAt (x0 : List TTerm) (x1 : TTerm) (y0 : Int) : Prop := GivesS prog 131 [⟨h33, .z, x0⟩, ⟨h15, .z, x1⟩] [⟨.int .i64, .z, y0⟩] [⟨h33, .z, x0⟩, ⟨h15, .z, x1⟩]
/-- slices.IndexFunc[[]impl.SkolemTerm,impl.SkolemTerm] -/
def G_slices_IndexFunc_SkolemTerm_c_itermAt_1 (x0 : List TTerm) (x1 : TTerm × Unit) (y0 : Int) : Prop := GivesS prog 144 [⟨h33, .z, x0⟩, ⟨.fn 145 h43, .z, x1⟩] [⟨.int .i64, .z, y0⟩] [⟨h33, .z, x0⟩, ⟨.fn 145 h43, .z, x1⟩]
/-- impl.termAt$1 -/
def G_itermAt_1 (x0 : TTerm) (x1 : TTerm) (y0 : Bool) : Prop := GivesS prog 145 [⟨h15, .z, x0⟩, ⟨.ptr h15, .z, x1⟩] [⟨.bool, .z, y0⟩] [⟨h15, .z, x0⟩, ⟨.ptr h15, .z, x1⟩]
/-- slices.Equal[[]int,int] -/
def G_slices_Equal_int (x0 : List Int) (x1 : List Int) (y0 : Bool) : Prop := GivesS prog 39 [⟨.sl 3 (.int .i64), .z, x0⟩, ⟨.sl 3 (.int .i64), .z, x1⟩] [⟨.bool, .z, y0⟩] [⟨.sl 3 (.int .i64), .z, x0⟩, ⟨.sl 3 (.int .i64), .z, x1⟩]
/-- impl.isTermOf -/
def G_iisTermOf (x0 : TTerm) (x1 : Int) (y0 : Bool) : Prop := GivesS prog 130 [⟨h15, .z, x0⟩, ⟨.int .i64, .z, x1⟩] [⟨.bool, .z, y0⟩] [⟨h15, .z, x0⟩, ⟨.int .i64, .z, x1⟩]
/-- slices.ContainsFunc[[]int,int] -/
def G_slices_ContainsFunc_int_c_iisTermOf_1 (x0 : List Int) (x1 : Int × Unit) (y0 : Bool) : Prop := GivesS prog 132 [⟨.sl 3 (.int .i64), .z, x0⟩, ⟨.fn 143 h44, .z, x1⟩] [⟨.bool, .z, y0⟩] [⟨.sl 3 (.int .i64), .z, x0⟩, ⟨.fn 143 h44, .z, x1⟩]
/-- slices.IndexFunc[[]int,int] -/
def G_slices_IndexFunc_int_c_iisTermOf_1 (x0 : List Int) (x1 : Int × Unit) (y0 : Int) : Prop := GivesS prog 146 [⟨.sl 3 (.int .i64), .z, x0⟩, ⟨.fn 143 h44, .z, x1⟩] [⟨.int .i64, .z, y0⟩] [⟨.sl 3 (.int .i64), .z, x0⟩, ⟨.fn 143 h44, .z, x1⟩]
/-- impl.isTermOf$1 -/
def G_iisTermOf_1 (x0 : Int) (x1 : Int) (y0 : Bool) : Prop := GivesS prog 143 [⟨.int .i64, .z, x0⟩, ⟨.ptr (.int .i64), .z, x1⟩] [⟨.bool, .z, y0⟩] [⟨.int .i64, .z, x0⟩, ⟨.ptr (.int .i64), .z, x1⟩]
/-- impl.IsValidValue -/
def G_iIsValidValue (x0 : Int) (y0 : Bool) : Prop := GivesS prog 141 [⟨.int .i64, .z, x0⟩] [⟨.bool, .z, y0⟩] [⟨.int .i64, .z, x0⟩]
/-- impl.NextNull -/
def G_iNextNull (x0 : TInst) (y0 : Int) : Prop := GivesS prog 100 [⟨h32, .z, x0⟩] [⟨.int .i64, .z, y0⟩] [⟨h32, .z, x0⟩]
/-- impl.NullsOfInstance -/
def G_iNullsOfInstance (x0 : TInst) (y0 : List Int) : Prop := GivesS prog 129 [⟨h32, .z, x0⟩] [⟨.sl 3 (.int .i64), .own .z, y0⟩] [⟨h32, .z, x0⟩]
/-- impl.IsValidInstance -/
def G_iIsValidInstance (x0 : TInst) (y0 : Bool) : Prop := GivesS prog 99 [⟨h32, .z, x0⟩] [⟨.bool, .z, y0⟩] [⟨h32, .z, x0⟩]
/-- impl.NullsOfFact -/
def G_iNullsOfFact (x0 : TFact) (y0 : List Int) : Prop := GivesS prog 128 [⟨h11, .z, x0⟩] [⟨.sl 3 (.int .i64), .own .z, y0⟩] [⟨h11, .z, x0⟩]
/-- impl.CompareFacts -/
def G_iCompareFacts (x0 : TFact) (x1 : TFact) (y0 : Int) : Prop := GivesS prog 78 [⟨h11, .z, x0⟩, ⟨h11, .z, x1⟩] [⟨.int .i64, .z, y0⟩] [⟨h11, .z, x0⟩, ⟨h11, .z, x1⟩]
/-- cmp.Or[int] -/
def G_cmp_Or_int (x0 : List Int) (y0 : Int) : Prop := GivesS prog 107 [⟨.sl 3 (.int .i64), .z, x0⟩] [⟨.int .i64, .z, y0⟩] [⟨.sl 3 (.int .i64), .z, x0⟩]
/-- slices.Compare[[]int,int] -/
def G_slices_Compare_int (x0 : List Int) (x1 : List Int) (y0 : Int) : Prop := GivesS prog 109 [⟨.sl 3 (.int .i64), .z, x0⟩, ⟨.sl 3 (.int .i64), .z, x1⟩] [⟨.int .i64, .z, y0⟩] [⟨.sl 3 (.int .i64), .z, x0⟩, ⟨.sl 3 (.int .i64), .z, x1⟩]
/-- cmp.Compare[int] -/
def G_cmp_Compare_int (x0 : Int) (x1 : Int) (y0 : Int) : Prop := GivesS prog 108 [⟨.int .i64, .z, x0⟩, ⟨.int .i64, .z, x1⟩] [⟨.int .i64, .z, y0⟩] [⟨.int .i64, .z, x0⟩, ⟨.int .i64, .z, x1⟩]
/-- cmp.isNaN[int] -/
def G_cmp_isNaN_int (x0 : Int) (y0 : Bool) : Prop := GivesS prog 135 [⟨.int .i64, .z, x0⟩] [⟨.bool, .z, y0⟩] [⟨.int .i64, .z, x0⟩]
/-- impl.IsValidFact -/
def G_iIsValidFact (x0 : List TRel) (x1 : TFact) (y0 : Bool) : Prop := GivesS prog 127 [⟨h29, .z, x0⟩, ⟨h11, .z, x1⟩] [⟨.bool, .z, y0⟩] [⟨h29, .z, x0⟩, ⟨h11, .z, x1⟩]
/-- slices.ContainsFunc[[]int,int] -/
def G_slices_ContainsFunc_int_c_iIsValidFact_1 (x0 : List Int) (x1 : Unit) (y0 : Bool) : Prop := GivesS prog 132 [⟨.sl 3 (.int .i64), .z, x0⟩, ⟨.fn 140 .unit, .z, x1⟩] [⟨.bool, .z, y0⟩] [⟨.sl 3 (.int .i64), .z, x0⟩, ⟨.fn 140 .unit, .z, x1⟩]
/-- slices.IndexFunc[[]int,int] -/
def G_slices_IndexFunc_int_c_iIsValidFact_1 (x0 : List Int) (x1 : Unit) (y0 : Int) : Prop := GivesS prog 146 [⟨.sl 3 (.int .i64), .z, x0⟩, ⟨.fn 140 .unit, .z, x1⟩] [⟨.int .i64, .z, y0⟩] [⟨.sl 3 (.int .i64), .z, x0⟩, ⟨.fn 140 .unit, .z, x1⟩]
/-- impl.IsValidFact$1 -/
def G_iIsValidFact_1 (x0 : Int) (y0 : Bool) : Prop := GivesS prog 140 [⟨.int .i64, .z, x0⟩] [⟨.bool, .z, y0⟩] [⟨.int .i64, .z, x0⟩]
/-- spec.MaxDepthAt -/
def G_sMaxDepthAt (x0 : TSk) (x1 : Int) (y0 : Int) : Prop := GivesS prog 28 [⟨h35, .z, x0⟩, ⟨.int .i64, .z, x1⟩] [⟨.int .i64, .z, y0⟩] [⟨h35, .z, x0⟩, ⟨.int .i64, .z, x1⟩]
/-- spec.TermDepth -/
def G_sTermDepth (x0 : TSk) (x1 : Int) (y0 : Int) : Prop := GivesS prog 26 [⟨h35, .z, x0⟩, ⟨.int .i64, .z, x1⟩] [⟨.int .i64, .z, y0⟩] [⟨h35, .z, x0⟩, ⟨.int .i64, .z, x1⟩]
/-- spec.NullNumber -/
def G_sNullNumber (x0 : Int) (y0 : Int) (y1 : Bool) : Prop := GivesS prog 67 [⟨.int .i64, .z, x0⟩] [⟨.int .i64, .z, y0⟩, ⟨.bool, .z, y1⟩] [⟨.int .i64, .z, x0⟩]
/-- spec.l1In -/
def G_sl1In (x0 : Int) (x1 : Int) (x2 : Int) (y0 : Bool) : Prop := GivesS prog 95 [⟨.int .i64, .z, x0⟩, ⟨.int .i64, .z, x1⟩, ⟨.int .i64, .z, x2⟩] [⟨.bool, .z, y0⟩] [⟨.int .i64, .z, x0⟩, ⟨.int .i64, .z, x1⟩, ⟨.int .i64, .z, x2⟩]
/-- spec.IsValidSkolemState -/
def G_sIsValidSkolemState (x0 : TSk) (y0 : Bool) : Prop := GivesS prog 61 [⟨h35, .z, x0⟩] [⟨.bool, .z, y0⟩] [⟨h35, .z, x0⟩]
/-- spec.IsValidInstance -/
def G_sIsValidInstance (x0 : TInst) (y0 : Bool) : Prop := GivesS prog 97 [⟨h32, .z, x0⟩] [⟨.bool, .z, y0⟩] [⟨h32, .z, x0⟩]
/-- spec.AreValidRelations -/
def G_sAreValidRelations (x0 : List TRel) (y0 : Bool) : Prop := GivesS prog 82 [⟨h29, .z, x0⟩] [⟨.bool, .z, y0⟩] [⟨h29, .z, x0⟩]
/-- spec.IsValidRelation -/
def G_sIsValidRelation (x0 : TRel) (y0 : Bool) : Prop := GivesS prog 115 [⟨h8, .z, x0⟩] [⟨.bool, .z, y0⟩] [⟨h8, .z, x0⟩]
/-- spec.NullsOfFact -/
def G_sNullsOfFact (x0 : TFact) (y0 : List Int) : Prop := GivesS prog 124 [⟨h11, .z, x0⟩] [⟨.sl 3 (.int .i64), .z, y0⟩] [⟨h11, .z, x0⟩]
/-- spec.l4Put -/
def G_sl4Put (x0 : List Int) (x1 : Int) (y0 : List Int) : Prop := GivesS prog 125 [⟨.sl 3 (.int .i64), .z, x0⟩, ⟨.int .i64, .z, x1⟩] [⟨.sl 3 (.int .i64), .z, y0⟩] [⟨.sl 3 (.int .i64), .z, x0⟩, ⟨.int .i64, .z, x1⟩]
/-- spec.CompareFacts -/
def G_sCompareFacts (x0 : TFact) (x1 : TFact) (y0 : Int) : Prop := GivesS prog 33 [⟨h11, .z, x0⟩, ⟨h11, .z, x1⟩] [⟨.int .i64, .z, y0⟩] [⟨h11, .z, x0⟩, ⟨h11, .z, x1⟩]
/-- spec.l4Ints -/
def G_sl4Ints (x0 : List Int) (x1 : List Int) (y0 : Int) : Prop := GivesS prog 34 [⟨.sl 3 (.int .i64), .z, x0⟩, ⟨.sl 3 (.int .i64), .z, x1⟩] [⟨.int .i64, .z, y0⟩] [⟨.sl 3 (.int .i64), .z, x0⟩, ⟨.sl 3 (.int .i64), .z, x1⟩]
/-- spec.IsValidFact -/
def G_sIsValidFact (x0 : List TRel) (x1 : TFact) (y0 : Bool) : Prop := GivesS prog 126 [⟨h29, .z, x0⟩, ⟨h11, .z, x1⟩] [⟨.bool, .z, y0⟩] [⟨h29, .z, x0⟩, ⟨h11, .z, x1⟩]
/-- spec.IsValidValue -/
def G_sIsValidValue (x0 : Int) (y0 : Bool) : Prop := GivesS prog 94 [⟨.int .i64, .z, x0⟩] [⟨.bool, .z, y0⟩] [⟨.int .i64, .z, x0⟩]
/-- spec.NullsOfInstance -/
def G_sNullsOfInstance (x0 : TInst) (y0 : List Int) : Prop := GivesS prog 96 [⟨h32, .z, x0⟩] [⟨.sl 3 (.int .i64), .z, y0⟩] [⟨h32, .z, x0⟩]
/-- spec.PositionIndex -/
def G_sPositionIndex (x0 : List TRel) (x1 : Int) (x2 : Int) (y0 : Int) : Prop := GivesS prog 69 [⟨h29, .z, x0⟩, ⟨.int .i64, .z, x1⟩, ⟨.int .i64, .z, x2⟩] [⟨.int .i64, .z, y0⟩] [⟨h29, .z, x0⟩, ⟨.int .i64, .z, x1⟩, ⟨.int .i64, .z, x2⟩]
/-- laws.szSkolemState -/
def G_lszSkolemState (x0 : TSk) (x1 : Int) (y0 : Int) : Prop := GivesS prog 21 [⟨h18, .z, x0⟩, ⟨.int .i64, .z, x1⟩] [⟨.int .i64, .z, y0⟩] [⟨h18, .z, x0⟩, ⟨.int .i64, .z, x1⟩]
/-- laws.szSkolemTermS -/
def G_lszSkolemTermS (x0 : List TTerm) (x1 : Int) (y0 : Int) : Prop := GivesS prog 60 [⟨h16, .z, x0⟩, ⟨.int .i64, .z, x1⟩] [⟨.int .i64, .z, y0⟩] [⟨h16, .z, x0⟩, ⟨.int .i64, .z, x1⟩]
/-- laws.szSkolemTerm -/
def G_lszSkolemTerm (x0 : TTerm) (x1 : Int) (y0 : Int) : Prop := GivesS prog 93 [⟨h15, .z, x0⟩, ⟨.int .i64, .z, x1⟩] [⟨.int .i64, .z, y0⟩] [⟨h15, .z, x0⟩, ⟨.int .i64, .z, x1⟩]
/-- laws.szIntS -/
def G_lszIntS (x0 : List Int) (x1 : Int) (y0 : Int) : Prop := GivesS prog 105 [⟨.sl 3 (.int .i64), .z, x0⟩, ⟨.int .i64, .z, x1⟩] [⟨.int .i64, .z, y0⟩] [⟨.sl 3 (.int .i64), .z, x0⟩, ⟨.int .i64, .z, x1⟩]
/-- laws.szInstance -/
def G_lszInstance (x0 : TInst) (x1 : Int) (y0 : Int) : Prop := GivesS prog 59 [⟨h14, .z, x0⟩, ⟨.int .i64, .z, x1⟩] [⟨.int .i64, .z, y0⟩] [⟨h14, .z, x0⟩, ⟨.int .i64, .z, x1⟩]
/-- laws.szFactS -/
def G_lszFactS (x0 : List TFact) (x1 : Int) (y0 : Int) : Prop := GivesS prog 30 [⟨h12, .z, x0⟩, ⟨.int .i64, .z, x1⟩] [⟨.int .i64, .z, y0⟩] [⟨h12, .z, x0⟩, ⟨.int .i64, .z, x1⟩]
/-- laws.szFact -/
def G_lszFact (x0 : TFact) (x1 : Int) (y0 : Int) : Prop := GivesS prog 71 [⟨h11, .z, x0⟩, ⟨.int .i64, .z, x1⟩] [⟨.int .i64, .z, y0⟩] [⟨h11, .z, x0⟩, ⟨.int .i64, .z, x1⟩]
/-- laws.szRelationS -/
def G_lszRelationS (x0 : List TRel) (x1 : Int) (y0 : Int) : Prop := GivesS prog 13 [⟨h9, .z, x0⟩, ⟨.int .i64, .z, x1⟩] [⟨.int .i64, .z, y0⟩] [⟨h9, .z, x0⟩, ⟨.int .i64, .z, x1⟩]
/-- laws.szRelation -/
def G_lszRelation (x0 : TRel) (x1 : Int) (y0 : Int) : Prop := GivesS prog 45 [⟨h8, .z, x0⟩, ⟨.int .i64, .z, x1⟩] [⟨.int .i64, .z, y0⟩] [⟨h8, .z, x0⟩, ⟨.int .i64, .z, x1⟩]
end Go.V
