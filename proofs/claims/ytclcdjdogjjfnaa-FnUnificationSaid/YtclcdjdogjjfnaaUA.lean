/-
  The functions that are reached: types, signatures, what a call of each gives.
-/
import Derived.Test.YtclcdjdogjjfnaaVE
import Derived.Test.YtclcdjdogjjfnaaProg
import Derived.KernelRfl
set_option linter.unusedVariables false
set_option linter.unusedSimpArgs false
set_option maxRecDepth 1000000
set_option maxHeartbeats 4000000
set_option linter.unusedVariables false
namespace Go.V
open Go Go.Proofs
abbrev h0 : Sh := .pair (.int .u8) .unit
abbrev h1 : Sh := .pair .bool h0
abbrev h2 : Sh := .pair (.int .i64) h1
abbrev h3 : Sh := .pair (.int .i64) h2
abbrev h4 : Sh := .pair (.int .u64) .unit
abbrev h5 : Sh := .pair .str h4
abbrev h6 : Sh := .pair (.sl 3 (.int .i64)) .unit
abbrev h7 : Sh := .pair (.int .i64) h6
abbrev h8 : Sh := .pair .bool .unit
abbrev h9 : Sh := .pair (.int .i64) h8
abbrev h10 : Sh := .pair .str h9
abbrev h11 : Sh := .sl 109 h10
abbrev h12 : Sh := .sl 111 h7
abbrev h13 : Sh := .pair h12 .unit
abbrev h14 : Sh := .pair h11 h13
abbrev h15 : Sh := .sl 107 h10
abbrev h16 : Sh := .sl 90 h7
abbrev h17 : Sh := .pair h16 .unit
abbrev h18 : Sh := .pair h15 h17
abbrev h19 : Sh := .sl 29 h7
abbrev h20 : Sh := .pair (.int .i64) .unit
abbrev h21 : Sh := .pair (.int .i64) h20
abbrev h22 : Sh := .pair .bool h21
abbrev h23 : Sh := .pair h19 h22
abbrev h24 : Sh := .pair h19 h23
abbrev h25 : Sh := .sl 67 h24
abbrev h26 : Sh := .sl 33 h7
abbrev h27 : Sh := .pair h26 h22
abbrev h28 : Sh := .pair h26 h27
abbrev h29 : Sh := .sl 72 h28
abbrev h30 : Sh := .pair (.sl 5 (.int .u8)) h21
noncomputable abbrev prog : Program := Try.prog
def shTab : List (Nat × Sh) := [(2, .int .i64), (3, .int .i64), (4, .bool), (5, .int .u8), (6, .int .u8), (9, .str), (10, .str), (11, .str), (12, .int .u64), (21, .int .i32), (22, .sl 9 .str), (27, .sl 3 (.int .i64)), (28, h7), (29, h7), (33, h7), (40, .sl 5 (.int .u8)), (44, h11), (45, h12), (46, h14), (47, h14), (50, h15), (51, h16), (52, h18), (53, h18), (57, h25), (59, h29), (65, h19), (66, h24), (67, h24), (70, h26), (71, h28), (72, h28), (82, .ptr h30), (89, h7), (90, h7), (102, h30), (103, h30), (106, h10), (107, h10), (109, h10), (111, h7), (120, .int .u64), (126, .int .i64), (135, .int .u32), (137, .int .u64), (138, .int .u64), (142, .ptr (.int .i64)), (144, .ptr (.int .u64)), (154, .int .u8), (155, .int .u8), (157, .ptr (.int .u8)), (158, .int .i32), (159, .int .i32)]
def sigTab : List (Nat × List Sig) := [(5, [⟨[.z], [(.bool, .z)], [.z]⟩]), (17, [⟨[.z, .z], [(.sl 3 (.int .i64), .own .z), (.bool, .z)], [.z, .z]⟩]), (19, [⟨[.z, .z], [(.sl 3 (.int .i64), .own .z), (.bool, .z)], [.z, .z]⟩]), (25, [⟨[.z], [(.bool, .z)], [.z]⟩]), (26, [⟨[.z], [(h7, .pr .z (.pr (.own .z) .z)), (h7, .pr .z (.pr (.own .z) .z))], [.z]⟩]), (27, [⟨[.z, .z], [(.bool, .z)], [.z, .z]⟩]), (48, [⟨[.z, .z, .z], [(.bool, .z)], [.z, .z, .z]⟩]), (49, [⟨[.z, .z], [(.int .i64, .z)], [.z, .z]⟩]), (51, [⟨[.z], [(.bool, .z)], [.z]⟩]), (52, [⟨[.z, .z, .z], [(.bool, .z)], [.z, .z, .z]⟩]), (53, [⟨[.z, .z], [(.int .i64, .z)], [.z, .z]⟩]), (54, [⟨[.z], [(.int .i64, .z)], [.z]⟩]), (55, [⟨[.z], [(.ptr h30, .own .z)], [.z]⟩]), (56, [⟨[.own .z, .z], [(.int .i64, .z)], [.own .z, .z]⟩]), (57, [⟨[.own .z, .z, .z], [(h7, .pr .z (.pr (.own .z) .z))], [.own .z, .z, .z]⟩]), (58, [⟨[.own .z, .z], [(.bool, .z)], [.own .z, .z]⟩]), (75, [⟨[.own .z], [(.int .i64, .z)], [.own .z]⟩]), (76, [⟨[], [(h15, .own .z)], []⟩])]
def parTab : List (Nat × List (Option Sh)) := [(5, [some (.sl 5 (.int .u8))]), (17, [some (h7), some (h7)]), (19, [some (h7), some (h7)]), (25, [some (.sl 5 (.int .u8))]), (26, [some (.sl 5 (.int .u8))]), (27, [some (.sl 3 (.int .i64)), some (.sl 3 (.int .i64))]), (48, [some (.int .i64), some (.int .i64), some (.int .i64)]), (49, [some (.sl 3 (.int .i64)), some (.int .i64)]), (51, [some (.int .i64)]), (52, [some (.int .i64), some (.int .i64), some (.int .i64)]), (53, [some (.sl 3 (.int .i64)), some (.int .i64)]), (54, [some (.int .i64)]), (55, [some (.sl 5 (.int .u8))]), (56, [some (.ptr h30), some (.int .i64)]), (57, [some (.ptr h30), some (.int .i64), some (.int .i64)]), (58, [some (.ptr h30), some (.int .i64)]), (75, [some (.ptr h30)]), (76, [])]
noncomputable def E : Env := { sh := fun t => look t shTab, sigs := fun f => (look f sigTab).getD [], params := fun f => (look f parTab).getD [], gives := GivesS prog }
theorem types_ok : ∀ t s, E.sh t = some s → ShOk prog s none t := tab_ok (by kernel_rfl)
theorem mixed : prog.follows .mixedOrders = true := by kernel_rfl
/-- laws.FnUnification -/
def G_lFnUnification (x0 : List Int) (y0 : Bool) : Prop := GivesS prog 5 [⟨.sl 5 (.int .u8), .z, x0⟩] [⟨.bool, .z, y0⟩] [⟨.sl 5 (.int .u8), .z, x0⟩]
/-- laws.sameInts -/
def G_lsameInts (x0 : List Int) (x1 : List Int) (y0 : Bool) : Prop := GivesS prog 27 [⟨.sl 3 (.int .i64), .z, x0⟩, ⟨.sl 3 (.int .i64), .z, x1⟩] [⟨.bool, .z, y0⟩] [⟨.sl 3 (.int .i64), .z, x0⟩, ⟨.sl 3 (.int .i64), .z, x1⟩]
/-- spec.UnifyAtoms -/
def G_sUnifyAtoms (x0 : TFact) (x1 : TFact) (y0 : List Int) (y1 : Bool) : Prop := GivesS prog 17 [⟨h7, .z, x0⟩, ⟨h7, .z, x1⟩] [⟨.sl 3 (.int .i64), .own .z, y0⟩, ⟨.bool, .z, y1⟩] [⟨h7, .z, x0⟩, ⟨h7, .z, x1⟩]
/-- spec.l26Find -/
def G_sl26Find (x0 : List Int) (x1 : Int) (y0 : Int) : Prop := GivesS prog 49 [⟨.sl 3 (.int .i64), .z, x0⟩, ⟨.int .i64, .z, x1⟩] [⟨.int .i64, .z, y0⟩] [⟨.sl 3 (.int .i64), .z, x0⟩, ⟨.int .i64, .z, x1⟩]
/-- spec.l1In -/
def G_sl1In (x0 : Int) (x1 : Int) (x2 : Int) (y0 : Bool) : Prop := GivesS prog 48 [⟨.int .i64, .z, x0⟩, ⟨.int .i64, .z, x1⟩, ⟨.int .i64, .z, x2⟩] [⟨.bool, .z, y0⟩] [⟨.int .i64, .z, x0⟩, ⟨.int .i64, .z, x1⟩, ⟨.int .i64, .z, x2⟩]
/-- impl.UnifyAtoms -/
def G_iUnifyAtoms (x0 : TFact) (x1 : TFact) (y0 : List Int) (y1 : Bool) : Prop := GivesS prog 19 [⟨h7, .z, x0⟩, ⟨h7, .z, x1⟩] [⟨.sl 3 (.int .i64), .own .z, y0⟩, ⟨.bool, .z, y1⟩] [⟨h7, .z, x0⟩, ⟨h7, .z, x1⟩]
/-- impl.final -/
def G_ifinal (x0 : List Int) (x1 : Int) (y0 : Int) : Prop := GivesS prog 53 [⟨.sl 3 (.int .i64), .z, x0⟩, ⟨.int .i64, .z, x1⟩] [⟨.int .i64, .z, y0⟩] [⟨.sl 3 (.int .i64), .z, x0⟩, ⟨.int .i64, .z, x1⟩]
/-- impl.moved -/
def G_imoved (x0 : Int) (y0 : Int) : Prop := GivesS prog 54 [⟨.int .i64, .z, x0⟩] [⟨.int .i64, .z, y0⟩] [⟨.int .i64, .z, x0⟩]
/-- impl.UnifyAtoms$1 -/
def G_iUnifyAtoms_1 (x0 : Int) (y0 : Bool) : Prop := GivesS prog 51 [⟨.int .i64, .z, x0⟩] [⟨.bool, .z, y0⟩] [⟨.int .i64, .z, x0⟩]
/-- impl.within -/
def G_iwithin (x0 : Int) (x1 : Int) (x2 : Int) (y0 : Bool) : Prop := GivesS prog 52 [⟨.int .i64, .z, x0⟩, ⟨.int .i64, .z, x1⟩, ⟨.int .i64, .z, x2⟩] [⟨.bool, .z, y0⟩] [⟨.int .i64, .z, x0⟩, ⟨.int .i64, .z, x1⟩, ⟨.int .i64, .z, x2⟩]
/-- spec.DrawUnifyAtoms -/
def G_sDrawUnifyAtoms (x0 : List Int) (y0 : TFact) (y1 : TFact) : Prop := GivesS prog 26 [⟨.sl 5 (.int .u8), .z, x0⟩] [⟨h7, .pr .z (.pr (.own .z) .z), y0⟩, ⟨h7, .pr .z (.pr (.own .z) .z), y1⟩] [⟨.sl 5 (.int .u8), .z, x0⟩]
/-- spec.l1Below -/
def G_sl1Below_poz (x0 : List Int × Int × Int × Unit) (x1 : Int) (y0 : Int) (z0 : List Int × Int × Int × Unit) : Prop := GivesS prog 56 [⟨.ptr h30, .own .z, x0⟩, ⟨.int .i64, .z, x1⟩] [⟨.int .i64, .z, y0⟩] [⟨.ptr h30, .own .z, z0⟩, ⟨.int .i64, .z, x1⟩]
/-- spec.l1Byte -/
def G_sl1Byte_poz (x0 : List Int × Int × Int × Unit) (y0 : Int) (z0 : List Int × Int × Int × Unit) : Prop := GivesS prog 75 [⟨.ptr h30, .own .z, x0⟩] [⟨.int .i64, .z, y0⟩] [⟨.ptr h30, .own .z, z0⟩]
/-- spec.l1Once -/
def G_sl1Once_poz (x0 : List Int × Int × Int × Unit) (x1 : Int) (y0 : Bool) (z0 : List Int × Int × Int × Unit) : Prop := GivesS prog 58 [⟨.ptr h30, .own .z, x0⟩, ⟨.int .i64, .z, x1⟩] [⟨.bool, .z, y0⟩] [⟨.ptr h30, .own .z, z0⟩, ⟨.int .i64, .z, x1⟩]
/-- spec.l9Atom -/
def G_sl9Atom_poz (x0 : List Int × Int × Int × Unit) (x1 : Int) (x2 : Int) (y0 : TFact) (z0 : List Int × Int × Int × Unit) : Prop := GivesS prog 57 [⟨.ptr h30, .own .z, x0⟩, ⟨.int .i64, .z, x1⟩, ⟨.int .i64, .z, x2⟩] [⟨h7, .pr .z (.pr (.own .z) .z), y0⟩] [⟨.ptr h30, .own .z, z0⟩, ⟨.int .i64, .z, x1⟩, ⟨.int .i64, .z, x2⟩]
/-- spec.l3Sigs -/
def G_sl3Sigs  (y0 : List TRel) : Prop := GivesS prog 76 [] [⟨h15, .own .z, y0⟩] []
/-- spec.l1New -/
def G_sl1New (x0 : List Int) (y0 : List Int × Int × Int × Unit) : Prop := GivesS prog 55 [⟨.sl 5 (.int .u8), .z, x0⟩] [⟨.ptr h30, .own .z, y0⟩] [⟨.sl 5 (.int .u8), .z, x0⟩]
/-- laws.big -/
def G_lbig (x0 : List Int) (y0 : Bool) : Prop := GivesS prog 25 [⟨.sl 5 (.int .u8), .z, x0⟩] [⟨.bool, .z, y0⟩] [⟨.sl 5 (.int .u8), .z, x0⟩]
end Go.V
