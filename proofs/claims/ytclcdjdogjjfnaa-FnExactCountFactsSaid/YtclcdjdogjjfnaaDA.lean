/-
  The functions that are reached: types, signatures, what a call of each gives.
-/
import Derived.Test.YtclcdjdogjjfnaaVE
import Derived.Test.YtclcdjdogjjfnaaProg
import Derived.KernelRfl
set_option linter.unusedVariables false
set_option linter.unusedSimpArgs false
set_option maxRecDepth 1000000
set_option maxHeartbeats 4000000
set_option linter.unusedVariables false
namespace Go.V
open Go Go.Proofs
abbrev h0 : Sh := .pair (.int .u8) .unit
abbrev h1 : Sh := .pair .bool h0
abbrev h2 : Sh := .pair (.int .i64) h1
abbrev h3 : Sh := .pair (.int .i64) h2
abbrev h4 : Sh := .pair (.int .u64) .unit
abbrev h5 : Sh := .pair .str h4
abbrev h6 : Sh := .pair (.sl 3 (.int .i64)) .unit
abbrev h7 : Sh := .pair (.int .i64) h6
abbrev h8 : Sh := .pair .bool .unit
abbrev h9 : Sh := .pair (.int .i64) h8
abbrev h10 : Sh := .pair .str h9
abbrev h11 : Sh := .sl 109 h10
abbrev h12 : Sh := .sl 111 h7
abbrev h13 : Sh := .pair h12 .unit
abbrev h14 : Sh := .pair h11 h13
abbrev h15 : Sh := .sl 107 h10
abbrev h16 : Sh := .sl 90 h7
abbrev h17 : Sh := .pair h16 .unit
abbrev h18 : Sh := .pair h15 h17
abbrev h19 : Sh := .sl 29 h7
abbrev h20 : Sh := .pair (.int .i64) .unit
abbrev h21 : Sh := .pair (.int .i64) h20
abbrev h22 : Sh := .pair .bool h21
abbrev h23 : Sh := .pair h19 h22
abbrev h24 : Sh := .pair h19 h23
abbrev h25 : Sh := .sl 67 h24
abbrev h26 : Sh := .sl 33 h7
abbrev h27 : Sh := .pair h26 h22
abbrev h28 : Sh := .pair h26 h27
abbrev h29 : Sh := .sl 72 h28
abbrev h30 : Sh := .pair (.sl 5 (.int .u8)) h21
noncomputable abbrev prog : Program := Try.prog
def shTab : List (Nat × Sh) := [(2, .int .i64), (3, .int .i64), (4, .bool), (5, .int .u8), (6, .int .u8), (7, h3), (8, h3), (9, .str), (10, .str), (11, .str), (12, .int .u64), (13, h5), (14, h5), (21, .int .i32), (22, .sl 9 .str), (27, .sl 3 (.int .i64)), (28, h7), (29, h7), (33, h7), (40, .sl 5 (.int .u8)), (44, h11), (45, h12), (46, h14), (47, h14), (50, h15), (51, h16), (52, h18), (53, h18), (57, h25), (59, h29), (65, h19), (66, h24), (67, h24), (70, h26), (71, h28), (72, h28), (82, .ptr h30), (89, h7), (90, h7), (102, h30), (103, h30), (106, h10), (107, h10), (109, h10), (111, h7), (120, .int .u64), (126, .int .i64), (135, .int .u32), (137, .int .u64), (138, .int .u64), (142, .ptr (.int .i64)), (144, .ptr (.int .u64)), (154, .int .u8), (155, .int .u8), (157, .ptr (.int .u8)), (158, .int .i32), (159, .int .i32)]
def sigTab : List (Nat × List Sig) := [(6, [⟨[.z, .z], [(.bool, .z)], [.z, .z]⟩]), (20, [⟨[.z, .z], [(.bool, .z)], [.z, .z]⟩]), (28, [⟨[.z, .z], [(.int .i64, .z)], [.z, .z]⟩]), (29, [⟨[.z, .z], [(.int .i64, .z)], [.z, .z]⟩]), (30, [⟨[.z], [(h18, .pr (.own .z) (.pr (.own (.pr .z (.pr (.own .z) .z))) .z))], [.z]⟩]), (31, [⟨[.z, .z], [(.int .i64, .z)], [.z, .z]⟩]), (32, [⟨[.z, .z], [(.bool, .z)], [.z, .z]⟩]), (47, [⟨[.z, .z], [(.int .i64, .z)], [.z, .z]⟩]), (50, [⟨[.z], [(.sl 3 (.int .i64), .own .z)], [.z]⟩]), (59, [⟨[.z, .z], [(.int .i64, .z)], [.z, .z]⟩]), (60, [⟨[.z, .z], [(.int .i64, .z)], [.z, .z]⟩]), (61, [⟨[.z], [(h15, .own .z)], [.z]⟩]), (62, [⟨[.z], [(h16, .own (.pr .z (.pr (.own .z) .z)))], [.z]⟩]), (63, [⟨[.z, .z], [(.bool, .z)], [.z, .z]⟩]), (64, [⟨[.z, .z], [(.bool, .z)], [.z, .z]⟩]), (77, [⟨[.z, .z], [(.int .i64, .z)], [.z, .z]⟩]), (78, [⟨[.z, .z], [(.int .i64, .z)], [.z, .z]⟩]), (79, [⟨[.z], [(h10, .z)], [.z]⟩]), (80, [⟨[.z], [(h7, .pr .z (.pr (.own .z) .z))], [.z]⟩]), (81, [⟨[.z, .z], [(.bool, .z)], [.z, .z]⟩]), (82, [⟨[.z, .z], [(.bool, .z)], [.z, .z]⟩])]
def parTab : List (Nat × List (Option Sh)) := [(6, [some (h14), some (.int .i64)]), (20, [some (.sl 3 (.int .i64)), some (.sl 3 (.int .i64))]), (28, [some (h14), some (.int .i64)]), (29, [some (h18), some (.int .i64)]), (30, [some (h14)]), (31, [some (h18), some (.int .i64)]), (32, [some (h18), some (h18)]), (47, [some (.sl 3 (.int .i64)), some (.int .i64)]), (50, [some (.sl 3 (.int .i64))]), (59, [some (h11), some (.int .i64)]), (60, [some (h12), some (.int .i64)]), (61, [some (h11)]), (62, [some (h12)]), (63, [some (h15), some (h15)]), (64, [some (h16), some (h16)]), (77, [some (h10), some (.int .i64)]), (78, [some (h7), some (.int .i64)]), (79, [some (h10)]), (80, [some (h7)]), (81, [some (h10), some (h10)]), (82, [some (h7), some (h7)])]
noncomputable def E : Env := { sh := fun t => look t shTab, sigs := fun f => (look f sigTab).getD [], params := fun f => (look f parTab).getD [], gives := GivesS prog }
theorem types_ok : ∀ t s, E.sh t = some s → ShOk prog s none t := tab_ok (by kernel_rfl)
theorem mixed : prog.follows .mixedOrders = true := by kernel_rfl
/-- laws.FnExactCountFacts -/
def G6 (x0 : (List ((List UInt8) × Int × Bool × Unit)) × (List (Int × (List Int) × Unit)) × Unit) (x1 : Int) (y0 : Bool) : Prop := GivesS prog 6 [⟨h14, .z, x0⟩, ⟨.int .i64, .z, x1⟩] [⟨.bool, .z, y0⟩] [⟨h14, .z, x0⟩, ⟨.int .i64, .z, x1⟩]
/-- laws.eqInstance -/
def G32 (x0 : (List ((List UInt8) × Int × Bool × Unit)) × (List (Int × (List Int) × Unit)) × Unit) (x1 : (List ((List UInt8) × Int × Bool × Unit)) × (List (Int × (List Int) × Unit)) × Unit) (y0 : Bool) : Prop := GivesS prog 32 [⟨h18, .z, x0⟩, ⟨h18, .z, x1⟩] [⟨.bool, .z, y0⟩] [⟨h18, .z, x0⟩, ⟨h18, .z, x1⟩]
/-- laws.eqFactS -/
def G64 (x0 : List (Int × (List Int) × Unit)) (x1 : List (Int × (List Int) × Unit)) (y0 : Bool) : Prop := GivesS prog 64 [⟨h16, .z, x0⟩, ⟨h16, .z, x1⟩] [⟨.bool, .z, y0⟩] [⟨h16, .z, x0⟩, ⟨h16, .z, x1⟩]
/-- laws.eqFact -/
def G82 (x0 : Int × (List Int) × Unit) (x1 : Int × (List Int) × Unit) (y0 : Bool) : Prop := GivesS prog 82 [⟨h7, .z, x0⟩, ⟨h7, .z, x1⟩] [⟨.bool, .z, y0⟩] [⟨h7, .z, x0⟩, ⟨h7, .z, x1⟩]
/-- laws.eqIntS -/
def G20 (x0 : List Int) (x1 : List Int) (y0 : Bool) : Prop := GivesS prog 20 [⟨.sl 3 (.int .i64), .z, x0⟩, ⟨.sl 3 (.int .i64), .z, x1⟩] [⟨.bool, .z, y0⟩] [⟨.sl 3 (.int .i64), .z, x0⟩, ⟨.sl 3 (.int .i64), .z, x1⟩]
/-- laws.eqRelationS -/
def G63 (x0 : List ((List UInt8) × Int × Bool × Unit)) (x1 : List ((List UInt8) × Int × Bool × Unit)) (y0 : Bool) : Prop := GivesS prog 63 [⟨h15, .z, x0⟩, ⟨h15, .z, x1⟩] [⟨.bool, .z, y0⟩] [⟨h15, .z, x0⟩, ⟨h15, .z, x1⟩]
/-- laws.eqRelation -/
def G81 (x0 : (List UInt8) × Int × Bool × Unit) (x1 : (List UInt8) × Int × Bool × Unit) (y0 : Bool) : Prop := GivesS prog 81 [⟨h10, .z, x0⟩, ⟨h10, .z, x1⟩] [⟨.bool, .z, y0⟩] [⟨h10, .z, x0⟩, ⟨h10, .z, x1⟩]
/-- laws.toInstance -/
def G30 (x0 : (List ((List UInt8) × Int × Bool × Unit)) × (List (Int × (List Int) × Unit)) × Unit) (y0 : (List ((List UInt8) × Int × Bool × Unit)) × (List (Int × (List Int) × Unit)) × Unit) : Prop := GivesS prog 30 [⟨h14, .z, x0⟩] [⟨h18, .pr (.own .z) (.pr (.own (.pr .z (.pr (.own .z) .z))) .z), y0⟩] [⟨h14, .z, x0⟩]
/-- laws.toFactS -/
def G62 (x0 : List (Int × (List Int) × Unit)) (y0 : List (Int × (List Int) × Unit)) : Prop := GivesS prog 62 [⟨h12, .z, x0⟩] [⟨h16, .own (.pr .z (.pr (.own .z) .z)), y0⟩] [⟨h12, .z, x0⟩]
/-- laws.toFact -/
def G80 (x0 : Int × (List Int) × Unit) (y0 : Int × (List Int) × Unit) : Prop := GivesS prog 80 [⟨h7, .z, x0⟩] [⟨h7, .pr .z (.pr (.own .z) .z), y0⟩] [⟨h7, .z, x0⟩]
/-- laws.toIntS -/
def G50 (x0 : List Int) (y0 : List Int) : Prop := GivesS prog 50 [⟨.sl 3 (.int .i64), .z, x0⟩] [⟨.sl 3 (.int .i64), .own .z, y0⟩] [⟨.sl 3 (.int .i64), .z, x0⟩]
/-- laws.toRelationS -/
def G61 (x0 : List ((List UInt8) × Int × Bool × Unit)) (y0 : List ((List UInt8) × Int × Bool × Unit)) : Prop := GivesS prog 61 [⟨h11, .z, x0⟩] [⟨h15, .own .z, y0⟩] [⟨h11, .z, x0⟩]
/-- laws.toRelation -/
def G79 (x0 : (List UInt8) × Int × Bool × Unit) (y0 : (List UInt8) × Int × Bool × Unit) : Prop := GivesS prog 79 [⟨h10, .z, x0⟩] [⟨h10, .z, y0⟩] [⟨h10, .z, x0⟩]
/-- impl.CountFacts -/
def G31 (x0 : (List ((List UInt8) × Int × Bool × Unit)) × (List (Int × (List Int) × Unit)) × Unit) (x1 : Int) (y0 : Int) : Prop := GivesS prog 31 [⟨h18, .z, x0⟩, ⟨.int .i64, .z, x1⟩] [⟨.int .i64, .z, y0⟩] [⟨h18, .z, x0⟩, ⟨.int .i64, .z, x1⟩]
/-- spec.CountFacts -/
def G29 (x0 : (List ((List UInt8) × Int × Bool × Unit)) × (List (Int × (List Int) × Unit)) × Unit) (x1 : Int) (y0 : Int) : Prop := GivesS prog 29 [⟨h18, .z, x0⟩, ⟨.int .i64, .z, x1⟩] [⟨.int .i64, .z, y0⟩] [⟨h18, .z, x0⟩, ⟨.int .i64, .z, x1⟩]
/-- laws.szInstance -/
def G28 (x0 : (List ((List UInt8) × Int × Bool × Unit)) × (List (Int × (List Int) × Unit)) × Unit) (x1 : Int) (y0 : Int) : Prop := GivesS prog 28 [⟨h14, .z, x0⟩, ⟨.int .i64, .z, x1⟩] [⟨.int .i64, .z, y0⟩] [⟨h14, .z, x0⟩, ⟨.int .i64, .z, x1⟩]
/-- laws.szFactS -/
def G60 (x0 : List (Int × (List Int) × Unit)) (x1 : Int) (y0 : Int) : Prop := GivesS prog 60 [⟨h12, .z, x0⟩, ⟨.int .i64, .z, x1⟩] [⟨.int .i64, .z, y0⟩] [⟨h12, .z, x0⟩, ⟨.int .i64, .z, x1⟩]
/-- laws.szFact -/
def G78 (x0 : Int × (List Int) × Unit) (x1 : Int) (y0 : Int) : Prop := GivesS prog 78 [⟨h7, .z, x0⟩, ⟨.int .i64, .z, x1⟩] [⟨.int .i64, .z, y0⟩] [⟨h7, .z, x0⟩, ⟨.int .i64, .z, x1⟩]
/-- laws.szIntS -/
def G47 (x0 : List Int) (x1 : Int) (y0 : Int) : Prop := GivesS prog 47 [⟨.sl 3 (.int .i64), .z, x0⟩, ⟨.int .i64, .z, x1⟩] [⟨.int .i64, .z, y0⟩] [⟨.sl 3 (.int .i64), .z, x0⟩, ⟨.int .i64, .z, x1⟩]
/-- laws.szRelationS -/
def G59 (x0 : List ((List UInt8) × Int × Bool × Unit)) (x1 : Int) (y0 : Int) : Prop := GivesS prog 59 [⟨h11, .z, x0⟩, ⟨.int .i64, .z, x1⟩] [⟨.int .i64, .z, y0⟩] [⟨h11, .z, x0⟩, ⟨.int .i64, .z, x1⟩]
/-- laws.szRelation -/
def G77 (x0 : (List UInt8) × Int × Bool × Unit) (x1 : Int) (y0 : Int) : Prop := GivesS prog 77 [⟨h10, .z, x0⟩, ⟨.int .i64, .z, x1⟩] [⟨.int .i64, .z, y0⟩] [⟨h10, .z, x0⟩, ⟨.int .i64, .z, x1⟩]
end Go.V
/- Functions: what is to be proved of each, and that it is enough. -/
set_option maxRecDepth 1000000
set_option maxHeartbeats 4000000
set_option linter.unusedVariables false
namespace Go.V
open Go Go.Proofs
/-- laws.szIntS -/
def S47 (x0 : List Int) (x1 : Int) (K : Int × Unit → Prop) : Prop :=
  bcase (decide ((w64 (x1 - (List.length x0 : Int))) < (0 : Int))) (K ((-1 : Int), ())) (K (w64 (x1 - (List.length x0 : Int)), ()))
theorem V47 (x0 : List Int) (x1 : Int) (K : Int × Unit → Prop) : fnV E (fun i => look i []) (fun i => look i []) Try.f47 ⟨[.z, .z], [(.int .i64, .z)], [.z, .z]⟩ [⟨.sl 3 (.int .i64), .z, x0⟩, ⟨.int .i64, .z, x1⟩] (ansK [(.int .i64, .z)] [(.sl 3 (.int .i64), .z), (.int .i64, .z)] K) = S47 x0 x1 K := by kernel_rfl
theorem M47 (x0 : List Int) (x1 : Int) (y0 : Int) (h : S47 x0 x1 fun r => r = (y0, ())) : G47 x0 x1 y0 := fn_gives (l := [(.int .i64, .z)]) (m := [(.sl 3 (.int .i64), .z), (.int .i64, .z)]) (val := (y0, ())) types_ok (fun _ _ _ _ h => h) mixed Try.func47 (by kernel_rfl) (by rfl) (by rfl) (by rfl) (Eq.mpr (V47 x0 x1 _) h)
/-- laws.toIntS -/
def S50 (x0 : List Int) (K : (List Int) × Unit → Prop) : Prop :=
  (0 ≤ (List.length x0 : Int) ∧ (List.length x0 : Int) ≤ (List.length x0 : Int) ∧ (List.length x0 : Int) ≤ maxL) ∧ (LoopP (fun (again2 : Int × (List Int) × Unit → Prop) (a1 : Int × (List Int) × Unit) => bcase (decide (a1.1 < (List.length x0 : Int))) ((0 ≤ a1.1 ∧ a1.1 < (List.length x0 : Int)) ∧ ((0 ≤ a1.1 ∧ a1.1 < (List.length a1.2.1 : Int)) ∧ (again2 (w64 (a1.1 + (1 : Int)), (a1.2.1.set (Int.toNat a1.1) (x0.getD (Int.toNat a1.1) (0 : Int)), ()))))) (K (a1.2.1, ()))) ((0 : Int), (List.replicate (Int.toNat (List.length x0 : Int)) (0 : Int), ())))
theorem V50 (x0 : List Int) (K : (List Int) × Unit → Prop) : fnV E (fun i => look i [(0, { tmps := [(4, .int .i64)], refs := [(3, 7)], roots := [(7, false, false, .sl 3 (.int .i64), .own .z)], ctmps := [0], croots := [] })]) (fun i => look i []) Try.f50 ⟨[.z], [(.sl 3 (.int .i64), .own .z)], [.z]⟩ [⟨.sl 3 (.int .i64), .z, x0⟩] (ansK [(.sl 3 (.int .i64), .own .z)] [(.sl 3 (.int .i64), .z)] K) = S50 x0 K := by kernel_rfl
theorem M50 (x0 : List Int) (y0 : List Int) (h : S50 x0 fun r => r = (y0, ())) : G50 x0 y0 := fn_gives (l := [(.sl 3 (.int .i64), .own .z)]) (m := [(.sl 3 (.int .i64), .z)]) (val := (y0, ())) types_ok (fun _ _ _ _ h => h) mixed Try.func50 (by kernel_rfl) (by rfl) (by rfl) (by rfl) (Eq.mpr (V50 x0 _) h)
/-- laws.eqIntS -/
def S20 (x0 : List Int) (x1 : List Int) (K : Bool × Unit → Prop) : Prop :=
  bcase ((List.length x0 : Int) != (List.length x1 : Int)) (K (false, ())) (LoopP (fun (again2 : Int × Unit → Prop) (a1 : Int × Unit) => bcase (decide (a1.1 < (List.length x0 : Int))) ((0 ≤ a1.1 ∧ a1.1 < (List.length x0 : Int)) ∧ ((0 ≤ a1.1 ∧ a1.1 < (List.length x1 : Int)) ∧ (bcase ((x0.getD (Int.toNat a1.1) (0 : Int)) != (x1.getD (Int.toNat a1.1) (0 : Int))) (K (false, ())) (again2 (w64 (a1.1 + (1 : Int)), ()))))) (K (true, ()))) ((0 : Int), ()))
theorem V20 (x0 : List Int) (x1 : List Int) (K : Bool × Unit → Prop) : fnV E (fun i => look i [(0, { tmps := [(5, .int .i64)], refs := [], roots := [], ctmps := [0, 1], croots := [] })]) (fun i => look i [(6, (.op 0 (.op 1 (.op 2 (.op 4 (.op 5 (.op 6 (.chk [] (.mem 3 (.mem 7 (.op 8 .nil))) .nil))))))))]) Try.f20 ⟨[.z, .z], [(.bool, .z)], [.z, .z]⟩ [⟨.sl 3 (.int .i64), .z, x0⟩, ⟨.sl 3 (.int .i64), .z, x1⟩] (ansK [(.bool, .z)] [(.sl 3 (.int .i64), .z), (.sl 3 (.int .i64), .z)] K) = S20 x0 x1 K := by kernel_rfl
theorem M20 (x0 : List Int) (x1 : List Int) (y0 : Bool) (h : S20 x0 x1 fun r => r = (y0, ())) : G20 x0 x1 y0 := fn_gives (l := [(.bool, .z)]) (m := [(.sl 3 (.int .i64), .z), (.sl 3 (.int .i64), .z)]) (val := (y0, ())) types_ok (fun _ _ _ _ h => h) mixed Try.func20 (by kernel_rfl) (by rfl) (by rfl) (by rfl) (Eq.mpr (V20 x0 x1 _) h)
/-- laws.szRelation -/
def S77 (x0 : (List UInt8) × Int × Bool × Unit) (x1 : Int) (K : Int × Unit → Prop) : Prop :=
  bcase (decide ((w64 (x1 - (List.length x0.1 : Int))) < (0 : Int))) (K ((-1 : Int), ())) (K (w64 (x1 - (List.length x0.1 : Int)), ()))
theorem V77 (x0 : (List UInt8) × Int × Bool × Unit) (x1 : Int) (K : Int × Unit → Prop) : fnV E (fun i => look i []) (fun i => look i []) Try.f77 ⟨[.z, .z], [(.int .i64, .z)], [.z, .z]⟩ [⟨h10, .z, x0⟩, ⟨.int .i64, .z, x1⟩] (ansK [(.int .i64, .z)] [(h10, .z), (.int .i64, .z)] K) = S77 x0 x1 K := by kernel_rfl
theorem M77 (x0 : (List UInt8) × Int × Bool × Unit) (x1 : Int) (y0 : Int) (h : S77 x0 x1 fun r => r = (y0, ())) : G77 x0 x1 y0 := fn_gives (l := [(.int .i64, .z)]) (m := [(h10, .z), (.int .i64, .z)]) (val := (y0, ())) types_ok (fun _ _ _ _ h => h) mixed Try.func77 (by kernel_rfl) (by rfl) (by rfl) (by rfl) (Eq.mpr (V77 x0 x1 _) h)
/-- laws.szRelationS -/
def S59 (x0 : List ((List UInt8) × Int × Bool × Unit)) (x1 : Int) (K : Int × Unit → Prop) : Prop :=
  bcase (decide ((w64 (x1 - (List.length x0 : Int))) < (0 : Int))) (K ((-1 : Int), ())) (LoopP (fun (again2 : Int × Int × Unit → Prop) (a1 : Int × Int × Unit) => bcase (decide (a1.2.1 < (List.length x0 : Int))) ((0 ≤ a1.2.1 ∧ a1.2.1 < (List.length x0 : Int)) ∧ (∃ y3 : Int, G77 (x0.getD (Int.toNat a1.2.1) (([] : List UInt8), ((0 : Int), (false, ())))) a1.1 y3 ∧ (bcase (decide (y3 < (0 : Int))) (K ((-1 : Int), ())) (again2 (y3, (w64 (a1.2.1 + (1 : Int)), ())))))) (K (a1.1, ()))) (w64 (x1 - (List.length x0 : Int)), ((0 : Int), ())))
theorem V59 (x0 : List ((List UInt8) × Int × Bool × Unit)) (x1 : Int) (K : Int × Unit → Prop) : fnV E (fun i => look i [(0, { tmps := [(1, .int .i64), (5, .int .i64)], refs := [], roots := [], ctmps := [0], croots := [] })]) (fun i => look i []) Try.f59 ⟨[.z, .z], [(.int .i64, .z)], [.z, .z]⟩ [⟨h11, .z, x0⟩, ⟨.int .i64, .z, x1⟩] (ansK [(.int .i64, .z)] [(h11, .z), (.int .i64, .z)] K) = S59 x0 x1 K := by kernel_rfl
theorem M59 (x0 : List ((List UInt8) × Int × Bool × Unit)) (x1 : Int) (y0 : Int) (h : S59 x0 x1 fun r => r = (y0, ())) : G59 x0 x1 y0 := fn_gives (l := [(.int .i64, .z)]) (m := [(h11, .z), (.int .i64, .z)]) (val := (y0, ())) types_ok (fun _ _ _ _ h => h) mixed Try.func59 (by kernel_rfl) (by rfl) (by rfl) (by rfl) (Eq.mpr (V59 x0 x1 _) h)
/-- laws.szFact -/
def S78 (x0 : Int × (List Int) × Unit) (x1 : Int) (K : Int × Unit → Prop) : Prop :=
  ∃ y1 : Int, G47 x0.2.1 x1 y1 ∧ (bcase (decide (y1 < (0 : Int))) (K ((-1 : Int), ())) (K (y1, ())))
theorem V78 (x0 : Int × (List Int) × Unit) (x1 : Int) (K : Int × Unit → Prop) : fnV E (fun i => look i []) (fun i => look i []) Try.f78 ⟨[.z, .z], [(.int .i64, .z)], [.z, .z]⟩ [⟨h7, .z, x0⟩, ⟨.int .i64, .z, x1⟩] (ansK [(.int .i64, .z)] [(h7, .z), (.int .i64, .z)] K) = S78 x0 x1 K := by kernel_rfl
theorem M78 (x0 : Int × (List Int) × Unit) (x1 : Int) (y0 : Int) (h : S78 x0 x1 fun r => r = (y0, ())) : G78 x0 x1 y0 := fn_gives (l := [(.int .i64, .z)]) (m := [(h7, .z), (.int .i64, .z)]) (val := (y0, ())) types_ok (fun _ _ _ _ h => h) mixed Try.func78 (by kernel_rfl) (by rfl) (by rfl) (by rfl) (Eq.mpr (V78 x0 x1 _) h)
/-- laws.szFactS -/
def S60 (x0 : List (Int × (List Int) × Unit)) (x1 : Int) (K : Int × Unit → Prop) : Prop :=
  bcase (decide ((w64 (x1 - (List.length x0 : Int))) < (0 : Int))) (K ((-1 : Int), ())) (LoopP (fun (again2 : Int × Int × Unit → Prop) (a1 : Int × Int × Unit) => bcase (decide (a1.2.1 < (List.length x0 : Int))) ((0 ≤ a1.2.1 ∧ a1.2.1 < (List.length x0 : Int)) ∧ (∃ y3 : Int, G78 (x0.getD (Int.toNat a1.2.1) ((0 : Int), (([] : List Int), ()))) a1.1 y3 ∧ (bcase (decide (y3 < (0 : Int))) (K ((-1 : Int), ())) (again2 (y3, (w64 (a1.2.1 + (1 : Int)), ())))))) (K (a1.1, ()))) (w64 (x1 - (List.length x0 : Int)), ((0 : Int), ())))
theorem V60 (x0 : List (Int × (List Int) × Unit)) (x1 : Int) (K : Int × Unit → Prop) : fnV E (fun i => look i [(0, { tmps := [(1, .int .i64), (5, .int .i64)], refs := [], roots := [], ctmps := [0], croots := [] })]) (fun i => look i []) Try.f60 ⟨[.z, .z], [(.int .i64, .z)], [.z, .z]⟩ [⟨h12, .z, x0⟩, ⟨.int .i64, .z, x1⟩] (ansK [(.int .i64, .z)] [(h12, .z), (.int .i64, .z)] K) = S60 x0 x1 K := by kernel_rfl
theorem M60 (x0 : List (Int × (List Int) × Unit)) (x1 : Int) (y0 : Int) (h : S60 x0 x1 fun r => r = (y0, ())) : G60 x0 x1 y0 := fn_gives (l := [(.int .i64, .z)]) (m := [(h12, .z), (.int .i64, .z)]) (val := (y0, ())) types_ok (fun _ _ _ _ h => h) mixed Try.func60 (by kernel_rfl) (by rfl) (by rfl) (by rfl) (Eq.mpr (V60 x0 x1 _) h)
/-- laws.szInstance -/
def S28 (x0 : (List ((List UInt8) × Int × Bool × Unit)) × (List (Int × (List Int) × Unit)) × Unit) (x1 : Int) (K : Int × Unit → Prop) : Prop :=
  ∃ y1 : Int, G59 x0.1 x1 y1 ∧ (bcase (decide (y1 < (0 : Int))) (K ((-1 : Int), ())) (∃ y2 : Int, G60 x0.2.1 y1 y2 ∧ (bcase (decide (y2 < (0 : Int))) (K ((-1 : Int), ())) (K (y2, ())))))
theorem V28 (x0 : (List ((List UInt8) × Int × Bool × Unit)) × (List (Int × (List Int) × Unit)) × Unit) (x1 : Int) (K : Int × Unit → Prop) : fnV E (fun i => look i []) (fun i => look i []) Try.f28 ⟨[.z, .z], [(.int .i64, .z)], [.z, .z]⟩ [⟨h14, .z, x0⟩, ⟨.int .i64, .z, x1⟩] (ansK [(.int .i64, .z)] [(h14, .z), (.int .i64, .z)] K) = S28 x0 x1 K := by kernel_rfl
theorem M28 (x0 : (List ((List UInt8) × Int × Bool × Unit)) × (List (Int × (List Int) × Unit)) × Unit) (x1 : Int) (y0 : Int) (h : S28 x0 x1 fun r => r = (y0, ())) : G28 x0 x1 y0 := fn_gives (l := [(.int .i64, .z)]) (m := [(h14, .z), (.int .i64, .z)]) (val := (y0, ())) types_ok (fun _ _ _ _ h => h) mixed Try.func28 (by kernel_rfl) (by rfl) (by rfl) (by rfl) (Eq.mpr (V28 x0 x1 _) h)
/-- laws.toRelation -/
def S79 (x0 : (List UInt8) × Int × Bool × Unit) (K : ((List UInt8) × Int × Bool × Unit) × Unit → Prop) : Prop :=
  K ((x0.1, (x0.2.1, (x0.2.2.1, ()))), ())
theorem V79 (x0 : (List UInt8) × Int × Bool × Unit) (K : ((List UInt8) × Int × Bool × Unit) × Unit → Prop) : fnV E (fun i => look i []) (fun i => look i []) Try.f79 ⟨[.z], [(h10, .z)], [.z]⟩ [⟨h10, .z, x0⟩] (ansK [(h10, .z)] [(h10, .z)] K) = S79 x0 K := by kernel_rfl
theorem M79 (x0 : (List UInt8) × Int × Bool × Unit) (y0 : (List UInt8) × Int × Bool × Unit) (h : S79 x0 fun r => r = (y0, ())) : G79 x0 y0 := fn_gives (l := [(h10, .z)]) (m := [(h10, .z)]) (val := (y0, ())) types_ok (fun _ _ _ _ h => h) mixed Try.func79 (by kernel_rfl) (by rfl) (by rfl) (by rfl) (Eq.mpr (V79 x0 _) h)
/-- laws.toRelationS -/
def S61 (x0 : List ((List UInt8) × Int × Bool × Unit)) (K : (List ((List UInt8) × Int × Bool × Unit)) × Unit → Prop) : Prop :=
  (0 ≤ (List.length x0 : Int) ∧ (List.length x0 : Int) ≤ (List.length x0 : Int) ∧ (List.length x0 : Int) ≤ maxL) ∧ (LoopP (fun (again2 : Int × (List ((List UInt8) × Int × Bool × Unit)) × Unit → Prop) (a1 : Int × (List ((List UInt8) × Int × Bool × Unit)) × Unit) => bcase (decide (a1.1 < (List.length x0 : Int))) ((0 ≤ a1.1 ∧ a1.1 < (List.length x0 : Int)) ∧ (∃ y3 : (List UInt8) × Int × Bool × Unit, G79 (x0.getD (Int.toNat a1.1) (([] : List UInt8), ((0 : Int), (false, ())))) y3 ∧ ((0 ≤ a1.1 ∧ a1.1 < (List.length a1.2.1 : Int)) ∧ (again2 (w64 (a1.1 + (1 : Int)), (a1.2.1.set (Int.toNat a1.1) y3, ())))))) (K (a1.2.1, ()))) ((0 : Int), (List.replicate (Int.toNat (List.length x0 : Int)) (([] : List UInt8), ((0 : Int), (false, ()))), ())))
theorem V61 (x0 : List ((List UInt8) × Int × Bool × Unit)) (K : (List ((List UInt8) × Int × Bool × Unit)) × Unit → Prop) : fnV E (fun i => look i [(0, { tmps := [(4, .int .i64)], refs := [(3, 7)], roots := [(7, false, false, h15, .own .z)], ctmps := [0], croots := [] })]) (fun i => look i []) Try.f61 ⟨[.z], [(h15, .own .z)], [.z]⟩ [⟨h11, .z, x0⟩] (ansK [(h15, .own .z)] [(h11, .z)] K) = S61 x0 K := by kernel_rfl
theorem M61 (x0 : List ((List UInt8) × Int × Bool × Unit)) (y0 : List ((List UInt8) × Int × Bool × Unit)) (h : S61 x0 fun r => r = (y0, ())) : G61 x0 y0 := fn_gives (l := [(h15, .own .z)]) (m := [(h11, .z)]) (val := (y0, ())) types_ok (fun _ _ _ _ h => h) mixed Try.func61 (by kernel_rfl) (by rfl) (by rfl) (by rfl) (Eq.mpr (V61 x0 _) h)
/-- laws.toFact -/
def S80 (x0 : Int × (List Int) × Unit) (K : (Int × (List Int) × Unit) × Unit → Prop) : Prop :=
  ∃ y1 : List Int, G50 x0.2.1 y1 ∧ (K ((x0.1, (y1, ())), ()))
theorem V80 (x0 : Int × (List Int) × Unit) (K : (Int × (List Int) × Unit) × Unit → Prop) : fnV E (fun i => look i []) (fun i => look i []) Try.f80 ⟨[.z], [(h7, .pr .z (.pr (.own .z) .z))], [.z]⟩ [⟨h7, .z, x0⟩] (ansK [(h7, .pr .z (.pr (.own .z) .z))] [(h7, .z)] K) = S80 x0 K := by kernel_rfl
theorem M80 (x0 : Int × (List Int) × Unit) (y0 : Int × (List Int) × Unit) (h : S80 x0 fun r => r = (y0, ())) : G80 x0 y0 := fn_gives (l := [(h7, .pr .z (.pr (.own .z) .z))]) (m := [(h7, .z)]) (val := (y0, ())) types_ok (fun _ _ _ _ h => h) mixed Try.func80 (by kernel_rfl) (by rfl) (by rfl) (by rfl) (Eq.mpr (V80 x0 _) h)
/-- laws.toFactS -/
def S62 (x0 : List (Int × (List Int) × Unit)) (K : (List (Int × (List Int) × Unit)) × Unit → Prop) : Prop :=
  (0 ≤ (List.length x0 : Int) ∧ (List.length x0 : Int) ≤ (List.length x0 : Int) ∧ (List.length x0 : Int) ≤ maxL) ∧ (LoopP (fun (again2 : Int × (List (Int × (List Int) × Unit)) × Unit → Prop) (a1 : Int × (List (Int × (List Int) × Unit)) × Unit) => bcase (decide (a1.1 < (List.length x0 : Int))) ((0 ≤ a1.1 ∧ a1.1 < (List.length x0 : Int)) ∧ (∃ y3 : Int × (List Int) × Unit, G80 (x0.getD (Int.toNat a1.1) ((0 : Int), (([] : List Int), ()))) y3 ∧ ((0 ≤ a1.1 ∧ a1.1 < (List.length a1.2.1 : Int)) ∧ (again2 (w64 (a1.1 + (1 : Int)), (a1.2.1.set (Int.toNat a1.1) (y3.1, (y3.2.1, y3.2.2)), ())))))) (K (a1.2.1, ()))) ((0 : Int), (List.replicate (Int.toNat (List.length x0 : Int)) ((0 : Int), (([] : List Int), ())), ())))
theorem V62 (x0 : List (Int × (List Int) × Unit)) (K : (List (Int × (List Int) × Unit)) × Unit → Prop) : fnV E (fun i => look i [(0, { tmps := [(4, .int .i64)], refs := [(3, 7)], roots := [(7, false, false, h16, .own (.pr .z (.pr (.own .z) .z)))], ctmps := [0], croots := [] })]) (fun i => look i []) Try.f62 ⟨[.z], [(h16, .own (.pr .z (.pr (.own .z) .z)))], [.z]⟩ [⟨h12, .z, x0⟩] (ansK [(h16, .own (.pr .z (.pr (.own .z) .z)))] [(h12, .z)] K) = S62 x0 K := by kernel_rfl
theorem M62 (x0 : List (Int × (List Int) × Unit)) (y0 : List (Int × (List Int) × Unit)) (h : S62 x0 fun r => r = (y0, ())) : G62 x0 y0 := fn_gives (l := [(h16, .own (.pr .z (.pr (.own .z) .z)))]) (m := [(h12, .z)]) (val := (y0, ())) types_ok (fun _ _ _ _ h => h) mixed Try.func62 (by kernel_rfl) (by rfl) (by rfl) (by rfl) (Eq.mpr (V62 x0 _) h)
/-- laws.toInstance -/
def S30 (x0 : (List ((List UInt8) × Int × Bool × Unit)) × (List (Int × (List Int) × Unit)) × Unit) (K : ((List ((List UInt8) × Int × Bool × Unit)) × (List (Int × (List Int) × Unit)) × Unit) × Unit → Prop) : Prop :=
  ∃ y1 : List ((List UInt8) × Int × Bool × Unit), G61 x0.1 y1 ∧ (∃ y2 : List (Int × (List Int) × Unit), G62 x0.2.1 y2 ∧ (K ((y1, (y2, ())), ())))
theorem V30 (x0 : (List ((List UInt8) × Int × Bool × Unit)) × (List (Int × (List Int) × Unit)) × Unit) (K : ((List ((List UInt8) × Int × Bool × Unit)) × (List (Int × (List Int) × Unit)) × Unit) × Unit → Prop) : fnV E (fun i => look i []) (fun i => look i []) Try.f30 ⟨[.z], [(h18, .pr (.own .z) (.pr (.own (.pr .z (.pr (.own .z) .z))) .z))], [.z]⟩ [⟨h14, .z, x0⟩] (ansK [(h18, .pr (.own .z) (.pr (.own (.pr .z (.pr (.own .z) .z))) .z))] [(h14, .z)] K) = S30 x0 K := by kernel_rfl
theorem M30 (x0 : (List ((List UInt8) × Int × Bool × Unit)) × (List (Int × (List Int) × Unit)) × Unit) (y0 : (List ((List UInt8) × Int × Bool × Unit)) × (List (Int × (List Int) × Unit)) × Unit) (h : S30 x0 fun r => r = (y0, ())) : G30 x0 y0 := fn_gives (l := [(h18, .pr (.own .z) (.pr (.own (.pr .z (.pr (.own .z) .z))) .z))]) (m := [(h14, .z)]) (val := (y0, ())) types_ok (fun _ _ _ _ h => h) mixed Try.func30 (by kernel_rfl) (by rfl) (by rfl) (by rfl) (Eq.mpr (V30 x0 _) h)
/-- spec.CountFacts -/
def S29 (x0 : (List ((List UInt8) × Int × Bool × Unit)) × (List (Int × (List Int) × Unit)) × Unit) (x1 : Int) (K : Int × Unit → Prop) : Prop :=
  LoopP (fun (again2 : Int × Int × Unit → Prop) (a1 : Int × Int × Unit) => bcase (decide (a1.2.1 < (List.length x0.2.1 : Int))) ((0 ≤ a1.2.1 ∧ a1.2.1 < (List.length x0.2.1 : Int)) ∧ (bcase (((x0.2.1.getD (Int.toNat a1.2.1) ((0 : Int), (([] : List Int), ()))).1) == x1) (again2 (w64 (a1.1 + (1 : Int)), (w64 (a1.2.1 + (1 : Int)), ()))) (again2 (a1.1, (w64 (a1.2.1 + (1 : Int)), ()))))) (K (a1.1, ()))) ((0 : Int), ((0 : Int), ()))
theorem V29 (x0 : (List ((List UInt8) × Int × Bool × Unit)) × (List (Int × (List Int) × Unit)) × Unit) (x1 : Int) (K : Int × Unit → Prop) : fnV E (fun i => look i [(0, { tmps := [(5, .int .i64), (6, .int .i64)], refs := [], roots := [], ctmps := [1, 2], croots := [2] })]) (fun i => look i []) Try.f29 ⟨[.z, .z], [(.int .i64, .z)], [.z, .z]⟩ [⟨h18, .z, x0⟩, ⟨.int .i64, .z, x1⟩] (ansK [(.int .i64, .z)] [(h18, .z), (.int .i64, .z)] K) = S29 x0 x1 K := by kernel_rfl
theorem M29 (x0 : (List ((List UInt8) × Int × Bool × Unit)) × (List (Int × (List Int) × Unit)) × Unit) (x1 : Int) (y0 : Int) (h : S29 x0 x1 fun r => r = (y0, ())) : G29 x0 x1 y0 := fn_gives (l := [(.int .i64, .z)]) (m := [(h18, .z), (.int .i64, .z)]) (val := (y0, ())) types_ok (fun _ _ _ _ h => h) mixed Try.func29 (by kernel_rfl) (by rfl) (by rfl) (by rfl) (Eq.mpr (V29 x0 x1 _) h)
/-- impl.CountFacts -/
def S31 (x0 : (List ((List UInt8) × Int × Bool × Unit)) × (List (Int × (List Int) × Unit)) × Unit) (x1 : Int) (K : Int × Unit → Prop) : Prop :=
  LoopP (fun (again2 : Int × Int × Unit → Prop) (a1 : Int × Int × Unit) => bcase (decide (a1.2.1 < (List.length x0.2.1 : Int))) ((0 ≤ a1.2.1 ∧ a1.2.1 < (List.length x0.2.1 : Int)) ∧ (bcase (((x0.2.1.getD (Int.toNat a1.2.1) ((0 : Int), (([] : List Int), ()))).1) == x1) (again2 (w64 (a1.1 + (1 : Int)), (w64 (a1.2.1 + (1 : Int)), ()))) (again2 (a1.1, (w64 (a1.2.1 + (1 : Int)), ()))))) (K (a1.1, ()))) ((0 : Int), ((0 : Int), ()))
theorem V31 (x0 : (List ((List UInt8) × Int × Bool × Unit)) × (List (Int × (List Int) × Unit)) × Unit) (x1 : Int) (K : Int × Unit → Prop) : fnV E (fun i => look i [(0, { tmps := [(5, .int .i64), (11, .int .i64)], refs := [], roots := [], ctmps := [1, 9, 10], croots := [] })]) (fun i => look i []) Try.f31 ⟨[.z, .z], [(.int .i64, .z)], [.z, .z]⟩ [⟨h18, .z, x0⟩, ⟨.int .i64, .z, x1⟩] (ansK [(.int .i64, .z)] [(h18, .z), (.int .i64, .z)] K) = S31 x0 x1 K := by kernel_rfl
theorem M31 (x0 : (List ((List UInt8) × Int × Bool × Unit)) × (List (Int × (List Int) × Unit)) × Unit) (x1 : Int) (y0 : Int) (h : S31 x0 x1 fun r => r = (y0, ())) : G31 x0 x1 y0 := fn_gives (l := [(.int .i64, .z)]) (m := [(h18, .z), (.int .i64, .z)]) (val := (y0, ())) types_ok (fun _ _ _ _ h => h) mixed Try.func31 (by kernel_rfl) (by rfl) (by rfl) (by rfl) (Eq.mpr (V31 x0 x1 _) h)
/-- laws.eqRelation -/
def S81 (x0 : (List UInt8) × Int × Bool × Unit) (x1 : (List UInt8) × Int × Bool × Unit) (K : Bool × Unit → Prop) : Prop :=
  bcase (!(x0.1 == x1.1)) (K (false, ())) (bcase (x0.2.1 != x1.2.1) (K (false, ())) (bcase (!(x0.2.2.1 == x1.2.2.1)) (K (false, ())) (K (true, ()))))
theorem V81 (x0 : (List UInt8) × Int × Bool × Unit) (x1 : (List UInt8) × Int × Bool × Unit) (K : Bool × Unit → Prop) : fnV E (fun i => look i []) (fun i => look i []) Try.f81 ⟨[.z, .z], [(.bool, .z)], [.z, .z]⟩ [⟨h10, .z, x0⟩, ⟨h10, .z, x1⟩] (ansK [(.bool, .z)] [(h10, .z), (h10, .z)] K) = S81 x0 x1 K := by kernel_rfl
theorem M81 (x0 : (List UInt8) × Int × Bool × Unit) (x1 : (List UInt8) × Int × Bool × Unit) (y0 : Bool) (h : S81 x0 x1 fun r => r = (y0, ())) : G81 x0 x1 y0 := fn_gives (l := [(.bool, .z)]) (m := [(h10, .z), (h10, .z)]) (val := (y0, ())) types_ok (fun _ _ _ _ h => h) mixed Try.func81 (by kernel_rfl) (by rfl) (by rfl) (by rfl) (Eq.mpr (V81 x0 x1 _) h)
/-- laws.eqRelationS -/
def S63 (x0 : List ((List UInt8) × Int × Bool × Unit)) (x1 : List ((List UInt8) × Int × Bool × Unit)) (K : Bool × Unit → Prop) : Prop :=
  bcase ((List.length x0 : Int) != (List.length x1 : Int)) (K (false, ())) (LoopP (fun (again2 : Int × Unit → Prop) (a1 : Int × Unit) => bcase (decide (a1.1 < (List.length x0 : Int))) ((0 ≤ a1.1 ∧ a1.1 < (List.length x0 : Int)) ∧ ((0 ≤ a1.1 ∧ a1.1 < (List.length x1 : Int)) ∧ (∃ y3 : Bool, G81 (x0.getD (Int.toNat a1.1) (([] : List UInt8), ((0 : Int), (false, ())))) (x1.getD (Int.toNat a1.1) (([] : List UInt8), ((0 : Int), (false, ())))) y3 ∧ (bcase (!y3) (K (false, ())) (again2 (w64 (a1.1 + (1 : Int)), ())))))) (K (true, ()))) ((0 : Int), ()))
theorem V63 (x0 : List ((List UInt8) × Int × Bool × Unit)) (x1 : List ((List UInt8) × Int × Bool × Unit)) (K : Bool × Unit → Prop) : fnV E (fun i => look i [(0, { tmps := [(5, .int .i64)], refs := [], roots := [], ctmps := [0, 1], croots := [] })]) (fun i => look i [(6, (.op 0 (.op 1 (.op 2 (.op 4 (.op 5 (.op 6 (.chk [] (.mem 3 (.mem 7 .nil)) (.op 8 (.op 9 .nil))))))))))]) Try.f63 ⟨[.z, .z], [(.bool, .z)], [.z, .z]⟩ [⟨h15, .z, x0⟩, ⟨h15, .z, x1⟩] (ansK [(.bool, .z)] [(h15, .z), (h15, .z)] K) = S63 x0 x1 K := by kernel_rfl
theorem M63 (x0 : List ((List UInt8) × Int × Bool × Unit)) (x1 : List ((List UInt8) × Int × Bool × Unit)) (y0 : Bool) (h : S63 x0 x1 fun r => r = (y0, ())) : G63 x0 x1 y0 := fn_gives (l := [(.bool, .z)]) (m := [(h15, .z), (h15, .z)]) (val := (y0, ())) types_ok (fun _ _ _ _ h => h) mixed Try.func63 (by kernel_rfl) (by rfl) (by rfl) (by rfl) (Eq.mpr (V63 x0 x1 _) h)
/-- laws.eqFact -/
def S82 (x0 : Int × (List Int) × Unit) (x1 : Int × (List Int) × Unit) (K : Bool × Unit → Prop) : Prop :=
  bcase (x0.1 != x1.1) (K (false, ())) (∃ y1 : Bool, G20 x0.2.1 x1.2.1 y1 ∧ (bcase (!y1) (K (false, ())) (K (true, ()))))
theorem V82 (x0 : Int × (List Int) × Unit) (x1 : Int × (List Int) × Unit) (K : Bool × Unit → Prop) : fnV E (fun i => look i []) (fun i => look i []) Try.f82 ⟨[.z, .z], [(.bool, .z)], [.z, .z]⟩ [⟨h7, .z, x0⟩, ⟨h7, .z, x1⟩] (ansK [(.bool, .z)] [(h7, .z), (h7, .z)] K) = S82 x0 x1 K := by kernel_rfl
theorem M82 (x0 : Int × (List Int) × Unit) (x1 : Int × (List Int) × Unit) (y0 : Bool) (h : S82 x0 x1 fun r => r = (y0, ())) : G82 x0 x1 y0 := fn_gives (l := [(.bool, .z)]) (m := [(h7, .z), (h7, .z)]) (val := (y0, ())) types_ok (fun _ _ _ _ h => h) mixed Try.func82 (by kernel_rfl) (by rfl) (by rfl) (by rfl) (Eq.mpr (V82 x0 x1 _) h)
/-- laws.eqFactS -/
def S64 (x0 : List (Int × (List Int) × Unit)) (x1 : List (Int × (List Int) × Unit)) (K : Bool × Unit → Prop) : Prop :=
  bcase ((List.length x0 : Int) != (List.length x1 : Int)) (K (false, ())) (LoopP (fun (again2 : Int × Unit → Prop) (a1 : Int × Unit) => bcase (decide (a1.1 < (List.length x0 : Int))) ((0 ≤ a1.1 ∧ a1.1 < (List.length x0 : Int)) ∧ ((0 ≤ a1.1 ∧ a1.1 < (List.length x1 : Int)) ∧ (∃ y3 : Bool, G82 (x0.getD (Int.toNat a1.1) ((0 : Int), (([] : List Int), ()))) (x1.getD (Int.toNat a1.1) ((0 : Int), (([] : List Int), ()))) y3 ∧ (bcase (!y3) (K (false, ())) (again2 (w64 (a1.1 + (1 : Int)), ())))))) (K (true, ()))) ((0 : Int), ()))
theorem V64 (x0 : List (Int × (List Int) × Unit)) (x1 : List (Int × (List Int) × Unit)) (K : Bool × Unit → Prop) : fnV E (fun i => look i [(0, { tmps := [(5, .int .i64)], refs := [], roots := [], ctmps := [0, 1], croots := [] })]) (fun i => look i [(6, (.op 0 (.op 1 (.op 2 (.op 4 (.op 5 (.op 6 (.chk [] (.mem 3 (.mem 7 .nil)) (.op 8 (.op 9 .nil))))))))))]) Try.f64 ⟨[.z, .z], [(.bool, .z)], [.z, .z]⟩ [⟨h16, .z, x0⟩, ⟨h16, .z, x1⟩] (ansK [(.bool, .z)] [(h16, .z), (h16, .z)] K) = S64 x0 x1 K := by kernel_rfl
theorem M64 (x0 : List (Int × (List Int) × Unit)) (x1 : List (Int × (List Int) × Unit)) (y0 : Bool) (h : S64 x0 x1 fun r => r = (y0, ())) : G64 x0 x1 y0 := fn_gives (l := [(.bool, .z)]) (m := [(h16, .z), (h16, .z)]) (val := (y0, ())) types_ok (fun _ _ _ _ h => h) mixed Try.func64 (by kernel_rfl) (by rfl) (by rfl) (by rfl) (Eq.mpr (V64 x0 x1 _) h)
/-- laws.eqInstance -/
def S32 (x0 : (List ((List UInt8) × Int × Bool × Unit)) × (List (Int × (List Int) × Unit)) × Unit) (x1 : (List ((List UInt8) × Int × Bool × Unit)) × (List (Int × (List Int) × Unit)) × Unit) (K : Bool × Unit → Prop) : Prop :=
  ∃ y1 : Bool, G63 x0.1 x1.1 y1 ∧ (bcase (!y1) (K (false, ())) (∃ y2 : Bool, G64 x0.2.1 x1.2.1 y2 ∧ (bcase (!y2) (K (false, ())) (K (true, ())))))
theorem V32 (x0 : (List ((List UInt8) × Int × Bool × Unit)) × (List (Int × (List Int) × Unit)) × Unit) (x1 : (List ((List UInt8) × Int × Bool × Unit)) × (List (Int × (List Int) × Unit)) × Unit) (K : Bool × Unit → Prop) : fnV E (fun i => look i []) (fun i => look i []) Try.f32 ⟨[.z, .z], [(.bool, .z)], [.z, .z]⟩ [⟨h18, .z, x0⟩, ⟨h18, .z, x1⟩] (ansK [(.bool, .z)] [(h18, .z), (h18, .z)] K) = S32 x0 x1 K := by kernel_rfl
theorem M32 (x0 : (List ((List UInt8) × Int × Bool × Unit)) × (List (Int × (List Int) × Unit)) × Unit) (x1 : (List ((List UInt8) × Int × Bool × Unit)) × (List (Int × (List Int) × Unit)) × Unit) (y0 : Bool) (h : S32 x0 x1 fun r => r = (y0, ())) : G32 x0 x1 y0 := fn_gives (l := [(.bool, .z)]) (m := [(h18, .z), (h18, .z)]) (val := (y0, ())) types_ok (fun _ _ _ _ h => h) mixed Try.func32 (by kernel_rfl) (by rfl) (by rfl) (by rfl) (Eq.mpr (V32 x0 x1 _) h)
/-- laws.FnExactCountFacts -/
def S6 (x0 : (List ((List UInt8) × Int × Bool × Unit)) × (List (Int × (List Int) × Unit)) × Unit) (x1 : Int) (K : Bool × Unit → Prop) : Prop :=
  ∃ y1 : Int, G28 x0 (1048576 : Int) y1 ∧ (bcase (decide (y1 < (0 : Int))) (K (true, ())) (∃ y2 : (List ((List UInt8) × Int × Bool × Unit)) × (List (Int × (List Int) × Unit)) × Unit, G30 x0 y2 ∧ (∃ y3 : Int, G29 (y2.1, (y2.2.1, y2.2.2)) x1 y3 ∧ (∃ y4 : (List ((List UInt8) × Int × Bool × Unit)) × (List (Int × (List Int) × Unit)) × Unit, G30 x0 y4 ∧ (∃ y5 : Int, G31 (y4.1, (y4.2.1, y4.2.2)) x1 y5 ∧ (bcase (y5 != y3) (K (false, ())) (∃ y6 : (List ((List UInt8) × Int × Bool × Unit)) × (List (Int × (List Int) × Unit)) × Unit, G30 x0 y6 ∧ (∃ y7 : Bool, G32 (y4.1, (y4.2.1, y4.2.2)) (y6.1, (y6.2.1, y6.2.2)) y7 ∧ (bcase (!y7) (K (false, ())) (K (true, ())))))))))))
theorem V6 (x0 : (List ((List UInt8) × Int × Bool × Unit)) × (List (Int × (List Int) × Unit)) × Unit) (x1 : Int) (K : Bool × Unit → Prop) : fnV E (fun i => look i []) (fun i => look i [(10, (.chk [7] (.mem 0 (.op 1 (.op 2 .nil))) (.op 3 (.op 4 .nil))))]) Try.f6 ⟨[.z, .z], [(.bool, .z)], [.z, .z]⟩ [⟨h14, .z, x0⟩, ⟨.int .i64, .z, x1⟩] (ansK [(.bool, .z)] [(h14, .z), (.int .i64, .z)] K) = S6 x0 x1 K := by kernel_rfl
theorem M6 (x0 : (List ((List UInt8) × Int × Bool × Unit)) × (List (Int × (List Int) × Unit)) × Unit) (x1 : Int) (y0 : Bool) (h : S6 x0 x1 fun r => r = (y0, ())) : G6 x0 x1 y0 := fn_gives (l := [(.bool, .z)]) (m := [(h14, .z), (.int .i64, .z)]) (val := (y0, ())) types_ok (fun _ _ _ _ h => h) mixed Try.func6 (by kernel_rfl) (by rfl) (by rfl) (by rfl) (Eq.mpr (V6 x0 x1 _) h)
end Go.V
/- The family of small functions: sizes, copies, equalities. -/
set_option maxRecDepth 1000000
set_option maxHeartbeats 4000000
set_option linter.unusedVariables false
namespace Go.V
open Go
abbrev k0 : Sh := .sl 0 (.int .i64)
theorem s47 {x0 : List Int} {x1 : Int} (h0 : 0 ≤ x1) (h1 : x1 ≤ 1048576) (hb : Bnd k0 x0) : S47 x0 x1 fun r => r = (fits x1 (bulk k0 x0), ()) := by
  unfold S47
  have e : bulk k0 x0 = List.length x0 := bulk_flat fun _ => rfl
  have hl := hb.1
  rw [szw (l := x1) (n := List.length x0) h0 h1 hl]
  by_cases hlt : x1 - (List.length x0 : Int) < 0
  · rw [bc_pos hlt]; exact fits_lt (by omega)
  · rw [bc_neg hlt]; exact fits_ge (by omega) (by omega)
theorem g47 {x0 : List Int} {x1 : Int} (h0 : 0 ≤ x1) (h1 : x1 ≤ 1048576) (hb : Bnd k0 x0) : G47 x0 x1 (fits x1 (bulk k0 x0)) := M47 _ _ _ (s47 h0 h1 hb)
theorem s50 {x0 : List Int} (hb : bulk k0 x0 ≤ 1099511627776) : S50 x0 fun r => r = (x0, ()) := by
  unfold S50
  exact toRow id (by have e : bulk k0 x0 = x0.length + (x0.map (bulk (.int .i64))).sum := rfl; omega) (fun y => ((y, ()) : List _ × Unit) = (x0, ())) (fun t B => B t) (fun t ht B hB => hB) (by rw [List.map_id])
theorem g50 {x0 : List Int} (hb : bulk k0 x0 ≤ 1099511627776) : G50 x0 x0 := M50 _ _ (s50 hb)
theorem s20 {x0 : List Int} {x1 : List Int} (hb : bulk k0 x0 ≤ 1099511627776) : S20 x0 x1 fun r => r = (decide (x0 = x1), ()) := by
  unfold S20
  exact eqRow (by have e : bulk k0 x0 = x0.length + (x0.map (bulk (.int .i64))).sum := rfl; unfold maxL; omega) (fun y => ((y, ()) : Bool × Unit) = (decide (x0 = x1), ())) (fun t u A B => bcase (t != u) A B) (fun t ht u hu A B hA hB => bc_ne hA hB) rfl
theorem g20 {x0 : List Int} {x1 : List Int} (hb : bulk k0 x0 ≤ 1099511627776) : G20 x0 x1 (decide (x0 = x1)) := M20 _ _ _ (s20 hb)
abbrev k1 : Sh := .pair .bool .unit
abbrev k2 : Sh := .pair (.int .i64) k1
abbrev k3 : Sh := .pair .str k2
theorem s77 {x0 : (List UInt8) × Int × Bool × Unit} {x1 : Int} (h0 : 0 ≤ x1) (h1 : x1 ≤ 1048576) (hb : Bnd k3 x0) : S77 x0 x1 fun r => r = (fits x1 (bulk k3 x0), ()) := by
  unfold S77
  have e : bulk k3 x0 = (List.length x0.1 + (0 + (0 + 0))) := rfl
  have hl1 := hb.1
  rw [szw (l := x1) (n := List.length x0.1) (by omega) (by omega) hl1]
  by_cases hc1 : x1 - (List.length x0.1 : Int) < 0
  · rw [bc_pos hc1]; exact fits_lt (by omega)
  rw [bc_neg hc1]
  exact fits_ge (by omega) (by omega)
theorem g77 {x0 : (List UInt8) × Int × Bool × Unit} {x1 : Int} (h0 : 0 ≤ x1) (h1 : x1 ≤ 1048576) (hb : Bnd k3 x0) : G77 x0 x1 (fits x1 (bulk k3 x0)) := M77 _ _ _ (s77 h0 h1 hb)
abbrev k4 : Sh := .sl 0 k3
theorem s59 {x0 : List ((List UInt8) × Int × Bool × Unit)} {x1 : Int} (h0 : 0 ≤ x1) (h1 : x1 ≤ 1048576) (hb : Bnd k4 x0) : S59 x0 x1 fun r => r = (fits x1 (bulk k4 x0), ()) := by
  unfold S59
  exact szRow (b := bulk k3) h0 h1 hb.1 (fun y => ((y, ()) : Int × Unit) = (fits x1 (bulk k4 x0), ())) (fun t l A B => ∃ y, G77 t l y ∧ bcase (decide (y < (0 : Int))) A (B y)) (fun t ht l a b A B hA hB => ⟨_, g77 a b (hb.2 t ht), bc_fits a hA fun h => by rw [fits_of_ge h]; exact hB h⟩) rfl
theorem g59 {x0 : List ((List UInt8) × Int × Bool × Unit)} {x1 : Int} (h0 : 0 ≤ x1) (h1 : x1 ≤ 1048576) (hb : Bnd k4 x0) : G59 x0 x1 (fits x1 (bulk k4 x0)) := M59 _ _ _ (s59 h0 h1 hb)
abbrev k5 : Sh := .pair k0 .unit
abbrev k6 : Sh := .pair (.int .i64) k5
theorem s78 {x0 : Int × (List Int) × Unit} {x1 : Int} (h0 : 0 ≤ x1) (h1 : x1 ≤ 1048576) (hb : Bnd k6 x0) : S78 x0 x1 fun r => r = (fits x1 (bulk k6 x0), ()) := by
  unfold S78
  have e : bulk k6 x0 = (0 + (bulk k0 x0.2.1 + 0)) := rfl
  refine ⟨_, g47 (x1 := x1) (by omega) (by omega) hb.2.1, ?_⟩
  by_cases hc1 : x1 < (bulk k0 x0.2.1 : Int)
  · rw [fits_of_lt hc1, bc_pos (by decide)]; exact fits_lt (by omega)
  rw [fits_of_ge (by omega), bc_neg (by omega)]
  exact fits_ge (by omega) (by omega)
theorem g78 {x0 : Int × (List Int) × Unit} {x1 : Int} (h0 : 0 ≤ x1) (h1 : x1 ≤ 1048576) (hb : Bnd k6 x0) : G78 x0 x1 (fits x1 (bulk k6 x0)) := M78 _ _ _ (s78 h0 h1 hb)
abbrev k7 : Sh := .sl 0 k6
theorem s60 {x0 : List (Int × (List Int) × Unit)} {x1 : Int} (h0 : 0 ≤ x1) (h1 : x1 ≤ 1048576) (hb : Bnd k7 x0) : S60 x0 x1 fun r => r = (fits x1 (bulk k7 x0), ()) := by
  unfold S60
  exact szRow (b := bulk k6) h0 h1 hb.1 (fun y => ((y, ()) : Int × Unit) = (fits x1 (bulk k7 x0), ())) (fun t l A B => ∃ y, G78 t l y ∧ bcase (decide (y < (0 : Int))) A (B y)) (fun t ht l a b A B hA hB => ⟨_, g78 a b (hb.2 t ht), bc_fits a hA fun h => by rw [fits_of_ge h]; exact hB h⟩) rfl
theorem g60 {x0 : List (Int × (List Int) × Unit)} {x1 : Int} (h0 : 0 ≤ x1) (h1 : x1 ≤ 1048576) (hb : Bnd k7 x0) : G60 x0 x1 (fits x1 (bulk k7 x0)) := M60 _ _ _ (s60 h0 h1 hb)
abbrev k8 : Sh := .pair k7 .unit
abbrev k9 : Sh := .pair k4 k8
theorem s28 {x0 : (List ((List UInt8) × Int × Bool × Unit)) × (List (Int × (List Int) × Unit)) × Unit} {x1 : Int} (h0 : 0 ≤ x1) (h1 : x1 ≤ 1048576) (hb : Bnd k9 x0) : S28 x0 x1 fun r => r = (fits x1 (bulk k9 x0), ()) := by
  unfold S28
  have e : bulk k9 x0 = (bulk k4 x0.1 + (bulk k7 x0.2.1 + 0)) := rfl
  refine ⟨_, g59 (x1 := x1) (by omega) (by omega) hb.1, ?_⟩
  by_cases hc1 : x1 < (bulk k4 x0.1 : Int)
  · rw [fits_of_lt hc1, bc_pos (by decide)]; exact fits_lt (by omega)
  rw [fits_of_ge (by omega), bc_neg (by omega)]
  refine ⟨_, g60 (x1 := x1 - (bulk k4 x0.1 : Int)) (by omega) (by omega) hb.2.1, ?_⟩
  by_cases hc2 : x1 - (bulk k4 x0.1 : Int) < (bulk k7 x0.2.1 : Int)
  · rw [fits_of_lt hc2, bc_pos (by decide)]; exact fits_lt (by omega)
  rw [fits_of_ge (by omega), bc_neg (by omega)]
  exact fits_ge (by omega) (by omega)
theorem g28 {x0 : (List ((List UInt8) × Int × Bool × Unit)) × (List (Int × (List Int) × Unit)) × Unit} {x1 : Int} (h0 : 0 ≤ x1) (h1 : x1 ≤ 1048576) (hb : Bnd k9 x0) : G28 x0 x1 (fits x1 (bulk k9 x0)) := M28 _ _ _ (s28 h0 h1 hb)
theorem s79 {x0 : (List UInt8) × Int × Bool × Unit} (hb : bulk k3 x0 ≤ 1099511627776) : S79 x0 fun r => r = (x0, ()) := by
  unfold S79
  have e : bulk k3 x0 = (List.length x0.1 + (0 + (0 + 0))) := rfl
  rfl
theorem g79 {x0 : (List UInt8) × Int × Bool × Unit} (hb : bulk k3 x0 ≤ 1099511627776) : G79 x0 x0 := M79 _ _ (s79 hb)
theorem s61 {x0 : List ((List UInt8) × Int × Bool × Unit)} (hb : bulk k4 x0 ≤ 1099511627776) : S61 x0 fun r => r = (x0, ()) := by
  unfold S61
  exact toRow id (by have e : bulk k4 x0 = x0.length + (x0.map (bulk k3)).sum := rfl; omega) (fun y => ((y, ()) : List _ × Unit) = (x0, ())) (fun t B => ∃ y, G79 t y ∧ B y) (fun t ht B hB => ⟨_, g79 (by have h := sum_le (bulk k3) ht; have e : bulk k4 x0 = x0.length + (x0.map (bulk k3)).sum := rfl; omega), hB⟩) (by rw [List.map_id])
theorem g61 {x0 : List ((List UInt8) × Int × Bool × Unit)} (hb : bulk k4 x0 ≤ 1099511627776) : G61 x0 x0 := M61 _ _ (s61 hb)
theorem s80 {x0 : Int × (List Int) × Unit} (hb : bulk k6 x0 ≤ 1099511627776) : S80 x0 fun r => r = (x0, ()) := by
  unfold S80
  have e : bulk k6 x0 = (0 + (bulk k0 x0.2.1 + 0)) := rfl
  exact ⟨_, g50 (by omega), rfl⟩
theorem g80 {x0 : Int × (List Int) × Unit} (hb : bulk k6 x0 ≤ 1099511627776) : G80 x0 x0 := M80 _ _ (s80 hb)
theorem s62 {x0 : List (Int × (List Int) × Unit)} (hb : bulk k7 x0 ≤ 1099511627776) : S62 x0 fun r => r = (x0, ()) := by
  unfold S62
  exact toRow id (by have e : bulk k7 x0 = x0.length + (x0.map (bulk k6)).sum := rfl; omega) (fun y => ((y, ()) : List _ × Unit) = (x0, ())) (fun t B => ∃ y, G80 t y ∧ B y) (fun t ht B hB => ⟨_, g80 (by have h := sum_le (bulk k6) ht; have e : bulk k7 x0 = x0.length + (x0.map (bulk k6)).sum := rfl; omega), hB⟩) (by rw [List.map_id])
theorem g62 {x0 : List (Int × (List Int) × Unit)} (hb : bulk k7 x0 ≤ 1099511627776) : G62 x0 x0 := M62 _ _ (s62 hb)
theorem s30 {x0 : (List ((List UInt8) × Int × Bool × Unit)) × (List (Int × (List Int) × Unit)) × Unit} (hb : bulk k9 x0 ≤ 1099511627776) : S30 x0 fun r => r = (x0, ()) := by
  unfold S30
  have e : bulk k9 x0 = (bulk k4 x0.1 + (bulk k7 x0.2.1 + 0)) := rfl
  exact ⟨_, g61 (by omega), _, g62 (by omega), rfl⟩
theorem g30 {x0 : (List ((List UInt8) × Int × Bool × Unit)) × (List (Int × (List Int) × Unit)) × Unit} (hb : bulk k9 x0 ≤ 1099511627776) : G30 x0 x0 := M30 _ _ (s30 hb)
theorem s81 {x0 : (List UInt8) × Int × Bool × Unit} {x1 : (List UInt8) × Int × Bool × Unit} (hb : bulk k3 x0 ≤ 1099511627776) : S81 x0 x1 fun r => r = (decide (x0 = x1), ()) := by
  unfold S81
  have e : bulk k3 x0 = (List.length x0.1 + (0 + (0 + 0))) := rfl
  refine bc_nb (fun h => eq_no (fun e => h (by rw [e]))) (fun q0 => ?_)
  refine bc_ne (fun h => eq_no (fun e => h (by rw [e]))) (fun q1 => ?_)
  refine bc_nb (fun h => eq_no (fun e => h (by rw [e]))) (fun q2 => ?_)
  exact eq_yes (Prod.ext q0 (Prod.ext q1 (Prod.ext q2 rfl)))
theorem g81 {x0 : (List UInt8) × Int × Bool × Unit} {x1 : (List UInt8) × Int × Bool × Unit} (hb : bulk k3 x0 ≤ 1099511627776) : G81 x0 x1 (decide (x0 = x1)) := M81 _ _ _ (s81 hb)
theorem s63 {x0 : List ((List UInt8) × Int × Bool × Unit)} {x1 : List ((List UInt8) × Int × Bool × Unit)} (hb : bulk k4 x0 ≤ 1099511627776) : S63 x0 x1 fun r => r = (decide (x0 = x1), ()) := by
  unfold S63
  exact eqRow (by have e : bulk k4 x0 = x0.length + (x0.map (bulk k3)).sum := rfl; unfold maxL; omega) (fun y => ((y, ()) : Bool × Unit) = (decide (x0 = x1), ())) (fun t u A B => ∃ y, G81 t u y ∧ bcase (!y) A B) (fun t ht u hu A B hA hB => ⟨_, g81 (by have h := sum_le (bulk k3) ht; have e : bulk k4 x0 = x0.length + (x0.map (bulk k3)).sum := rfl; omega), bc_nd hA hB⟩) rfl
theorem g63 {x0 : List ((List UInt8) × Int × Bool × Unit)} {x1 : List ((List UInt8) × Int × Bool × Unit)} (hb : bulk k4 x0 ≤ 1099511627776) : G63 x0 x1 (decide (x0 = x1)) := M63 _ _ _ (s63 hb)
theorem s82 {x0 : Int × (List Int) × Unit} {x1 : Int × (List Int) × Unit} (hb : bulk k6 x0 ≤ 1099511627776) : S82 x0 x1 fun r => r = (decide (x0 = x1), ()) := by
  unfold S82
  have e : bulk k6 x0 = (0 + (bulk k0 x0.2.1 + 0)) := rfl
  refine bc_ne (fun h => eq_no (fun e => h (by rw [e]))) (fun q0 => ?_)
  refine ⟨_, g20 (by omega), bc_nd (fun h => eq_no (fun e => h (by rw [e]))) (fun q1 => ?_)⟩
  exact eq_yes (Prod.ext q0 (Prod.ext q1 rfl))
theorem g82 {x0 : Int × (List Int) × Unit} {x1 : Int × (List Int) × Unit} (hb : bulk k6 x0 ≤ 1099511627776) : G82 x0 x1 (decide (x0 = x1)) := M82 _ _ _ (s82 hb)
theorem s64 {x0 : List (Int × (List Int) × Unit)} {x1 : List (Int × (List Int) × Unit)} (hb : bulk k7 x0 ≤ 1099511627776) : S64 x0 x1 fun r => r = (decide (x0 = x1), ()) := by
  unfold S64
  exact eqRow (by have e : bulk k7 x0 = x0.length + (x0.map (bulk k6)).sum := rfl; unfold maxL; omega) (fun y => ((y, ()) : Bool × Unit) = (decide (x0 = x1), ())) (fun t u A B => ∃ y, G82 t u y ∧ bcase (!y) A B) (fun t ht u hu A B hA hB => ⟨_, g82 (by have h := sum_le (bulk k6) ht; have e : bulk k7 x0 = x0.length + (x0.map (bulk k6)).sum := rfl; omega), bc_nd hA hB⟩) rfl
theorem g64 {x0 : List (Int × (List Int) × Unit)} {x1 : List (Int × (List Int) × Unit)} (hb : bulk k7 x0 ≤ 1099511627776) : G64 x0 x1 (decide (x0 = x1)) := M64 _ _ _ (s64 hb)
theorem s32 {x0 : (List ((List UInt8) × Int × Bool × Unit)) × (List (Int × (List Int) × Unit)) × Unit} {x1 : (List ((List UInt8) × Int × Bool × Unit)) × (List (Int × (List Int) × Unit)) × Unit} (hb : bulk k9 x0 ≤ 1099511627776) : S32 x0 x1 fun r => r = (decide (x0 = x1), ()) := by
  unfold S32
  have e : bulk k9 x0 = (bulk k4 x0.1 + (bulk k7 x0.2.1 + 0)) := rfl
  refine ⟨_, g63 (by omega), bc_nd (fun h => eq_no (fun e => h (by rw [e]))) (fun q0 => ?_)⟩
  refine ⟨_, g64 (by omega), bc_nd (fun h => eq_no (fun e => h (by rw [e]))) (fun q1 => ?_)⟩
  exact eq_yes (Prod.ext q0 (Prod.ext q1 rfl))
theorem g32 {x0 : (List ((List UInt8) × Int × Bool × Unit)) × (List (Int × (List Int) × Unit)) × Unit} {x1 : (List ((List UInt8) × Int × Bool × Unit)) × (List (Int × (List Int) × Unit)) × Unit} (hb : bulk k9 x0 ≤ 1099511627776) : G32 x0 x1 (decide (x0 = x1)) := M32 _ _ _ (s32 hb)
end Go.V
