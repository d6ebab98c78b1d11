/-
  The functions that are reached: types, signatures, what a call of each gives.
-/
import Derived.Test.YtclcdjdogjjfnaaVE
import Derived.Test.YtclcdjdogjjfnaaProg
import Derived.KernelRfl
set_option linter.unusedVariables false
set_option linter.unusedSimpArgs false
set_option maxRecDepth 1000000
set_option maxHeartbeats 4000000
set_option linter.unusedVariables false
namespace Go.V
open Go Go.Proofs
abbrev h0 : Sh := .pair (.int .u8) .unit
abbrev h1 : Sh := .pair .bool h0
abbrev h2 : Sh := .pair (.int .i64) h1
abbrev h3 : Sh := .pair (.int .i64) h2
abbrev h4 : Sh := .pair (.int .u64) .unit
abbrev h5 : Sh := .pair .str h4
abbrev h6 : Sh := .pair (.sl 3 (.int .i64)) .unit
abbrev h7 : Sh := .pair (.int .i64) h6
abbrev h8 : Sh := .pair .bool .unit
abbrev h9 : Sh := .pair (.int .i64) h8
abbrev h10 : Sh := .pair .str h9
abbrev h11 : Sh := .sl 109 h10
abbrev h12 : Sh := .sl 111 h7
abbrev h13 : Sh := .pair h12 .unit
abbrev h14 : Sh := .pair h11 h13
abbrev h15 : Sh := .sl 107 h10
abbrev h16 : Sh := .sl 90 h7
abbrev h17 : Sh := .pair h16 .unit
abbrev h18 : Sh := .pair h15 h17
abbrev h19 : Sh := .sl 29 h7
abbrev h20 : Sh := .pair (.int .i64) .unit
abbrev h21 : Sh := .pair (.int .i64) h20
abbrev h22 : Sh := .pair .bool h21
abbrev h23 : Sh := .pair h19 h22
abbrev h24 : Sh := .pair h19 h23
abbrev h25 : Sh := .sl 67 h24
abbrev h26 : Sh := .sl 33 h7
abbrev h27 : Sh := .pair h26 h22
abbrev h28 : Sh := .pair h26 h27
abbrev h29 : Sh := .sl 72 h28
abbrev h30 : Sh := .pair (.sl 5 (.int .u8)) h21
noncomputable abbrev prog : Program := Try.prog
def shTab : List (Nat × Sh) := [(2, .int .i64), (3, .int .i64), (4, .bool), (5, .int .u8), (6, .int .u8), (7, h3), (8, h3), (9, .str), (10, .str), (11, .str), (12, .int .u64), (13, h5), (14, h5), (21, .int .i32), (22, .sl 9 .str), (27, .sl 3 (.int .i64)), (28, h7), (29, h7), (33, h7), (40, .sl 5 (.int .u8)), (44, h11), (45, h12), (46, h14), (47, h14), (50, h15), (51, h16), (52, h18), (53, h18), (57, h25), (59, h29), (65, h19), (66, h24), (67, h24), (70, h26), (71, h28), (72, h28), (82, .ptr h30), (89, h7), (90, h7), (102, h30), (103, h30), (106, h10), (107, h10), (109, h10), (111, h7), (120, .int .u64), (126, .int .i64), (135, .int .u32), (137, .int .u64), (138, .int .u64), (142, .ptr (.int .i64)), (144, .ptr (.int .u64)), (154, .int .u8), (155, .int .u8), (157, .ptr (.int .u8)), (158, .int .i32), (159, .int .i32)]
def sigTab : List (Nat × List Sig) := [(4, [⟨[.z, .z], [(.bool, .z)], [.z, .z]⟩]), (16, [⟨[.z, .z], [(.int .i64, .z)], [.z, .z]⟩]), (17, [⟨[.z, .z], [(.sl 3 (.int .i64), .own .z), (.bool, .z)], [.z, .z]⟩]), (18, [⟨[.z], [(h7, .pr .z (.pr (.own .z) .z))], [.z]⟩]), (19, [⟨[.z, .z], [(.sl 3 (.int .i64), .own .z), (.bool, .z)], [.z, .z]⟩]), (20, [⟨[.z, .z], [(.bool, .z)], [.z, .z]⟩]), (21, [⟨[.z, .z], [(.bool, .z)], [.z, .z]⟩]), (22, [⟨[.pr .z (.pr (.own .z) .z), .z], [(.int .i64, .z)], [.dead, .z]⟩]), (23, [⟨[.own .z, .z], [(.int .i64, .z)], [.own .z, .z]⟩]), (24, [⟨[.z, .z], [(.int .i64, .z)], [.z, .z]⟩]), (47, [⟨[.z, .z], [(.int .i64, .z)], [.z, .z]⟩]), (48, [⟨[.z, .z, .z], [(.bool, .z)], [.z, .z, .z]⟩]), (49, [⟨[.z, .z], [(.int .i64, .z)], [.z, .z]⟩]), (50, [⟨[.z], [(.sl 3 (.int .i64), .own .z)], [.z]⟩]), (51, [⟨[.z], [(.bool, .z)], [.z]⟩]), (52, [⟨[.z, .z, .z], [(.bool, .z)], [.z, .z, .z]⟩]), (53, [⟨[.z, .z], [(.int .i64, .z)], [.z, .z]⟩]), (54, [⟨[.z], [(.int .i64, .z)], [.z]⟩])]
def parTab : List (Nat × List (Option Sh)) := [(4, [some (h7), some (h7)]), (16, [some (h7), some (.int .i64)]), (17, [some (h7), some (h7)]), (18, [some (h7)]), (19, [some (h7), some (h7)]), (20, [some (.sl 3 (.int .i64)), some (.sl 3 (.int .i64))]), (21, [some (h7), some (h7)]), (22, [some (h7), some (.int .i64)]), (23, [some (.sl 3 (.int .i64)), some (.int .i64)]), (24, [some (.sl 3 (.int .i64)), some (.int .i64)]), (47, [some (.sl 3 (.int .i64)), some (.int .i64)]), (48, [some (.int .i64), some (.int .i64), some (.int .i64)]), (49, [some (.sl 3 (.int .i64)), some (.int .i64)]), (50, [some (.sl 3 (.int .i64))]), (51, [some (.int .i64)]), (52, [some (.int .i64), some (.int .i64), some (.int .i64)]), (53, [some (.sl 3 (.int .i64)), some (.int .i64)]), (54, [some (.int .i64)])]
noncomputable def E : Env := { sh := fun t => look t shTab, sigs := fun f => (look f sigTab).getD [], params := fun f => (look f parTab).getD [], gives := GivesS prog }
theorem types_ok : ∀ t s, E.sh t = some s → ShOk prog s none t := tab_ok (by kernel_rfl)
theorem mixed : prog.follows .mixedOrders = true := by kernel_rfl
/-- laws.FnExactUnifyAtoms -/
def G4 (x0 : Int × (List Int) × Unit) (x1 : Int × (List Int) × Unit) (y0 : Bool) : Prop := GivesS prog 4 [⟨h7, .z, x0⟩, ⟨h7, .z, x1⟩] [⟨.bool, .z, y0⟩] [⟨h7, .z, x0⟩, ⟨h7, .z, x1⟩]
/-- laws.heldIntS -/
def G24 (x0 : List Int) (x1 : Int) (y0 : Int) : Prop := GivesS prog 24 [⟨.sl 3 (.int .i64), .z, x0⟩, ⟨.int .i64, .z, x1⟩] [⟨.int .i64, .z, y0⟩] [⟨.sl 3 (.int .i64), .z, x0⟩, ⟨.int .i64, .z, x1⟩]
/-- laws.eqIntS -/
def G20 (x0 : List Int) (x1 : List Int) (y0 : Bool) : Prop := GivesS prog 20 [⟨.sl 3 (.int .i64), .z, x0⟩, ⟨.sl 3 (.int .i64), .z, x1⟩] [⟨.bool, .z, y0⟩] [⟨.sl 3 (.int .i64), .z, x0⟩, ⟨.sl 3 (.int .i64), .z, x1⟩]
/-- impl.UnifyAtoms -/
def G19 (x0 : Int × (List Int) × Unit) (x1 : Int × (List Int) × Unit) (y0 : List Int) (y1 : Bool) : Prop := GivesS prog 19 [⟨h7, .z, x0⟩, ⟨h7, .z, x1⟩] [⟨.sl 3 (.int .i64), .own .z, y0⟩, ⟨.bool, .z, y1⟩] [⟨h7, .z, x0⟩, ⟨h7, .z, x1⟩]
/-- impl.final -/
def G53 (x0 : List Int) (x1 : Int) (y0 : Int) : Prop := GivesS prog 53 [⟨.sl 3 (.int .i64), .z, x0⟩, ⟨.int .i64, .z, x1⟩] [⟨.int .i64, .z, y0⟩] [⟨.sl 3 (.int .i64), .z, x0⟩, ⟨.int .i64, .z, x1⟩]
/-- impl.moved -/
def G54 (x0 : Int) (y0 : Int) : Prop := GivesS prog 54 [⟨.int .i64, .z, x0⟩] [⟨.int .i64, .z, y0⟩] [⟨.int .i64, .z, x0⟩]
/-- impl.UnifyAtoms$1 -/
def G51 (x0 : Int) (y0 : Bool) : Prop := GivesS prog 51 [⟨.int .i64, .z, x0⟩] [⟨.bool, .z, y0⟩] [⟨.int .i64, .z, x0⟩]
/-- impl.within -/
def G52 (x0 : Int) (x1 : Int) (x2 : Int) (y0 : Bool) : Prop := GivesS prog 52 [⟨.int .i64, .z, x0⟩, ⟨.int .i64, .z, x1⟩, ⟨.int .i64, .z, x2⟩] [⟨.bool, .z, y0⟩] [⟨.int .i64, .z, x0⟩, ⟨.int .i64, .z, x1⟩, ⟨.int .i64, .z, x2⟩]
/-- laws.toAtom -/
def G18 (x0 : Int × (List Int) × Unit) (y0 : Int × (List Int) × Unit) : Prop := GivesS prog 18 [⟨h7, .z, x0⟩] [⟨h7, .pr .z (.pr (.own .z) .z), y0⟩] [⟨h7, .z, x0⟩]
/-- laws.toIntS -/
def G50 (x0 : List Int) (y0 : List Int) : Prop := GivesS prog 50 [⟨.sl 3 (.int .i64), .z, x0⟩] [⟨.sl 3 (.int .i64), .own .z, y0⟩] [⟨.sl 3 (.int .i64), .z, x0⟩]
/-- laws.markIntS -/
def G23oownz (x0 : List Int) (x1 : Int) (y0 : Int) (z0 : List Int) : Prop := GivesS prog 23 [⟨.sl 3 (.int .i64), .own .z, x0⟩, ⟨.int .i64, .z, x1⟩] [⟨.int .i64, .z, y0⟩] [⟨.sl 3 (.int .i64), .own .z, z0⟩, ⟨.int .i64, .z, x1⟩]
/-- laws.markAtom -/
def G22oprzprownzz (x0 : Int × (List Int) × Unit) (x1 : Int) (y0 : Int) : Prop := GivesS prog 22 [⟨h7, .pr .z (.pr (.own .z) .z), x0⟩, ⟨.int .i64, .z, x1⟩] [⟨.int .i64, .z, y0⟩] [⟨h7, .dead, x0⟩, ⟨.int .i64, .z, x1⟩]
/-- laws.eqAtom -/
def G21 (x0 : Int × (List Int) × Unit) (x1 : Int × (List Int) × Unit) (y0 : Bool) : Prop := GivesS prog 21 [⟨h7, .z, x0⟩, ⟨h7, .z, x1⟩] [⟨.bool, .z, y0⟩] [⟨h7, .z, x0⟩, ⟨h7, .z, x1⟩]
/-- spec.UnifyAtoms -/
def G17 (x0 : Int × (List Int) × Unit) (x1 : Int × (List Int) × Unit) (y0 : List Int) (y1 : Bool) : Prop := GivesS prog 17 [⟨h7, .z, x0⟩, ⟨h7, .z, x1⟩] [⟨.sl 3 (.int .i64), .own .z, y0⟩, ⟨.bool, .z, y1⟩] [⟨h7, .z, x0⟩, ⟨h7, .z, x1⟩]
/-- spec.l26Find -/
def G49 (x0 : List Int) (x1 : Int) (y0 : Int) : Prop := GivesS prog 49 [⟨.sl 3 (.int .i64), .z, x0⟩, ⟨.int .i64, .z, x1⟩] [⟨.int .i64, .z, y0⟩] [⟨.sl 3 (.int .i64), .z, x0⟩, ⟨.int .i64, .z, x1⟩]
/-- spec.l1In -/
def G48 (x0 : Int) (x1 : Int) (x2 : Int) (y0 : Bool) : Prop := GivesS prog 48 [⟨.int .i64, .z, x0⟩, ⟨.int .i64, .z, x1⟩, ⟨.int .i64, .z, x2⟩] [⟨.bool, .z, y0⟩] [⟨.int .i64, .z, x0⟩, ⟨.int .i64, .z, x1⟩, ⟨.int .i64, .z, x2⟩]
/-- laws.szAtom -/
def G16 (x0 : Int × (List Int) × Unit) (x1 : Int) (y0 : Int) : Prop := GivesS prog 16 [⟨h7, .z, x0⟩, ⟨.int .i64, .z, x1⟩] [⟨.int .i64, .z, y0⟩] [⟨h7, .z, x0⟩, ⟨.int .i64, .z, x1⟩]
/-- laws.szIntS -/
def G47 (x0 : List Int) (x1 : Int) (y0 : Int) : Prop := GivesS prog 47 [⟨.sl 3 (.int .i64), .z, x0⟩, ⟨.int .i64, .z, x1⟩] [⟨.int .i64, .z, y0⟩] [⟨.sl 3 (.int .i64), .z, x0⟩, ⟨.int .i64, .z, x1⟩]
end Go.V
/- Functions: what is to be proved of each, and that it is enough. -/
set_option maxRecDepth 1000000
set_option maxHeartbeats 4000000
set_option linter.unusedVariables false
namespace Go.V
open Go Go.Proofs
/-- laws.szIntS -/
def S47 (x0 : List Int) (x1 : Int) (K : Int × Unit → Prop) : Prop :=
  bcase (decide ((w64 (x1 - (List.length x0 : Int))) < (0 : Int))) (K ((-1 : Int), ())) (K (w64 (x1 - (List.length x0 : Int)), ()))
theorem V47 (x0 : List Int) (x1 : Int) (K : Int × Unit → Prop) : fnV E (fun i => look i []) (fun i => look i []) Try.f47 ⟨[.z, .z], [(.int .i64, .z)], [.z, .z]⟩ [⟨.sl 3 (.int .i64), .z, x0⟩, ⟨.int .i64, .z, x1⟩] (ansK [(.int .i64, .z)] [(.sl 3 (.int .i64), .z), (.int .i64, .z)] K) = S47 x0 x1 K := by kernel_rfl
theorem M47 (x0 : List Int) (x1 : Int) (y0 : Int) (h : S47 x0 x1 fun r => r = (y0, ())) : G47 x0 x1 y0 := fn_gives (l := [(.int .i64, .z)]) (m := [(.sl 3 (.int .i64), .z), (.int .i64, .z)]) (val := (y0, ())) types_ok (fun _ _ _ _ h => h) mixed Try.func47 (by kernel_rfl) (by rfl) (by rfl) (by rfl) (Eq.mpr (V47 x0 x1 _) h)
/-- laws.szAtom -/
def S16 (x0 : Int × (List Int) × Unit) (x1 : Int) (K : Int × Unit → Prop) : Prop :=
  ∃ y1 : Int, G47 x0.2.1 x1 y1 ∧ (bcase (decide (y1 < (0 : Int))) (K ((-1 : Int), ())) (K (y1, ())))
theorem V16 (x0 : Int × (List Int) × Unit) (x1 : Int) (K : Int × Unit → Prop) : fnV E (fun i => look i []) (fun i => look i []) Try.f16 ⟨[.z, .z], [(.int .i64, .z)], [.z, .z]⟩ [⟨h7, .z, x0⟩, ⟨.int .i64, .z, x1⟩] (ansK [(.int .i64, .z)] [(h7, .z), (.int .i64, .z)] K) = S16 x0 x1 K := by kernel_rfl
theorem M16 (x0 : Int × (List Int) × Unit) (x1 : Int) (y0 : Int) (h : S16 x0 x1 fun r => r = (y0, ())) : G16 x0 x1 y0 := fn_gives (l := [(.int .i64, .z)]) (m := [(h7, .z), (.int .i64, .z)]) (val := (y0, ())) types_ok (fun _ _ _ _ h => h) mixed Try.func16 (by kernel_rfl) (by rfl) (by rfl) (by rfl) (Eq.mpr (V16 x0 x1 _) h)
/-- laws.toIntS -/
def S50 (x0 : List Int) (K : (List Int) × Unit → Prop) : Prop :=
  (0 ≤ (List.length x0 : Int) ∧ (List.length x0 : Int) ≤ (List.length x0 : Int) ∧ (List.length x0 : Int) ≤ maxL) ∧ (LoopP (fun (again2 : Int × (List Int) × Unit → Prop) (a1 : Int × (List Int) × Unit) => bcase (decide (a1.1 < (List.length x0 : Int))) ((0 ≤ a1.1 ∧ a1.1 < (List.length x0 : Int)) ∧ ((0 ≤ a1.1 ∧ a1.1 < (List.length a1.2.1 : Int)) ∧ (again2 (w64 (a1.1 + (1 : Int)), (a1.2.1.set (Int.toNat a1.1) (x0.getD (Int.toNat a1.1) (0 : Int)), ()))))) (K (a1.2.1, ()))) ((0 : Int), (List.replicate (Int.toNat (List.length x0 : Int)) (0 : Int), ())))
theorem V50 (x0 : List Int) (K : (List Int) × Unit → Prop) : fnV E (fun i => look i [(0, { tmps := [(4, .int .i64)], refs := [(3, 7)], roots := [(7, false, false, .sl 3 (.int .i64), .own .z)], ctmps := [0], croots := [] })]) (fun i => look i []) Try.f50 ⟨[.z], [(.sl 3 (.int .i64), .own .z)], [.z]⟩ [⟨.sl 3 (.int .i64), .z, x0⟩] (ansK [(.sl 3 (.int .i64), .own .z)] [(.sl 3 (.int .i64), .z)] K) = S50 x0 K := by kernel_rfl
theorem M50 (x0 : List Int) (y0 : List Int) (h : S50 x0 fun r => r = (y0, ())) : G50 x0 y0 := fn_gives (l := [(.sl 3 (.int .i64), .own .z)]) (m := [(.sl 3 (.int .i64), .z)]) (val := (y0, ())) types_ok (fun _ _ _ _ h => h) mixed Try.func50 (by kernel_rfl) (by rfl) (by rfl) (by rfl) (Eq.mpr (V50 x0 _) h)
/-- laws.toAtom -/
def S18 (x0 : Int × (List Int) × Unit) (K : (Int × (List Int) × Unit) × Unit → Prop) : Prop :=
  ∃ y1 : List Int, G50 x0.2.1 y1 ∧ (K ((x0.1, (y1, ())), ()))
theorem V18 (x0 : Int × (List Int) × Unit) (K : (Int × (List Int) × Unit) × Unit → Prop) : fnV E (fun i => look i []) (fun i => look i []) Try.f18 ⟨[.z], [(h7, .pr .z (.pr (.own .z) .z))], [.z]⟩ [⟨h7, .z, x0⟩] (ansK [(h7, .pr .z (.pr (.own .z) .z))] [(h7, .z)] K) = S18 x0 K := by kernel_rfl
theorem M18 (x0 : Int × (List Int) × Unit) (y0 : Int × (List Int) × Unit) (h : S18 x0 fun r => r = (y0, ())) : G18 x0 y0 := fn_gives (l := [(h7, .pr .z (.pr (.own .z) .z))]) (m := [(h7, .z)]) (val := (y0, ())) types_ok (fun _ _ _ _ h => h) mixed Try.func18 (by kernel_rfl) (by rfl) (by rfl) (by rfl) (Eq.mpr (V18 x0 _) h)
/-- spec.l1In -/
def S48 (x0 : Int) (x1 : Int) (x2 : Int) (K : Bool × Unit → Prop) : Prop :=
  bcase (decide (x0 ≥ x1)) (K (decide (x0 ≤ x2), ())) (K (false, ()))
theorem V48 (x0 : Int) (x1 : Int) (x2 : Int) (K : Bool × Unit → Prop) : fnV E (fun i => look i []) (fun i => look i []) Try.f48 ⟨[.z, .z, .z], [(.bool, .z)], [.z, .z, .z]⟩ [⟨.int .i64, .z, x0⟩, ⟨.int .i64, .z, x1⟩, ⟨.int .i64, .z, x2⟩] (ansK [(.bool, .z)] [(.int .i64, .z), (.int .i64, .z), (.int .i64, .z)] K) = S48 x0 x1 x2 K := by kernel_rfl
theorem M48 (x0 : Int) (x1 : Int) (x2 : Int) (y0 : Bool) (h : S48 x0 x1 x2 fun r => r = (y0, ())) : G48 x0 x1 x2 y0 := fn_gives (l := [(.bool, .z)]) (m := [(.int .i64, .z), (.int .i64, .z), (.int .i64, .z)]) (val := (y0, ())) types_ok (fun _ _ _ _ h => h) mixed Try.func48 (by kernel_rfl) (by rfl) (by rfl) (by rfl) (Eq.mpr (V48 x0 x1 x2 _) h)
/-- spec.l26Find -/
def S49 (x0 : List Int) (x1 : Int) (K : Int × Unit → Prop) : Prop :=
  LoopP (fun (again2 : Int × Unit → Prop) (a1 : Int × Unit) => bcase (decide (a1.1 ≥ (0 : Int))) ((0 ≤ a1.1 ∧ a1.1 < (List.length x0 : Int)) ∧ (bcase ((x0.getD (Int.toNat a1.1) (0 : Int)) != a1.1) ((0 ≤ a1.1 ∧ a1.1 < (List.length x0 : Int)) ∧ (again2 (x0.getD (Int.toNat a1.1) (0 : Int), ()))) (K (a1.1, ())))) (K (a1.1, ()))) (x1, ())
theorem V49 (x0 : List Int) (x1 : Int) (K : Int × Unit → Prop) : fnV E (fun i => look i [(0, { tmps := [(1, .int .i64)], refs := [], roots := [], ctmps := [0], croots := [] })]) (fun i => look i []) Try.f49 ⟨[.z, .z], [(.int .i64, .z)], [.z, .z]⟩ [⟨.sl 3 (.int .i64), .z, x0⟩, ⟨.int .i64, .z, x1⟩] (ansK [(.int .i64, .z)] [(.sl 3 (.int .i64), .z), (.int .i64, .z)] K) = S49 x0 x1 K := by kernel_rfl
theorem M49 (x0 : List Int) (x1 : Int) (y0 : Int) (h : S49 x0 x1 fun r => r = (y0, ())) : G49 x0 x1 y0 := fn_gives (l := [(.int .i64, .z)]) (m := [(.sl 3 (.int .i64), .z), (.int .i64, .z)]) (val := (y0, ())) types_ok (fun _ _ _ _ h => h) mixed Try.func49 (by kernel_rfl) (by rfl) (by rfl) (by rfl) (Eq.mpr (V49 x0 x1 _) h)
/-- spec.UnifyAtoms -/
def S17 (x0 : Int × (List Int) × Unit) (x1 : Int × (List Int) × Unit) (K : (List Int) × Bool × Unit → Prop) : Prop :=
  LoopP (fun (again2 : Int × (List Int) × Unit → Prop) (a1 : Int × (List Int) × Unit) => bcase (decide (a1.1 < (10 : Int))) (a1.2.1.length + ([a1.1] : List Int).length ≤ maxL ∧ (again2 (w64 (a1.1 + (1 : Int)), (a1.2.1 ++ ([a1.1] : List Int), ())))) (bcase (x0.1 != x1.1) (K (([] : List Int), (false, ()))) (bcase ((List.length x0.2.1 : Int) != (List.length x1.2.1 : Int)) (K (([] : List Int), (false, ()))) (LoopP (fun (again4 : Int × (List Int) × Unit → Prop) (a3 : Int × (List Int) × Unit) => bcase (decide (a3.1 < (List.length x0.2.1 : Int))) ((0 ≤ a3.1 ∧ a3.1 < (List.length x0.2.1 : Int)) ∧ (∃ y5 : Bool, G48 (x0.2.1.getD (Int.toNat a3.1) (0 : Int)) (-10 : Int) (4 : Int) y5 ∧ (bcase (!y5) (K (([] : List Int), (false, ()))) ((0 ≤ a3.1 ∧ a3.1 < (List.length x1.2.1 : Int)) ∧ (∃ y6 : Bool, G48 (x1.2.1.getD (Int.toNat a3.1) (0 : Int)) (-10 : Int) (4 : Int) y6 ∧ (bcase (!y6) (K (([] : List Int), (false, ()))) ((0 ≤ a3.1 ∧ a3.1 < (List.length x0.2.1 : Int)) ∧ (∃ y7 : Int, G49 a3.2.1 (x0.2.1.getD (Int.toNat a3.1) (0 : Int)) y7 ∧ ((0 ≤ a3.1 ∧ a3.1 < (List.length x1.2.1 : Int)) ∧ (bcase (decide ((x1.2.1.getD (Int.toNat a3.1) (0 : Int)) ≥ (0 : Int))) (∃ y8 : Int, G49 a3.2.1 (w64 ((x1.2.1.getD (Int.toNat a3.1) (0 : Int)) + (5 : Int))) y8 ∧ (bcase (decide (y7 < (0 : Int))) (bcase (decide (y8 < (0 : Int))) (bcase (y7 != y8) (K (([] : List Int), (false, ()))) (bcase (y7 != y8) ((0 ≤ (maxI y7 y8) ∧ (maxI y7 y8) < (List.length a3.2.1 : Int)) ∧ (again4 (w64 (a3.1 + (1 : Int)), (a3.2.1.set (Int.toNat (maxI y7 y8)) (minI y7 y8), ())))) (again4 (w64 (a3.1 + (1 : Int)), (a3.2.1, ()))))) (bcase (y7 != y8) ((0 ≤ (maxI y7 y8) ∧ (maxI y7 y8) < (List.length a3.2.1 : Int)) ∧ (again4 (w64 (a3.1 + (1 : Int)), (a3.2.1.set (Int.toNat (maxI y7 y8)) (minI y7 y8), ())))) (again4 (w64 (a3.1 + (1 : Int)), (a3.2.1, ()))))) (bcase (y7 != y8) ((0 ≤ (maxI y7 y8) ∧ (maxI y7 y8) < (List.length a3.2.1 : Int)) ∧ (again4 (w64 (a3.1 + (1 : Int)), (a3.2.1.set (Int.toNat (maxI y7 y8)) (minI y7 y8), ())))) (again4 (w64 (a3.1 + (1 : Int)), (a3.2.1, ())))))) (∃ y9 : Int, G49 a3.2.1 (x1.2.1.getD (Int.toNat a3.1) (0 : Int)) y9 ∧ (bcase (decide (y7 < (0 : Int))) (bcase (decide (y9 < (0 : Int))) (bcase (y7 != y9) (K (([] : List Int), (false, ()))) (bcase (y7 != y9) ((0 ≤ (maxI y7 y9) ∧ (maxI y7 y9) < (List.length a3.2.1 : Int)) ∧ (again4 (w64 (a3.1 + (1 : Int)), (a3.2.1.set (Int.toNat (maxI y7 y9)) (minI y7 y9), ())))) (again4 (w64 (a3.1 + (1 : Int)), (a3.2.1, ()))))) (bcase (y7 != y9) ((0 ≤ (maxI y7 y9) ∧ (maxI y7 y9) < (List.length a3.2.1 : Int)) ∧ (again4 (w64 (a3.1 + (1 : Int)), (a3.2.1.set (Int.toNat (maxI y7 y9)) (minI y7 y9), ())))) (again4 (w64 (a3.1 + (1 : Int)), (a3.2.1, ()))))) (bcase (y7 != y9) ((0 ≤ (maxI y7 y9) ∧ (maxI y7 y9) < (List.length a3.2.1 : Int)) ∧ (again4 (w64 (a3.1 + (1 : Int)), (a3.2.1.set (Int.toNat (maxI y7 y9)) (minI y7 y9), ())))) (again4 (w64 (a3.1 + (1 : Int)), (a3.2.1, ())))))))))))))))) (LoopP (fun (again11 : Int × (List Int) × Unit → Prop) (a10 : Int × (List Int) × Unit) => bcase (decide (a10.1 < (List.length a10.2.1 : Int))) (∃ y12 : Int, G49 a10.2.1 a10.1 y12 ∧ ((0 ≤ a10.1 ∧ a10.1 < (List.length a10.2.1 : Int)) ∧ (again11 (w64 (a10.1 + (1 : Int)), (a10.2.1.set (Int.toNat a10.1) y12, ()))))) (K (a10.2.1, (true, ())))) ((0 : Int), (a3.2.1, ())))) ((0 : Int), (a1.2.1, ())))))) ((0 : Int), (([] : List Int), ()))
theorem V17 (x0 : Int × (List Int) × Unit) (x1 : Int × (List Int) × Unit) (K : (List Int) × Bool × Unit → Prop) : fnV E (fun i => look i [(4, { tmps := [(11, .int .i64)], refs := [(6, 6)], roots := [(6, false, false, .sl 3 (.int .i64), .own .z)], ctmps := [], croots := [] }), (2, { tmps := [(8, .int .i64)], refs := [(6, 6)], roots := [(6, false, false, .sl 3 (.int .i64), .own .z)], ctmps := [2, 3], croots := [2, 3] }), (0, { tmps := [(7, .int .i64)], refs := [(6, 6)], roots := [(6, false, false, .sl 3 (.int .i64), .own .z)], ctmps := [2, 3], croots := [2, 3] })]) (fun i => look i []) Try.f17 ⟨[.z, .z], [(.sl 3 (.int .i64), .own .z), (.bool, .z)], [.z, .z]⟩ [⟨h7, .z, x0⟩, ⟨h7, .z, x1⟩] (ansK [(.sl 3 (.int .i64), .own .z), (.bool, .z)] [(h7, .z), (h7, .z)] K) = S17 x0 x1 K := by kernel_rfl
theorem M17 (x0 : Int × (List Int) × Unit) (x1 : Int × (List Int) × Unit) (y0 : List Int) (y1 : Bool) (h : S17 x0 x1 fun r => r = (y0, (y1, ()))) : G17 x0 x1 y0 y1 := fn_gives (l := [(.sl 3 (.int .i64), .own .z), (.bool, .z)]) (m := [(h7, .z), (h7, .z)]) (val := (y0, (y1, ()))) types_ok (fun _ _ _ _ h => h) mixed Try.func17 (by kernel_rfl) (by rfl) (by rfl) (by rfl) (Eq.mpr (V17 x0 x1 _) h)
/-- impl.within -/
def S52 (x0 : Int) (x1 : Int) (x2 : Int) (K : Bool × Unit → Prop) : Prop :=
  bcase (decide (x1 ≤ x0)) (K (decide (x0 ≤ x2), ())) (K (false, ()))
theorem V52 (x0 : Int) (x1 : Int) (x2 : Int) (K : Bool × Unit → Prop) : fnV E (fun i => look i []) (fun i => look i []) Try.f52 ⟨[.z, .z, .z], [(.bool, .z)], [.z, .z, .z]⟩ [⟨.int .i64, .z, x0⟩, ⟨.int .i64, .z, x1⟩, ⟨.int .i64, .z, x2⟩] (ansK [(.bool, .z)] [(.int .i64, .z), (.int .i64, .z), (.int .i64, .z)] K) = S52 x0 x1 x2 K := by kernel_rfl
theorem M52 (x0 : Int) (x1 : Int) (x2 : Int) (y0 : Bool) (h : S52 x0 x1 x2 fun r => r = (y0, ())) : G52 x0 x1 x2 y0 := fn_gives (l := [(.bool, .z)]) (m := [(.int .i64, .z), (.int .i64, .z), (.int .i64, .z)]) (val := (y0, ())) types_ok (fun _ _ _ _ h => h) mixed Try.func52 (by kernel_rfl) (by rfl) (by rfl) (by rfl) (Eq.mpr (V52 x0 x1 x2 _) h)
/-- impl.UnifyAtoms$1 -/
def S51 (x0 : Int) (K : Bool × Unit → Prop) : Prop :=
  ∃ y1 : Bool, G52 x0 (-10 : Int) (4 : Int) y1 ∧ (K (y1, ()))
theorem V51 (x0 : Int) (K : Bool × Unit → Prop) : fnV E (fun i => look i []) (fun i => look i []) Try.f51 ⟨[.z], [(.bool, .z)], [.z]⟩ [⟨.int .i64, .z, x0⟩] (ansK [(.bool, .z)] [(.int .i64, .z)] K) = S51 x0 K := by kernel_rfl
theorem M51 (x0 : Int) (y0 : Bool) (h : S51 x0 fun r => r = (y0, ())) : G51 x0 y0 := fn_gives (l := [(.bool, .z)]) (m := [(.int .i64, .z)]) (val := (y0, ())) types_ok (fun _ _ _ _ h => h) mixed Try.func51 (by kernel_rfl) (by rfl) (by rfl) (by rfl) (Eq.mpr (V51 x0 _) h)
/-- impl.final -/
def S53 (x0 : List Int) (x1 : Int) (K : Int × Unit → Prop) : Prop :=
  LoopP (fun (again2 : Int × Unit → Prop) (a1 : Int × Unit) => bcase (decide (a1.1 ≥ (0 : Int))) ((0 ≤ a1.1 ∧ a1.1 < (List.length x0 : Int)) ∧ (bcase ((x0.getD (Int.toNat a1.1) (0 : Int)) != a1.1) ((0 ≤ a1.1 ∧ a1.1 < (List.length x0 : Int)) ∧ (again2 (x0.getD (Int.toNat a1.1) (0 : Int), ()))) (K (a1.1, ())))) (K (a1.1, ()))) (x1, ())
theorem V53 (x0 : List Int) (x1 : Int) (K : Int × Unit → Prop) : fnV E (fun i => look i [(0, { tmps := [(1, .int .i64)], refs := [], roots := [], ctmps := [0], croots := [] })]) (fun i => look i []) Try.f53 ⟨[.z, .z], [(.int .i64, .z)], [.z, .z]⟩ [⟨.sl 3 (.int .i64), .z, x0⟩, ⟨.int .i64, .z, x1⟩] (ansK [(.int .i64, .z)] [(.sl 3 (.int .i64), .z), (.int .i64, .z)] K) = S53 x0 x1 K := by kernel_rfl
theorem M53 (x0 : List Int) (x1 : Int) (y0 : Int) (h : S53 x0 x1 fun r => r = (y0, ())) : G53 x0 x1 y0 := fn_gives (l := [(.int .i64, .z)]) (m := [(.sl 3 (.int .i64), .z), (.int .i64, .z)]) (val := (y0, ())) types_ok (fun _ _ _ _ h => h) mixed Try.func53 (by kernel_rfl) (by rfl) (by rfl) (by rfl) (Eq.mpr (V53 x0 x1 _) h)
/-- impl.moved -/
def S54 (x0 : Int) (K : Int × Unit → Prop) : Prop :=
  bcase (decide (x0 ≥ (0 : Int))) (K (w64 (x0 + (5 : Int)), ())) (K (x0, ()))
theorem V54 (x0 : Int) (K : Int × Unit → Prop) : fnV E (fun i => look i []) (fun i => look i []) Try.f54 ⟨[.z], [(.int .i64, .z)], [.z]⟩ [⟨.int .i64, .z, x0⟩] (ansK [(.int .i64, .z)] [(.int .i64, .z)] K) = S54 x0 K := by kernel_rfl
theorem M54 (x0 : Int) (y0 : Int) (h : S54 x0 fun r => r = (y0, ())) : G54 x0 y0 := fn_gives (l := [(.int .i64, .z)]) (m := [(.int .i64, .z)]) (val := (y0, ())) types_ok (fun _ _ _ _ h => h) mixed Try.func54 (by kernel_rfl) (by rfl) (by rfl) (by rfl) (Eq.mpr (V54 x0 _) h)
/-- impl.UnifyAtoms -/
def S19 (x0 : Int × (List Int) × Unit) (x1 : Int × (List Int) × Unit) (K : (List Int) × Bool × Unit → Prop) : Prop :=
  bcase (x0.1 != x1.1) (K (([] : List Int), (false, ()))) (bcase ((List.length x0.2.1 : Int) != (List.length x1.2.1 : Int)) (K (([] : List Int), (false, ()))) (LoopP (fun (again2 : Int × (List Int) × Unit → Prop) (a1 : Int × (List Int) × Unit) => bcase (decide (a1.1 < (10 : Int))) (a1.2.1.length + ([a1.1] : List Int).length ≤ maxL ∧ (again2 (w64 (a1.1 + (1 : Int)), (a1.2.1 ++ ([a1.1] : List Int), ())))) (LoopP (fun (again4 : Int × Unit → Prop) (a3 : Int × Unit) => bcase (decide (a3.1 < (List.length x0.2.1 : Int))) ((0 ≤ a3.1 ∧ a3.1 < (List.length x0.2.1 : Int)) ∧ (∃ y5 : Bool, G51 (x0.2.1.getD (Int.toNat a3.1) (0 : Int)) y5 ∧ (bcase (!y5) (K (([] : List Int), (false, ()))) ((0 ≤ a3.1 ∧ a3.1 < (List.length x1.2.1 : Int)) ∧ (∃ y6 : Bool, G51 (x1.2.1.getD (Int.toNat a3.1) (0 : Int)) y6 ∧ (bcase (!y6) (K (([] : List Int), (false, ()))) (again4 (w64 (a3.1 + (1 : Int)), ())))))))) (LoopP (fun (again8 : Int × (List Int) × Unit → Prop) (a7 : Int × (List Int) × Unit) => bcase (decide (a7.1 < (List.length x0.2.1 : Int))) ((0 ≤ a7.1 ∧ a7.1 < (List.length x1.2.1 : Int)) ∧ ((0 ≤ a7.1 ∧ a7.1 < (List.length x0.2.1 : Int)) ∧ (∃ y9 : Int, G53 a7.2.1 (x0.2.1.getD (Int.toNat a7.1) (0 : Int)) y9 ∧ (∃ y10 : Int, G54 (x1.2.1.getD (Int.toNat a7.1) (0 : Int)) y10 ∧ (∃ y11 : Int, G53 a7.2.1 y10 y11 ∧ (bcase (y9 == y11) (again8 (w64 (a7.1 + (1 : Int)), (a7.2.1, ()))) (bcase (decide (y9 < (0 : Int))) (bcase (decide (y11 < (0 : Int))) (K (([] : List Int), (false, ()))) ((0 ≤ (maxI y9 y11) ∧ (maxI y9 y11) < (List.length a7.2.1 : Int)) ∧ (again8 (w64 (a7.1 + (1 : Int)), (a7.2.1.set (Int.toNat (maxI y9 y11)) (minI y9 y11), ()))))) ((0 ≤ (maxI y9 y11) ∧ (maxI y9 y11) < (List.length a7.2.1 : Int)) ∧ (again8 (w64 (a7.1 + (1 : Int)), (a7.2.1.set (Int.toNat (maxI y9 y11)) (minI y9 y11), ()))))))))))) (LoopP (fun (again13 : Int × (List Int) × Unit → Prop) (a12 : Int × (List Int) × Unit) => bcase (decide (a12.1 < (List.length a7.2.1 : Int))) (∃ y14 : Int, G53 a12.2.1 a12.1 y14 ∧ ((0 ≤ a12.1 ∧ a12.1 < (List.length a12.2.1 : Int)) ∧ (again13 (w64 (a12.1 + (1 : Int)), (a12.2.1.set (Int.toNat a12.1) y14, ()))))) (K (a12.2.1, (true, ())))) ((0 : Int), (a7.2.1, ())))) ((0 : Int), (a1.2.1, ())))) ((0 : Int), ()))) ((0 : Int), (([] : List Int), ()))))
theorem V19 (x0 : Int × (List Int) × Unit) (x1 : Int × (List Int) × Unit) (K : (List Int) × Bool × Unit → Prop) : fnV E (fun i => look i [(6, { tmps := [(106, .int .i64)], refs := [(7, 7)], roots := [(7, false, false, .sl 3 (.int .i64), .own .z)], ctmps := [105], croots := [] }), (4, { tmps := [(67, .int .i64)], refs := [(7, 7)], roots := [(7, false, false, .sl 3 (.int .i64), .own .z)], ctmps := [2, 3, 66], croots := [2, 3] }), (2, { tmps := [(41, .int .i64)], refs := [], roots := [], ctmps := [2, 3, 6, 7, 40], croots := [2, 3, 7] }), (0, { tmps := [(30, .int .i64)], refs := [(7, 7)], roots := [(7, false, false, .sl 3 (.int .i64), .own .z)], ctmps := [2, 3, 6], croots := [2, 3] })]) (fun i => look i [(19, (.op 0 (.op 1 (.op 3 (.op 7 (.op 8 (.op 10 (.chk [] (.mem 9 (.op 11 (.mem 12 (.op 2 (.op 4 (.op 5 (.op 6 .nil))))))) (.op 13 (.op 14 (.op 15 (.op 16 .nil))))))))))))]) Try.f19 ⟨[.z, .z], [(.sl 3 (.int .i64), .own .z), (.bool, .z)], [.z, .z]⟩ [⟨h7, .z, x0⟩, ⟨h7, .z, x1⟩] (ansK [(.sl 3 (.int .i64), .own .z), (.bool, .z)] [(h7, .z), (h7, .z)] K) = S19 x0 x1 K := by kernel_rfl
theorem M19 (x0 : Int × (List Int) × Unit) (x1 : Int × (List Int) × Unit) (y0 : List Int) (y1 : Bool) (h : S19 x0 x1 fun r => r = (y0, (y1, ()))) : G19 x0 x1 y0 y1 := fn_gives (l := [(.sl 3 (.int .i64), .own .z), (.bool, .z)]) (m := [(h7, .z), (h7, .z)]) (val := (y0, (y1, ()))) types_ok (fun _ _ _ _ h => h) mixed Try.func19 (by kernel_rfl) (by rfl) (by rfl) (by rfl) (Eq.mpr (V19 x0 x1 _) h)
/-- laws.eqIntS -/
def S20 (x0 : List Int) (x1 : List Int) (K : Bool × Unit → Prop) : Prop :=
  bcase ((List.length x0 : Int) != (List.length x1 : Int)) (K (false, ())) (LoopP (fun (again2 : Int × Unit → Prop) (a1 : Int × Unit) => bcase (decide (a1.1 < (List.length x0 : Int))) ((0 ≤ a1.1 ∧ a1.1 < (List.length x0 : Int)) ∧ ((0 ≤ a1.1 ∧ a1.1 < (List.length x1 : Int)) ∧ (bcase ((x0.getD (Int.toNat a1.1) (0 : Int)) != (x1.getD (Int.toNat a1.1) (0 : Int))) (K (false, ())) (again2 (w64 (a1.1 + (1 : Int)), ()))))) (K (true, ()))) ((0 : Int), ()))
theorem V20 (x0 : List Int) (x1 : List Int) (K : Bool × Unit → Prop) : fnV E (fun i => look i [(0, { tmps := [(5, .int .i64)], refs := [], roots := [], ctmps := [0, 1], croots := [] })]) (fun i => look i [(6, (.op 0 (.op 1 (.op 2 (.op 4 (.op 5 (.op 6 (.chk [] (.mem 3 (.mem 7 (.op 8 .nil))) .nil))))))))]) Try.f20 ⟨[.z, .z], [(.bool, .z)], [.z, .z]⟩ [⟨.sl 3 (.int .i64), .z, x0⟩, ⟨.sl 3 (.int .i64), .z, x1⟩] (ansK [(.bool, .z)] [(.sl 3 (.int .i64), .z), (.sl 3 (.int .i64), .z)] K) = S20 x0 x1 K := by kernel_rfl
theorem M20 (x0 : List Int) (x1 : List Int) (y0 : Bool) (h : S20 x0 x1 fun r => r = (y0, ())) : G20 x0 x1 y0 := fn_gives (l := [(.bool, .z)]) (m := [(.sl 3 (.int .i64), .z), (.sl 3 (.int .i64), .z)]) (val := (y0, ())) types_ok (fun _ _ _ _ h => h) mixed Try.func20 (by kernel_rfl) (by rfl) (by rfl) (by rfl) (Eq.mpr (V20 x0 x1 _) h)
/-- laws.eqAtom -/
def S21 (x0 : Int × (List Int) × Unit) (x1 : Int × (List Int) × Unit) (K : Bool × Unit → Prop) : Prop :=
  bcase (x0.1 != x1.1) (K (false, ())) (∃ y1 : Bool, G20 x0.2.1 x1.2.1 y1 ∧ (bcase (!y1) (K (false, ())) (K (true, ()))))
theorem V21 (x0 : Int × (List Int) × Unit) (x1 : Int × (List Int) × Unit) (K : Bool × Unit → Prop) : fnV E (fun i => look i []) (fun i => look i []) Try.f21 ⟨[.z, .z], [(.bool, .z)], [.z, .z]⟩ [⟨h7, .z, x0⟩, ⟨h7, .z, x1⟩] (ansK [(.bool, .z)] [(h7, .z), (h7, .z)] K) = S21 x0 x1 K := by kernel_rfl
theorem M21 (x0 : Int × (List Int) × Unit) (x1 : Int × (List Int) × Unit) (y0 : Bool) (h : S21 x0 x1 fun r => r = (y0, ())) : G21 x0 x1 y0 := fn_gives (l := [(.bool, .z)]) (m := [(h7, .z), (h7, .z)]) (val := (y0, ())) types_ok (fun _ _ _ _ h => h) mixed Try.func21 (by kernel_rfl) (by rfl) (by rfl) (by rfl) (Eq.mpr (V21 x0 x1 _) h)
/-- laws.markIntS -/
def S23oownz (x0 : List Int) (x1 : Int) (K : Int × (List Int) × Unit → Prop) : Prop :=
  LoopP (fun (again2 : Int × Int × (List Int) × Unit → Prop) (a1 : Int × Int × (List Int) × Unit) => bcase (decide (a1.2.1 < (List.length a1.2.2.1 : Int))) ((0 ≤ a1.2.1 ∧ a1.2.1 < (List.length a1.2.2.1 : Int)) ∧ (again2 (w64 (a1.1 + (1 : Int)), (w64 (a1.2.1 + (1 : Int)), (a1.2.2.1.set (Int.toNat a1.2.1) a1.1, ()))))) (K (a1.1, (a1.2.2.1, ())))) (x1, ((0 : Int), (x0, ())))
theorem V23oownz (x0 : List Int) (x1 : Int) (K : Int × (List Int) × Unit → Prop) : fnV E (fun i => look i [(0, { tmps := [(1, .int .i64), (5, .int .i64)], refs := [(0, 0)], roots := [(0, false, true, .sl 3 (.int .i64), .own .z)], ctmps := [], croots := [] })]) (fun i => look i []) Try.f23 ⟨[.own .z, .z], [(.int .i64, .z)], [.own .z, .z]⟩ [⟨.sl 3 (.int .i64), .own .z, x0⟩, ⟨.int .i64, .z, x1⟩] (ansK [(.int .i64, .z)] [(.sl 3 (.int .i64), .own .z), (.int .i64, .z)] K) = S23oownz x0 x1 K := by kernel_rfl
theorem M23oownz (x0 : List Int) (x1 : Int) (y0 : Int) (z0 : List Int) (h : S23oownz x0 x1 fun r => r = (y0, (z0, ()))) : G23oownz x0 x1 y0 z0 := fn_gives (l := [(.int .i64, .z)]) (m := [(.sl 3 (.int .i64), .own .z), (.int .i64, .z)]) (val := (y0, (z0, ()))) types_ok (fun _ _ _ _ h => h) mixed Try.func23 (by kernel_rfl) (by rfl) (by rfl) (by rfl) (Eq.mpr (V23oownz x0 x1 _) h)
/-- laws.markAtom -/
def S22oprzprownzz (x0 : Int × (List Int) × Unit) (x1 : Int) (K : Int × Unit → Prop) : Prop :=
  ∃ y1 : Int, ∃ y2 : List Int, G23oownz x0.2.1 x1 y1 y2 ∧ (K (y1, ()))
theorem V22oprzprownzz (x0 : Int × (List Int) × Unit) (x1 : Int) (K : Int × Unit → Prop) : fnV E (fun i => look i []) (fun i => look i []) Try.f22 ⟨[.pr .z (.pr (.own .z) .z), .z], [(.int .i64, .z)], [.dead, .z]⟩ [⟨h7, .pr .z (.pr (.own .z) .z), x0⟩, ⟨.int .i64, .z, x1⟩] (ansK [(.int .i64, .z)] [(h7, .dead), (.int .i64, .z)] K) = S22oprzprownzz x0 x1 K := by kernel_rfl
theorem M22oprzprownzz (x0 : Int × (List Int) × Unit) (x1 : Int) (y0 : Int) (h : S22oprzprownzz x0 x1 fun r => r = (y0, ())) : G22oprzprownzz x0 x1 y0 := fn_gives (l := [(.int .i64, .z)]) (m := [(h7, .dead), (.int .i64, .z)]) (val := (y0, ())) types_ok (fun _ _ _ _ h => h) mixed Try.func22 (by kernel_rfl) (by rfl) (by rfl) (by rfl) (Eq.mpr (V22oprzprownzz x0 x1 _) h)
/-- laws.heldIntS -/
def S24 (x0 : List Int) (x1 : Int) (K : Int × Unit → Prop) : Prop :=
  LoopP (fun (again2 : Int × Int × Unit → Prop) (a1 : Int × Int × Unit) => bcase (decide (a1.2.1 < (List.length x0 : Int))) ((0 ≤ a1.2.1 ∧ a1.2.1 < (List.length x0 : Int)) ∧ (bcase ((x0.getD (Int.toNat a1.2.1) (0 : Int)) != a1.1) (K ((-1 : Int), ())) (again2 (w64 (a1.1 + (1 : Int)), (w64 (a1.2.1 + (1 : Int)), ()))))) (K (a1.1, ()))) (x1, ((0 : Int), ()))
theorem V24 (x0 : List Int) (x1 : Int) (K : Int × Unit → Prop) : fnV E (fun i => look i [(0, { tmps := [(1, .int .i64), (5, .int .i64)], refs := [], roots := [], ctmps := [0], croots := [] })]) (fun i => look i []) Try.f24 ⟨[.z, .z], [(.int .i64, .z)], [.z, .z]⟩ [⟨.sl 3 (.int .i64), .z, x0⟩, ⟨.int .i64, .z, x1⟩] (ansK [(.int .i64, .z)] [(.sl 3 (.int .i64), .z), (.int .i64, .z)] K) = S24 x0 x1 K := by kernel_rfl
theorem M24 (x0 : List Int) (x1 : Int) (y0 : Int) (h : S24 x0 x1 fun r => r = (y0, ())) : G24 x0 x1 y0 := fn_gives (l := [(.int .i64, .z)]) (m := [(.sl 3 (.int .i64), .z), (.int .i64, .z)]) (val := (y0, ())) types_ok (fun _ _ _ _ h => h) mixed Try.func24 (by kernel_rfl) (by rfl) (by rfl) (by rfl) (Eq.mpr (V24 x0 x1 _) h)
/-- laws.FnExactUnifyAtoms -/
def S4 (x0 : Int × (List Int) × Unit) (x1 : Int × (List Int) × Unit) (K : Bool × Unit → Prop) : Prop :=
  ∃ y1 : Int, G16 x0 (1048576 : Int) y1 ∧ (bcase (decide (y1 < (0 : Int))) (K (true, ())) (∃ y2 : Int, G16 x1 y1 y2 ∧ (bcase (decide (y2 < (0 : Int))) (K (true, ())) (∃ y3 : Int × (List Int) × Unit, G18 x0 y3 ∧ (∃ y4 : Int × (List Int) × Unit, G18 x1 y4 ∧ (∃ y5 : List Int, ∃ y6 : Bool, G17 (y3.1, (y3.2.1, y3.2.2)) (y4.1, (y4.2.1, y4.2.2)) y5 y6 ∧ (∃ y7 : Int × (List Int) × Unit, G18 x0 y7 ∧ (∃ y8 : Int × (List Int) × Unit, G18 x1 y8 ∧ (∃ y9 : List Int, ∃ y10 : Bool, G19 (y7.1, (y7.2.1, y7.2.2)) (y8.1, (y8.2.1, y8.2.2)) y9 y10 ∧ (∃ y11 : Bool, G20 y9 y5 y11 ∧ (bcase (!y11) (K (false, ())) (bcase (!(y10 == y6)) (K (false, ())) (∃ y12 : Int × (List Int) × Unit, G18 x0 y12 ∧ (∃ y13 : Bool, G21 (y7.1, (y7.2.1, y7.2.2)) (y12.1, (y12.2.1, y12.2.2)) y13 ∧ (bcase (!y13) (K (false, ())) (∃ y14 : Int × (List Int) × Unit, G18 x1 y14 ∧ (∃ y15 : Bool, G21 (y8.1, (y8.2.1, y8.2.2)) (y14.1, (y14.2.1, y14.2.2)) y15 ∧ (bcase (!y15) (K (false, ())) (∃ y16 : Int, G22oprzprownzz (y7.1, (y7.2.1, y7.2.2)) (1 : Int) y16 ∧ (∃ y17 : Int, G22oprzprownzz (y8.1, (y8.2.1, y8.2.2)) y16 y17 ∧ (bcase (decide (y17 < (0 : Int))) (K (false, ())) (∃ y18 : Bool, G20 y9 y5 y18 ∧ (bcase (!y18) (K (false, ())) (bcase (!(y10 == y6)) (K (false, ())) (∃ y19 : Int, ∃ y20 : List Int, G23oownz y9 (1 : Int) y19 y20 ∧ (∃ y21 : Int, G24 y20 (1 : Int) y21 ∧ (bcase (decide (y21 < (0 : Int))) (K (false, ())) (bcase (y21 != y19) (K (false, ())) (∃ y22 : Int × (List Int) × Unit, G18 x0 y22 ∧ (∃ y23 : Int × (List Int) × Unit, G18 x1 y23 ∧ (∃ y24 : List Int, ∃ y25 : Bool, G19 (y22.1, (y22.2.1, y22.2.2)) (y23.1, (y23.2.1, y23.2.2)) y24 y25 ∧ (∃ y26 : Bool, G20 y24 y5 y26 ∧ (bcase (!y26) (K (false, ())) (bcase (!(y25 == y6)) (K (false, ())) (∃ y27 : Int, G24 y20 (1 : Int) y27 ∧ (bcase (decide (y27 < (0 : Int))) (K (false, ())) (bcase (y27 != y19) (K (false, ())) (K (true, ())))))))))))))))))))))))))))))))))))))))
theorem V4 (x0 : Int × (List Int) × Unit) (x1 : Int × (List Int) × Unit) (K : Bool × Unit → Prop) : fnV E (fun i => look i []) (fun i => look i [(8, (.chk [3] (.mem 2 (.op 0 (.op 1 .nil))) (.op 3 (.op 4 (.op 5 (.op 6 (.op 7 (.op 8 (.op 9 .nil))))))))), (14, (.chk [8] (.mem 0 (.op 1 (.op 2 .nil))) (.op 3 (.op 4 .nil)))), (16, (.chk [9] (.mem 0 (.op 1 (.op 2 .nil))) (.op 3 (.op 4 .nil)))), (31, (.chk [3] (.mem 2 (.op 0 (.op 1 .nil))) (.op 3 (.op 4 (.op 5 (.op 6 (.op 7 (.op 8 (.op 9 .nil)))))))))]) Try.f4 ⟨[.z, .z], [(.bool, .z)], [.z, .z]⟩ [⟨h7, .z, x0⟩, ⟨h7, .z, x1⟩] (ansK [(.bool, .z)] [(h7, .z), (h7, .z)] K) = S4 x0 x1 K := by kernel_rfl
theorem M4 (x0 : Int × (List Int) × Unit) (x1 : Int × (List Int) × Unit) (y0 : Bool) (h : S4 x0 x1 fun r => r = (y0, ())) : G4 x0 x1 y0 := fn_gives (l := [(.bool, .z)]) (m := [(h7, .z), (h7, .z)]) (val := (y0, ())) types_ok (fun _ _ _ _ h => h) mixed Try.func4 (by kernel_rfl) (by rfl) (by rfl) (by rfl) (Eq.mpr (V4 x0 x1 _) h)
end Go.V
/- The family of small functions: sizes, copies, equalities. -/
set_option maxRecDepth 1000000
set_option maxHeartbeats 4000000
set_option linter.unusedVariables false
set_option linter.unusedSimpArgs false
namespace Go.V
open Go
abbrev k0 : Sh := .sl 0 (.int .i64)
theorem s47 {x0 : List Int} {x1 : Int} (h0 : 0 ≤ x1) (h1 : x1 ≤ 1048576) (hb : Bnd k0 x0) : S47 x0 x1 fun r => r = (fits x1 (bulk k0 x0), ()) := by
  unfold S47
  have e : bulk k0 x0 = List.length x0 := bulk_flat fun _ => rfl
  have hl := hb.1
  rw [szw (l := x1) (n := List.length x0) h0 h1 hl]
  by_cases hlt : x1 - (List.length x0 : Int) < 0
  · rw [bc_pos hlt]; exact fits_lt (by omega)
  · rw [bc_neg hlt]; exact fits_ge (by omega) (by omega)
theorem g47 {x0 : List Int} {x1 : Int} (h0 : 0 ≤ x1) (h1 : x1 ≤ 1048576) (hb : Bnd k0 x0) : G47 x0 x1 (fits x1 (bulk k0 x0)) := M47 _ _ _ (s47 h0 h1 hb)
abbrev k1 : Sh := .pair k0 .unit
instance : DecidableEq ((List Int) × Unit) := inferInstance
abbrev k2 : Sh := .pair (.int .i64) k1
instance : DecidableEq (Int × (List Int) × Unit) := inferInstance
theorem s16 {x0 : Int × (List Int) × Unit} {x1 : Int} (h0 : 0 ≤ x1) (h1 : x1 ≤ 1048576) (hb : Bnd k2 x0) : S16 x0 x1 fun r => r = (fits x1 (bulk k2 x0), ()) := by
  unfold S16
  have e : bulk k2 x0 = (0 + (bulk k0 x0.2.1 + 0)) := rfl
  refine ⟨_, g47 (x1 := x1) (by omega) (by omega) hb.2.1, ?_⟩
  by_cases hc1 : x1 < (bulk k0 x0.2.1 : Int)
  · rw [fits_of_lt hc1, bc_pos (by decide)]; exact fits_lt (by omega)
  rw [fits_of_ge (by omega), bc_neg (by omega)]
  exact fits_ge (by omega) (by omega)
theorem g16 {x0 : Int × (List Int) × Unit} {x1 : Int} (h0 : 0 ≤ x1) (h1 : x1 ≤ 1048576) (hb : Bnd k2 x0) : G16 x0 x1 (fits x1 (bulk k2 x0)) := M16 _ _ _ (s16 h0 h1 hb)
theorem s50 {x0 : List Int} (hb : bulk k0 x0 ≤ 1099511627776) : S50 x0 fun r => r = (x0, ()) := by
  unfold S50
  exact toRow id (by have e : bulk k0 x0 = x0.length + (x0.map (bulk (.int .i64))).sum := rfl; omega) (fun y => ((y, ()) : List _ × Unit) = (x0, ())) (fun t B => B t) (fun t ht B hB => hB) (by rw [List.map_id])
theorem g50 {x0 : List Int} (hb : bulk k0 x0 ≤ 1099511627776) : G50 x0 x0 := M50 _ _ (s50 hb)
theorem s18 {x0 : Int × (List Int) × Unit} (hb : bulk k2 x0 ≤ 1099511627776) : S18 x0 fun r => r = (x0, ()) := by
  unfold S18
  have e : bulk k2 x0 = (0 + (bulk k0 x0.2.1 + 0)) := rfl
  exact ⟨_, g50 (by omega), rfl⟩
theorem g18 {x0 : Int × (List Int) × Unit} (hb : bulk k2 x0 ≤ 1099511627776) : G18 x0 x0 := M18 _ _ (s18 hb)
theorem s20 {x0 : List Int} {x1 : List Int} (hb : bulk k0 x0 ≤ 1099511627776) : S20 x0 x1 fun r => r = (decide (x0 = x1), ()) := by
  unfold S20
  exact eqRow (by have e : bulk k0 x0 = x0.length + (x0.map (bulk (.int .i64))).sum := rfl; unfold maxL; omega) (fun y => ((y, ()) : Bool × Unit) = (decide (x0 = x1), ())) (fun t u A B => bcase (t != u) A B) (fun t ht u hu A B hA hB => bc_ne hA hB) rfl
theorem g20 {x0 : List Int} {x1 : List Int} (hb : bulk k0 x0 ≤ 1099511627776) : G20 x0 x1 (decide (x0 = x1)) := M20 _ _ _ (s20 hb)
theorem s21 {x0 : Int × (List Int) × Unit} {x1 : Int × (List Int) × Unit} (hb : bulk k2 x0 ≤ 1099511627776) : S21 x0 x1 fun r => r = (decide (x0 = x1), ()) := by
  unfold S21
  have e : bulk k2 x0 = (0 + (bulk k0 x0.2.1 + 0)) := rfl
  refine bc_ne (fun h => eq_no (fun e => h (by rw [e]))) (fun q0 => ?_)
  refine ⟨_, g20 (by omega), bc_nd (fun h => eq_no (fun e => h (by rw [e]))) (fun q1 => ?_)⟩
  exact eq_yes (Prod.ext q0 (Prod.ext q1 rfl))
theorem g21 {x0 : Int × (List Int) × Unit} {x1 : Int × (List Int) × Unit} (hb : bulk k2 x0 ≤ 1099511627776) : G21 x0 x1 (decide (x0 = x1)) := M21 _ _ _ (s21 hb)
theorem s23oownz {x0 : List Int} {x1 : Int} (h0 : 0 ≤ x1) (hk : x1 + (wt k0 x0 : Int) ≤ 4611686018427387904) (hb : bulk k0 x0 ≤ 1099511627776) : S23oownz x0 x1 fun r => r = (x1 + (wt k0 x0 : Int), (mk (fun _ => []) k0 x0 x1, ())) := by
  unfold S23oownz
  have e : bulk k0 x0 = x0.length + (x0.map (bulk (.int .i64))).sum := rfl
  have hL : (mkRow (α := Int) (mk (fun _ => []) (.int .i64)) (wt (.int .i64)) x0 x1).length = x0.length := mkRow_len _ _ _ _
  refine markRow (α := Int) (mk (fun _ => []) (.int .i64)) (wt (.int .i64)) ?_ ?_
  · intro i j l hi hl hm hj hw X hX
    have ew : wt (.int .i64) l[i] = 1 := rfl
    have ek : wt k0 x0 = (List.map (α := Int) (wt (.int .i64)) x0).sum := rfl
    have hbt := sum_le (bulk (.int .i64)) hm
    have eb : bulk (.int .i64) l[i] = 0 := rfl
    simp only
    rw [bc_pos (by omega)]
    simp only [Int.toNat_natCast, List.length_set, List.set_set, getD_set_at hi, getD_at hi, ge_true, lt_true hi, and_self, true_and, ne_eq, three, not_false_eq_true]
    rw [w64_succ (i := i) (by omega)]
    rw [w64_id (n := j + 1) (by omega) (by omega)]
    exact hX _ (by omega) _ rfl
  · intro X
    simp only
    rw [bc_neg (by omega)]
    rfl
theorem g23oownz {x0 : List Int} {x1 : Int} (h0 : 0 ≤ x1) (hk : x1 + (wt k0 x0 : Int) ≤ 4611686018427387904) (hb : bulk k0 x0 ≤ 1099511627776) : G23oownz x0 x1 (x1 + (wt k0 x0 : Int)) (mk (fun _ => []) k0 x0 x1) := M23oownz _ _ _ _ (s23oownz h0 hk hb)
theorem s22oprzprownzz {x0 : Int × (List Int) × Unit} {x1 : Int} (h0 : 0 ≤ x1) (hk : x1 + (wt k2 x0 : Int) ≤ 4611686018427387904) (hb : bulk k2 x0 ≤ 1099511627776) : S22oprzprownzz x0 x1 fun r => r = (x1 + (wt k0 x0.2.1 : Int), ()) := by
  unfold S22oprzprownzz
  have e : bulk k2 x0 = (0 + (bulk k0 x0.2.1 + 0)) := rfl
  have ew : wt k2 x0 = (1 + (wt k0 x0.2.1 + 0)) := rfl
  refine ⟨_, _, g23oownz (x0 := x0.2.1) (x1 := x1) (by omega) (by omega) (by omega), ?_⟩
  rfl
theorem g22oprzprownzz {x0 : Int × (List Int) × Unit} {x1 : Int} (h0 : 0 ≤ x1) (hk : x1 + (wt k2 x0 : Int) ≤ 4611686018427387904) (hb : bulk k2 x0 ≤ 1099511627776) : G22oprzprownzz x0 x1 (x1 + (wt k0 x0.2.1 : Int)) := M22oprzprownzz _ _ _ (s22oprzprownzz h0 hk hb)
theorem s24 {x0 : List Int} {x1 : Int} (h0 : 0 ≤ x1) (hk : x1 + (wt k0 x0 : Int) ≤ 4611686018427387904) (hb : bulk k0 x0 ≤ 1099511627776) : S24 (mkRow (mk (fun _ => []) (.int .i64)) (wt (.int .i64)) x0 x1) x1 fun r => r = (x1 + (wt k0 x0 : Int), ()) := by
  unfold S24
  have e : bulk k0 x0 = x0.length + (x0.map (bulk (.int .i64))).sum := rfl
  have hL : (mkRow (α := Int) (mk (fun _ => []) (.int .i64)) (wt (.int .i64)) x0 x1).length = x0.length := mkRow_len _ _ _ _
  refine heldRow (α := Int) (x := x0) (mk (fun _ => []) (.int .i64)) (wt (.int .i64)) ?_ ?_
  · intro i j hi h hj hw hat X hX
    have hm := List.getElem_mem hi
    have ew : wt (.int .i64) x0[i] = 1 := rfl
    have ek : wt k0 x0 = (List.map (α := Int) (wt (.int .i64)) x0).sum := rfl
    have hbt := sum_le (bulk (.int .i64)) hm
    have eb : bulk (.int .i64) x0[i] = 0 := rfl
    simp only
    rw [bc_pos (by omega)]
    simp only [Int.toNat_natCast, List.length_set, List.set_set, getD_set_at h, getD_at h, ge_true, lt_true h, and_self, true_and, ne_eq, three, not_false_eq_true, hat]
    rw [w64_succ (i := i) (by omega)]
    refine bc_ne (fun h => (h rfl).elim) fun _ => ?_
    rw [w64_id (n := j + 1) (by omega) (by omega)]
    exact hX _ (by omega)
  · intro X
    simp only
    rw [bc_neg (by omega)]
    rfl
theorem g24 {x0 : List Int} {x1 : Int} (h0 : 0 ≤ x1) (hk : x1 + (wt k0 x0 : Int) ≤ 4611686018427387904) (hb : bulk k0 x0 ≤ 1099511627776) : G24 (mk (fun _ => []) k0 x0 x1) x1 (x1 + (wt k0 x0 : Int)) := M24 _ _ _ (s24 h0 hk hb)
end Go.V
