/-
  The functions that are reached: types, signatures, what a call of each gives.
-/
import Derived.Test.YtclcdjdogjjfnaaVE
import Derived.Test.YtclcdjdogjjfnaaProg
import Derived.KernelRfl
set_option linter.unusedVariables false
set_option linter.unusedSimpArgs false
set_option maxRecDepth 1000000
set_option linter.unusedVariables false
namespace Go.V
open Go Go.Proofs
abbrev h0 : Sh := .pair (.int .u8) .unit
abbrev h1 : Sh := .pair .bool h0
abbrev h2 : Sh := .pair (.int .i64) h1
abbrev h3 : Sh := .pair (.int .i64) h2
abbrev h4 : Sh := .pair (.int .u64) .unit
abbrev h5 : Sh := .pair .str h4
abbrev h6 : Sh := .pair (.sl 3 (.int .i64)) .unit
abbrev h7 : Sh := .pair (.int .i64) h6
abbrev h8 : Sh := .pair .bool .unit
abbrev h9 : Sh := .pair (.int .i64) h8
abbrev h10 : Sh := .pair .str h9
abbrev h11 : Sh := .sl 109 h10
abbrev h12 : Sh := .sl 111 h7
abbrev h13 : Sh := .pair h12 .unit
abbrev h14 : Sh := .pair h11 h13
abbrev h15 : Sh := .sl 107 h10
abbrev h16 : Sh := .sl 90 h7
abbrev h17 : Sh := .pair h16 .unit
abbrev h18 : Sh := .pair h15 h17
abbrev h19 : Sh := .sl 29 h7
abbrev h20 : Sh := .pair (.int .i64) .unit
abbrev h21 : Sh := .pair (.int .i64) h20
abbrev h22 : Sh := .pair .bool h21
abbrev h23 : Sh := .pair h19 h22
abbrev h24 : Sh := .pair h19 h23
abbrev h25 : Sh := .sl 67 h24
abbrev h26 : Sh := .sl 33 h7
abbrev h27 : Sh := .pair h26 h22
abbrev h28 : Sh := .pair h26 h27
abbrev h29 : Sh := .sl 72 h28
abbrev h30 : Sh := .pair (.sl 5 (.int .u8)) h21
noncomputable abbrev prog : Program := Try.prog
def shTab : List (Nat × Sh) := [(2, .int .i64), (3, .int .i64), (4, .bool), (5, .int .u8), (6, .int .u8), (7, h3), (8, h3), (9, .str), (10, .str), (11, .str), (12, .int .u64), (13, h5), (14, h5), (21, .int .i32), (22, .sl 9 .str), (27, .sl 3 (.int .i64)), (28, h7), (29, h7), (33, h7), (40, .sl 5 (.int .u8)), (44, h11), (45, h12), (46, h14), (47, h14), (50, h15), (51, h16), (52, h18), (53, h18), (57, h25), (59, h29), (65, h19), (66, h24), (67, h24), (70, h26), (71, h28), (72, h28), (82, .ptr h30), (89, h7), (90, h7), (102, h30), (103, h30), (106, h10), (107, h10), (109, h10), (111, h7), (120, .int .u64), (126, .int .i64), (135, .int .u32), (137, .int .u64), (138, .int .u64), (142, .ptr (.int .i64)), (144, .ptr (.int .u64)), (154, .int .u8), (155, .int .u8), (157, .ptr (.int .u8)), (158, .int .i32), (159, .int .i32)]
def sigTab : List (Nat × List Sig) := [(3, [⟨[.z, .z], [(.bool, .z)], [.z, .z]⟩]), (9, [⟨[.z, .z], [(.int .i64, .z)], [.z, .z]⟩]), (10, [⟨[.z, .z], [(.sl 9 .str, .own .z)], [.z, .z]⟩]), (11, [⟨[.z], [(.sl 9 .str, .own .z)], [.z]⟩]), (12, [⟨[.z, .z], [(.sl 9 .str, .own .z)], [.z, .z]⟩]), (13, [⟨[.z, .z], [(.bool, .z)], [.z, .z]⟩]), (14, [⟨[.own .z, .z], [(.int .i64, .z)], [.own .z, .z]⟩]), (15, [⟨[.z, .z], [(.int .i64, .z)], [.z, .z]⟩]), (45, [⟨[.z, .z], [(.bool, .z)], [.z, .z]⟩]), (46, [⟨[.z], [(.str, .z)], [.z]⟩]), (74, [⟨[.z, .z], [(.int .i64, .z)], [.z, .z]⟩])]
def parTab : List (Nat × List (Option Sh)) := [(3, [some (.sl 9 .str), some (.sl 9 .str)]), (9, [some (.sl 9 .str), some (.int .i64)]), (10, [some (.sl 9 .str), some (.sl 9 .str)]), (11, [some (.sl 9 .str)]), (12, [some (.sl 9 .str), some (.sl 9 .str)]), (13, [some (.sl 9 .str), some (.sl 9 .str)]), (14, [some (.sl 9 .str), some (.int .i64)]), (15, [some (.sl 9 .str), some (.int .i64)]), (45, [some (.sl 9 .str), some (.str)]), (46, [some (.int .i64)]), (74, [some (.sl 9 .str), some (.str)])]
noncomputable def E : Env := { sh := fun t => look t shTab, sigs := fun f => (look f sigTab).getD [], params := fun f => (look f parTab).getD [], gives := GivesS prog }
theorem types_ok : ∀ t s, E.sh t = some s → ShOk prog s none t := tab_ok (by kernel_rfl)
theorem mixed : prog.follows .mixedOrders = true := by kernel_rfl
/-- laws.FnExactStringDifference -/
def G3 (x0 : List (List UInt8)) (x1 : List (List UInt8)) (y0 : Bool) : Prop := GivesS prog 3 [⟨.sl 9 .str, .z, x0⟩, ⟨.sl 9 .str, .z, x1⟩] [⟨.bool, .z, y0⟩] [⟨.sl 9 .str, .z, x0⟩, ⟨.sl 9 .str, .z, x1⟩]
/-- laws.heldStringS -/
def G15 (x0 : List (List UInt8)) (x1 : Int) (y0 : Int) : Prop := GivesS prog 15 [⟨.sl 9 .str, .z, x0⟩, ⟨.int .i64, .z, x1⟩] [⟨.int .i64, .z, y0⟩] [⟨.sl 9 .str, .z, x0⟩, ⟨.int .i64, .z, x1⟩]
/-- laws.markText -/
def G46 (x0 : Int) (y0 : List UInt8) : Prop := GivesS prog 46 [⟨.int .i64, .z, x0⟩] [⟨.str, .z, y0⟩] [⟨.int .i64, .z, x0⟩]
/-- laws.eqStringS -/
def G13 (x0 : List (List UInt8)) (x1 : List (List UInt8)) (y0 : Bool) : Prop := GivesS prog 13 [⟨.sl 9 .str, .z, x0⟩, ⟨.sl 9 .str, .z, x1⟩] [⟨.bool, .z, y0⟩] [⟨.sl 9 .str, .z, x0⟩, ⟨.sl 9 .str, .z, x1⟩]
/-- impl.StringDifference -/
def G12 (x0 : List (List UInt8)) (x1 : List (List UInt8)) (y0 : List (List UInt8)) : Prop := GivesS prog 12 [⟨.sl 9 .str, .z, x0⟩, ⟨.sl 9 .str, .z, x1⟩] [⟨.sl 9 .str, .own .z, y0⟩] [⟨.sl 9 .str, .z, x0⟩, ⟨.sl 9 .str, .z, x1⟩]
/-- slices.Contains[[]string,string] -/
def G45 (x0 : List (List UInt8)) (x1 : List UInt8) (y0 : Bool) : Prop := GivesS prog 45 [⟨.sl 9 .str, .z, x0⟩, ⟨.str, .z, x1⟩] [⟨.bool, .z, y0⟩] [⟨.sl 9 .str, .z, x0⟩, ⟨.str, .z, x1⟩]
/-- slices.Index[[]string,string] -/
def G74 (x0 : List (List UInt8)) (x1 : List UInt8) (y0 : Int) : Prop := GivesS prog 74 [⟨.sl 9 .str, .z, x0⟩, ⟨.str, .z, x1⟩] [⟨.int .i64, .z, y0⟩] [⟨.sl 9 .str, .z, x0⟩, ⟨.str, .z, x1⟩]
/-- laws.toStringS -/
def G11 (x0 : List (List UInt8)) (y0 : List (List UInt8)) : Prop := GivesS prog 11 [⟨.sl 9 .str, .z, x0⟩] [⟨.sl 9 .str, .own .z, y0⟩] [⟨.sl 9 .str, .z, x0⟩]
/-- laws.markStringS -/
def G14oownz (x0 : List (List UInt8)) (x1 : Int) (y0 : Int) (z0 : List (List UInt8)) : Prop := GivesS prog 14 [⟨.sl 9 .str, .own .z, x0⟩, ⟨.int .i64, .z, x1⟩] [⟨.int .i64, .z, y0⟩] [⟨.sl 9 .str, .own .z, z0⟩, ⟨.int .i64, .z, x1⟩]
/-- spec.StringDifference -/
def G10 (x0 : List (List UInt8)) (x1 : List (List UInt8)) (y0 : List (List UInt8)) : Prop := GivesS prog 10 [⟨.sl 9 .str, .z, x0⟩, ⟨.sl 9 .str, .z, x1⟩] [⟨.sl 9 .str, .own .z, y0⟩] [⟨.sl 9 .str, .z, x0⟩, ⟨.sl 9 .str, .z, x1⟩]
/-- laws.szStringS -/
def G9 (x0 : List (List UInt8)) (x1 : Int) (y0 : Int) : Prop := GivesS prog 9 [⟨.sl 9 .str, .z, x0⟩, ⟨.int .i64, .z, x1⟩] [⟨.int .i64, .z, y0⟩] [⟨.sl 9 .str, .z, x0⟩, ⟨.int .i64, .z, x1⟩]
end Go.V
/- Functions: what is to be proved of each, and that it is enough. -/
set_option maxRecDepth 1000000
set_option linter.unusedVariables false
namespace Go.V
open Go Go.Proofs
/-- laws.szStringS -/
def S9 (x0 : List (List UInt8)) (x1 : Int) (K : Int × Unit → Prop) : Prop :=
  bcase (decide ((w64 (x1 - (List.length x0 : Int))) < (0 : Int))) (K ((-1 : Int), ())) (LoopP (fun (again2 : Int × Int × Unit → Prop) (a1 : Int × Int × Unit) => bcase (decide (a1.2.1 < (List.length x0 : Int))) ((0 ≤ a1.2.1 ∧ a1.2.1 < (List.length x0 : Int)) ∧ (bcase (decide ((w64 (a1.1 - (List.length (x0.getD (Int.toNat a1.2.1) ([] : List UInt8)) : Int))) < (0 : Int))) (K ((-1 : Int), ())) (again2 (w64 (a1.1 - (List.length (x0.getD (Int.toNat a1.2.1) ([] : List UInt8)) : Int)), (w64 (a1.2.1 + (1 : Int)), ()))))) (K (a1.1, ()))) (w64 (x1 - (List.length x0 : Int)), ((0 : Int), ())))
theorem V9 (x0 : List (List UInt8)) (x1 : Int) (K : Int × Unit → Prop) : fnV E (fun i => look i [(0, { tmps := [(1, .int .i64), (5, .int .i64)], refs := [], roots := [], ctmps := [0], croots := [] })]) (fun i => look i []) Try.f9 ⟨[.z, .z], [(.int .i64, .z)], [.z, .z]⟩ [⟨.sl 9 .str, .z, x0⟩, ⟨.int .i64, .z, x1⟩] (ansK [(.int .i64, .z)] [(.sl 9 .str, .z), (.int .i64, .z)] K) = S9 x0 x1 K := by kernel_rfl
theorem M9 (x0 : List (List UInt8)) (x1 : Int) (y0 : Int) (h : S9 x0 x1 fun r => r = (y0, ())) : G9 x0 x1 y0 := fn_gives (l := [(.int .i64, .z)]) (m := [(.sl 9 .str, .z), (.int .i64, .z)]) (val := (y0, ())) types_ok (fun _ _ _ _ h => h) mixed Try.func9 (by kernel_rfl) (by rfl) (by rfl) (by rfl) (Eq.mpr (V9 x0 x1 _) h)
/-- laws.toStringS -/
def S11 (x0 : List (List UInt8)) (K : (List (List UInt8)) × Unit → Prop) : Prop :=
  (0 ≤ (List.length x0 : Int) ∧ (List.length x0 : Int) ≤ (List.length x0 : Int) ∧ (List.length x0 : Int) ≤ maxL) ∧ (LoopP (fun (again2 : Int × (List (List UInt8)) × Unit → Prop) (a1 : Int × (List (List UInt8)) × Unit) => bcase (decide (a1.1 < (List.length x0 : Int))) ((0 ≤ a1.1 ∧ a1.1 < (List.length x0 : Int)) ∧ ((0 ≤ a1.1 ∧ a1.1 < (List.length a1.2.1 : Int)) ∧ (let z3 : List (List UInt8) := a1.2.1.set (Int.toNat a1.1) (x0.getD (Int.toNat a1.1) ([] : List UInt8)); again2 (w64 (a1.1 + (1 : Int)), (z3, ()))))) (K (a1.2.1, ()))) ((0 : Int), (List.replicate (Int.toNat (List.length x0 : Int)) ([] : List UInt8), ())))
theorem V11 (x0 : List (List UInt8)) (K : (List (List UInt8)) × Unit → Prop) : fnV E (fun i => look i [(0, { tmps := [(4, .int .i64)], refs := [(3, 7)], roots := [(7, false, false, .sl 9 .str, .own .z)], ctmps := [0], croots := [] })]) (fun i => look i []) Try.f11 ⟨[.z], [(.sl 9 .str, .own .z)], [.z]⟩ [⟨.sl 9 .str, .z, x0⟩] (ansK [(.sl 9 .str, .own .z)] [(.sl 9 .str, .z)] K) = S11 x0 K := by kernel_rfl
theorem M11 (x0 : List (List UInt8)) (y0 : List (List UInt8)) (h : S11 x0 fun r => r = (y0, ())) : G11 x0 y0 := fn_gives (l := [(.sl 9 .str, .own .z)]) (m := [(.sl 9 .str, .z)]) (val := (y0, ())) types_ok (fun _ _ _ _ h => h) mixed Try.func11 (by kernel_rfl) (by rfl) (by rfl) (by rfl) (Eq.mpr (V11 x0 _) h)
/-- spec.StringDifference -/
def S10 (x0 : List (List UInt8)) (x1 : List (List UInt8)) (K : (List (List UInt8)) × Unit → Prop) : Prop :=
  LoopP (fun (again2 : Int × (List (List UInt8)) × Unit → Prop) (a1 : Int × (List (List UInt8)) × Unit) => bcase (decide (a1.1 < (List.length x0 : Int))) (LoopP (fun (again4 : Bool × Int × Unit → Prop) (a3 : Bool × Int × Unit) => bcase (decide (a3.2.1 < (List.length x1 : Int))) (bcase a3.1 (again4 (true, (w64 (a3.2.1 + (1 : Int)), ()))) ((0 ≤ a1.1 ∧ a1.1 < (List.length x0 : Int)) ∧ ((0 ≤ a3.2.1 ∧ a3.2.1 < (List.length x1 : Int)) ∧ (again4 ((x0.getD (Int.toNat a1.1) ([] : List UInt8)) == (x1.getD (Int.toNat a3.2.1) ([] : List UInt8)), (w64 (a3.2.1 + (1 : Int)), ())))))) (bcase (!a3.1) ((0 ≤ a1.1 ∧ a1.1 < (List.length x0 : Int)) ∧ (a1.2.1.length + ([x0.getD (Int.toNat a1.1) ([] : List UInt8)] : List (List UInt8)).length ≤ maxL ∧ (again2 (w64 (a1.1 + (1 : Int)), (a1.2.1 ++ ([x0.getD (Int.toNat a1.1) ([] : List UInt8)] : List (List UInt8)), ()))))) (again2 (w64 (a1.1 + (1 : Int)), (a1.2.1, ()))))) (false, ((0 : Int), ()))) (K (a1.2.1, ()))) ((0 : Int), (([] : List (List UInt8)), ()))
theorem V10 (x0 : List (List UInt8)) (x1 : List (List UInt8)) (K : (List (List UInt8)) × Unit → Prop) : fnV E (fun i => look i [(2, { tmps := [(7, .bool), (8, .int .i64)], refs := [], roots := [], ctmps := [5, 6], croots := [5] }), (0, { tmps := [(6, .int .i64)], refs := [(5, 5)], roots := [(5, false, false, .sl 9 .str, .own .z)], ctmps := [0, 1], croots := [] })]) (fun i => look i [(9, (.op 0 (.op 1 (.op 2 (.op 3 (.op 4 (.op 6 (.op 7 (.op 8 (.chk [] (.mem 5 (.mem 9 (.op 10 (.op 11 (.op 12 .nil))))) .nil))))))))))]) Try.f10 ⟨[.z, .z], [(.sl 9 .str, .own .z)], [.z, .z]⟩ [⟨.sl 9 .str, .z, x0⟩, ⟨.sl 9 .str, .z, x1⟩] (ansK [(.sl 9 .str, .own .z)] [(.sl 9 .str, .z), (.sl 9 .str, .z)] K) = S10 x0 x1 K := by kernel_rfl
theorem M10 (x0 : List (List UInt8)) (x1 : List (List UInt8)) (y0 : List (List UInt8)) (h : S10 x0 x1 fun r => r = (y0, ())) : G10 x0 x1 y0 := fn_gives (l := [(.sl 9 .str, .own .z)]) (m := [(.sl 9 .str, .z), (.sl 9 .str, .z)]) (val := (y0, ())) types_ok (fun _ _ _ _ h => h) mixed Try.func10 (by kernel_rfl) (by rfl) (by rfl) (by rfl) (Eq.mpr (V10 x0 x1 _) h)
/-- slices.Index[[]string,string] -/
def S74 (x0 : List (List UInt8)) (x1 : List UInt8) (K : Int × Unit → Prop) : Prop :=
  LoopP (fun (again2 : Int × Unit → Prop) (a1 : Int × Unit) => bcase (decide (a1.1 < (List.length x0 : Int))) ((0 ≤ a1.1 ∧ a1.1 < (List.length x0 : Int)) ∧ (bcase (x1 == (x0.getD (Int.toNat a1.1) ([] : List UInt8))) (K (a1.1, ())) (again2 (w64 (a1.1 + (1 : Int)), ())))) (K ((-1 : Int), ()))) ((0 : Int), ())
theorem V74 (x0 : List (List UInt8)) (x1 : List UInt8) (K : Int × Unit → Prop) : fnV E (fun i => look i [(0, { tmps := [(8, .int .i64)], refs := [], roots := [], ctmps := [0, 1, 7], croots := [] })]) (fun i => look i []) Try.f74 ⟨[.z, .z], [(.int .i64, .z)], [.z, .z]⟩ [⟨.sl 9 .str, .z, x0⟩, ⟨.str, .z, x1⟩] (ansK [(.int .i64, .z)] [(.sl 9 .str, .z), (.str, .z)] K) = S74 x0 x1 K := by kernel_rfl
theorem M74 (x0 : List (List UInt8)) (x1 : List UInt8) (y0 : Int) (h : S74 x0 x1 fun r => r = (y0, ())) : G74 x0 x1 y0 := fn_gives (l := [(.int .i64, .z)]) (m := [(.sl 9 .str, .z), (.str, .z)]) (val := (y0, ())) types_ok (fun _ _ _ _ h => h) mixed Try.func74 (by kernel_rfl) (by rfl) (by rfl) (by rfl) (Eq.mpr (V74 x0 x1 _) h)
/-- slices.Contains[[]string,string] -/
def S45 (x0 : List (List UInt8)) (x1 : List UInt8) (K : Bool × Unit → Prop) : Prop :=
  ∃ y1 : Int, G74 x0 x1 y1 ∧ (K (decide (y1 ≥ (0 : Int)), ()))
theorem V45 (x0 : List (List UInt8)) (x1 : List UInt8) (K : Bool × Unit → Prop) : fnV E (fun i => look i []) (fun i => look i []) Try.f45 ⟨[.z, .z], [(.bool, .z)], [.z, .z]⟩ [⟨.sl 9 .str, .z, x0⟩, ⟨.str, .z, x1⟩] (ansK [(.bool, .z)] [(.sl 9 .str, .z), (.str, .z)] K) = S45 x0 x1 K := by kernel_rfl
theorem M45 (x0 : List (List UInt8)) (x1 : List UInt8) (y0 : Bool) (h : S45 x0 x1 fun r => r = (y0, ())) : G45 x0 x1 y0 := fn_gives (l := [(.bool, .z)]) (m := [(.sl 9 .str, .z), (.str, .z)]) (val := (y0, ())) types_ok (fun _ _ _ _ h => h) mixed Try.func45 (by kernel_rfl) (by rfl) (by rfl) (by rfl) (Eq.mpr (V45 x0 x1 _) h)
/-- impl.StringDifference -/
def S12 (x0 : List (List UInt8)) (x1 : List (List UInt8)) (K : (List (List UInt8)) × Unit → Prop) : Prop :=
  LoopP (fun (again2 : Int × (List (List UInt8)) × Unit → Prop) (a1 : Int × (List (List UInt8)) × Unit) => bcase (decide (a1.1 < (List.length x0 : Int))) ((0 ≤ a1.1 ∧ a1.1 < (List.length x0 : Int)) ∧ (∃ y3 : Bool, G45 x1 (x0.getD (Int.toNat a1.1) ([] : List UInt8)) y3 ∧ (bcase (!y3) (a1.2.1.length + ([x0.getD (Int.toNat a1.1) ([] : List UInt8)] : List (List UInt8)).length ≤ maxL ∧ (again2 (w64 (a1.1 + (1 : Int)), (a1.2.1 ++ ([x0.getD (Int.toNat a1.1) ([] : List UInt8)] : List (List UInt8)), ())))) (again2 (w64 (a1.1 + (1 : Int)), (a1.2.1, ())))))) (K (a1.2.1, ()))) ((0 : Int), (([] : List (List UInt8)), ()))
theorem V12 (x0 : List (List UInt8)) (x1 : List (List UInt8)) (K : (List (List UInt8)) × Unit → Prop) : fnV E (fun i => look i [(0, { tmps := [(11, .int .i64)], refs := [(5, 5)], roots := [(5, false, false, .sl 9 .str, .own .z)], ctmps := [1, 9, 10], croots := [] })]) (fun i => look i []) Try.f12 ⟨[.z, .z], [(.sl 9 .str, .own .z)], [.z, .z]⟩ [⟨.sl 9 .str, .z, x0⟩, ⟨.sl 9 .str, .z, x1⟩] (ansK [(.sl 9 .str, .own .z)] [(.sl 9 .str, .z), (.sl 9 .str, .z)] K) = S12 x0 x1 K := by kernel_rfl
theorem M12 (x0 : List (List UInt8)) (x1 : List (List UInt8)) (y0 : List (List UInt8)) (h : S12 x0 x1 fun r => r = (y0, ())) : G12 x0 x1 y0 := fn_gives (l := [(.sl 9 .str, .own .z)]) (m := [(.sl 9 .str, .z), (.sl 9 .str, .z)]) (val := (y0, ())) types_ok (fun _ _ _ _ h => h) mixed Try.func12 (by kernel_rfl) (by rfl) (by rfl) (by rfl) (Eq.mpr (V12 x0 x1 _) h)
/-- laws.eqStringS -/
def S13 (x0 : List (List UInt8)) (x1 : List (List UInt8)) (K : Bool × Unit → Prop) : Prop :=
  bcase ((List.length x0 : Int) != (List.length x1 : Int)) (K (false, ())) (LoopP (fun (again2 : Int × Unit → Prop) (a1 : Int × Unit) => bcase (decide (a1.1 < (List.length x0 : Int))) ((0 ≤ a1.1 ∧ a1.1 < (List.length x0 : Int)) ∧ ((0 ≤ a1.1 ∧ a1.1 < (List.length x1 : Int)) ∧ (bcase (!((x0.getD (Int.toNat a1.1) ([] : List UInt8)) == (x1.getD (Int.toNat a1.1) ([] : List UInt8)))) (K (false, ())) (again2 (w64 (a1.1 + (1 : Int)), ()))))) (K (true, ()))) ((0 : Int), ()))
theorem V13 (x0 : List (List UInt8)) (x1 : List (List UInt8)) (K : Bool × Unit → Prop) : fnV E (fun i => look i [(0, { tmps := [(5, .int .i64)], refs := [], roots := [], ctmps := [0, 1], croots := [] })]) (fun i => look i [(6, (.op 0 (.op 1 (.op 2 (.op 4 (.op 5 (.op 6 (.chk [] (.mem 3 (.mem 7 (.op 8 .nil))) .nil))))))))]) Try.f13 ⟨[.z, .z], [(.bool, .z)], [.z, .z]⟩ [⟨.sl 9 .str, .z, x0⟩, ⟨.sl 9 .str, .z, x1⟩] (ansK [(.bool, .z)] [(.sl 9 .str, .z), (.sl 9 .str, .z)] K) = S13 x0 x1 K := by kernel_rfl
theorem M13 (x0 : List (List UInt8)) (x1 : List (List UInt8)) (y0 : Bool) (h : S13 x0 x1 fun r => r = (y0, ())) : G13 x0 x1 y0 := fn_gives (l := [(.bool, .z)]) (m := [(.sl 9 .str, .z), (.sl 9 .str, .z)]) (val := (y0, ())) types_ok (fun _ _ _ _ h => h) mixed Try.func13 (by kernel_rfl) (by rfl) (by rfl) (by rfl) (Eq.mpr (V13 x0 x1 _) h)
/-- laws.markText -/
def S46 (x0 : Int) (K : (List UInt8) × Unit → Prop) : Prop :=
  bcase (decide (x0 ≤ (0 : Int))) (K (([109, 48] : List UInt8), ())) (LoopP (fun (again2 : Int × (List UInt8) × Unit → Prop) (a1 : Int × (List UInt8) × Unit) => bcase (decide (a1.1 > (0 : Int))) ((10 : Int) ≠ 0 ∧ ((bytesOf ([IntKind.u8.wrap (w64 ((48 : Int) + (Int.tmod a1.1 (10 : Int))))] : List Int)).length + a1.2.1.length ≤ maxL ∧ ((10 : Int) ≠ 0 ∧ (again2 (w64 (Int.tdiv a1.1 (10 : Int)), ((bytesOf ([IntKind.u8.wrap (w64 ((48 : Int) + (Int.tmod a1.1 (10 : Int))))] : List Int)) ++ a1.2.1, ())))))) (([109] : List UInt8).length + a1.2.1.length ≤ maxL ∧ (K (([109] : List UInt8) ++ a1.2.1, ())))) (x0, (([] : List UInt8), ())))
theorem V46 (x0 : Int) (K : (List UInt8) × Unit → Prop) : fnV E (fun i => look i [(0, { tmps := [(0, .int .i64), (3, .str)], refs := [], roots := [], ctmps := [], croots := [] })]) (fun i => look i []) Try.f46 ⟨[.z], [(.str, .z)], [.z]⟩ [⟨.int .i64, .z, x0⟩] (ansK [(.str, .z)] [(.int .i64, .z)] K) = S46 x0 K := by kernel_rfl
theorem M46 (x0 : Int) (y0 : List UInt8) (h : S46 x0 fun r => r = (y0, ())) : G46 x0 y0 := fn_gives (l := [(.str, .z)]) (m := [(.int .i64, .z)]) (val := (y0, ())) types_ok (fun _ _ _ _ h => h) mixed Try.func46 (by kernel_rfl) (by rfl) (by rfl) (by rfl) (Eq.mpr (V46 x0 _) h)
/-- laws.markStringS -/
def S14oownz (x0 : List (List UInt8)) (x1 : Int) (K : Int × (List (List UInt8)) × Unit → Prop) : Prop :=
  LoopP (fun (again2 : Int × Int × (List (List UInt8)) × Unit → Prop) (a1 : Int × Int × (List (List UInt8)) × Unit) => bcase (decide (a1.2.1 < (List.length a1.2.2.1 : Int))) (∃ y3 : List UInt8, G46 a1.1 y3 ∧ ((0 ≤ a1.2.1 ∧ a1.2.1 < (List.length a1.2.2.1 : Int)) ∧ (again2 (w64 (a1.1 + (1 : Int)), (w64 (a1.2.1 + (1 : Int)), (a1.2.2.1.set (Int.toNat a1.2.1) y3, ())))))) (K (a1.1, (a1.2.2.1, ())))) (x1, ((0 : Int), (x0, ())))
theorem V14oownz (x0 : List (List UInt8)) (x1 : Int) (K : Int × (List (List UInt8)) × Unit → Prop) : fnV E (fun i => look i [(0, { tmps := [(1, .int .i64), (5, .int .i64)], refs := [(0, 0)], roots := [(0, false, true, .sl 9 .str, .own .z)], ctmps := [], croots := [] })]) (fun i => look i []) Try.f14 ⟨[.own .z, .z], [(.int .i64, .z)], [.own .z, .z]⟩ [⟨.sl 9 .str, .own .z, x0⟩, ⟨.int .i64, .z, x1⟩] (ansK [(.int .i64, .z)] [(.sl 9 .str, .own .z), (.int .i64, .z)] K) = S14oownz x0 x1 K := by kernel_rfl
theorem M14oownz (x0 : List (List UInt8)) (x1 : Int) (y0 : Int) (z0 : List (List UInt8)) (h : S14oownz x0 x1 fun r => r = (y0, (z0, ()))) : G14oownz x0 x1 y0 z0 := fn_gives (l := [(.int .i64, .z)]) (m := [(.sl 9 .str, .own .z), (.int .i64, .z)]) (val := (y0, (z0, ()))) types_ok (fun _ _ _ _ h => h) mixed Try.func14 (by kernel_rfl) (by rfl) (by rfl) (by rfl) (Eq.mpr (V14oownz x0 x1 _) h)
/-- laws.heldStringS -/
def S15 (x0 : List (List UInt8)) (x1 : Int) (K : Int × Unit → Prop) : Prop :=
  LoopP (fun (again2 : Int × Int × Unit → Prop) (a1 : Int × Int × Unit) => bcase (decide (a1.2.1 < (List.length x0 : Int))) ((0 ≤ a1.2.1 ∧ a1.2.1 < (List.length x0 : Int)) ∧ (∃ y3 : List UInt8, G46 a1.1 y3 ∧ (bcase (!((x0.getD (Int.toNat a1.2.1) ([] : List UInt8)) == y3)) (K ((-1 : Int), ())) (again2 (w64 (a1.1 + (1 : Int)), (w64 (a1.2.1 + (1 : Int)), ())))))) (K (a1.1, ()))) (x1, ((0 : Int), ()))
theorem V15 (x0 : List (List UInt8)) (x1 : Int) (K : Int × Unit → Prop) : fnV E (fun i => look i [(0, { tmps := [(1, .int .i64), (5, .int .i64)], refs := [], roots := [], ctmps := [0], croots := [] })]) (fun i => look i [(4, (.op 0 (.op 1 (.op 2 (.op 4 (.chk [] (.mem 3 (.op 5 .nil)) (.op 6 .nil)))))))]) Try.f15 ⟨[.z, .z], [(.int .i64, .z)], [.z, .z]⟩ [⟨.sl 9 .str, .z, x0⟩, ⟨.int .i64, .z, x1⟩] (ansK [(.int .i64, .z)] [(.sl 9 .str, .z), (.int .i64, .z)] K) = S15 x0 x1 K := by kernel_rfl
theorem M15 (x0 : List (List UInt8)) (x1 : Int) (y0 : Int) (h : S15 x0 x1 fun r => r = (y0, ())) : G15 x0 x1 y0 := fn_gives (l := [(.int .i64, .z)]) (m := [(.sl 9 .str, .z), (.int .i64, .z)]) (val := (y0, ())) types_ok (fun _ _ _ _ h => h) mixed Try.func15 (by kernel_rfl) (by rfl) (by rfl) (by rfl) (Eq.mpr (V15 x0 x1 _) h)
/-- laws.FnExactStringDifference -/
def S3 (x0 : List (List UInt8)) (x1 : List (List UInt8)) (K : Bool × Unit → Prop) : Prop :=
  ∃ y1 : Int, G9 x0 (1048576 : Int) y1 ∧ (bcase (decide (y1 < (0 : Int))) (K (true, ())) (∃ y2 : Int, G9 x1 y1 y2 ∧ (bcase (decide (y2 < (0 : Int))) (K (true, ())) (∃ y3 : List (List UInt8), G11 x0 y3 ∧ (∃ y4 : List (List UInt8), G11 x1 y4 ∧ (∃ y5 : List (List UInt8), G10 y3 y4 y5 ∧ (∃ y6 : List (List UInt8), G11 x0 y6 ∧ (∃ y7 : List (List UInt8), G11 x1 y7 ∧ (∃ y8 : List (List UInt8), G12 y6 y7 y8 ∧ (∃ y9 : Bool, G13 y8 y5 y9 ∧ (bcase (!y9) (K (false, ())) (∃ y10 : List (List UInt8), G11 x0 y10 ∧ (∃ y11 : Bool, G13 y6 y10 y11 ∧ (bcase (!y11) (K (false, ())) (∃ y12 : List (List UInt8), G11 x1 y12 ∧ (∃ y13 : Bool, G13 y7 y12 y13 ∧ (bcase (!y13) (K (false, ())) (∃ y14 : Int, ∃ y15 : List (List UInt8), G14oownz y6 (1 : Int) y14 y15 ∧ (∃ y16 : Int, ∃ y17 : List (List UInt8), G14oownz y7 y14 y16 y17 ∧ (bcase (decide (y16 < (0 : Int))) (K (false, ())) (∃ y18 : Bool, G13 y8 y5 y18 ∧ (bcase (!y18) (K (false, ())) (∃ y19 : Int, ∃ y20 : List (List UInt8), G14oownz y8 (1 : Int) y19 y20 ∧ (∃ y21 : Int, G15 y20 (1 : Int) y21 ∧ (bcase (decide (y21 < (0 : Int))) (K (false, ())) (bcase (y21 != y19) (K (false, ())) (∃ y22 : List (List UInt8), G11 x0 y22 ∧ (∃ y23 : List (List UInt8), G11 x1 y23 ∧ (∃ y24 : List (List UInt8), G12 y22 y23 y24 ∧ (∃ y25 : Bool, G13 y24 y5 y25 ∧ (bcase (!y25) (K (false, ())) (∃ y26 : Int, G15 y20 (1 : Int) y26 ∧ (bcase (decide (y26 < (0 : Int))) (K (false, ())) (bcase (y26 != y19) (K (false, ())) (K (true, ()))))))))))))))))))))))))))))))))))))
theorem V3 (x0 : List (List UInt8)) (x1 : List (List UInt8)) (K : Bool × Unit → Prop) : fnV E (fun i => look i []) (fun i => look i []) Try.f3 ⟨[.z, .z], [(.bool, .z)], [.z, .z]⟩ [⟨.sl 9 .str, .z, x0⟩, ⟨.sl 9 .str, .z, x1⟩] (ansK [(.bool, .z)] [(.sl 9 .str, .z), (.sl 9 .str, .z)] K) = S3 x0 x1 K := by kernel_rfl
theorem M3 (x0 : List (List UInt8)) (x1 : List (List UInt8)) (y0 : Bool) (h : S3 x0 x1 fun r => r = (y0, ())) : G3 x0 x1 y0 := fn_gives (l := [(.bool, .z)]) (m := [(.sl 9 .str, .z), (.sl 9 .str, .z)]) (val := (y0, ())) types_ok (fun _ _ _ _ h => h) mixed Try.func3 (by kernel_rfl) (by rfl) (by rfl) (by rfl) (Eq.mpr (V3 x0 x1 _) h)
end Go.V
