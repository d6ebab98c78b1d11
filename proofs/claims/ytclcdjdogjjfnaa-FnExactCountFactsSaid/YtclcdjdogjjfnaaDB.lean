/-
  CountFacts: plain facts of the functions that the law reaches.
-/
import Derived.Test.YtclcdjdogjjfnaaDA
set_option linter.unusedVariables false
set_option linter.unusedSimpArgs false
namespace Go.V
open Go

def cnt (x1 : Int) (l : List (Int × List Int × Unit)) : Nat := (l.filter fun f => f.1 == x1).length
theorem cnt_succ {x1 : Int} {l : List (Int × List Int × Unit)} {i : Nat} (h : i < l.length) : cnt x1 (l.take (i + 1)) = cnt x1 (l.take i) + (if (l[i].1 == x1) = true then 1 else 0) := by
  unfold cnt
  rw [take_succ_snoc h, List.filter_append, List.length_append]
  congr 1
  by_cases hp : (l[i].1 == x1) = true <;> simp [hp]
theorem cnt_le (x1 : Int) (l : List (Int × List Int × Unit)) : cnt x1 l ≤ l.length := List.length_filter_le _ _
theorem count {x1 : Int} {l : List (Int × List Int × Unit)} (hl : l.length ≤ 1099511627776) {K : Int × Unit → Prop} (hK : K ((cnt x1 l : Int), ())) :
    LoopP (fun (again2 : Int × Int × Unit → Prop) (a1 : Int × Int × Unit) => bcase (decide (a1.2.1 < (List.length l : Int))) ((0 ≤ a1.2.1 ∧ a1.2.1 < (List.length l : Int)) ∧ (bcase (((l.getD (Int.toNat a1.2.1) ((0 : Int), (([] : List Int), ()))).1) == x1) (again2 (w64 (a1.1 + (1 : Int)), (w64 (a1.2.1 + (1 : Int)), ()))) (again2 (a1.1, (w64 (a1.2.1 + (1 : Int)), ()))))) (K (a1.1, ()))) ((0 : Int), ((0 : Int), ())) := by
  refine loopP_of l.length (fun i => ((cnt x1 (l.take i) : Int), ((i : Int), ()))) (by simp [cnt]) ?_ ?_
  · intro i hi X hX
    have hc := cnt_le x1 (l.take i)
    rw [List.length_take] at hc
    simp only at hX ⊢
    rw [bc_pos (by omega), getD_nat hi, w64_succ (i := cnt x1 (l.take i)) (by omega), w64_succ (by omega)]
    refine ⟨⟨by omega, by omega⟩, ?_⟩
    rw [cnt_succ hi] at hX
    by_cases hp : (l[i].1 == x1) = true
    · rw [bc_true hp]; rw [if_pos hp] at hX; exact hX
    · rw [bc_false (by simpa using hp)]; rw [if_neg hp] at hX; exact hX
  · intro X
    simp only
    rw [bc_neg (by omega), List.take_of_length_le (Nat.le_refl _)]
    exact hK

theorem g29 {x0 : List (List UInt8 × Int × Bool × Unit) × List (Int × List Int × Unit) × Unit} {x1 : Int} (hl : x0.2.1.length ≤ 1099511627776) : G29 x0 x1 (cnt x1 x0.2.1) := M29 _ _ _ (by unfold S29; exact count (K := fun r => r = ((cnt x1 x0.2.1 : Int), ())) hl rfl)
theorem g31 {x0 : List (List UInt8 × Int × Bool × Unit) × List (Int × List Int × Unit) × Unit} {x1 : Int} (hl : x0.2.1.length ≤ 1099511627776) : G31 x0 x1 (cnt x1 x0.2.1) := M31 _ _ _ (by unfold S31; exact count (K := fun r => r = ((cnt x1 x0.2.1 : Int), ())) hl rfl)

theorem law {x0 : List (List UInt8 × Int × Bool × Unit) × List (Int × List Int × Unit) × Unit} {x1 : Int} (hb : Bnd k9 x0) (_ : Bnd (.int .i64) x1) : G6 x0 x1 true := by
  refine M6 _ _ _ ?_
  refine ⟨_, g28 (by omega) (by omega) hb, ?_⟩
  refine bc_fits (by omega) (fun _ => rfl) fun h => ?_
  have hB : bulk k9 x0 ≤ 1099511627776 := by omega
  have e : bulk k9 x0 = (bulk k4 x0.1 + (bulk k7 x0.2.1 + 0)) := rfl
  have e2 : bulk k7 x0.2.1 = x0.2.1.length + (x0.2.1.map (bulk k6)).sum := rfl
  have hl : x0.2.1.length ≤ 1099511627776 := by omega
  refine ⟨_, g30 hB, _, g29 hl, _, g30 hB, _, g31 hl, ?_⟩
  refine bc_ne (fun h => absurd rfl h) fun _ => ?_
  exact ⟨_, g30 hB, _, g32 hB, bc_nd (fun h => absurd rfl h) fun _ => rfl⟩
end Go.V
