/-
  EqualityDependencies: plain facts of the functions that the law reaches.
-/
import Derived.Test.YtclcdjdogjjfnaaEA
set_option linter.unusedVariables false
set_option linter.unusedSimpArgs false
namespace Go.V
open Go
abbrev At := Int × List Int × Unit
abbrev Dp := List At × List At × Bool × Int × Int × Unit

theorem g84 {x0 : List Int} (hl : x0.length ≤ 1099511627776) : G84 x0 x0 := by
  refine M84 _ _ ?_
  unfold S84
  have e : (([] : List Int).length + x0.length ≤ maxL) := by simp; exact_mod_cast hl
  by_cases h : x0 = []
  · rw [bc_true (by simp [h])]
    exact ⟨by rw [h], e, rfl⟩
  · rw [bc_false (by simpa using h)]
    exact ⟨e, rfl⟩
theorem g83 {x0 : List At} (hb : bulk k3 x0 ≤ 1099511627776) : G83 x0 x0 := by
  refine M83 _ _ ?_
  unfold S83
  have e : bulk k3 x0 = x0.length + (x0.map (bulk k2)).sum := rfl
  refine loopP_of x0.length (fun i => ((i : Int), (x0.take i, ()))) (by simp) ?_ ?_
  · intro i hi X hX
    have hbt := sum_le (bulk k2) (List.getElem_mem hi)
    have eb : bulk k2 x0[i] = (0 + (bulk k0 x0[i].2.1 + 0)) := rfl
    have ec : bulk k0 x0[i].2.1 = x0[i].2.1.length + (x0[i].2.1.map (bulk (.int .i64))).sum := rfl
    simp only
    rw [bc_pos (by omega), getD_nat hi, w64_succ (by omega)]
    refine ⟨⟨by omega, by omega⟩, _, g84 (by omega), ?_, ?_⟩
    · simp only [List.length_take, List.length_cons, List.length_nil]; unfold maxL; omega
    · rw [take_succ_snoc hi] at hX
      exact hX
  · intro X
    simp only
    rw [bc_neg (by omega), List.take_of_length_le (Nat.le_refl _)]
theorem g66 {x0 : Dp} (hb : bulk k8 x0 ≤ 1099511627776) : G66 x0 x0 := by
  have e : bulk k8 x0 = (bulk k3 x0.1 + (bulk k3 x0.2.1 + 0)) := rfl
  exact M66 _ _ ⟨_, g83 (by omega), _, g83 (by omega), rfl⟩
theorem g65 {x0 : Dp} (hb : bulk k8 x0 ≤ 1099511627776) : G65 x0 x0 := by
  refine M65 _ _ ?_
  unfold S65
  have e : bulk k8 x0 = (bulk k3 x0.1 + (bulk k3 x0.2.1 + 0)) := rfl
  have e1 : bulk k3 x0.1 = x0.1.length + (x0.1.map (bulk k2)).sum := rfl
  have e2 : bulk k3 x0.2.1 = x0.2.1.length + (x0.2.1.map (bulk k2)).sum := rfl
  refine loopP_of x0.1.length (fun i => ((i : Int), ((x0.1.take i, ([], x0.2.2)), ()))) (by simp) ?_ ?_
  · intro i hi X hX
    have hbt := sum_le (bulk k2) (List.getElem_mem hi)
    have eb : bulk k2 x0.1[i] = (0 + (bulk k0 x0.1[i].2.1 + 0)) := rfl
    have ec : bulk k0 x0.1[i].2.1 = x0.1[i].2.1.length + (x0.1[i].2.1.map (bulk (.int .i64))).sum := rfl
    simp only
    rw [bc_pos (by omega), getD_nat hi, w64_succ (by omega)]
    refine ⟨⟨by omega, by omega⟩, ⟨by omega, by omega⟩, ?_, ?_, ?_⟩
    · simp only [List.length_nil]; unfold maxL; omega
    · simp only [List.length_take, List.length_cons, List.length_nil]; unfold maxL; omega
    · rw [take_succ_snoc hi] at hX
      exact hX
  · intro X
    simp only
    rw [bc_neg (by omega), List.take_of_length_le (Nat.le_refl _)]
    refine loopP_of x0.2.1.length (fun i => ((i : Int), ((x0.1, (x0.2.1.take i, x0.2.2)), ()))) (by simp) ?_ ?_
    · intro i hi X hX
      have hbt := sum_le (bulk k2) (List.getElem_mem hi)
      have eb : bulk k2 x0.2.1[i] = (0 + (bulk k0 x0.2.1[i].2.1 + 0)) := rfl
      have ec : bulk k0 x0.2.1[i].2.1 = x0.2.1[i].2.1.length + (x0.2.1[i].2.1.map (bulk (.int .i64))).sum := rfl
      simp only
      rw [bc_pos (by omega), getD_nat hi, w64_succ (by omega)]
      refine ⟨⟨by omega, by omega⟩, ⟨by omega, by omega⟩, ?_, ?_, ?_⟩
      · simp only [List.length_nil]; unfold maxL; omega
      · simp only [List.length_take, List.length_cons, List.length_nil]; unfold maxL; omega
      · rw [take_succ_snoc hi] at hX
        exact hX
    · intro X
      simp only
      rw [bc_neg (by omega), List.take_of_length_le (Nat.le_refl _)]

def eqs (x : List Dp) : List Dp := x.filter fun d => d.2.2.1
theorem filter_snoc {α : Type} {p : α → Bool} {x : List α} {i : Nat} (h : i < x.length) : (x.take (i + 1)).filter p = (x.take i).filter p ++ (if p x[i] = true then [x[i]] else []) := by
  rw [take_succ_snoc h, List.filter_append]
  congr 1
  cases hp : p x[i] <;> simp [hp]
theorem sum_filter_le {α : Type} (b : α → Nat) (p : α → Bool) : ∀ (l : List α), ((l.filter p).map b).sum ≤ (l.map b).sum
  | [] => Nat.le_refl _
  | t :: l => by
    have := sum_filter_le b p l
    rw [List.filter_cons]
    split
    · simp only [List.map_cons, List.sum_cons]; omega
    · simp only [List.map_cons, List.sum_cons]; omega
theorem eqs_bulk (x : List Dp) : bulk k9 (eqs x) ≤ bulk k9 x := by
  have h1 := List.length_filter_le (fun d : Dp => d.2.2.1) x
  have h2 := sum_filter_le (bulk k8) (fun d : Dp => d.2.2.1) x
  show (x.filter _).length + ((x.filter _).map (bulk k8)).sum ≤ x.length + (x.map (bulk k8)).sum
  exact Nat.add_le_add h1 h2
theorem eqs_len (x : List Dp) (i : Nat) : ((x.take i).filter fun d => d.2.2.1).length ≤ i := Nat.le_trans (List.length_filter_le _ _) (by rw [List.length_take]; omega)

theorem g34 {x0 : List Dp} (hb : bulk k9 x0 ≤ 1099511627776) : G34 x0 (eqs x0) := by
  refine M34 _ _ ?_
  unfold S34
  have e : bulk k9 x0 = x0.length + (x0.map (bulk k8)).sum := rfl
  refine loopP_of x0.length (fun i => ((i : Int), ((x0.take i).filter (fun d => d.2.2.1), ()))) (by simp) ?_ ?_
  · intro i hi X hX
    have hbt := sum_le (bulk k8) (List.getElem_mem hi)
    have hn := eqs_len x0 i
    simp only
    rw [bc_pos (by omega), getD_nat hi, w64_succ (by omega)]
    refine ⟨⟨by omega, by omega⟩, ?_⟩
    rw [filter_snoc hi] at hX
    by_cases hp : x0[i].2.2.1 = true
    · rw [bc_true hp]
      rw [if_pos hp] at hX
      refine ⟨⟨by omega, by omega⟩, _, g65 (by omega), ?_, hX⟩
      refine Nat.le_trans (Nat.add_le_add_right hn _) ?_
      simp only [List.length_cons, List.length_nil]; unfold maxL; omega
    · rw [bc_false (by simpa using hp)]
      rw [if_neg hp, List.append_nil] at hX
      exact hX
  · intro X
    simp only
    rw [bc_neg (by omega), List.take_of_length_le (Nat.le_refl _)]
    rfl
theorem g36 {x0 : List Dp} (hb : bulk k9 x0 ≤ 1099511627776) : G36 x0 (eqs x0) := by
  refine M36 _ _ ?_
  unfold S36
  have e : bulk k9 x0 = x0.length + (x0.map (bulk k8)).sum := rfl
  refine loopP_of x0.length (fun i => ((i : Int), ((x0.take i).filter (fun d => d.2.2.1), ()))) (by simp) ?_ ?_
  · intro i hi X hX
    have hbt := sum_le (bulk k8) (List.getElem_mem hi)
    have hn := eqs_len x0 i
    simp only
    rw [bc_pos (by omega), getD_nat hi, w64_succ (by omega)]
    refine ⟨⟨by omega, by omega⟩, ?_⟩
    rw [filter_snoc hi] at hX
    by_cases hp : x0[i].2.2.1 = true
    · rw [bc_true hp]
      rw [if_pos hp] at hX
      refine ⟨_, g66 (by omega), ?_, hX⟩
      refine Nat.le_trans (Nat.add_le_add_right hn _) ?_
      simp only [List.length_cons, List.length_nil]; unfold maxL; omega
    · rw [bc_false (by simpa using hp)]
      rw [if_neg hp, List.append_nil] at hX
      exact hX
  · intro X
    simp only
    rw [bc_neg (by omega), List.take_of_length_le (Nat.le_refl _)]
    rfl

theorem law {x0 : List Dp} (hb : Bnd k9 x0) : G7 x0 true := by
  refine M7 _ _ ?_
  refine ⟨_, g33 (by omega) (by omega) hb, ?_⟩
  refine bc_fits (by omega) (fun _ => rfl) fun h => ?_
  have hB : bulk k9 x0 ≤ 1099511627776 := by omega
  have hE := eqs_bulk x0
  have w0 := wt_le k9 x0
  have w1 := wt_le k9 (eqs x0)
  have hs : scal k9 = 7 := rfl
  rw [hs] at w0 w1
  have yes : ∀ {x : List Dp} {A B : Prop}, B → bcase (!decide (x = x)) A B := fun h => by simpa [bcase] using h
  have c := @g35 x0 hB
  have q : G37 (eqs x0) (eqs x0) _ := g37 (by omega)
  refine ⟨_, c, _, g34 hB, _, c, _, g36 hB, _, q, yes ?_⟩
  refine ⟨_, c, _, g37 hB, yes ?_⟩
  refine ⟨_, _, g38oownprownprzprownzzprownprzprownzzz (by omega) (by omega) (by omega), ?_⟩
  rw [bc_neg (by omega)]
  refine ⟨_, q, yes ?_⟩
  have hh := @g39 (eqs x0) 1 (by omega) (by omega) (by omega)
  refine ⟨_, _, g38oownprownprzprownzzprownprzprownzzz (by omega) (by omega) (by omega), _, hh, ?_⟩
  rw [bc_neg (by omega)]
  refine bc_ne (fun h => (h rfl).elim) fun _ => ?_
  refine ⟨_, c, _, g36 hB, _, q, yes ?_⟩
  refine ⟨_, hh, ?_⟩
  rw [bc_neg (by omega)]
  exact bc_ne (fun h => (h rfl).elim) fun _ => rfl
end Go.V
