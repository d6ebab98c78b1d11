/-
  The functions that the law reaches: what each gives.
-/
import Derived.Test.YtjpljbcodljhlaaKF
set_option linter.unusedVariables false
set_option linter.unusedSimpArgs false
set_option maxRecDepth 1000000
set_option maxHeartbeats 4000000
set_option linter.unusedVariables false
set_option linter.unusedSimpArgs false
namespace Go.V
open Go
def cmpI (a b : Int) : Int := if a < b then -1 else if b < a then 1 else 0
def cmpL : List Int → List Int → Int
  | [], [] => 0
  | [], _ :: _ => -1
  | _ :: _, [] => 1
  | a :: x, b :: y => if a < b then -1 else if b < a then 1 else cmpL x y
def cmpF (a b : TFact) : Int := if a.1 < b.1 then -1 else if b.1 < a.1 then 1 else cmpL a.2.1 b.2.1
theorem cmpL_zero : ∀ {x y : List Int}, cmpL x y = 0 ↔ x = y
  | [], [] => by simp [cmpL]
  | [], b :: y => by simp [cmpL]
  | a :: x, [] => by simp [cmpL]
  | a :: x, b :: y => by
    unfold cmpL
    split
    · rename_i h; constructor
      · intro h'; cases h'
      · intro h'; cases h'; omega
    · split
      · rename_i h; constructor
        · intro h'; cases h'
        · intro h'; cases h'; omega
      · rw [cmpL_zero]
        have : a = b := by omega
        simp [this]
theorem cmpF_zero {x y : TFact} : cmpF x y = 0 ↔ x = y := by
  obtain ⟨a, b, u⟩ := x; obtain ⟨a', b', u'⟩ := y
  unfold cmpF
  simp only
  split
  · rename_i h; constructor
    · intro h'; cases h'
    · intro h'; cases h'; omega
  · split
    · rename_i h; constructor
      · intro h'; cases h'
      · intro h'; cases h'; omega
    · rw [cmpL_zero]
      have : a = a' := by omega
      simp [this]
theorem cmpL_step {x y : List Int} {i : Nat} (h : i < x.length) (h' : i < y.length) : cmpL (x.drop i) (y.drop i) = if x[i] < y[i] then -1 else if y[i] < x[i] then 1 else cmpL (x.drop (i + 1)) (y.drop (i + 1)) := by
  rw [drop_cons h, drop_cons h', cmpL]
theorem cmpL_end {x y : List Int} {i : Nat} (h : x.length ≤ i) : cmpL (x.drop i) (y.drop i) = if i < y.length then -1 else 0 := by
  rw [List.drop_of_length_le h]
  by_cases h' : i < y.length
  · rw [drop_cons h', if_pos h']; rfl
  · rw [List.drop_of_length_le (by omega), if_neg h']; rfl
theorem cmpL_end' {x y : List Int} {i : Nat} (h : i < x.length) (h' : y.length ≤ i) : cmpL (x.drop i) (y.drop i) = 1 := by
  rw [List.drop_of_length_le h', drop_cons h]; rfl
theorem g_sl4Ints {x y : List Int} : G_sl4Ints x y (cmpL x y) := M_sl4Ints _ _ _ (by
  unfold S_sl4Ints
  refine loopP_down (fun k a => ∃ i : Nat, i + k = x.length ∧ a = ((i : Int), ()) ∧ i ≤ y.length ∧ cmpL (x.drop i) (y.drop i) = cmpL x y) ?_ ?_ (n := x.length) ⟨0, by omega, rfl, by omega, by simp⟩
  · rintro a ⟨i, hi, rfl, hy, hc⟩ X
    obtain rfl : i = x.length := by omega
    rw [cmpL_end (Nat.le_refl _)] at hc
    refine lenI fun h1 => bcN (lenI fun _ => lenI fun h2 => bc_dec (fun h => ?_) (fun h => lenI fun _ => lenI fun _ => bc_dec (fun h' => by omega) (fun h' => ?_)))
    · rw [if_pos (by omega)] at hc; rw [← hc]
    · rw [if_neg (by omega)] at hc; rw [← hc]
  · rintro k a ⟨i, hi, rfl, hy, hc⟩ X hX
    have hlt : i < x.length := by omega
    refine lenI fun h1 => bcI hlt (lenI fun h2 => bc_dec (fun h => ?_) (fun h => ?_))
    · have hlt' : i < y.length := by omega
      refine inI hlt (inI hlt' ?_)
      simp only
      rw [getI hlt, getI hlt']
      rw [cmpL_step hlt hlt'] at hc
      refine bc_dec (fun h => ?_) (fun h => inI hlt (inI hlt' (bc_dec (fun h' => ?_) (fun h' => ?_))))
      · rw [if_pos h] at hc; rw [← hc]
      · rw [if_neg h, if_pos h'] at hc; rw [← hc]
      · rw [if_neg h, if_neg (by omega)] at hc
        rw [w64_succ (by omega)]
        exact hX _ ⟨i + 1, by omega, rfl, by omega, hc⟩
    · simp only at h
      rw [cmpL_end' hlt (by omega)] at hc
      refine lenI fun _ => lenI fun _ => bc_dec (fun h' => by omega) (fun h' => lenI fun _ => lenI fun _ => bc_dec (fun h'' => ?_) (fun h'' => by omega))
      rw [← hc])
theorem g_sCompareFacts {x y : TFact} : G_sCompareFacts x y (cmpF x y) := M_sCompareFacts _ _ _ (by
  unfold S_sCompareFacts cmpF
  refine bc_dec (fun h => by rw [if_pos h]) (fun h => bc_dec (fun h' => by rw [if_neg h, if_pos h']) (fun h' => ⟨_, g_sl4Ints, by rw [if_neg h, if_neg (by omega)]⟩)))
theorem g_cmp_isNaN_int {x : Int} : G_cmp_isNaN_int x false := M_cmp_isNaN_int _ _ (by unfold S_cmp_isNaN_int; simp)
theorem g_cmp_Compare_int {x y : Int} : G_cmp_Compare_int x y (cmpI x y) := M_cmp_Compare_int _ _ _ (by
  unfold S_cmp_Compare_int cmpI
  refine ⟨_, g_cmp_isNaN_int, _, g_cmp_isNaN_int, bcF (bcF (bc_dec (fun h => by rw [if_pos h]) (fun h => bc_dec (fun h' => by rw [if_neg h, if_pos h']) (fun h' => by rw [if_neg h, if_neg h']))))⟩)
theorem cmpI_zero {a b : Int} : cmpI a b = 0 ↔ a = b := by unfold cmpI; split <;> (try split) <;> omega
theorem g_slices_Compare_int {x y : List Int} : G_slices_Compare_int x y (cmpL x y) := M_slices_Compare_int _ _ _ (by
  unfold S_slices_Compare_int
  refine lenI fun h1 => loopP_down (fun k a => ∃ i : Nat, i + k = x.length ∧ a = ((i : Int), ()) ∧ cmpL (x.drop i) (y.drop i) = cmpL x y ∧ i ≤ y.length) ?_ ?_ (n := x.length) ⟨0, by omega, rfl, by simp, by omega⟩
  · rintro a ⟨i, hi, rfl, hc, hy⟩ X
    obtain rfl : i = x.length := by omega
    rw [cmpL_end (Nat.le_refl _)] at hc
    refine bcN (lenI fun _ => lenI fun h2 => bc_dec (fun h => ?_) (fun h => ?_))
    · rw [if_pos (by omega)] at hc; rw [← hc]
    · rw [if_neg (by omega)] at hc; rw [← hc]
  · rintro k a ⟨i, hi, rfl, hc, hy⟩ X hX
    have hlt : i < x.length := by omega
    refine bcI hlt (inI hlt (lenI fun h2 => bc_dec (fun h => ?_) (fun h => ?_)))
    · simp only at h
      rw [cmpL_end' hlt (by omega)] at hc
      rw [← hc]
    · simp only at h
      have hlt' : i < y.length := by omega
      refine inI hlt' ⟨_, g_cmp_Compare_int, ?_⟩
      simp only
      rw [getI hlt, getI hlt']
      rw [cmpL_step hlt hlt'] at hc
      refine bc_ne (fun h => ?_) (fun h => ?_)
      · have hne : x[i] ≠ y[i] := fun e => h (cmpI_zero.mpr e)
        rw [← hc]
        unfold cmpI
        by_cases h3 : x[i] < y[i]
        · rw [if_pos h3, if_pos h3]
        · rw [if_neg h3, if_neg h3, if_pos (by omega), if_pos (by omega)]
      · have he := cmpI_zero.mp h
        rw [if_neg (by omega), if_neg (by omega)] at hc
        rw [w64_succ (by omega)]
        exact hX _ ⟨i + 1, by omega, rfl, hc, by omega⟩)
def orL : List Int → Int
  | [] => 0
  | a :: l => if a = 0 then orL l else a
theorem g_cmp_Or_int {x : List Int} : G_cmp_Or_int x (orL x) := M_cmp_Or_int _ _ (by
  unfold S_cmp_Or_int
  have key : ∀ l : List Int, orL l = if h : firstAt (fun t => t != 0) l < l.length then l[firstAt (fun t => t != 0) l] else 0 := by
    intro l
    induction l with
    | nil => simp [orL, firstAt]
    | cons a l ih =>
      unfold orL
      by_cases ha : a = 0
      · rw [if_pos ha, ih]
        simp only [firstAt, ha, bne_self_eq_false, Bool.false_eq_true, if_false, List.length_cons, Nat.add_lt_add_iff_right, List.getElem_cons_succ]
      · rw [if_neg ha]
        have : (a != 0) = true := by simpa using ha
        simp [firstAt, this]
  refine lenI fun hl => loop_first x (fun t => t != 0) (fun i => ((i : Int), ())) (KT := fun i => ∀ h : i < x.length, ((x[i], ()) : Int × Unit) = (orL x, ())) (KF := (((0 : Int), ()) : Int × Unit) = (orL x, ())) ?_ ?_ ?_ ?_
  · intro i hi X h1 h2
    refine bcI hi (inI hi ?_)
    simp only
    rw [getI hi, w64_succ (by omega)]
    exact bc_if (fun h => h1 h hi) h2
  · intro X h; exact bcN h
  · intro h h'; rw [key, dif_pos h]
  · intro h; rw [key, dif_neg (by omega)])
theorem g_iCompareFacts {x y : TFact} : G_iCompareFacts x y (cmpF x y) := M_iCompareFacts _ _ _ (by
  unfold S_iCompareFacts
  refine ⟨_, g_cmp_Compare_int, _, g_slices_Compare_int, _, g_cmp_Or_int, ?_⟩
  have : orL [cmpI x.1 y.1, cmpL x.2.1 y.2.1] = cmpF x y := by
    unfold cmpF
    by_cases h : x.1 < y.1
    · have : cmpI x.1 y.1 = -1 := by unfold cmpI; rw [if_pos h]
      rw [if_pos h, this]; rfl
    · rw [if_neg h]
      by_cases h' : y.1 < x.1
      · have : cmpI x.1 y.1 = 1 := by unfold cmpI; rw [if_neg h, if_pos h']
        rw [if_pos h', this]; rfl
      · have : cmpI x.1 y.1 = 0 := by unfold cmpI; rw [if_neg h, if_neg h']
        rw [if_neg h', this]
        unfold orL
        rw [if_pos rfl]
        unfold orL
        by_cases h0 : cmpL x.2.1 y.2.1 = 0
        · rw [if_pos h0, h0]; rfl
        · rw [if_neg h0]
  rw [this])
theorem g_isameFact {x y : TFact} : G_isameFact x y (decide (x = y)) := M_isameFact _ _ _ (by
  unfold S_isameFact
  refine ⟨_, g_iCompareFacts, ?_⟩
  have : (cmpF x y == (0 : Int)) = decide (x = y) := by
    by_cases h : x = y
    · rw [cmpF_zero.mpr h]; simp [h]
    · have : cmpF x y ≠ 0 := fun e => h (cmpF_zero.mp e)
      simp [h, this]
  rw [this])
theorem g_sl5Sigs {x y : List TRel} : G_sl5Sigs x y (decide (x = y)) := M_sl5Sigs _ _ _ (by
  unfold S_sl5Sigs
  exact eqRow (α := TRel) (fun r => ((r, ()) : Bool × Unit) = (decide (x = y), ())) (fun (t u : TRel) A B => bcase (!(eqD (.pair .str (.pair (.int .i64) (.pair .bool .unit))) t u)) A B) (fun (t : TRel) ht (u : TRel) hu A B h1 h2 => by
    rw [eqD_rel t u]; exact bc_not (fun h => h1 (by simpa using h)) (fun h => h2 (by simpa using h))) rfl)
theorem g_sEqualInstances {x y : TInst} : G_sEqualInstances x y (decide (x = y)) := M_sEqualInstances _ _ _ (by
  unfold S_sEqualInstances
  refine ⟨_, g_sl5Sigs, bc_not (fun h => ?_) (fun h => ?_)⟩
  · rw [decide_eq_false]; rintro rfl; simp at h
  · have h1 : x.1 = y.1 := by simpa using h
    have e : decide (x = y) = decide (x.2.1 = y.2.1) := by
      obtain ⟨a, b, _⟩ := x; obtain ⟨a', b', _⟩ := y
      simp only at h1; simp [h1]
    rw [e]
    exact eqRow (fun r => ((r, ()) : Bool × Unit) = (decide (x.2.1 = y.2.1), ())) (fun t u A B => ∃ c, G_sCompareFacts t u c ∧ bcase (c != (0 : Int)) A B) (fun t ht u hu A B h1 h2 => ⟨_, g_sCompareFacts, bc_ne (fun h => h1 fun e => h (cmpF_zero.mpr e)) (fun h => h2 (cmpF_zero.mp h))⟩) rfl)
theorem g_iEqualInstances {x y : TInst} : G_iEqualInstances x y (decide (x = y)) := M_iEqualInstances _ _ _ (by
  unfold S_iEqualInstances
  refine ⟨_, g_slices_Equal_Relation, bc_if (fun h => ⟨_, g_slices_EqualFunc_Fact_c_isameFact (fun a b => decide (a = b)) (fun _ _ _ _ => g_isameFact), ?_⟩) (fun h => ?_)⟩
  · rw [zip_all_eq _ (fun _ _ => rfl)]
    have h1 : x.1 = y.1 := by simpa using h
    obtain ⟨a, b, _⟩ := x; obtain ⟨a', b', _⟩ := y
    simp only at h1; simp [h1]
  · rw [decide_eq_false]; rintro rfl; simp at h)
theorem g_sl9Atoms {x y : List TFact} : G_sl9Atoms x y (decide (x = y)) := M_sl9Atoms _ _ _ (by
  unfold S_sl9Atoms
  refine lenI fun hl => lenI fun hl' => bc_ne (fun h => ?_) (fun h => ?_)
  · rw [decide_eq_false]; rintro rfl; exact h rfl
  · have he : x.length = y.length := by omega
    refine loopP_down (fun k a => ∃ i : Nat, i + k = x.length ∧ a = ((i : Int), ()) ∧ x.take i = y.take i) ?_ ?_ (n := x.length) ⟨0, by omega, rfl, by simp⟩
    · rintro a ⟨i, hi, rfl, hc⟩ X
      obtain rfl : i = x.length := by omega
      rw [List.take_length, List.take_of_length_le (by omega)] at hc
      refine lenI fun _ => bcN ?_
      rw [decide_eq_true hc]
    · rintro k a ⟨i, hi, rfl, hc⟩ X hX
      have hlt : i < x.length := by omega
      have hlt' : i < y.length := by omega
      refine lenI fun _ => bcI hlt (inI hlt (inI hlt' ?_))
      simp only
      rw [getI hlt, getI hlt']
      have no : x[i] ≠ y[i] → ((false, ()) : Bool × Unit) = (decide (x = y), ()) := by
        intro hn; rw [decide_eq_false]; rintro rfl; exact hn rfl
      refine bc_ne (fun h => no fun e => h (by rw [e])) (fun h => inI hlt (inI hlt' ⟨_, g_sl4Ints, bc_ne (fun h' => no fun e => h' (cmpL_zero.mpr (by rw [e]))) (fun h' => ?_)⟩))
      rw [w64_succ (by omega)]
      refine hX _ ⟨i + 1, by omega, rfl, ?_⟩
      rw [take_succ_snoc hlt, take_succ_snoc hlt', hc]
      have h2 := cmpL_zero.mp h'
      have : x[i] = y[i] := Prod.ext h (Prod.ext h2 rfl)
      rw [this])
theorem dep_eq {x y : TDep} : (x = y) ↔ x.1 = y.1 ∧ x.2.1 = y.2.1 ∧ x.2.2.1 = y.2.2.1 ∧ x.2.2.2.1 = y.2.2.2.1 ∧ x.2.2.2.2.1 = y.2.2.2.2.1 := by
  obtain ⟨a, b, c, d, e, u⟩ := x; obtain ⟨a', b', c', d', e', u'⟩ := y
  simp
theorem g_sEqualDependencies {x y : TDep} : G_sEqualDependencies x y (decide (x = y)) := M_sEqualDependencies _ _ _ (by
  unfold S_sEqualDependencies
  have no : ¬ x = y → ((false, ()) : Bool × Unit) = (decide (x = y), ()) := fun h => by rw [decide_eq_false h]
  refine ⟨_, g_sl9Atoms, bc_dec (fun h1 => ⟨_, g_sl9Atoms, bc_dec (fun h2 => bc_beq (fun h3 => bc_beq (fun h4 => ?_) (fun h => no fun e => h (by rw [e]))) (fun h => no fun e => h (by rw [e]))) (fun h => no fun e => h (by rw [e]))⟩) (fun h => no fun e => h (by rw [e]))⟩
  have : (x.2.2.2.2.1 == y.2.2.2.2.1) = decide (x = y) := by
    by_cases h : x.2.2.2.2.1 = y.2.2.2.2.1
    · rw [decide_eq_true (dep_eq.mpr ⟨h1, h2, h3, h4, h⟩)]; simp [h]
    · rw [decide_eq_false fun e => h (by rw [e])]; simpa using h
  rw [this])
theorem g_isameAtom {x y : TFact} : G_isameAtom x y (decide (x = y)) := M_isameAtom _ _ _ (by
  unfold S_isameAtom
  refine bc_beq (fun h => ⟨_, g_slices_Equal_int, ?_⟩) (fun h => ?_)
  · obtain ⟨a, b, _⟩ := x; obtain ⟨a', b', _⟩ := y
    simp only at h; simp [h]
  · rw [decide_eq_false]; rintro rfl; exact h rfl)
theorem g_iEqualDependencies {x y : TDep} : G_iEqualDependencies x y (decide (x = y)) := M_iEqualDependencies _ _ _ (by
  unfold S_iEqualDependencies
  have no : ¬ x = y → ((false, ()) : Bool × Unit) = (decide (x = y), ()) := fun h => by rw [decide_eq_false h]
  have at_ : ∀ {a b : List TFact}, G_slices_EqualFunc_Atom_c_isameAtom a b () (decide (a = b)) := by
    intro a b
    have := g_slices_EqualFunc_Atom_c_isameAtom (x0 := a) (x1 := b) (x2 := ()) (fun a b => decide (a = b)) (fun _ _ _ _ => g_isameAtom)
    rwa [zip_all_eq _ (fun _ _ => rfl)] at this
  refine bc_beq (fun h3 => bc_beq (fun h4 => bc_beq (fun h5 => ⟨_, at_, bc_dec (fun h1 => ⟨_, at_, ?_⟩) (fun h => no fun e => h (by rw [e]))⟩) (fun h => no fun e => h (by rw [e]))) (fun h => no fun e => h (by rw [e]))) (fun h => no fun e => h (by rw [e]))
  have : decide (x.2.1 = y.2.1) = decide (x = y) := by
    by_cases h : x.2.1 = y.2.1
    · rw [decide_eq_true (dep_eq.mpr ⟨h1, h, h3, h4, h5⟩), decide_eq_true h]
    · rw [decide_eq_false h, decide_eq_false (p := x = y) fun e => h (by rw [e])]
  rw [this])
theorem loader_eq {x y : TLoader} : (x = y) ↔ x.1.1 = y.1.1 ∧ x.1.2.1 = y.1.2.1 ∧ x.2.1 = y.2.1 ∧ x.2.2.1 = y.2.2.1 ∧ x.2.2.2.1 = y.2.2.2.1 ∧ x.2.2.2.2.1 = y.2.2.2.2.1 := by
  obtain ⟨⟨i, t, _⟩, a, b, c, d, u⟩ := x; obtain ⟨⟨i', t', _⟩, a', b', c', d', u'⟩ := y
  simp [and_assoc]
theorem g_sEqualLoaders {x y : TLoader} : G_sEqualLoaders x y (decide (x = y)) := M_sEqualLoaders _ _ _ (by
  unfold S_sEqualLoaders
  have no : ¬ x = y → ((false, ()) : Bool × Unit) = (decide (x = y), ()) := fun h => by rw [decide_eq_false h]
  refine ⟨_, g_sEqualInstances, bc_not (fun h => no fun e => by rw [e] at h; simp at h) (fun h1 => ?_)⟩
  refine bc_ne (fun h => no fun e => h (by rw [e])) (fun h5 => bc_ne (fun h => no fun e => h (by rw [e])) (fun h6 => ?_))
  refine lenI fun l1 => lenI fun l1' => bc_ne (fun h => no fun e => h (by rw [e])) (fun q1 => ?_)
  refine lenI fun l2 => lenI fun l2' => bc_ne (fun h => no fun e => h (by rw [e])) (fun q2 => ?_)
  refine lenI fun l3 => lenI fun l3' => bc_ne (fun h => no fun e => h (by rw [e])) (fun q3 => ?_)
  have h1 : x.1.1 = y.1.1 := by simpa using h1
  refine loopP_down (fun k a => ∃ i : Nat, i + k = x.2.1.length ∧ a = ((i : Int), ()) ∧ x.2.1.take i = y.2.1.take i) ?_ ?_ (n := x.2.1.length) ⟨0, by omega, rfl, by simp⟩
  rotate_left
  · rintro k a ⟨i, hi, rfl, hc⟩ X hX
    have hlt : i < x.2.1.length := by omega
    have hlt' : i < y.2.1.length := by omega
    refine lenI fun _ => bcI hlt (inI hlt (inI hlt' ⟨_, g_sEqualDependencies, ?_⟩))
    simp only
    rw [getI hlt, getI hlt', w64_succ (by omega)]
    refine bc_not (fun h => no fun e => ?_) (fun h => hX _ ⟨i + 1, by omega, rfl, ?_⟩)
    · subst e; simp at h
    · have : x.2.1[i] = y.2.1[i] := by simpa using h
      rw [take_succ_snoc hlt, take_succ_snoc hlt', hc, this]
  rintro a ⟨i, hi, rfl, hc⟩ X
  obtain rfl : i = x.2.1.length := by omega
  rw [List.take_length, List.take_of_length_le (by omega)] at hc
  refine lenI fun _ => bcN ?_
  refine loopP_down (fun k a => ∃ i : Nat, i + k = x.2.2.1.length ∧ a = ((i : Int), ()) ∧ x.2.2.1.take i = y.2.2.1.take i) ?_ ?_ (n := x.2.2.1.length) ⟨0, by omega, rfl, by simp⟩
  rotate_left
  · rintro k a ⟨i, hi, rfl, hc⟩ X hX
    have hlt : i < x.2.2.1.length := by omega
    have hlt' : i < y.2.2.1.length := by omega
    refine lenI fun _ => bcI hlt (inI hlt (inI hlt' ⟨_, g_sCompareFacts, ?_⟩))
    simp only
    rw [getI hlt, getI hlt', w64_succ (by omega)]
    refine bc_ne (fun h => no fun e => ?_) (fun h => hX _ ⟨i + 1, by omega, rfl, ?_⟩)
    · subst e; exact h (cmpF_zero.mpr rfl)
    · rw [take_succ_snoc hlt, take_succ_snoc hlt', hc, cmpF_zero.mp h]
  rintro a ⟨i, hi, rfl, hc2⟩ X
  obtain rfl : i = x.2.2.1.length := by omega
  rw [List.take_length, List.take_of_length_le (by omega)] at hc2
  refine lenI fun _ => bcN ?_
  refine loopP_down (fun k a => ∃ i : Nat, i + k = x.1.2.1.length ∧ a = ((i : Int), ()) ∧ x.1.2.1.take i = y.1.2.1.take i) ?_ ?_ (n := x.1.2.1.length) ⟨0, by omega, rfl, by simp⟩
  · rintro a ⟨i, hi, rfl, hc3⟩ X
    obtain rfl : i = x.1.2.1.length := by omega
    rw [List.take_length, List.take_of_length_le (by omega)] at hc3
    refine lenI fun _ => bcN ?_
    rw [decide_eq_true (loader_eq.mpr ⟨h1, hc3, hc, hc2, h5, h6⟩)]
  · rintro k a ⟨i, hi, rfl, hc⟩ X hX
    have hlt : i < x.1.2.1.length := by omega
    have hlt' : i < y.1.2.1.length := by omega
    refine lenI fun _ => bcI hlt (inI hlt (inI hlt' ?_))
    simp only
    rw [getI hlt, getI hlt', w64_succ (by omega)]
    have no : x.1.2.1[i] ≠ y.1.2.1[i] → ((false, ()) : Bool × Unit) = (decide (x = y), ()) := by
      intro hn; rw [decide_eq_false]; rintro rfl; exact hn rfl
    refine bc_ne (fun h => no fun e => h (by rw [e])) (fun q1 => inI hlt (inI hlt' (bc_ne (fun h => no fun e => h (by rw [e])) (fun q2 => inI hlt (inI hlt' ⟨_, g_sl4Ints, bc_ne (fun h => no fun e => h (cmpL_zero.mpr (by rw [e]))) (fun q3 => hX _ ⟨i + 1, by omega, rfl, ?_⟩)⟩)))))
    rw [take_succ_snoc hlt, take_succ_snoc hlt', hc]
    have : x.1.2.1[i] = y.1.2.1[i] := Prod.ext q1 (Prod.ext q2 (Prod.ext (cmpL_zero.mp q3) rfl))
    rw [this])
theorem g_iEqualLoaders_1 {x y : TTerm} : G_iEqualLoaders_1 x y (decide (x = y)) := M_iEqualLoaders_1 _ _ _ (by
  unfold S_iEqualLoaders_1
  have no : ¬ x = y → ((false, ()) : Bool × Unit) = (decide (x = y), ()) := fun h => by rw [decide_eq_false h]
  refine bc_beq (fun h1 => bc_beq (fun h2 => ⟨_, g_slices_Equal_int, ?_⟩) (fun h => no fun e => h (by rw [e]))) (fun h => no fun e => h (by rw [e]))
  obtain ⟨a, b, c, _⟩ := x; obtain ⟨a', b', c', _⟩ := y
  simp only at h1 h2; simp [h1, h2])
theorem g_iEqualLoaders {x y : TLoader} : G_iEqualLoaders x y (decide (x = y)) := M_iEqualLoaders _ _ _ (by
  unfold S_iEqualLoaders
  have no : ¬ x = y → ((false, ()) : Bool × Unit) = (decide (x = y), ()) := fun h => by rw [decide_eq_false h]
  have ft : ∀ {a b : List TFact}, G_slices_EqualFunc_Fact_c_isameFact a b () (decide (a = b)) := by
    intro a b
    have := g_slices_EqualFunc_Fact_c_isameFact (x0 := a) (x1 := b) (x2 := ()) (fun a b => decide (a = b)) (fun _ _ _ _ => g_isameFact)
    rwa [zip_all_eq _ (fun _ _ => rfl)] at this
  have tt : ∀ {a b : List TTerm}, G_slices_EqualFunc_SkolemTerm_c_iEqualLoaders_1 a b () (decide (a = b)) := by
    intro a b
    have := g_slices_EqualFunc_SkolemTerm_c_iEqualLoaders_1 (x0 := a) (x1 := b) (x2 := ()) (fun a b => decide (a = b)) (fun _ _ _ _ => g_iEqualLoaders_1)
    rwa [zip_all_eq _ (fun _ _ => rfl)] at this
  have dt : ∀ {a b : List TDep}, G_slices_EqualFunc_Dependency_c_iEqualDependencies a b () (decide (a = b)) := by
    intro a b
    have := g_slices_EqualFunc_Dependency_c_iEqualDependencies (x0 := a) (x1 := b) (x2 := ()) (fun a b => decide (a = b)) (fun _ _ _ _ => g_iEqualDependencies)
    rwa [zip_all_eq _ (fun _ _ => rfl)] at this
  refine ⟨_, g_iEqualInstances, bc_dec (fun h1 => ⟨_, tt, bc_dec (fun h2 => ⟨_, dt, bc_dec (fun h3 => ⟨_, ft, bc_dec (fun h4 => bc_beq (fun h5 => ?_) (fun h => no fun e => h (by rw [e]))) (fun h => no fun e => h (by rw [e]))⟩) (fun h => no fun e => h (by rw [e]))⟩) (fun h => no fun e => h (by rw [e]))⟩) (fun h => no fun e => h (by rw [e]))⟩
  have : (x.2.2.2.2.1 == y.2.2.2.2.1) = decide (x = y) := by
    by_cases h : x.2.2.2.2.1 = y.2.2.2.2.1
    · rw [decide_eq_true (loader_eq.mpr ⟨h1, h2, h3, h4, h5, h⟩)]; simp [h]
    · rw [decide_eq_false fun e => h (by rw [e])]; simpa using h
  rw [this])
/- ## sorted rows of integers, each once -/
def ins : List Int → Int → List Int
  | [], x => [x]
  | a :: l, x => if a < x then a :: ins l x else if a = x then a :: l else x :: a :: l
def srt (l : List Int) : Prop := l.Pairwise (· < ·)
def sset (l : List Int) : List Int := l.foldl ins []
theorem mem_put {y x : Int} : ∀ {l : List Int}, y ∈ ins l x ↔ y = x ∨ y ∈ l
  | [] => by simp [ins]
  | a :: l => by
    unfold ins
    split
    · rw [List.mem_cons, mem_put, List.mem_cons]
      constructor
      · rintro (h | h | h) <;> simp [h]
      · rintro (h | h | h) <;> simp [h]
    · split
      · rename_i h; subst h; simp
      · simp
theorem srt_put {x : Int} : ∀ {l : List Int}, srt l → srt (ins l x)
  | [], _ => by simp [ins, srt]
  | a :: l, h => by
    obtain ⟨h1, h2⟩ := List.pairwise_cons.mp h
    unfold ins
    split
    · rename_i hlt
      refine List.pairwise_cons.mpr ⟨fun y hy => ?_, srt_put h2⟩
      rcases mem_put.mp hy with rfl | hy
      · exact hlt
      · exact h1 y hy
    · split
      · exact h
      · refine List.pairwise_cons.mpr ⟨fun y hy => ?_, h⟩
        rcases List.mem_cons.mp hy with rfl | hy
        · omega
        · have := h1 y hy; omega
theorem foldput {l : List Int} : ∀ {s : List Int}, srt s → srt (l.foldl ins s) ∧ ∀ y, y ∈ l.foldl ins s ↔ y ∈ s ∨ y ∈ l := by
  induction l with
  | nil => intro s h; exact ⟨h, by simp⟩
  | cons a l ih =>
    intro s h
    obtain ⟨h1, h2⟩ := ih (srt_put (x := a) h)
    refine ⟨h1, fun y => ?_⟩
    rw [List.foldl_cons, h2, mem_put, List.mem_cons]
    constructor
    · rintro ((h | h) | h) <;> simp [h]
    · rintro (h | h | h) <;> simp [h]
theorem srt_sset (l : List Int) : srt (sset l) := (foldput List.Pairwise.nil).1
theorem mem_sset {l : List Int} {y : Int} : y ∈ sset l ↔ y ∈ l := by have := (foldput (l := l) List.Pairwise.nil).2 y; simpa [sset] using this
theorem srt_ext : ∀ {a b : List Int}, srt a → srt b → (∀ y, y ∈ a ↔ y ∈ b) → a = b
  | [], [], _, _, _ => rfl
  | [], y :: b, _, _, h => by have := (h y).mpr (by simp); simp at this
  | x :: a, [], _, _, h => by have := (h x).mp (by simp); simp at this
  | x :: a, y :: b, ha, hb, h => by
    obtain ⟨ha1, ha2⟩ := List.pairwise_cons.mp ha
    obtain ⟨hb1, hb2⟩ := List.pairwise_cons.mp hb
    have hxy : x = y := by
      rcases List.mem_cons.mp ((h x).mp (by simp)) with e | hx
      · exact e
      · rcases List.mem_cons.mp ((h y).mpr (by simp)) with e | hy
        · exact e.symm
        · have := ha1 y hy; have := hb1 x hx; omega
    subst hxy
    congr 1
    refine srt_ext ha2 hb2 fun z => ⟨fun hz => ?_, fun hz => ?_⟩
    · rcases List.mem_cons.mp ((h z).mp (by simp [hz])) with e | h'
      · have := ha1 z hz; omega
      · exact h'
    · rcases List.mem_cons.mp ((h z).mpr (by simp [hz])) with e | h'
      · have := hb1 z hz; omega
      · exact h'
theorem sset_of {a l : List Int} (h1 : srt a) (h2 : ∀ y, y ∈ a ↔ y ∈ l) : a = sset l := srt_ext h1 (srt_sset l) fun y => by rw [h2, mem_sset]
theorem sset_congr {l m : List Int} (h : ∀ y, y ∈ l ↔ y ∈ m) : sset l = sset m := sset_of (srt_sset l) fun y => by rw [mem_sset, h]
theorem foldput_sset {l m : List Int} : (sset m).foldl ins (sset l) = sset (l ++ m) := by
  obtain ⟨h1, h2⟩ := foldput (l := sset m) (srt_sset l)
  exact sset_of h1 fun y => by rw [h2, mem_sset, mem_sset, List.mem_append]
theorem sset_snoc {l : List Int} {x : Int} : ins (sset l) x = sset (l ++ [x]) := by unfold sset; rw [List.foldl_append]; rfl
theorem put_len (l : List Int) (x : Int) : (ins l x).length ≤ l.length + 1 := by
  induction l with
  | nil => simp [ins]
  | cons a l ih => unfold ins; split; simp; omega; split <;> simp
theorem sset_len (l : List Int) : (sset l).length ≤ l.length := by
  have : ∀ (l s : List Int), (l.foldl ins s).length ≤ s.length + l.length := by
    intro l
    induction l with
    | nil => intro s; simp
    | cons a l ih => intro s; have := ih (ins s a); have := put_len s a; simp only [List.foldl_cons, List.length_cons]; omega
  have := this l []
  simpa [sset] using this
theorem sset_nil_iff {l : List Int} : sset l = [] ↔ l = [] := by
  constructor
  · intro h
    apply List.eq_nil_iff_forall_not_mem.mpr
    intro y hy
    have := mem_sset.mpr hy
    rw [h] at this; simp at this
  · rintro rfl; rfl
/-- strictly sorted numbers of a range are few -/
theorem srt_range {l : List Int} {a : Int} : ∀ {n : Nat}, srt l → (∀ y ∈ l, a ≤ y ∧ y < a + n) → l.length ≤ n := by
  induction l generalizing a with
  | nil => intro n _ _; simp
  | cons x l ih =>
    intro n h hr
    obtain ⟨h1, h2⟩ := List.pairwise_cons.mp h
    have hx := hr x (by simp)
    have := ih (a := x + 1) (n := (a + n - (x + 1)).toNat) h2 fun y hy => by
      have := h1 y hy; have := hr y (by simp [hy]); omega
    simp only [List.length_cons]; omega
theorem srt_last {l : List Int} (h : srt l) (hne : l ≠ []) : ∀ y ∈ l, y ≤ l.getLast hne := by
  intro y hy
  have hs : l = l.dropLast ++ [l.getLast hne] := (List.dropLast_concat_getLast hne).symm
  rw [hs] at h hy
  unfold srt at h
  rw [List.pairwise_append] at h
  rcases List.mem_append.mp hy with hy | hy
  · have := h.2.2 y hy (l.getLast hne) (by simp); omega
  · have : y = l.getLast hne := by simpa using hy
    omega
theorem put_eq (l : List Int) (x : Int) : ins l x = if h : firstAt (fun a => !decide (a < x)) l < l.length then (if l[firstAt (fun a => !decide (a < x)) l] = x then l else l.take (firstAt (fun a => !decide (a < x)) l) ++ x :: l.drop (firstAt (fun a => !decide (a < x)) l)) else l ++ [x] := by
  induction l with
  | nil => simp [ins, firstAt]
  | cons a l ih =>
    unfold ins
    by_cases ha : a < x
    · have e : firstAt (fun a => !decide (a < x)) (a :: l) = firstAt (fun a => !decide (a < x)) l + 1 := by simp [firstAt, ha]
      rw [if_pos ha, ih]
      by_cases hf : firstAt (fun a => !decide (a < x)) l < l.length
      · rw [dif_pos hf, dif_pos (by rw [e]; simpa using hf)]
        simp only [e, List.getElem_cons_succ, List.take_succ_cons, List.drop_succ_cons]
        split
        · rfl
        · rfl
      · rw [dif_neg hf, dif_neg (by rw [e]; simpa using hf)]
        rfl
    · have e : firstAt (fun a => !decide (a < x)) (a :: l) = 0 := by simp [firstAt, ha]
      rw [if_neg ha, dif_pos (by rw [e]; simp)]
      simp only [e, List.getElem_cons_zero, List.take_zero, List.drop_zero, List.nil_append]
/- ## relations, atoms, dependencies: which are valid -/
def inR (x a b : Int) : Bool := decide (a ≤ x) && decide (x ≤ b)
theorem any_not {α : Type} {p : α → Bool} {l : List α} : (l.any fun t => !p t) = !(l.all p) := by
  induction l with
  | nil => rfl
  | cons a l ih => simp only [List.any_cons, List.all_cons, ih]; cases p a <;> simp
theorem nt {b : Bool} (h : (!b) = true) : b = false := by simpa using h
theorem nf {b : Bool} (h : (!b) = false) : b = true := by simpa using h
theorem flat_split {α β : Type} (f : α → List β) {l : List α} {i : Nat} (h : i < l.length) : (l.flatMap f).length = ((l.take i).flatMap f).length + ((f l[i]).length + ((l.drop (i + 1)).flatMap f).length) := by
  have e : l = l.take i ++ l[i] :: l.drop (i + 1) := by rw [← drop_cons h, List.take_append_drop]
  have := congrArg (fun m => (m.flatMap f).length) e
  simp only [List.flatMap_append, List.flatMap_cons, List.length_append] at this
  exact this
theorem inR_iff {x a b : Int} : inR x a b = true ↔ a ≤ x ∧ x ≤ b := by simp [inR]
theorem bl_tri : ∀ {a b : List UInt8}, (Op.bytesLess b a || b == a) = !(Op.bytesLess a b)
  | [], [] => by decide
  | [], y :: b => by simp [Op.bytesLess]
  | x :: a, [] => by simp [Op.bytesLess]
  | x :: a, y :: b => by
    have ih := bl_tri (a := a) (b := b)
    simp only [Op.bytesLess]
    by_cases h : y < x
    · have h2 : ¬ x < y := UInt8.lt_asymm h
      have h3 : ¬ x = y := by rintro rfl; exact UInt8.lt_irrefl _ h
      simp [h, h2, h3]
    · by_cases h2 : x < y
      · have h3 : ¬ y = x := by rintro rfl; exact h h2
        simp [h, h2, h3]
      · have h3 : x = y := UInt8.le_antisymm (UInt8.not_lt.mp h) (UInt8.not_lt.mp h2)
        subst h3
        simp only [h, decide_false, beq_self_eq_true, Bool.true_and, Bool.false_or]
        rw [← ih]
        by_cases h4 : b = a <;> simp [h4]
def vRel (r : TRel) : Bool := (r.1.length == 1) && decide (97 ≤ (r.1.getD 0 0).toNat) && decide ((r.1.getD 0 0).toNat ≤ 122) && inR r.2.1 1 3
def relAt (l : List TRel) (i : Nat) : TRel := l.getD i zRel
def vRels (l : List TRel) : Bool := ((List.range l.length).all fun i => vRel (relAt l i) && (i == 0 || Op.bytesLess (relAt l (i - 1)).1 (relAt l i).1)) && decide (l.length ≤ 6)
theorem relAt_get {l : List TRel} {i : Nat} (h : i < l.length) : relAt l i = l[i] := getD_at h
theorem vRels_mem {l : List TRel} (h : vRels l = true) {r : TRel} (hr : r ∈ l) : vRel r = true := by
  unfold vRels at h
  rw [Bool.and_eq_true] at h
  obtain ⟨i, hi, rfl⟩ := List.mem_iff_getElem.mp hr
  have := List.all_eq_true.mp h.1 i (List.mem_range.mpr hi)
  rw [Bool.and_eq_true, relAt_get hi] at this
  exact this.1
theorem vRels_len {l : List TRel} (h : vRels l = true) : l.length ≤ 6 := by
  unfold vRels at h; simp at h; exact h.2
theorem vRel_arity {r : TRel} (h : vRel r = true) : 1 ≤ r.2.1 ∧ r.2.1 ≤ 3 := by
  unfold vRel at h; simp [inR] at h; exact h.2
def arity (l : List TRel) (i : Int) : Int := (l.getD (Int.toNat i) zRel).2.1
def srcAt (l : List TRel) (i : Int) : Bool := (l.getD (Int.toNat i) zRel).2.2.1
/-- a row of numbers at a relation, each with ok -/
def vRow (ok : Int → Bool) (l : List TRel) (a : TFact) : Bool := vRels l && inR a.1 0 ((l.length : Int) - 1) && ((a.2.1.length : Int) == arity l a.1) && a.2.1.all ok
theorem vRow_spec {ok : Int → Bool} {l : List TRel} {a : TFact} (h : vRow ok l a = true) : vRels l = true ∧ 0 ≤ a.1 ∧ a.1 < l.length ∧ (a.2.1.length : Int) = arity l a.1 ∧ a.2.1.length ≤ 3 ∧ ∀ v ∈ a.2.1, ok v = true := by
  unfold vRow at h
  simp only [Bool.and_eq_true, beq_iff_eq, List.all_eq_true] at h
  obtain ⟨⟨⟨h1, h2⟩, h3⟩, h4⟩ := h
  have h2 := inR_iff.mp h2
  have hlt : a.1.toNat < l.length := by omega
  have := vRel_arity (vRels_mem h1 (List.getElem_mem hlt))
  have e : arity l a.1 = l[a.1.toNat].2.1 := by unfold arity; rw [getD_at hlt]
  exact ⟨h1, h2.1, by omega, h3, by omega, h4⟩
def vTerm (t : Int) : Bool := inR t (-10) 4
def vAtom (l : List TRel) (a : TFact) : Bool := vRow vTerm l a
def vars (l : List TFact) : List Int := sset ((l.flatMap (·.2.1)).filter fun t => decide (0 ≤ t))
def vDep (l : List TRel) (d : TDep) : Bool := inR d.1.length 1 2 && d.1.all (vAtom l) &&
  (if d.2.2.1 then decide (d.2.1 = []) && decide (d.2.2.2.1 ∈ vars d.1) && decide (d.2.2.2.2.1 ∈ vars d.1) && decide (d.2.2.2.1 < d.2.2.2.2.1)
   else d.2.1.all (fun a => vAtom l a && !(srcAt l a.1)) && inR d.2.1.length 1 2 && (d.2.2.2.1 == 0) && (d.2.2.2.2.1 == 0))
def vDeps (l : List TRel) (ds : List TDep) : Bool := ds.all (vDep l) && vRels l && decide (ds.length ≤ 5)
def exV (d : TDep) : List Int := (vars d.2.1).filter fun v => !decide (v ∈ vars d.1)
def frV (d : TDep) : List Int := (vars d.2.1).filter fun v => decide (v ∈ vars d.1)
def full (d : TDep) : Bool := !d.2.2.1 && (exV d).isEmpty
theorem atoms_len {l : List TRel} {ats : List TFact} (h : ats.all (vAtom l) = true) : (ats.flatMap (·.2.1)).length ≤ 3 * ats.length := by
  induction ats with
  | nil => simp
  | cons a ats ih =>
    simp only [List.all_cons, Bool.and_eq_true] at h
    have h1 := (vRow_spec h.1).2.2.2.2.1
    have := ih h.2
    simp only [List.flatMap_cons, List.length_append, List.length_cons]
    omega
theorem vars_len (l : List TFact) : (vars l).length ≤ (l.flatMap (·.2.1)).length := Nat.le_trans (sset_len _) (List.length_filter_le _ _)
theorem row_start {l : List TRel} {a : TFact} (h : inR a.1 0 (w64 ((l.length : Int) - 1)) = true) (hl : (l.length : Int) ≤ 9223372036854775807) : 0 ≤ a.1 ∧ a.1 < (l.length : Int) := by
  have := inR_iff.mp h
  rw [w64_id (by omega) (by omega)] at this
  omega
theorem row_range {l : List TRel} {a : TFact} (hl : (l.length : Int) ≤ 9223372036854775807) : inR a.1 0 (w64 ((l.length : Int) - 1)) = inR a.1 0 ((l.length : Int) - 1) := by
  rw [w64_id (by omega) (by omega)]
/-- the part that the two programs' tests of rows share -/
theorem row_no1 {ok : Int → Bool} {l : List TRel} {a : TFact} (h : vRels l = false) : ((false, ()) : Bool × Unit) = (vRow ok l a, ()) := by unfold vRow; rw [h]; simp
theorem row_no2 {ok : Int → Bool} {l : List TRel} {a : TFact} (hl : (l.length : Int) ≤ 9223372036854775807) (h : inR a.1 0 (w64 ((l.length : Int) - 1)) = false) : ((false, ()) : Bool × Unit) = (vRow ok l a, ()) := by
  rw [row_range hl] at h; unfold vRow; rw [h]; simp
theorem row_no3 {ok : Int → Bool} {l : List TRel} {a : TFact} (h : (a.2.1.length : Int) ≠ (l.getD (Int.toNat a.1) zRel).2.1) : ((false, ()) : Bool × Unit) = (vRow ok l a, ()) := by
  have : ((a.2.1.length : Int) == arity l a.1) = false := by simpa [arity] using h
  unfold vRow; rw [this]; simp
theorem row_yes {ok : Int → Bool} {l : List TRel} {a : TFact} {b : Bool} (hl : (l.length : Int) ≤ 9223372036854775807) (h1 : vRels l = true) (h2 : inR a.1 0 (w64 ((l.length : Int) - 1)) = true) (h3 : (a.2.1.length : Int) = (l.getD (Int.toNat a.1) zRel).2.1) (hb : b = a.2.1.all ok) : ((b, ()) : Bool × Unit) = (vRow ok l a, ()) := by
  rw [row_range hl] at h2
  have : ((a.2.1.length : Int) == arity l a.1) = true := by simpa [arity] using h3
  unfold vRow; rw [h1, h2, this, hb]; simp
theorem law {x0 : TLoader} {x1 : TLoader} (_ : Bnd (h28) x0) (_ : Bnd (h28) x1) : G_lFnExactEqualLoaders x0 x1 true := M_lFnExactEqualLoaders _ _ _ (by
  unfold S_lFnExactEqualLoaders
  refine ⟨_, g_lszLoader (by omega) (by omega), bc_fits (by omega) (fun _ => rfl) fun h1 => ?_⟩
  try rw [fits_of_ge h1]
  have hB0 : bulk k22 x0 ≤ 1099511627776 := by omega
  refine ⟨_, g_lszLoader (by omega) (by omega), bc_fits (by omega) (fun _ => rfl) fun h2 => ?_⟩
  try rw [fits_of_ge h2]
  have hB1 : bulk k22 x1 ≤ 1099511627776 := by omega
  refine ⟨_, g_ltoLoader (hB0), ?_⟩
  refine ⟨_, g_ltoLoader (hB1), ?_⟩
  refine ⟨_, g_sEqualLoaders, ?_⟩
  refine ⟨_, g_ltoLoader (hB0), ?_⟩
  refine ⟨_, g_ltoLoader (hB1), ?_⟩
  refine ⟨_, g_iEqualLoaders, ?_⟩
  refine bc_nb (fun h => absurd rfl h) fun _ => ?_
  refine ⟨_, g_ltoLoader (hB0), ?_⟩
  refine ⟨_, g_leqLoader, bc_nd (fun h => absurd rfl h) fun _ => ?_⟩
  refine ⟨_, g_ltoLoader (hB1), ?_⟩
  refine ⟨_, g_leqLoader, bc_nd (fun h => absurd rfl h) fun _ => ?_⟩
  rfl)
end Go.V
