/-
  StringDifference: plain facts of the functions that the law reaches.
-/
import Derived.Test.YtclcdjdogjjfnaaAA
import Derived.Test.YtclcdjdogjjfnaaVE
set_option linter.unusedVariables false
set_option linter.unusedSimpArgs false
namespace Go.V
open Go

/- ## the size of a row of strings -/
def szs : Int → List (List UInt8) → Int
  | left, [] => left
  | left, s :: l => if left - (s.length : Int) < 0 then -1 else szs (left - (s.length : Int)) l
theorem szs_cons (left : Int) (s : List UInt8) (l : List (List UInt8)) : szs left (s :: l) = if left - (s.length : Int) < 0 then -1 else szs (left - (s.length : Int)) l := rfl
def sz9 (x : List (List UInt8)) (left : Int) : Int := if left - (x.length : Int) < 0 then -1 else szs (left - (x.length : Int)) x

theorem s9 {x0 : List (List UInt8)} {x1 : Int} (h0 : 0 ≤ x1) (h1 : x1 ≤ 1048576) (hl : x0.length ≤ maxLen) (he : ∀ s ∈ x0, s.length ≤ maxLen) : S9 x0 x1 fun r => r = (sz9 x0 x1, ()) := by
  rw [maxLen_eq] at hl
  unfold S9 sz9
  rw [w64_id (by omega) (by omega)]
  by_cases hlt : x1 - (x0.length : Int) < 0
  · rw [bc_pos hlt, if_pos hlt]
  · rw [bc_neg hlt, if_neg hlt]
    refine loopP_down (fun d (a : Int × Int × Unit) => ∃ i : Nat, i + d = x0.length ∧ a.2.1 = i ∧ 0 ≤ a.1 ∧ a.1 ≤ 1048576 ∧ szs a.1 (x0.drop i) = szs (x1 - (x0.length : Int)) x0) ?_ ?_ (n := x0.length) ⟨0, by omega, rfl, by simp; omega, by simp; omega, by simp⟩
    · rintro ⟨left, j, _⟩ ⟨i, hi, rfl, q1, q2, q3⟩ X
      simp only at q1 q2 q3 ⊢
      rw [bc_neg (by omega)]
      rw [List.drop_of_length_le (by omega)] at q3
      rw [← q3]; rfl
    · rintro d ⟨left, j, _⟩ ⟨i, hi, rfl, q1, q2, q3⟩ X hX
      simp only at q1 q2 q3 ⊢
      have hlt : i < x0.length := by omega
      have hs := he x0[i] (List.getElem_mem hlt)
      rw [maxLen_eq] at hs
      rw [bc_pos (by omega), getD_nat hlt, w64_id (by omega) (by omega), w64_succ (by omega)]
      refine ⟨⟨by omega, by omega⟩, ?_⟩
      rw [drop_cons hlt, szs_cons] at q3
      by_cases hn : left - (x0[i].length : Int) < 0
      · rw [if_pos hn] at q3
        rw [bc_pos hn, ← q3]
      · rw [if_neg hn] at q3
        rw [bc_neg hn]
        exact hX _ ⟨i + 1, by omega, rfl, by simp; omega, by simp; omega, q3⟩

theorem sz9_len {x : List (List UInt8)} {left : Int} (h : 0 ≤ sz9 x left) : (x.length : Int) ≤ left ∧ sz9 x left ≤ left := by
  have key : ∀ (l : List (List UInt8)) (left : Int), 0 ≤ szs left l → szs left l ≤ left := by
    intro l
    induction l with
    | nil => intro left _; exact Int.le_refl _
    | cons s l ih =>
      intro left h
      unfold szs at h ⊢
      split at h
      · omega
      · rename_i hn
        rw [if_neg hn]
        have := ih _ h
        omega
  unfold sz9 at h ⊢
  split at h
  · omega
  · rename_i hn
    rw [if_neg hn]
    have := key _ _ h
    omega

/- ## a row of strings, copied, compared, marked -/
theorem s11 {x0 : List (List UInt8)} (hl : x0.length ≤ 1048576) : S11 x0 fun r => r = (x0, ()) := by
  unfold S11
  refine ⟨⟨by omega, by omega, by unfold maxL; omega⟩, ?_⟩
  refine loopP_of x0.length (fun i => ((i : Int), (x0.take i ++ List.replicate (x0.length - i) [], ()))) (by simp) ?_ ?_
  · intro i hi X hX
    have h2 : i < (x0.take i ++ List.replicate (x0.length - i) ([] : List UInt8)).length := by simp; omega
    simp only
    rw [bc_pos (by omega)]
    refine ⟨⟨by omega, by omega⟩, ⟨by omega, by omega⟩, ?_⟩
    rw [getD_nat hi, set_nat, w64_succ (by omega)]
    have e : (x0.take i ++ List.replicate (x0.length - i) ([] : List UInt8)).set i x0[i] = x0.take (i + 1) ++ List.replicate (x0.length - (i + 1)) [] := by
      rw [List.set_append_right _ _ (by simp; omega), List.length_take, Nat.min_eq_left (by omega), Nat.sub_self]
      rw [show x0.length - i = (x0.length - (i + 1)) + 1 by omega, List.replicate_succ, List.set_cons_zero, List.take_succ_eq_append_getElem hi, List.append_assoc]
      rfl
    show X ((i + 1 : Nat), ((x0.take i ++ List.replicate (x0.length - i) ([] : List UInt8)).set i x0[i], ()))
    rw [e]
    exact hX
  · intro X
    simp only
    rw [bc_neg (by omega)]
    simp

theorem s13 {x0 x1 : List (List UInt8)} (hl : x0.length ≤ 1048576) (hl1 : x1.length ≤ 1048576) : S13 x0 x1 fun r => r = (decide (x0 = x1), ()) := by
  unfold S13
  by_cases he : x0.length = x1.length
  · have : ((x0.length : Int) != (x1.length : Int)) = false := by simp [he]
    rw [bc_false this]
    refine loopP_down (fun d (a : Int × Unit) => ∃ i : Nat, i + d = x0.length ∧ a.1 = i ∧ x0.take i = x1.take i) ?_ ?_ (n := x0.length) ⟨0, by omega, rfl, by simp⟩
    · rintro ⟨j, _⟩ ⟨i, hi, rfl, q⟩ X
      simp only
      rw [bc_neg (by omega)]
      rw [List.take_of_length_le (by omega), List.take_of_length_le (by omega)] at q
      simp [q]
    · rintro d ⟨j, _⟩ ⟨i, hi, rfl, q⟩ X hX
      have h0 : i < x0.length := by omega
      have h1 : i < x1.length := by omega
      simp only
      rw [bc_pos (by omega), getD_nat h0, getD_nat h1, w64_succ (by omega)]
      refine ⟨⟨by omega, by omega⟩, ⟨by omega, by omega⟩, ?_⟩
      by_cases hx : x0[i] = x1[i]
      · rw [bc_false (by simp [hx])]
        refine hX _ ⟨i + 1, by omega, rfl, ?_⟩
        rw [List.take_succ_eq_append_getElem h0, List.take_succ_eq_append_getElem h1, q, hx]
      · rw [bc_true (by simpa using hx)]
        have : x0 ≠ x1 := by rintro rfl; exact hx rfl
        simp [this]
  · have : ((x0.length : Int) != (x1.length : Int)) = true := by simp; omega
    rw [bc_true this]
    have : x0 ≠ x1 := by rintro rfl; exact he rfl
    simp [this]

/-- the difference -/
def diff (x y : List (List UInt8)) : List (List UInt8) := x.filter fun s => !y.contains s

theorem contains_snoc (l : List (List UInt8)) (x s : List UInt8) : (l ++ [x]).contains s = (l.contains s || s == x) := by
  induction l with
  | nil => simp only [List.nil_append, List.contains_cons, List.contains_nil, Bool.or_false, Bool.false_or]
  | cons y l ih => simp only [List.cons_append, List.contains_cons, ih, Bool.or_assoc]
theorem take_filter {p : List UInt8 → Bool} {x : List (List UInt8)} {i : Nat} (h : i < x.length) : (x.take (i + 1)).filter p = (x.take i).filter p ++ (if p x[i] then [x[i]] else []) := by
  rw [List.take_succ_eq_append_getElem h, List.filter_append]
  congr 1
  cases hp : p x[i] <;> simp [hp]

theorem s10 {x0 x1 : List (List UInt8)} (hl : x0.length ≤ 1048576) (hl1 : x1.length ≤ 1048576) : S10 x0 x1 fun r => r = (diff x0 x1, ()) := by
  unfold S10
  refine loopP_of x0.length (fun i => ((i : Int), ((x0.take i).filter (fun s => !x1.contains s), ()))) (by simp) ?_ ?_
  · intro i hi X hX
    simp only
    rw [bc_pos (by omega)]
    refine loopP_of x1.length (fun k => ((x1.take k).contains x0[i], ((k : Int), ()))) (by simp) ?_ ?_
    · intro k hk Y hY
      simp only
      rw [bc_pos (by omega), getD_nat hi, getD_nat hk, w64_succ (by omega)]
      have e : (x1.take (k + 1)).contains x0[i] = ((x1.take k).contains x0[i] || x0[i] == x1[k]) := by
        rw [List.take_succ_eq_append_getElem hk, contains_snoc]
      by_cases hm : (x1.take k).contains x0[i] = true
      · rw [bc_true hm]
        have : Y ((x1.take (k + 1)).contains x0[i], (((k + 1 : Nat) : Int), ())) := hY
        rw [e, hm] at this
        exact this
      · have hm : (x1.take k).contains x0[i] = false := by simpa using hm
        rw [bc_false hm]
        refine ⟨⟨by omega, by omega⟩, ⟨by omega, by omega⟩, ?_⟩
        have : Y ((x1.take (k + 1)).contains x0[i], (((k + 1 : Nat) : Int), ())) := hY
        rw [e, hm, Bool.false_or] at this
        exact this
    · intro Y
      simp only
      rw [bc_neg (by omega), List.take_of_length_le (Nat.le_refl _), getD_nat hi, w64_succ (by omega)]
      have hX : X (((i + 1 : Nat) : Int), ((x0.take (i + 1)).filter (fun s => !x1.contains s), ())) := hX
      rw [take_filter hi] at hX
      by_cases hm : x1.contains x0[i] = true
      · rw [bc_false (by simpa using hm)]
        simp only [hm, Bool.not_true, Bool.false_eq_true, if_false, List.append_nil] at hX
        exact hX
      · have hm : x1.contains x0[i] = false := by simpa using hm
        rw [bc_true (by simpa using hm)]
        refine ⟨⟨by omega, by omega⟩, ?_, ?_⟩
        · have := List.length_filter_le (fun s => !x1.contains s) (x0.take i)
          simp only [List.length_take] at this
          simp only [List.length_cons, List.length_nil]
          unfold maxL; omega
        · simpa only [hm, Bool.not_false, if_true] using hX
  · intro X
    simp only
    rw [bc_neg (by omega), List.take_of_length_le (Nat.le_refl _)]
    rfl

theorem s74 {x0 : List (List UInt8)} {x1 : List UInt8} (hl : x0.length ≤ 1048576) : S74 x0 x1 fun r => r = (if x0.contains x1 then (firstAt (fun s => x1 == s) x0 : Int) else -1, ()) := by
  unfold S74
  have hany : x0.contains x1 = x0.any (fun s => x1 == s) := by
    induction x0 with
    | nil => rfl
    | cons s l ih => simp only [List.contains_cons, List.any_cons]; rw [ih (by simp at hl; omega)]
  rw [hany]
  have hle := firstAt_le (fun s => x1 == s) x0
  refine loopP_of (firstAt (fun s => x1 == s) x0) (fun i => ((i : Int), ())) rfl ?_ ?_
  · intro i hi X hX
    have hlt : i < x0.length := by omega
    simp only
    rw [bc_pos (by omega), getD_nat hlt, w64_succ (by omega)]
    refine ⟨⟨by omega, by omega⟩, ?_⟩
    rw [bc_false (firstAt_lt hlt hi)]
    exact hX
  · intro X
    simp only
    by_cases hlt : firstAt (fun s => x1 == s) x0 < x0.length
    · rw [bc_pos (by omega), getD_nat hlt]
      refine ⟨⟨by omega, by omega⟩, ?_⟩
      rw [bc_true (firstAt_at hlt), if_pos (firstAt_any.mp hlt)]
    · rw [bc_neg (by omega)]
      have : ¬ x0.any (fun s => x1 == s) = true := fun h => hlt (firstAt_any.mpr h)
      rw [if_neg this]

theorem g45 {x0 : List (List UInt8)} {x1 : List UInt8} (hl : x0.length ≤ 1048576) : G45 x0 x1 (x0.contains x1) := by
  refine M45 _ _ _ ⟨_, M74 _ _ _ (s74 hl), ?_⟩
  cases h : x0.contains x1 <;> simp

theorem s12 {x0 x1 : List (List UInt8)} (hl : x0.length ≤ 1048576) (hl1 : x1.length ≤ 1048576) : S12 x0 x1 fun r => r = (diff x0 x1, ()) := by
  unfold S12
  refine loopP_of x0.length (fun i => ((i : Int), ((x0.take i).filter (fun s => !x1.contains s), ()))) (by simp) ?_ ?_
  · intro i hi X hX
    simp only
    rw [bc_pos (by omega), getD_nat hi, w64_succ (by omega)]
    refine ⟨⟨by omega, by omega⟩, _, g45 hl1, ?_⟩
    have hX : X (((i + 1 : Nat) : Int), ((x0.take (i + 1)).filter (fun s => !x1.contains s), ())) := hX
    rw [take_filter hi] at hX
    by_cases hm : x1.contains x0[i] = true
    · rw [bc_false (by simpa using hm)]
      simp only [hm, Bool.not_true, Bool.false_eq_true, if_false, List.append_nil] at hX
      exact hX
    · have hm : x1.contains x0[i] = false := by simpa using hm
      rw [bc_true (by simpa using hm)]
      refine ⟨?_, ?_⟩
      · have := List.length_filter_le (fun s => !x1.contains s) (x0.take i)
        simp only [List.length_take] at this
        simp only [List.length_cons, List.length_nil]
        unfold maxL; omega
      · simpa only [hm, Bool.not_false, if_true] using hX
  · intro X
    simp only
    rw [bc_neg (by omega), List.take_of_length_le (Nat.le_refl _)]
    rfl

/- ## marks -/
def dg : Nat → Int → List UInt8 → List UInt8
  | 0, _, s => s
  | d + 1, k, s => if k > 0 then dg d (Int.tdiv k 10) (bytesOf ([IntKind.u8.wrap (w64 (48 + Int.tmod k 10))] : List Int) ++ s) else s
theorem dg_zero : ∀ (d : Nat) (k : Int) (s : List UInt8), ¬ k > 0 → dg d k s = s
  | 0, _, _, _ => rfl
  | d + 1, k, s, h => by unfold dg; rw [if_neg h]
theorem ex46 {x0 : Int} (h0 : 0 ≤ x0) (h1 : x0 ≤ 9223372036854775807) : ∃ y, G46 x0 y := by
  by_cases hz : x0 ≤ 0
  · exact ⟨_, M46 _ _ (by unfold S46; rw [bc_pos hz])⟩
  · refine ⟨[109] ++ dg 20 x0 [], M46 _ _ ?_⟩
    unfold S46
    rw [bc_neg hz]
    refine loopP_down (fun d (a : Int × List UInt8 × Unit) => 0 ≤ a.1 ∧ a.1 < 10 ^ d ∧ a.1 ≤ 9223372036854775807 ∧ a.2.1.length + d ≤ 100 ∧ dg d a.1 a.2.1 = dg 20 x0 []) ?_ ?_ (n := 20) ⟨h0, by show x0 < 10 ^ 20; omega, h1, by simp, rfl⟩
    · rintro ⟨k, s, _⟩ ⟨q1, q2, q3, q4, q5⟩ X
      simp only at q1 q2 q3 q4 q5 ⊢
      rw [bc_neg (by omega)]
      refine ⟨by simp only [List.length_cons, List.length_nil]; unfold maxL; omega, ?_⟩
      rw [← q5]; rfl
    · rintro d ⟨k, s, _⟩ ⟨q1, q2, q3, q4, q5⟩ X hX
      simp only at q1 q2 q3 q4 q5 ⊢
      by_cases hk : k > 0
      · rw [bc_pos hk]
        have hl : (bytesOf ([IntKind.u8.wrap (w64 ((48 : Int) + (Int.tmod k (10 : Int))))] : List Int)).length = 1 := rfl
        have hdiv : Int.tdiv k 10 = k / 10 := Int.tdiv_eq_ediv_of_nonneg q1
        refine ⟨by decide, by rw [hl]; unfold maxL; omega, by decide, ?_⟩
        rw [w64_id (by rw [hdiv]; omega) (by rw [hdiv]; omega)]
        refine hX _ ⟨by show 0 ≤ Int.tdiv k 10; rw [hdiv]; omega, ?_, by show Int.tdiv k 10 ≤ _; rw [hdiv]; omega, ?_, ?_⟩
        · show Int.tdiv k 10 < 10 ^ d
          rw [hdiv]
          rw [Int.pow_succ] at q2
          omega
        · show (bytesOf _ ++ s).length + d ≤ 100
          rw [List.length_append, hl]; omega
        · unfold dg at q5
          rw [if_pos hk] at q5
          exact q5
      · rw [bc_neg hk]
        refine ⟨by simp only [List.length_cons, List.length_nil]; unfold maxL; omega, ?_⟩
        rw [dg_zero _ _ _ hk] at q5
        rw [← q5]
noncomputable def mt (k : Int) : List UInt8 := if h : 0 ≤ k ∧ k ≤ 9223372036854775807 then Classical.choose (ex46 h.1 h.2) else []
theorem g46 {k : Int} (h0 : 0 ≤ k) (h1 : k ≤ 9223372036854775807) : G46 k (mt k) := by
  unfold mt
  rw [dif_pos ⟨h0, h1⟩]
  exact Classical.choose_spec (ex46 h0 h1)
noncomputable def marks (k : Int) (n : Nat) : List (List UInt8) := (List.range n).map fun j : Nat => mt (k + (j : Int))
theorem marks_succ (k : Int) (n : Nat) : marks k (n + 1) = marks k n ++ [mt (k + (n : Int))] := by simp [marks, List.range_succ]
theorem marks_len (k : Int) (n : Nat) : (marks k n).length = n := by simp [marks]

theorem s14 {x0 : List (List UInt8)} {x1 : Int} (hl : x0.length ≤ 1048576) (h0 : 0 ≤ x1) (h1 : x1 ≤ 2000000) : S14oownz x0 x1 fun r => r = (x1 + (x0.length : Int), (marks x1 x0.length, ())) := by
  unfold S14oownz
  refine loopP_of x0.length (fun i => (x1 + (i : Int), ((i : Int), (marks x1 i ++ x0.drop i, ())))) (by simp [marks]) ?_ ?_
  · intro i hi X hX
    simp only
    have hlen : (marks x1 i ++ x0.drop i).length = x0.length := by rw [List.length_append, marks_len, List.length_drop]; omega
    rw [hlen, bc_pos (by omega)]
    refine ⟨_, g46 (by omega) (by omega), ⟨by omega, by omega⟩, ?_⟩
    rw [w64_succ (by omega), w64_id (by omega) (by omega), set_nat]
    have e : (marks x1 i ++ x0.drop i).set i (mt (x1 + (i : Int))) = marks x1 (i + 1) ++ x0.drop (i + 1) := by
      rw [List.set_append_right _ _ (by rw [marks_len]; exact Nat.le_refl _), marks_len, Nat.sub_self, drop_cons hi, List.set_cons_zero, marks_succ, List.append_assoc]
      rfl
    rw [e, show x1 + (i : Int) + 1 = x1 + ((i + 1 : Nat) : Int) by omega]
    exact hX
  · intro X
    simp only
    have hlen : (marks x1 x0.length ++ x0.drop x0.length).length = x0.length := by rw [List.length_append, marks_len, List.length_drop]; omega
    rw [hlen, bc_neg (by omega), List.drop_length, List.append_nil]

theorem s15 {x1 : Int} {n : Nat} (hl : n ≤ 1048576) (h0 : 0 ≤ x1) (h1 : x1 ≤ 2000000) : S15 (marks x1 n) x1 fun r => r = (x1 + (n : Int), ()) := by
  unfold S15
  refine loopP_of n (fun i => (x1 + (i : Int), ((i : Int), ()))) (by simp) ?_ ?_
  · intro i hi X hX
    have hi' : i < (marks x1 n).length := by rw [marks_len]; exact hi
    simp only
    rw [bc_pos (by omega), getD_nat hi']
    refine ⟨⟨by omega, by omega⟩, _, g46 (by omega) (by omega), ?_⟩
    have e : (marks x1 n)[i] = mt (x1 + (i : Int)) := by simp [marks]
    rw [e, bc_false (by simp), w64_succ (by omega), w64_id (by omega) (by omega), show x1 + (i : Int) + 1 = x1 + ((i + 1 : Nat) : Int) by omega]
    exact hX
  · intro X
    simp only
    rw [marks_len, bc_neg (by omega)]
    trivial

/- ## the law -/
theorem diff_len (x y : List (List UInt8)) : (diff x y).length ≤ x.length := List.length_filter_le _ _
theorem law {x0 x1 : List (List UInt8)} (hl : x0.length ≤ maxLen) (he : ∀ s ∈ x0, s.length ≤ maxLen) (hl1 : x1.length ≤ maxLen) (he1 : ∀ s ∈ x1, s.length ≤ maxLen) : G3 x0 x1 true := by
  refine M3 _ _ _ ?_
  refine ⟨_, M9 _ _ _ (s9 (by omega) (by omega) hl he), ?_⟩
  by_cases h0 : sz9 x0 1048576 < 0
  · rw [bc_pos h0]
  rw [bc_neg h0]
  obtain ⟨a1, a2⟩ := sz9_len (show 0 ≤ sz9 x0 1048576 by omega)
  refine ⟨_, M9 _ _ _ (s9 (by omega) (by omega) hl1 he1), ?_⟩
  by_cases h1 : sz9 x1 (sz9 x0 1048576) < 0
  · rw [bc_pos h1]
  rw [bc_neg h1]
  obtain ⟨b1, b2⟩ := sz9_len (show 0 ≤ sz9 x1 (sz9 x0 1048576) by omega)
  have l0 : x0.length ≤ 1048576 := by omega
  have l1 : x1.length ≤ 1048576 := by omega
  have ld : (diff x0 x1).length ≤ 1048576 := Nat.le_trans (diff_len _ _) l0
  have c0 := M11 x0 _ (s11 l0)
  have c1 := M11 x1 _ (s11 l1)
  have eq : ∀ {x y : List (List UInt8)}, x.length ≤ 1048576 → y.length ≤ 1048576 → G13 x y (decide (x = y)) := fun h h' => M13 _ _ _ (s13 h h')
  have yes : ∀ {x : List (List UInt8)} {A B : Prop}, B → bcase (!decide (x = x)) A B := fun h => by simpa [bcase] using h
  refine ⟨_, c0, _, c1, _, M10 _ _ _ (s10 l0 l1), _, c0, _, c1, _, M12 _ _ _ (s12 l0 l1), _, eq ld ld, yes ?_⟩
  refine ⟨_, c0, _, eq l0 l0, yes ?_⟩
  refine ⟨_, c1, _, eq l1 l1, yes ?_⟩
  refine ⟨_, _, M14oownz _ _ _ _ (s14 l0 (by omega) (by omega)), _, _, M14oownz _ _ _ _ (s14 l1 (by omega) (by omega)), ?_⟩
  rw [bc_neg (by omega)]
  refine ⟨_, eq ld ld, yes ?_⟩
  have hh := M15 _ _ _ (s15 ld (show (0 : Int) ≤ 1 by omega) (by omega))
  refine ⟨_, _, M14oownz _ _ _ _ (s14 ld (by omega) (by omega)), _, hh, ?_⟩
  rw [bc_neg (by omega), bc_false (by simp)]
  refine ⟨_, c0, _, c1, _, M12 _ _ _ (s12 l0 l1), _, eq ld ld, yes ?_⟩
  refine ⟨_, hh, ?_⟩
  rw [bc_neg (by omega), bc_false (by simp)]
end Go.V
