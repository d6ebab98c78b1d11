/-
  UnifyAtoms: plain facts of the functions that the law reaches.
-/
import Derived.Test.YtclcdjdogjjfnaaBA
set_option linter.unusedVariables false
set_option linter.unusedSimpArgs false
namespace Go.V
open Go

/- ## a forest of ten places -/
def Uf (p : List Int) : Prop := p.length = 10 ∧ ∀ i (h : i < p.length), -10 ≤ p[i] ∧ p[i] ≤ (i : Int)
def fnd : Nat → List Int → Int → Int
  | 0, _, a => a
  | d + 1, p, a => if a ≥ 0 then (if p.getD (Int.toNat a) (0 : Int) = a then a else fnd d p (p.getD (Int.toNat a) (0 : Int))) else a
theorem uf_at {p : List Int} (h : Uf p) {a : Int} (h0 : 0 ≤ a) (h1 : a ≤ 9) : -10 ≤ p.getD (Int.toNat a) (0 : Int) ∧ p.getD (Int.toNat a) (0 : Int) ≤ a := by
  obtain ⟨i, rfl⟩ : ∃ i : Nat, a = (i : Int) := ⟨a.toNat, by omega⟩
  have hi : i < p.length := by have := h.1; omega
  rw [getD_nat hi]
  exact h.2 i hi
theorem fnd_le {p : List Int} (h : Uf p) : ∀ (d : Nat) (a : Int), -10 ≤ a → a ≤ 9 → -10 ≤ fnd d p a ∧ fnd d p a ≤ a
  | 0, a, h0, h1 => ⟨h0, Int.le_refl _⟩
  | d + 1, a, h0, h1 => by
    unfold fnd
    split
    · rename_i ha
      split
      · exact ⟨h0, Int.le_refl _⟩
      · have hp := uf_at h (by omega) h1
        have := fnd_le h d (p.getD (Int.toNat a) (0 : Int)) hp.1 (by omega)
        exact ⟨this.1, by omega⟩
    · exact ⟨h0, Int.le_refl _⟩
theorem find {p : List Int} {x : Int} (h : Uf p) (h0 : -10 ≤ x) (h1 : x ≤ 9) {K : Int × Unit → Prop} (hK : K (fnd 12 p x, ())) :
    LoopP (fun (again2 : Int × Unit → Prop) (a1 : Int × Unit) => bcase (decide (a1.1 ≥ (0 : Int))) ((0 ≤ a1.1 ∧ a1.1 < (List.length p : Int)) ∧ (bcase ((p.getD (Int.toNat a1.1) (0 : Int)) != a1.1) ((0 ≤ a1.1 ∧ a1.1 < (List.length p : Int)) ∧ (again2 (p.getD (Int.toNat a1.1) (0 : Int), ()))) (K (a1.1, ())))) (K (a1.1, ()))) (x, ()) := by
  have hl := h.1
  refine loopP_down (fun d (a : Int × Unit) => -10 ≤ a.1 ∧ a.1 ≤ 9 ∧ a.1 < (d : Int) ∧ K (fnd d p a.1, ())) ?_ ?_ (n := 12) ⟨h0, h1, by show x < 12; omega, hK⟩
  · rintro ⟨a, _⟩ ⟨q0, q1, q2, q3⟩ X
    simp only at q0 q1 q2 q3 ⊢
    rw [bc_neg (by omega)]
    exact q3
  · rintro d ⟨a, _⟩ ⟨q0, q1, q2, q3⟩ X hX
    simp only at q0 q1 q2 q3 ⊢
    unfold fnd at q3
    by_cases ha : a ≥ 0
    · rw [bc_pos ha]
      rw [if_pos ha] at q3
      have hp := uf_at h ha q1
      refine ⟨⟨by omega, by omega⟩, bc_ne (fun hne => ⟨⟨by omega, by omega⟩, ?_⟩) (fun he => ?_)⟩
      · rw [if_neg hne] at q3
        exact hX _ ⟨hp.1, by show p.getD (Int.toNat a) (0 : Int) ≤ 9; omega, by show p.getD (Int.toNat a) (0 : Int) < d; omega, q3⟩
      · rw [if_pos he] at q3
        exact q3
    · rw [bc_neg ha]
      rw [if_neg ha] at q3
      exact q3
theorem g49 {p : List Int} {x : Int} (h : Uf p) (h0 : -10 ≤ x) (h1 : x ≤ 9) : G49 p x (fnd 12 p x) := M49 _ _ _ (by unfold S49; exact find (K := fun r => r = (fnd 12 p x, ())) h h0 h1 rfl)
theorem g53 {p : List Int} {x : Int} (h : Uf p) (h0 : -10 ≤ x) (h1 : x ≤ 9) : G53 p x (fnd 12 p x) := M53 _ _ _ (by unfold S53; exact find (K := fun r => r = (fnd 12 p x, ())) h h0 h1 rfl)
theorem uf_set {p : List Int} (h : Uf p) {i v : Int} (h0 : 0 ≤ i) (h1 : i ≤ 9) (hv : -10 ≤ v) (hi : v ≤ i) : Uf (p.set (Int.toNat i) v) := by
  refine ⟨by rw [List.length_set]; exact h.1, ?_⟩
  intro j hj
  rw [List.getElem_set]
  split
  · exact ⟨hv, by omega⟩
  · exact h.2 j (by rw [List.length_set] at hj; exact hj)

def inr (x : Int) : Bool := decide (-10 ≤ x) && decide (x ≤ 4)
theorem inr_iff {x : Int} : inr x = true ↔ -10 ≤ x ∧ x ≤ 4 := by simp [inr]
theorem g48 {x : Int} : G48 x (-10) 4 (inr x) := by
  refine M48 _ _ _ _ ?_
  unfold S48 inr
  by_cases h : x ≥ -10
  · rw [bc_pos h, decide_eq_true (show -10 ≤ x from h)]; rfl
  · rw [bc_neg h, decide_eq_false (show ¬ -10 ≤ x from h)]; rfl
theorem g52 {x : Int} : G52 x (-10) 4 (inr x) := by
  refine M52 _ _ _ _ ?_
  unfold S52 inr
  by_cases h : -10 ≤ x
  · rw [bc_pos h, decide_eq_true h]; rfl
  · rw [bc_neg h, decide_eq_false h]; rfl
theorem g51 {x : Int} : G51 x (inr x) := M51 _ _ ⟨_, g52, rfl⟩
def mv (b : Int) : Int := if b ≥ 0 then b + 5 else b
theorem g54 {b : Int} (h1 : b ≤ 4) : G54 b (mv b) := by
  refine M54 _ _ ?_
  unfold S54 mv
  by_cases h : b ≥ 0
  · rw [bc_pos h, if_pos h, w64_id (by omega) (by omega)]
  · rw [bc_neg h, if_neg h]
theorem mv_le {b : Int} (h0 : -10 ≤ b) (h1 : b ≤ 4) : -10 ≤ mv b ∧ mv b ≤ 9 := by
  unfold mv
  split <;> omega

def un (p : List Int) (a b : Int) : Option (List Int) :=
  let l := fnd 12 p a
  let r := fnd 12 p (mv b)
  if l = r then some p else if l < 0 ∧ r < 0 then none else some (p.set (Int.toNat (maxI l r)) (minI l r))
def nrm : Nat → Nat → List Int → List Int
  | 0, _, p => p
  | d + 1, i, p => nrm d (i + 1) (p.set i (fnd 12 p i))
def run : List (Int × Int) → List Int → List Int × Bool
  | [], p => (nrm 10 0 p, true)
  | (a, b) :: z, p => if (inr a && inr b) = true then (match un p a b with | none => ([], false) | some q => run z q) else ([], false)
theorem run_bad : ∀ (z : List (Int × Int)) (p : List Int) (c : Int × Int), c ∈ z → (inr c.1 && inr c.2) = false → run z p = ([], false)
  | [], _, _, h, _ => by cases h
  | (a, b) :: z, p, c, h, hc => by
    unfold run
    split
    · rename_i hab
      split
      · rfl
      · rcases List.mem_cons.mp h with rfl | h
        · rw [hc] at hab; cases hab
        · exact run_bad z _ c h hc
    · rfl
theorem norm {p : List Int} (h : Uf p) {G : List Int → Int → Int → Prop} (hG : ∀ {p : List Int} {x : Int}, Uf p → -10 ≤ x → x ≤ 9 → G p x (fnd 12 p x)) {K : List Int × Bool × Unit → Prop} (hK : K (nrm 10 0 p, (true, ()))) (f : List Int → List Int) (hf : ∀ p, Uf p → (f p).length = 10) :
    LoopP (fun (again11 : Int × (List Int) × Unit → Prop) (a10 : Int × (List Int) × Unit) => bcase (decide (a10.1 < (List.length (f a10.2.1) : Int))) (∃ y12 : Int, G a10.2.1 a10.1 y12 ∧ ((0 ≤ a10.1 ∧ a10.1 < (List.length a10.2.1 : Int)) ∧ (again11 (w64 (a10.1 + (1 : Int)), (a10.2.1.set (Int.toNat a10.1) y12, ()))))) (K (a10.2.1, (true, ())))) ((0 : Int), (p, ())) := by
  refine loopP_down (fun d (a : Int × List Int × Unit) => ∃ i : Nat, i + d = 10 ∧ a.1 = i ∧ Uf a.2.1 ∧ K (nrm d i a.2.1, (true, ()))) ?_ ?_ (n := 10) ⟨0, rfl, rfl, h, hK⟩
  · rintro ⟨j, p, _⟩ ⟨i, hi, rfl, q1, q2⟩ X
    simp only at q1 q2 ⊢
    have := hf p q1
    rw [bc_neg (by omega)]
    exact q2
  · rintro d ⟨j, p, _⟩ ⟨i, hi, rfl, q1, q2⟩ X hX
    simp only at q1 q2 ⊢
    have := hf p q1
    have hl := q1.1
    have hp := fnd_le q1 12 (i : Int) (by omega) (by omega)
    rw [bc_pos (by omega)]
    refine ⟨_, hG q1 (by omega) (by omega), ⟨by omega, by omega⟩, ?_⟩
    rw [w64_succ (by omega), set_nat]
    have hu := uf_set q1 (i := (i : Int)) (v := fnd 12 p i) (by omega) (by omega) hp.1 hp.2
    rw [Int.toNat_natCast] at hu
    exact hX _ ⟨i + 1, by omega, rfl, hu, q2⟩
def start : List Int := [0, 1, 2, 3, 4, 5, 6, 7, 8, 9]
theorem start_uf : Uf start := ⟨rfl, by decide⟩
theorem start_step {i : Nat} (hi : i < 10) {X : Int × List Int × Unit → Prop} {F : Prop} (hX : X (((i + 1 : Nat) : Int), (start.take (i + 1), ()))) : bcase (decide ((i : Int) < (10 : Int))) ((start.take i).length + ([(i : Int)] : List Int).length ≤ maxL ∧ (X (w64 ((i : Int) + (1 : Int)), (start.take i ++ ([(i : Int)] : List Int), ())))) F := by
  have h2 : i < start.length := hi
  rw [bc_pos (by omega), w64_succ (by omega)]
  have e : start[i] = (i : Int) := by
    match i, hi with
    | 0, _ | 1, _ | 2, _ | 3, _ | 4, _ | 5, _ | 6, _ | 7, _ | 8, _ | 9, _ => rfl
  rw [take_succ_snoc h2, e] at hX
  refine ⟨?_, hX⟩
  simp only [List.length_take, List.length_cons, List.length_nil]
  unfold maxL; omega

theorem un_uf {p q : List Int} {a b : Int} (h : Uf p) (ha : inr a = true) (hb : inr b = true) (e : un p a b = some q) : Uf q := by
  rw [inr_iff] at ha hb
  have hm := mv_le hb.1 hb.2
  have h1 := fnd_le h 12 a (by omega) (by omega)
  have h2 := fnd_le h 12 (mv b) (by omega) (by omega)
  unfold un at e
  simp only at e
  split at e
  · cases e; exact h
  · split at e
    · cases e
    · cases e
      unfold maxI minI
      refine uf_set h ?_ ?_ ?_ ?_ <;> repeat' split
      all_goals omega
/-- one pair: where the forest is kept, joined or given up -/
theorem un_step {p : List Int} {a b : Int} (h : Uf p) (ha : inr a = true) (hb : inr b = true) {F : Prop} {A : List Int → Prop} (hs : match un p a b with | none => F | some q => A q) {l r : Int} (el : l = fnd 12 p a) (er : r = fnd 12 p (mv b)) :
    (l = r → A p) ∧ (l ≠ r → l < 0 → r < 0 → F) ∧ (l ≠ r → ¬ (l < 0 ∧ r < 0) → (0 ≤ maxI l r ∧ maxI l r < (List.length p : Int)) ∧ A (p.set (Int.toNat (maxI l r)) (minI l r))) := by
  subst el; subst er
  rw [inr_iff] at ha hb
  have hm := mv_le hb.1 hb.2
  have h1 := fnd_le h 12 a (by omega) (by omega)
  have h2 := fnd_le h 12 (mv b) (by omega) (by omega)
  have hl := h.1
  unfold un at hs
  simp only at hs
  refine ⟨fun e => ?_, fun e n1 n2 => ?_, fun e n => ?_⟩
  · rw [if_pos e] at hs; exact hs
  · rw [if_neg e, if_pos ⟨n1, n2⟩] at hs; exact hs
  · rw [if_neg e, if_neg n] at hs
    refine ⟨?_, hs⟩
    unfold maxI
    split <;> omega
theorem run_cons {a b : Int} {z : List (Int × Int)} {p : List Int} {A : List Int × Bool → Prop} (h : A (run ((a, b) :: z) p)) (ha : inr a = true) (hb : inr b = true) : match un p a b with | none => A ([], false) | some q => A (run z q) := by
  unfold run at h
  rw [ha, hb] at h
  simp only [Bool.and_self, if_true] at h
  cases e : un p a b with
  | none => rw [e] at h; exact h
  | some q => rw [e] at h; exact h

abbrev At := Int × List Int × Unit
def res (x0 x1 : At) : List Int × Bool := if x0.1 = x1.1 then (if x0.2.1.length = x1.2.1.length then run (x0.2.1.zip x1.2.1) start else ([], false)) else ([], false)

theorem l17 {x0 x1 : At} (hl : x0.2.1.length ≤ 1099511627776) {K : List Int × Bool × Unit → Prop} (hK : K ((res x0 x1).1, ((res x0 x1).2, ()))) : S17 x0 x1 K := by
  unfold S17
  refine loopP_of 10 (fun i => ((i : Int), (start.take i, ()))) rfl (fun i hi X hX => start_step hi hX) ?_
  intro X
  simp only
  rw [bc_neg (by omega), show start.take 10 = start from rfl]
  unfold res at hK
  refine bc_ne (fun he => ?_) (fun he => ?_)
  · rw [if_neg he] at hK; exact hK
  rw [if_pos he] at hK
  by_cases hn : x0.2.1.length = x1.2.1.length
  rotate_left
  · rw [if_neg hn] at hK
    exact bc_ne (fun _ => hK) (fun h => absurd h (by omega))
  rw [if_pos hn] at hK
  refine bc_ne (fun h => absurd (congrArg Nat.cast hn) h) (fun _ => ?_)
  have hz : (x0.2.1.zip x1.2.1).length = x0.2.1.length := by rw [List.length_zip]; omega
  refine loopP_down (fun d (a : Int × List Int × Unit) => ∃ i : Nat, i + d = x0.2.1.length ∧ a.1 = i ∧ Uf a.2.1 ∧ K ((run ((x0.2.1.zip x1.2.1).drop i) a.2.1).1, ((run ((x0.2.1.zip x1.2.1).drop i) a.2.1).2, ()))) ?_ ?_ (n := x0.2.1.length) ⟨0, by omega, rfl, start_uf, hK⟩
  · rintro ⟨j, p, _⟩ ⟨i, hi, rfl, q1, q2⟩ X
    simp only at q1 q2 ⊢
    rw [bc_neg (by omega)]
    rw [List.drop_of_length_le (by omega)] at q2
    exact norm (K := K) (G := G49) q1 g49 q2 id (fun p h => h.1)
  · rintro d ⟨j, p, _⟩ ⟨i, hi, rfl, q1, q2⟩ X hX
    simp only at q1 q2 ⊢
    have h0 : i < x0.2.1.length := by omega
    have h1 : i < x1.2.1.length := by omega
    have h2 : i < (x0.2.1.zip x1.2.1).length := by omega
    have hl0 := q1.1
    rw [bc_pos (by omega), getD_nat h0, getD_nat h1, w64_succ (by omega)]
    rw [drop_cons h2, List.getElem_zip] at q2
    refine ⟨⟨by omega, by omega⟩, _, g48, ?_⟩
    by_cases ha : inr x0.2.1[i] = true
    rotate_left
    · rw [bc_true (by simpa using ha)]
      unfold run at q2
      rw [if_neg (by simp [ha])] at q2
      exact q2
    rw [bc_false (by simp [ha])]
    refine ⟨⟨by omega, by omega⟩, _, g48, ?_⟩
    by_cases hb : inr x1.2.1[i] = true
    rotate_left
    · rw [bc_true (by simpa using hb)]
      unfold run at q2
      rw [if_neg (by simp [hb])] at q2
      exact q2
    rw [bc_false (by simp [hb])]
    have q3 := run_cons (A := fun R => K (R.1, (R.2, ()))) q2 ha hb
    have q4 : match un p x0.2.1[i] x1.2.1[i] with | none => K ([], (false, ())) | some q => X (((i + 1 : Nat) : Int), (q, ())) := by
      cases e : un p x0.2.1[i] x1.2.1[i] with
      | none => rw [e] at q3; exact q3
      | some q => rw [e] at q3; exact hX _ ⟨i + 1, by omega, rfl, un_uf q1 ha hb e, q3⟩
    have ia := inr_iff.mp ha
    have ib := inr_iff.mp hb
    refine ⟨⟨by omega, by omega⟩, _, g49 q1 (by omega) (by omega), ⟨by omega, by omega⟩, ?_⟩
    have fin : ∀ r, r = fnd 12 p (mv x1.2.1[i]) → bcase (decide (fnd 12 p x0.2.1[i] < (0 : Int))) (bcase (decide (r < (0 : Int))) (bcase (fnd 12 p x0.2.1[i] != r) (K (([] : List Int), (false, ()))) (bcase (fnd 12 p x0.2.1[i] != r) ((0 ≤ (maxI (fnd 12 p x0.2.1[i]) r) ∧ (maxI (fnd 12 p x0.2.1[i]) r) < (List.length p : Int)) ∧ (X (((i + 1 : Nat) : Int), (p.set (Int.toNat (maxI (fnd 12 p x0.2.1[i]) r)) (minI (fnd 12 p x0.2.1[i]) r), ())))) (X (((i + 1 : Nat) : Int), (p, ()))))) (bcase (fnd 12 p x0.2.1[i] != r) ((0 ≤ (maxI (fnd 12 p x0.2.1[i]) r) ∧ (maxI (fnd 12 p x0.2.1[i]) r) < (List.length p : Int)) ∧ (X (((i + 1 : Nat) : Int), (p.set (Int.toNat (maxI (fnd 12 p x0.2.1[i]) r)) (minI (fnd 12 p x0.2.1[i]) r), ())))) (X (((i + 1 : Nat) : Int), (p, ()))))) (bcase (fnd 12 p x0.2.1[i] != r) ((0 ≤ (maxI (fnd 12 p x0.2.1[i]) r) ∧ (maxI (fnd 12 p x0.2.1[i]) r) < (List.length p : Int)) ∧ (X (((i + 1 : Nat) : Int), (p.set (Int.toNat (maxI (fnd 12 p x0.2.1[i]) r)) (minI (fnd 12 p x0.2.1[i]) r), ())))) (X (((i + 1 : Nat) : Int), (p, ())))) := by
      intro r er
      obtain ⟨s1, s2, s3⟩ := un_step q1 ha hb q4 rfl er
      by_cases n1 : fnd 12 p x0.2.1[i] < 0
      · rw [bc_pos n1]
        by_cases n2 : r < 0
        · rw [bc_pos n2]
          exact bc_ne (fun h => s2 h n1 n2) (fun h => bc_ne (fun h' => absurd h h') (fun _ => s1 h))
        · rw [bc_neg n2]
          exact bc_ne (fun h => s3 h (by omega)) s1
      · rw [bc_neg n1]
        exact bc_ne (fun h => s3 h (by omega)) s1
    by_cases hb0 : x1.2.1[i] ≥ 0
    · rw [bc_pos hb0]
      have em : mv x1.2.1[i] = x1.2.1[i] + 5 := by unfold mv; rw [if_pos hb0]
      rw [w64_id (by omega) (by omega)]
      exact ⟨_, g49 q1 (by omega) (by omega), fin _ (by rw [em])⟩
    · rw [bc_neg hb0]
      have em : mv x1.2.1[i] = x1.2.1[i] := by unfold mv; rw [if_neg hb0]
      exact ⟨_, g49 q1 (by omega) (by omega), fin _ (by rw [em])⟩

theorem g17 {x0 x1 : At} (hl : x0.2.1.length ≤ 1099511627776) : G17 x0 x1 (res x0 x1).1 (res x0 x1).2 := M17 _ _ _ _ (l17 hl rfl)
theorem l19 {x0 x1 : At} (hl : x0.2.1.length ≤ 1099511627776) {K : List Int × Bool × Unit → Prop} (hK : K ((res x0 x1).1, ((res x0 x1).2, ()))) : S19 x0 x1 K := by
  unfold S19
  unfold res at hK
  refine bc_ne (fun he => ?_) (fun he => ?_)
  · rw [if_neg he] at hK; exact hK
  rw [if_pos he] at hK
  by_cases hn : x0.2.1.length = x1.2.1.length
  rotate_left
  · rw [if_neg hn] at hK
    exact bc_ne (fun _ => hK) (fun h => absurd h (by omega))
  rw [if_pos hn] at hK
  refine bc_ne (fun h => absurd (congrArg Nat.cast hn) h) (fun _ => ?_)
  have hz : (x0.2.1.zip x1.2.1).length = x0.2.1.length := by rw [List.length_zip]; omega
  refine loopP_of 10 (fun i => ((i : Int), (start.take i, ()))) rfl (fun i hi X hX => start_step hi hX) ?_
  intro X
  simp only
  rw [bc_neg (by omega), show start.take 10 = start from rfl]
  -- all in their range?
  refine loopP_down (fun d (a : Int × Unit) => ∃ i : Nat, i + d = x0.2.1.length ∧ a.1 = i ∧ ∀ j (h0 : j < x0.2.1.length) (h1 : j < x1.2.1.length), j < i → inr x0.2.1[j] = true ∧ inr x1.2.1[j] = true) ?_ ?_ (n := x0.2.1.length) ⟨0, by omega, rfl, fun j _ _ h => absurd h (by omega)⟩
  rotate_left
  · rintro d ⟨j, _⟩ ⟨i, hi, rfl, q⟩ X hX
    simp only
    have h0 : i < x0.2.1.length := by omega
    have h1 : i < x1.2.1.length := by omega
    have h2 : i < (x0.2.1.zip x1.2.1).length := by omega
    have hm : (x0.2.1[i], x1.2.1[i]) ∈ x0.2.1.zip x1.2.1 := by
      have := List.getElem_mem h2
      rw [List.getElem_zip] at this
      exact this
    rw [bc_pos (by omega), getD_nat h0, getD_nat h1, w64_succ (by omega)]
    refine ⟨⟨by omega, by omega⟩, _, g51, ?_⟩
    by_cases ha : inr x0.2.1[i] = true
    rotate_left
    · rw [bc_true (by simpa using ha)]
      rw [run_bad _ _ _ hm (by simp [ha])] at hK
      exact hK
    rw [bc_false (by simp [ha])]
    refine ⟨⟨by omega, by omega⟩, _, g51, ?_⟩
    by_cases hb : inr x1.2.1[i] = true
    rotate_left
    · rw [bc_true (by simpa using hb)]
      rw [run_bad _ _ _ hm (by simp [hb])] at hK
      exact hK
    rw [bc_false (by simp [hb])]
    refine hX _ ⟨i + 1, by omega, rfl, ?_⟩
    intro j k0 k1 hj
    by_cases e : j = i
    · subst e; exact ⟨ha, hb⟩
    · exact q j k0 k1 (by omega)
  rintro ⟨j, _⟩ ⟨i, hi, rfl, q⟩ X
  simp only
  rw [bc_neg (by omega)]
  refine loopP_down (fun d (a : Int × List Int × Unit) => ∃ i : Nat, i + d = x0.2.1.length ∧ a.1 = i ∧ Uf a.2.1 ∧ K ((run ((x0.2.1.zip x1.2.1).drop i) a.2.1).1, ((run ((x0.2.1.zip x1.2.1).drop i) a.2.1).2, ()))) ?_ ?_ (n := x0.2.1.length) ⟨0, by omega, rfl, start_uf, hK⟩
  · rintro ⟨j, p, _⟩ ⟨i, hi, rfl, q1, q2⟩ X
    simp only at q1 q2 ⊢
    rw [bc_neg (by omega)]
    rw [List.drop_of_length_le (by omega)] at q2
    exact norm (K := K) (G := G53) q1 g53 q2 (fun _ => p) (fun _ _ => q1.1)
  · rintro d ⟨j, p, _⟩ ⟨i, hi, rfl, q1, q2⟩ X hX
    simp only at q1 q2 ⊢
    have h0 : i < x0.2.1.length := by omega
    have h1 : i < x1.2.1.length := by omega
    have h2 : i < (x0.2.1.zip x1.2.1).length := by omega
    obtain ⟨ha, hb⟩ := q i h0 h1 (by omega)
    rw [bc_pos (by omega), getD_nat h0, getD_nat h1, w64_succ (by omega)]
    rw [drop_cons h2, List.getElem_zip] at q2
    have q3 := run_cons (A := fun R => K (R.1, (R.2, ()))) q2 ha hb
    have q4 : match un p x0.2.1[i] x1.2.1[i] with | none => K ([], (false, ())) | some q => X (((i + 1 : Nat) : Int), (q, ())) := by
      cases e : un p x0.2.1[i] x1.2.1[i] with
      | none => rw [e] at q3; exact q3
      | some q => rw [e] at q3; exact hX _ ⟨i + 1, by omega, rfl, un_uf q1 ha hb e, q3⟩
    have ia := inr_iff.mp ha
    have ib := inr_iff.mp hb
    have hm := mv_le ib.1 ib.2
    refine ⟨⟨by omega, by omega⟩, ⟨by omega, by omega⟩, _, g53 q1 (by omega) (by omega), _, g54 ib.2, _, g53 q1 hm.1 hm.2, ?_⟩
    obtain ⟨s1, s2, s3⟩ := un_step q1 ha hb q4 rfl rfl
    by_cases e : fnd 12 p x0.2.1[i] = fnd 12 p (mv x1.2.1[i])
    · rw [bc_true (by simpa using e)]
      exact s1 e
    rw [bc_false (by simpa using e)]
    by_cases n1 : fnd 12 p x0.2.1[i] < 0
    · rw [bc_pos n1]
      by_cases n2 : fnd 12 p (mv x1.2.1[i]) < 0
      · rw [bc_pos n2]; exact s2 e n1 n2
      · rw [bc_neg n2]; exact s3 e (by omega)
    · rw [bc_neg n1]; exact s3 e (by omega)
theorem g19 {x0 x1 : At} (hl : x0.2.1.length ≤ 1099511627776) : G19 x0 x1 (res x0 x1).1 (res x0 x1).2 := M19 _ _ _ _ (l19 hl rfl)
theorem un_len {p q : List Int} {a b : Int} (e : un p a b = some q) : q.length = p.length := by
  unfold un at e
  simp only at e
  split at e
  · cases e; rfl
  · split at e
    · cases e
    · cases e; rw [List.length_set]
theorem nrm_len : ∀ (d i : Nat) (p : List Int), (nrm d i p).length = p.length
  | 0, _, _ => rfl
  | d + 1, i, p => by unfold nrm; rw [nrm_len d, List.length_set]
theorem run_len : ∀ (z : List (Int × Int)) (p : List Int), (run z p).1.length ≤ p.length
  | [], p => by unfold run; rw [nrm_len]; exact Nat.le_refl _
  | (a, b) :: z, p => by
    unfold run
    split
    · split
      · exact Nat.zero_le _
      · rename_i e
        rw [← un_len e]
        exact run_len z _
    · exact Nat.zero_le _
theorem res_len (x0 x1 : At) : (res x0 x1).1.length ≤ 10 := by
  unfold res
  split
  · split
    · exact run_len _ _
    · exact Nat.zero_le _
  · exact Nat.zero_le _

theorem law {x0 x1 : At} (hb0 : Bnd k2 x0) (hb1 : Bnd k2 x1) : G4 x0 x1 true := by
  refine M4 _ _ _ ?_
  refine ⟨_, g16 (by omega) (by omega) hb0, ?_⟩
  refine bc_fits (by omega) (fun _ => rfl) fun h0 => ?_
  rw [fits_of_ge h0]
  refine ⟨_, g16 (by omega) (by omega) hb1, ?_⟩
  refine bc_fits (by omega) (fun _ => rfl) fun h1 => ?_
  have B0 : bulk k2 x0 ≤ 1099511627776 := by omega
  have B1 : bulk k2 x1 ≤ 1099511627776 := by omega
  have e0 : bulk k2 x0 = (0 + (bulk k0 x0.2.1 + 0)) := rfl
  have e1 : bulk k2 x1 = (0 + (bulk k0 x1.2.1 + 0)) := rfl
  have f0 : bulk k0 x0.2.1 = x0.2.1.length := bulk_flat fun _ => rfl
  have f1 : bulk k0 x1.2.1 = x1.2.1.length := bulk_flat fun _ => rfl
  have w0 := wt_le k2 x0
  have w1 := wt_le k2 x1
  have hs : scal k2 = 2 := rfl
  rw [hs] at w0 w1
  have v0 : wt k2 x0 = (1 + (wt k0 x0.2.1 + 0)) := rfl
  have v1 : wt k2 x1 = (1 + (wt k0 x1.2.1 + 0)) := rfl
  have hr := res_len x0 x1
  have fr : bulk k0 (res x0 x1).1 = (res x0 x1).1.length := bulk_flat fun _ => rfl
  have wr := wt_le k0 (res x0 x1).1
  have hs0 : scal k0 = 1 := rfl
  rw [hs0] at wr
  have yes : ∀ {α : Type} [DecidableEq α] {x : α} {A B : Prop}, B → bcase (!decide (x = x)) A B := fun h => by simpa [bcase] using h
  have yeq : ∀ {x : Bool} {A B : Prop}, B → bcase (!(x == x)) A B := fun h => by simpa [bcase] using h
  have c0 := @g18 x0 B0
  have c1 := @g18 x1 B1
  have q := @g17 x0 x1 (by omega)
  have i := @g19 x0 x1 (by omega)
  have eq := @g20 (res x0 x1).1 (res x0 x1).1 (by omega)
  have hh := @g24 (res x0 x1).1 1 (by omega) (by omega) (by omega)
  refine ⟨_, c0, _, c1, _, _, q, _, c0, _, c1, _, _, i, _, eq, yes (yeq ?_)⟩
  refine ⟨_, c0, _, g21 B0, yes ?_⟩
  refine ⟨_, c1, _, g21 B1, yes ?_⟩
  refine ⟨_, g22oprzprownzz (x0 := x0) (x1 := 1) (by omega) (by omega) (by omega), _, g22oprzprownzz (x0 := x1) (by omega) (by omega) (by omega), ?_⟩
  rw [bc_neg (by omega)]
  refine ⟨_, eq, yes (yeq ?_)⟩
  refine ⟨_, _, g23oownz (x0 := (res x0 x1).1) (x1 := 1) (by omega) (by omega) (by omega), _, hh, ?_⟩
  rw [bc_neg (by omega)]
  refine bc_ne (fun h => (h rfl).elim) fun _ => ?_
  refine ⟨_, c0, _, c1, _, _, i, _, eq, yes (yeq ?_)⟩
  refine ⟨_, hh, ?_⟩
  rw [bc_neg (by omega)]
  exact bc_ne (fun h => (h rfl).elim) fun _ => rfl
end Go.V
