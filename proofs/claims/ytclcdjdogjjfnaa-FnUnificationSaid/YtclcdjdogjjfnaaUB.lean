/-
  Unification.
-/
import Derived.Test.YtclcdjdogjjfnaaUF
import Derived.Test.YtclcdjdogjjfnaaVE
set_option linter.unusedVariables false
set_option linter.unusedSimpArgs false
set_option maxRecDepth 1000000
set_option maxHeartbeats 4000000
set_option linter.unusedVariables false
set_option linter.unusedSimpArgs false
namespace Go.V
open Go
abbrev At := TFact
/- ## a forest of ten places -/
def Uf (p : List Int) : Prop := p.length = 10 ∧ ∀ i (h : i < p.length), -10 ≤ p[i] ∧ p[i] ≤ (i : Int)
def fnd : Nat → List Int → Int → Int
  | 0, _, a => a
  | d + 1, p, a => if a ≥ 0 then (if p.getD (Int.toNat a) (0 : Int) = a then a else fnd d p (p.getD (Int.toNat a) (0 : Int))) else a
theorem uf_at {p : List Int} (h : Uf p) {a : Int} (h0 : 0 ≤ a) (h1 : a ≤ 9) : -10 ≤ p.getD (Int.toNat a) (0 : Int) ∧ p.getD (Int.toNat a) (0 : Int) ≤ a := by
  obtain ⟨i, rfl⟩ : ∃ i : Nat, a = (i : Int) := ⟨a.toNat, by omega⟩
  have hi : i < p.length := by have := h.1; omega
  rw [getD_nat hi]
  exact h.2 i hi
theorem fnd_le {p : List Int} (h : Uf p) : ∀ (d : Nat) (a : Int), -10 ≤ a → a ≤ 9 → -10 ≤ fnd d p a ∧ fnd d p a ≤ a
  | 0, a, h0, h1 => ⟨h0, Int.le_refl _⟩
  | d + 1, a, h0, h1 => by
    unfold fnd
    split
    · rename_i ha
      split
      · exact ⟨h0, Int.le_refl _⟩
      · have hp := uf_at h (by omega) h1
        have := fnd_le h d (p.getD (Int.toNat a) (0 : Int)) hp.1 (by omega)
        exact ⟨this.1, by omega⟩
    · exact ⟨h0, Int.le_refl _⟩
theorem find {p : List Int} {x : Int} (h : Uf p) (h0 : -10 ≤ x) (h1 : x ≤ 9) {K : Int × Unit → Prop} (hK : K (fnd 12 p x, ())) :
    LoopP (fun (again2 : Int × Unit → Prop) (a1 : Int × Unit) => bcase (decide (a1.1 ≥ (0 : Int))) ((0 ≤ a1.1 ∧ a1.1 < (List.length p : Int)) ∧ (bcase ((p.getD (Int.toNat a1.1) (0 : Int)) != a1.1) ((0 ≤ a1.1 ∧ a1.1 < (List.length p : Int)) ∧ (again2 (p.getD (Int.toNat a1.1) (0 : Int), ()))) (K (a1.1, ())))) (K (a1.1, ()))) (x, ()) := by
  have hl := h.1
  refine loopP_down (fun d (a : Int × Unit) => -10 ≤ a.1 ∧ a.1 ≤ 9 ∧ a.1 < (d : Int) ∧ K (fnd d p a.1, ())) ?_ ?_ (n := 12) ⟨h0, h1, by show x < 12; omega, hK⟩
  · rintro ⟨a, _⟩ ⟨q0, q1, q2, q3⟩ X
    simp only at q0 q1 q2 q3 ⊢
    rw [bc_neg (by omega)]
    exact q3
  · rintro d ⟨a, _⟩ ⟨q0, q1, q2, q3⟩ X hX
    simp only at q0 q1 q2 q3 ⊢
    unfold fnd at q3
    by_cases ha : a ≥ 0
    · rw [bc_pos ha]
      rw [if_pos ha] at q3
      have hp := uf_at h ha q1
      refine ⟨⟨by omega, by omega⟩, bc_ne (fun hne => ⟨⟨by omega, by omega⟩, ?_⟩) (fun he => ?_)⟩
      · rw [if_neg hne] at q3
        exact hX _ ⟨hp.1, by show p.getD (Int.toNat a) (0 : Int) ≤ 9; omega, by show p.getD (Int.toNat a) (0 : Int) < d; omega, q3⟩
      · rw [if_pos he] at q3
        exact q3
    · rw [bc_neg ha]
      rw [if_neg ha] at q3
      exact q3
theorem g49 {p : List Int} {x : Int} (h : Uf p) (h0 : -10 ≤ x) (h1 : x ≤ 9) : G_sl26Find p x (fnd 12 p x) := M_sl26Find _ _ _ (by unfold S_sl26Find; exact find (K := fun r => r = (fnd 12 p x, ())) h h0 h1 rfl)
theorem g53 {p : List Int} {x : Int} (h : Uf p) (h0 : -10 ≤ x) (h1 : x ≤ 9) : G_ifinal p x (fnd 12 p x) := M_ifinal _ _ _ (by unfold S_ifinal; exact find (K := fun r => r = (fnd 12 p x, ())) h h0 h1 rfl)
theorem uf_set {p : List Int} (h : Uf p) {i v : Int} (h0 : 0 ≤ i) (h1 : i ≤ 9) (hv : -10 ≤ v) (hi : v ≤ i) : Uf (p.set (Int.toNat i) v) := by
  refine ⟨by rw [List.length_set]; exact h.1, ?_⟩
  intro j hj
  rw [List.getElem_set]
  split
  · exact ⟨hv, by omega⟩
  · exact h.2 j (by rw [List.length_set] at hj; exact hj)

def inr (x : Int) : Bool := decide (-10 ≤ x) && decide (x ≤ 4)
theorem inr_iff {x : Int} : inr x = true ↔ -10 ≤ x ∧ x ≤ 4 := by simp [inr]
theorem g48 {x : Int} : G_sl1In x (-10) 4 (inr x) := by
  refine M_sl1In _ _ _ _ ?_
  unfold S_sl1In inr
  by_cases h : x ≥ -10
  · rw [bc_pos h, decide_eq_true (show -10 ≤ x from h)]; rfl
  · rw [bc_neg h, decide_eq_false (show ¬ -10 ≤ x from h)]; rfl
theorem g52 {x : Int} : G_iwithin x (-10) 4 (inr x) := by
  refine M_iwithin _ _ _ _ ?_
  unfold S_iwithin inr
  by_cases h : -10 ≤ x
  · rw [bc_pos h, decide_eq_true h]; rfl
  · rw [bc_neg h, decide_eq_false h]; rfl
theorem g51 {x : Int} : G_iUnifyAtoms_1 x (inr x) := M_iUnifyAtoms_1 _ _ ⟨_, g52, rfl⟩
def mv (b : Int) : Int := if b ≥ 0 then b + 5 else b
theorem g54 {b : Int} (h1 : b ≤ 4) : G_imoved b (mv b) := by
  refine M_imoved _ _ ?_
  unfold S_imoved mv
  by_cases h : b ≥ 0
  · rw [bc_pos h, if_pos h, w64_id (by omega) (by omega)]
  · rw [bc_neg h, if_neg h]
theorem mv_le {b : Int} (h0 : -10 ≤ b) (h1 : b ≤ 4) : -10 ≤ mv b ∧ mv b ≤ 9 := by
  unfold mv
  split <;> omega

def un (p : List Int) (a b : Int) : Option (List Int) :=
  let l := fnd 12 p a
  let r := fnd 12 p (mv b)
  if l = r then some p else if l < 0 ∧ r < 0 then none else some (p.set (Int.toNat (maxI l r)) (minI l r))
def nrm : Nat → Nat → List Int → List Int
  | 0, _, p => p
  | d + 1, i, p => nrm d (i + 1) (p.set i (fnd 12 p i))
def run : List (Int × Int) → List Int → List Int × Bool
  | [], p => (nrm 10 0 p, true)
  | (a, b) :: z, p => if (inr a && inr b) = true then (match un p a b with | none => ([], false) | some q => run z q) else ([], false)
theorem run_bad : ∀ (z : List (Int × Int)) (p : List Int) (c : Int × Int), c ∈ z → (inr c.1 && inr c.2) = false → run z p = ([], false)
  | [], _, _, h, _ => by cases h
  | (a, b) :: z, p, c, h, hc => by
    unfold run
    split
    · rename_i hab
      split
      · rfl
      · rcases List.mem_cons.mp h with rfl | h
        · rw [hc] at hab; cases hab
        · exact run_bad z _ c h hc
    · rfl
theorem norm {p : List Int} (h : Uf p) {G : List Int → Int → Int → Prop} (hG : ∀ {p : List Int} {x : Int}, Uf p → -10 ≤ x → x ≤ 9 → G p x (fnd 12 p x)) {K : List Int × Bool × Unit → Prop} (hK : K (nrm 10 0 p, (true, ()))) (f : List Int → List Int) (hf : ∀ p, Uf p → (f p).length = 10) :
    LoopP (fun (again11 : Int × (List Int) × Unit → Prop) (a10 : Int × (List Int) × Unit) => bcase (decide (a10.1 < (List.length (f a10.2.1) : Int))) (∃ y12 : Int, G a10.2.1 a10.1 y12 ∧ ((0 ≤ a10.1 ∧ a10.1 < (List.length a10.2.1 : Int)) ∧ (again11 (w64 (a10.1 + (1 : Int)), (a10.2.1.set (Int.toNat a10.1) y12, ()))))) (K (a10.2.1, (true, ())))) ((0 : Int), (p, ())) := by
  refine loopP_down (fun d (a : Int × List Int × Unit) => ∃ i : Nat, i + d = 10 ∧ a.1 = i ∧ Uf a.2.1 ∧ K (nrm d i a.2.1, (true, ()))) ?_ ?_ (n := 10) ⟨0, rfl, rfl, h, hK⟩
  · rintro ⟨j, p, _⟩ ⟨i, hi, rfl, q1, q2⟩ X
    simp only at q1 q2 ⊢
    have := hf p q1
    rw [bc_neg (by omega)]
    exact q2
  · rintro d ⟨j, p, _⟩ ⟨i, hi, rfl, q1, q2⟩ X hX
    simp only at q1 q2 ⊢
    have := hf p q1
    have hl := q1.1
    have hp := fnd_le q1 12 (i : Int) (by omega) (by omega)
    rw [bc_pos (by omega)]
    refine ⟨_, hG q1 (by omega) (by omega), ⟨by omega, by omega⟩, ?_⟩
    rw [w64_succ (by omega), set_nat]
    have hu := uf_set q1 (i := (i : Int)) (v := fnd 12 p i) (by omega) (by omega) hp.1 hp.2
    rw [Int.toNat_natCast] at hu
    exact hX _ ⟨i + 1, by omega, rfl, hu, q2⟩
theorem normS {p : List Int} (h : Uf p) {G : List Int → Int → Int → Prop} (hG : ∀ {p : List Int} {x : Int}, Uf p → -10 ≤ x → x ≤ 9 → G p x (fnd 12 p x)) {K : List Int × Bool × Unit → Prop} (hK : K (nrm 10 0 p, (true, ()))) (f : List Int → List Int) (hf : ∀ p, Uf p → (f p).length = 10) :
    LoopP (fun (again11 : Int × (List Int) × Unit → Prop) (a10 : Int × (List Int) × Unit) => lenA (List.length (f a10.2.1) : Int) (bcase (decide (a10.1 < (List.length (f a10.2.1) : Int))) (∃ y12 : Int, G a10.2.1 a10.1 y12 ∧ ((0 ≤ a10.1 ∧ a10.1 < (List.length a10.2.1 : Int)) ∧ (again11 (w64 (a10.1 + (1 : Int)), (a10.2.1.set (Int.toNat a10.1) y12, ()))))) (K (a10.2.1, (true, ()))))) ((0 : Int), (p, ())) := by
  refine loopP_down (fun d (a : Int × List Int × Unit) => ∃ i : Nat, i + d = 10 ∧ a.1 = i ∧ Uf a.2.1 ∧ K (nrm d i a.2.1, (true, ()))) ?_ ?_ (n := 10) ⟨0, rfl, rfl, h, hK⟩
  · rintro ⟨j, p, _⟩ ⟨i, hi, rfl, q1, q2⟩ X
    simp only at q1 q2 ⊢
    have := hf p q1
    refine lenI fun _ => ?_
    rw [bc_neg (by omega)]
    exact q2
  · rintro d ⟨j, p, _⟩ ⟨i, hi, rfl, q1, q2⟩ X hX
    simp only at q1 q2 ⊢
    have := hf p q1
    have hl := q1.1
    have hp := fnd_le q1 12 (i : Int) (by omega) (by omega)
    refine lenI fun _ => ?_
    rw [bc_pos (by omega)]
    refine ⟨_, hG q1 (by omega) (by omega), ⟨by omega, by omega⟩, ?_⟩
    rw [w64_succ (by omega), set_nat]
    have hu := uf_set q1 (i := (i : Int)) (v := fnd 12 p i) (by omega) (by omega) hp.1 hp.2
    rw [Int.toNat_natCast] at hu
    exact hX _ ⟨i + 1, by omega, rfl, hu, q2⟩
def start : List Int := [0, 1, 2, 3, 4, 5, 6, 7, 8, 9]
theorem start_uf : Uf start := ⟨rfl, by decide⟩
theorem start_step {i : Nat} (hi : i < 10) {X : Int × List Int × Unit → Prop} {F : Prop} (hX : X (((i + 1 : Nat) : Int), (start.take (i + 1), ()))) : bcase (decide ((i : Int) < (10 : Int))) ((start.take i).length + ([(i : Int)] : List Int).length ≤ maxL ∧ (X (w64 ((i : Int) + (1 : Int)), (start.take i ++ ([(i : Int)] : List Int), ())))) F := by
  have h2 : i < start.length := hi
  rw [bc_pos (by omega), w64_succ (by omega)]
  have e : start[i] = (i : Int) := by
    match i, hi with
    | 0, _ | 1, _ | 2, _ | 3, _ | 4, _ | 5, _ | 6, _ | 7, _ | 8, _ | 9, _ => rfl
  rw [take_succ_snoc h2, e] at hX
  refine ⟨?_, hX⟩
  simp only [List.length_take, List.length_cons, List.length_nil]
  unfold maxL; omega

theorem un_uf {p q : List Int} {a b : Int} (h : Uf p) (ha : inr a = true) (hb : inr b = true) (e : un p a b = some q) : Uf q := by
  rw [inr_iff] at ha hb
  have hm := mv_le hb.1 hb.2
  have h1 := fnd_le h 12 a (by omega) (by omega)
  have h2 := fnd_le h 12 (mv b) (by omega) (by omega)
  unfold un at e
  simp only at e
  split at e
  · cases e; exact h
  · split at e
    · cases e
    · cases e
      unfold maxI minI
      refine uf_set h ?_ ?_ ?_ ?_ <;> repeat' split
      all_goals omega
/-- one pair: where the forest is kept, joined or given up -/
theorem un_step {p : List Int} {a b : Int} (h : Uf p) (ha : inr a = true) (hb : inr b = true) {F : Prop} {A : List Int → Prop} (hs : match un p a b with | none => F | some q => A q) {l r : Int} (el : l = fnd 12 p a) (er : r = fnd 12 p (mv b)) :
    (l = r → A p) ∧ (l ≠ r → l < 0 → r < 0 → F) ∧ (l ≠ r → ¬ (l < 0 ∧ r < 0) → (0 ≤ maxI l r ∧ maxI l r < (List.length p : Int)) ∧ A (p.set (Int.toNat (maxI l r)) (minI l r))) := by
  subst el; subst er
  rw [inr_iff] at ha hb
  have hm := mv_le hb.1 hb.2
  have h1 := fnd_le h 12 a (by omega) (by omega)
  have h2 := fnd_le h 12 (mv b) (by omega) (by omega)
  have hl := h.1
  unfold un at hs
  simp only at hs
  refine ⟨fun e => ?_, fun e n1 n2 => ?_, fun e n => ?_⟩
  · rw [if_pos e] at hs; exact hs
  · rw [if_neg e, if_pos ⟨n1, n2⟩] at hs; exact hs
  · rw [if_neg e, if_neg n] at hs
    refine ⟨?_, hs⟩
    unfold maxI
    split <;> omega
theorem run_cons {a b : Int} {z : List (Int × Int)} {p : List Int} {A : List Int × Bool → Prop} (h : A (run ((a, b) :: z) p)) (ha : inr a = true) (hb : inr b = true) : match un p a b with | none => A ([], false) | some q => A (run z q) := by
  unfold run at h
  rw [ha, hb] at h
  simp only [Bool.and_self, if_true] at h
  cases e : un p a b with
  | none => rw [e] at h; exact h
  | some q => rw [e] at h; exact h

def res (x0 x1 : At) : List Int × Bool := if x0.1 = x1.1 then (if x0.2.1.length = x1.2.1.length then run (x0.2.1.zip x1.2.1) start else ([], false)) else ([], false)

theorem l17 {x0 x1 : At} (hl : x0.2.1.length ≤ 1099511627776) {K : List Int × Bool × Unit → Prop} (hK : K ((res x0 x1).1, ((res x0 x1).2, ()))) : S_sUnifyAtoms x0 x1 K := by
  unfold S_sUnifyAtoms
  refine loopP_of 10 (fun i => ((i : Int), (start.take i, ()))) rfl (fun i hi X hX => start_step hi hX) ?_
  intro X
  simp only
  rw [bc_neg (by omega), show start.take 10 = start from rfl]
  unfold res at hK
  refine bc_ne (fun he => ?_) (fun he => ?_)
  · rw [if_neg he] at hK; exact hK
  rw [if_pos he] at hK
  by_cases hn : x0.2.1.length = x1.2.1.length
  rotate_left
  · rw [if_neg hn] at hK
    exact lenI fun _ => lenI fun _ => bc_ne (fun _ => hK) (fun h => absurd h (by omega))
  rw [if_pos hn] at hK
  refine lenI fun _ => lenI fun _ => bc_ne (fun h => absurd (congrArg Nat.cast hn) h) (fun _ => ?_)
  have hz : (x0.2.1.zip x1.2.1).length = x0.2.1.length := by rw [List.length_zip]; omega
  refine loopP_down (fun d (a : Int × List Int × Unit) => ∃ i : Nat, i + d = x0.2.1.length ∧ a.1 = i ∧ Uf a.2.1 ∧ K ((run ((x0.2.1.zip x1.2.1).drop i) a.2.1).1, ((run ((x0.2.1.zip x1.2.1).drop i) a.2.1).2, ()))) ?_ ?_ (n := x0.2.1.length) ⟨0, by omega, rfl, start_uf, hK⟩
  · rintro ⟨j, p, _⟩ ⟨i, hi, rfl, q1, q2⟩ X
    simp only at q1 q2 ⊢
    refine lenI fun _ => ?_
    rw [bc_neg (by omega)]
    rw [List.drop_of_length_le (by omega)] at q2
    exact normS (K := K) (G := G_sl26Find) q1 g49 q2 id (fun p h => h.1)
  · rintro d ⟨j, p, _⟩ ⟨i, hi, rfl, q1, q2⟩ X hX
    simp only at q1 q2 ⊢
    have h0 : i < x0.2.1.length := by omega
    have h1 : i < x1.2.1.length := by omega
    have h2 : i < (x0.2.1.zip x1.2.1).length := by omega
    have hl0 := q1.1
    refine lenI fun _ => ?_
    rw [bc_pos (by omega), getD_nat h0, getD_nat h1, w64_succ (by omega)]
    rw [drop_cons h2, List.getElem_zip] at q2
    refine ⟨⟨by omega, by omega⟩, _, g48, ?_⟩
    by_cases ha : inr x0.2.1[i] = true
    rotate_left
    · rw [bc_true (by simpa using ha)]
      unfold run at q2
      rw [if_neg (by simp [ha])] at q2
      exact q2
    rw [bc_false (by simp [ha])]
    refine ⟨⟨by omega, by omega⟩, _, g48, ?_⟩
    by_cases hb : inr x1.2.1[i] = true
    rotate_left
    · rw [bc_true (by simpa using hb)]
      unfold run at q2
      rw [if_neg (by simp [hb])] at q2
      exact q2
    rw [bc_false (by simp [hb])]
    have q3 := run_cons (A := fun R => K (R.1, (R.2, ()))) q2 ha hb
    have q4 : match un p x0.2.1[i] x1.2.1[i] with | none => K ([], (false, ())) | some q => X (((i + 1 : Nat) : Int), (q, ())) := by
      cases e : un p x0.2.1[i] x1.2.1[i] with
      | none => rw [e] at q3; exact q3
      | some q => rw [e] at q3; exact hX _ ⟨i + 1, by omega, rfl, un_uf q1 ha hb e, q3⟩
    have ia := inr_iff.mp ha
    have ib := inr_iff.mp hb
    refine ⟨⟨by omega, by omega⟩, _, g49 q1 (by omega) (by omega), ⟨by omega, by omega⟩, ?_⟩
    have fin : ∀ r, r = fnd 12 p (mv x1.2.1[i]) → bcase (decide (fnd 12 p x0.2.1[i] < (0 : Int))) (bcase (decide (r < (0 : Int))) (bcase (fnd 12 p x0.2.1[i] != r) (K (([] : List Int), (false, ()))) (bcase (fnd 12 p x0.2.1[i] != r) ((0 ≤ (maxI (fnd 12 p x0.2.1[i]) r) ∧ (maxI (fnd 12 p x0.2.1[i]) r) < (List.length p : Int)) ∧ (X (((i + 1 : Nat) : Int), (p.set (Int.toNat (maxI (fnd 12 p x0.2.1[i]) r)) (minI (fnd 12 p x0.2.1[i]) r), ())))) (X (((i + 1 : Nat) : Int), (p, ()))))) (bcase (fnd 12 p x0.2.1[i] != r) ((0 ≤ (maxI (fnd 12 p x0.2.1[i]) r) ∧ (maxI (fnd 12 p x0.2.1[i]) r) < (List.length p : Int)) ∧ (X (((i + 1 : Nat) : Int), (p.set (Int.toNat (maxI (fnd 12 p x0.2.1[i]) r)) (minI (fnd 12 p x0.2.1[i]) r), ())))) (X (((i + 1 : Nat) : Int), (p, ()))))) (bcase (fnd 12 p x0.2.1[i] != r) ((0 ≤ (maxI (fnd 12 p x0.2.1[i]) r) ∧ (maxI (fnd 12 p x0.2.1[i]) r) < (List.length p : Int)) ∧ (X (((i + 1 : Nat) : Int), (p.set (Int.toNat (maxI (fnd 12 p x0.2.1[i]) r)) (minI (fnd 12 p x0.2.1[i]) r), ())))) (X (((i + 1 : Nat) : Int), (p, ())))) := by
      intro r er
      obtain ⟨s1, s2, s3⟩ := un_step q1 ha hb q4 rfl er
      by_cases n1 : fnd 12 p x0.2.1[i] < 0
      · rw [bc_pos n1]
        by_cases n2 : r < 0
        · rw [bc_pos n2]
          exact bc_ne (fun h => s2 h n1 n2) (fun h => bc_ne (fun h' => absurd h h') (fun _ => s1 h))
        · rw [bc_neg n2]
          exact bc_ne (fun h => s3 h (by omega)) s1
      · rw [bc_neg n1]
        exact bc_ne (fun h => s3 h (by omega)) s1
    by_cases hb0 : x1.2.1[i] ≥ 0
    · rw [bc_pos hb0]
      have em : mv x1.2.1[i] = x1.2.1[i] + 5 := by unfold mv; rw [if_pos hb0]
      rw [w64_id (by omega) (by omega)]
      exact ⟨_, g49 q1 (by omega) (by omega), fin _ (by rw [em])⟩
    · rw [bc_neg hb0]
      have em : mv x1.2.1[i] = x1.2.1[i] := by unfold mv; rw [if_neg hb0]
      exact ⟨_, g49 q1 (by omega) (by omega), fin _ (by rw [em])⟩

theorem g17 {x0 x1 : At} (hl : x0.2.1.length ≤ 1099511627776) : G_sUnifyAtoms x0 x1 (res x0 x1).1 (res x0 x1).2 := M_sUnifyAtoms _ _ _ _ (l17 hl rfl)
theorem l19 {x0 x1 : At} (hl : x0.2.1.length ≤ 1099511627776) {K : List Int × Bool × Unit → Prop} (hK : K ((res x0 x1).1, ((res x0 x1).2, ()))) : S_iUnifyAtoms x0 x1 K := by
  unfold S_iUnifyAtoms
  unfold res at hK
  refine bc_ne (fun he => ?_) (fun he => ?_)
  · rw [if_neg he] at hK; exact hK
  rw [if_pos he] at hK
  by_cases hn : x0.2.1.length = x1.2.1.length
  rotate_left
  · rw [if_neg hn] at hK
    exact lenI fun _ => lenI fun _ => bc_ne (fun _ => hK) (fun h => absurd h (by omega))
  rw [if_pos hn] at hK
  refine lenI fun _ => lenI fun _ => bc_ne (fun h => absurd (congrArg Nat.cast hn) h) (fun _ => ?_)
  have hz : (x0.2.1.zip x1.2.1).length = x0.2.1.length := by rw [List.length_zip]; omega
  refine loopP_of 10 (fun i => ((i : Int), (start.take i, ()))) rfl (fun i hi X hX => start_step hi hX) ?_
  intro X
  simp only
  rw [bc_neg (by omega), show start.take 10 = start from rfl]
  refine lenI fun _ => ?_
  -- all in their range?
  refine loopP_down (fun d (a : Int × Unit) => ∃ i : Nat, i + d = x0.2.1.length ∧ a.1 = i ∧ ∀ j (h0 : j < x0.2.1.length) (h1 : j < x1.2.1.length), j < i → inr x0.2.1[j] = true ∧ inr x1.2.1[j] = true) ?_ ?_ (n := x0.2.1.length) ⟨0, by omega, rfl, fun j _ _ h => absurd h (by omega)⟩
  rotate_left
  · rintro d ⟨j, _⟩ ⟨i, hi, rfl, q⟩ X hX
    simp only
    have h0 : i < x0.2.1.length := by omega
    have h1 : i < x1.2.1.length := by omega
    have h2 : i < (x0.2.1.zip x1.2.1).length := by omega
    have hm : (x0.2.1[i], x1.2.1[i]) ∈ x0.2.1.zip x1.2.1 := by
      have := List.getElem_mem h2
      rw [List.getElem_zip] at this
      exact this
    rw [bc_pos (by omega), getD_nat h0, getD_nat h1, w64_succ (by omega)]
    refine ⟨⟨by omega, by omega⟩, _, g51, ?_⟩
    by_cases ha : inr x0.2.1[i] = true
    rotate_left
    · rw [bc_true (by simpa using ha)]
      rw [run_bad _ _ _ hm (by simp [ha])] at hK
      exact hK
    rw [bc_false (by simp [ha])]
    refine ⟨⟨by omega, by omega⟩, _, g51, ?_⟩
    by_cases hb : inr x1.2.1[i] = true
    rotate_left
    · rw [bc_true (by simpa using hb)]
      rw [run_bad _ _ _ hm (by simp [hb])] at hK
      exact hK
    rw [bc_false (by simp [hb])]
    refine hX _ ⟨i + 1, by omega, rfl, ?_⟩
    intro j k0 k1 hj
    by_cases e : j = i
    · subst e; exact ⟨ha, hb⟩
    · exact q j k0 k1 (by omega)
  rintro ⟨j, _⟩ ⟨i, hi, rfl, q⟩ X
  simp only
  rw [bc_neg (by omega)]
  refine lenI fun _ => ?_
  refine loopP_down (fun d (a : Int × List Int × Unit) => ∃ i : Nat, i + d = x0.2.1.length ∧ a.1 = i ∧ Uf a.2.1 ∧ K ((run ((x0.2.1.zip x1.2.1).drop i) a.2.1).1, ((run ((x0.2.1.zip x1.2.1).drop i) a.2.1).2, ()))) ?_ ?_ (n := x0.2.1.length) ⟨0, by omega, rfl, start_uf, hK⟩
  · rintro ⟨j, p, _⟩ ⟨i, hi, rfl, q1, q2⟩ X
    simp only at q1 q2 ⊢
    rw [bc_neg (by omega)]
    rw [List.drop_of_length_le (by omega)] at q2
    exact lenI fun _ => norm (K := K) (G := G_ifinal) q1 g53 q2 (fun _ => p) (fun _ _ => q1.1)
  · rintro d ⟨j, p, _⟩ ⟨i, hi, rfl, q1, q2⟩ X hX
    simp only at q1 q2 ⊢
    have h0 : i < x0.2.1.length := by omega
    have h1 : i < x1.2.1.length := by omega
    have h2 : i < (x0.2.1.zip x1.2.1).length := by omega
    obtain ⟨ha, hb⟩ := q i h0 h1 (by omega)
    rw [bc_pos (by omega), getD_nat h0, getD_nat h1, w64_succ (by omega)]
    rw [drop_cons h2, List.getElem_zip] at q2
    have q3 := run_cons (A := fun R => K (R.1, (R.2, ()))) q2 ha hb
    have q4 : match un p x0.2.1[i] x1.2.1[i] with | none => K ([], (false, ())) | some q => X (((i + 1 : Nat) : Int), (q, ())) := by
      cases e : un p x0.2.1[i] x1.2.1[i] with
      | none => rw [e] at q3; exact q3
      | some q => rw [e] at q3; exact hX _ ⟨i + 1, by omega, rfl, un_uf q1 ha hb e, q3⟩
    have ia := inr_iff.mp ha
    have ib := inr_iff.mp hb
    have hm := mv_le ib.1 ib.2
    refine ⟨⟨by omega, by omega⟩, ⟨by omega, by omega⟩, _, g53 q1 (by omega) (by omega), _, g54 ib.2, _, g53 q1 hm.1 hm.2, ?_⟩
    obtain ⟨s1, s2, s3⟩ := un_step q1 ha hb q4 rfl rfl
    by_cases e : fnd 12 p x0.2.1[i] = fnd 12 p (mv x1.2.1[i])
    · rw [bc_true (by simpa using e)]
      exact s1 e
    rw [bc_false (by simpa using e)]
    by_cases n1 : fnd 12 p x0.2.1[i] < 0
    · rw [bc_pos n1]
      by_cases n2 : fnd 12 p (mv x1.2.1[i]) < 0
      · rw [bc_pos n2]; exact s2 e n1 n2
      · rw [bc_neg n2]; exact s3 e (by omega)
    · rw [bc_neg n1]; exact s3 e (by omega)
theorem g19 {x0 x1 : At} (hl : x0.2.1.length ≤ 1099511627776) : G_iUnifyAtoms x0 x1 (res x0 x1).1 (res x0 x1).2 := M_iUnifyAtoms _ _ _ _ (l19 hl rfl)

/- ## what is joined stays joined -/
theorem fnd_fuel : ∀ (d e : Nat) (p : List Int) (x : Int), Uf p → x ≤ 9 → x < (d : Int) → x < (e : Int) → fnd d p x = fnd e p x
  | 0, 0, _, _, _, _, _, _ => rfl
  | 0, e + 1, p, x, h, h9, h1, h2 => by unfold fnd; rw [if_neg (by omega)]
  | d + 1, 0, p, x, h, h9, h1, h2 => by unfold fnd; rw [if_neg (by omega)]
  | d + 1, e + 1, p, x, h, h9, h1, h2 => by
    unfold fnd
    by_cases hx : x ≥ 0
    · rw [if_pos hx, if_pos hx]
      by_cases hp : p.getD (Int.toNat x) (0 : Int) = x
      · rw [if_pos hp, if_pos hp]
      · rw [if_neg hp, if_neg hp]
        have := uf_at h hx h9
        exact fnd_fuel d e p _ h (by omega) (by omega) (by omega)
    · rw [if_neg hx, if_neg hx]
theorem fnd_neg {p : List Int} {x : Int} (hx : x < 0) : fnd 12 p x = x := by unfold fnd; rw [if_neg (by omega)]
theorem fnd_root {p : List Int} {x : Int} (hx : 0 ≤ x) (hp : p.getD (Int.toNat x) (0 : Int) = x) : fnd 12 p x = x := by unfold fnd; rw [if_pos hx, if_pos hp]
theorem fnd_next {p : List Int} {x : Int} (h : Uf p) (hx : 0 ≤ x) (h9 : x ≤ 9) (hp : p.getD (Int.toNat x) (0 : Int) ≠ x) : fnd 12 p x = fnd 12 p (p.getD (Int.toNat x) (0 : Int)) := by
  have := uf_at h hx h9
  conv => lhs; unfold fnd
  rw [if_pos hx, if_neg hp]
  exact fnd_fuel 11 12 p _ h (by omega) (by omega) (by omega)
theorem fnd_is {p : List Int} (h : Uf p) : ∀ (n : Nat) (x : Int), x < (n : Int) → -10 ≤ x → x ≤ 9 → 0 ≤ fnd 12 p x → p.getD (Int.toNat (fnd 12 p x)) (0 : Int) = fnd 12 p x
  | 0, x, hn, h0, h9, hr => by rw [fnd_neg (by omega)] at hr; omega
  | n + 1, x, hn, h0, h9, hr => by
    by_cases hx : 0 ≤ x
    · by_cases hp : p.getD (Int.toNat x) (0 : Int) = x
      · rw [fnd_root hx hp]; exact hp
      · have hu := uf_at h hx h9
        rw [fnd_next h hx h9 hp] at hr ⊢
        exact fnd_is h n _ (by omega) hu.1 (by omega) hr
    · rw [fnd_neg (by omega)] at hr; omega
theorem getD_set_of {p : List Int} {a b v : Int} (h : Uf p) (ha : 0 ≤ a) (ha9 : a ≤ 9) (hb : 0 ≤ b) (hb9 : b ≤ 9) : (p.set (Int.toNat a) v).getD (Int.toNat b) (0 : Int) = if a = b then v else p.getD (Int.toNat b) (0 : Int) := by
  have hl := h.1
  obtain ⟨i, rfl⟩ : ∃ i : Nat, a = (i : Int) := ⟨a.toNat, by omega⟩
  obtain ⟨j, rfl⟩ : ∃ j : Nat, b = (j : Int) := ⟨b.toNat, by omega⟩
  have hj : j < p.length := by omega
  have hj2 : j < (p.set i v).length := by rw [List.length_set]; exact hj
  rw [set_nat, getD_nat hj2, getD_nat hj, List.getElem_set]
  by_cases e : i = j
  · subst e; simp
  · rw [if_neg e, if_neg (by omega)]
/-- a root is hung below a smaller root, or below a constant -/
theorem fnd_hang {p : List Int} (h : Uf p) {m M : Int} (hM : 0 ≤ M) (hM9 : M ≤ 9) (hroot : p.getD (Int.toNat M) (0 : Int) = M) (hm : m < M) (hm0 : -10 ≤ m) (hmr : 0 ≤ m → p.getD (Int.toNat m) (0 : Int) = m) :
    ∀ (n : Nat) (x : Int), x < (n : Int) → -10 ≤ x → x ≤ 9 → fnd 12 (p.set (Int.toNat M) m) x = if fnd 12 p x = M then m else fnd 12 p x
  | 0, x, hn, h0, h9 => by rw [fnd_neg (by omega), fnd_neg (by omega), if_neg (by omega)]
  | n + 1, x, hn, h0, h9 => by
    have hu := uf_set h hM hM9 hm0 (Int.le_of_lt hm)
    by_cases hx : 0 ≤ x
    · by_cases e : M = x
      · subst e
        have e1 : (p.set (Int.toNat M) m).getD (Int.toNat M) (0 : Int) = m := by rw [getD_set_of h hM hM9 hM hM9, if_pos rfl]
        rw [fnd_root hM hroot, if_pos rfl, fnd_next hu hM hM9 (by rw [e1]; omega), e1]
        by_cases h0m : 0 ≤ m
        · exact fnd_root h0m (by rw [getD_set_of h hM hM9 h0m (by omega), if_neg (by omega)]; exact hmr h0m)
        · exact fnd_neg (by omega)
      · have e1 : (p.set (Int.toNat M) m).getD (Int.toNat x) (0 : Int) = p.getD (Int.toNat x) (0 : Int) := by rw [getD_set_of h hM hM9 hx h9, if_neg e]
        by_cases hp : p.getD (Int.toNat x) (0 : Int) = x
        · rw [fnd_root hx hp, fnd_root hx (by rw [e1]; exact hp), if_neg (by omega)]
        · have hq := uf_at h hx h9
          rw [fnd_next h hx h9 hp, fnd_next hu hx h9 (by rw [e1]; exact hp), e1]
          exact fnd_hang h hM hM9 hroot hm hm0 hmr n _ (by omega) hq.1 (by omega)
    · rw [fnd_neg (by omega), fnd_neg (by omega), if_neg (by omega)]
/-- a step of the last pass changes no root -/
theorem fnd_flat {p : List Int} (h : Uf p) {i : Int} (hi : 0 ≤ i) (hi9 : i ≤ 9) :
    ∀ (n : Nat) (x : Int), x < (n : Int) → -10 ≤ x → x ≤ 9 → fnd 12 (p.set (Int.toNat i) (fnd 12 p i)) x = fnd 12 p x
  | 0, x, hn, h0, h9 => by rw [fnd_neg (by omega), fnd_neg (by omega)]
  | n + 1, x, hn, h0, h9 => by
    have hr := fnd_le h 12 i (by omega) hi9
    have hu := uf_set h hi hi9 hr.1 hr.2
    by_cases hx : 0 ≤ x
    · by_cases e : i = x
      · subst e
        have e1 : (p.set (Int.toNat i) (fnd 12 p i)).getD (Int.toNat i) (0 : Int) = fnd 12 p i := by rw [getD_set_of h hi hi9 hi hi9, if_pos rfl]
        by_cases hs : fnd 12 p i = i
        · rw [fnd_root hi (by rw [e1]; exact hs), hs]
        · rw [fnd_next hu hi hi9 (by rw [e1]; exact hs), e1]
          by_cases h0r : 0 ≤ fnd 12 p i
          · have := fnd_is h 12 i (by omega) (by omega) hi9 h0r
            exact fnd_root h0r (by rw [getD_set_of h hi hi9 h0r (by omega), if_neg (by omega)]; exact this)
          · exact fnd_neg (by omega)
      · have e1 : (p.set (Int.toNat i) (fnd 12 p i)).getD (Int.toNat x) (0 : Int) = p.getD (Int.toNat x) (0 : Int) := by rw [getD_set_of h hi hi9 hx h9, if_neg e]
        by_cases hp : p.getD (Int.toNat x) (0 : Int) = x
        · rw [fnd_root hx hp, fnd_root hx (by rw [e1]; exact hp)]
        · have hq := uf_at h hx h9
          rw [fnd_next h hx h9 hp, fnd_next hu hx h9 (by rw [e1]; exact hp), e1]
          exact fnd_flat h hi hi9 n _ (by omega) hq.1 (by omega)
    · rw [fnd_neg (by omega), fnd_neg (by omega)]
theorem nrm_at : ∀ (d i : Nat) (p p0 : List Int), i + d = 10 → Uf p → Uf p0 → (∀ x : Int, -10 ≤ x → x ≤ 9 → fnd 12 p x = fnd 12 p0 x) →
    (∀ j : Nat, j < i → p.getD j (0 : Int) = fnd 12 p0 j) → ∀ j : Nat, j < 10 → (nrm d i p).getD j (0 : Int) = fnd 12 p0 j
  | 0, i, p, p0, hi, h, hp0, hf, hd, j, hj => hd j (by omega)
  | d + 1, i, p, p0, hi, h, hp0, hf, hd, j, hj => by
    unfold nrm
    have hr := fnd_le h 12 (i : Int) (by omega) (by omega)
    have hu := uf_set h (i := (i : Int)) (v := fnd 12 p i) (by omega) (by omega) hr.1 hr.2
    have hs := fnd_flat h (i := (i : Int)) (by omega) (by omega) 12
    rw [Int.toNat_natCast] at hu hs
    refine nrm_at d (i + 1) _ p0 (by omega) hu hp0 (fun x h0 h9 => by rw [hs x (by omega) h0 h9]; exact hf x h0 h9) ?_ j hj
    intro j hj
    have := getD_set_of h (a := (i : Int)) (b := (j : Int)) (v := fnd 12 p i) (by omega) (by omega) (by omega) (by omega)
    rw [Int.toNat_natCast, Int.toNat_natCast] at this
    rw [this]
    by_cases e : (i : Int) = (j : Int)
    · rw [if_pos e, hf _ (by omega) (by omega), e]
    · rw [if_neg e]
      exact hd j (by omega)

/-- a pair that is joined has one root; what had one root has one still -/
theorem un_joins {p q : List Int} {a b : Int} (h : Uf p) (ha : inr a = true) (hb : inr b = true) (e : un p a b = some q) :
    fnd 12 q a = fnd 12 q (mv b) ∧ ∀ x y : Int, -10 ≤ x → x ≤ 9 → -10 ≤ y → y ≤ 9 → fnd 12 p x = fnd 12 p y → fnd 12 q x = fnd 12 q y := by
  rw [inr_iff] at ha hb
  have hm := mv_le hb.1 hb.2
  have h1 := fnd_le h 12 a (by omega) (by omega)
  have h2 := fnd_le h 12 (mv b) (by omega) (by omega)
  have i1 := fnd_is h 12 a (by omega) (by omega) (by omega)
  have i2 := fnd_is h 12 (mv b) (by omega) (by omega) (by omega)
  unfold un at e
  simp only at e
  split at e
  · rename_i he
    cases e
    exact ⟨he, fun x y _ _ _ _ hxy => hxy⟩
  · rename_i hne
    split at e
    · cases e
    · rename_i hn
      cases e
      have hMx : (maxI (fnd 12 p a) (fnd 12 p (mv b)) = fnd 12 p a ∧ minI (fnd 12 p a) (fnd 12 p (mv b)) = fnd 12 p (mv b) ∧ fnd 12 p (mv b) < fnd 12 p a) ∨ (maxI (fnd 12 p a) (fnd 12 p (mv b)) = fnd 12 p (mv b) ∧ minI (fnd 12 p a) (fnd 12 p (mv b)) = fnd 12 p a ∧ fnd 12 p a < fnd 12 p (mv b)) := by
        unfold maxI minI
        by_cases g : fnd 12 p (mv b) > fnd 12 p a
        · right; rw [if_pos g, if_neg (by omega)]; exact ⟨rfl, rfl, g⟩
        · left; rw [if_neg g, if_pos (by omega)]; exact ⟨rfl, rfl, by omega⟩
      rcases hMx with ⟨e1, e2, hlt⟩ | ⟨e1, e2, hlt⟩
      · rw [e1, e2]
        have H := fnd_hang h (m := fnd 12 p (mv b)) (M := fnd 12 p a) (by omega) (by omega) (i1 (by omega)) hlt h2.1 i2 12
        refine ⟨?_, fun x y x0 x9 y0 y9 hxy => ?_⟩
        · rw [H a (by omega) (by omega) (by omega), H (mv b) (by omega) (by omega) (by omega), if_pos rfl, if_neg (by omega)]
        · rw [H x (by omega) x0 x9, H y (by omega) y0 y9, hxy]
      · rw [e1, e2]
        have H := fnd_hang h (m := fnd 12 p a) (M := fnd 12 p (mv b)) (by omega) (by omega) (i2 (by omega)) hlt h1.1 i1 12
        refine ⟨?_, fun x y x0 x9 y0 y9 hxy => ?_⟩
        · rw [H a (by omega) (by omega) (by omega), H (mv b) (by omega) (by omega) (by omega), if_pos rfl, if_neg (by omega)]
        · rw [H x (by omega) x0 x9, H y (by omega) y0 y9, hxy]
/-- where the run ends well: one forest joins all pairs, and its roots are what is returned -/
theorem run_joins : ∀ (z : List (Int × Int)) (p : List Int), Uf p → (run z p).2 = true →
    ∃ q, Uf q ∧ (run z p).1 = nrm 10 0 q ∧ (∀ x y : Int, -10 ≤ x → x ≤ 9 → -10 ≤ y → y ≤ 9 → fnd 12 p x = fnd 12 p y → fnd 12 q x = fnd 12 q y) ∧
      ∀ c ∈ z, inr c.1 = true ∧ inr c.2 = true ∧ fnd 12 q c.1 = fnd 12 q (mv c.2)
  | [], p, h, _ => ⟨p, h, rfl, fun _ _ _ _ _ _ e => e, fun c hc => by cases hc⟩
  | (a, b) :: z, p, h, hr => by
    unfold run at hr ⊢
    by_cases hab : (inr a && inr b) = true
    · rw [if_pos hab] at hr ⊢
      have ha : inr a = true := by simp only [Bool.and_eq_true] at hab; exact hab.1
      have hb : inr b = true := by simp only [Bool.and_eq_true] at hab; exact hab.2
      cases e : un p a b with
      | none => rw [e] at hr; cases hr
      | some p' =>
        rw [e] at hr
        simp only at hr ⊢
        obtain ⟨j1, j2⟩ := un_joins h ha hb e
        obtain ⟨q, q1, q2, q3, q4⟩ := run_joins z p' (un_uf h ha hb e) hr
        refine ⟨q, q1, q2, fun x y x0 x9 y0 y9 hxy => q3 x y x0 x9 y0 y9 (j2 x y x0 x9 y0 y9 hxy), ?_⟩
        intro c hc
        rcases List.mem_cons.mp hc with rfl | hc
        · have ia := inr_iff.mp ha
          have ib := inr_iff.mp hb
          have hm := mv_le ib.1 ib.2
          exact ⟨ha, hb, q3 _ _ (by show -10 ≤ a; omega) (by show a ≤ 9; omega) hm.1 hm.2 j1⟩
        · exact q4 c hc
    · rw [if_neg hab] at hr; cases hr
theorem run_no : ∀ (z : List (Int × Int)) (p : List Int), (run z p).2 = false → (run z p).1 = []
  | [], p, h => by cases h
  | (a, b) :: z, p, h => by
    unfold run at h ⊢
    by_cases hab : (inr a && inr b) = true
    · rw [if_pos hab] at h ⊢
      cases e : un p a b with
      | none => rfl
      | some q => rw [e] at h; exact run_no z q h
    · rw [if_neg hab]

/- ## draws -/
abbrev Src := List Int × Int × Int × Unit
def Oks (s : Src) : Prop := 0 ≤ s.2.1 ∧ s.1.length ≤ maxLen
theorem low_byte (x : Int) : 0 ≤ bitsK .and .i64 x 255 ∧ bitsK .and .i64 x 255 ≤ 255 := by
  show 0 ≤ IntKind.i64.wrap ((BitVec.ofInt 64 x &&& BitVec.ofInt 64 255).toNat : Int) ∧ IntKind.i64.wrap ((BitVec.ofInt 64 x &&& BitVec.ofInt 64 255).toNat : Int) ≤ 255
  have h : (BitVec.ofInt 64 x &&& BitVec.ofInt 64 255).toNat ≤ 255 := by
    rw [BitVec.toNat_and]
    exact Nat.le_trans Nat.and_le_right (by decide)
  generalize (BitVec.ofInt 64 x &&& BitVec.ofInt 64 255).toNat = n at h
  have e : IntKind.i64.wrap (n : Int) = (n : Int) := w64_id (by omega) (by omega)
  rw [e]; omega
theorem ex75 {s : Src} (h : Oks s) : ∃ y z, G_sl1Byte_poz s y z ∧ 0 ≤ y ∧ y ≤ 255 ∧ Oks z := by
  have hl := h.2
  rw [maxLen_eq] at hl
  have h0 := h.1
  by_cases hlt : s.2.1 < (s.1.length : Int)
  · apply Exists.intro
    apply Exists.intro
    apply And.intro
    · apply M_sl1Byte_poz
      unfold S_sl1Byte_poz
      rw [bc_pos hlt]
      exact ⟨by decide, by decide, lenI fun _ => ⟨⟨h0, hlt⟩, rfl⟩⟩
    · refine ⟨(low_byte _).1, (low_byte _).2, ?_, h.2⟩
      show 0 ≤ w64 (s.2.1 + 1)
      rw [w64_id (by omega) (by omega)]; omega
  · apply Exists.intro
    apply Exists.intro
    apply And.intro
    · apply M_sl1Byte_poz
      unfold S_sl1Byte_poz
      rw [bc_neg hlt]
      exact ⟨by decide, by decide, lenI fun _ => rfl⟩
    · exact ⟨(low_byte _).1, (low_byte _).2, h0, h.2⟩
theorem ex56 {s : Src} {n : Int} (h : Oks s) (h1 : 0 < n) (h2 : n ≤ 256) : ∃ y z, G_sl1Below_poz s n y z ∧ 0 ≤ y ∧ y < n ∧ Oks z := by
  obtain ⟨y, z, g, y0, y1, hz⟩ := ex75 h
  refine ⟨Int.tmod y n, z, M_sl1Below_poz _ _ _ _ ?_, ?_, ?_, hz⟩
  · unfold S_sl1Below_poz
    rw [bc_neg (by omega), bc_pos h2]
    exact ⟨y, z, g, by omega, rfl⟩
  · exact Int.tmod_nonneg _ y0
  · exact Int.tmod_lt_of_pos _ h1
theorem ex58 {s : Src} {n : Int} (h : Oks s) (h1 : 0 < n) (h2 : n ≤ 256) : ∃ y z, G_sl1Once_poz s n y z ∧ Oks z := by
  obtain ⟨y, z, g, _, _, hz⟩ := ex56 h h1 h2
  exact ⟨_, z, M_sl1Once_poz _ _ _ _ ⟨y, z, g, rfl⟩, hz⟩
def sigs : List (List UInt8 × Int × Bool × Unit) := [([97], (2, (true, ()))), ([98], (1, (true, ()))), ([112], (2, (false, ()))), ([113], (2, (false, ()))), ([114], (1, (false, ())))]
theorem g76 : G_sl3Sigs sigs := M_sl3Sigs _ rfl
theorem arity (i : Nat) (h : i < sigs.length) : 1 ≤ (sigs[i]).2.1 ∧ (sigs[i]).2.1 ≤ 2 := by
  match i, h with
  | 0, _ | 2, _ | 3, _ => exact ⟨(by decide : (1 : Int) ≤ 2), (by decide : (2 : Int) ≤ 2)⟩
  | 1, _ | 4, _ => exact ⟨(by decide : (1 : Int) ≤ 1), (by decide : (1 : Int) ≤ 2)⟩
theorem ex57 {s : Src} {r : Int} (h : Oks s) (h0 : 0 ≤ r) (h1 : r < 5) : ∃ (y : At) (z : Src), G_sl9Atom_poz s r 3 y z ∧ Oks z ∧ 1 ≤ y.2.1.length ∧ y.2.1.length ≤ 2 := by
  obtain ⟨i, rfl⟩ : ∃ i : Nat, r = (i : Int) := ⟨r.toNat, by omega⟩
  have hi : i < sigs.length := by show i < 5; omega
  have ha := arity i hi
  suffices hs : ∃ (y : At) (z : Src), S_sl9Atom_poz s i 3 (fun q => q = (y, (z, ()))) ∧ Oks z ∧ 1 ≤ y.2.1.length ∧ y.2.1.length ≤ 2 by
    obtain ⟨y, z, g, q⟩ := hs
    exact ⟨y, z, M_sl9Atom_poz _ _ _ _ _ g, q⟩
  -- the loop ends well, so some answer is given
  have key : ∀ (d : Nat) (s : Src) (a : At), Oks s → a.2.1.length + d = (sigs[i]).2.1.toNat → ∃ (y : At) (z : Src), (Oks z ∧ 1 ≤ y.2.1.length ∧ y.2.1.length ≤ 2) ∧ ∀ K : At × Src × Unit → Prop, K (y, (z, ())) →
      iterP (fun (again3 : Src × At × Unit → Prop) (a2 : Src × At × Unit) => (0 ≤ (i : Int) ∧ (i : Int) < (List.length sigs : Int)) ∧ (lenA (List.length a2.2.1.2.1 : Int) (bcase (decide ((List.length a2.2.1.2.1 : Int) < (((sigs.getD (Int.toNat (i : Int)) (([] : List UInt8), ((0 : Int), (false, ())))).2).1))) (∃ y4 : Bool, ∃ y5 : Src, G_sl1Once_poz a2.1 (14 : Int) y4 y5 ∧ (bcase y4 (∃ y6 : Int, ∃ y7 : Src, G_sl1Below_poz y5 (3 : Int) y6 y7 ∧ (a2.2.1.2.1.length + ([w64 ((-1 : Int) - y6)] : List Int).length ≤ maxL ∧ (again3 (y7, ((a2.2.1.1, (a2.2.1.2.1 ++ ([w64 ((-1 : Int) - y6)] : List Int), a2.2.1.2.2)), ()))))) (∃ y8 : Int, ∃ y9 : Src, G_sl1Below_poz y5 (3 : Int) y8 y9 ∧ (a2.2.1.2.1.length + ([y8] : List Int).length ≤ maxL ∧ (again3 (y9, ((a2.2.1.1, (a2.2.1.2.1 ++ ([y8] : List Int), a2.2.1.2.2)), ()))))))) (K ((a2.2.1.1, (a2.2.1.2.1, a2.2.1.2.2)), (a2.1, ())))))) (d + 1) (s, (a, ())) := by
    intro d
    induction d with
    | zero =>
      intro s a hs hl
      refine ⟨a, s, ⟨hs, by omega, by omega⟩, fun K hK => ?_⟩
      refine ⟨⟨by omega, by exact_mod_cast hi⟩, lenI fun _ => ?_⟩
      rw [bc_neg (by rw [getD_nat hi]; show ¬ ((a.2.1.length : Int) < _); omega)]
      exact hK
    | succ d ih =>
      intro s a hs hl
      obtain ⟨b, s1, gb, hs1⟩ := ex58 hs (show (0 : Int) < 14 by decide) (by decide)
      obtain ⟨v, s2, gv, v0, v1, hs2⟩ := ex56 hs1 (show (0 : Int) < 3 by decide) (by decide)
      cases b with
      | true =>
        obtain ⟨y, z, q, hq⟩ := ih s2 (a.1, (a.2.1 ++ [w64 ((-1 : Int) - v)], a.2.2)) hs2 (by show (a.2.1 ++ [_]).length + d = _; rw [List.length_append]; simp only [List.length_cons, List.length_nil]; omega)
        refine ⟨y, z, q, fun K hK => ?_⟩
        refine ⟨⟨by omega, by exact_mod_cast hi⟩, lenI fun _ => ?_⟩
        rw [bc_pos (by rw [getD_nat hi]; show (a.2.1.length : Int) < _; omega)]
        refine ⟨_, _, gb, ?_⟩
        rw [bc_true rfl]
        exact ⟨_, _, gv, by show a.2.1.length + 1 ≤ _; unfold maxL; omega, hq K hK⟩
      | false =>
        obtain ⟨y, z, q, hq⟩ := ih s2 (a.1, (a.2.1 ++ [v], a.2.2)) hs2 (by show (a.2.1 ++ [_]).length + d = _; rw [List.length_append]; simp only [List.length_cons, List.length_nil]; omega)
        refine ⟨y, z, q, fun K hK => ?_⟩
        refine ⟨⟨by omega, by exact_mod_cast hi⟩, lenI fun _ => ?_⟩
        rw [bc_pos (by rw [getD_nat hi]; show (a.2.1.length : Int) < _; omega)]
        refine ⟨_, _, gb, ?_⟩
        rw [bc_false rfl]
        exact ⟨_, _, gv, by show a.2.1.length + 1 ≤ _; unfold maxL; omega, hq K hK⟩
  obtain ⟨y, z, q, hq⟩ := key (sigs[i]).2.1.toNat s ((i : Int), ([], ())) h (by simp)
  refine ⟨y, z, ?_, q⟩
  unfold S_sl9Atom_poz
  exact ⟨_, g76, _, hq (fun q => q = (y, (z, ()))) rfl⟩

theorem ex55 {x : List Int} (h : x.length ≤ maxLen) : ∃ z, G_sl1New x z ∧ Oks z := by
  have hl := h
  rw [maxLen_eq] at hl
  suffices hs : ∃ v : Int, S_sl1New x (fun r => r = ((x, ((0 : Int), (v, ()))), ())) by
    obtain ⟨v, g⟩ := hs
    exact ⟨_, M_sl1New _ _ g, Int.le_refl _, h⟩
  have key : ∀ (d : Nat) (k : Int) (i : Nat), i + d = 4000 → ∃ v : Int, ∀ K : Src × Unit → Prop, K ((x, ((0 : Int), (v, ()))), ()) →
      iterP (fun (again2 : Int × Int × Unit → Prop) (a1 : Int × Int × Unit) => lenA (List.length x : Int) (bcase (decide (a1.2.1 < (List.length x : Int))) (bcase (decide (a1.2.1 < (4000 : Int))) ((0 ≤ a1.2.1 ∧ a1.2.1 < (List.length x : Int)) ∧ (again2 (bitsK .and .i64 (w64 ((w64 ((w64 (a1.1 * (131 : Int))) + (w64 (x.getD (Int.toNat a1.2.1) (0 : Int))))) + (7 : Int))) (1073741823 : Int), (w64 (a1.2.1 + (1 : Int)), ())))) (K ((x, ((0 : Int), (a1.1, ()))), ()))) (K ((x, ((0 : Int), (a1.1, ()))), ())))) (d + 1) (k, ((i : Int), ())) := by
    intro d
    induction d with
    | zero =>
      intro k i hi
      refine ⟨k, fun K hK => ?_⟩
      by_cases hlt : (i : Int) < (x.length : Int)
      · refine lenI fun _ => ?_
        show bcase (decide ((i : Int) < (x.length : Int))) (bcase (decide ((i : Int) < (4000 : Int))) _ _) _
        rw [bc_pos hlt, bc_neg (by omega)]; exact hK
      · refine lenI fun _ => ?_
        show bcase (decide ((i : Int) < (x.length : Int))) (bcase (decide ((i : Int) < (4000 : Int))) _ _) _
        rw [bc_neg hlt]; exact hK
    | succ d ih =>
      intro k i hi
      by_cases hlt : (i : Int) < (x.length : Int)
      · obtain ⟨v, hv⟩ := ih (bitsK .and .i64 (w64 ((w64 ((w64 (k * (131 : Int))) + (w64 (x.getD (Int.toNat (i : Int)) (0 : Int))))) + (7 : Int))) (1073741823 : Int)) (i + 1) (by omega)
        refine ⟨v, fun K hK => ?_⟩
        have := hv K hK
        rw [← w64_succ (i := i) (by omega)] at this
        refine lenI fun _ => ?_
        show bcase (decide ((i : Int) < (x.length : Int))) (bcase (decide ((i : Int) < (4000 : Int))) _ _) _
        rw [bc_pos hlt, bc_pos (by omega)]
        exact ⟨⟨by show (0 : Int) ≤ (i : Int); omega, hlt⟩, this⟩
      · refine ⟨k, fun K hK => ?_⟩
        refine lenI fun _ => ?_
        show bcase (decide ((i : Int) < (x.length : Int))) (bcase (decide ((i : Int) < (4000 : Int))) _ _) _
        rw [bc_neg hlt]; exact hK
  obtain ⟨v, hv⟩ := key 4000 (w64 ((10101 : Int) + (List.length x : Int))) 0 rfl
  exact ⟨v, lenI fun _ => ⟨_, hv (fun r => r = ((x, ((0 : Int), (v, ()))), ())) rfl⟩⟩

theorem ex26 {x : List Int} (h : x.length ≤ maxLen) : ∃ a b : At, G_sDrawUnifyAtoms x a b ∧ a.2.1.length ≤ 2 ∧ b.2.1.length ≤ 2 := by
  obtain ⟨s1, g1, h1⟩ := ex55 h
  obtain ⟨r2, s2, g2, a2, b2, h2⟩ := ex56 h1 (show (0 : Int) < 5 by decide) (by decide)
  obtain ⟨t3, s3, g3, h3, l3, m3⟩ := ex57 h2 a2 b2
  obtain ⟨c4, s4, g4, h4⟩ := ex58 h3 (show (0 : Int) < 8 by decide) (by decide)
  -- the last part is alike on both roads
  have tail : ∀ (t : At) (s : Src), Oks s → 1 ≤ t.2.1.length → t.2.1.length ≤ 2 → ∃ b : At, b.2.1.length ≤ 2 ∧ ∀ K : At × At × Unit → Prop, K (t3, (b, ())) →
      ∃ y12 : Bool, ∃ y13 : Src, G_sl1Once_poz s (2 : Int) y12 y13 ∧ (bcase y12 (∃ y14 : Int, ∃ y15 : Src, G_sl1Below_poz y13 (3 : Int) y14 y15 ∧ ((0 ≤ (0 : Int) ∧ (0 : Int) < (List.length t.2.1 : Int)) ∧ (K ((t3.1, (t3.2.1, t3.2.2)), ((t.1, (t.2.1.set (Int.toNat (0 : Int)) (w64 ((-1 : Int) - y14)), t.2.2)), ()))))) (K ((t3.1, (t3.2.1, t3.2.2)), ((t.1, (t.2.1, t.2.2)), ())))) := by
    intro t s hs hl hm
    obtain ⟨c, s', g, h'⟩ := ex58 hs (show (0 : Int) < 2 by decide) (by decide)
    cases c with
    | true =>
      obtain ⟨v, s'', gv, v0, v1, h''⟩ := ex56 h' (show (0 : Int) < 3 by decide) (by decide)
      refine ⟨(t.1, (t.2.1.set (Int.toNat (0 : Int)) (w64 ((-1 : Int) - v)), t.2.2)), by show (t.2.1.set _ _).length ≤ 2; rw [List.length_set]; exact hm, fun K hK => ?_⟩
      refine ⟨_, _, g, ?_⟩
      rw [bc_true rfl]
      exact ⟨_, _, gv, ⟨by decide, by omega⟩, hK⟩
    | false =>
      refine ⟨t, hm, fun K hK => ?_⟩
      refine ⟨_, _, g, ?_⟩
      rw [bc_false rfl]
      exact hK
  cases c4 with
  | true =>
    obtain ⟨r5, s5, g5, a5, b5, h5⟩ := ex56 h4 (show (0 : Int) < 5 by decide) (by decide)
    obtain ⟨t6, s6, g6, h6, l6, m6⟩ := ex57 h5 a5 b5
    obtain ⟨b, hb, hK⟩ := tail t6 s6 h6 l6 m6
    refine ⟨t3, b, M_sDrawUnifyAtoms _ _ _ ?_, m3, hb⟩
    refine ⟨_, g1, _, _, g2, _, _, g3, _, _, g4, ?_⟩
    rw [bc_true rfl]
    exact ⟨_, _, g5, _, _, g6, hK (fun r => r = (t3, (b, ()))) rfl⟩
  | false =>
    obtain ⟨t6, s6, g6, h6, l6, m6⟩ := ex57 h4 a2 b2
    obtain ⟨b, hb, hK⟩ := tail t6 s6 h6 l6 m6
    refine ⟨t3, b, M_sDrawUnifyAtoms _ _ _ ?_, m3, hb⟩
    refine ⟨_, g1, _, _, g2, _, _, g3, _, _, g4, ?_⟩
    rw [bc_false rfl]
    exact ⟨_, _, g6, hK (fun r => r = (t3, (b, ()))) rfl⟩

theorem g27 {x0 x1 : List Int} : G_lsameInts x0 x1 (decide (x0 = x1)) := M_lsameInts _ _ _ (by
  unfold S_lsameInts
  refine lenI fun _ => lenI fun _ => bc_ne (fun h => eq_no fun e => h (by rw [e])) (fun h => ?_)
  have he : x0.length = x1.length := by omega
  refine loop_anyI x0.length (fun i => decide (x0.getD i 0 ≠ x1.getD i 0)) (fun i => ((i : Int), ())) (KT := ((false, ()) : Bool × Unit) = (decide (x0 = x1), ())) (KF := ((true, ()) : Bool × Unit) = (decide (x0 = x1), ())) ?_ ?_ ?_ ?_
  · intro i hi X _ h1 h2
    have hi' : i < x1.length := by omega
    refine lenI fun _ => bcI hi (inI hi (inI hi' ?_))
    simp only
    rw [w64_succ (by omega)]
    simp only [Int.toNat_natCast]
    exact bc_ne (fun h => h1 (by simpa using h)) (fun h => h2 (by simpa using h))
  · intro X h; exact lenI fun _ => bcN h
  · rintro ⟨i, hi, h⟩
    exact eq_no fun e => by rw [e] at h; simp at h
  · intro hall
    refine eq_yes (List.ext_getElem he fun i h1 h2 => ?_)
    have := hall i h1
    simp only [ne_eq, decide_not, Bool.not_eq_false', decide_eq_true_eq] at this
    rw [getD_at h1, getD_at h2] at this
    exact this)
theorem res_rel {a b : TFact} (h : (res a b).2 = true) : a.1 = b.1 ∧ a.2.1.length = b.2.1.length ∧ (run (a.2.1.zip b.2.1) start).2 = true ∧ (res a b).1 = (run (a.2.1.zip b.2.1) start).1 := by
  unfold res at h ⊢
  by_cases h1 : a.1 = b.1
  · rw [if_pos h1] at h ⊢
    by_cases h2 : a.2.1.length = b.2.1.length
    · rw [if_pos h2] at h ⊢; exact ⟨h1, h2, h, rfl⟩
    · rw [if_neg h2] at h; cases h
  · rw [if_neg h1] at h; cases h
theorem res_no {a b : TFact} (h : (res a b).2 = false) : (res a b).1 = [] := by
  unfold res at h ⊢
  by_cases h1 : a.1 = b.1
  · rw [if_pos h1] at h ⊢
    by_cases h2 : a.2.1.length = b.2.1.length
    · rw [if_pos h2] at h ⊢; exact run_no _ _ h
    · rw [if_neg h2]
  · rw [if_neg h1]
theorem nrm_len : ∀ (d i : Nat) (p : List Int), (nrm d i p).length = p.length
  | 0, _, _ => rfl
  | d + 1, i, p => by unfold nrm; rw [nrm_len]; simp
theorem law {x0 : List Int} : G_lFnUnification x0 true := M_lFnUnification _ _ (by
  unfold S_lFnUnification
  refine ⟨decide ((x0.length : Int) > 1048576), M_lbig _ _ (by unfold S_lbig; exact lenI fun _ => rfl), bc_dec (fun _ => rfl) (fun hbig => ?_)⟩
  obtain ⟨a, b, hg, ha, hb⟩ := ex26 (x := x0) (by rw [maxLen_eq]; omega)
  refine ⟨a, b, hg, _, _, g19 (x0 := a) (x1 := b) (by omega), _, _, g17 (x0 := a) (x1 := b) (by omega), ?_⟩
  refine bc_nb (fun h => absurd rfl h) (fun _ => ⟨_, g27, bc_nd (fun h => absurd rfl h) fun _ => ?_⟩)
  refine bc_not (fun h => ?_) (fun h => ?_)
  · rw [res_no h]; exact lenI fun _ => rfl
  · obtain ⟨h1, h2, h3, h4⟩ := res_rel h
    obtain ⟨q, hq, e, _, hj⟩ := run_joins _ start start_uf h3
    rw [h4, e]
    have hat := nrm_at 10 0 q q rfl hq hq (fun _ _ _ => rfl) (fun j hj => by omega)
    have hlen := nrm_len 10 0 q
    rw [hq.1] at hlen
    generalize nrm 10 0 q = to at hat hlen ⊢
    refine loopP_of a.2.1.length (fun i => ((i : Int), ())) rfl ?_ ?_
    · intro i hi X hX
      have hib : i < b.2.1.length := by omega
      have hz : i < (a.2.1.zip b.2.1).length := by rw [List.length_zip]; omega
      have hm := List.getElem_mem hz
      rw [List.getElem_zip] at hm
      obtain ⟨ia, ib, hjo⟩ := hj _ hm
      have ia := inr_iff.mp ia
      have ib := inr_iff.mp ib
      simp only at ia ib hjo
      have at_ : ∀ x : Int, 0 ≤ x → x ≤ 9 → to.getD (Int.toNat x) 0 = fnd 12 q x := fun x h0 h9 => by
        rw [hat x.toNat (by omega), Int.toNat_of_nonneg h0]
      refine lenI fun _ => bcI hi (inI hi ?_)
      simp only
      rw [getI hi, w64_succ (by omega)]
      refine bc_dec (fun hx => ⟨⟨by omega, by omega⟩, inI hib ?_⟩) (fun hx => inI hib ?_)
      · rw [getI hib]
        refine bc_dec (fun hy => ?_) (fun hy => ?_)
        · rw [w64_id (by omega) (by omega)]
          refine ⟨⟨by omega, by omega⟩, bc_ne (fun h => absurd ?_ h) (fun _ => hX)⟩
          rw [at_ _ (by omega) (by omega), at_ _ (by omega) (by omega), hjo]
          unfold mv; rw [if_pos hy]
        · refine bc_ne (fun h => absurd ?_ h) (fun _ => hX)
          rw [at_ _ (by omega) (by omega), hjo]
          unfold mv; rw [if_neg hy, fnd_neg (by omega)]
      · rw [getI hib]
        refine bc_dec (fun hy => ?_) (fun hy => ?_)
        · rw [w64_id (by omega) (by omega)]
          refine ⟨⟨by omega, by omega⟩, bc_ne (fun h => absurd ?_ h) (fun _ => hX)⟩
          rw [at_ _ (by omega) (by omega)]
          have e1 : fnd 12 q a.2.1[i] = a.2.1[i] := fnd_neg (by omega)
          rw [← e1, hjo]
          unfold mv; rw [if_pos hy]
        · refine bc_ne (fun h => absurd ?_ h) (fun _ => hX)
          have e1 : fnd 12 q a.2.1[i] = a.2.1[i] := fnd_neg (by omega)
          rw [← e1, hjo]
          unfold mv; rw [if_neg hy, fnd_neg (by omega)]
    · intro X
      refine lenI fun _ => bcN ?_
      rw [h1]
      simp)
end Go.V
