/-
  The functions that the law reaches: what each gives.
-/
import Derived.Test.YtegfjcnhendciaaGreatGF
import Derived.Test.YtegfjcnhendciaaGreatGP
set_option linter.unusedVariables false
set_option linter.unusedSimpArgs false
set_option maxRecDepth 1000000
set_option maxHeartbeats 4000000
set_option linter.unusedVariables false
set_option linter.unusedSimpArgs false
namespace Go.V
open Go
theorem g_slices_Sort_int_ooz {x0 : List Int} (h : x0.length ≤ 1099511627776) : G_slices_Sort_int_ooz x0 (sortI x0) := prim_sort h
theorem g_slices_Compact_int_ooz {x0 : List Int} : G_slices_Compact_int_ooz x0 (compI x0) := prim_compact
def cmpI (a b : Int) : Int := if a < b then -1 else if b < a then 1 else 0
def cmpL : List Int → List Int → Int
  | [], [] => 0
  | [], _ :: _ => -1
  | _ :: _, [] => 1
  | a :: x, b :: y => if a < b then -1 else if b < a then 1 else cmpL x y
def cmpF (a b : TFact) : Int := if a.1 < b.1 then -1 else if b.1 < a.1 then 1 else cmpL a.2.1 b.2.1
theorem cmpL_zero : ∀ {x y : List Int}, cmpL x y = 0 ↔ x = y
  | [], [] => by simp [cmpL]
  | [], b :: y => by simp [cmpL]
  | a :: x, [] => by simp [cmpL]
  | a :: x, b :: y => by
    unfold cmpL
    split
    · rename_i h; constructor
      · intro h'; cases h'
      · intro h'; cases h'; omega
    · split
      · rename_i h; constructor
        · intro h'; cases h'
        · intro h'; cases h'; omega
      · rw [cmpL_zero]
        have : a = b := by omega
        simp [this]
theorem cmpF_zero {x y : TFact} : cmpF x y = 0 ↔ x = y := by
  obtain ⟨a, b, u⟩ := x; obtain ⟨a', b', u'⟩ := y
  unfold cmpF
  simp only
  split
  · rename_i h; constructor
    · intro h'; cases h'
    · intro h'; cases h'; omega
  · split
    · rename_i h; constructor
      · intro h'; cases h'
      · intro h'; cases h'; omega
    · rw [cmpL_zero]
      have : a = a' := by omega
      simp [this]
theorem cmpL_step {x y : List Int} {i : Nat} (h : i < x.length) (h' : i < y.length) : cmpL (x.drop i) (y.drop i) = if x[i] < y[i] then -1 else if y[i] < x[i] then 1 else cmpL (x.drop (i + 1)) (y.drop (i + 1)) := by
  rw [drop_cons h, drop_cons h', cmpL]
theorem cmpL_end {x y : List Int} {i : Nat} (h : x.length ≤ i) : cmpL (x.drop i) (y.drop i) = if i < y.length then -1 else 0 := by
  rw [List.drop_of_length_le h]
  by_cases h' : i < y.length
  · rw [drop_cons h', if_pos h']; rfl
  · rw [List.drop_of_length_le (by omega), if_neg h']; rfl
theorem cmpL_end' {x y : List Int} {i : Nat} (h : i < x.length) (h' : y.length ≤ i) : cmpL (x.drop i) (y.drop i) = 1 := by
  rw [List.drop_of_length_le h', drop_cons h]; rfl
/- ## sorted rows of integers, each once -/
def ins : List Int → Int → List Int
  | [], x => [x]
  | a :: l, x => if a < x then a :: ins l x else if a = x then a :: l else x :: a :: l
def srt (l : List Int) : Prop := l.Pairwise (· < ·)
def sset (l : List Int) : List Int := l.foldl ins []
theorem mem_put {y x : Int} : ∀ {l : List Int}, y ∈ ins l x ↔ y = x ∨ y ∈ l
  | [] => by simp [ins]
  | a :: l => by
    unfold ins
    split
    · rw [List.mem_cons, mem_put, List.mem_cons]
      constructor
      · rintro (h | h | h) <;> simp [h]
      · rintro (h | h | h) <;> simp [h]
    · split
      · rename_i h; subst h; simp
      · simp
theorem srt_put {x : Int} : ∀ {l : List Int}, srt l → srt (ins l x)
  | [], _ => by simp [ins, srt]
  | a :: l, h => by
    obtain ⟨h1, h2⟩ := List.pairwise_cons.mp h
    unfold ins
    split
    · rename_i hlt
      refine List.pairwise_cons.mpr ⟨fun y hy => ?_, srt_put h2⟩
      rcases mem_put.mp hy with rfl | hy
      · exact hlt
      · exact h1 y hy
    · split
      · exact h
      · refine List.pairwise_cons.mpr ⟨fun y hy => ?_, h⟩
        rcases List.mem_cons.mp hy with rfl | hy
        · omega
        · have := h1 y hy; omega
theorem foldput {l : List Int} : ∀ {s : List Int}, srt s → srt (l.foldl ins s) ∧ ∀ y, y ∈ l.foldl ins s ↔ y ∈ s ∨ y ∈ l := by
  induction l with
  | nil => intro s h; exact ⟨h, by simp⟩
  | cons a l ih =>
    intro s h
    obtain ⟨h1, h2⟩ := ih (srt_put (x := a) h)
    refine ⟨h1, fun y => ?_⟩
    rw [List.foldl_cons, h2, mem_put, List.mem_cons]
    constructor
    · rintro ((h | h) | h) <;> simp [h]
    · rintro (h | h | h) <;> simp [h]
theorem srt_sset (l : List Int) : srt (sset l) := (foldput List.Pairwise.nil).1
theorem mem_sset {l : List Int} {y : Int} : y ∈ sset l ↔ y ∈ l := by have := (foldput (l := l) List.Pairwise.nil).2 y; simpa [sset] using this
theorem srt_ext : ∀ {a b : List Int}, srt a → srt b → (∀ y, y ∈ a ↔ y ∈ b) → a = b
  | [], [], _, _, _ => rfl
  | [], y :: b, _, _, h => by have := (h y).mpr (by simp); simp at this
  | x :: a, [], _, _, h => by have := (h x).mp (by simp); simp at this
  | x :: a, y :: b, ha, hb, h => by
    obtain ⟨ha1, ha2⟩ := List.pairwise_cons.mp ha
    obtain ⟨hb1, hb2⟩ := List.pairwise_cons.mp hb
    have hxy : x = y := by
      rcases List.mem_cons.mp ((h x).mp (by simp)) with e | hx
      · exact e
      · rcases List.mem_cons.mp ((h y).mpr (by simp)) with e | hy
        · exact e.symm
        · have := ha1 y hy; have := hb1 x hx; omega
    subst hxy
    congr 1
    refine srt_ext ha2 hb2 fun z => ⟨fun hz => ?_, fun hz => ?_⟩
    · rcases List.mem_cons.mp ((h z).mp (by simp [hz])) with e | h'
      · have := ha1 z hz; omega
      · exact h'
    · rcases List.mem_cons.mp ((h z).mpr (by simp [hz])) with e | h'
      · have := hb1 z hz; omega
      · exact h'
theorem sset_of {a l : List Int} (h1 : srt a) (h2 : ∀ y, y ∈ a ↔ y ∈ l) : a = sset l := srt_ext h1 (srt_sset l) fun y => by rw [h2, mem_sset]
theorem sset_congr {l m : List Int} (h : ∀ y, y ∈ l ↔ y ∈ m) : sset l = sset m := sset_of (srt_sset l) fun y => by rw [mem_sset, h]
theorem foldput_sset {l m : List Int} : (sset m).foldl ins (sset l) = sset (l ++ m) := by
  obtain ⟨h1, h2⟩ := foldput (l := sset m) (srt_sset l)
  exact sset_of h1 fun y => by rw [h2, mem_sset, mem_sset, List.mem_append]
theorem sset_snoc {l : List Int} {x : Int} : ins (sset l) x = sset (l ++ [x]) := by unfold sset; rw [List.foldl_append]; rfl
theorem put_len (l : List Int) (x : Int) : (ins l x).length ≤ l.length + 1 := by
  induction l with
  | nil => simp [ins]
  | cons a l ih => unfold ins; split; simp; omega; split <;> simp
theorem sset_len (l : List Int) : (sset l).length ≤ l.length := by
  have : ∀ (l s : List Int), (l.foldl ins s).length ≤ s.length + l.length := by
    intro l
    induction l with
    | nil => intro s; simp
    | cons a l ih => intro s; have := ih (ins s a); have := put_len s a; simp only [List.foldl_cons, List.length_cons]; omega
  have := this l []
  simpa [sset] using this
theorem sset_nil_iff {l : List Int} : sset l = [] ↔ l = [] := by
  constructor
  · intro h
    apply List.eq_nil_iff_forall_not_mem.mpr
    intro y hy
    have := mem_sset.mpr hy
    rw [h] at this; simp at this
  · rintro rfl; rfl
/-- strictly sorted numbers of a range are few -/
theorem srt_range {l : List Int} {a : Int} : ∀ {n : Nat}, srt l → (∀ y ∈ l, a ≤ y ∧ y < a + n) → l.length ≤ n := by
  induction l generalizing a with
  | nil => intro n _ _; simp
  | cons x l ih =>
    intro n h hr
    obtain ⟨h1, h2⟩ := List.pairwise_cons.mp h
    have hx := hr x (by simp)
    have := ih (a := x + 1) (n := (a + n - (x + 1)).toNat) h2 fun y hy => by
      have := h1 y hy; have := hr y (by simp [hy]); omega
    simp only [List.length_cons]; omega
theorem srt_last {l : List Int} (h : srt l) (hne : l ≠ []) : ∀ y ∈ l, y ≤ l.getLast hne := by
  intro y hy
  have hs : l = l.dropLast ++ [l.getLast hne] := (List.dropLast_concat_getLast hne).symm
  rw [hs] at h hy
  unfold srt at h
  rw [List.pairwise_append] at h
  rcases List.mem_append.mp hy with hy | hy
  · have := h.2.2 y hy (l.getLast hne) (by simp); omega
  · have : y = l.getLast hne := by simpa using hy
    omega
theorem put_eq (l : List Int) (x : Int) : ins l x = if h : firstAt (fun a => !decide (a < x)) l < l.length then (if l[firstAt (fun a => !decide (a < x)) l] = x then l else l.take (firstAt (fun a => !decide (a < x)) l) ++ x :: l.drop (firstAt (fun a => !decide (a < x)) l)) else l ++ [x] := by
  induction l with
  | nil => simp [ins, firstAt]
  | cons a l ih =>
    unfold ins
    by_cases ha : a < x
    · have e : firstAt (fun a => !decide (a < x)) (a :: l) = firstAt (fun a => !decide (a < x)) l + 1 := by simp [firstAt, ha]
      rw [if_pos ha, ih]
      by_cases hf : firstAt (fun a => !decide (a < x)) l < l.length
      · rw [dif_pos hf, dif_pos (by rw [e]; simpa using hf)]
        simp only [e, List.getElem_cons_succ, List.take_succ_cons, List.drop_succ_cons]
        split
        · rfl
        · rfl
      · rw [dif_neg hf, dif_neg (by rw [e]; simpa using hf)]
        rfl
    · have e : firstAt (fun a => !decide (a < x)) (a :: l) = 0 := by simp [firstAt, ha]
      rw [if_neg ha, dif_pos (by rw [e]; simp)]
      simp only [e, List.getElem_cons_zero, List.take_zero, List.drop_zero, List.nil_append]
theorem g_sl4Put {l : List Int} {x : Int} (hl : l.length ≤ 1073741824) : G_sl4Put l x (ins l x) := M_sl4Put _ _ _ (by
  unfold S_sl4Put
  have fin : ∀ (k : Nat), k ≤ l.length → ((0 ≤ (k : Int) ∧ (k : Int) ≤ (List.length l : Int) ∧ (List.length l : Int) ≤ (List.length l : Int)) ∧ (([x] : List Int).length + (List.drop (Int.toNat (k : Int)) (List.take (Int.toNat (List.length l : Int)) l)).length ≤ maxL ∧ ((0 ≤ (0 : Int) ∧ (0 : Int) ≤ (k : Int) ∧ (k : Int) ≤ (List.length l : Int)) ∧ (([] : List Int).length + (List.drop (Int.toNat (0 : Int)) (List.take (Int.toNat (k : Int)) l)).length ≤ maxL ∧ ((([] : List Int) ++ (List.drop (Int.toNat (0 : Int)) (List.take (Int.toNat (k : Int)) l))).length + (([x] : List Int) ++ (List.drop (Int.toNat (k : Int)) (List.take (Int.toNat (List.length l : Int)) l))).length ≤ maxL ∧ (((([] : List Int) ++ (List.drop (Int.toNat (0 : Int)) (List.take (Int.toNat (k : Int)) l))) ++ (([x] : List Int) ++ (List.drop (Int.toNat (k : Int)) (List.take (Int.toNat (List.length l : Int)) l))), ()) : List Int × Unit) = (l.take k ++ x :: l.drop k, ()))))) ) := by
    intro k hk
    simp only [Int.toNat_natCast, List.take_length, Int.toNat_zero, List.drop_zero, List.nil_append, List.length_nil, List.length_cons, List.length_append, List.length_take, List.length_drop, maxL, List.cons_append]
    refine ⟨⟨by omega, by omega, by omega⟩, by omega, ⟨by omega, by omega, by omega⟩, by omega, by omega, trivial⟩
  rw [put_eq]
  refine loop_first l (fun a => !decide (a < x)) (fun i => ((i : Int), ())) (KT := fun i => ∀ h : i < l.length, ∀ r : List Int × Unit, r = (if l[i] = x then l else l.take i ++ x :: l.drop i, ()) → r = ((if h : firstAt (fun a => !decide (a < x)) l < l.length then (if l[firstAt (fun a => !decide (a < x)) l] = x then l else l.take (firstAt (fun a => !decide (a < x)) l) ++ x :: l.drop (firstAt (fun a => !decide (a < x)) l)) else l ++ [x]), ()))
    (KF := ∀ r : List Int × Unit, r = (l ++ [x], ()) → r = ((if h : firstAt (fun a => !decide (a < x)) l < l.length then (if l[firstAt (fun a => !decide (a < x)) l] = x then l else l.take (firstAt (fun a => !decide (a < x)) l) ++ x :: l.drop (firstAt (fun a => !decide (a < x)) l)) else l ++ [x]), ())) ?_ ?_ ?_ ?_
  · intro i hi X h1 h2
    refine lenI fun hl' => bcI hi (inI hi ?_)
    simp only
    rw [getI hi, w64_succ (by omega)]
    refine bc_dec (fun h => h2 (by simpa using h)) (fun h => ?_)
    have h1 := h1 (by simpa using h) hi
    refine lenI fun _ => bcI hi (inI hi (bc_beq (fun he => h1 _ (by rw [if_pos he])) (fun he => ?_)))
    rw [if_neg he] at h1
    have := fin i (by omega)
    exact ⟨this.1, this.2.1, this.2.2.1, this.2.2.2.1, this.2.2.2.2.1, h1 _ this.2.2.2.2.2⟩
  · intro X h
    refine lenI fun hl' => bcN (lenI fun _ => bcN ?_)
    have := fin l.length (by omega)
    refine ⟨this.1, this.2.1, this.2.2.1, this.2.2.2.1, this.2.2.2.2.1, h _ (this.2.2.2.2.2.trans (by simp))⟩
  · intro h h' r hr; rw [hr, dif_pos h]
  · intro h r hr; rw [hr, dif_neg (by omega)])
theorem g_sl4Has {l : List Int} {x : Int} : G_sl4Has l x (decide (x ∈ l)) := M_sl4Has _ _ _ (by
  unfold S_sl4Has
  refine loop_any l (fun a => x == a) (fun i => ((i : Int), ())) (KT := ((true, ()) : Bool × Unit) = (decide (x ∈ l), ())) (KF := ((false, ()) : Bool × Unit) = (decide (x ∈ l), ())) ?_ (fun X h => lenI fun _ => bcN h) (fun h => ?_) (fun h => ?_)
  · intro i hi X h1 h2
    refine lenI fun _ => bcI hi (inI hi ?_)
    simp only
    rw [getI hi, w64_succ (by omega)]
    exact bc_beq (fun h => h1 (by simp [h])) (fun h => h2 (by simpa using fun e => h e.symm))
  · rw [any_mem] at h; rw [h]
  · rw [any_mem] at h; rw [h])
theorem sortI_mem {l : List Int} {y : Int} : y ∈ sortI l ↔ y ∈ l := by unfold sortI; simp
theorem sortI_sorted (l : List Int) : (sortI l).Pairwise (· ≤ ·) := by
  unfold sortI
  have := List.pairwise_mergeSort (le := fun a b : Int => decide (a ≤ b)) (fun a b c h1 h2 => by simp at *; omega) (fun a b => by simp; omega) l
  exact this.imp fun h => by simpa using h
theorem comp_sort (l : List Int) : compI (sortI l) = sset l := by
  have hs := sortI_sorted l
  have hget : ∀ i j (hi : i < (sortI l).length) (hj : j < (sortI l).length), i ≤ j → (sortI l)[i] ≤ (sortI l)[j] := by
    intro i j hi hj h
    rcases Nat.lt_or_ge i j with h | h
    · exact List.pairwise_iff_getElem.mp hs i j hi hj h
    · have : i = j := by omega
      subst this; omega
  have ex : compI (sortI l) = ((List.range (sortI l).length).filter (Lib.keeps (sortI l).toArray)).map ((sortI l).toArray[·]!) := rfl
  refine sset_of ?_ ?_
  · rw [ex]
    unfold srt
    rw [List.pairwise_map, List.pairwise_filter]
    refine List.Pairwise.imp_of_mem (R := (· < ·)) ?_ List.pairwise_lt_range
    intro i j hi hj hij _ kj
    have hi := List.mem_range.mp hi; have hj := List.mem_range.mp hj
    have e1 : (sortI l).toArray[i]! = (sortI l)[i] := by simp [hi]
    have e2 : (sortI l).toArray[j]! = (sortI l)[j] := by simp [hj]
    have e3 : (sortI l).toArray[j - 1]! = (sortI l)[j - 1]'(by omega) := by rw [getElem!_pos (sortI l).toArray (j - 1) (by simp; omega)]; rfl
    rw [e1, e2]
    unfold Lib.keeps at kj
    rw [e2, e3] at kj
    have h1 := hget i (j - 1) hi (by omega) (by omega)
    have h2 := hget (j - 1) j (by omega) hj (by omega)
    rcases of_decide_eq_true kj with h | h
    · omega
    · omega
  · intro y
    rw [ex, List.mem_map]
    constructor
    · rintro ⟨j, hj, rfl⟩
      have hj := List.mem_range.mp (List.mem_filter.mp hj).1
      have e : (sortI l).toArray[j]! = (sortI l)[j] := by simp [hj]
      rw [e, ← sortI_mem]; exact List.getElem_mem hj
    · intro hy
      rw [← sortI_mem] at hy
      -- the first place that holds y
      have hf : firstAt (fun t => t == y) (sortI l) < (sortI l).length := firstAt_any.mpr (List.any_eq_true.mpr ⟨y, hy, by simp⟩)
      have h2 := firstAt_at hf
      have h3 : (sortI l)[firstAt (fun t => t == y) (sortI l)] = y := by simpa using h2
      refine ⟨firstAt (fun t => t == y) (sortI l), List.mem_filter.mpr ⟨List.mem_range.mpr hf, ?_⟩, by simp [hf, h3]⟩
      unfold Lib.keeps
      rw [decide_eq_true_iff]
      by_cases h0 : firstAt (fun t => t == y) (sortI l) = 0
      · exact .inl h0
      · right
        have hlt : firstAt (fun t => t == y) (sortI l) - 1 < (sortI l).length := by omega
        have h4 := firstAt_lt (p := fun t => t == y) (l := sortI l) hlt (by omega)
        have e1 : (sortI l).toArray[firstAt (fun t => t == y) (sortI l)]! = y := by simp [hf, h3]
        have e2 : (sortI l).toArray[firstAt (fun t => t == y) (sortI l) - 1]! = (sortI l)[firstAt (fun t => t == y) (sortI l) - 1] := by simp [hlt]
        rw [e1, e2]
        intro e
        rw [← e] at h4; simp at h4
/- ## relations, atoms, dependencies: which are valid -/
def inR (x a b : Int) : Bool := decide (a ≤ x) && decide (x ≤ b)
theorem any_not {α : Type} {p : α → Bool} {l : List α} : (l.any fun t => !p t) = !(l.all p) := by
  induction l with
  | nil => rfl
  | cons a l ih => simp only [List.any_cons, List.all_cons, ih]; cases p a <;> simp
theorem nt {b : Bool} (h : (!b) = true) : b = false := by simpa using h
theorem nf {b : Bool} (h : (!b) = false) : b = true := by simpa using h
theorem flat_split {α β : Type} (f : α → List β) {l : List α} {i : Nat} (h : i < l.length) : (l.flatMap f).length = ((l.take i).flatMap f).length + ((f l[i]).length + ((l.drop (i + 1)).flatMap f).length) := by
  have e : l = l.take i ++ l[i] :: l.drop (i + 1) := by rw [← drop_cons h, List.take_append_drop]
  have := congrArg (fun m => (m.flatMap f).length) e
  simp only [List.flatMap_append, List.flatMap_cons, List.length_append] at this
  exact this
theorem inR_iff {x a b : Int} : inR x a b = true ↔ a ≤ x ∧ x ≤ b := by simp [inR]
theorem bl_tri : ∀ {a b : List UInt8}, (Op.bytesLess b a || b == a) = !(Op.bytesLess a b)
  | [], [] => by decide
  | [], y :: b => by simp [Op.bytesLess]
  | x :: a, [] => by simp [Op.bytesLess]
  | x :: a, y :: b => by
    have ih := bl_tri (a := a) (b := b)
    simp only [Op.bytesLess]
    by_cases h : y < x
    · have h2 : ¬ x < y := UInt8.lt_asymm h
      have h3 : ¬ x = y := by rintro rfl; exact UInt8.lt_irrefl _ h
      simp [h, h2, h3]
    · by_cases h2 : x < y
      · have h3 : ¬ y = x := by rintro rfl; exact h h2
        simp [h, h2, h3]
      · have h3 : x = y := UInt8.le_antisymm (UInt8.not_lt.mp h) (UInt8.not_lt.mp h2)
        subst h3
        simp only [h, decide_false, beq_self_eq_true, Bool.true_and, Bool.false_or]
        rw [← ih]
        by_cases h4 : b = a <;> simp [h4]
def vRel (r : TRel) : Bool := (r.1.length == 1) && decide (97 ≤ (r.1.getD 0 0).toNat) && decide ((r.1.getD 0 0).toNat ≤ 122) && inR r.2.1 1 3
def relAt (l : List TRel) (i : Nat) : TRel := l.getD i zRel
def vRels (l : List TRel) : Bool := ((List.range l.length).all fun i => vRel (relAt l i) && (i == 0 || Op.bytesLess (relAt l (i - 1)).1 (relAt l i).1)) && decide (l.length ≤ 6)
theorem relAt_get {l : List TRel} {i : Nat} (h : i < l.length) : relAt l i = l[i] := getD_at h
theorem vRels_mem {l : List TRel} (h : vRels l = true) {r : TRel} (hr : r ∈ l) : vRel r = true := by
  unfold vRels at h
  rw [Bool.and_eq_true] at h
  obtain ⟨i, hi, rfl⟩ := List.mem_iff_getElem.mp hr
  have := List.all_eq_true.mp h.1 i (List.mem_range.mpr hi)
  rw [Bool.and_eq_true, relAt_get hi] at this
  exact this.1
theorem vRels_len {l : List TRel} (h : vRels l = true) : l.length ≤ 6 := by
  unfold vRels at h; simp at h; exact h.2
theorem vRel_arity {r : TRel} (h : vRel r = true) : 1 ≤ r.2.1 ∧ r.2.1 ≤ 3 := by
  unfold vRel at h; simp [inR] at h; exact h.2
def arity (l : List TRel) (i : Int) : Int := (l.getD (Int.toNat i) zRel).2.1
def srcAt (l : List TRel) (i : Int) : Bool := (l.getD (Int.toNat i) zRel).2.2.1
/-- a row of numbers at a relation, each with ok -/
def vRow (ok : Int → Bool) (l : List TRel) (a : TFact) : Bool := vRels l && inR a.1 0 ((l.length : Int) - 1) && ((a.2.1.length : Int) == arity l a.1) && a.2.1.all ok
theorem vRow_spec {ok : Int → Bool} {l : List TRel} {a : TFact} (h : vRow ok l a = true) : vRels l = true ∧ 0 ≤ a.1 ∧ a.1 < l.length ∧ (a.2.1.length : Int) = arity l a.1 ∧ a.2.1.length ≤ 3 ∧ ∀ v ∈ a.2.1, ok v = true := by
  unfold vRow at h
  simp only [Bool.and_eq_true, beq_iff_eq, List.all_eq_true] at h
  obtain ⟨⟨⟨h1, h2⟩, h3⟩, h4⟩ := h
  have h2 := inR_iff.mp h2
  have hlt : a.1.toNat < l.length := by omega
  have := vRel_arity (vRels_mem h1 (List.getElem_mem hlt))
  have e : arity l a.1 = l[a.1.toNat].2.1 := by unfold arity; rw [getD_at hlt]
  exact ⟨h1, h2.1, by omega, h3, by omega, h4⟩
def vTerm (t : Int) : Bool := inR t (-10) 4
def vAtom (l : List TRel) (a : TFact) : Bool := vRow vTerm l a
def vars (l : List TFact) : List Int := sset ((l.flatMap (·.2.1)).filter fun t => decide (0 ≤ t))
def vDep (l : List TRel) (d : TDep) : Bool := inR d.1.length 1 2 && d.1.all (vAtom l) &&
  (if d.2.2.1 then decide (d.2.1 = []) && decide (d.2.2.2.1 ∈ vars d.1) && decide (d.2.2.2.2.1 ∈ vars d.1) && decide (d.2.2.2.1 < d.2.2.2.2.1)
   else d.2.1.all (fun a => vAtom l a && !(srcAt l a.1)) && inR d.2.1.length 1 2 && (d.2.2.2.1 == 0) && (d.2.2.2.2.1 == 0))
def vDeps (l : List TRel) (ds : List TDep) : Bool := ds.all (vDep l) && vRels l && decide (ds.length ≤ 5)
def exV (d : TDep) : List Int := (vars d.2.1).filter fun v => !decide (v ∈ vars d.1)
def frV (d : TDep) : List Int := (vars d.2.1).filter fun v => decide (v ∈ vars d.1)
def full (d : TDep) : Bool := !d.2.2.1 && (exV d).isEmpty
theorem atoms_len {l : List TRel} {ats : List TFact} (h : ats.all (vAtom l) = true) : (ats.flatMap (·.2.1)).length ≤ 3 * ats.length := by
  induction ats with
  | nil => simp
  | cons a ats ih =>
    simp only [List.all_cons, Bool.and_eq_true] at h
    have h1 := (vRow_spec h.1).2.2.2.2.1
    have := ih h.2
    simp only [List.flatMap_cons, List.length_append, List.length_cons]
    omega
theorem vars_len (l : List TFact) : (vars l).length ≤ (l.flatMap (·.2.1)).length := Nat.le_trans (sset_len _) (List.length_filter_le _ _)
theorem g_sl1In {x a b : Int} : G_sl1In x a b (inR x a b) := M_sl1In _ _ _ _ (by
  unfold S_sl1In inR
  refine bc_dec (fun h => ?_) (fun h => ?_)
  · rw [decide_eq_true (show a ≤ x from h), Bool.true_and]
  · rw [decide_eq_false (show ¬ a ≤ x from h), Bool.false_and])
theorem g_iwithin {x a b : Int} : G_iwithin x a b (inR x a b) := M_iwithin _ _ _ _ (by
  unfold S_iwithin inR
  refine bc_dec (fun h => ?_) (fun h => ?_)
  · rw [decide_eq_true h, Bool.true_and]
  · rw [decide_eq_false h, Bool.false_and])
theorem g_sIsValidRelation {r : TRel} : G_sIsValidRelation r (vRel r) := M_sIsValidRelation _ _ (by
  unfold S_sIsValidRelation
  have no : ∀ {b : Bool}, vRel r = b → ((b, ()) : Bool × Unit) = (vRel r, ()) := fun h => by rw [h]
  refine lenI fun _ => bc_beq (fun h => ?_) (fun h => no ?_)
  · have h1 : r.1.length = 1 := by omega
    refine ⟨⟨by omega, by omega⟩, ?_⟩
    refine bc_dec (fun h2 => ⟨⟨by omega, by omega⟩, bc_dec (fun h3 => ⟨_, g_sl1In, no ?_⟩) (fun h3 => no ?_)⟩) (fun h2 => no ?_)
    · unfold vRel
      have a1 : decide (97 ≤ (r.1.getD 0 0).toNat) = true := decide_eq_true (by have h2 : (97 : Int) ≤ ((r.1.getD 0 0).toNat : Int) := h2; omega)
      have a2 : decide ((r.1.getD 0 0).toNat ≤ 122) = true := decide_eq_true (by have h3 : ((r.1.getD 0 0).toNat : Int) ≤ 122 := h3; omega)
      rw [a1, a2]; simp [h1]
    · unfold vRel
      have a2 : decide ((r.1.getD 0 0).toNat ≤ 122) = false := decide_eq_false (by have h3 : ¬ ((r.1.getD 0 0).toNat : Int) ≤ 122 := h3; omega)
      rw [a2]; simp
    · unfold vRel
      have a1 : decide (97 ≤ (r.1.getD 0 0).toNat) = false := decide_eq_false (by have h2 : ¬ (97 : Int) ≤ ((r.1.getD 0 0).toNat : Int) := h2; omega)
      rw [a1]; simp
  · unfold vRel
    have : (r.1.length == 1) = false := by simp; omega
    rw [this]; simp)
theorem vRels_no {l : List TRel} {i : Nat} (h : i < l.length) (hp : (vRel (relAt l i) && (i == 0 || Op.bytesLess (relAt l (i - 1)).1 (relAt l i).1)) = false) : vRels l = false := by
  unfold vRels
  rw [Bool.and_eq_false_iff]; left
  rw [Bool.eq_false_iff]; intro hall
  have := List.all_eq_true.mp hall i (List.mem_range.mpr h)
  rw [hp] at this; cases this
theorem vRels_yes {l : List TRel} (hp : ∀ i, i < l.length → (!(vRel (relAt l i) && (i == 0 || Op.bytesLess (relAt l (i - 1)).1 (relAt l i).1))) = false) : vRels l = decide (l.length ≤ 6) := by
  unfold vRels
  have : ((List.range l.length).all fun i => vRel (relAt l i) && (i == 0 || Op.bytesLess (relAt l (i - 1)).1 (relAt l i).1)) = true :=
    List.all_eq_true.mpr fun i hi => by have := hp i (List.mem_range.mp hi); rwa [Bool.not_eq_false'] at this
  rw [this, Bool.true_and]
theorem g_sAreValidRelations {l : List TRel} : G_sAreValidRelations l (vRels l) := M_sAreValidRelations _ _ (by
  unfold S_sAreValidRelations
  refine loop_anyI l.length (fun i => !(vRel (relAt l i) && (i == 0 || Op.bytesLess (relAt l (i - 1)).1 (relAt l i).1))) (fun i => ((i : Int), ())) (KT := ((false, ()) : Bool × Unit) = (vRels l, ())) (KF := ((decide ((List.length l : Int) ≤ 6), ()) : Bool × Unit) = (vRels l, ())) ?_ (fun X h => lenI fun _ => bcN (lenI fun _ => h)) ?_ ?_
  · intro i hi X hb h1 h2
    refine lenI fun hl => bcI hi (inI hi ⟨_, g_sIsValidRelation, ?_⟩)
    simp only
    rw [getI hi, w64_succ (by omega)]
    rw [relAt_get hi] at h1 h2
    refine bc_not (fun h => h1 (by simp [h])) (fun h => bc_dec (fun h0 => ?_) (fun h0 => h2 (by obtain rfl : i = 0 := (by omega); simp [h])))
    have hi' : i - 1 < l.length := by omega
    have hw : w64 ((i : Int) - 1) = ((i - 1 : Nat) : Int) := by rw [w64_id (by omega) (by omega)]; omega
    rw [hw]
    refine inI hi' (inI hi ?_)
    rw [getI hi']
    rw [relAt_get hi'] at h1 h2
    have hz : (i == 0) = false := by simp; omega
    rw [hz, Bool.false_or, h, Bool.true_and] at h1 h2
    exact bc_if (fun h => h1 h) (fun h => h2 h)
  · rintro ⟨i, hi, hp⟩
    rw [vRels_no hi (by rwa [Bool.not_eq_true'] at hp)]
  · intro hp
    rw [vRels_yes hp]
    congr 1
    exact decide_eq_decide.mpr (by omega))
theorem g_iIsValidRelation {r : TRel} : G_iIsValidRelation r (vRel r) := M_iIsValidRelation _ _ (by
  unfold S_iIsValidRelation
  have no : ∀ {b : Bool}, vRel r = b → ((b, ()) : Bool × Unit) = (vRel r, ()) := fun h => by rw [h]
  refine lenI fun _ => bc_beq (fun h => ?_) (fun h => no ?_)
  · have h1 : r.1.length = 1 := by omega
    obtain ⟨c, hc⟩ : ∃ c, r.1 = [c] := List.length_eq_one_iff.mp h1
    rw [hc]
    have e1 : (!(Op.bytesLess [c] [97])) = decide (97 ≤ c.toNat) := by
      simp only [Op.bytesLess, Bool.and_false, Bool.or_false]
      by_cases h : c < 97
      · have : c.toNat < 97 := h
        simp [h]; omega
      · have : ¬ c.toNat < 97 := h
        simp [h]; omega
    have e2 : (Op.bytesLess [c] [122] || [c] == [122]) = decide (c.toNat ≤ 122) := by
      simp only [Op.bytesLess, Bool.and_false, Bool.or_false]
      by_cases h : c < 122
      · have : c.toNat < 122 := h
        simp [h]; omega
      · have : ¬ c.toNat < 122 := h
        by_cases h2 : c = 122
        · subst h2; simp
        · have h3 : c.toNat ≠ 122 := fun e => h2 (UInt8.toNat_inj.mp e)
          have d2 : ([c] == [(122 : UInt8)]) = false := by simp [h2]
          rw [decide_eq_false h, d2, decide_eq_false (by omega)]; rfl
    rw [e1, e2]
    refine bc_dec (fun h2 => bc_dec (fun h3 => ⟨_, g_iwithin, no ?_⟩) (fun h3 => no ?_)) (fun h2 => no ?_)
    · unfold vRel; rw [hc]; simp [h2, h3]
    · unfold vRel; rw [hc]
      show ((1 == 1) && decide (97 ≤ c.toNat) && decide (c.toNat ≤ 122) && inR r.2.1 1 3) = false
      rw [decide_eq_false h3]; simp
    · unfold vRel; rw [hc]
      show ((1 == 1) && decide (97 ≤ c.toNat) && decide (c.toNat ≤ 122) && inR r.2.1 1 3) = false
      rw [decide_eq_false h2]; simp
  · unfold vRel
    have : (r.1.length == 1) = false := by simp; omega
    rw [this]; simp)
theorem g_iAreValidRelations {l : List TRel} : G_iAreValidRelations l (vRels l) := M_iAreValidRelations _ _ (by
  unfold S_iAreValidRelations
  refine lenI fun hl => loop_anyI l.length (fun i => !(vRel (relAt l i) && (i == 0 || Op.bytesLess (relAt l (i - 1)).1 (relAt l i).1))) (fun i => ((i : Int), ())) (KT := ((false, ()) : Bool × Unit) = (vRels l, ())) (KF := ((decide ((List.length l : Int) ≤ 6), ()) : Bool × Unit) = (vRels l, ())) ?_ (fun X h => bcN (lenI fun _ => h)) ?_ ?_
  · intro i hi X hb h1 h2
    refine bcI hi (inI hi ⟨_, g_iIsValidRelation, ?_⟩)
    simp only
    rw [getI hi, w64_succ (by omega)]
    rw [relAt_get hi] at h1 h2
    refine bc_not (fun h => h1 (by simp [h])) (fun h => bc_dec (fun h0 => ?_) (fun h0 => h2 (by obtain rfl : i = 0 := (by omega); simp [h])))
    have hi' : i - 1 < l.length := by omega
    have hw : w64 ((i : Int) - 1) = ((i - 1 : Nat) : Int) := by rw [w64_id (by omega) (by omega)]; omega
    rw [hw]
    refine inI hi' ?_
    rw [getI hi']
    rw [relAt_get hi'] at h1 h2
    have hz : (i == 0) = false := by simp; omega
    rw [hz, Bool.false_or, h, Bool.true_and] at h1 h2
    rw [bl_tri]
    exact bc_if (fun h => h1 h) (fun h => h2 h)
  · rintro ⟨i, hi, hp⟩
    rw [vRels_no hi (by rwa [Bool.not_eq_true'] at hp)]
  · intro hp
    rw [vRels_yes hp]
    congr 1
    exact decide_eq_decide.mpr (by omega))
theorem row_start {l : List TRel} {a : TFact} (h : inR a.1 0 (w64 ((l.length : Int) - 1)) = true) (hl : (l.length : Int) ≤ 9223372036854775807) : 0 ≤ a.1 ∧ a.1 < (l.length : Int) := by
  have := inR_iff.mp h
  rw [w64_id (by omega) (by omega)] at this
  omega
theorem row_range {l : List TRel} {a : TFact} (hl : (l.length : Int) ≤ 9223372036854775807) : inR a.1 0 (w64 ((l.length : Int) - 1)) = inR a.1 0 ((l.length : Int) - 1) := by
  rw [w64_id (by omega) (by omega)]
/-- the part that the two programs' tests of rows share -/
theorem row_no1 {ok : Int → Bool} {l : List TRel} {a : TFact} (h : vRels l = false) : ((false, ()) : Bool × Unit) = (vRow ok l a, ()) := by unfold vRow; rw [h]; simp
theorem row_no2 {ok : Int → Bool} {l : List TRel} {a : TFact} (hl : (l.length : Int) ≤ 9223372036854775807) (h : inR a.1 0 (w64 ((l.length : Int) - 1)) = false) : ((false, ()) : Bool × Unit) = (vRow ok l a, ()) := by
  rw [row_range hl] at h; unfold vRow; rw [h]; simp
theorem row_no3 {ok : Int → Bool} {l : List TRel} {a : TFact} (h : (a.2.1.length : Int) ≠ (l.getD (Int.toNat a.1) zRel).2.1) : ((false, ()) : Bool × Unit) = (vRow ok l a, ()) := by
  have : ((a.2.1.length : Int) == arity l a.1) = false := by simpa [arity] using h
  unfold vRow; rw [this]; simp
theorem row_yes {ok : Int → Bool} {l : List TRel} {a : TFact} {b : Bool} (hl : (l.length : Int) ≤ 9223372036854775807) (h1 : vRels l = true) (h2 : inR a.1 0 (w64 ((l.length : Int) - 1)) = true) (h3 : (a.2.1.length : Int) = (l.getD (Int.toNat a.1) zRel).2.1) (hb : b = a.2.1.all ok) : ((b, ()) : Bool × Unit) = (vRow ok l a, ()) := by
  rw [row_range hl] at h2
  have : ((a.2.1.length : Int) == arity l a.1) = true := by simpa [arity] using h3
  unfold vRow; rw [h1, h2, this, hb]; simp
theorem g_sIsValidAtom {l : List TRel} {a : TFact} : G_sIsValidAtom l a (vAtom l a) := M_sIsValidAtom _ _ _ (by
  unfold S_sIsValidAtom vAtom
  refine ⟨_, g_sAreValidRelations, bc_not (fun h => row_no1 h) (fun h1 => lenI fun hl => ⟨_, g_sl1In, bc_not (fun h => row_no2 hl h) (fun h2 => lenI fun hl2 => ⟨row_start h2 hl, bc_ne (fun h => row_no3 h) (fun h3 => ?_)⟩)⟩)⟩
  refine loop_any a.2.1 (fun t => !vTerm t) (fun i => ((i : Int), ())) (KT := ((false, ()) : Bool × Unit) = (vRow vTerm l a, ())) (KF := ((true, ()) : Bool × Unit) = (vRow vTerm l a, ())) ?_ (fun X h => lenI fun _ => bcN h) ?_ ?_
  · intro i hi X q1 q2
    refine lenI fun _ => bcI hi (inI hi ⟨_, g_sl1In, ?_⟩)
    simp only
    rw [getI hi, w64_succ (by omega)]
    exact bc_if (fun h => q1 h) (fun h => q2 h)
  · intro h; exact row_yes hl h1 h2 h3 (by rw [any_not] at h; exact (nt h).symm)
  · intro h; exact row_yes hl h1 h2 h3 (by rw [any_not] at h; exact (nf h).symm))
theorem g_iIsValidAtom_1 {t : Int} : G_iIsValidAtom_1 t (!vTerm t) := M_iIsValidAtom_1 _ _ (by unfold S_iIsValidAtom_1; exact ⟨_, g_iwithin, rfl⟩)
theorem g_iIsValidAtom {l : List TRel} {a : TFact} : G_iIsValidAtom l a (vAtom l a) := M_iIsValidAtom _ _ _ (by
  unfold S_iIsValidAtom vAtom
  refine ⟨_, g_iAreValidRelations, bc_not (fun h => row_no1 h) (fun h1 => lenI fun hl => ⟨_, g_iwithin, bc_not (fun h => row_no2 hl h) (fun h2 => lenI fun hl2 => ⟨row_start h2 hl, bc_ne (fun h => row_no3 h) (fun h3 => ?_)⟩)⟩)⟩
  exact ⟨_, g_slices_ContainsFunc_int_c_iIsValidAtom_1 (fun t => !vTerm t) (fun _ _ => g_iIsValidAtom_1), row_yes hl h1 h2 h3 (by rw [any_not]; simp)⟩)
theorem g_sVariables {l : List TFact} (hl : (l.flatMap (·.2.1)).length ≤ 1073741824) : G_sVariables l (vars l) := M_sVariables _ _ (by
  unfold S_sVariables
  refine loopP_of l.length (fun i => ((i : Int), (vars (l.take i), ()))) (by simp [vars, sset]) ?_ ?_
  · intro i hi X hX
    refine lenI fun hl1 => bcI hi ?_
    simp only
    rw [getI hi]
    have hsub : ((l.take i).flatMap (·.2.1)).length + l[i].2.1.length ≤ 1073741824 := by
      have := flat_split (·.2.1) hi
      omega
    have hset : ∀ j, j ≤ l[i].2.1.length → (sset (((l.take i).flatMap (·.2.1) ++ l[i].2.1.take j).filter fun t => decide (0 ≤ t))).length ≤ 1073741824 := by
      intro j hj
      refine Nat.le_trans (sset_len _) (Nat.le_trans (List.length_filter_le _ _) ?_)
      rw [List.length_append, List.length_take]; omega
    refine loopP_of l[i].2.1.length (fun j => (sset (((l.take i).flatMap (·.2.1) ++ l[i].2.1.take j).filter fun t => decide (0 ≤ t)), ((j : Int), ()))) (by simp [vars]) ?_ ?_
    · intro j hj Y hY
      refine inI hi (lenI fun _ => bcI hj (inI hi (inI hj ?_)))
      simp only
      rw [getI hj, w64_succ (by omega)]
      have e : ((l.take i).flatMap (·.2.1) ++ l[i].2.1.take (j + 1)).filter (fun t => decide (0 ≤ t)) = ((l.take i).flatMap (·.2.1) ++ l[i].2.1.take j).filter (fun t => decide (0 ≤ t)) ++ (if 0 ≤ l[i].2.1[j] then [l[i].2.1[j]] else []) := by
        rw [take_succ_snoc hj, ← List.append_assoc, List.filter_append]
        by_cases h : 0 ≤ l[i].2.1[j] <;> simp [h]
      rw [e] at hY
      refine bc_dec (fun h => inI hi (inI hj ⟨_, g_sl4Put (hset j (by omega)), ?_⟩)) (fun h => ?_)
      · have h : 0 ≤ l[i].2.1[j] := h
        rw [if_pos h] at hY
        rw [sset_snoc]; exact hY
      · have h : ¬ 0 ≤ l[i].2.1[j] := h
        rw [if_neg h, List.append_nil] at hY; exact hY
    · intro Y
      refine inI hi (lenI fun _ => bcN ?_)
      simp only
      rw [w64_succ (by omega), List.take_length]
      have : sset (((l.take i).flatMap (·.2.1) ++ l[i].2.1).filter fun t => decide (0 ≤ t)) = vars (l.take (i + 1)) := by
        unfold vars; rw [take_succ_snoc hi, List.flatMap_append]; simp
      rw [this]; exact hX
  · intro X
    refine lenI fun _ => bcN ?_
    simp only [List.take_length])
theorem g_iVariables {l : List TFact} (hl : (l.flatMap (·.2.1)).length ≤ 1073741824) : G_iVariables l (vars l) := M_iVariables _ _ (by
  unfold S_iVariables
  refine lenI fun hl1 => ?_
  refine loopP_of l.length (fun i => ((i : Int), (((l.take i).flatMap (·.2.1)).filter (fun t => decide (0 ≤ t)), ()))) (by simp) ?_ ?_
  · intro i hi X hX
    refine bcI hi (inI hi ?_)
    simp only
    rw [getI hi, w64_succ (by omega)]
    have hsub : ((l.take i).flatMap (·.2.1)).length + l[i].2.1.length ≤ 1073741824 := by
      have := flat_split (·.2.1) hi
      omega
    refine lenI fun _ => loopP_of l[i].2.1.length (fun j => ((j : Int), (((l.take i).flatMap (·.2.1) ++ l[i].2.1.take j).filter (fun t => decide (0 ≤ t)), ()))) (by simp) ?_ ?_
    · intro j hj Y hY
      refine bcI hj (inI hj ?_)
      simp only
      rw [getI hj, w64_succ (by omega)]
      have e : ((l.take i).flatMap (·.2.1) ++ l[i].2.1.take (j + 1)).filter (fun t => decide (0 ≤ t)) = ((l.take i).flatMap (·.2.1) ++ l[i].2.1.take j).filter (fun t => decide (0 ≤ t)) ++ (if 0 ≤ l[i].2.1[j] then [l[i].2.1[j]] else []) := by
        rw [take_succ_snoc hj, ← List.append_assoc, List.filter_append]
        by_cases h : 0 ≤ l[i].2.1[j] <;> simp [h]
      rw [e] at hY
      have hb := List.length_filter_le (fun t => decide (0 ≤ t)) ((l.take i).flatMap (·.2.1) ++ l[i].2.1.take j)
      rw [List.length_append, List.length_take] at hb
      refine bc_dec (fun h => ⟨by simp only [maxL, List.length_cons, List.length_nil]; omega, ?_⟩) (fun h => ?_)
      · have h : 0 ≤ l[i].2.1[j] := h
        rw [if_pos h] at hY; exact hY
      · have h : ¬ 0 ≤ l[i].2.1[j] := h
        rw [if_neg h, List.append_nil] at hY; exact hY
    · intro Y
      refine bcN ?_
      simp only
      rw [List.take_length]
      have : ((l.take i).flatMap (·.2.1) ++ l[i].2.1).filter (fun t => decide (0 ≤ t)) = ((l.take (i + 1)).flatMap (·.2.1)).filter (fun t => decide (0 ≤ t)) := by
        rw [take_succ_snoc hi, List.flatMap_append]; simp
      rw [this]; exact hX
  · intro X
    refine bcN ⟨_, g_slices_Sort_int_ooz ?_, _, g_slices_Compact_int_ooz, ?_⟩
    · simp only [List.take_length]
      have := List.length_filter_le (fun t => decide (0 ≤ t)) (l.flatMap (·.2.1)); omega
    · simp only [List.take_length]
      rw [comp_sort]; rfl)
theorem vDep_no1 {l : List TRel} {d : TDep} (h : inR d.1.length 1 2 = false) : ((false, ()) : Bool × Unit) = (vDep l d, ()) := by unfold vDep; rw [h]; simp
theorem vDep_no2 {l : List TRel} {d : TDep} (h : d.1.all (vAtom l) = false) : ((false, ()) : Bool × Unit) = (vDep l d, ()) := by unfold vDep; rw [h]; simp
theorem g_sIsValidDependency {l : List TRel} {d : TDep} : G_sIsValidDependency l d (vDep l d) := M_sIsValidDependency _ _ _ (by
  unfold S_sIsValidDependency
  refine lenI fun hl => ⟨_, g_sl1In, bc_not (fun h => vDep_no1 h) (fun h1 => ?_)⟩
  refine loop_any d.1 (fun a => !vAtom l a) (fun i => ((i : Int), ())) (KT := ((false, ()) : Bool × Unit) = (vDep l d, ())) (KF := d.1.all (vAtom l) = true) ?_ ?_ ?_ ?_
  · intro i hi X q1 q2
    refine lenI fun _ => bcI hi (inI hi ⟨_, g_sIsValidAtom, ?_⟩)
    simp only
    rw [getI hi, w64_succ (by omega)]
    exact bc_if (fun h => q1 h) (fun h => q2 h)
  · intro X hall
    have hlen := inR_iff.mp h1
    have hal := atoms_len hall
    refine lenI fun _ => bcN (bc_if (fun he => ?_) (fun he => ?_))
    · have ev : vDep l d = (decide (d.2.1 = []) && decide (d.2.2.2.1 ∈ vars d.1) && decide (d.2.2.2.2.1 ∈ vars d.1) && decide (d.2.2.2.1 < d.2.2.2.2.1)) := by
        unfold vDep; rw [h1, hall, he]; simp
      rw [ev]
      refine ⟨_, g_sVariables (by omega), lenI fun _ => bc_beq (fun h => ⟨_, g_sl4Has, bc_dec (fun h2 => ⟨_, g_sl4Has, bc_dec (fun h3 => ?_) (fun h3 => ?_)⟩) (fun h2 => ?_)⟩) (fun h => ?_)⟩
      · have : d.2.1 = [] := List.length_eq_zero_iff.mp (by omega)
        simp [this, h2, h3]
      · simp [h3]
      · simp [h2]
      · have : d.2.1 ≠ [] := by intro e; rw [e] at h; simp at h
        simp [this]
    · have ev : vDep l d = (d.2.1.all (fun a => vAtom l a && !(srcAt l a.1)) && inR d.2.1.length 1 2 && (d.2.2.2.1 == 0) && (d.2.2.2.2.1 == 0)) := by
        unfold vDep; rw [h1, hall, he]; simp
      rw [ev]
      refine loop_any d.2.1 (fun a => !(vAtom l a && !(srcAt l a.1))) (fun i => ((i : Int), ())) (KT := d.2.1.all (fun a => vAtom l a && !(srcAt l a.1)) = false) (KF := d.2.1.all (fun a => vAtom l a && !(srcAt l a.1)) = true) ?_ ?_ ?_ ?_
      · intro i hi X q1 q2
        refine lenI fun _ => bcI hi (inI hi ⟨_, g_sIsValidAtom, ?_⟩)
        simp only
        rw [getI hi, w64_succ (by omega)]
        have no : d.2.1.all (fun a => vAtom l a && !(srcAt l a.1)) = false → ((false, ()) : Bool × Unit) = (d.2.1.all (fun a => vAtom l a && !(srcAt l a.1)) && inR d.2.1.length 1 2 && (d.2.2.2.1 == 0) && (d.2.2.2.2.1 == 0), ()) := fun h => by rw [h]; simp
        refine bc_not (fun h => no (q1 (by simp [h]))) (fun h => inI hi ⟨?_, bc_if (fun h' => no (q1 ?_)) (fun h' => q2 ?_)⟩)
        · have := vRow_spec h; exact ⟨this.2.1, this.2.2.1⟩
        · have : srcAt l d.2.1[i].1 = true := h'
          simp [this]
        · have : srcAt l d.2.1[i].1 = false := h'
          simp [this, h]
      · intro X hh
        refine lenI fun _ => bcN (lenI fun _ => ⟨_, g_sl1In, ?_⟩)
        rw [hh]
        refine bc_if (fun h2 => bc_beq (fun h3 => ?_) (fun h3 => ?_)) (fun h2 => ?_)
        · rw [h2, h3]; simp
        · have : (d.2.2.2.1 == 0) = false := by simpa using h3
          rw [this]; simp
        · rw [h2]; simp
      · intro h; rw [any_not] at h; exact nt h
      · intro h; rw [any_not] at h; exact nf h
  · intro h; rw [any_not] at h; exact vDep_no2 (nt h)
  · intro h; rw [any_not] at h; exact nf h)
theorem g_iareAtoms_1 {l : List TRel} {a : TFact} : G_iareAtoms_1 a l (!vAtom l a) := M_iareAtoms_1 _ _ _ (by unfold S_iareAtoms_1; exact ⟨_, g_iIsValidAtom, rfl⟩)
theorem g_iareAtoms {l : List TRel} {ats : List TFact} {n : Int} : G_iareAtoms l ats n (inR ats.length 1 n && ats.all (vAtom l)) := M_iareAtoms _ _ _ _ (by
  unfold S_iareAtoms
  refine lenI fun _ => ⟨_, g_iwithin, bc_if (fun h => ⟨_, g_slices_ContainsFunc_Atom_c_iareAtoms_1 (fun a => !vAtom l a) (fun _ _ => g_iareAtoms_1), ?_⟩) (fun h => ?_)⟩
  · rw [h, Bool.true_and, any_not]; simp
  · rw [h, Bool.false_and])
theorem g_iIsValidDependency_1 {l : List TRel} {a : TFact} (h0 : 0 ≤ a.1) (h1 : a.1 < l.length) : G_iIsValidDependency_1 a l (srcAt l a.1) := M_iIsValidDependency_1 _ _ _ (by unfold S_iIsValidDependency_1; exact ⟨⟨h0, h1⟩, rfl⟩)
theorem g_iIsValidDependency {l : List TRel} {d : TDep} : G_iIsValidDependency l d (vDep l d) := M_iIsValidDependency _ _ _ (by
  unfold S_iIsValidDependency
  refine ⟨_, g_iareAtoms, bc_not (fun h => ?_) (fun h => ?_)⟩
  · unfold vDep; rw [h]; simp
  · have h' := Bool.and_eq_true_iff.mp h
    have hlen := inR_iff.mp h'.1
    have hal := atoms_len h'.2
    refine bc_if (fun he => ?_) (fun he => ?_)
    · have ev : vDep l d = (decide (d.2.1 = []) && decide (d.2.2.2.1 ∈ vars d.1) && decide (d.2.2.2.2.1 ∈ vars d.1) && decide (d.2.2.2.1 < d.2.2.2.2.1)) := by
        unfold vDep; rw [h'.1, h'.2, he]; simp
      rw [ev]
      refine ⟨_, g_iVariables (by omega), lenI fun _ => bc_beq (fun h0 => bc_dec (fun h1 => ⟨_, g_slices_Contains_int, bc_dec (fun h2 => ⟨_, g_slices_Contains_int, ?_⟩) (fun h2 => ?_)⟩) (fun h1 => ?_)) (fun h0 => ?_)⟩
      · have : d.2.1 = [] := List.length_eq_zero_iff.mp (by omega)
        simp [this, h1, h2]
      · simp [h2]
      · simp [h1]
      · have : d.2.1 ≠ [] := by intro e; rw [e] at h0; simp at h0
        simp [this]
    · have ev : vDep l d = (d.2.1.all (fun a => vAtom l a && !(srcAt l a.1)) && inR d.2.1.length 1 2 && (d.2.2.2.1 == 0) && (d.2.2.2.2.1 == 0)) := by
        unfold vDep; rw [h'.1, h'.2, he]; simp
      rw [ev]
      have hand : d.2.1.all (fun a => vAtom l a && !(srcAt l a.1)) = (d.2.1.all (vAtom l) && d.2.1.all fun a => !(srcAt l a.1)) := by
        generalize d.2.1 = m
        induction m with
        | nil => rfl
        | cons a m ih => simp only [List.all_cons, ih]; cases vAtom l a <;> cases srcAt l a.1 <;> simp
      rw [hand]
      refine ⟨_, g_iareAtoms, bc_if (fun h1 => bc_beq (fun h2 => bc_beq (fun h3 => ?_) (fun h3 => ?_)) (fun h2 => ?_)) (fun h1 => ?_)⟩
      · have h1 := Bool.and_eq_true_iff.mp h1
        refine ⟨_, g_slices_ContainsFunc_Atom_c_iIsValidDependency_1 (fun a => srcAt l a.1) (fun a ha => ?_), ?_⟩
        · have := vRow_spec (List.all_eq_true.mp h1.2 a ha)
          exact g_iIsValidDependency_1 this.2.1 this.2.2.1
        · rw [h1.1, h1.2, h2, h3, List.not_any_eq_all_not]; simp
      · have : (d.2.2.2.2.1 == 0) = false := by simpa using h3
        rw [this]; simp
      · have : (d.2.2.2.1 == 0) = false := by simpa using h2
        rw [this]; simp
      · rcases Bool.and_eq_false_iff.mp h1 with h1 | h1 <;> rw [h1] <;> simp)
theorem g_sAreValidDependencies {l : List TRel} {ds : List TDep} : G_sAreValidDependencies l ds (vDeps l ds) := M_sAreValidDependencies _ _ _ (by
  unfold S_sAreValidDependencies
  refine loop_any ds (fun d => !vDep l d) (fun i => ((i : Int), ())) (KT := ds.all (vDep l) = false) (KF := ds.all (vDep l) = true) ?_ ?_ ?_ ?_
  · intro i hi X q1 q2
    refine lenI fun _ => bcI hi (inI hi ⟨_, g_sIsValidDependency, ?_⟩)
    simp only
    rw [getI hi, w64_succ (by omega)]
    exact bc_if (fun h => by unfold vDeps; rw [q1 h]; simp) (fun h => q2 h)
  · intro X h
    refine lenI fun _ => bcN ⟨_, g_sAreValidRelations, bc_if (fun h1 => lenI fun _ => ?_) (fun h1 => ?_)⟩
    · unfold vDeps; rw [h, h1]
      have : decide ((ds.length : Int) ≤ 5) = decide (ds.length ≤ 5) := decide_eq_decide.mpr (by omega)
      rw [this]; simp
    · unfold vDeps; rw [h1]; simp
  · intro h; rw [any_not] at h; exact nt h
  · intro h; rw [any_not] at h; exact nf h)
theorem g_iAreValidDependencies_1 {l : List TRel} {d : TDep} : G_iAreValidDependencies_1 d l (!vDep l d) := M_iAreValidDependencies_1 _ _ _ (by unfold S_iAreValidDependencies_1; exact ⟨_, g_iIsValidDependency, rfl⟩)
theorem g_iAreValidDependencies {l : List TRel} {ds : List TDep} : G_iAreValidDependencies l ds (vDeps l ds) := M_iAreValidDependencies _ _ _ (by
  unfold S_iAreValidDependencies
  refine ⟨_, g_iAreValidRelations, bc_if (fun h1 => lenI fun _ => bc_dec (fun h2 => ⟨_, g_slices_ContainsFunc_Dependency_c_iAreValidDependencies_1 (fun d => !vDep l d) (fun _ _ => g_iAreValidDependencies_1), ?_⟩) (fun h2 => ?_)) (fun h1 => ?_)⟩
  · have : decide (ds.length ≤ 5) = true := decide_eq_true (by omega)
    unfold vDeps; rw [h1, this, any_not]; simp
  · have : decide (ds.length ≤ 5) = false := decide_eq_false (by omega)
    unfold vDeps; rw [this]; simp
  · unfold vDeps; rw [h1]; simp)
theorem g_sExistentialVariables {d : TDep} (h1 : (d.1.flatMap (·.2.1)).length ≤ 1073741824) (h2 : (d.2.1.flatMap (·.2.1)).length ≤ 1073741824) : G_sExistentialVariables d (exV d) := M_sExistentialVariables _ _ (by
  unfold S_sExistentialVariables
  have hv := vars_len d.2.1
  refine ⟨_, g_sVariables h1, _, g_sVariables h2, ?_⟩
  refine loopP_of (vars d.2.1).length (fun i => ((i : Int), (((vars d.2.1).take i).filter (fun v => !decide (v ∈ vars d.1)), ()))) (by simp) ?_ ?_
  · intro i hi X hX
    refine lenI fun _ => bcI hi (inI hi ⟨_, g_sl4Has, ?_⟩)
    simp only
    rw [getI hi, w64_succ (by omega)]
    have e : ((vars d.2.1).take (i + 1)).filter (fun v => !decide (v ∈ vars d.1)) = ((vars d.2.1).take i).filter (fun v => !decide (v ∈ vars d.1)) ++ (if (vars d.2.1)[i] ∈ vars d.1 then [] else [(vars d.2.1)[i]]) := by
      rw [take_succ_snoc hi, List.filter_append]
      by_cases h : (vars d.2.1)[i] ∈ vars d.1 <;> simp [h]
    rw [e] at hX
    have hb := List.length_filter_le (fun v => !decide (v ∈ vars d.1)) ((vars d.2.1).take i)
    rw [List.length_take] at hb
    refine bc_if (fun h => inI hi ⟨by simp only [maxL, List.length_cons, List.length_nil]; omega, ?_⟩) (fun h => ?_)
    · have h : ¬ (vars d.2.1)[i] ∈ vars d.1 := by simpa using h
      rw [if_neg h] at hX; exact hX
    · have h : (vars d.2.1)[i] ∈ vars d.1 := by simpa using h
      rw [if_pos h, List.append_nil] at hX; exact hX
  · intro X
    refine lenI fun _ => bcN ?_
    simp only [List.take_length]
    rfl)
def hdV (d : TDep) (b : Bool) : List Int := (vars d.2.1).filter fun v => decide (v ∈ vars d.1) == b
theorem g_iheadVariables {d : TDep} {b : Bool} (h1 : (d.1.flatMap (·.2.1)).length ≤ 1073741824) (h2 : (d.2.1.flatMap (·.2.1)).length ≤ 1073741824) : G_iheadVariables d b (hdV d b) := M_iheadVariables _ _ _ (by
  unfold S_iheadVariables
  have hv := vars_len d.2.1
  refine ⟨_, g_iVariables h1, _, g_iVariables h2, lenI fun _ => ?_⟩
  refine loopP_of (vars d.2.1).length (fun i => ((i : Int), (((vars d.2.1).take i).filter (fun v => decide (v ∈ vars d.1) == b), ()))) (by simp) ?_ ?_
  · intro i hi X hX
    refine bcI hi (inI hi ⟨_, g_slices_Contains_int, ?_⟩)
    simp only
    rw [getI hi, w64_succ (by omega)]
    have e : ((vars d.2.1).take (i + 1)).filter (fun v => decide (v ∈ vars d.1) == b) = ((vars d.2.1).take i).filter (fun v => decide (v ∈ vars d.1) == b) ++ (if (decide ((vars d.2.1)[i] ∈ vars d.1) == b) = true then [(vars d.2.1)[i]] else []) := by
      rw [take_succ_snoc hi, List.filter_append]
      cases h : (decide ((vars d.2.1)[i] ∈ vars d.1) == b) <;> simp [h]
    rw [e] at hX
    have hb := List.length_filter_le (fun v => decide (v ∈ vars d.1) == b) ((vars d.2.1).take i)
    rw [List.length_take] at hb
    refine bc_if (fun h => ⟨by simp only [maxL, List.length_cons, List.length_nil]; omega, ?_⟩) (fun h => ?_)
    · rw [if_pos h] at hX; exact hX
    · rw [if_neg (by rw [h]; simp), List.append_nil] at hX; exact hX
  · intro X
    refine bcN ?_
    simp only [List.take_length]
    rfl)
theorem hdV_false (d : TDep) : hdV d false = exV d := by unfold hdV exV; congr 1; funext v; by_cases h : v ∈ vars d.1 <;> simp [h]
theorem hdV_true (d : TDep) : hdV d true = frV d := by unfold hdV frV; congr 1; funext v; by_cases h : v ∈ vars d.1 <;> simp [h]
theorem g_iExistentialVariables {d : TDep} (h1 : (d.1.flatMap (·.2.1)).length ≤ 1073741824) (h2 : (d.2.1.flatMap (·.2.1)).length ≤ 1073741824) : G_iExistentialVariables d (exV d) := M_iExistentialVariables _ _ (by
  unfold S_iExistentialVariables
  exact ⟨_, g_iheadVariables h1 h2, by rw [hdV_false]⟩)
theorem flat_bulk (l : List TFact) : (l.flatMap (·.2.1)).length ≤ bulk (.sl 0 (.pair (.int .i64) (.pair (.sl 0 (.int .i64)) .unit))) l := by
  show _ ≤ l.length + (l.map (bulk (.pair (.int .i64) (.pair (.sl 0 (.int .i64)) .unit)))).sum
  induction l with
  | nil => simp
  | cons a l ih =>
    show (a.2.1 ++ l.flatMap (·.2.1)).length ≤ (l.length + 1) + (bulk (.pair (.int .i64) (.pair (.sl 0 (.int .i64)) .unit)) a + (l.map (bulk (.pair (.int .i64) (.pair (.sl 0 (.int .i64)) .unit)))).sum)
    rw [List.length_append]
    have : a.2.1.length ≤ bulk (.pair (.int .i64) (.pair (.sl 0 (.int .i64)) .unit)) a := by
      show a.2.1.length ≤ 0 + ((a.2.1.length + _) + 0)
      omega
    omega
theorem dep_small {d : TDep} (h : bulk (.pair (.sl 0 (.pair (.int .i64) (.pair (.sl 0 (.int .i64)) .unit))) (.pair (.sl 0 (.pair (.int .i64) (.pair (.sl 0 (.int .i64)) .unit))) (.pair .bool (.pair (.int .i64) (.pair (.int .i64) .unit))))) d ≤ 1048576) :
    (d.1.flatMap (·.2.1)).length ≤ 1073741824 ∧ (d.2.1.flatMap (·.2.1)).length ≤ 1073741824 := by
  have h1 := flat_bulk d.1
  have h2 := flat_bulk d.2.1
  have h : bulk (.sl 0 (.pair (.int .i64) (.pair (.sl 0 (.int .i64)) .unit))) d.1 + (bulk (.sl 0 (.pair (.int .i64) (.pair (.sl 0 (.int .i64)) .unit))) d.2.1 + _) ≤ 1048576 := h
  omega
/-- a valid dependency is small -/
theorem vDep_spec {l : List TRel} {d : TDep} (h : vDep l d = true) : 1 ≤ d.1.length ∧ d.1.length ≤ 2 ∧ (∀ a ∈ d.1, vAtom l a = true) ∧ d.2.1.length ≤ 2 ∧ (∀ a ∈ d.2.1, vAtom l a = true) ∧ (d.1.flatMap (·.2.1)).length ≤ 6 ∧ (d.2.1.flatMap (·.2.1)).length ≤ 6 := by
  unfold vDep at h
  rw [Bool.and_eq_true, Bool.and_eq_true] at h
  obtain ⟨⟨h1, h2⟩, h3⟩ := h
  have h1 := inR_iff.mp h1
  have l1 := atoms_len h2
  cases he : d.2.2.1 with
  | true =>
    rw [if_pos he] at h3
    simp only [Bool.and_eq_true, decide_eq_true_eq] at h3
    have := h3.1.1.1
    exact ⟨by omega, by omega, List.all_eq_true.mp h2, by simp [this], by simp [this], by omega, by simp [this]⟩
  | false =>
    rw [if_neg (by simp [he])] at h3
    simp only [Bool.and_eq_true] at h3
    have hr := inR_iff.mp h3.1.1.2
    have h4 : d.2.1.all (vAtom l) = true := List.all_eq_true.mpr fun a ha => by
      have := List.all_eq_true.mp h3.1.1.1 a ha
      rw [Bool.and_eq_true] at this; exact this.1
    have l2 := atoms_len h4
    exact ⟨by omega, by omega, List.all_eq_true.mp h2, by omega, List.all_eq_true.mp h4, by omega, by omega⟩
theorem vDeps_mem {l : List TRel} {ds : List TDep} (h : vDeps l ds = true) {d : TDep} (hd : d ∈ ds) : vDep l d = true := by
  unfold vDeps at h
  rw [Bool.and_eq_true, Bool.and_eq_true] at h
  exact List.all_eq_true.mp h.1.1 d hd
theorem vDeps_len {l : List TRel} {ds : List TDep} (h : vDeps l ds = true) : ds.length ≤ 5 := by
  unfold vDeps at h; simp at h; exact h.2
theorem vDeps_rels {l : List TRel} {ds : List TDep} (h : vDeps l ds = true) : vRels l = true := by
  unfold vDeps at h
  rw [Bool.and_eq_true, Bool.and_eq_true] at h
  exact h.1.2
def headRel (d : TDep) : Int := (d.2.1.getD 0 zFact).1
def bodyRel (d : TDep) : Int := (d.1.getD 0 zFact).1
def defOk (l : List TRel) (d : TDep) : Bool := d.1.all (fun a => srcAt l a.1) && full d && (d.2.1.length == 1)
def useOk (l : List TRel) (d : TDep) : Bool := (d.1.length == 1) && !d.2.2.1 && !(srcAt l (bodyRel d))
def closedR (defs rs : List TDep) : List Int := defs.map headRel ++ rs.map bodyRel
def canU (l : List TRel) (defs rs : List TDep) : Bool := vDeps l defs && vDeps l rs && defs.all (defOk l) && rs.all (useOk l) && rs.all (fun r => r.2.1.all fun a => !decide (a.1 ∈ closedR defs rs))
theorem canU_def {l : List TRel} {defs rs : List TDep} {d : TDep} (hd : d ∈ defs) (h : defOk l d = false) : canU l defs rs = false := by
  unfold canU
  have : defs.all (defOk l) = false := by
    rw [Bool.eq_false_iff]; intro hall
    have := List.all_eq_true.mp hall d hd; rw [h] at this; cases this
  rw [this]; simp
theorem canU_use {l : List TRel} {defs rs : List TDep} {d : TDep} (hd : d ∈ rs) (h : useOk l d = false) : canU l defs rs = false := by
  unfold canU
  have : rs.all (useOk l) = false := by
    rw [Bool.eq_false_iff]; intro hall
    have := List.all_eq_true.mp hall d hd; rw [h] at this; cases this
  rw [this]; simp
theorem canU_head {l : List TRel} {defs rs : List TDep} {d : TDep} {a : TFact} (hd : d ∈ rs) (ha : a ∈ d.2.1) (h : a.1 ∈ closedR defs rs) : canU l defs rs = false := by
  unfold canU
  have : rs.all (fun r => r.2.1.all fun a => !decide (a.1 ∈ closedR defs rs)) = false := by
    rw [Bool.eq_false_iff]; intro hall
    have := List.all_eq_true.mp (List.all_eq_true.mp hall d hd) a ha
    simp [h] at this
  rw [this]; simp
theorem canU_yes {l : List TRel} {defs rs : List TDep} (h1 : vDeps l defs = true) (h2 : vDeps l rs = true) (h3 : ∀ d ∈ defs, defOk l d = true) (h4 : ∀ d ∈ rs, useOk l d = true) (h5 : ∀ d ∈ rs, ∀ a ∈ d.2.1, a.1 ∉ closedR defs rs) : canU l defs rs = true := by
  unfold canU
  rw [h1, h2, List.all_eq_true.mpr h3, List.all_eq_true.mpr h4]
  simp only [Bool.true_and]
  exact List.all_eq_true.mpr fun d hd => List.all_eq_true.mpr fun a ha => by simp [h5 d hd a ha]
/- ## values, nulls, facts, instances -/
def isNul (v : Int) : Bool := inR v (-40) (-1)
def nulNo (v : Int) : Int := if isNul v then -1 - v else 0
def vVal (v : Int) : Bool := inR v (-40) 9
def nulls (l : List Int) : List Int := (l.filter isNul).map (fun v => -1 - v)
def nulF (f : TFact) : List Int := sset (nulls f.2.1)
def nulI (x : TInst) : List Int := sset (x.2.1.flatMap fun f => nulls f.2.1)
def vFact (l : List TRel) (f : TFact) : Bool := vRow vVal l f
def factAt (l : List TFact) (i : Nat) : TFact := l.getD i zFact
/-- what is asked of fact i -/
def factOk (x : TInst) (i : Nat) : Bool := vFact x.1 (factAt x.2.1 i) && (i == 0 || decide (cmpF (factAt x.2.1 (i - 1)) (factAt x.2.1 i) < 0)) && !(srcAt x.1 (factAt x.2.1 i).1 && (nulF (factAt x.2.1 i)).length != 0)
def vInst (x : TInst) : Bool := vRels x.1 && decide (x.2.1.length ≤ 30) && (List.range x.2.1.length).all (factOk x)
theorem isNul_iff {v : Int} : isNul v = true ↔ -40 ≤ v ∧ v ≤ -1 := inR_iff
theorem mem_nulls {l : List Int} {k : Int} : k ∈ nulls l ↔ 0 ≤ k ∧ k < 40 ∧ (-1 - k) ∈ l := by
  unfold nulls
  rw [List.mem_map]
  constructor
  · rintro ⟨v, hv, rfl⟩
    obtain ⟨h1, h2⟩ := List.mem_filter.mp hv
    have := isNul_iff.mp h2
    exact ⟨by omega, by omega, by have e : -1 - (-1 - v) = v := by omega
                                  rw [e]; exact h1⟩
  · rintro ⟨h1, h2, h3⟩
    exact ⟨-1 - k, List.mem_filter.mpr ⟨h3, isNul_iff.mpr ⟨by omega, by omega⟩⟩, by omega⟩
theorem nulls_append (l m : List Int) : nulls (l ++ m) = nulls l ++ nulls m := by unfold nulls; rw [List.filter_append, List.map_append]
theorem nulls_flat (l : List TFact) : nulls (l.flatMap (·.2.1)) = l.flatMap fun f => nulls f.2.1 := by
  induction l with
  | nil => rfl
  | cons a l ih => simp only [List.flatMap_cons]; rw [nulls_append, ih]
theorem nulls_range {l : List Int} : ∀ k ∈ sset (nulls l), 0 ≤ k ∧ k < 0 + (40 : Nat) := fun k hk => by
  have := mem_nulls.mp (mem_sset.mp hk); omega
theorem nulls_few {l : List Int} : (sset (nulls l)).length ≤ 40 := srt_range (srt_sset _) nulls_range
theorem nulI_few (x : TInst) : (nulI x).length ≤ 40 := by unfold nulI; rw [← nulls_flat]; exact nulls_few
theorem nulls_len (l : List Int) : (nulls l).length ≤ l.length := by unfold nulls; rw [List.length_map]; exact List.length_filter_le _ _
theorem factAt_get {l : List TFact} {i : Nat} (h : i < l.length) : factAt l i = l[i] := getD_at h
theorem vInst_fact {x : TInst} (h : vInst x = true) {f : TFact} (hf : f ∈ x.2.1) : vFact x.1 f = true := by
  unfold vInst at h
  rw [Bool.and_eq_true] at h
  obtain ⟨i, hi, rfl⟩ := List.mem_iff_getElem.mp hf
  have := List.all_eq_true.mp h.2 i (List.mem_range.mpr hi)
  unfold factOk at this
  rw [Bool.and_eq_true, Bool.and_eq_true, factAt_get hi] at this
  exact this.1.1
theorem vInst_len {x : TInst} (h : vInst x = true) : x.2.1.length ≤ 30 := by unfold vInst at h; simp at h; exact h.1.2
theorem vInst_rels {x : TInst} (h : vInst x = true) : vRels x.1 = true := by unfold vInst at h; simp at h; exact h.1.1
theorem vInst_no {x : TInst} {i : Nat} (hi : i < x.2.1.length) (h : factOk x i = false) : vInst x = false := by
  unfold vInst
  have : (List.range x.2.1.length).all (factOk x) = false := by
    rw [Bool.eq_false_iff]; intro hall
    have := List.all_eq_true.mp hall i (List.mem_range.mpr hi); rw [h] at this; cases this
  rw [this]; simp
theorem vInst_yes {x : TInst} (h1 : ∀ i, i < x.2.1.length → factOk x i = true) : vInst x = (vRels x.1 && decide (x.2.1.length ≤ 30)) := by
  unfold vInst
  rw [List.all_eq_true.mpr fun i hi => h1 i (List.mem_range.mp hi)]; simp
theorem g_sNullNumber {v : Int} : G_sNullNumber v (nulNo v) (isNul v) := R_sNullNumber fun hb => M_sNullNumber _ _ _ (by
  have hb : -9223372036854775808 ≤ v ∧ v ≤ 9223372036854775807 := hb
  unfold S_sNullNumber
  have no : isNul v = false → (((0 : Int), (false, ())) : Int × Bool × Unit) = (nulNo v, (isNul v, ())) := fun h => by unfold nulNo; rw [h]; rfl
  refine bc_dec (fun h => no ?_) (fun h => ⟨_, g_sl1In, ?_⟩)
  · rw [Bool.eq_false_iff]; intro h'; have := isNul_iff.mp h'; omega
  · rw [w64_id (by omega) (by omega)]
    refine bc_not (fun h2 => no ?_) (fun h2 => ?_)
    · rw [Bool.eq_false_iff] at h2 ⊢; intro h'; have := isNul_iff.mp h'; exact h2 (inR_iff.mpr ⟨by omega, by omega⟩)
    · have := inR_iff.mp h2
      have e : isNul v = true := isNul_iff.mpr ⟨by omega, by omega⟩
      unfold nulNo; rw [e]; rfl)
theorem g_iNullNumber {v : Int} : G_iNullNumber v (nulNo v) (isNul v) := R_iNullNumber fun hb => M_iNullNumber _ _ _ (by
  have hb : -9223372036854775808 ≤ v ∧ v ≤ 9223372036854775807 := hb
  unfold S_iNullNumber
  have no : isNul v = false → (((0 : Int), (false, ())) : Int × Bool × Unit) = (nulNo v, (isNul v, ())) := fun h => by unfold nulNo; rw [h]; rfl
  rw [w64_id (by omega) (by omega)]
  refine ⟨_, g_iwithin, bc_not (fun h2 => no ?_) (fun h2 => ?_)⟩
  · rw [Bool.eq_false_iff] at h2 ⊢; intro h'; have := isNul_iff.mp h'; exact h2 (inR_iff.mpr ⟨by omega, by omega⟩)
  · have := inR_iff.mp h2
    have e : isNul v = true := isNul_iff.mpr ⟨by omega, by omega⟩
    unfold nulNo; rw [e]; rfl)
theorem g_sIsValidValue {v : Int} : G_sIsValidValue v (vVal v) := M_sIsValidValue _ _ (by
  unfold S_sIsValidValue
  refine ⟨_, _, g_sNullNumber, bc_if (fun h => ?_) (fun h => ⟨_, g_sl1In, ?_⟩)⟩
  · have := isNul_iff.mp h
    have e : vVal v = true := inR_iff.mpr ⟨by omega, by omega⟩
    rw [e]
  · have : inR v 0 9 = vVal v := by
      rw [Bool.eq_iff_iff]
      unfold vVal
      rw [inR_iff, inR_iff]
      constructor
      · omega
      · intro h'
        refine ⟨?_, h'.2⟩
        rcases Int.lt_or_le v 0 with h0 | h0
        · rw [isNul_iff.mpr ⟨by omega, by omega⟩] at h; cases h
        · exact h0
    rw [this])
theorem g_iIsValidValue {v : Int} : G_iIsValidValue v (vVal v) := M_iIsValidValue _ _ (by unfold S_iIsValidValue; exact ⟨_, g_iwithin, rfl⟩)
theorem g_sNullsOfFact {f : TFact} : G_sNullsOfFact f (nulF f) := M_sNullsOfFact _ _ (by
  unfold S_sNullsOfFact
  refine loopP_of f.2.1.length (fun i => ((i : Int), (sset (nulls (f.2.1.take i)), ()))) (by simp [nulls, sset]) ?_ ?_
  · intro i hi X hX
    refine lenI fun _ => bcI hi (inI hi ⟨_, _, g_sNullNumber, ?_⟩)
    simp only
    rw [getI hi, w64_succ (by omega)]
    have e : nulls (f.2.1.take (i + 1)) = nulls (f.2.1.take i) ++ (if isNul f.2.1[i] then [-1 - f.2.1[i]] else []) := by
      rw [take_succ_snoc hi, nulls_append]; congr 1
      unfold nulls
      cases h : isNul f.2.1[i] <;> simp [h]
    rw [e] at hX
    have hf := nulls_few (l := f.2.1.take i)
    refine bc_if (fun h => ⟨_, g_sl4Put (by omega), ?_⟩) (fun h => ?_)
    · rw [if_pos h] at hX
      have : nulNo f.2.1[i] = -1 - f.2.1[i] := by unfold nulNo; rw [if_pos h]
      rw [this, sset_snoc]; exact hX
    · rw [if_neg (by rw [h]; simp), List.append_nil] at hX; exact hX
  · intro X
    refine lenI fun _ => bcN ?_
    simp only [List.take_length]
    rfl)
theorem g_inullsOf {l : List Int} (hl : l.length ≤ 1073741824) : G_inullsOf l (sset (nulls l)) := M_inullsOf _ _ (by
  unfold S_inullsOf
  refine lenI fun _ => loopP_of l.length (fun i => ((i : Int), (nulls (l.take i), ()))) (by simp [nulls]) ?_ ?_
  · intro i hi X hX
    refine bcI hi (inI hi ⟨_, _, g_iNullNumber, ?_⟩)
    simp only
    rw [getI hi, w64_succ (by omega)]
    have e : nulls (l.take (i + 1)) = nulls (l.take i) ++ (if isNul l[i] then [-1 - l[i]] else []) := by
      rw [take_succ_snoc hi, nulls_append]; congr 1
      unfold nulls
      cases h : isNul l[i] <;> simp [h]
    rw [e] at hX
    have hb := nulls_len (l.take i)
    rw [List.length_take] at hb
    refine bc_if (fun h => ⟨by simp only [maxL, List.length_cons, List.length_nil]; omega, ?_⟩) (fun h => ?_)
    · rw [if_pos h] at hX
      have : nulNo l[i] = -1 - l[i] := by unfold nulNo; rw [if_pos h]
      rw [this]; exact hX
    · rw [if_neg (by rw [h]; simp), List.append_nil] at hX; exact hX
  · intro X
    refine bcN ⟨_, g_slices_Sort_int_ooz ?_, _, g_slices_Compact_int_ooz, ?_⟩
    · simp only [List.take_length]; have := nulls_len l; omega
    · simp only [List.take_length]; rw [comp_sort])
theorem g_iNullsOfFact {f : TFact} (h : f.2.1.length ≤ 1073741824) : G_iNullsOfFact f (nulF f) := M_iNullsOfFact _ _ (by unfold S_iNullsOfFact; exact ⟨_, g_inullsOf h, rfl⟩)
theorem g_sIsValidFact {l : List TRel} {a : TFact} : G_sIsValidFact l a (vFact l a) := M_sIsValidFact _ _ _ (by
  unfold S_sIsValidFact vFact
  refine ⟨_, g_sAreValidRelations, bc_not (fun h => row_no1 h) (fun h1 => lenI fun hl => ⟨_, g_sl1In, bc_not (fun h => row_no2 hl h) (fun h2 => lenI fun hl2 => ⟨row_start h2 hl, bc_ne (fun h => row_no3 h) (fun h3 => ?_)⟩)⟩)⟩
  refine loop_any a.2.1 (fun t => !vVal t) (fun i => ((i : Int), ())) (KT := ((false, ()) : Bool × Unit) = (vRow vVal l a, ())) (KF := ((true, ()) : Bool × Unit) = (vRow vVal l a, ())) ?_ (fun X h => lenI fun _ => bcN h) ?_ ?_
  · intro i hi X q1 q2
    refine lenI fun _ => bcI hi (inI hi ⟨_, g_sIsValidValue, ?_⟩)
    simp only
    rw [getI hi, w64_succ (by omega)]
    exact bc_if (fun h => q1 h) (fun h => q2 h)
  · intro h; exact row_yes hl h1 h2 h3 (by rw [any_not] at h; exact (nt h).symm)
  · intro h; exact row_yes hl h1 h2 h3 (by rw [any_not] at h; exact (nf h).symm))
theorem g_iIsValidFact_1 {t : Int} : G_iIsValidFact_1 t (!vVal t) := M_iIsValidFact_1 _ _ (by unfold S_iIsValidFact_1; exact ⟨_, g_iIsValidValue, rfl⟩)
theorem g_iIsValidFact {l : List TRel} {a : TFact} : G_iIsValidFact l a (vFact l a) := M_iIsValidFact _ _ _ (by
  unfold S_iIsValidFact vFact
  refine ⟨_, g_iAreValidRelations, bc_not (fun h => row_no1 h) (fun h1 => lenI fun hl => ⟨_, g_iwithin, bc_not (fun h => row_no2 hl h) (fun h2 => lenI fun hl2 => ⟨row_start h2 hl, bc_ne (fun h => row_no3 h) (fun h3 => ?_)⟩)⟩)⟩
  exact ⟨_, g_slices_ContainsFunc_int_c_iIsValidFact_1 (fun t => !vVal t) (fun _ _ => g_iIsValidFact_1), row_yes hl h1 h2 h3 (by rw [any_not]; simp)⟩)
theorem fact_rel {x : TInst} {f : TFact} (h : vFact x.1 f = true) : 0 ≤ f.1 ∧ f.1 < (x.1.length : Int) := by have := vRow_spec h; exact ⟨this.2.1, this.2.2.1⟩
theorem factOk_split {x : TInst} {i : Nat} (hi : i < x.2.1.length) (h1 : vFact x.1 x.2.1[i] = true) (h2 : 0 < i → cmpF (factAt x.2.1 (i - 1)) x.2.1[i] < 0) : factOk x i = !(srcAt x.1 x.2.1[i].1 && (nulF x.2.1[i]).length != 0) := by
  unfold factOk
  rw [factAt_get hi, h1]
  have : (i == 0 || decide (cmpF (factAt x.2.1 (i - 1)) x.2.1[i] < 0)) = true := by
    rcases Nat.eq_zero_or_pos i with h | h
    · simp [h]
    · rw [decide_eq_true (h2 h)]; simp
  rw [this]; rfl
theorem vInst_flat {x : TInst} (h : vInst x = true) : (x.2.1.flatMap (·.2.1)).length ≤ 90 := by
  have h1 := vInst_len h
  have : ∀ l : List TFact, (∀ f ∈ l, vFact x.1 f = true) → (l.flatMap (·.2.1)).length ≤ 3 * l.length := by
    intro l
    induction l with
    | nil => intro _; simp
    | cons a l ih =>
      intro hl
      have h1 := (vRow_spec (hl a (by simp))).2.2.2.2.1
      have := ih fun f hf => hl f (by simp [hf])
      simp only [List.flatMap_cons, List.length_append, List.length_cons]; omega
  have := this x.2.1 fun f hf => vInst_fact h hf
  omega
def nextN (x : TInst) : Int := match (nulI x).getLast? with
  | some k => k + 1
  | none => 0
theorem nextN_le {x : TInst} {n : Nat} : nextN x ≤ n ↔ ∀ k ∈ nulI x, k < n := by
  unfold nextN
  have hs : srt (nulI x) := srt_sset _
  cases h : (nulI x).getLast? with
  | none =>
    have : nulI x = [] := List.getLast?_eq_none_iff.mp h
    rw [this]; simp
  | some m =>
    have hne : nulI x ≠ [] := by intro e; rw [e] at h; simp at h
    have hm : (nulI x).getLast hne = m := by rw [List.getLast?_eq_some_getLast hne] at h; exact Option.some.inj h
    have hlast := srt_last hs hne
    constructor
    · intro h' k hk
      have := hlast k hk; rw [hm] at this; simp only at h'; omega
    · intro h'
      have := h' m (by rw [← hm]; exact List.getLast_mem hne)
      simp only; omega
/- ## Skolem states -/
def mx (f : Int → Int) (l : List Int) : Int := l.foldl (fun m k => maxI m (f k)) 0
theorem maxI_le {a b n : Int} : maxI a b ≤ n ↔ a ≤ n ∧ b ≤ n := by unfold maxI; split <;> omega
theorem fold_mx {f : Int → Int} {n : Int} : ∀ {l : List Int} {s : Int}, l.foldl (fun m k => maxI m (f k)) s ≤ n ↔ s ≤ n ∧ ∀ k ∈ l, f k ≤ n
  | [], s => by simp
  | a :: l, s => by
    rw [List.foldl_cons, fold_mx, maxI_le]
    simp only [List.mem_cons, forall_eq_or_imp, and_assoc]
theorem mx_le {f : Int → Int} {l : List Int} {n : Int} : mx f l ≤ n ↔ 0 ≤ n ∧ ∀ k ∈ l, f k ≤ n := fold_mx
theorem mx_nonneg (f : Int → Int) (l : List Int) : 0 ≤ mx f l := (mx_le.mp (Int.le_refl _)).1
theorem mx_congr {f : Int → Int} {l m : List Int} (h : ∀ k, k ∈ l ↔ k ∈ m) : mx f l = mx f m := by
  have h1 : mx f l ≤ mx f m := mx_le.mpr ⟨mx_nonneg _ _, fun k hk => (mx_le.mp (Int.le_refl (mx f m))).2 k ((h k).mp hk)⟩
  have h2 : mx f m ≤ mx f l := mx_le.mpr ⟨mx_nonneg _ _, fun k hk => (mx_le.mp (Int.le_refl (mx f l))).2 k ((h k).mpr hk)⟩
  omega
theorem mx_snoc (f : Int → Int) (l : List Int) (k : Int) : mx f (l ++ [k]) = maxI (mx f l) (f k) := by unfold mx; rw [List.foldl_append]; rfl
theorem maxI_comm_add (a b : Int) : maxI (a + 1) (b + 1) = maxI a b + 1 := by unfold maxI; split <;> split <;> omega
theorem mx_add {f : Int → Int} : ∀ {l : List Int} {s : Int}, l.foldl (fun m k => maxI m (f k + 1)) (s + 1) = l.foldl (fun m k => maxI m (f k)) s + 1
  | [], s => rfl
  | a :: l, s => by rw [List.foldl_cons, List.foldl_cons, maxI_comm_add, mx_add]
/-- the depth of a term whose nulls have these depths -/
def depOf (out : List Int) (args : List Int) : Int := mx (fun k => out.getD k.toNat 0) (nulls args) + 1
def deps_ (ts : List TTerm) : List Int := ts.foldl (fun out t => out ++ [depOf out t.2.2.1]) []
theorem deps_snoc (ts : List TTerm) (t : TTerm) : deps_ (ts ++ [t]) = deps_ ts ++ [depOf (deps_ ts) t.2.2.1] := by unfold deps_; rw [List.foldl_append]; rfl
theorem dps_len (ts : List TTerm) : (deps_ ts).length = ts.length := by
  have : ∀ (l : List TTerm) (s : List Int), (l.foldl (fun out t => out ++ [depOf out t.2.2.1]) s).length = s.length + l.length := by
    intro l
    induction l with
    | nil => intro s; simp
    | cons a l ih => intro s; rw [List.foldl_cons, ih]; simp; omega
  have := this ts []
  simpa [deps_] using this
def termAt_ (ts : List TTerm) (i : Nat) : TTerm := ts.getD i zTerm
theorem termAt_get {ts : List TTerm} {i : Nat} (h : i < ts.length) : termAt_ ts i = ts[i] := getD_at h
def argOk (k : Nat) (v : Int) : Bool := vVal v && !(isNul v && decide ((k : Int) ≤ nulNo v))
def termOk (ts : List TTerm) (k : Nat) : Bool := inR (termAt_ ts k).1 0 4 && inR (termAt_ ts k).2.1 0 4 && decide ((termAt_ ts k).2.2.1.length ≤ 5) && (termAt_ ts k).2.2.1.all (argOk k) && !(ts.take k).any (fun t => decide (t = termAt_ ts k))
def areT (ts : List TTerm) : Bool := decide (ts.length ≤ 30) && (List.range ts.length).all (termOk ts) && (deps_ ts).all fun d => decide (d ≤ 8)
def vSk (s : TSk) : Bool := vInst s.1 && decide (nextN s.1 ≤ s.2.1.length) && areT s.2.1
theorem termOk_args {ts : List TTerm} {k : Nat} (h : termOk ts k = true) {v : Int} (hv : v ∈ (termAt_ ts k).2.2.1) : vVal v = true ∧ (isNul v = true → nulNo v < k) := by
  unfold termOk at h
  simp only [Bool.and_eq_true] at h
  have := List.all_eq_true.mp h.1.2 v hv
  unfold argOk at this
  rw [Bool.and_eq_true] at this
  refine ⟨this.1, fun hn => ?_⟩
  have h2 := this.2
  rw [hn, Bool.true_and] at h2
  simp at h2; exact h2
theorem args_nulls {k : Nat} {args : List Int} (h : args.all (argOk k) = true) : ∀ n ∈ nulls args, 0 ≤ n ∧ n < k := by
  intro n hn
  obtain ⟨h1, h2, h3⟩ := mem_nulls.mp hn
  have := List.all_eq_true.mp h _ h3
  unfold argOk at this
  rw [Bool.and_eq_true] at this
  have hi : isNul (-1 - n) = true := isNul_iff.mpr ⟨by omega, by omega⟩
  have he : nulNo (-1 - n) = n := by unfold nulNo; rw [if_pos hi]; omega
  rw [hi, Bool.true_and, he] at this
  have h4 := this.2
  simp at h4
  exact ⟨h1, h4⟩
theorem areT_term {ts : List TTerm} (h : areT ts = true) {k : Nat} (hk : k < ts.length) : termOk ts k = true := by
  unfold areT at h
  simp only [Bool.and_eq_true] at h
  exact List.all_eq_true.mp h.1.2 k (List.mem_range.mpr hk)
theorem vSk_parts {s : TSk} (h : vSk s = true) : vInst s.1 = true ∧ nextN s.1 ≤ s.2.1.length ∧ areT s.2.1 = true := by
  unfold vSk at h; simp at h; exact ⟨h.1.1, h.1.2, h.2⟩
theorem areT_len {ts : List TTerm} (h : areT ts = true) : ts.length ≤ 30 := by unfold areT at h; simp at h; exact h.1.1
/- ## nesting -/
def nstOf (out : List Int) (args : List Int) : Int := if args = [] then 0 else mx (fun k => out.getD k.toNat 0) (nulls args) + 1
def nst (ts : List TTerm) : List Int := ts.foldl (fun out t => out ++ [nstOf out t.2.2.1]) []
theorem nst_snoc (ts : List TTerm) (t : TTerm) : nst (ts ++ [t]) = nst ts ++ [nstOf (nst ts) t.2.2.1] := by unfold nst; rw [List.foldl_append]; rfl
theorem nst_len (ts : List TTerm) : (nst ts).length = ts.length := by
  have : ∀ (l : List TTerm) (s : List Int), (l.foldl (fun out t => out ++ [nstOf out t.2.2.1]) s).length = s.length + l.length := by
    intro l
    induction l with
    | nil => intro s; simp
    | cons a l ih => intro s; rw [List.foldl_cons, ih]; simp; omega
  have := this ts []
  simpa [nst] using this
theorem nst_app (l m : List TTerm) : ∃ r, nst (l ++ m) = nst l ++ r := by
  induction m generalizing l with
  | nil => exact ⟨[], by simp⟩
  | cons a m ih =>
    obtain ⟨r, hr⟩ := ih (l ++ [a])
    rw [List.append_assoc, nst_snoc, List.append_assoc] at hr
    exact ⟨_, hr⟩
theorem nst_take {ts : List TTerm} {i : Nat} (h : i ≤ ts.length) : nst (ts.take i) = (nst ts).take i := by
  obtain ⟨r, hr⟩ := nst_app (ts.take i) (ts.drop i)
  rw [List.take_append_drop] at hr
  have hl : (nst (ts.take i)).length = i := by rw [nst_len, List.length_take]; omega
  have h2 := congrArg (List.take i) hr
  rw [List.take_append_of_le_length (by omega), List.take_of_length_le (l := nst (ts.take i)) (by omega)] at h2
  exact h2.symm
theorem nst_getD {ts : List TTerm} {i k : Nat} (h : k < i) (hi : i ≤ ts.length) : (nst (ts.take i)).getD k 0 = (nst ts).getD k 0 := by
  have hl := nst_len ts
  rw [nst_take hi, getD_at (by rw [List.length_take]; omega), getD_at (by omega)]; simp
theorem nst_bnd (n : Nat) : ∀ (l : List TTerm), l.length = n → ∀ d ∈ nst l, 0 ≤ d ∧ d ≤ l.length := by
  induction n with
  | zero => intro l hl; obtain rfl := List.length_eq_zero_iff.mp hl; simp [nst]
  | succ n ih0 =>
    intro l0 hl d hd
    have hne : l0 ≠ [] := by intro e; rw [e] at hl; simp at hl
    obtain ⟨l, t, rfl⟩ : ∃ l t, l0 = l ++ [t] := ⟨_, _, (List.dropLast_concat_getLast hne).symm⟩
    have ih := ih0 l (by simpa using hl)
    rw [nst_snoc] at hd
    rw [List.length_append]
    simp only [List.length_cons, List.length_nil]
    rcases List.mem_append.mp hd with hd | hd
    · have := ih d hd; omega
    · have e : d = nstOf (nst l) t.2.2.1 := by simpa using hd
      rw [e]
      unfold nstOf
      split
      · omega
      · have h0 := mx_nonneg (fun k => (nst l).getD k.toNat 0) (nulls t.2.2.1)
        have : mx (fun k => (nst l).getD k.toNat 0) (nulls t.2.2.1) ≤ l.length := mx_le.mpr ⟨by omega, fun k _ => by
          by_cases hk : k.toNat < (nst l).length
          · rw [getD_at hk]; exact (ih _ (List.getElem_mem hk)).2
          · rw [List.getD_eq_getElem?_getD, List.getElem?_eq_none (by omega)]; simp⟩
        omega
theorem nst_rng (ts : List TTerm) (k : Nat) : 0 ≤ (nst ts).getD k 0 ∧ (nst ts).getD k 0 ≤ ts.length := by
  by_cases hk : k < (nst ts).length
  · rw [getD_at hk]; exact nst_bnd _ ts rfl _ (List.getElem_mem hk)
  · rw [List.getD_eq_getElem?_getD, List.getElem?_eq_none (by omega)]; simp
theorem fold_congr {α σ : Type} {f g : σ → α → σ} : ∀ {l : List α} {s : σ}, (∀ a ∈ l, ∀ s, f s a = g s a) → l.foldl f s = l.foldl g s
  | [], _, _ => rfl
  | a :: l, s, h => by rw [List.foldl_cons, List.foldl_cons, h a (by simp)]; exact fold_congr fun b hb => h b (by simp [hb])
theorem mx_fcongr {f g : Int → Int} {l : List Int} (h : ∀ k ∈ l, f k = g k) : mx f l = mx g l := fold_congr fun k hk s => by rw [h k hk]
theorem nst_at {ts : List TTerm} {i : Nat} (h : i < ts.length) (ha : ts[i].2.2.1.all (argOk i) = true) :
    (nst ts).getD i 0 = if ts[i].2.2.1 = [] then 0 else mx (fun k => (nst ts).getD k.toNat 0) (nulls ts[i].2.2.1) + 1 := by
  rw [← nst_getD (show i < i + 1 by omega) (by omega), take_succ_snoc h, nst_snoc]
  have hl : (nst (ts.take i)).length = i := by rw [nst_len, List.length_take]; omega
  have : (nst (ts.take i) ++ [nstOf (nst (ts.take i)) ts[i].2.2.1]).getD i 0 = nstOf (nst (ts.take i)) ts[i].2.2.1 := by
    rw [getD_at (by simp [hl])]
    simp [hl]
  rw [this]
  unfold nstOf
  split
  · rfl
  · congr 1
    refine mx_fcongr fun k hk => ?_
    have := args_nulls ha k hk
    exact nst_getD (by omega) (by omega)
def tdepT (ts : List TTerm) (v : Int) : Int := if isNul v then (nst ts).getD (nulNo v).toNat 0 else 0
def tdep (s : TSk) (v : Int) : Int := if vSk s then tdepT s.2.1 v else 0
theorem tdepT_nonneg (ts : List TTerm) (v : Int) : 0 ≤ tdepT ts v ∧ tdepT ts v ≤ ts.length := by
  unfold tdepT
  split
  · exact nst_rng _ _
  · omega
theorem nulNo_rng (v : Int) : 0 ≤ nulNo v ∧ nulNo v ≤ 39 := by
  unfold nulNo
  split
  · rename_i h; have := isNul_iff.mp h; omega
  · omega
theorem areT_args {ts : List TTerm} (h : areT ts = true) {k : Nat} (hk : k < ts.length) : ts[k].2.2.1.all (argOk k) = true := by
  have := areT_term h hk
  unfold termOk at this
  simp only [Bool.and_eq_true] at this
  rw [termAt_get hk] at this
  exact this.1.2
theorem areT_few {ts : List TTerm} (h : areT ts = true) {k : Nat} (hk : k < ts.length) : ts[k].2.2.1.length ≤ 5 := by
  have := areT_term h hk
  unfold termOk at this
  simp only [Bool.and_eq_true, decide_eq_true_eq] at this
  rw [termAt_get hk] at this
  exact this.1.1.2
theorem nulls_snoc {l : List Int} {j : Nat} (h : j < l.length) : nulls (l.take (j + 1)) = nulls (l.take j) ++ (if isNul l[j] then [-1 - l[j]] else []) := by
  rw [take_succ_snoc h, nulls_append]; congr 1
  unfold nulls
  cases hn : isNul l[j] <;> simp [hn]
theorem getD_left {l m : List Int} {k : Nat} (h : k < l.length) : (l ++ m).getD k 0 = l.getD k 0 := by
  rw [getD_at (by rw [List.length_append]; omega), getD_at h, List.getElem_append_left h]
theorem fold_nulls {g : Int → Int} : ∀ {l : List Int} {s : Int}, 0 ≤ s → l.foldl (fun m v => maxI m (if isNul v then g (nulNo v) else 0)) s = (nulls l).foldl (fun m k => maxI m (g k)) s
  | [], _, _ => rfl
  | a :: l, s, h => by
    have hs : 0 ≤ maxI s (g (nulNo a)) := by unfold maxI; split <;> omega
    have h0 : maxI s 0 = s := by unfold maxI; split <;> omega
    rw [List.foldl_cons]
    cases hn : isNul a with
    | true =>
      have hno : nulNo a = -1 - a := by unfold nulNo; rw [if_pos hn]
      have e : nulls (a :: l) = (-1 - a) :: nulls l := by unfold nulls; simp [hn]
      rw [e, List.foldl_cons, if_pos rfl, fold_nulls hs, hno]
    | false =>
      have e : nulls (a :: l) = nulls l := by unfold nulls; simp [hn]
      rw [e, if_neg (by simp), h0]; exact fold_nulls h
def sumA (l : List TRel) : Int := l.foldl (fun a r => a + r.2.1) 0
theorem sumA_from : ∀ {l : List TRel} {a b : Int}, l.foldl (fun a r => a + r.2.1) (a + b) = l.foldl (fun a r => a + r.2.1) a + b
  | [], _, _ => rfl
  | x :: l, a, b => by rw [List.foldl_cons, List.foldl_cons, show a + b + x.2.1 = (a + x.2.1) + b by omega]; exact sumA_from
theorem sumA_bnd : ∀ {l : List TRel} {a : Int}, (∀ r ∈ l, vRel r = true) → a ≤ l.foldl (fun a r => a + r.2.1) a ∧ l.foldl (fun a r => a + r.2.1) a ≤ a + 3 * l.length
  | [], a, _ => by simp
  | x :: l, a, h => by
    have h1 := vRel_arity (h x (by simp))
    have h2 := sumA_bnd (l := l) (a := a + x.2.1) fun r hr => h r (by simp [hr])
    rw [List.foldl_cons, List.length_cons]; omega
def posIx (l : List TRel) (r p : Int) : Int := if vRels l && inR r 0 ((l.length : Int) - 1) && inR p 0 (arity l r - 1) then sumA (l.take r.toNat) + p else -1
theorem g_sPositionIndex {l : List TRel} {r p : Int} : G_sPositionIndex l r p (posIx l r p) := M_sPositionIndex _ _ _ _ (by
  unfold S_sPositionIndex
  refine ⟨_, g_sAreValidRelations, bc_not (fun h => by unfold posIx; rw [h]; rfl) (fun hv => lenI fun _ => ⟨_, g_sl1In, ?_⟩)⟩
  have hl := vRels_len hv
  rw [w64_id (by omega) (by omega)]
  refine bc_not (fun h => by unfold posIx; rw [h]; simp) (fun h1 => ?_)
  have hr := inR_iff.mp h1
  obtain ⟨n, rfl⟩ : ∃ n : Nat, r = n := ⟨r.toNat, by omega⟩
  have hn : n < l.length := by omega
  have ha := vRel_arity (vRels_mem hv (List.getElem_mem hn))
  refine inI hn ⟨_, g_sl1In, ?_⟩
  rw [getI hn, w64_id (by omega) (by omega)]
  have har : arity l n = l[n].2.1 := by unfold arity; rw [getI hn]
  refine bc_not (fun h => by unfold posIx; rw [har, h]; simp) (fun h2 => ?_)
  have hp := inR_iff.mp h2
  have hb := fun i => sumA_bnd (l := l.take i) (a := 0) fun r hr => vRels_mem hv (List.mem_of_mem_take hr)
  refine loopP_of n (fun i => (sumA (l.take i), ((i : Int), ()))) (by simp [sumA]) ?_ ?_
  · intro i hi X hX
    have hil : i < l.length := by omega
    have hbi := hb (i + 1)
    refine bcI hi (inI hil ?_)
    simp only
    rw [take_succ_snoc hil] at hX hbi
    unfold sumA at hX ⊢
    rw [List.foldl_append] at hX hbi
    simp only [List.foldl_cons, List.foldl_nil, List.length_append, List.length_take, List.length_cons, List.length_nil] at hX hbi
    rw [getI hil, w64_succ (by omega), w64_id (by omega) (by omega)]
    exact hX
  · intro X
    have hbi := hb n
    rw [List.length_take] at hbi
    refine bcN ?_
    unfold posIx
    rw [hv, h1, har, h2]
    simp only
    unfold sumA
    rw [w64_id (by omega) (by omega)]; rfl)
theorem g_iPositionIndex {l : List TRel} {r p : Int} : G_iPositionIndex l r p (posIx l r p) := M_iPositionIndex _ _ _ _ (by
  unfold S_iPositionIndex
  refine ⟨_, g_iAreValidRelations, bc_not (fun h => by unfold posIx; rw [h]; rfl) (fun hv => lenI fun _ => ⟨_, g_iwithin, ?_⟩)⟩
  have hl := vRels_len hv
  rw [w64_id (by omega) (by omega)]
  refine bc_not (fun h => by unfold posIx; rw [h]; simp) (fun h1 => ?_)
  have hr := inR_iff.mp h1
  obtain ⟨n, rfl⟩ : ∃ n : Nat, r = n := ⟨r.toNat, by omega⟩
  have hn : n < l.length := by omega
  have ha := vRel_arity (vRels_mem hv (List.getElem_mem hn))
  refine inI hn ⟨_, g_iwithin, ?_⟩
  rw [getI hn, w64_id (by omega) (by omega)]
  have har : arity l n = l[n].2.1 := by unfold arity; rw [getI hn]
  refine bc_not (fun h => by unfold posIx; rw [har, h]; simp) (fun h2 => ⟨⟨by omega, by omega, by omega⟩, lenI fun _ => ?_⟩)
  have hp := inR_iff.mp h2
  have e0 : List.drop (Int.toNat (0 : Int)) (List.take (Int.toNat (n : Int)) l) = l.take n := rfl
  have hnl : (l.take n).length = n := by rw [List.length_take]; omega
  rw [e0]
  refine loopP_of n (fun i => ((l.take i).foldl (fun a r => a + r.2.1) p, ((i : Int), ()))) (by simp) ?_ ?_
  · intro i hi X hX
    have hil : i < l.length := by omega
    have hit : i < (l.take n).length := by omega
    have hbi := sumA_bnd (l := l.take (i + 1)) (a := p) fun r hr => vRels_mem hv (List.mem_of_mem_take hr)
    refine bcI hit (inI hit ?_)
    simp only
    have e : (l.take n)[i] = l[i] := by simp
    rw [take_succ_snoc hil] at hX hbi
    rw [List.foldl_append] at hX hbi
    simp only [List.foldl_cons, List.foldl_nil, List.length_append, List.length_take, List.length_cons, List.length_nil] at hX hbi
    rw [getI hit, e, w64_succ (by omega), w64_id (by omega) (by omega)]
    exact hX
  · intro X
    rw [hnl]
    refine bcN ?_
    unfold posIx
    rw [hv, h1, har, h2]
    have := sumA_from (l := l.take n) (a := 0) (b := p)
    rw [Int.zero_add] at this
    simp only
    rw [this]; rfl)
theorem g_sFrontierVariables {d : TDep} (h1 : (d.1.flatMap (·.2.1)).length ≤ 1073741824) (h2 : (d.2.1.flatMap (·.2.1)).length ≤ 1073741824) : G_sFrontierVariables d (frV d) := M_sFrontierVariables _ _ (by
  unfold S_sFrontierVariables
  have hv := vars_len d.2.1
  refine ⟨_, g_sVariables h1, _, g_sVariables h2, ?_⟩
  refine loopP_of (vars d.2.1).length (fun i => ((i : Int), (((vars d.2.1).take i).filter (fun v => decide (v ∈ vars d.1)), ()))) (by simp) ?_ ?_
  · intro i hi X hX
    refine lenI fun _ => bcI hi (inI hi ⟨_, g_sl4Has, ?_⟩)
    simp only
    rw [getI hi, w64_succ (by omega)]
    have e : ((vars d.2.1).take (i + 1)).filter (fun v => decide (v ∈ vars d.1)) = ((vars d.2.1).take i).filter (fun v => decide (v ∈ vars d.1)) ++ (if (vars d.2.1)[i] ∈ vars d.1 then [(vars d.2.1)[i]] else []) := by
      rw [take_succ_snoc hi, List.filter_append]
      by_cases h : (vars d.2.1)[i] ∈ vars d.1 <;> simp [h]
    rw [e] at hX
    have hb := List.length_filter_le (fun v => decide (v ∈ vars d.1)) ((vars d.2.1).take i)
    rw [List.length_take] at hb
    refine bc_if (fun h => inI hi ⟨by simp only [maxL, List.length_cons, List.length_nil]; omega, ?_⟩) (fun h => ?_)
    · have h : (vars d.2.1)[i] ∈ vars d.1 := by simpa using h
      rw [if_pos h] at hX; exact hX
    · have h : ¬ (vars d.2.1)[i] ∈ vars d.1 := by simpa using h
      rw [if_neg h, List.append_nil] at hX; exact hX
  · intro X
    refine lenI fun _ => bcN ?_
    simp only [List.take_length]
    rfl)
theorem g_iFrontierVariables {d : TDep} (h1 : (d.1.flatMap (·.2.1)).length ≤ 1073741824) (h2 : (d.2.1.flatMap (·.2.1)).length ≤ 1073741824) : G_iFrontierVariables d (frV d) := M_iFrontierVariables _ _ (by
  unfold S_iFrontierVariables
  exact ⟨_, g_iheadVariables h1 h2, by rw [hdV_true]⟩)
/- ## positions of a variable -/
def placeG (l : List TRel) (a : TFact) (v : Int) (out : List Int) (j : Nat) : List Int := if a.2.1.getD j 0 == v then out ++ [posIx l a.1 j] else out
def placeA (l : List TRel) (v : Int) (out : List Int) (a : TFact) : List Int := (List.range a.2.1.length).foldl (placeG l a v) out
def places (l : List TRel) (ats : List TFact) (v : Int) : List Int := ats.foldl (placeA l v) []
theorem placeR_len (l : List TRel) (a : TFact) (v : Int) (out : List Int) : ∀ n : Nat, ((List.range n).foldl (placeG l a v) out).length ≤ out.length + n
  | 0 => by simp
  | n + 1 => by
    have := placeR_len l a v out n
    rw [List.range_succ, List.foldl_append, List.foldl_cons, List.foldl_nil]
    unfold placeG at this ⊢
    split
    · rw [List.length_append]; simp only [List.length_cons, List.length_nil]; omega
    · omega
theorem placeA_len (l : List TRel) (v : Int) (out : List Int) (a : TFact) : (placeA l v out a).length ≤ out.length + a.2.1.length := placeR_len l a v out _
theorem placesF_len (l : List TRel) (v : Int) : ∀ (ats : List TFact) (out : List Int), (ats.foldl (placeA l v) out).length ≤ out.length + (ats.flatMap (·.2.1)).length
  | [], out => by simp
  | a :: ats, out => by
    have h1 := placesF_len l v ats (placeA l v out a)
    have h2 := placeA_len l v out a
    rw [List.foldl_cons, List.flatMap_cons, List.length_append]; omega
theorem places_len (l : List TRel) (ats : List TFact) (v : Int) : (places l ats v).length ≤ (ats.flatMap (·.2.1)).length := by
  have := placesF_len l v ats []
  simpa [places] using this
theorem places_mem {l : List TRel} {ats : List TFact} {v p : Int} (h : p ∈ places l ats v) : ∃ a ∈ ats, ∃ j : Nat, j < a.2.1.length ∧ p = posIx l a.1 j := by
  have h2 : ∀ (a : TFact) (n : Nat) (out : List Int), p ∈ (List.range n).foldl (placeG l a v) out → p ∈ out ∨ ∃ j : Nat, j < n ∧ p = posIx l a.1 j := by
    intro a n
    induction n with
    | zero => intro out h; exact .inl (by simpa using h)
    | succ n ih =>
      intro out h
      rw [List.range_succ, List.foldl_append, List.foldl_cons, List.foldl_nil] at h
      unfold placeG at h
      split at h
      · rcases List.mem_append.mp h with h | h
        · rcases ih out h with h | ⟨j, hj, e⟩
          · exact .inl h
          · exact .inr ⟨j, by omega, e⟩
        · exact .inr ⟨n, by omega, by simpa using h⟩
      · rcases ih out h with h | ⟨j, hj, e⟩
        · exact .inl h
        · exact .inr ⟨j, by omega, e⟩
  have h3 : ∀ (bs : List TFact) (out : List Int), p ∈ bs.foldl (placeA l v) out → p ∈ out ∨ ∃ a ∈ bs, ∃ j : Nat, j < a.2.1.length ∧ p = posIx l a.1 j := by
    intro bs
    induction bs with
    | nil => intro out h; exact .inl h
    | cons a bs ih =>
      intro out h
      rw [List.foldl_cons] at h
      rcases ih _ h with h | ⟨b, hb, e⟩
      · rcases h2 a _ out h with h | ⟨j, hj, e⟩
        · exact .inl h
        · exact .inr ⟨a, by simp, j, hj, e⟩
      · exact .inr ⟨b, by simp [hb], e⟩
  rcases h3 ats [] h with h | h
  · cases h
  · exact h
theorem g_sl13Places {l : List TRel} {ats : List TFact} {v : Int} (hb : (ats.flatMap (·.2.1)).length ≤ 1073741824) : G_sl13Places l ats v (places l ats v) := M_sl13Places _ _ _ _ (by
  unfold S_sl13Places
  refine loop_fold ats (placeA l v) [] (fun i m => ((i : Int), (m, ()))) ?_ ?_
  · intro i hi X hX
    have hs := flat_split (fun a : TFact => a.2.1) hi
    have hm := placesF_len l v (ats.take i) []
    rw [List.length_nil] at hm
    refine lenI fun _ => bcI hi ?_
    simp only
    rw [getI hi]
    generalize (ats.take i).foldl (placeA l v) [] = m0 at hX hm ⊢
    unfold placeA at hX
    refine loopP_of ats[i].2.1.length (fun j => ((j : Int), ((List.range j).foldl (placeG l ats[i] v) m0, ()))) (by simp) ?_ ?_
    · intro j hj Y hY
      have hl := placeR_len l ats[i] v m0 j
      refine inI hi (lenI fun _ => bcI hj (inI hi (inI hj ?_)))
      simp only
      rw [w64_succ (by omega)]
      rw [List.range_succ, List.foldl_append, List.foldl_cons, List.foldl_nil] at hY
      rw [placeG.eq_def] at hY
      refine bc_if (fun h => inI hi ⟨_, g_sPositionIndex, ⟨by simp only [maxL, List.length_cons, List.length_nil]; omega, ?_⟩⟩) (fun h => ?_)
      · rw [if_pos (show (ats[i].2.1.getD j 0 == v) = true from h)] at hY; exact hY
      · rw [show (ats[i].2.1.getD j 0 == v) = false from h] at hY; exact hY
    · intro Y
      refine inI hi (lenI fun _ => bcN ?_)
      simp only
      rw [w64_succ (by omega)]; exact hX
  · intro X
    exact lenI fun _ => bcN rfl)
theorem g_ipositionsOf {l : List TRel} {ats : List TFact} {v : Int} (hb : (ats.flatMap (·.2.1)).length ≤ 1073741824) : G_ipositionsOf l ats v (places l ats v) := M_ipositionsOf _ _ _ _ (by
  unfold S_ipositionsOf
  refine lenI fun _ => loop_fold ats (placeA l v) [] (fun i m => ((i : Int), (m, ()))) ?_ ?_
  · intro i hi X hX
    have hs := flat_split (fun a : TFact => a.2.1) hi
    have hm := placesF_len l v (ats.take i) []
    rw [List.length_nil] at hm
    refine bcI hi (inI hi (lenI fun _ => ?_))
    simp only
    rw [getI hi]
    generalize (ats.take i).foldl (placeA l v) [] = m0 at hX hm ⊢
    unfold placeA at hX
    refine loopP_of ats[i].2.1.length (fun j => ((j : Int), ((List.range j).foldl (placeG l ats[i] v) m0, ()))) (by simp) ?_ ?_
    · intro j hj Y hY
      have hl := placeR_len l ats[i] v m0 j
      refine bcI hj (inI hj ?_)
      simp only
      rw [w64_succ (by omega)]
      rw [List.range_succ, List.foldl_append, List.foldl_cons, List.foldl_nil] at hY
      rw [placeG.eq_def] at hY
      refine bc_if (fun h => ⟨_, g_iPositionIndex, ⟨by simp only [maxL, List.length_cons, List.length_nil]; omega, ?_⟩⟩) (fun h => ?_)
      · rw [if_pos (show (ats[i].2.1.getD j 0 == v) = true from h)] at hY; exact hY
      · rw [show (ats[i].2.1.getD j 0 == v) = false from h] at hY; exact hY
    · intro Y
      refine bcN ?_
      simp only
      rw [w64_succ (by omega)]; exact hX
  · intro X
    exact bcN rfl)
/- ## the graph -/
def putE (e : List TEdge) (x : TEdge) : List TEdge := if x ∈ e then e else e ++ [x]
def ed (f : Int) (b : Bool) (ps : List Int) (out : List TEdge) : List TEdge := ps.foldl (fun out t => putE out (f, t, b, ())) out
def gFrom (l : List TRel) (d : TDep) (v : Int) (out : List TEdge) (f : Int) : List TEdge := (exV d).foldl (fun out n => ed f true (places l d.2.1 n) out) (ed f false (places l d.2.1 v) out)
def gVar (l : List TRel) (d : TDep) (out : List TEdge) (v : Int) : List TEdge := (places l d.1 v).foldl (gFrom l d v) out
def gDep (l : List TRel) (out : List TEdge) (d : TDep) : List TEdge := (frV d).foldl (gVar l d) out
def graph (l : List TRel) (ds : List TDep) : List TEdge := if vDeps l ds then ds.foldl (gDep l) [] else []
theorem putE_len (e : List TEdge) (x : TEdge) : (putE e x).length ≤ e.length + 1 := by unfold putE; split <;> simp
/-- a fold with a length that grows by no more than c -/
theorem fold_len {α σ : Type} {μ : σ → Nat} {g : σ → α → σ} {c : Nat} : ∀ {l : List α} {s : σ}, (∀ s, ∀ a ∈ l, μ (g s a) ≤ μ s + c) → μ (l.foldl g s) ≤ μ s + l.length * c
  | [], s, _ => by simp
  | a :: l, s, h => by
    have h1 := h s a (by simp)
    have h2 := fold_len (s := g s a) fun s b (hb : b ∈ l) => h s b (by simp [hb])
    rw [List.foldl_cons, List.length_cons, Nat.add_mul]; omega
theorem loop_foldB {α σ τ : Type} {B : (τ → Prop) → τ → Prop} (l : List α) (g : σ → α → σ) (s0 : σ) (e : Nat → σ → τ) (μ : σ → Nat) (c N : Nat) (hN : l.length ≤ N) (hg : ∀ s, ∀ a ∈ l, μ (g s a) ≤ μ s + c)
    (hs : ∀ i (h : i < l.length) (s : σ) (X : τ → Prop), μ s ≤ μ s0 + N * c → X (e (i + 1) (g s l[i])) → B X (e i s))
    (hf : ∀ X : τ → Prop, μ (l.foldl g s0) ≤ μ s0 + N * c → B X (e l.length (l.foldl g s0))) : LoopP B (e 0 s0) := by
  have hb : ∀ i, i ≤ l.length → μ ((l.take i).foldl g s0) ≤ μ s0 + N * c := fun i hi => by
    have h1 := fold_len (μ := μ) (g := g) (c := c) (l := l.take i) (s := s0) fun s a ha => hg s a (List.mem_of_mem_take ha)
    rw [List.length_take, Nat.min_eq_left hi] at h1
    have : i * c ≤ N * c := Nat.mul_le_mul_right c (by omega)
    omega
  refine loop_fold l g s0 e (fun i hi X hX => hs i hi _ X (hb i (by omega)) hX) (fun X => hf X ?_)
  have := hb l.length (Nat.le_refl _)
  rwa [List.take_length] at this
theorem ed_len (f : Int) (b : Bool) (ps : List Int) (out : List TEdge) : (ed f b ps out).length ≤ out.length + ps.length := by
  have := fold_len (μ := List.length) (g := fun out t => putE out (f, t, b, ())) (c := 1) (l := ps) (s := out) fun s a _ => putE_len _ _
  unfold ed; omega
/-- a dependency whose atoms are few -/
def small (d : TDep) : Prop := (d.1.flatMap (·.2.1)).length ≤ 6 ∧ (d.2.1.flatMap (·.2.1)).length ≤ 6
theorem small_of {l : List TRel} {d : TDep} (h : vDep l d = true) : small d := by
  have := vDep_spec h; exact ⟨this.2.2.2.2.2.1, this.2.2.2.2.2.2⟩
theorem exV_len {d : TDep} (h : small d) : (exV d).length ≤ 6 := Nat.le_trans (List.length_filter_le _ _) (Nat.le_trans (vars_len _) h.2)
theorem frV_len {d : TDep} (h : small d) : (frV d).length ≤ 6 := Nat.le_trans (List.length_filter_le _ _) (Nat.le_trans (vars_len _) h.2)
theorem gFrom_len {l : List TRel} {d : TDep} (h : small d) (v : Int) (out : List TEdge) (f : Int) : (gFrom l d v out f).length ≤ out.length + 42 := by
  have h1 := ed_len f false (places l d.2.1 v) out
  have h2 := places_len l d.2.1 v
  have h3 := fold_len (μ := List.length) (g := fun out n => ed f true (places l d.2.1 n) out) (c := 6) (l := exV d) (s := ed f false (places l d.2.1 v) out) fun s a _ => by
    have h1 := ed_len f true (places l d.2.1 a) s
    have h2 := places_len l d.2.1 a
    have := h.2; omega
  have h4 := exV_len h
  have := h.2
  unfold gFrom; omega
theorem gVar_len {l : List TRel} {d : TDep} (h : small d) (out : List TEdge) (v : Int) : (gVar l d out v).length ≤ out.length + 252 := by
  have h1 := fold_len (μ := List.length) (g := gFrom l d v) (c := 42) (l := places l d.1 v) (s := out) fun s a _ => gFrom_len h v s a
  have h2 := places_len l d.1 v
  have := h.1
  unfold gVar; omega
theorem gDep_len {l : List TRel} {d : TDep} (h : small d) (out : List TEdge) : (gDep l out d).length ≤ out.length + 1512 := by
  have h1 := fold_len (μ := List.length) (g := gVar l d) (c := 252) (l := frV d) (s := out) fun s a _ => gVar_len h s a
  have h2 := frV_len h
  unfold gDep; omega
theorem eqD_edge (x y : TEdge) : eqD (.pair (.int .i64) (.pair (.int .i64) (.pair .bool .unit))) x y = decide (x = y) := by
  obtain ⟨a, b, c, _⟩ := x; obtain ⟨a', b', c', _⟩ := y
  show ((a == a') && ((b == b') && ((c == c') && true))) = _
  by_cases h1 : a = a' <;> by_cases h2 : b = b' <;> by_cases h3 : c = c' <;> simp [h1, h2, h3]
theorem g_slices_Index_PositionEdge {x0 : List TEdge} {x1 : TEdge} : G_slices_Index_PositionEdge x0 x1 (if firstAt (fun t => decide (x1 = t)) x0 < x0.length then (firstAt (fun t => decide (x1 = t)) x0 : Int) else -1) := M_slices_Index_PositionEdge _ _ _ (by
  unfold S_slices_Index_PositionEdge
  exact idxRow (d := zEdge) (fun t => decide (x1 = t)) (fun y => ((y, ()) : Int × Unit) = ((if firstAt (fun t => decide (x1 = t)) x0 < x0.length then (firstAt (fun t => decide (x1 = t)) x0 : Int) else -1), ())) (fun t A B => bcase (eqD (.pair (.int .i64) (.pair (.int .i64) (.pair .bool .unit))) x1 t) A B) (fun t _ A B h1 h2 => by rw [eqD_edge]; exact bc_if h1 h2) rfl)
theorem g_slices_Contains_PositionEdge {x0 : List TEdge} {x1 : TEdge} : G_slices_Contains_PositionEdge x0 x1 (decide (x1 ∈ x0)) := M_slices_Contains_PositionEdge _ _ _ (by
  unfold S_slices_Contains_PositionEdge
  refine ⟨_, g_slices_Index_PositionEdge, ?_⟩
  rw [idx_ge]
  have : (x0.any fun t => decide (x1 = t)) = decide (x1 ∈ x0) := by
    rw [Bool.eq_iff_iff, List.any_eq_true]
    simp
  rw [this])
theorem g_sl13Put_ooz {e : List TEdge} {x : TEdge} (h : e.length ≤ 1073741824) : G_sl13Put_ooz e x (putE e x) := M_sl13Put_ooz _ _ _ (by
  unfold S_sl13Put_ooz
  refine loop_any e (fun y => decide (y = x)) (fun i => ((i : Int), ())) (KT := x ∈ e) (KF := ¬ x ∈ e) ?_ ?_ ?_ ?_
  · intro i hi X h1 h2
    refine lenI fun _ => bcI hi (inI hi ?_)
    simp only
    rw [getI hi, w64_succ (by omega)]
    rw [eqD_edge]
    refine bc_if (fun h => ?_) (fun h => h2 h)
    have := h1 h
    unfold putE; rw [if_pos this]
  · intro X hn
    refine lenI fun _ => bcN ⟨by simp only [maxL, List.length_cons, List.length_nil]; omega, ?_⟩
    unfold putE; rw [if_neg hn]
  · intro h
    obtain ⟨y, hy, hp⟩ := List.any_eq_true.mp h
    have : y = x := by simpa using hp
    rw [← this]; exact hy
  · intro h hm
    have : e.any (fun y => decide (y = x)) = true := List.any_eq_true.mpr ⟨x, hm, by simp⟩
    rw [h] at this; cases this)
theorem g_iPositionGraph_1_pooz {f v : Int} {hd : List TFact} {b : Bool} {l : List TRel} {out : List TEdge} (hb : (hd.flatMap (·.2.1)).length ≤ 6) (h : out.length ≤ 1000000) : G_iPositionGraph_1_pooz f hd v b l out (ed f b (places l hd v) out) := M_iPositionGraph_1_pooz _ _ _ _ _ _ _ (by
  unfold S_iPositionGraph_1_pooz
  have hp := places_len l hd v
  refine ⟨_, g_ipositionsOf (by omega), lenI fun _ => ?_⟩
  refine loop_foldB (places l hd v) (fun out t => putE out (f, t, b, ())) out (fun i m => ((i : Int), (m, ()))) List.length 1 6 (by omega) (fun s a _ => putE_len _ _) ?_ ?_
  · intro i hi s X hs hX
    refine bcI hi (inI hi ⟨_, g_slices_Contains_PositionEdge, ?_⟩)
    simp only
    rw [getI hi, w64_succ (by omega)]
    unfold putE at hX
    refine bc_not (fun h => ⟨by simp only [maxL, List.length_cons, List.length_nil]; omega, ?_⟩) (fun h => ?_)
    · have hn : ¬ (f, (places l hd v)[i], b, ()) ∈ s := by simpa using h
      rw [if_neg hn] at hX; exact hX
    · have hn : (f, (places l hd v)[i], b, ()) ∈ s := by simpa using h
      rw [if_pos hn] at hX; exact hX
  · intro X _
    exact bcN rfl)
theorem g_iPositionGraph {l : List TRel} {ds : List TDep} : G_iPositionGraph l ds (graph l ds) := M_iPositionGraph _ _ _ (by
  unfold S_iPositionGraph graph
  refine ⟨_, g_iAreValidDependencies, bc_not (fun h => by rw [h]; rfl) (fun hv => lenI fun _ => ?_)⟩
  rw [hv, if_pos rfl]
  have hdl := vDeps_len hv
  have hsm : ∀ d ∈ ds, small d := fun d hd => small_of (vDeps_mem hv hd)
  refine loop_foldB ds (gDep l) [] (fun i m => ((i : Int), (m, ()))) List.length 1512 5 hdl (fun s a ha => gDep_len (hsm a ha) s) ?_ ?_
  · intro i hi s X hs hX
    rw [List.length_nil] at hs
    have hd := hsm _ (List.getElem_mem hi)
    have hd1 := hd.1
    have hd2 := hd.2
    have hfl := frV_len hd
    refine bcI hi (inI hi ⟨_, g_iFrontierVariables (by simp only; rw [getI hi]; omega) (by simp only; rw [getI hi]; omega), lenI fun _ => ?_⟩)
    simp only
    rw [getI hi, w64_succ (by omega)]
    refine loop_foldB (frV ds[i]) (gVar l ds[i]) s (fun i m => ((i : Int), (m, ()))) List.length 252 6 hfl (fun s a _ => gVar_len hd s a) ?_ ?_
    · intro j hj s2 Y hs2 hY
      have hpl := places_len l ds[i].1 (frV ds[i])[j]
      refine bcI hj (inI hj ⟨_, g_ipositionsOf (by omega), lenI fun _ => ?_⟩)
      simp only
      rw [getI hj, w64_succ (by omega)]
      refine loop_foldB (places l ds[i].1 (frV ds[i])[j]) (gFrom l ds[i] (frV ds[i])[j]) s2 (fun i m => ((i : Int), (m, ()))) List.length 42 6 (by omega) (fun s a _ => gFrom_len hd _ s a) ?_ ?_
      · intro k hk s3 Z hs3 hZ
        have hel := exV_len hd
        refine bcI hk (inI hk ⟨_, g_iPositionGraph_1_pooz hd2 (by simp only; omega), _, g_iExistentialVariables (by omega) (by omega), lenI fun _ => ?_⟩)
        simp only
        rw [getI hk, w64_succ (by omega)]
        have he1 := ed_len (places l ds[i].1 (frV ds[i])[j])[k] false (places l ds[i].2.1 (frV ds[i])[j]) s3
        have hp1 := places_len l ds[i].2.1 (frV ds[i])[j]
        refine loop_foldB (exV ds[i]) (fun out n => ed (places l ds[i].1 (frV ds[i])[j])[k] true (places l ds[i].2.1 n) out) (ed (places l ds[i].1 (frV ds[i])[j])[k] false (places l ds[i].2.1 (frV ds[i])[j]) s3) (fun i m => ((i : Int), (m, ()))) List.length 6 6 hel (fun s a _ => by
          have h1 := ed_len (places l ds[i].1 (frV ds[i])[j])[k] true (places l ds[i].2.1 a) s
          have h2 := places_len l ds[i].2.1 a
          omega) ?_ ?_
        · intro m hm s4 W hs4 hW
          refine bcI hm (inI hm ⟨_, g_iPositionGraph_1_pooz hd2 (by simp only; omega), ?_⟩)
          simp only
          rw [getI hm, w64_succ (by omega)]; exact hW
        · intro W _
          exact bcN hZ
      · intro Z _
        exact bcN hY
    · intro Y _
      exact bcN hX
  · intro X _
    exact bcN rfl)
theorem g_sPositionGraph {l : List TRel} {ds : List TDep} : G_sPositionGraph l ds (graph l ds) := M_sPositionGraph _ _ _ (by
  unfold S_sPositionGraph graph
  cases hv : vDeps l ds with
  | false =>
    refine loopP_of 0 (fun _ => ((0 : Int), (([] : List TEdge), ()))) rfl (fun i hi => by omega) fun X => ?_
    refine lenI fun _ => bc_dec (fun _ => ⟨_, g_sAreValidDependencies, ?_⟩) (fun _ => ?_)
    · rw [hv]; exact bcF (by simp)
    · simp
  | true =>
    rw [if_pos rfl]
    have hdl := vDeps_len hv
    have hsm : ∀ d ∈ ds, small d := fun d hd => small_of (vDeps_mem hv hd)
    refine loop_foldB ds (gDep l) [] (fun i m => ((i : Int), (m, ()))) List.length 1512 5 hdl (fun s a ha => gDep_len (hsm a ha) s) ?_ ?_
    · intro i hi s X hs hX
      rw [List.length_nil] at hs
      have hd := hsm _ (List.getElem_mem hi)
      have hd1 := hd.1
      have hd2 := hd.2
      have hfl := frV_len hd
      have hel := exV_len hd
      refine lenI fun _ => bcI hi ⟨_, g_sAreValidDependencies, ?_⟩
      rw [hv]
      refine bcT (inI hi ⟨_, g_sFrontierVariables (by simp only; rw [getI hi]; omega) (by simp only; rw [getI hi]; omega), inI hi ⟨_, g_sExistentialVariables (by simp only; rw [getI hi]; omega) (by simp only; rw [getI hi]; omega), ?_⟩⟩)
      simp only
      rw [getI hi, w64_succ (by omega)]
      refine loop_foldB (frV ds[i]) (gVar l ds[i]) s (fun i m => ((i : Int), (m, ()))) List.length 252 6 hfl (fun s a _ => gVar_len hd s a) ?_ ?_
      · intro j hj s2 Y hs2 hY
        have hpl := places_len l ds[i].1 (frV ds[i])[j]
        have hpl2 := places_len l ds[i].2.1 (frV ds[i])[j]
        refine lenI fun _ => bcI hj (inI hi (inI hj ⟨_, g_sl13Places (by omega), inI hi (inI hj ⟨_, g_sl13Places (by omega), ?_⟩)⟩))
        simp only
        rw [getI hj, w64_succ (by omega)]
        refine loop_foldB (places l ds[i].1 (frV ds[i])[j]) (gFrom l ds[i] (frV ds[i])[j]) s2 (fun i m => ((i : Int), (m, ()))) List.length 42 6 (by omega) (fun s a _ => gFrom_len hd _ s a) ?_ ?_
        · intro k hk s3 Z hs3 hZ
          refine lenI fun _ => bcI hk ?_
          simp only
          rw [getI hk, w64_succ (by omega)]
          have he1 := ed_len (places l ds[i].1 (frV ds[i])[j])[k] false (places l ds[i].2.1 (frV ds[i])[j]) s3
          refine loop_foldB (places l ds[i].2.1 (frV ds[i])[j]) (fun out t => putE out ((places l ds[i].1 (frV ds[i])[j])[k], t, false, ())) s3 (fun i m => ((i : Int), (m, ()))) List.length 1 6 (by omega) (fun s a _ => putE_len _ _) ?_ ?_
          · intro m hm s4 W hs4 hW
            refine lenI fun _ => bcI hm (inI hk (inI hm ⟨_, g_sl13Put_ooz (by simp only; omega), ?_⟩))
            simp only
            rw [getI hm, w64_succ (by omega)]; exact hW
          · intro W hs4
            refine lenI fun _ => bcN ?_
            simp only
            refine loop_foldB (exV ds[i]) (fun out n => ed (places l ds[i].1 (frV ds[i])[j])[k] true (places l ds[i].2.1 n) out) (ed (places l ds[i].1 (frV ds[i])[j])[k] false (places l ds[i].2.1 (frV ds[i])[j]) s3) (fun i m => ((i : Int), (m, ()))) List.length 6 6 hel (fun s a _ => by
              have h1 := ed_len (places l ds[i].1 (frV ds[i])[j])[k] true (places l ds[i].2.1 a) s
              have h2 := places_len l ds[i].2.1 a
              omega) ?_ ?_
            · intro m hm s4 V hs4 hV
              have hpl3 := places_len l ds[i].2.1 (exV ds[i])[m]
              refine lenI fun _ => bcI hm (inI hi (inI hm ⟨_, g_sl13Places (by omega), ?_⟩))
              simp only
              rw [getI hm, w64_succ (by omega)]
              refine loop_foldB (places l ds[i].2.1 (exV ds[i])[m]) (fun out t => putE out ((places l ds[i].1 (frV ds[i])[j])[k], t, true, ())) s4 (fun i m => ((i : Int), (m, ()))) List.length 1 6 (by omega) (fun s a _ => putE_len _ _) ?_ ?_
              · intro p hp s5 V5 hs5 hV5
                refine lenI fun _ => bcI hp (inI hk (inI hp ⟨_, g_sl13Put_ooz (by simp only; omega), ?_⟩))
                simp only
                rw [getI hp, w64_succ (by omega)]; exact hV5
              · intro V5 _
                exact lenI fun _ => bcN hV
            · intro V _
              exact lenI fun _ => bcN hZ
        · intro Z _
          exact lenI fun _ => bcN hY
      · intro Y _
        exact lenI fun _ => bcN hX
    · intro X _
      exact lenI fun _ => bcN rfl)
def cntP (l : List TRel) : Int := if vRels l then sumA l else 0
theorem g_sPositionCount {l : List TRel} : G_sPositionCount l (cntP l) := M_sPositionCount _ _ (by
  unfold S_sPositionCount cntP
  cases hv : vRels l with
  | false =>
    refine loopP_of 0 (fun _ => ((0 : Int), ((0 : Int), ()))) rfl (fun i hi => by omega) fun X => ?_
    refine lenI fun _ => bc_dec (fun _ => ⟨_, g_sAreValidRelations, ?_⟩) (fun _ => ?_)
    · rw [hv]; exact bcF (by simp)
    · simp
  | true =>
    rw [if_pos rfl]
    have hl := vRels_len hv
    refine loop_fold l (fun a r => a + r.2.1) 0 (fun i m => (m, ((i : Int), ()))) ?_ ?_
    · intro i hi X hX
      have hb := sumA_bnd (l := l.take i) (a := 0) fun r hr => vRels_mem hv (List.mem_of_mem_take hr)
      rw [List.length_take] at hb
      have ha := vRel_arity (vRels_mem hv (List.getElem_mem hi))
      refine lenI fun _ => bcI hi ⟨_, g_sAreValidRelations, ?_⟩
      rw [hv]
      refine bcT (inI hi ?_)
      simp only
      rw [getI hi, w64_succ (by omega), w64_id (by omega) (by omega)]
      exact hX
    · intro X
      exact lenI fun _ => bcN rfl)
theorem g_iPositionCount {l : List TRel} : G_iPositionCount l (cntP l) := M_iPositionCount _ _ (by
  unfold S_iPositionCount cntP
  refine ⟨_, g_iAreValidRelations, bc_not (fun h => by rw [h]; rfl) (fun hv => lenI fun _ => ?_)⟩
  rw [hv, if_pos rfl]
  have hl := vRels_len hv
  refine loop_fold l (fun a r => a + r.2.1) 0 (fun i m => (m, ((i : Int), ()))) ?_ ?_
  · intro i hi X hX
    have hb := sumA_bnd (l := l.take i) (a := 0) fun r hr => vRels_mem hv (List.mem_of_mem_take hr)
    rw [List.length_take] at hb
    have ha := vRel_arity (vRels_mem hv (List.getElem_mem hi))
    refine bcI hi (inI hi ?_)
    simp only
    rw [getI hi, w64_succ (by omega), w64_id (by omega) (by omega)]
    exact hX
  · intro X
    exact bcN rfl)
/- ## rounds -/
def iterN {α : Type} (f : α → α) : Nat → α → α
  | 0, a => a
  | n + 1, a => iterN f n (f a)
theorem iterN_succ {α : Type} {f : α → α} : ∀ {n : Nat} {a : α}, iterN f (n + 1) a = f (iterN f n a)
  | 0, _ => rfl
  | n + 1, a => by rw [iterN, iterN_succ]; rfl
theorem iterN_add {α : Type} {f : α → α} {a : α} (m : Nat) : ∀ {n : Nat}, iterN f (m + n) a = iterN f n (iterN f m a)
  | 0 => rfl
  | n + 1 => by rw [← Nat.add_assoc, iterN_succ, iterN_succ, iterN_add]
theorem iterN_fix {α : Type} {f : α → α} {a : α} (h : f a = a) : ∀ n : Nat, iterN f n a = a
  | 0 => rfl
  | n + 1 => by rw [iterN, h]; exact iterN_fix h n
theorem iterN_inv {α : Type} {f : α → α} {I : α → Prop} (h : ∀ a, I a → I (f a)) : ∀ {n : Nat} {a : α}, I a → I (iterN f n a)
  | 0, _, ha => ha
  | n + 1, _, ha => iterN_inv h (n := n) (h _ ha)
theorem iter_fix {α : Type} {f : α → α} {I : α → Prop} {μ : α → Nat} {N : Nat} (h1 : ∀ a, I a → I (f a)) (h2 : ∀ a, I a → f a ≠ a → μ a < μ (f a)) (h3 : ∀ a, I a → μ a ≤ N) :
    ∀ {n : Nat} {a : α}, I a → N ≤ μ a + n → f (iterN f n a) = iterN f n a
  | 0, a, ha, hn => by
    rcases Classical.em (f a = a) with h | h
    · exact h
    · have := h2 a ha h; have := h3 _ (h1 a ha); omega
  | n + 1, a, ha, hn => by
    rcases Classical.em (f a = a) with h | h
    · rw [iterN_fix h]; exact h
    · have := h2 a ha h
      exact iter_fix h1 h2 h3 (n := n) (h1 a ha) (by omega)
theorem count_le {α : Type} {p q : α → Bool} : ∀ {l : List α}, (∀ x ∈ l, p x = true → q x = true) → l.countP p ≤ l.countP q
  | [], _ => by simp
  | a :: l, h => by
    have ih := count_le (l := l) fun x hx => h x (by simp [hx])
    have ha := h a (by simp)
    rw [List.countP_cons, List.countP_cons]
    cases hp : p a with
    | false => cases q a <;> simp <;> omega
    | true => rw [ha hp]; simp; exact ih
theorem count_lt {α : Type} {p q : α → Bool} : ∀ {l : List α}, (∀ x ∈ l, p x = true → q x = true) → (∃ x ∈ l, q x = true ∧ p x = false) → l.countP p < l.countP q
  | [], _, ⟨_, h, _⟩ => by cases h
  | a :: l, h, ⟨x, hx, hq, hp⟩ => by
    have ih := count_le (l := l) fun x hx => h x (by simp [hx])
    rw [List.countP_cons, List.countP_cons]
    rcases List.mem_cons.mp hx with rfl | hx
    · rw [hp, hq]; simp; omega
    · have := count_lt (l := l) (fun x hx => h x (by simp [hx])) ⟨x, hx, hq, hp⟩
      have ha := h a (by simp)
      cases hpa : p a with
      | false => cases q a <;> simp <;> omega
      | true => rw [ha hpa]; simp; exact this
theorem sums_le {α : Type} {f g : α → Nat} : ∀ {l : List α}, (∀ x ∈ l, f x ≤ g x) → (l.map f).sum ≤ (l.map g).sum
  | [], _ => by simp
  | a :: l, h => by
    have := sums_le (l := l) fun x hx => h x (by simp [hx])
    have := h a (by simp)
    simp only [List.map_cons, List.sum_cons]; omega
theorem sums_lt {α : Type} {f g : α → Nat} : ∀ {l : List α}, (∀ x ∈ l, f x ≤ g x) → (∃ x ∈ l, f x < g x) → (l.map f).sum < (l.map g).sum
  | [], _, ⟨_, h, _⟩ => by cases h
  | a :: l, h, ⟨x, hx, hl⟩ => by
    have h1 := sums_le (l := l) fun x hx => h x (by simp [hx])
    have h2 := h a (by simp)
    simp only [List.map_cons, List.sum_cons]
    rcases List.mem_cons.mp hx with rfl | hx
    · omega
    · have := sums_lt (l := l) (fun x hx => h x (by simp [hx])) ⟨x, hx, hl⟩; omega
theorem sums_cap {α : Type} {f : α → Nat} {c : Nat} : ∀ {l : List α}, (∀ x ∈ l, f x ≤ c) → (l.map f).sum ≤ l.length * c
  | [], _ => by simp
  | a :: l, h => by
    have := sums_cap (l := l) fun x hx => h x (by simp [hx])
    have := h a (by simp)
    simp only [List.map_cons, List.sum_cons, List.length_cons, Nat.add_mul]; omega
theorem getD_set {α : Type} {l : List α} {i j : Nat} {x d : α} (h : i < l.length) : (l.set i x).getD j d = if j = i then x else l.getD j d := by
  by_cases hj : j < l.length
  · rw [getD_at (by simpa using hj), getD_at hj, List.getElem_set]
    by_cases hij : i = j
    · subst hij; simp
    · rw [if_neg hij, if_neg (Ne.symm hij)]
  · have : j ≠ i := by omega
    rw [if_neg this, List.getD_eq_getElem?_getD, List.getD_eq_getElem?_getD, List.getElem?_eq_none (by simpa using hj), List.getElem?_eq_none (by omega)]
theorem ext_getD {α : Type} {l m : List α} {d : α} (hl : l.length = m.length) (h : ∀ i, i < l.length → l.getD i d = m.getD i d) : l = m := by
  refine List.ext_getElem hl fun i h1 h2 => ?_
  have := h i h1
  rwa [getD_at h1, getD_at h2] at this
/- ## what can be reached -/
def stepR (n : Int) (met : List Bool) (e : TEdge) : List Bool := if inR e.1 0 (n - 1) && inR e.2.1 0 (n - 1) && met.getD e.1.toNat false then met.set e.2.1.toNat true else met
def roundR (n : Int) (es : List TEdge) (met : List Bool) : List Bool := es.foldl (stepR n) met
def reachL (n : Int) (es : List TEdge) (a : Int) : List Bool := iterN (roundR n es) n.toNat ((List.replicate n.toNat false).set a.toNat true)
def reach (n : Int) (es : List TEdge) (a b : Int) : Bool := inR n 0 30 && inR a 0 (n - 1) && inR b 0 (n - 1) && (reachL n es a).getD b.toNat false
theorem stepR_len (n : Int) (met : List Bool) (e : TEdge) : (stepR n met e).length = met.length := by unfold stepR; split <;> simp
theorem foldR_len (n : Int) : ∀ (es : List TEdge) (met : List Bool), (es.foldl (stepR n) met).length = met.length
  | [], _ => rfl
  | e :: es, met => by rw [List.foldl_cons, foldR_len n es]; exact stepR_len n met e
theorem iterR_len (n : Int) (es : List TEdge) (k : Nat) (met : List Bool) : (iterN (roundR n es) k met).length = met.length :=
  iterN_inv (I := fun m : List Bool => m.length = met.length) (fun m hm => by unfold roundR; rw [foldR_len]; exact hm) rfl
theorem stepR_mono {n : Int} {met : List Bool} {e : TEdge} {q : Nat} (h : met.getD q false = true) : (stepR n met e).getD q false = true := by
  unfold stepR
  split
  · by_cases hj : e.2.1.toNat < met.length
    · rw [getD_set hj]
      split
      · rfl
      · exact h
    · rw [List.set_eq_of_length_le (by omega)]; exact h
  · exact h
theorem foldR_mono {n : Int} {q : Nat} : ∀ {es : List TEdge} {met : List Bool}, met.getD q false = true → (es.foldl (stepR n) met).getD q false = true
  | [], _, h => h
  | e :: es, met, h => by rw [List.foldl_cons]; exact foldR_mono (stepR_mono h)
theorem iterR_mono {n : Int} {es : List TEdge} {q k : Nat} {met : List Bool} (h : met.getD q false = true) : (iterN (roundR n es) k met).getD q false = true :=
  iterN_inv (I := fun m : List Bool => m.getD q false = true) (fun m hm => foldR_mono hm) h
/-- edges within n positions -/
def InE (n : Int) (es : List TEdge) : Prop := ∀ e ∈ es, 0 ≤ e.1 ∧ e.1 < n ∧ 0 ≤ e.2.1 ∧ e.2.1 < n
theorem stepR_on {n : Int} {met : List Bool} {e : TEdge} (h : 0 ≤ e.1 ∧ e.1 < n ∧ 0 ≤ e.2.1 ∧ e.2.1 < n) (hl : met.length = n.toNat) (hm : met.getD e.1.toNat false = true) : (stepR n met e).getD e.2.1.toNat false = true := by
  unfold stepR
  rw [inR_iff.mpr ⟨h.1, by omega⟩, inR_iff.mpr ⟨h.2.2.1, by omega⟩, hm]
  simp only [Bool.and_self, if_true]
  rw [getD_set (by omega)]; simp
/-- a set that no edge leaves holds all that is reached from it -/
theorem foldR_in {n : Int} {T : Nat → Prop} : ∀ {es : List TEdge} {met : List Bool}, (∀ e ∈ es, T e.1.toNat → T e.2.1.toNat) → (∀ q, met.getD q false = true → T q) → ∀ q, (es.foldl (stepR n) met).getD q false = true → T q
  | [], _, _, h, q, hq => h q hq
  | e :: es, met, hc, h, q, hq => by
    rw [List.foldl_cons] at hq
    refine foldR_in (fun e he => hc e (by simp [he])) (fun q hq => ?_) q hq
    unfold stepR at hq
    split at hq
    · rename_i hcond
      simp only [Bool.and_eq_true] at hcond
      by_cases hj : e.2.1.toNat < met.length
      · rw [getD_set hj] at hq
        split at hq
        · rename_i hqe; rw [hqe]; exact hc e (by simp) (h _ hcond.2)
        · exact h q hq
      · rw [List.set_eq_of_length_le (by omega)] at hq; exact h q hq
    · exact h q hq
theorem init_get {n a q : Nat} (ha : a < n) : ((List.replicate n false).set a true).getD q false = true ↔ q = a := by
  rw [getD_set (by simpa using ha)]
  by_cases hq : q = a
  · simp [hq]
  · rw [if_neg hq]
    constructor
    · intro h
      by_cases hn : q < n
      · rw [getD_at (by simpa using hn)] at h; simp at h
      · rw [List.getD_eq_getElem?_getD, List.getElem?_eq_none (by simpa using hn)] at h; simp at h
    · intro h; exact absurd h hq
theorem reachL_len (n : Int) (es : List TEdge) (a : Int) : (reachL n es a).length = n.toNat := by unfold reachL; rw [iterR_len]; simp
theorem reachL_self {n : Int} {es : List TEdge} {a : Int} (h : 0 ≤ a ∧ a < n) : (reachL n es a).getD a.toNat false = true := by
  unfold reachL
  exact iterR_mono ((init_get (by omega)).mpr rfl)
theorem reachL_sub {n : Int} {es : List TEdge} {a : Int} (h : 0 ≤ a ∧ a < n) {T : Nat → Prop} (hc : ∀ e ∈ es, T e.1.toNat → T e.2.1.toNat) (ha : T a.toNat) : ∀ q, (reachL n es a).getD q false = true → T q := by
  unfold reachL
  refine iterN_inv (I := fun m : List Bool => ∀ q, m.getD q false = true → T q) (fun m hm => foldR_in hc hm) fun q hq => ?_
  rw [(init_get (by omega)).mp hq]; exact ha
theorem reachL_fix {n : Int} {es : List TEdge} {a : Int} : roundR n es (reachL n es a) = reachL n es a := by
  unfold reachL
  refine iter_fix (I := fun m : List Bool => m.length = n.toNat) (μ := fun m : List Bool => (List.range n.toNat).countP fun q => m.getD q false) (N := n.toNat) (fun m hm => by unfold roundR; rw [foldR_len]; exact hm) (fun m hm hne => ?_) (fun m hm => ?_) (by simp) (by omega)
  · refine count_lt (fun q _ hq => foldR_mono hq) ?_
    rcases Classical.em (∃ x ∈ List.range n.toNat, (roundR n es m).getD x false = true ∧ m.getD x false = false) with h | h
    · exact h
    · exfalso
      refine hne (ext_getD (d := false) (by unfold roundR; rw [foldR_len]) fun i hi => ?_)
      have hi' : i < n.toNat := by unfold roundR at hi; rw [foldR_len, hm] at hi; exact hi
      cases hmi : m.getD i false with
      | true => exact foldR_mono hmi
      | false =>
        cases hri : (roundR n es m).getD i false with
        | false => rfl
        | true => exact absurd ⟨i, List.mem_range.mpr hi', hri, hmi⟩ h
  · exact Nat.le_trans List.countP_le_length (by simp)
theorem fold_on {n : Int} {es : List TEdge} {met : List Bool} (hE : InE n es) (hl : met.length = n.toNat) {e : TEdge} (he : e ∈ es) (hm : met.getD e.1.toNat false = true) : (es.foldl (stepR n) met).getD e.2.1.toNat false = true := by
  obtain ⟨s, t, rfl⟩ := List.append_of_mem he
  rw [List.foldl_append, List.foldl_cons]
  exact foldR_mono (stepR_on (hE _ he) (by rw [foldR_len]; exact hl) (foldR_mono hm))
theorem reachL_step {n : Int} {es : List TEdge} {a : Int} (hE : InE n es) {e : TEdge} (he : e ∈ es) (hm : (reachL n es a).getD e.1.toNat false = true) : (reachL n es a).getD e.2.1.toNat false = true := by
  have := fold_on hE (reachL_len n es a) he hm
  have hf := reachL_fix (n := n) (es := es) (a := a)
  unfold roundR at hf
  rw [hf] at this; exact this
theorem reachL_trans {n : Int} {es : List TEdge} {a b : Int} (hE : InE n es) (hb : 0 ≤ b ∧ b < n) (h : (reachL n es a).getD b.toNat false = true) : ∀ q, (reachL n es b).getD q false = true → (reachL n es a).getD q false = true :=
  reachL_sub hb (T := fun q => (reachL n es a).getD q false = true) (fun _ he hq => reachL_step hE he hq) h
theorem g_sIsReachable {n : Int} {es : List TEdge} {a b : Int} : G_sIsReachable n es a b (reach n es a b) := M_sIsReachable _ _ _ _ _ (by
  unfold S_sIsReachable
  refine ⟨_, g_sl1In, bc_not (fun h => by unfold reach; rw [h]; rfl) (fun h1 => ⟨_, g_sl1In, ?_⟩)⟩
  have hn := inR_iff.mp h1
  rw [w64_id (by omega) (by omega)]
  refine bc_not (fun h => by unfold reach; rw [h]; simp) (fun h2 => ⟨_, g_sl1In, bc_not (fun h => by unfold reach; rw [h]; simp) (fun h3 => ?_)⟩)
  have ha := inR_iff.mp h2
  have hb := inR_iff.mp h3
  refine ⟨⟨by omega, by omega, by simp only [maxL]; omega⟩, ⟨by omega, by rw [List.length_replicate]; omega⟩, ?_⟩
  have hlen : ∀ k, (iterN (roundR n es) k ((List.replicate n.toNat false).set a.toNat true)).length = n.toNat := fun k => by rw [iterR_len]; simp
  refine loopP_of n.toNat (fun i => ((i : Int), (iterN (roundR n es) i ((List.replicate n.toNat false).set a.toNat true), ()))) (by simp [iterN]) ?_ ?_
  · intro i hi X hX
    refine bc_dec (fun _ => ?_) (fun h => by omega)
    rw [iterN_succ] at hX
    have hli := hlen i
    simp only
    generalize iterN (roundR n es) i ((List.replicate n.toNat false).set a.toNat true) = m0 at hX hli ⊢
    unfold roundR at hX
    refine loop_fold es (stepR n) m0 (fun i m => ((i : Int), (m, ()))) ?_ ?_
    · intro j hj Y hY
      have hlm := foldR_len n (es.take j) m0
      rw [hli] at hlm
      generalize (es.take j).foldl (stepR n) m0 = m1 at hY hlm ⊢
      unfold stepR at hY
      refine lenI fun _ => bcI hj (inI hj ⟨_, g_sl1In, ?_⟩)
      simp only
      rw [getI hj, w64_succ (by omega)]
      refine bc_if (fun h4 => inI hj ⟨_, g_sl1In, bc_if (fun h5 => inI hj ?_) (fun h5 => by rw [h5] at hY; simpa using hY)⟩) (fun h4 => by rw [h4] at hY; simpa using hY)
      have e1 := inR_iff.mp h4
      have e2 := inR_iff.mp h5
      refine ⟨⟨by omega, by omega⟩, bc_if (fun h6 => inI hj ⟨⟨by omega, by omega⟩, ?_⟩) (fun h6 => ?_)⟩
      · rw [h4, h5, h6] at hY; simpa using hY
      · rw [h6] at hY; simpa using hY
    · intro Y
      refine lenI fun _ => bcN ?_
      simp only
      rw [w64_succ (by omega)]; exact hX
  · intro X
    refine bc_dec (fun h => by omega) (fun _ => ⟨⟨by omega, by rw [hlen]; omega⟩, ?_⟩)
    unfold reach reachL
    rw [h1, h2, h3]; rfl)
theorem g_iIsReachable {n : Int} {es : List TEdge} {a b : Int} : G_iIsReachable n es a b (reach n es a b) := M_iIsReachable _ _ _ _ _ (by
  unfold S_iIsReachable
  refine ⟨_, g_iwithin, bc_not (fun h => by unfold reach; rw [h]; rfl) (fun h1 => ⟨_, g_iwithin, ?_⟩)⟩
  have hn := inR_iff.mp h1
  rw [w64_id (by omega) (by omega)]
  refine bc_not (fun h => by unfold reach; rw [h]; simp) (fun h2 => ⟨_, g_iwithin, bc_not (fun h => by unfold reach; rw [h]; simp) (fun h3 => ?_)⟩)
  have ha := inR_iff.mp h2
  have hb := inR_iff.mp h3
  refine ⟨⟨by omega, by omega, by simp only [maxL]; omega⟩, ⟨by omega, by rw [List.length_replicate]; omega⟩, ?_⟩
  have hlen : ∀ k, (iterN (roundR n es) k ((List.replicate n.toNat false).set a.toNat true)).length = n.toNat := fun k => by rw [iterR_len]; simp
  refine loopP_of n.toNat (fun i => ((i : Int), (iterN (roundR n es) i ((List.replicate n.toNat false).set a.toNat true), ()))) (by simp [iterN]) ?_ ?_
  · intro i hi X hX
    refine bc_dec (fun _ => lenI fun _ => ?_) (fun h => by omega)
    rw [iterN_succ] at hX
    have hli := hlen i
    simp only
    generalize iterN (roundR n es) i ((List.replicate n.toNat false).set a.toNat true) = m0 at hX hli ⊢
    unfold roundR at hX
    refine loop_fold es (stepR n) m0 (fun i m => ((i : Int), (m, ()))) ?_ ?_
    · intro j hj Y hY
      have hlm := foldR_len n (es.take j) m0
      rw [hli] at hlm
      generalize (es.take j).foldl (stepR n) m0 = m1 at hY hlm ⊢
      unfold stepR at hY
      refine bcI hj (inI hj ⟨_, g_iwithin, ?_⟩)
      simp only
      rw [getI hj, w64_succ (by omega)]
      refine bc_if (fun h4 => ⟨_, g_iwithin, bc_if (fun h5 => ?_) (fun h5 => by rw [h5] at hY; simpa using hY)⟩) (fun h4 => by rw [h4] at hY; simpa using hY)
      have e1 := inR_iff.mp h4
      have e2 := inR_iff.mp h5
      refine ⟨⟨by omega, by omega⟩, bc_if (fun h6 => ⟨⟨by omega, by omega⟩, ?_⟩) (fun h6 => ?_)⟩
      · rw [h4, h5, h6] at hY; simpa using hY
      · rw [h6] at hY; simpa using hY
    · intro Y
      refine bcN ?_
      simp only
      rw [w64_succ (by omega)]; exact hX
  · intro X
    refine bc_dec (fun h => by omega) (fun _ => ⟨⟨by omega, by rw [hlen]; omega⟩, ?_⟩)
    unfold reach reachL
    rw [h1, h2, h3]; rfl)
def cycP (l : List TRel) (ds : List TDep) (e : TEdge) : Bool := e.2.2.1 && reach (cntP l) (graph l ds) e.2.1 e.1
def cyc (l : List TRel) (ds : List TDep) : Bool := (graph l ds).any (cycP l ds)
def cycE (l : List TRel) (ds : List TDep) : TEdge := if firstAt (cycP l ds) (graph l ds) < (graph l ds).length then (graph l ds).getD (firstAt (cycP l ds) (graph l ds)) zEdge else zEdge
theorem any_first {α : Type} {p : α → Bool} {l : List α} : l.any p = decide (firstAt p l < l.length) := by
  rcases Nat.lt_or_ge (firstAt p l) l.length with h | h
  · rw [decide_eq_true h]
    exact List.any_eq_true.mpr ⟨_, List.getElem_mem h, firstAt_at h⟩
  · rw [decide_eq_false (by omega), Bool.eq_false_iff]
    intro hany
    obtain ⟨x, hx, hp⟩ := List.any_eq_true.mp hany
    obtain ⟨i, hi, rfl⟩ := List.mem_iff_getElem.mp hx
    have := firstAt_lt (p := p) hi (by omega)
    rw [hp] at this; cases this
def wac (l : List TRel) (ds : List TDep) : Bool := vDeps l ds && !cyc l ds
theorem g_sSpecialCycleEdge {l : List TRel} {ds : List TDep} : G_sSpecialCycleEdge l ds (cycE l ds) (cyc l ds) := M_sSpecialCycleEdge _ _ _ _ (by
  unfold S_sSpecialCycleEdge
  refine ⟨_, g_sPositionGraph, loop_first (graph l ds) (cycP l ds) (fun i => ((i : Int), (zEdge, ()))) (KT := fun i => ((graph l ds).getD i zEdge, (true, ())) = (cycE l ds, (cyc l ds, ()))) (KF := (zEdge, (false, ())) = (cycE l ds, (cyc l ds, ()))) ?_ ?_ ?_ ?_⟩
  · intro i hi X h1 h2
    refine lenI fun _ => bcI hi (inI hi ?_)
    simp only
    rw [w64_succ (by omega)]
    have hg := getI (d := zEdge) hi
    rw [hg]
    unfold cycP at h1 h2
    refine bc_if (fun h => inI hi (inI hi ⟨_, g_sPositionCount, _, g_sIsReachable, bc_if (fun h3 => inI hi ?_) (fun h3 => ?_)⟩)) (fun h => h2 (by rw [h]; rfl))
    · have := h1 (by rw [h, h3]; rfl)
      rw [getD_at hi] at this; exact this
    · exact h2 (by rw [h, h3]; rfl)
  · intro X h
    exact lenI fun _ => bcN h
  · intro h
    unfold cycE cyc
    rw [if_pos h, any_first, decide_eq_true h]
  · intro h
    unfold cycE cyc
    rw [if_neg (by omega), any_first, decide_eq_false (by omega)])
theorem g_iSpecialCycleEdge {l : List TRel} {ds : List TDep} : G_iSpecialCycleEdge l ds (cycE l ds) (cyc l ds) := M_iSpecialCycleEdge _ _ _ _ (by
  unfold S_iSpecialCycleEdge
  refine ⟨_, g_iPositionGraph, lenI fun _ => loop_first (graph l ds) (cycP l ds) (fun i => ((i : Int), (zEdge, ()))) (KT := fun i => ((graph l ds).getD i zEdge, (true, ())) = (cycE l ds, (cyc l ds, ()))) (KF := (zEdge, (false, ())) = (cycE l ds, (cyc l ds, ()))) ?_ ?_ ?_ ?_⟩
  · intro i hi X h1 h2
    refine bcI hi (inI hi ?_)
    simp only
    rw [w64_succ (by omega)]
    have hg := getI (d := zEdge) hi
    rw [hg]
    unfold cycP at h1 h2
    refine bc_if (fun h => ⟨_, g_iPositionCount, _, g_iIsReachable, bc_if (fun h3 => ?_) (fun h3 => ?_)⟩) (fun h => h2 (by rw [h]; rfl))
    · have := h1 (by rw [h, h3]; rfl)
      rw [getD_at hi] at this; exact this
    · exact h2 (by rw [h, h3]; rfl)
  · intro X h
    exact bcN h
  · intro h
    unfold cycE cyc
    rw [if_pos h, any_first, decide_eq_true h]
  · intro h
    unfold cycE cyc
    rw [if_neg (by omega), any_first, decide_eq_false (by omega)])
theorem g_sIsWeaklyAcyclic {l : List TRel} {ds : List TDep} : G_sIsWeaklyAcyclic l ds (wac l ds) := M_sIsWeaklyAcyclic _ _ _ (by
  unfold S_sIsWeaklyAcyclic wac
  refine ⟨_, _, g_sSpecialCycleEdge, _, g_sAreValidDependencies, bc_if (fun h => by rw [h]; rfl) (fun h => by rw [h]; rfl)⟩)
theorem g_iIsWeaklyAcyclic {l : List TRel} {ds : List TDep} : G_iIsWeaklyAcyclic l ds (wac l ds) := M_iIsWeaklyAcyclic _ _ _ (by
  unfold S_iIsWeaklyAcyclic wac
  refine ⟨_, _, g_iSpecialCycleEdge, bc_not (fun h => ⟨_, g_iAreValidDependencies, by rw [h]; simp⟩) (fun h => by rw [h]; simp)⟩)
theorem sumA_part {l : List TRel} (hv : ∀ r ∈ l, vRel r = true) {n : Nat} (hn : n < l.length) : sumA (l.take n) + l[n].2.1 ≤ sumA l ∧ 0 ≤ sumA (l.take n) := by
  have hs : l = l.take n ++ l[n] :: l.drop (n + 1) := by rw [← drop_cons hn, List.take_append_drop]
  have h1 : sumA l = (l.drop (n + 1)).foldl (fun a r => a + r.2.1) (sumA (l.take n) + l[n].2.1) := by
    conv => lhs; rw [hs]
    unfold sumA
    rw [List.foldl_append, List.foldl_cons]
  have h2 := (sumA_bnd (l := l.drop (n + 1)) (a := sumA (l.take n) + l[n].2.1) fun r hr => hv r (List.mem_of_mem_drop hr)).1
  have h3 := (sumA_bnd (l := l.take n) (a := 0) fun r hr => hv r (List.mem_of_mem_take hr)).1
  refine ⟨by rw [h1]; exact h2, h3⟩
theorem posIx_in {l : List TRel} {a : TFact} (h : vAtom l a = true) {j : Nat} (hj : j < a.2.1.length) : 0 ≤ posIx l a.1 j ∧ posIx l a.1 j < cntP l := by
  have hr := vRow_spec h
  have hv := hr.1
  obtain ⟨n, hn⟩ : ∃ n : Nat, a.1 = n := ⟨a.1.toNat, by omega⟩
  have hlt : n < l.length := by omega
  have har : arity l a.1 = l[n].2.1 := by unfold arity; rw [hn, getI hlt]
  have hp := sumA_part (fun r hr => vRels_mem hv hr) hlt
  have h4 := hr.2.2.2.1
  unfold posIx cntP
  rw [hv, inR_iff.mpr ⟨hr.2.1, by omega⟩, inR_iff.mpr ⟨by omega, by rw [← h4]; omega⟩]
  simp only [Bool.and_self, if_true]
  rw [hn, show Int.toNat (n : Int) = n from rfl]
  omega
theorem places_in {l : List TRel} {ats : List TFact} (h : ∀ a ∈ ats, vAtom l a = true) {v p : Int} (hp : p ∈ places l ats v) : 0 ≤ p ∧ p < cntP l := by
  obtain ⟨a, ha, j, hj, rfl⟩ := places_mem hp
  exact posIx_in (h a ha) hj
theorem fold_all {α σ : Type} {g : σ → α → σ} {I : σ → Prop} : ∀ {l : List α} {s : σ}, (∀ s, ∀ a ∈ l, I s → I (g s a)) → I s → I (l.foldl g s)
  | [], _, _, h => h
  | a :: l, s, hg, h => fold_all (l := l) (s := g s a) (fun s b (hb : b ∈ l) => hg s b (by simp [hb])) (hg s a (by simp) h)
theorem graph_in {l : List TRel} {ds : List TDep} : InE (cntP l) (graph l ds) := by
  unfold graph
  cases hv : vDeps l ds with
  | false => intro e he; simp at he
  | true =>
    rw [if_pos rfl]
    have putI : ∀ (s : List TEdge) (x : TEdge), InE (cntP l) s → (0 ≤ x.1 ∧ x.1 < cntP l ∧ 0 ≤ x.2.1 ∧ x.2.1 < cntP l) → InE (cntP l) (putE s x) := by
      intro s x hs hx
      unfold putE
      split
      · exact hs
      · intro e he
        rcases List.mem_append.mp he with he | he
        · exact hs e he
        · have : e = x := by simpa using he
          rw [this]; exact hx
    have edI : ∀ (f : Int) (b : Bool) (ps : List Int) (s : List TEdge), (0 ≤ f ∧ f < cntP l) → (∀ p ∈ ps, 0 ≤ p ∧ p < cntP l) → InE (cntP l) s → InE (cntP l) (ed f b ps s) := by
      intro f b ps s hf hps hs
      unfold ed
      exact fold_all (I := InE (cntP l)) (fun s a ha hs => putI s _ hs ⟨hf.1, hf.2, hps a ha⟩) hs
    refine fold_all (I := InE (cntP l)) (fun s d hd hs => ?_) (fun e he => by cases he)
    have hsp := vDep_spec (vDeps_mem hv hd)
    unfold gDep
    refine fold_all (I := InE (cntP l)) (fun s v _ hs => ?_) hs
    unfold gVar
    refine fold_all (I := InE (cntP l)) (fun s f hf hs => ?_) hs
    have hfi := places_in hsp.2.2.1 hf
    unfold gFrom
    refine fold_all (I := InE (cntP l)) (fun s n _ hs => ?_) ?_
    · exact edI _ _ _ _ hfi (fun p hp => places_in hsp.2.2.2.2.1 hp) hs
    · exact edI _ _ _ _ hfi (fun p hp => places_in hsp.2.2.2.2.1 hp) hs
theorem cntP_bnd (l : List TRel) : 0 ≤ cntP l ∧ cntP l ≤ 18 := by
  unfold cntP
  split
  · rename_i hv
    have := sumA_bnd (l := l) (a := 0) fun r hr => vRels_mem hv hr
    have := vRels_len hv
    unfold sumA; omega
  · omega
/- ## ranks -/
def stepK (r : List Int) (e : TEdge) : List Int := r.set e.2.1.toNat (maxI (r.getD e.2.1.toNat 0) (r.getD e.1.toNat 0 + (if e.2.2.1 then 1 else 0)))
def roundK (es : List TEdge) (r : List Int) : List Int := es.foldl stepK r
def rank (n : Nat) (es : List TEdge) : List Int := iterN (roundK es) (n * n) (List.replicate n 0)
/-- the height of a position: how many lie below it -/
def hgt (n : Int) (es : List TEdge) (p : Nat) : Nat := (List.range n.toNat).countP fun (q : Nat) => (reachL n es (q : Int)).getD p false && !(reachL n es (p : Int)).getD q false
theorem hgt_le (n : Int) (es : List TEdge) (p : Nat) : hgt n es p ≤ n.toNat := Nat.le_trans List.countP_le_length (by simp)
def Acy (n : Int) (es : List TEdge) : Prop := ∀ e ∈ es, e.2.2.1 = true → (reachL n es e.2.1).getD e.1.toNat false = false
theorem toNat_cast {x : Int} (h : 0 ≤ x) : ((x.toNat : Nat) : Int) = x := by omega
theorem hgt_edge {n : Int} {es : List TEdge} (hE : InE n es) (hA : Acy n es) {e : TEdge} (he : e ∈ es) : hgt n es e.1.toNat + (if e.2.2.1 then 1 else 0) ≤ hgt n es e.2.1.toNat := by
  have hi := hE e he
  have c1 := toNat_cast hi.1
  have c2 := toNat_cast hi.2.2.1
  have h1 : (reachL n es e.1).getD e.2.1.toNat false = true := reachL_step hE he (reachL_self ⟨hi.1, hi.2.1⟩)
  have sub : ∀ q ∈ List.range n.toNat, ((reachL n es (q : Int)).getD e.1.toNat false && !(reachL n es ((e.1.toNat : Nat) : Int)).getD q false) = true → ((reachL n es (q : Int)).getD e.2.1.toNat false && !(reachL n es ((e.2.1.toNat : Nat) : Int)).getD q false) = true := by
    intro q hq h
    rw [c1] at h
    rw [c2]
    rw [Bool.and_eq_true] at h ⊢
    refine ⟨reachL_step hE he h.1, ?_⟩
    cases hc : (reachL n es e.2.1).getD q false with
    | false => rfl
    | true =>
      have := reachL_trans hE ⟨hi.2.2.1, hi.2.2.2⟩ h1 q hc
      rw [this] at h; simp at h
  split
  · rename_i hs
    have hcy := hA e he hs
    have : hgt n es e.1.toNat < hgt n es e.2.1.toNat := by
      refine count_lt sub ⟨e.1.toNat, List.mem_range.mpr (by omega), ?_, ?_⟩
      · rw [c1, c2, h1, hcy]; rfl
      · rw [c1, reachL_self ⟨hi.1, hi.2.1⟩]; rfl
    omega
  · exact count_le sub
def InvK (n : Int) (es : List TEdge) (r : List Int) : Prop := r.length = n.toNat ∧ ∀ p : Nat, p < n.toNat → 0 ≤ r.getD p 0 ∧ r.getD p 0 ≤ hgt n es p
theorem stepK_inv {n : Int} {es : List TEdge} (hE : InE n es) (hA : Acy n es) {e : TEdge} (he : e ∈ es) {r : List Int} (h : InvK n es r) : InvK n es (stepK r e) := by
  have hi := hE e he
  refine ⟨by unfold stepK; rw [List.length_set]; exact h.1, fun p hp => ?_⟩
  have hl := h.1
  unfold stepK
  rw [getD_set (by omega)]
  split
  · rename_i hpe
    subst hpe
    have h1 := h.2 e.1.toNat (by omega)
    have h2 := h.2 e.2.1.toNat hp
    have h3 := hgt_edge hE hA he
    unfold maxI
    split <;> split at h3 <;> simp_all <;> omega
  · exact h.2 p hp
theorem stepK_ge {r : List Int} {e : TEdge} (hl : e.2.1.toNat < r.length) (p : Nat) : r.getD p 0 ≤ (stepK r e).getD p 0 := by
  unfold stepK
  rw [getD_set hl]
  split
  · rename_i hp; subst hp; unfold maxI; split <;> omega
  · omega
def muK (n : Nat) (r : List Int) : Nat := ((List.range n).map fun p => (r.getD p 0).toNat).sum
theorem muK_cap {n : Int} {es : List TEdge} {r : List Int} (h : InvK n es r) : muK n.toNat r ≤ n.toNat * n.toNat := by
  have := sums_cap (f := fun p => (r.getD p 0).toNat) (c := n.toNat) (l := List.range n.toNat) fun p hp => by
    have h1 := h.2 p (List.mem_range.mp hp)
    have h2 := hgt_le n es p
    omega
  rw [List.length_range] at this
  exact this
theorem muK_step {n : Int} {es : List TEdge} (hE : InE n es) {r : List Int} (hr : InvK n es r) {e : TEdge} (he : e ∈ es) : muK n.toNat r ≤ muK n.toNat (stepK r e) := by
  have hi := hE e he
  have := hr.1
  exact sums_le fun p _ => by have := stepK_ge (r := r) (e := e) (by omega) p; omega
theorem stepK_eq {r : List Int} {e : TEdge} (hl : e.2.1.toNat < r.length) (h : r.getD e.1.toNat 0 + (if e.2.2.1 then 1 else 0) ≤ r.getD e.2.1.toNat 0) : stepK r e = r := by
  refine ext_getD (d := 0) (by unfold stepK; simp) fun i _ => ?_
  unfold stepK
  rw [getD_set hl]
  split
  · rename_i hi; subst hi; unfold maxI; rw [if_neg (by omega)]
  · rfl
theorem stepK_set {r : List Int} {e : TEdge} {m : Int} (hm : r.getD e.1.toNat 0 + (if e.2.2.1 then 1 else 0) = m) (hg : m > r.getD e.2.1.toNat 0) : stepK r e = r.set e.2.1.toNat m := by
  unfold stepK maxI
  rw [hm, if_pos hg]
theorem muK_lt {n : Int} {es : List TEdge} (hE : InE n es) {r : List Int} (hr : InvK n es r) {e : TEdge} (he : e ∈ es) (h : r.getD e.1.toNat 0 + (if e.2.2.1 then 1 else 0) > r.getD e.2.1.toNat 0) : muK n.toNat r < muK n.toNat (stepK r e) := by
  have hi := hE e he
  have hl := hr.1
  refine sums_lt (fun p _ => by have := stepK_ge (r := r) (e := e) (by omega) p; omega) ⟨e.2.1.toNat, List.mem_range.mpr (by omega), ?_⟩
  have h0 := hr.2 e.2.1.toNat (by omega)
  have : (stepK r e).getD e.2.1.toNat 0 = r.getD e.1.toNat 0 + (if e.2.2.1 then 1 else 0) := by
    unfold stepK
    rw [getD_set (by omega), if_pos rfl]
    unfold maxI; rw [if_pos h]
  rw [this]; omega
theorem foldK_inv {n : Int} {es : List TEdge} (hE : InE n es) (hA : Acy n es) {r : List Int} (h : InvK n es r) (l : List TEdge) (hl : ∀ e ∈ l, e ∈ es) : InvK n es (l.foldl stepK r) :=
  fold_all (I := InvK n es) (fun s a ha hs => stepK_inv hE hA (hl a ha) hs) h
theorem roundK_inv {n : Int} {es : List TEdge} (hE : InE n es) (hA : Acy n es) {r : List Int} (h : InvK n es r) : InvK n es (roundK es r) := foldK_inv hE hA h es fun _ h => h
/-- what a round does to the sum -/
theorem foldK_mu {n : Int} {es : List TEdge} (hE : InE n es) (hA : Acy n es) : ∀ {l : List TEdge} {r : List Int}, (∀ e ∈ l, e ∈ es) → InvK n es r → (l.foldl stepK r = r ∨ muK n.toNat r < muK n.toNat (l.foldl stepK r)) ∧ muK n.toNat r ≤ muK n.toNat (l.foldl stepK r)
  | [], r, _, _ => ⟨.inl rfl, Nat.le_refl _⟩
  | e :: l, r, hl, hr => by
    have he := hl e (by simp)
    have hi := hE e he
    have hlr := hr.1
    have ih := foldK_mu hE hA (l := l) (r := stepK r e) (fun e h => hl e (by simp [h])) (stepK_inv hE hA he hr)
    rw [List.foldl_cons]
    by_cases h : r.getD e.1.toNat 0 + (if e.2.2.1 then 1 else 0) > r.getD e.2.1.toNat 0
    · have := muK_lt hE hr he h
      exact ⟨.inr (by omega), by omega⟩
    · have := stepK_eq (r := r) (e := e) (by omega) (by omega)
      rw [this] at ih ⊢
      exact ih
theorem zeroK_inv (n : Int) (es : List TEdge) : InvK n es (List.replicate n.toNat 0) := by
  refine ⟨by simp, fun p hp => ?_⟩
  rw [getD_at (by simpa using hp)]
  simp
theorem rankK_inv {n : Int} {es : List TEdge} (hE : InE n es) (hA : Acy n es) (k : Nat) : InvK n es (iterN (roundK es) k (List.replicate n.toNat 0)) :=
  iterN_inv (I := InvK n es) (fun r hr => roundK_inv hE hA hr) (zeroK_inv n es)
theorem rank_fix {n : Int} {es : List TEdge} (hE : InE n es) (hA : Acy n es) : roundK es (rank n.toNat es) = rank n.toNat es := by
  unfold rank
  refine iter_fix (I := InvK n es) (μ := muK n.toNat) (N := n.toNat * n.toNat) (fun r hr => roundK_inv hE hA hr) (fun r hr hne => ?_) (fun r hr => muK_cap hr) (zeroK_inv n es) (by omega)
  exact ((foldK_mu hE hA (l := es) (fun _ h => h) hr).1).resolve_left hne
/-- any fixed round is the end -/
theorem rank_of {n : Int} {es : List TEdge} (hE : InE n es) (hA : Acy n es) {k : Nat} (h : roundK es (iterN (roundK es) k (List.replicate n.toNat 0)) = iterN (roundK es) k (List.replicate n.toNat 0)) :
    iterN (roundK es) k (List.replicate n.toNat 0) = rank n.toNat es := by
  have h1 := iterN_add (f := roundK es) (a := List.replicate n.toNat (0 : Int)) k (n := n.toNat * n.toNat)
  rw [iterN_fix h] at h1
  have h2 := iterN_add (f := roundK es) (a := List.replicate n.toNat (0 : Int)) (n.toNat * n.toNat) (n := k)
  have h3 := rank_fix hE hA
  unfold rank at h3 ⊢
  rw [iterN_fix h3] at h2
  rw [← h1, ← h2, Nat.add_comm]
theorem wac_acy {l : List TRel} {ds : List TDep} (h : wac l ds = true) : Acy (cntP l) (graph l ds) := by
  unfold wac at h
  rw [Bool.and_eq_true] at h
  have hn : cyc l ds = false := by simpa using h.2
  intro e he hs
  cases hr : (reachL (cntP l) (graph l ds) e.2.1).getD e.1.toNat false with
  | false => rfl
  | true =>
    exfalso
    have hi := graph_in e he
    have hc := cntP_bnd l
    have : cyc l ds = true := List.any_eq_true.mpr ⟨e, he, by
      unfold cycP reach
      rw [hs, inR_iff.mpr ⟨hc.1, by omega⟩, inR_iff.mpr ⟨hi.2.2.1, by omega⟩, inR_iff.mpr ⟨hi.1, by omega⟩, hr]; rfl⟩
    rw [hn] at this; cases this
def ranks (l : List TRel) (ds : List TDep) : List Int := if wac l ds then rank (cntP l).toNat (graph l ds) else []
def plainD (l : List TRel) (ds : List TDep) : Bool := vDeps l ds && !ds.any fun d => d.2.2.1
theorem g_sl23Plain {l : List TRel} {ds : List TDep} : G_sl23Plain l ds (plainD l ds) := M_sl23Plain _ _ _ (by
  unfold S_sl23Plain
  refine loop_any ds (fun d => d.2.2.1) (fun i => ((i : Int), ())) (KT := ds.any (fun d => d.2.2.1) = true) (KF := ds.any (fun d => d.2.2.1) = false) ?_ ?_ id id
  · intro i hi X h1 h2
    refine lenI fun _ => bcI hi (inI hi ?_)
    simp only
    rw [getI hi, w64_succ (by omega)]
    refine bc_if (fun h => ?_) (fun h => h2 h)
    unfold plainD; rw [h1 h]; simp
  · intro X h
    refine lenI fun _ => bcN ⟨_, g_sAreValidDependencies, ?_⟩
    unfold plainD; rw [h]; simp)
theorem g_iarePlain_1 {d : TDep} : G_iarePlain_1 d d.2.2.1 := M_iarePlain_1 _ _ (by unfold S_iarePlain_1; rfl)
theorem g_iarePlain {l : List TRel} {ds : List TDep} : G_iarePlain l ds (plainD l ds) := M_iarePlain _ _ _ (by
  unfold S_iarePlain plainD
  refine ⟨_, g_iAreValidDependencies, bc_if (fun h => ⟨_, g_slices_ContainsFunc_Dependency_c_iarePlain_1 (fun d => d.2.2.1) (fun _ _ => g_iarePlain_1), by rw [h]; rfl⟩) (fun h => by rw [h]; rfl)⟩)
def srcF (l : List TRel) (f : TFact) : Bool := vFact l f && srcAt l f.1
theorem g_iisSourceFact {l : List TRel} {f : TFact} : G_iisSourceFact l f (srcF l f) := M_iisSourceFact _ _ _ (by
  unfold S_iisSourceFact srcF
  refine ⟨_, g_iIsValidFact, bc_if (fun h => ?_) (fun h => by rw [h]; rfl)⟩
  have := vRow_spec h
  exact ⟨⟨this.2.1, this.2.2.1⟩, by rw [h]; rfl⟩)
theorem g_slices_Clone_int {l : List Int} (h : l.length ≤ 1099511627776) : G_slices_Clone_int l l := M_slices_Clone_int _ _ (by
  unfold S_slices_Clone_int
  refine bc_if (fun he => ⟨?_, by simp only [maxL, List.length_nil]; omega, by rw [List.nil_append]⟩) (fun _ => ⟨by simp only [maxL, List.length_nil]; omega, by rw [List.nil_append]⟩)
  have : l = [] := List.isEmpty_iff.mp he
  rw [this])
theorem g_slices_Clone_Relation {l : List TRel} (h : l.length ≤ 1099511627776) : G_slices_Clone_Relation l l := M_slices_Clone_Relation _ _ (by
  unfold S_slices_Clone_Relation
  refine bc_if (fun he => ⟨?_, by simp only [maxL, List.length_nil]; omega, by rw [List.nil_append]⟩) (fun _ => ⟨by simp only [maxL, List.length_nil]; omega, by rw [List.nil_append]⟩)
  have : l = [] := List.isEmpty_iff.mp he
  rw [this])
theorem g_sl5Fact {f : TFact} (h : f.2.1.length ≤ 1099511627776) : G_sl5Fact f f := M_sl5Fact _ _ (by
  unfold S_sl5Fact
  try refine ⟨trivial, ?_⟩
  exact ⟨by simp only [maxL, List.length_nil]; omega, by rw [List.nil_append]⟩)
theorem g_ifactCopy {f : TFact} (h : f.2.1.length ≤ 1099511627776) : G_ifactCopy f f := M_ifactCopy _ _ (by
  unfold S_ifactCopy
  exact ⟨_, g_slices_Clone_int h, rfl⟩)
/-- a row that is copied, one element after the other -/
theorem loop_copy {α τ : Type} {B : (τ → Prop) → τ → Prop} (l : List α) (e : Nat → List α → τ) (hl : l.length ≤ 1073741824)
    (hs : ∀ i (h : i < l.length) (s : List α) (X : τ → Prop), s.length ≤ 1073741824 → X (e (i + 1) (s ++ [l[i]])) → B X (e i s))
    (hf : ∀ X : τ → Prop, B X (e l.length l)) : LoopP B (e 0 []) := by
  refine loopP_of l.length (fun i => e i (l.take i)) (by simp) ?_ ?_
  · intro i hi X hX
    rw [take_succ_snoc hi] at hX
    exact hs i hi _ X (by rw [List.length_take]; omega) hX
  · intro X; rw [List.take_length]; exact hf X
theorem g_ifactsCopy {l : List TFact} (hl : l.length ≤ 1073741824) (h : ∀ f ∈ l, f.2.1.length ≤ 1099511627776) : G_ifactsCopy l l := M_ifactsCopy _ _ (by
  unfold S_ifactsCopy
  refine lenI fun _ => loop_copy l (fun i s => ((i : Int), (s, ()))) hl ?_ ?_
  · intro i hi s X hs hX
    refine bcI hi (inI hi ⟨l[i], ?_, ⟨by simp only [maxL, List.length_cons, List.length_nil]; omega, ?_⟩⟩)
    · simp only; rw [getI hi]; exact g_ifactCopy (h _ (List.getElem_mem hi))
    · simp only; rw [w64_succ (by omega)]; exact hX
  · intro X; exact bcN rfl)
theorem g_idependencyCopy_1 {l : List TFact} (hl : l.length ≤ 1073741824) (h : ∀ f ∈ l, f.2.1.length ≤ 1099511627776) : G_idependencyCopy_1 l l := M_idependencyCopy_1 _ _ (by
  unfold S_idependencyCopy_1
  refine lenI fun _ => loop_copy l (fun i s => ((i : Int), (s, ()))) hl ?_ ?_
  · intro i hi s X hs hX
    refine bcI hi (inI hi ⟨l[i].2.1, ?_, ⟨by simp only [maxL, List.length_cons, List.length_nil]; omega, ?_⟩⟩)
    · simp only; rw [getI hi]; exact g_slices_Clone_int (h _ (List.getElem_mem hi))
    · simp only; rw [getI hi, w64_succ (by omega)]; exact hX
  · intro X; exact bcN rfl)
def okDep (d : TDep) : Prop := (d.1.length ≤ 1073741824 ∧ ∀ f ∈ d.1, f.2.1.length ≤ 1099511627776) ∧ (d.2.1.length ≤ 1073741824 ∧ ∀ f ∈ d.2.1, f.2.1.length ≤ 1099511627776)
theorem g_idependencyCopy {d : TDep} (h : okDep d) : G_idependencyCopy d d := M_idependencyCopy _ _ (by
  unfold S_idependencyCopy
  exact ⟨_, g_idependencyCopy_1 h.1.1 h.1.2, _, g_idependencyCopy_1 h.2.1 h.2.2, rfl⟩)
theorem g_idependenciesCopy {l : List TDep} (hl : l.length ≤ 1073741824) (h : ∀ d ∈ l, okDep d) : G_idependenciesCopy l l := M_idependenciesCopy _ _ (by
  unfold S_idependenciesCopy
  refine lenI fun _ => loop_copy l (fun i s => ((i : Int), (s, ()))) hl ?_ ?_
  · intro i hi s X hs hX
    refine bcI hi (inI hi ⟨l[i], ?_, ⟨by simp only [maxL, List.length_cons, List.length_nil]; omega, ?_⟩⟩)
    · simp only; rw [getI hi]; exact g_idependencyCopy (h _ (List.getElem_mem hi))
    · simp only; rw [w64_succ (by omega)]; exact hX
  · intro X; exact bcN rfl)
theorem g_sl9Copy {d : TDep} (h : okDep d) : G_sl9Copy d d := M_sl9Copy _ _ (by
  unfold S_sl9Copy
  refine loop_copy d.1 (fun i s => ((i : Int), ((s, (([] : List TFact), d.2.2)), ()))) h.1.1 ?_ ?_
  · intro i hi s X hs hX
    have hb := h.1.2 _ (List.getElem_mem hi)
    refine lenI fun _ => bcI hi ?_
    simp only
    rw [getI hi, w64_succ (by omega)]
    rw [List.nil_append]
    exact inI hi (inI hi ⟨by simp only [maxL, List.length_nil]; omega, by simp only [maxL, List.length_cons, List.length_nil]; omega, hX⟩)
  · intro X
    refine lenI fun _ => bcN ?_
    simp only
    refine loop_copy d.2.1 (fun i s => ((i : Int), ((d.1, (s, d.2.2)), ()))) h.2.1 ?_ ?_
    · intro i hi s Y hs hY
      have hb := h.2.2 _ (List.getElem_mem hi)
      refine lenI fun _ => bcI hi ?_
      simp only
      rw [getI hi, w64_succ (by omega)]
      rw [List.nil_append]
      exact inI hi (inI hi ⟨by simp only [maxL, List.length_nil]; omega, by simp only [maxL, List.length_cons, List.length_nil]; omega, hY⟩)
    · intro Y
      exact lenI fun _ => bcN rfl)
abbrev zLoader : TLoader := (((([] : List TRel), (([] : List TFact), ())), (([] : List TTerm), ())), (([] : List TDep), (([] : List TFact), ((0 : Int), ((0 : Int), ())))))
def okIn (l : List TRel) (f : TFact) : Bool := srcF l f && (nulF f).isEmpty
def newOk (l : List TRel) (ds : List TDep) (fs : List TFact) : Bool := fs.all (okIn l) && plainD l ds && wac l ds && decide (fs.length ≤ 6)
def newL (l : List TRel) (ds : List TDep) (fs : List TFact) : TLoader := if newOk l ds fs then (((l, (([] : List TFact), ())), (([] : List TTerm), ())), (ds, (fs, ((0 : Int), ((0 : Int), ()))))) else zLoader
theorem newL_no {l : List TRel} {ds : List TDep} {fs : List TFact} (h : newOk l ds fs = false) : ((zLoader, (false, ())) : TLoader × Bool × Unit) = (newL l ds fs, (newOk l ds fs, ())) := by unfold newL; rw [h]; rfl
theorem newL_yes {l : List TRel} {ds : List TDep} {fs : List TFact} (h : newOk l ds fs = true) : (((((l, (([] : List TFact), ())), (([] : List TTerm), ())), (ds, (fs, ((0 : Int), ((0 : Int), ()))))), (true, ())) : TLoader × Bool × Unit) = (newL l ds fs, (newOk l ds fs, ())) := by unfold newL; rw [h]; rfl
theorem newOk_fact {l : List TRel} {ds : List TDep} {fs : List TFact} {f : TFact} (hf : f ∈ fs) (h : okIn l f = false) : newOk l ds fs = false := by
  have : fs.all (okIn l) = false := by
    rw [Bool.eq_false_iff]; intro hall
    have := List.all_eq_true.mp hall f hf; rw [h] at this; cases this
  unfold newOk; rw [this]; rfl
theorem okIn_len {l : List TRel} {f : TFact} (h : okIn l f = true) : f.2.1.length ≤ 3 := by
  unfold okIn srcF at h
  simp only [Bool.and_eq_true] at h
  exact (vRow_spec h.1.1).2.2.2.2.1
theorem mem_flat_le {f : TFact} : ∀ {l : List TFact}, f ∈ l → f.2.1.length ≤ (l.flatMap (·.2.1)).length
  | a :: l, h => by
    rw [List.flatMap_cons, List.length_append]
    rcases List.mem_cons.mp h with rfl | h
    · omega
    · have := mem_flat_le h; omega
theorem okDep_of {l : List TRel} {d : TDep} (h : vDep l d = true) : okDep d := by
  have hs := vDep_spec h
  have h1 := hs.2.2.2.2.2.1
  have h2 := hs.2.2.2.2.2.2
  refine ⟨⟨by have := hs.2.1; omega, fun f hf => ?_⟩, ⟨by have := hs.2.2.2.1; omega, fun f hf => ?_⟩⟩
  · have := mem_flat_le hf; omega
  · have := mem_flat_le hf; omega
theorem g_sNewLoader {l : List TRel} {ds : List TDep} {fs : List TFact} : G_sNewLoader l ds fs (newL l ds fs) (newOk l ds fs) := M_sNewLoader _ _ _ _ _ (by
  unfold S_sNewLoader
  refine loop_any fs (fun f => !okIn l f) (fun i => ((i : Int), (zLoader, ()))) (KT := True) (KF := fs.all (okIn l) = true) ?_ ?_ (fun _ => trivial) (fun h => ?_)
  · intro i hi X _ h2
    refine lenI fun _ => bcI hi (inI hi ⟨_, g_sIsValidFact, ?_⟩)
    simp only
    rw [getI hi, w64_succ (by omega)]
    have hm := List.getElem_mem hi
    refine bc_not (fun h => newL_no (newOk_fact hm (by unfold okIn srcF; rw [h]; rfl))) (fun h => inI hi ?_)
    have hr := vRow_spec h
    refine ⟨⟨hr.2.1, hr.2.2.1⟩, bc_not (fun h3 => newL_no (newOk_fact hm ?_)) (fun h3 => inI hi ⟨_, g_sNullsOfFact, lenI fun _ => bc_dec (fun h4 => newL_no (newOk_fact hm ?_)) (fun h4 => h2 ?_)⟩)⟩
    · have h3' : srcAt l fs[i].1 = false := h3
      unfold okIn srcF; rw [h, h3']; rfl
    · have : (nulF fs[i]).isEmpty = false := by
        cases hq : nulF fs[i] with
        | nil => rw [hq] at h4; simp at h4
        | cons _ _ => rfl
      unfold okIn; rw [this]; simp
    · have h3' : srcAt l fs[i].1 = true := h3
      have : nulF fs[i] = [] := List.length_eq_zero_iff.mp (by omega)
      unfold okIn srcF; rw [h, h3', this]; rfl
  · intro X hall
    refine lenI fun _ => bcN ⟨_, g_sl23Plain, bc_not (fun h => newL_no (by unfold newOk; rw [h]; simp)) (fun hp => ⟨_, g_sIsWeaklyAcyclic, bc_not (fun h => newL_no (by unfold newOk; rw [h]; simp)) (fun hw => lenI fun _ => bc_dec (fun h => newL_no (by unfold newOk; rw [decide_eq_false (show ¬ fs.length ≤ 6 by omega)]; simp)) (fun h6 => ?_))⟩)⟩
    have hv : vDeps l ds = true := by unfold plainD at hp; rw [Bool.and_eq_true] at hp; exact hp.1
    have hll := vRels_len (vDeps_rels hv)
    have hdl := vDeps_len hv
    refine ⟨by simp only [maxL, List.length_nil]; omega, ?_⟩
    rw [List.nil_append]
    refine loop_copy ds (fun i s => ((i : Int), ((((l, (([] : List TFact), ())), (([] : List TTerm), ())), (s, (([] : List TFact), ((0 : Int), ((0 : Int), ()))))), ()))) (by omega) ?_ ?_
    · intro i hi s Y hs hY
      refine lenI fun _ => bcI hi (inI hi ⟨ds[i], ?_, ⟨by simp only [maxL, List.length_cons, List.length_nil]; omega, ?_⟩⟩)
      · simp only; rw [getI hi]; exact g_sl9Copy (okDep_of (vDeps_mem hv (List.getElem_mem hi)))
      · simp only; rw [w64_succ (by omega)]; exact hY
    · intro Y
      refine lenI fun _ => bcN ?_
      simp only
      refine loop_copy fs (fun i s => ((i : Int), ((((l, (([] : List TFact), ())), (([] : List TTerm), ())), (ds, (s, ((0 : Int), ((0 : Int), ()))))), ()))) (by omega) ?_ ?_
      · intro i hi s Z hs hZ
        have := okIn_len (List.all_eq_true.mp hall _ (List.getElem_mem hi))
        refine lenI fun _ => bcI hi (inI hi ⟨fs[i], ?_, ⟨by simp only [maxL, List.length_cons, List.length_nil]; omega, ?_⟩⟩)
        · simp only; rw [getI hi]; exact g_sl5Fact (by omega)
        · simp only; rw [w64_succ (by omega)]; exact hZ
      · intro Z
        refine lenI fun _ => bcN ?_
        exact newL_yes (by unfold newOk; rw [hall, hp, hw, decide_eq_true (show fs.length ≤ 6 by omega)]; rfl)
  · rw [any_not] at h; exact nf h)
theorem g_iNewLoader {l : List TRel} {ds : List TDep} {fs : List TFact} (hb : ∀ f ∈ fs, f.2.1.length ≤ 1073741824) : G_iNewLoader l ds fs (newL l ds fs) (newOk l ds fs) := M_iNewLoader _ _ _ _ _ (by
  unfold S_iNewLoader
  refine ⟨_, g_iarePlain, bc_not (fun h => newL_no (by unfold newOk; rw [h]; simp)) (fun hp => ⟨_, g_iIsWeaklyAcyclic, bc_not (fun h => newL_no (by unfold newOk; rw [h]; simp)) (fun hw => lenI fun _ => bc_dec (fun h => newL_no (by unfold newOk; rw [decide_eq_false (show ¬ fs.length ≤ 6 by omega)]; simp)) (fun h6 => lenI fun _ => ?_))⟩)⟩
  have hv : vDeps l ds = true := by unfold plainD at hp; rw [Bool.and_eq_true] at hp; exact hp.1
  have hll := vRels_len (vDeps_rels hv)
  have hdl := vDeps_len hv
  refine loop_any fs (fun f => !okIn l f) (fun i => ((i : Int), (zLoader, ()))) (KT := True) (KF := fs.all (okIn l) = true) ?_ ?_ (fun _ => trivial) (fun h => ?_)
  · intro i hi X _ h2
    have hm := List.getElem_mem hi
    refine bcI hi (inI hi ⟨srcF l fs[i], ?_, ?_⟩)
    · simp only; rw [getI hi]; exact g_iisSourceFact
    simp only
    rw [getI hi, w64_succ (by omega)]
    refine bc_not (fun h => newL_no (newOk_fact hm (by unfold okIn; rw [h]; rfl))) (fun h => ⟨_, g_iNullsOfFact (hb _ hm), lenI fun _ => bc_dec (fun h4 => newL_no (newOk_fact hm ?_)) (fun h4 => h2 ?_)⟩)
    · have : (nulF fs[i]).isEmpty = false := by
        cases hq : nulF fs[i] with
        | nil => rw [hq] at h4; simp at h4
        | cons _ _ => rfl
      unfold okIn; rw [this]; simp
    · have : nulF fs[i] = [] := List.length_eq_zero_iff.mp (by omega)
      unfold okIn; rw [h, this]; rfl
  · intro X hall
    refine bcN ⟨_, g_slices_Clone_Relation (by omega), _, g_idependenciesCopy (by omega) (fun d hd => okDep_of (vDeps_mem hv hd)), _, g_ifactsCopy (by omega) (fun f hf => by have := okIn_len (List.all_eq_true.mp hall f hf); omega), ?_⟩
    exact newL_yes (by unfold newOk; rw [hall, hp, hw, decide_eq_true (show fs.length ≤ 6 by omega)]; rfl)
  · rw [any_not] at h; exact nf h)
theorem newL_bulk (l : List TRel) (ds : List TDep) (fs : List TFact) : bulk k22 (newL l ds fs) ≤ bulk k3 l + bulk k13 ds + bulk k7 fs := by
  unfold newL
  split
  · show (bulk k3 l + (0 + 0)) + (0 + 0) + (bulk k13 ds + (bulk k7 fs + (0 + (0 + 0)))) ≤ _
    omega
  · show (0 + (0 + 0)) + (0 + 0) + (0 + (0 + (0 + (0 + 0)))) ≤ _
    omega
theorem law {x0 : List TRel} {x1 : List TDep} {x2 : List TFact} (_ : Bnd (h9) x0) (_ : Bnd (h18) x1) (_ : Bnd (h19) x2) : G_lFnExactNewLoader x0 x1 x2 true := M_lFnExactNewLoader _ _ _ _ (by
  unfold S_lFnExactNewLoader
  refine ⟨_, g_lszRelationS (by omega) (by omega), bc_fits (by omega) (fun _ => rfl) fun h1 => ?_⟩
  try rw [fits_of_ge h1]
  have hB0 : bulk k3 x0 ≤ 1099511627776 := by omega
  refine ⟨_, g_lszDependencyS (by omega) (by omega), bc_fits (by omega) (fun _ => rfl) fun h2 => ?_⟩
  try rw [fits_of_ge h2]
  have hB1 : bulk k13 x1 ≤ 1099511627776 := by omega
  refine ⟨_, g_lszFactS (by omega) (by omega), bc_fits (by omega) (fun _ => rfl) fun h3 => ?_⟩
  try rw [fits_of_ge h3]
  have hB2 : bulk k7 x2 ≤ 1099511627776 := by omega
  have hS : bulk k3 x0 + bulk k13 x1 + bulk k7 x2 ≤ 1048576 := by omega
  have hnb := newL_bulk x0 x1 x2
  have hf : ∀ f ∈ x2, f.2.1.length ≤ 1073741824 := fun f hf => by
    have q1 := mem_flat_le hf
    have q2 : (x2.flatMap (·.2.1)).length ≤ bulk k7 x2 := flat_bulk x2
    omega
  have w0 := wt_le k3 x0
  have s0 : scal k3 = 3 := rfl
  rw [s0] at w0
  have w1 := wt_le k13 x1
  have s1 : scal k13 = 7 := rfl
  rw [s1] at w1
  have w2 := wt_le k7 x2
  have s2 : scal k7 = 2 := rfl
  rw [s2] at w2
  have w3 := wt_le k22 (newL x0 x1 x2)
  have s3 : scal k22 = 19 := rfl
  rw [s3] at w3
  refine ⟨_, g_ltoRelationS (hB0), _, g_ltoDependencyS (hB1), _, g_ltoFactS (hB2), ?_⟩
  refine ⟨_, _, g_sNewLoader, ?_⟩
  refine ⟨_, g_ltoRelationS (hB0), _, g_ltoDependencyS (hB1), _, g_ltoFactS (hB2), ?_⟩
  refine ⟨_, _, g_iNewLoader hf, ?_⟩
  refine ⟨_, g_leqLoader, bc_nd (fun h => absurd rfl h) fun _ => ?_⟩
  refine bc_nb (fun h => absurd rfl h) fun _ => ?_
  refine ⟨_, g_ltoRelationS (hB0), ?_⟩
  refine ⟨_, g_leqRelationS, bc_nd (fun h => absurd rfl h) fun _ => ?_⟩
  refine ⟨_, g_ltoDependencyS (hB1), ?_⟩
  refine ⟨_, g_leqDependencyS, bc_nd (fun h => absurd rfl h) fun _ => ?_⟩
  refine ⟨_, g_ltoFactS (hB2), ?_⟩
  refine ⟨_, g_leqFactS, bc_nd (fun h => absurd rfl h) fun _ => ?_⟩
  refine ⟨_, _, g_lmarkRelationS_ooz (by omega) (by omega) (by omega), ?_⟩
  refine ⟨_, _, g_lmarkDependencyS_oopopzpozzpopzpozzz (by omega) (by omega) (by omega), ?_⟩
  refine ⟨_, _, g_lmarkFactS_oopzpozz (by omega) (by omega) (by omega), ?_⟩
  rw [bc_neg (by omega)]
  refine ⟨_, g_leqLoader, bc_nd (fun h => absurd rfl h) fun _ => ?_⟩
  refine bc_nb (fun h => absurd rfl h) fun _ => ?_
  refine ⟨_, _, g_lmarkLoader_opppozpopzpozzzpopzpzpozzzpopopzpozzpopzpozzzpopzpozzz (x0 := newL x0 x1 x2) (x1 := 1) (by omega) (by omega) (by omega), ?_⟩
  refine ⟨_, g_lheldLoader (x0 := newL x0 x1 x2) (x1 := 1) (by omega) (by omega) (by omega), ?_⟩
  rw [bc_neg (by omega)]
  refine bc_ne (fun h => absurd rfl h) fun _ => ?_
  refine ⟨_, g_ltoRelationS (hB0), _, g_ltoDependencyS (hB1), _, g_ltoFactS (hB2), ?_⟩
  refine ⟨_, _, g_iNewLoader hf, ?_⟩
  refine ⟨_, g_leqLoader, bc_nd (fun h => absurd rfl h) fun _ => ?_⟩
  refine bc_nb (fun h => absurd rfl h) fun _ => ?_
  refine ⟨_, g_lheldLoader (x0 := newL x0 x1 x2) (x1 := 1) (by omega) (by omega) (by omega), ?_⟩
  rw [bc_neg (by omega)]
  refine bc_ne (fun h => absurd rfl h) fun _ => ?_
  rfl)
end Go.V
