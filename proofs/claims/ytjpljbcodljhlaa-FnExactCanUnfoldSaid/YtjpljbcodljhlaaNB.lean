/-
  The functions that the law reaches: what each gives.
-/
import Derived.Test.YtjpljbcodljhlaaNF
import Derived.Test.YtjpljbcodljhlaaNP
set_option linter.unusedVariables false
set_option linter.unusedSimpArgs false
set_option maxRecDepth 1000000
set_option maxHeartbeats 4000000
set_option linter.unusedVariables false
set_option linter.unusedSimpArgs false
namespace Go.V
open Go
theorem g_slices_Sort_int_ooz {x0 : List Int} (h : x0.length ≤ 1099511627776) : G_slices_Sort_int_ooz x0 (sortI x0) := prim_sort h
theorem g_slices_Compact_int_ooz {x0 : List Int} : G_slices_Compact_int_ooz x0 (compI x0) := prim_compact
def cmpI (a b : Int) : Int := if a < b then -1 else if b < a then 1 else 0
def cmpL : List Int → List Int → Int
  | [], [] => 0
  | [], _ :: _ => -1
  | _ :: _, [] => 1
  | a :: x, b :: y => if a < b then -1 else if b < a then 1 else cmpL x y
def cmpF (a b : TFact) : Int := if a.1 < b.1 then -1 else if b.1 < a.1 then 1 else cmpL a.2.1 b.2.1
theorem cmpL_zero : ∀ {x y : List Int}, cmpL x y = 0 ↔ x = y
  | [], [] => by simp [cmpL]
  | [], b :: y => by simp [cmpL]
  | a :: x, [] => by simp [cmpL]
  | a :: x, b :: y => by
    unfold cmpL
    split
    · rename_i h; constructor
      · intro h'; cases h'
      · intro h'; cases h'; omega
    · split
      · rename_i h; constructor
        · intro h'; cases h'
        · intro h'; cases h'; omega
      · rw [cmpL_zero]
        have : a = b := by omega
        simp [this]
theorem cmpF_zero {x y : TFact} : cmpF x y = 0 ↔ x = y := by
  obtain ⟨a, b, u⟩ := x; obtain ⟨a', b', u'⟩ := y
  unfold cmpF
  simp only
  split
  · rename_i h; constructor
    · intro h'; cases h'
    · intro h'; cases h'; omega
  · split
    · rename_i h; constructor
      · intro h'; cases h'
      · intro h'; cases h'; omega
    · rw [cmpL_zero]
      have : a = a' := by omega
      simp [this]
theorem cmpL_step {x y : List Int} {i : Nat} (h : i < x.length) (h' : i < y.length) : cmpL (x.drop i) (y.drop i) = if x[i] < y[i] then -1 else if y[i] < x[i] then 1 else cmpL (x.drop (i + 1)) (y.drop (i + 1)) := by
  rw [drop_cons h, drop_cons h', cmpL]
theorem cmpL_end {x y : List Int} {i : Nat} (h : x.length ≤ i) : cmpL (x.drop i) (y.drop i) = if i < y.length then -1 else 0 := by
  rw [List.drop_of_length_le h]
  by_cases h' : i < y.length
  · rw [drop_cons h', if_pos h']; rfl
  · rw [List.drop_of_length_le (by omega), if_neg h']; rfl
theorem cmpL_end' {x y : List Int} {i : Nat} (h : i < x.length) (h' : y.length ≤ i) : cmpL (x.drop i) (y.drop i) = 1 := by
  rw [List.drop_of_length_le h', drop_cons h]; rfl
/- ## sorted rows of integers, each once -/
def ins : List Int → Int → List Int
  | [], x => [x]
  | a :: l, x => if a < x then a :: ins l x else if a = x then a :: l else x :: a :: l
def srt (l : List Int) : Prop := l.Pairwise (· < ·)
def sset (l : List Int) : List Int := l.foldl ins []
theorem mem_put {y x : Int} : ∀ {l : List Int}, y ∈ ins l x ↔ y = x ∨ y ∈ l
  | [] => by simp [ins]
  | a :: l => by
    unfold ins
    split
    · rw [List.mem_cons, mem_put, List.mem_cons]
      constructor
      · rintro (h | h | h) <;> simp [h]
      · rintro (h | h | h) <;> simp [h]
    · split
      · rename_i h; subst h; simp
      · simp
theorem srt_put {x : Int} : ∀ {l : List Int}, srt l → srt (ins l x)
  | [], _ => by simp [ins, srt]
  | a :: l, h => by
    obtain ⟨h1, h2⟩ := List.pairwise_cons.mp h
    unfold ins
    split
    · rename_i hlt
      refine List.pairwise_cons.mpr ⟨fun y hy => ?_, srt_put h2⟩
      rcases mem_put.mp hy with rfl | hy
      · exact hlt
      · exact h1 y hy
    · split
      · exact h
      · refine List.pairwise_cons.mpr ⟨fun y hy => ?_, h⟩
        rcases List.mem_cons.mp hy with rfl | hy
        · omega
        · have := h1 y hy; omega
theorem foldput {l : List Int} : ∀ {s : List Int}, srt s → srt (l.foldl ins s) ∧ ∀ y, y ∈ l.foldl ins s ↔ y ∈ s ∨ y ∈ l := by
  induction l with
  | nil => intro s h; exact ⟨h, by simp⟩
  | cons a l ih =>
    intro s h
    obtain ⟨h1, h2⟩ := ih (srt_put (x := a) h)
    refine ⟨h1, fun y => ?_⟩
    rw [List.foldl_cons, h2, mem_put, List.mem_cons]
    constructor
    · rintro ((h | h) | h) <;> simp [h]
    · rintro (h | h | h) <;> simp [h]
theorem srt_sset (l : List Int) : srt (sset l) := (foldput List.Pairwise.nil).1
theorem mem_sset {l : List Int} {y : Int} : y ∈ sset l ↔ y ∈ l := by have := (foldput (l := l) List.Pairwise.nil).2 y; simpa [sset] using this
theorem srt_ext : ∀ {a b : List Int}, srt a → srt b → (∀ y, y ∈ a ↔ y ∈ b) → a = b
  | [], [], _, _, _ => rfl
  | [], y :: b, _, _, h => by have := (h y).mpr (by simp); simp at this
  | x :: a, [], _, _, h => by have := (h x).mp (by simp); simp at this
  | x :: a, y :: b, ha, hb, h => by
    obtain ⟨ha1, ha2⟩ := List.pairwise_cons.mp ha
    obtain ⟨hb1, hb2⟩ := List.pairwise_cons.mp hb
    have hxy : x = y := by
      rcases List.mem_cons.mp ((h x).mp (by simp)) with e | hx
      · exact e
      · rcases List.mem_cons.mp ((h y).mpr (by simp)) with e | hy
        · exact e.symm
        · have := ha1 y hy; have := hb1 x hx; omega
    subst hxy
    congr 1
    refine srt_ext ha2 hb2 fun z => ⟨fun hz => ?_, fun hz => ?_⟩
    · rcases List.mem_cons.mp ((h z).mp (by simp [hz])) with e | h'
      · have := ha1 z hz; omega
      · exact h'
    · rcases List.mem_cons.mp ((h z).mpr (by simp [hz])) with e | h'
      · have := hb1 z hz; omega
      · exact h'
theorem sset_of {a l : List Int} (h1 : srt a) (h2 : ∀ y, y ∈ a ↔ y ∈ l) : a = sset l := srt_ext h1 (srt_sset l) fun y => by rw [h2, mem_sset]
theorem sset_congr {l m : List Int} (h : ∀ y, y ∈ l ↔ y ∈ m) : sset l = sset m := sset_of (srt_sset l) fun y => by rw [mem_sset, h]
theorem foldput_sset {l m : List Int} : (sset m).foldl ins (sset l) = sset (l ++ m) := by
  obtain ⟨h1, h2⟩ := foldput (l := sset m) (srt_sset l)
  exact sset_of h1 fun y => by rw [h2, mem_sset, mem_sset, List.mem_append]
theorem sset_snoc {l : List Int} {x : Int} : ins (sset l) x = sset (l ++ [x]) := by unfold sset; rw [List.foldl_append]; rfl
theorem put_len (l : List Int) (x : Int) : (ins l x).length ≤ l.length + 1 := by
  induction l with
  | nil => simp [ins]
  | cons a l ih => unfold ins; split; simp; omega; split <;> simp
theorem sset_len (l : List Int) : (sset l).length ≤ l.length := by
  have : ∀ (l s : List Int), (l.foldl ins s).length ≤ s.length + l.length := by
    intro l
    induction l with
    | nil => intro s; simp
    | cons a l ih => intro s; have := ih (ins s a); have := put_len s a; simp only [List.foldl_cons, List.length_cons]; omega
  have := this l []
  simpa [sset] using this
theorem sset_nil_iff {l : List Int} : sset l = [] ↔ l = [] := by
  constructor
  · intro h
    apply List.eq_nil_iff_forall_not_mem.mpr
    intro y hy
    have := mem_sset.mpr hy
    rw [h] at this; simp at this
  · rintro rfl; rfl
/-- strictly sorted numbers of a range are few -/
theorem srt_range {l : List Int} {a : Int} : ∀ {n : Nat}, srt l → (∀ y ∈ l, a ≤ y ∧ y < a + n) → l.length ≤ n := by
  induction l generalizing a with
  | nil => intro n _ _; simp
  | cons x l ih =>
    intro n h hr
    obtain ⟨h1, h2⟩ := List.pairwise_cons.mp h
    have hx := hr x (by simp)
    have := ih (a := x + 1) (n := (a + n - (x + 1)).toNat) h2 fun y hy => by
      have := h1 y hy; have := hr y (by simp [hy]); omega
    simp only [List.length_cons]; omega
theorem srt_last {l : List Int} (h : srt l) (hne : l ≠ []) : ∀ y ∈ l, y ≤ l.getLast hne := by
  intro y hy
  have hs : l = l.dropLast ++ [l.getLast hne] := (List.dropLast_concat_getLast hne).symm
  rw [hs] at h hy
  unfold srt at h
  rw [List.pairwise_append] at h
  rcases List.mem_append.mp hy with hy | hy
  · have := h.2.2 y hy (l.getLast hne) (by simp); omega
  · have : y = l.getLast hne := by simpa using hy
    omega
theorem put_eq (l : List Int) (x : Int) : ins l x = if h : firstAt (fun a => !decide (a < x)) l < l.length then (if l[firstAt (fun a => !decide (a < x)) l] = x then l else l.take (firstAt (fun a => !decide (a < x)) l) ++ x :: l.drop (firstAt (fun a => !decide (a < x)) l)) else l ++ [x] := by
  induction l with
  | nil => simp [ins, firstAt]
  | cons a l ih =>
    unfold ins
    by_cases ha : a < x
    · have e : firstAt (fun a => !decide (a < x)) (a :: l) = firstAt (fun a => !decide (a < x)) l + 1 := by simp [firstAt, ha]
      rw [if_pos ha, ih]
      by_cases hf : firstAt (fun a => !decide (a < x)) l < l.length
      · rw [dif_pos hf, dif_pos (by rw [e]; simpa using hf)]
        simp only [e, List.getElem_cons_succ, List.take_succ_cons, List.drop_succ_cons]
        split
        · rfl
        · rfl
      · rw [dif_neg hf, dif_neg (by rw [e]; simpa using hf)]
        rfl
    · have e : firstAt (fun a => !decide (a < x)) (a :: l) = 0 := by simp [firstAt, ha]
      rw [if_neg ha, dif_pos (by rw [e]; simp)]
      simp only [e, List.getElem_cons_zero, List.take_zero, List.drop_zero, List.nil_append]
theorem g_sl4Put {l : List Int} {x : Int} (hl : l.length ≤ 1073741824) : G_sl4Put l x (ins l x) := M_sl4Put _ _ _ (by
  unfold S_sl4Put
  have fin : ∀ (k : Nat), k ≤ l.length → ((0 ≤ (k : Int) ∧ (k : Int) ≤ (List.length l : Int) ∧ (List.length l : Int) ≤ (List.length l : Int)) ∧ (([x] : List Int).length + (List.drop (Int.toNat (k : Int)) (List.take (Int.toNat (List.length l : Int)) l)).length ≤ maxL ∧ ((0 ≤ (0 : Int) ∧ (0 : Int) ≤ (k : Int) ∧ (k : Int) ≤ (List.length l : Int)) ∧ (([] : List Int).length + (List.drop (Int.toNat (0 : Int)) (List.take (Int.toNat (k : Int)) l)).length ≤ maxL ∧ ((([] : List Int) ++ (List.drop (Int.toNat (0 : Int)) (List.take (Int.toNat (k : Int)) l))).length + (([x] : List Int) ++ (List.drop (Int.toNat (k : Int)) (List.take (Int.toNat (List.length l : Int)) l))).length ≤ maxL ∧ (((([] : List Int) ++ (List.drop (Int.toNat (0 : Int)) (List.take (Int.toNat (k : Int)) l))) ++ (([x] : List Int) ++ (List.drop (Int.toNat (k : Int)) (List.take (Int.toNat (List.length l : Int)) l))), ()) : List Int × Unit) = (l.take k ++ x :: l.drop k, ()))))) ) := by
    intro k hk
    simp only [Int.toNat_natCast, List.take_length, Int.toNat_zero, List.drop_zero, List.nil_append, List.length_nil, List.length_cons, List.length_append, List.length_take, List.length_drop, maxL, List.cons_append]
    refine ⟨⟨by omega, by omega, by omega⟩, by omega, ⟨by omega, by omega, by omega⟩, by omega, by omega, trivial⟩
  rw [put_eq]
  refine loop_first l (fun a => !decide (a < x)) (fun i => ((i : Int), ())) (KT := fun i => ∀ h : i < l.length, ∀ r : List Int × Unit, r = (if l[i] = x then l else l.take i ++ x :: l.drop i, ()) → r = ((if h : firstAt (fun a => !decide (a < x)) l < l.length then (if l[firstAt (fun a => !decide (a < x)) l] = x then l else l.take (firstAt (fun a => !decide (a < x)) l) ++ x :: l.drop (firstAt (fun a => !decide (a < x)) l)) else l ++ [x]), ()))
    (KF := ∀ r : List Int × Unit, r = (l ++ [x], ()) → r = ((if h : firstAt (fun a => !decide (a < x)) l < l.length then (if l[firstAt (fun a => !decide (a < x)) l] = x then l else l.take (firstAt (fun a => !decide (a < x)) l) ++ x :: l.drop (firstAt (fun a => !decide (a < x)) l)) else l ++ [x]), ())) ?_ ?_ ?_ ?_
  · intro i hi X h1 h2
    refine lenI fun hl' => bcI hi (inI hi ?_)
    simp only
    rw [getI hi, w64_succ (by omega)]
    refine bc_dec (fun h => h2 (by simpa using h)) (fun h => ?_)
    have h1 := h1 (by simpa using h) hi
    refine lenI fun _ => bcI hi (inI hi (bc_beq (fun he => h1 _ (by rw [if_pos he])) (fun he => ?_)))
    rw [if_neg he] at h1
    have := fin i (by omega)
    exact ⟨this.1, this.2.1, this.2.2.1, this.2.2.2.1, this.2.2.2.2.1, h1 _ this.2.2.2.2.2⟩
  · intro X h
    refine lenI fun hl' => bcN (lenI fun _ => bcN ?_)
    have := fin l.length (by omega)
    refine ⟨this.1, this.2.1, this.2.2.1, this.2.2.2.1, this.2.2.2.2.1, h _ (this.2.2.2.2.2.trans (by simp))⟩
  · intro h h' r hr; rw [hr, dif_pos h]
  · intro h r hr; rw [hr, dif_neg (by omega)])
theorem g_sl4Has {l : List Int} {x : Int} : G_sl4Has l x (decide (x ∈ l)) := M_sl4Has _ _ _ (by
  unfold S_sl4Has
  refine loop_any l (fun a => x == a) (fun i => ((i : Int), ())) (KT := ((true, ()) : Bool × Unit) = (decide (x ∈ l), ())) (KF := ((false, ()) : Bool × Unit) = (decide (x ∈ l), ())) ?_ (fun X h => lenI fun _ => bcN h) (fun h => ?_) (fun h => ?_)
  · intro i hi X h1 h2
    refine lenI fun _ => bcI hi (inI hi ?_)
    simp only
    rw [getI hi, w64_succ (by omega)]
    exact bc_beq (fun h => h1 (by simp [h])) (fun h => h2 (by simpa using fun e => h e.symm))
  · rw [any_mem] at h; rw [h]
  · rw [any_mem] at h; rw [h])
theorem sortI_mem {l : List Int} {y : Int} : y ∈ sortI l ↔ y ∈ l := by unfold sortI; simp
theorem sortI_sorted (l : List Int) : (sortI l).Pairwise (· ≤ ·) := by
  unfold sortI
  have := List.pairwise_mergeSort (le := fun a b : Int => decide (a ≤ b)) (fun a b c h1 h2 => by simp at *; omega) (fun a b => by simp; omega) l
  exact this.imp fun h => by simpa using h
theorem comp_sort (l : List Int) : compI (sortI l) = sset l := by
  have hs := sortI_sorted l
  have hget : ∀ i j (hi : i < (sortI l).length) (hj : j < (sortI l).length), i ≤ j → (sortI l)[i] ≤ (sortI l)[j] := by
    intro i j hi hj h
    rcases Nat.lt_or_ge i j with h | h
    · exact List.pairwise_iff_getElem.mp hs i j hi hj h
    · have : i = j := by omega
      subst this; omega
  have ex : compI (sortI l) = ((List.range (sortI l).length).filter (Lib.keeps (sortI l).toArray)).map ((sortI l).toArray[·]!) := rfl
  refine sset_of ?_ ?_
  · rw [ex]
    unfold srt
    rw [List.pairwise_map, List.pairwise_filter]
    refine List.Pairwise.imp_of_mem (R := (· < ·)) ?_ List.pairwise_lt_range
    intro i j hi hj hij _ kj
    have hi := List.mem_range.mp hi; have hj := List.mem_range.mp hj
    have e1 : (sortI l).toArray[i]! = (sortI l)[i] := by simp [hi]
    have e2 : (sortI l).toArray[j]! = (sortI l)[j] := by simp [hj]
    have e3 : (sortI l).toArray[j - 1]! = (sortI l)[j - 1]'(by omega) := by rw [getElem!_pos (sortI l).toArray (j - 1) (by simp; omega)]; rfl
    rw [e1, e2]
    unfold Lib.keeps at kj
    rw [e2, e3] at kj
    have h1 := hget i (j - 1) hi (by omega) (by omega)
    have h2 := hget (j - 1) j (by omega) hj (by omega)
    rcases of_decide_eq_true kj with h | h
    · omega
    · omega
  · intro y
    rw [ex, List.mem_map]
    constructor
    · rintro ⟨j, hj, rfl⟩
      have hj := List.mem_range.mp (List.mem_filter.mp hj).1
      have e : (sortI l).toArray[j]! = (sortI l)[j] := by simp [hj]
      rw [e, ← sortI_mem]; exact List.getElem_mem hj
    · intro hy
      rw [← sortI_mem] at hy
      -- the first place that holds y
      have hf : firstAt (fun t => t == y) (sortI l) < (sortI l).length := firstAt_any.mpr (List.any_eq_true.mpr ⟨y, hy, by simp⟩)
      have h2 := firstAt_at hf
      have h3 : (sortI l)[firstAt (fun t => t == y) (sortI l)] = y := by simpa using h2
      refine ⟨firstAt (fun t => t == y) (sortI l), List.mem_filter.mpr ⟨List.mem_range.mpr hf, ?_⟩, by simp [hf, h3]⟩
      unfold Lib.keeps
      rw [decide_eq_true_iff]
      by_cases h0 : firstAt (fun t => t == y) (sortI l) = 0
      · exact .inl h0
      · right
        have hlt : firstAt (fun t => t == y) (sortI l) - 1 < (sortI l).length := by omega
        have h4 := firstAt_lt (p := fun t => t == y) (l := sortI l) hlt (by omega)
        have e1 : (sortI l).toArray[firstAt (fun t => t == y) (sortI l)]! = y := by simp [hf, h3]
        have e2 : (sortI l).toArray[firstAt (fun t => t == y) (sortI l) - 1]! = (sortI l)[firstAt (fun t => t == y) (sortI l) - 1] := by simp [hlt]
        rw [e1, e2]
        intro e
        rw [← e] at h4; simp at h4
/- ## relations, atoms, dependencies: which are valid -/
def inR (x a b : Int) : Bool := decide (a ≤ x) && decide (x ≤ b)
theorem any_not {α : Type} {p : α → Bool} {l : List α} : (l.any fun t => !p t) = !(l.all p) := by
  induction l with
  | nil => rfl
  | cons a l ih => simp only [List.any_cons, List.all_cons, ih]; cases p a <;> simp
theorem nt {b : Bool} (h : (!b) = true) : b = false := by simpa using h
theorem nf {b : Bool} (h : (!b) = false) : b = true := by simpa using h
theorem flat_split {α β : Type} (f : α → List β) {l : List α} {i : Nat} (h : i < l.length) : (l.flatMap f).length = ((l.take i).flatMap f).length + ((f l[i]).length + ((l.drop (i + 1)).flatMap f).length) := by
  have e : l = l.take i ++ l[i] :: l.drop (i + 1) := by rw [← drop_cons h, List.take_append_drop]
  have := congrArg (fun m => (m.flatMap f).length) e
  simp only [List.flatMap_append, List.flatMap_cons, List.length_append] at this
  exact this
theorem inR_iff {x a b : Int} : inR x a b = true ↔ a ≤ x ∧ x ≤ b := by simp [inR]
theorem bl_tri : ∀ {a b : List UInt8}, (Op.bytesLess b a || b == a) = !(Op.bytesLess a b)
  | [], [] => by decide
  | [], y :: b => by simp [Op.bytesLess]
  | x :: a, [] => by simp [Op.bytesLess]
  | x :: a, y :: b => by
    have ih := bl_tri (a := a) (b := b)
    simp only [Op.bytesLess]
    by_cases h : y < x
    · have h2 : ¬ x < y := UInt8.lt_asymm h
      have h3 : ¬ x = y := by rintro rfl; exact UInt8.lt_irrefl _ h
      simp [h, h2, h3]
    · by_cases h2 : x < y
      · have h3 : ¬ y = x := by rintro rfl; exact h h2
        simp [h, h2, h3]
      · have h3 : x = y := UInt8.le_antisymm (UInt8.not_lt.mp h) (UInt8.not_lt.mp h2)
        subst h3
        simp only [h, decide_false, beq_self_eq_true, Bool.true_and, Bool.false_or]
        rw [← ih]
        by_cases h4 : b = a <;> simp [h4]
def vRel (r : TRel) : Bool := (r.1.length == 1) && decide (97 ≤ (r.1.getD 0 0).toNat) && decide ((r.1.getD 0 0).toNat ≤ 122) && inR r.2.1 1 3
def relAt (l : List TRel) (i : Nat) : TRel := l.getD i zRel
def vRels (l : List TRel) : Bool := ((List.range l.length).all fun i => vRel (relAt l i) && (i == 0 || Op.bytesLess (relAt l (i - 1)).1 (relAt l i).1)) && decide (l.length ≤ 6)
theorem relAt_get {l : List TRel} {i : Nat} (h : i < l.length) : relAt l i = l[i] := getD_at h
theorem vRels_mem {l : List TRel} (h : vRels l = true) {r : TRel} (hr : r ∈ l) : vRel r = true := by
  unfold vRels at h
  rw [Bool.and_eq_true] at h
  obtain ⟨i, hi, rfl⟩ := List.mem_iff_getElem.mp hr
  have := List.all_eq_true.mp h.1 i (List.mem_range.mpr hi)
  rw [Bool.and_eq_true, relAt_get hi] at this
  exact this.1
theorem vRels_len {l : List TRel} (h : vRels l = true) : l.length ≤ 6 := by
  unfold vRels at h; simp at h; exact h.2
theorem vRel_arity {r : TRel} (h : vRel r = true) : 1 ≤ r.2.1 ∧ r.2.1 ≤ 3 := by
  unfold vRel at h; simp [inR] at h; exact h.2
def arity (l : List TRel) (i : Int) : Int := (l.getD (Int.toNat i) zRel).2.1
def srcAt (l : List TRel) (i : Int) : Bool := (l.getD (Int.toNat i) zRel).2.2.1
/-- a row of numbers at a relation, each with ok -/
def vRow (ok : Int → Bool) (l : List TRel) (a : TFact) : Bool := vRels l && inR a.1 0 ((l.length : Int) - 1) && ((a.2.1.length : Int) == arity l a.1) && a.2.1.all ok
theorem vRow_spec {ok : Int → Bool} {l : List TRel} {a : TFact} (h : vRow ok l a = true) : vRels l = true ∧ 0 ≤ a.1 ∧ a.1 < l.length ∧ (a.2.1.length : Int) = arity l a.1 ∧ a.2.1.length ≤ 3 ∧ ∀ v ∈ a.2.1, ok v = true := by
  unfold vRow at h
  simp only [Bool.and_eq_true, beq_iff_eq, List.all_eq_true] at h
  obtain ⟨⟨⟨h1, h2⟩, h3⟩, h4⟩ := h
  have h2 := inR_iff.mp h2
  have hlt : a.1.toNat < l.length := by omega
  have := vRel_arity (vRels_mem h1 (List.getElem_mem hlt))
  have e : arity l a.1 = l[a.1.toNat].2.1 := by unfold arity; rw [getD_at hlt]
  exact ⟨h1, h2.1, by omega, h3, by omega, h4⟩
def vTerm (t : Int) : Bool := inR t (-10) 4
def vAtom (l : List TRel) (a : TFact) : Bool := vRow vTerm l a
def vars (l : List TFact) : List Int := sset ((l.flatMap (·.2.1)).filter fun t => decide (0 ≤ t))
def vDep (l : List TRel) (d : TDep) : Bool := inR d.1.length 1 2 && d.1.all (vAtom l) &&
  (if d.2.2.1 then decide (d.2.1 = []) && decide (d.2.2.2.1 ∈ vars d.1) && decide (d.2.2.2.2.1 ∈ vars d.1) && decide (d.2.2.2.1 < d.2.2.2.2.1)
   else d.2.1.all (fun a => vAtom l a && !(srcAt l a.1)) && inR d.2.1.length 1 2 && (d.2.2.2.1 == 0) && (d.2.2.2.2.1 == 0))
def vDeps (l : List TRel) (ds : List TDep) : Bool := ds.all (vDep l) && vRels l && decide (ds.length ≤ 5)
def exV (d : TDep) : List Int := (vars d.2.1).filter fun v => !decide (v ∈ vars d.1)
def frV (d : TDep) : List Int := (vars d.2.1).filter fun v => decide (v ∈ vars d.1)
def full (d : TDep) : Bool := !d.2.2.1 && (exV d).isEmpty
theorem atoms_len {l : List TRel} {ats : List TFact} (h : ats.all (vAtom l) = true) : (ats.flatMap (·.2.1)).length ≤ 3 * ats.length := by
  induction ats with
  | nil => simp
  | cons a ats ih =>
    simp only [List.all_cons, Bool.and_eq_true] at h
    have h1 := (vRow_spec h.1).2.2.2.2.1
    have := ih h.2
    simp only [List.flatMap_cons, List.length_append, List.length_cons]
    omega
theorem vars_len (l : List TFact) : (vars l).length ≤ (l.flatMap (·.2.1)).length := Nat.le_trans (sset_len _) (List.length_filter_le _ _)
theorem g_sl1In {x a b : Int} : G_sl1In x a b (inR x a b) := M_sl1In _ _ _ _ (by
  unfold S_sl1In inR
  refine bc_dec (fun h => ?_) (fun h => ?_)
  · rw [decide_eq_true (show a ≤ x from h), Bool.true_and]
  · rw [decide_eq_false (show ¬ a ≤ x from h), Bool.false_and])
theorem g_iwithin {x a b : Int} : G_iwithin x a b (inR x a b) := M_iwithin _ _ _ _ (by
  unfold S_iwithin inR
  refine bc_dec (fun h => ?_) (fun h => ?_)
  · rw [decide_eq_true h, Bool.true_and]
  · rw [decide_eq_false h, Bool.false_and])
theorem g_sIsValidRelation {r : TRel} : G_sIsValidRelation r (vRel r) := M_sIsValidRelation _ _ (by
  unfold S_sIsValidRelation
  have no : ∀ {b : Bool}, vRel r = b → ((b, ()) : Bool × Unit) = (vRel r, ()) := fun h => by rw [h]
  refine lenI fun _ => bc_beq (fun h => ?_) (fun h => no ?_)
  · have h1 : r.1.length = 1 := by omega
    refine ⟨⟨by omega, by omega⟩, ?_⟩
    refine bc_dec (fun h2 => ⟨⟨by omega, by omega⟩, bc_dec (fun h3 => ⟨_, g_sl1In, no ?_⟩) (fun h3 => no ?_)⟩) (fun h2 => no ?_)
    · unfold vRel
      have a1 : decide (97 ≤ (r.1.getD 0 0).toNat) = true := decide_eq_true (by have h2 : (97 : Int) ≤ ((r.1.getD 0 0).toNat : Int) := h2; omega)
      have a2 : decide ((r.1.getD 0 0).toNat ≤ 122) = true := decide_eq_true (by have h3 : ((r.1.getD 0 0).toNat : Int) ≤ 122 := h3; omega)
      rw [a1, a2]; simp [h1]
    · unfold vRel
      have a2 : decide ((r.1.getD 0 0).toNat ≤ 122) = false := decide_eq_false (by have h3 : ¬ ((r.1.getD 0 0).toNat : Int) ≤ 122 := h3; omega)
      rw [a2]; simp
    · unfold vRel
      have a1 : decide (97 ≤ (r.1.getD 0 0).toNat) = false := decide_eq_false (by have h2 : ¬ (97 : Int) ≤ ((r.1.getD 0 0).toNat : Int) := h2; omega)
      rw [a1]; simp
  · unfold vRel
    have : (r.1.length == 1) = false := by simp; omega
    rw [this]; simp)
theorem vRels_no {l : List TRel} {i : Nat} (h : i < l.length) (hp : (vRel (relAt l i) && (i == 0 || Op.bytesLess (relAt l (i - 1)).1 (relAt l i).1)) = false) : vRels l = false := by
  unfold vRels
  rw [Bool.and_eq_false_iff]; left
  rw [Bool.eq_false_iff]; intro hall
  have := List.all_eq_true.mp hall i (List.mem_range.mpr h)
  rw [hp] at this; cases this
theorem vRels_yes {l : List TRel} (hp : ∀ i, i < l.length → (!(vRel (relAt l i) && (i == 0 || Op.bytesLess (relAt l (i - 1)).1 (relAt l i).1))) = false) : vRels l = decide (l.length ≤ 6) := by
  unfold vRels
  have : ((List.range l.length).all fun i => vRel (relAt l i) && (i == 0 || Op.bytesLess (relAt l (i - 1)).1 (relAt l i).1)) = true :=
    List.all_eq_true.mpr fun i hi => by have := hp i (List.mem_range.mp hi); rwa [Bool.not_eq_false'] at this
  rw [this, Bool.true_and]
theorem g_sAreValidRelations {l : List TRel} : G_sAreValidRelations l (vRels l) := M_sAreValidRelations _ _ (by
  unfold S_sAreValidRelations
  refine loop_anyI l.length (fun i => !(vRel (relAt l i) && (i == 0 || Op.bytesLess (relAt l (i - 1)).1 (relAt l i).1))) (fun i => ((i : Int), ())) (KT := ((false, ()) : Bool × Unit) = (vRels l, ())) (KF := ((decide ((List.length l : Int) ≤ 6), ()) : Bool × Unit) = (vRels l, ())) ?_ (fun X h => lenI fun _ => bcN (lenI fun _ => h)) ?_ ?_
  · intro i hi X hb h1 h2
    refine lenI fun hl => bcI hi (inI hi ⟨_, g_sIsValidRelation, ?_⟩)
    simp only
    rw [getI hi, w64_succ (by omega)]
    rw [relAt_get hi] at h1 h2
    refine bc_not (fun h => h1 (by simp [h])) (fun h => bc_dec (fun h0 => ?_) (fun h0 => h2 (by obtain rfl : i = 0 := (by omega); simp [h])))
    have hi' : i - 1 < l.length := by omega
    have hw : w64 ((i : Int) - 1) = ((i - 1 : Nat) : Int) := by rw [w64_id (by omega) (by omega)]; omega
    rw [hw]
    refine inI hi' (inI hi ?_)
    rw [getI hi']
    rw [relAt_get hi'] at h1 h2
    have hz : (i == 0) = false := by simp; omega
    rw [hz, Bool.false_or, h, Bool.true_and] at h1 h2
    exact bc_if (fun h => h1 h) (fun h => h2 h)
  · rintro ⟨i, hi, hp⟩
    rw [vRels_no hi (by rwa [Bool.not_eq_true'] at hp)]
  · intro hp
    rw [vRels_yes hp]
    congr 1
    exact decide_eq_decide.mpr (by omega))
theorem g_iIsValidRelation {r : TRel} : G_iIsValidRelation r (vRel r) := M_iIsValidRelation _ _ (by
  unfold S_iIsValidRelation
  have no : ∀ {b : Bool}, vRel r = b → ((b, ()) : Bool × Unit) = (vRel r, ()) := fun h => by rw [h]
  refine lenI fun _ => bc_beq (fun h => ?_) (fun h => no ?_)
  · have h1 : r.1.length = 1 := by omega
    obtain ⟨c, hc⟩ : ∃ c, r.1 = [c] := List.length_eq_one_iff.mp h1
    rw [hc]
    have e1 : (!(Op.bytesLess [c] [97])) = decide (97 ≤ c.toNat) := by
      simp only [Op.bytesLess, Bool.and_false, Bool.or_false]
      by_cases h : c < 97
      · have : c.toNat < 97 := h
        simp [h]; omega
      · have : ¬ c.toNat < 97 := h
        simp [h]; omega
    have e2 : (Op.bytesLess [c] [122] || [c] == [122]) = decide (c.toNat ≤ 122) := by
      simp only [Op.bytesLess, Bool.and_false, Bool.or_false]
      by_cases h : c < 122
      · have : c.toNat < 122 := h
        simp [h]; omega
      · have : ¬ c.toNat < 122 := h
        by_cases h2 : c = 122
        · subst h2; simp
        · have h3 : c.toNat ≠ 122 := fun e => h2 (UInt8.toNat_inj.mp e)
          have d2 : ([c] == [(122 : UInt8)]) = false := by simp [h2]
          rw [decide_eq_false h, d2, decide_eq_false (by omega)]; rfl
    rw [e1, e2]
    refine bc_dec (fun h2 => bc_dec (fun h3 => ⟨_, g_iwithin, no ?_⟩) (fun h3 => no ?_)) (fun h2 => no ?_)
    · unfold vRel; rw [hc]; simp [h2, h3]
    · unfold vRel; rw [hc]
      show ((1 == 1) && decide (97 ≤ c.toNat) && decide (c.toNat ≤ 122) && inR r.2.1 1 3) = false
      rw [decide_eq_false h3]; simp
    · unfold vRel; rw [hc]
      show ((1 == 1) && decide (97 ≤ c.toNat) && decide (c.toNat ≤ 122) && inR r.2.1 1 3) = false
      rw [decide_eq_false h2]; simp
  · unfold vRel
    have : (r.1.length == 1) = false := by simp; omega
    rw [this]; simp)
theorem g_iAreValidRelations {l : List TRel} : G_iAreValidRelations l (vRels l) := M_iAreValidRelations _ _ (by
  unfold S_iAreValidRelations
  refine lenI fun hl => loop_anyI l.length (fun i => !(vRel (relAt l i) && (i == 0 || Op.bytesLess (relAt l (i - 1)).1 (relAt l i).1))) (fun i => ((i : Int), ())) (KT := ((false, ()) : Bool × Unit) = (vRels l, ())) (KF := ((decide ((List.length l : Int) ≤ 6), ()) : Bool × Unit) = (vRels l, ())) ?_ (fun X h => bcN (lenI fun _ => h)) ?_ ?_
  · intro i hi X hb h1 h2
    refine bcI hi (inI hi ⟨_, g_iIsValidRelation, ?_⟩)
    simp only
    rw [getI hi, w64_succ (by omega)]
    rw [relAt_get hi] at h1 h2
    refine bc_not (fun h => h1 (by simp [h])) (fun h => bc_dec (fun h0 => ?_) (fun h0 => h2 (by obtain rfl : i = 0 := (by omega); simp [h])))
    have hi' : i - 1 < l.length := by omega
    have hw : w64 ((i : Int) - 1) = ((i - 1 : Nat) : Int) := by rw [w64_id (by omega) (by omega)]; omega
    rw [hw]
    refine inI hi' ?_
    rw [getI hi']
    rw [relAt_get hi'] at h1 h2
    have hz : (i == 0) = false := by simp; omega
    rw [hz, Bool.false_or, h, Bool.true_and] at h1 h2
    rw [bl_tri]
    exact bc_if (fun h => h1 h) (fun h => h2 h)
  · rintro ⟨i, hi, hp⟩
    rw [vRels_no hi (by rwa [Bool.not_eq_true'] at hp)]
  · intro hp
    rw [vRels_yes hp]
    congr 1
    exact decide_eq_decide.mpr (by omega))
theorem row_start {l : List TRel} {a : TFact} (h : inR a.1 0 (w64 ((l.length : Int) - 1)) = true) (hl : (l.length : Int) ≤ 9223372036854775807) : 0 ≤ a.1 ∧ a.1 < (l.length : Int) := by
  have := inR_iff.mp h
  rw [w64_id (by omega) (by omega)] at this
  omega
theorem row_range {l : List TRel} {a : TFact} (hl : (l.length : Int) ≤ 9223372036854775807) : inR a.1 0 (w64 ((l.length : Int) - 1)) = inR a.1 0 ((l.length : Int) - 1) := by
  rw [w64_id (by omega) (by omega)]
/-- the part that the two programs' tests of rows share -/
theorem row_no1 {ok : Int → Bool} {l : List TRel} {a : TFact} (h : vRels l = false) : ((false, ()) : Bool × Unit) = (vRow ok l a, ()) := by unfold vRow; rw [h]; simp
theorem row_no2 {ok : Int → Bool} {l : List TRel} {a : TFact} (hl : (l.length : Int) ≤ 9223372036854775807) (h : inR a.1 0 (w64 ((l.length : Int) - 1)) = false) : ((false, ()) : Bool × Unit) = (vRow ok l a, ()) := by
  rw [row_range hl] at h; unfold vRow; rw [h]; simp
theorem row_no3 {ok : Int → Bool} {l : List TRel} {a : TFact} (h : (a.2.1.length : Int) ≠ (l.getD (Int.toNat a.1) zRel).2.1) : ((false, ()) : Bool × Unit) = (vRow ok l a, ()) := by
  have : ((a.2.1.length : Int) == arity l a.1) = false := by simpa [arity] using h
  unfold vRow; rw [this]; simp
theorem row_yes {ok : Int → Bool} {l : List TRel} {a : TFact} {b : Bool} (hl : (l.length : Int) ≤ 9223372036854775807) (h1 : vRels l = true) (h2 : inR a.1 0 (w64 ((l.length : Int) - 1)) = true) (h3 : (a.2.1.length : Int) = (l.getD (Int.toNat a.1) zRel).2.1) (hb : b = a.2.1.all ok) : ((b, ()) : Bool × Unit) = (vRow ok l a, ()) := by
  rw [row_range hl] at h2
  have : ((a.2.1.length : Int) == arity l a.1) = true := by simpa [arity] using h3
  unfold vRow; rw [h1, h2, this, hb]; simp
theorem g_sIsValidAtom {l : List TRel} {a : TFact} : G_sIsValidAtom l a (vAtom l a) := M_sIsValidAtom _ _ _ (by
  unfold S_sIsValidAtom vAtom
  refine ⟨_, g_sAreValidRelations, bc_not (fun h => row_no1 h) (fun h1 => lenI fun hl => ⟨_, g_sl1In, bc_not (fun h => row_no2 hl h) (fun h2 => lenI fun hl2 => ⟨row_start h2 hl, bc_ne (fun h => row_no3 h) (fun h3 => ?_)⟩)⟩)⟩
  refine loop_any a.2.1 (fun t => !vTerm t) (fun i => ((i : Int), ())) (KT := ((false, ()) : Bool × Unit) = (vRow vTerm l a, ())) (KF := ((true, ()) : Bool × Unit) = (vRow vTerm l a, ())) ?_ (fun X h => lenI fun _ => bcN h) ?_ ?_
  · intro i hi X q1 q2
    refine lenI fun _ => bcI hi (inI hi ⟨_, g_sl1In, ?_⟩)
    simp only
    rw [getI hi, w64_succ (by omega)]
    exact bc_if (fun h => q1 h) (fun h => q2 h)
  · intro h; exact row_yes hl h1 h2 h3 (by rw [any_not] at h; exact (nt h).symm)
  · intro h; exact row_yes hl h1 h2 h3 (by rw [any_not] at h; exact (nf h).symm))
theorem g_iIsValidAtom_1 {t : Int} : G_iIsValidAtom_1 t (!vTerm t) := M_iIsValidAtom_1 _ _ (by unfold S_iIsValidAtom_1; exact ⟨_, g_iwithin, rfl⟩)
theorem g_iIsValidAtom {l : List TRel} {a : TFact} : G_iIsValidAtom l a (vAtom l a) := M_iIsValidAtom _ _ _ (by
  unfold S_iIsValidAtom vAtom
  refine ⟨_, g_iAreValidRelations, bc_not (fun h => row_no1 h) (fun h1 => lenI fun hl => ⟨_, g_iwithin, bc_not (fun h => row_no2 hl h) (fun h2 => lenI fun hl2 => ⟨row_start h2 hl, bc_ne (fun h => row_no3 h) (fun h3 => ?_)⟩)⟩)⟩
  exact ⟨_, g_slices_ContainsFunc_int_c_iIsValidAtom_1 (fun t => !vTerm t) (fun _ _ => g_iIsValidAtom_1), row_yes hl h1 h2 h3 (by rw [any_not]; simp)⟩)
theorem g_sVariables {l : List TFact} (hl : (l.flatMap (·.2.1)).length ≤ 1073741824) : G_sVariables l (vars l) := M_sVariables _ _ (by
  unfold S_sVariables
  refine loopP_of l.length (fun i => ((i : Int), (vars (l.take i), ()))) (by simp [vars, sset]) ?_ ?_
  · intro i hi X hX
    refine lenI fun hl1 => bcI hi ?_
    simp only
    rw [getI hi]
    have hsub : ((l.take i).flatMap (·.2.1)).length + l[i].2.1.length ≤ 1073741824 := by
      have := flat_split (·.2.1) hi
      omega
    have hset : ∀ j, j ≤ l[i].2.1.length → (sset (((l.take i).flatMap (·.2.1) ++ l[i].2.1.take j).filter fun t => decide (0 ≤ t))).length ≤ 1073741824 := by
      intro j hj
      refine Nat.le_trans (sset_len _) (Nat.le_trans (List.length_filter_le _ _) ?_)
      rw [List.length_append, List.length_take]; omega
    refine loopP_of l[i].2.1.length (fun j => (sset (((l.take i).flatMap (·.2.1) ++ l[i].2.1.take j).filter fun t => decide (0 ≤ t)), ((j : Int), ()))) (by simp [vars]) ?_ ?_
    · intro j hj Y hY
      refine inI hi (lenI fun _ => bcI hj (inI hi (inI hj ?_)))
      simp only
      rw [getI hj, w64_succ (by omega)]
      have e : ((l.take i).flatMap (·.2.1) ++ l[i].2.1.take (j + 1)).filter (fun t => decide (0 ≤ t)) = ((l.take i).flatMap (·.2.1) ++ l[i].2.1.take j).filter (fun t => decide (0 ≤ t)) ++ (if 0 ≤ l[i].2.1[j] then [l[i].2.1[j]] else []) := by
        rw [take_succ_snoc hj, ← List.append_assoc, List.filter_append]
        by_cases h : 0 ≤ l[i].2.1[j] <;> simp [h]
      rw [e] at hY
      refine bc_dec (fun h => inI hi (inI hj ⟨_, g_sl4Put (hset j (by omega)), ?_⟩)) (fun h => ?_)
      · have h : 0 ≤ l[i].2.1[j] := h
        rw [if_pos h] at hY
        rw [sset_snoc]; exact hY
      · have h : ¬ 0 ≤ l[i].2.1[j] := h
        rw [if_neg h, List.append_nil] at hY; exact hY
    · intro Y
      refine inI hi (lenI fun _ => bcN ?_)
      simp only
      rw [w64_succ (by omega), List.take_length]
      have : sset (((l.take i).flatMap (·.2.1) ++ l[i].2.1).filter fun t => decide (0 ≤ t)) = vars (l.take (i + 1)) := by
        unfold vars; rw [take_succ_snoc hi, List.flatMap_append]; simp
      rw [this]; exact hX
  · intro X
    refine lenI fun _ => bcN ?_
    simp only [List.take_length])
theorem g_iVariables {l : List TFact} (hl : (l.flatMap (·.2.1)).length ≤ 1073741824) : G_iVariables l (vars l) := M_iVariables _ _ (by
  unfold S_iVariables
  refine lenI fun hl1 => ?_
  refine loopP_of l.length (fun i => ((i : Int), (((l.take i).flatMap (·.2.1)).filter (fun t => decide (0 ≤ t)), ()))) (by simp) ?_ ?_
  · intro i hi X hX
    refine bcI hi (inI hi ?_)
    simp only
    rw [getI hi, w64_succ (by omega)]
    have hsub : ((l.take i).flatMap (·.2.1)).length + l[i].2.1.length ≤ 1073741824 := by
      have := flat_split (·.2.1) hi
      omega
    refine lenI fun _ => loopP_of l[i].2.1.length (fun j => ((j : Int), (((l.take i).flatMap (·.2.1) ++ l[i].2.1.take j).filter (fun t => decide (0 ≤ t)), ()))) (by simp) ?_ ?_
    · intro j hj Y hY
      refine bcI hj (inI hj ?_)
      simp only
      rw [getI hj, w64_succ (by omega)]
      have e : ((l.take i).flatMap (·.2.1) ++ l[i].2.1.take (j + 1)).filter (fun t => decide (0 ≤ t)) = ((l.take i).flatMap (·.2.1) ++ l[i].2.1.take j).filter (fun t => decide (0 ≤ t)) ++ (if 0 ≤ l[i].2.1[j] then [l[i].2.1[j]] else []) := by
        rw [take_succ_snoc hj, ← List.append_assoc, List.filter_append]
        by_cases h : 0 ≤ l[i].2.1[j] <;> simp [h]
      rw [e] at hY
      have hb := List.length_filter_le (fun t => decide (0 ≤ t)) ((l.take i).flatMap (·.2.1) ++ l[i].2.1.take j)
      rw [List.length_append, List.length_take] at hb
      refine bc_dec (fun h => ⟨by simp only [maxL, List.length_cons, List.length_nil]; omega, ?_⟩) (fun h => ?_)
      · have h : 0 ≤ l[i].2.1[j] := h
        rw [if_pos h] at hY; exact hY
      · have h : ¬ 0 ≤ l[i].2.1[j] := h
        rw [if_neg h, List.append_nil] at hY; exact hY
    · intro Y
      refine bcN ?_
      simp only
      rw [List.take_length]
      have : ((l.take i).flatMap (·.2.1) ++ l[i].2.1).filter (fun t => decide (0 ≤ t)) = ((l.take (i + 1)).flatMap (·.2.1)).filter (fun t => decide (0 ≤ t)) := by
        rw [take_succ_snoc hi, List.flatMap_append]; simp
      rw [this]; exact hX
  · intro X
    refine bcN ⟨_, g_slices_Sort_int_ooz ?_, _, g_slices_Compact_int_ooz, ?_⟩
    · simp only [List.take_length]
      have := List.length_filter_le (fun t => decide (0 ≤ t)) (l.flatMap (·.2.1)); omega
    · simp only [List.take_length]
      rw [comp_sort]; rfl)
theorem vDep_no1 {l : List TRel} {d : TDep} (h : inR d.1.length 1 2 = false) : ((false, ()) : Bool × Unit) = (vDep l d, ()) := by unfold vDep; rw [h]; simp
theorem vDep_no2 {l : List TRel} {d : TDep} (h : d.1.all (vAtom l) = false) : ((false, ()) : Bool × Unit) = (vDep l d, ()) := by unfold vDep; rw [h]; simp
theorem g_sIsValidDependency {l : List TRel} {d : TDep} : G_sIsValidDependency l d (vDep l d) := M_sIsValidDependency _ _ _ (by
  unfold S_sIsValidDependency
  refine lenI fun hl => ⟨_, g_sl1In, bc_not (fun h => vDep_no1 h) (fun h1 => ?_)⟩
  refine loop_any d.1 (fun a => !vAtom l a) (fun i => ((i : Int), ())) (KT := ((false, ()) : Bool × Unit) = (vDep l d, ())) (KF := d.1.all (vAtom l) = true) ?_ ?_ ?_ ?_
  · intro i hi X q1 q2
    refine lenI fun _ => bcI hi (inI hi ⟨_, g_sIsValidAtom, ?_⟩)
    simp only
    rw [getI hi, w64_succ (by omega)]
    exact bc_if (fun h => q1 h) (fun h => q2 h)
  · intro X hall
    have hlen := inR_iff.mp h1
    have hal := atoms_len hall
    refine lenI fun _ => bcN (bc_if (fun he => ?_) (fun he => ?_))
    · have ev : vDep l d = (decide (d.2.1 = []) && decide (d.2.2.2.1 ∈ vars d.1) && decide (d.2.2.2.2.1 ∈ vars d.1) && decide (d.2.2.2.1 < d.2.2.2.2.1)) := by
        unfold vDep; rw [h1, hall, he]; simp
      rw [ev]
      refine ⟨_, g_sVariables (by omega), lenI fun _ => bc_beq (fun h => ⟨_, g_sl4Has, bc_dec (fun h2 => ⟨_, g_sl4Has, bc_dec (fun h3 => ?_) (fun h3 => ?_)⟩) (fun h2 => ?_)⟩) (fun h => ?_)⟩
      · have : d.2.1 = [] := List.length_eq_zero_iff.mp (by omega)
        simp [this, h2, h3]
      · simp [h3]
      · simp [h2]
      · have : d.2.1 ≠ [] := by intro e; rw [e] at h; simp at h
        simp [this]
    · have ev : vDep l d = (d.2.1.all (fun a => vAtom l a && !(srcAt l a.1)) && inR d.2.1.length 1 2 && (d.2.2.2.1 == 0) && (d.2.2.2.2.1 == 0)) := by
        unfold vDep; rw [h1, hall, he]; simp
      rw [ev]
      refine loop_any d.2.1 (fun a => !(vAtom l a && !(srcAt l a.1))) (fun i => ((i : Int), ())) (KT := d.2.1.all (fun a => vAtom l a && !(srcAt l a.1)) = false) (KF := d.2.1.all (fun a => vAtom l a && !(srcAt l a.1)) = true) ?_ ?_ ?_ ?_
      · intro i hi X q1 q2
        refine lenI fun _ => bcI hi (inI hi ⟨_, g_sIsValidAtom, ?_⟩)
        simp only
        rw [getI hi, w64_succ (by omega)]
        have no : d.2.1.all (fun a => vAtom l a && !(srcAt l a.1)) = false → ((false, ()) : Bool × Unit) = (d.2.1.all (fun a => vAtom l a && !(srcAt l a.1)) && inR d.2.1.length 1 2 && (d.2.2.2.1 == 0) && (d.2.2.2.2.1 == 0), ()) := fun h => by rw [h]; simp
        refine bc_not (fun h => no (q1 (by simp [h]))) (fun h => inI hi ⟨?_, bc_if (fun h' => no (q1 ?_)) (fun h' => q2 ?_)⟩)
        · have := vRow_spec h; exact ⟨this.2.1, this.2.2.1⟩
        · have : srcAt l d.2.1[i].1 = true := h'
          simp [this]
        · have : srcAt l d.2.1[i].1 = false := h'
          simp [this, h]
      · intro X hh
        refine lenI fun _ => bcN (lenI fun _ => ⟨_, g_sl1In, ?_⟩)
        rw [hh]
        refine bc_if (fun h2 => bc_beq (fun h3 => ?_) (fun h3 => ?_)) (fun h2 => ?_)
        · rw [h2, h3]; simp
        · have : (d.2.2.2.1 == 0) = false := by simpa using h3
          rw [this]; simp
        · rw [h2]; simp
      · intro h; rw [any_not] at h; exact nt h
      · intro h; rw [any_not] at h; exact nf h
  · intro h; rw [any_not] at h; exact vDep_no2 (nt h)
  · intro h; rw [any_not] at h; exact nf h)
theorem g_iareAtoms_1 {l : List TRel} {a : TFact} : G_iareAtoms_1 a l (!vAtom l a) := M_iareAtoms_1 _ _ _ (by unfold S_iareAtoms_1; exact ⟨_, g_iIsValidAtom, rfl⟩)
theorem g_iareAtoms {l : List TRel} {ats : List TFact} {n : Int} : G_iareAtoms l ats n (inR ats.length 1 n && ats.all (vAtom l)) := M_iareAtoms _ _ _ _ (by
  unfold S_iareAtoms
  refine lenI fun _ => ⟨_, g_iwithin, bc_if (fun h => ⟨_, g_slices_ContainsFunc_Atom_c_iareAtoms_1 (fun a => !vAtom l a) (fun _ _ => g_iareAtoms_1), ?_⟩) (fun h => ?_)⟩
  · rw [h, Bool.true_and, any_not]; simp
  · rw [h, Bool.false_and])
theorem g_iIsValidDependency_1 {l : List TRel} {a : TFact} (h0 : 0 ≤ a.1) (h1 : a.1 < l.length) : G_iIsValidDependency_1 a l (srcAt l a.1) := M_iIsValidDependency_1 _ _ _ (by unfold S_iIsValidDependency_1; exact ⟨⟨h0, h1⟩, rfl⟩)
theorem g_iIsValidDependency {l : List TRel} {d : TDep} : G_iIsValidDependency l d (vDep l d) := M_iIsValidDependency _ _ _ (by
  unfold S_iIsValidDependency
  refine ⟨_, g_iareAtoms, bc_not (fun h => ?_) (fun h => ?_)⟩
  · unfold vDep; rw [h]; simp
  · have h' := Bool.and_eq_true_iff.mp h
    have hlen := inR_iff.mp h'.1
    have hal := atoms_len h'.2
    refine bc_if (fun he => ?_) (fun he => ?_)
    · have ev : vDep l d = (decide (d.2.1 = []) && decide (d.2.2.2.1 ∈ vars d.1) && decide (d.2.2.2.2.1 ∈ vars d.1) && decide (d.2.2.2.1 < d.2.2.2.2.1)) := by
        unfold vDep; rw [h'.1, h'.2, he]; simp
      rw [ev]
      refine ⟨_, g_iVariables (by omega), lenI fun _ => bc_beq (fun h0 => bc_dec (fun h1 => ⟨_, g_slices_Contains_int, bc_dec (fun h2 => ⟨_, g_slices_Contains_int, ?_⟩) (fun h2 => ?_)⟩) (fun h1 => ?_)) (fun h0 => ?_)⟩
      · have : d.2.1 = [] := List.length_eq_zero_iff.mp (by omega)
        simp [this, h1, h2]
      · simp [h2]
      · simp [h1]
      · have : d.2.1 ≠ [] := by intro e; rw [e] at h0; simp at h0
        simp [this]
    · have ev : vDep l d = (d.2.1.all (fun a => vAtom l a && !(srcAt l a.1)) && inR d.2.1.length 1 2 && (d.2.2.2.1 == 0) && (d.2.2.2.2.1 == 0)) := by
        unfold vDep; rw [h'.1, h'.2, he]; simp
      rw [ev]
      have hand : d.2.1.all (fun a => vAtom l a && !(srcAt l a.1)) = (d.2.1.all (vAtom l) && d.2.1.all fun a => !(srcAt l a.1)) := by
        generalize d.2.1 = m
        induction m with
        | nil => rfl
        | cons a m ih => simp only [List.all_cons, ih]; cases vAtom l a <;> cases srcAt l a.1 <;> simp
      rw [hand]
      refine ⟨_, g_iareAtoms, bc_if (fun h1 => bc_beq (fun h2 => bc_beq (fun h3 => ?_) (fun h3 => ?_)) (fun h2 => ?_)) (fun h1 => ?_)⟩
      · have h1 := Bool.and_eq_true_iff.mp h1
        refine ⟨_, g_slices_ContainsFunc_Atom_c_iIsValidDependency_1 (fun a => srcAt l a.1) (fun a ha => ?_), ?_⟩
        · have := vRow_spec (List.all_eq_true.mp h1.2 a ha)
          exact g_iIsValidDependency_1 this.2.1 this.2.2.1
        · rw [h1.1, h1.2, h2, h3, List.not_any_eq_all_not]; simp
      · have : (d.2.2.2.2.1 == 0) = false := by simpa using h3
        rw [this]; simp
      · have : (d.2.2.2.1 == 0) = false := by simpa using h2
        rw [this]; simp
      · rcases Bool.and_eq_false_iff.mp h1 with h1 | h1 <;> rw [h1] <;> simp)
theorem g_sAreValidDependencies {l : List TRel} {ds : List TDep} : G_sAreValidDependencies l ds (vDeps l ds) := M_sAreValidDependencies _ _ _ (by
  unfold S_sAreValidDependencies
  refine loop_any ds (fun d => !vDep l d) (fun i => ((i : Int), ())) (KT := ds.all (vDep l) = false) (KF := ds.all (vDep l) = true) ?_ ?_ ?_ ?_
  · intro i hi X q1 q2
    refine lenI fun _ => bcI hi (inI hi ⟨_, g_sIsValidDependency, ?_⟩)
    simp only
    rw [getI hi, w64_succ (by omega)]
    exact bc_if (fun h => by unfold vDeps; rw [q1 h]; simp) (fun h => q2 h)
  · intro X h
    refine lenI fun _ => bcN ⟨_, g_sAreValidRelations, bc_if (fun h1 => lenI fun _ => ?_) (fun h1 => ?_)⟩
    · unfold vDeps; rw [h, h1]
      have : decide ((ds.length : Int) ≤ 5) = decide (ds.length ≤ 5) := decide_eq_decide.mpr (by omega)
      rw [this]; simp
    · unfold vDeps; rw [h1]; simp
  · intro h; rw [any_not] at h; exact nt h
  · intro h; rw [any_not] at h; exact nf h)
theorem g_iAreValidDependencies_1 {l : List TRel} {d : TDep} : G_iAreValidDependencies_1 d l (!vDep l d) := M_iAreValidDependencies_1 _ _ _ (by unfold S_iAreValidDependencies_1; exact ⟨_, g_iIsValidDependency, rfl⟩)
theorem g_iAreValidDependencies {l : List TRel} {ds : List TDep} : G_iAreValidDependencies l ds (vDeps l ds) := M_iAreValidDependencies _ _ _ (by
  unfold S_iAreValidDependencies
  refine ⟨_, g_iAreValidRelations, bc_if (fun h1 => lenI fun _ => bc_dec (fun h2 => ⟨_, g_slices_ContainsFunc_Dependency_c_iAreValidDependencies_1 (fun d => !vDep l d) (fun _ _ => g_iAreValidDependencies_1), ?_⟩) (fun h2 => ?_)) (fun h1 => ?_)⟩
  · have : decide (ds.length ≤ 5) = true := decide_eq_true (by omega)
    unfold vDeps; rw [h1, this, any_not]; simp
  · have : decide (ds.length ≤ 5) = false := decide_eq_false (by omega)
    unfold vDeps; rw [this]; simp
  · unfold vDeps; rw [h1]; simp)
theorem g_sExistentialVariables {d : TDep} (h1 : (d.1.flatMap (·.2.1)).length ≤ 1073741824) (h2 : (d.2.1.flatMap (·.2.1)).length ≤ 1073741824) : G_sExistentialVariables d (exV d) := M_sExistentialVariables _ _ (by
  unfold S_sExistentialVariables
  have hv := vars_len d.2.1
  refine ⟨_, g_sVariables h1, _, g_sVariables h2, ?_⟩
  refine loopP_of (vars d.2.1).length (fun i => ((i : Int), (((vars d.2.1).take i).filter (fun v => !decide (v ∈ vars d.1)), ()))) (by simp) ?_ ?_
  · intro i hi X hX
    refine lenI fun _ => bcI hi (inI hi ⟨_, g_sl4Has, ?_⟩)
    simp only
    rw [getI hi, w64_succ (by omega)]
    have e : ((vars d.2.1).take (i + 1)).filter (fun v => !decide (v ∈ vars d.1)) = ((vars d.2.1).take i).filter (fun v => !decide (v ∈ vars d.1)) ++ (if (vars d.2.1)[i] ∈ vars d.1 then [] else [(vars d.2.1)[i]]) := by
      rw [take_succ_snoc hi, List.filter_append]
      by_cases h : (vars d.2.1)[i] ∈ vars d.1 <;> simp [h]
    rw [e] at hX
    have hb := List.length_filter_le (fun v => !decide (v ∈ vars d.1)) ((vars d.2.1).take i)
    rw [List.length_take] at hb
    refine bc_if (fun h => inI hi ⟨by simp only [maxL, List.length_cons, List.length_nil]; omega, ?_⟩) (fun h => ?_)
    · have h : ¬ (vars d.2.1)[i] ∈ vars d.1 := by simpa using h
      rw [if_neg h] at hX; exact hX
    · have h : (vars d.2.1)[i] ∈ vars d.1 := by simpa using h
      rw [if_pos h, List.append_nil] at hX; exact hX
  · intro X
    refine lenI fun _ => bcN ?_
    simp only [List.take_length]
    rfl)
def hdV (d : TDep) (b : Bool) : List Int := (vars d.2.1).filter fun v => decide (v ∈ vars d.1) == b
theorem g_iheadVariables {d : TDep} {b : Bool} (h1 : (d.1.flatMap (·.2.1)).length ≤ 1073741824) (h2 : (d.2.1.flatMap (·.2.1)).length ≤ 1073741824) : G_iheadVariables d b (hdV d b) := M_iheadVariables _ _ _ (by
  unfold S_iheadVariables
  have hv := vars_len d.2.1
  refine ⟨_, g_iVariables h1, _, g_iVariables h2, lenI fun _ => ?_⟩
  refine loopP_of (vars d.2.1).length (fun i => ((i : Int), (((vars d.2.1).take i).filter (fun v => decide (v ∈ vars d.1) == b), ()))) (by simp) ?_ ?_
  · intro i hi X hX
    refine bcI hi (inI hi ⟨_, g_slices_Contains_int, ?_⟩)
    simp only
    rw [getI hi, w64_succ (by omega)]
    have e : ((vars d.2.1).take (i + 1)).filter (fun v => decide (v ∈ vars d.1) == b) = ((vars d.2.1).take i).filter (fun v => decide (v ∈ vars d.1) == b) ++ (if (decide ((vars d.2.1)[i] ∈ vars d.1) == b) = true then [(vars d.2.1)[i]] else []) := by
      rw [take_succ_snoc hi, List.filter_append]
      cases h : (decide ((vars d.2.1)[i] ∈ vars d.1) == b) <;> simp [h]
    rw [e] at hX
    have hb := List.length_filter_le (fun v => decide (v ∈ vars d.1) == b) ((vars d.2.1).take i)
    rw [List.length_take] at hb
    refine bc_if (fun h => ⟨by simp only [maxL, List.length_cons, List.length_nil]; omega, ?_⟩) (fun h => ?_)
    · rw [if_pos h] at hX; exact hX
    · rw [if_neg (by rw [h]; simp), List.append_nil] at hX; exact hX
  · intro X
    refine bcN ?_
    simp only [List.take_length]
    rfl)
theorem hdV_false (d : TDep) : hdV d false = exV d := by unfold hdV exV; congr 1; funext v; by_cases h : v ∈ vars d.1 <;> simp [h]
theorem hdV_true (d : TDep) : hdV d true = frV d := by unfold hdV frV; congr 1; funext v; by_cases h : v ∈ vars d.1 <;> simp [h]
theorem g_iExistentialVariables {d : TDep} (h1 : (d.1.flatMap (·.2.1)).length ≤ 1073741824) (h2 : (d.2.1.flatMap (·.2.1)).length ≤ 1073741824) : G_iExistentialVariables d (exV d) := M_iExistentialVariables _ _ (by
  unfold S_iExistentialVariables
  exact ⟨_, g_iheadVariables h1 h2, by rw [hdV_false]⟩)
theorem full_eq (d : TDep) (h : d.2.2.1 = false) : ((exV d).length == (0 : Nat)) = full d := by unfold full; rw [h]; cases exV d <;> simp
theorem g_sIsFull {d : TDep} (h1 : (d.1.flatMap (·.2.1)).length ≤ 1073741824) (h2 : (d.2.1.flatMap (·.2.1)).length ≤ 1073741824) : G_sIsFull d (full d) := M_sIsFull _ _ (by
  unfold S_sIsFull
  refine bc_not (fun h => ⟨_, g_sExistentialVariables h1 h2, lenI fun _ => ?_⟩) (fun h => ?_)
  · rw [← full_eq d h]
    congr 1
    cases exV d <;> simp <;> omega
  · unfold full; rw [h]; rfl)
theorem g_iIsFull {d : TDep} (h1 : (d.1.flatMap (·.2.1)).length ≤ 1073741824) (h2 : (d.2.1.flatMap (·.2.1)).length ≤ 1073741824) : G_iIsFull d (full d) := M_iIsFull _ _ (by
  unfold S_iIsFull
  refine bc_not (fun h => ⟨_, g_iExistentialVariables h1 h2, lenI fun _ => ?_⟩) (fun h => ?_)
  · rw [← full_eq d h]
    congr 1
    cases exV d <;> simp <;> omega
  · unfold full; rw [h]; rfl)
theorem flat_bulk (l : List TFact) : (l.flatMap (·.2.1)).length ≤ bulk (.sl 0 (.pair (.int .i64) (.pair (.sl 0 (.int .i64)) .unit))) l := by
  show _ ≤ l.length + (l.map (bulk (.pair (.int .i64) (.pair (.sl 0 (.int .i64)) .unit)))).sum
  induction l with
  | nil => simp
  | cons a l ih =>
    show (a.2.1 ++ l.flatMap (·.2.1)).length ≤ (l.length + 1) + (bulk (.pair (.int .i64) (.pair (.sl 0 (.int .i64)) .unit)) a + (l.map (bulk (.pair (.int .i64) (.pair (.sl 0 (.int .i64)) .unit)))).sum)
    rw [List.length_append]
    have : a.2.1.length ≤ bulk (.pair (.int .i64) (.pair (.sl 0 (.int .i64)) .unit)) a := by
      show a.2.1.length ≤ 0 + ((a.2.1.length + _) + 0)
      omega
    omega
theorem dep_small {d : TDep} (h : bulk (.pair (.sl 0 (.pair (.int .i64) (.pair (.sl 0 (.int .i64)) .unit))) (.pair (.sl 0 (.pair (.int .i64) (.pair (.sl 0 (.int .i64)) .unit))) (.pair .bool (.pair (.int .i64) (.pair (.int .i64) .unit))))) d ≤ 1048576) :
    (d.1.flatMap (·.2.1)).length ≤ 1073741824 ∧ (d.2.1.flatMap (·.2.1)).length ≤ 1073741824 := by
  have h1 := flat_bulk d.1
  have h2 := flat_bulk d.2.1
  have h : bulk (.sl 0 (.pair (.int .i64) (.pair (.sl 0 (.int .i64)) .unit))) d.1 + (bulk (.sl 0 (.pair (.int .i64) (.pair (.sl 0 (.int .i64)) .unit))) d.2.1 + _) ≤ 1048576 := h
  omega
/-- a valid dependency is small -/
theorem vDep_spec {l : List TRel} {d : TDep} (h : vDep l d = true) : 1 ≤ d.1.length ∧ d.1.length ≤ 2 ∧ (∀ a ∈ d.1, vAtom l a = true) ∧ d.2.1.length ≤ 2 ∧ (∀ a ∈ d.2.1, vAtom l a = true) ∧ (d.1.flatMap (·.2.1)).length ≤ 6 ∧ (d.2.1.flatMap (·.2.1)).length ≤ 6 := by
  unfold vDep at h
  rw [Bool.and_eq_true, Bool.and_eq_true] at h
  obtain ⟨⟨h1, h2⟩, h3⟩ := h
  have h1 := inR_iff.mp h1
  have l1 := atoms_len h2
  cases he : d.2.2.1 with
  | true =>
    rw [if_pos he] at h3
    simp only [Bool.and_eq_true, decide_eq_true_eq] at h3
    have := h3.1.1.1
    exact ⟨by omega, by omega, List.all_eq_true.mp h2, by simp [this], by simp [this], by omega, by simp [this]⟩
  | false =>
    rw [if_neg (by simp [he])] at h3
    simp only [Bool.and_eq_true] at h3
    have hr := inR_iff.mp h3.1.1.2
    have h4 : d.2.1.all (vAtom l) = true := List.all_eq_true.mpr fun a ha => by
      have := List.all_eq_true.mp h3.1.1.1 a ha
      rw [Bool.and_eq_true] at this; exact this.1
    have l2 := atoms_len h4
    exact ⟨by omega, by omega, List.all_eq_true.mp h2, by omega, List.all_eq_true.mp h4, by omega, by omega⟩
theorem vDeps_mem {l : List TRel} {ds : List TDep} (h : vDeps l ds = true) {d : TDep} (hd : d ∈ ds) : vDep l d = true := by
  unfold vDeps at h
  rw [Bool.and_eq_true, Bool.and_eq_true] at h
  exact List.all_eq_true.mp h.1.1 d hd
theorem vDeps_len {l : List TRel} {ds : List TDep} (h : vDeps l ds = true) : ds.length ≤ 5 := by
  unfold vDeps at h; simp at h; exact h.2
theorem vDeps_rels {l : List TRel} {ds : List TDep} (h : vDeps l ds = true) : vRels l = true := by
  unfold vDeps at h
  rw [Bool.and_eq_true, Bool.and_eq_true] at h
  exact h.1.2
def headRel (d : TDep) : Int := (d.2.1.getD 0 zFact).1
def bodyRel (d : TDep) : Int := (d.1.getD 0 zFact).1
def defOk (l : List TRel) (d : TDep) : Bool := d.1.all (fun a => srcAt l a.1) && full d && (d.2.1.length == 1)
def useOk (l : List TRel) (d : TDep) : Bool := (d.1.length == 1) && !d.2.2.1 && !(srcAt l (bodyRel d))
def closedR (defs rs : List TDep) : List Int := defs.map headRel ++ rs.map bodyRel
def canU (l : List TRel) (defs rs : List TDep) : Bool := vDeps l defs && vDeps l rs && defs.all (defOk l) && rs.all (useOk l) && rs.all (fun r => r.2.1.all fun a => !decide (a.1 ∈ closedR defs rs))
theorem canU_def {l : List TRel} {defs rs : List TDep} {d : TDep} (hd : d ∈ defs) (h : defOk l d = false) : canU l defs rs = false := by
  unfold canU
  have : defs.all (defOk l) = false := by
    rw [Bool.eq_false_iff]; intro hall
    have := List.all_eq_true.mp hall d hd; rw [h] at this; cases this
  rw [this]; simp
theorem canU_use {l : List TRel} {defs rs : List TDep} {d : TDep} (hd : d ∈ rs) (h : useOk l d = false) : canU l defs rs = false := by
  unfold canU
  have : rs.all (useOk l) = false := by
    rw [Bool.eq_false_iff]; intro hall
    have := List.all_eq_true.mp hall d hd; rw [h] at this; cases this
  rw [this]; simp
theorem canU_head {l : List TRel} {defs rs : List TDep} {d : TDep} {a : TFact} (hd : d ∈ rs) (ha : a ∈ d.2.1) (h : a.1 ∈ closedR defs rs) : canU l defs rs = false := by
  unfold canU
  have : rs.all (fun r => r.2.1.all fun a => !decide (a.1 ∈ closedR defs rs)) = false := by
    rw [Bool.eq_false_iff]; intro hall
    have := List.all_eq_true.mp (List.all_eq_true.mp hall d hd) a ha
    simp [h] at this
  rw [this]; simp
theorem canU_yes {l : List TRel} {defs rs : List TDep} (h1 : vDeps l defs = true) (h2 : vDeps l rs = true) (h3 : ∀ d ∈ defs, defOk l d = true) (h4 : ∀ d ∈ rs, useOk l d = true) (h5 : ∀ d ∈ rs, ∀ a ∈ d.2.1, a.1 ∉ closedR defs rs) : canU l defs rs = true := by
  unfold canU
  rw [h1, h2, List.all_eq_true.mpr h3, List.all_eq_true.mpr h4]
  simp only [Bool.true_and]
  exact List.all_eq_true.mpr fun d hd => List.all_eq_true.mpr fun a ha => by simp [h5 d hd a ha]
theorem g_sCanUnfold {l : List TRel} {defs rs : List TDep} : G_sCanUnfold l defs rs (canU l defs rs) := M_sCanUnfold _ _ _ _ (by
  unfold S_sCanUnfold
  have no : canU l defs rs = false → ((false, ()) : Bool × Unit) = (canU l defs rs, ()) := fun h => by rw [h]
  refine ⟨_, g_sAreValidDependencies, bc_not (fun h => no (by unfold canU; rw [h]; simp)) (fun v1 => ⟨_, g_sAreValidDependencies, bc_not (fun h => no (by unfold canU; rw [h]; simp)) (fun v2 => ?_)⟩)⟩
  refine loop_any defs (fun d => !defOk l d) (fun i => ((i : Int), ())) (KT := canU l defs rs = false) (KF := ∀ d ∈ defs, defOk l d = true) ?_ ?_ ?_ ?_
  · intro i hi X q1 q2
    have hv := vDep_spec (vDeps_mem v1 (List.getElem_mem hi))
    have hf : defOk l defs[i] = false → ((false, ()) : Bool × Unit) = (canU l defs rs, ()) := fun h => no (canU_def (List.getElem_mem hi) h)
    refine lenI fun hl => bcI hi ?_
    simp only
    rw [getI hi]
    refine loop_any defs[i].1 (fun a => !(srcAt l a.1)) (fun k => ((k : Int), ())) (KT := defOk l defs[i] = false) (KF := defs[i].1.all (fun a => srcAt l a.1) = true) ?_ ?_ ?_ ?_
    · intro k hk Y r1 r2
      refine inI hi (lenI fun _ => bcI hk (inI hi (inI hk ?_)))
      simp only
      rw [getI hk, w64_succ (by omega)]
      have hva := vRow_spec (hv.2.2.1 _ (List.getElem_mem hk))
      exact ⟨⟨hva.2.1, hva.2.2.1⟩, bc_if (fun h => hf (r1 h)) (fun h => r2 h)⟩
    · intro Y hall
      refine inI hi (lenI fun _ => bcN (inI hi ⟨_, g_sIsFull (by omega) (by omega), bc_not (fun h => hf (by unfold defOk; rw [h]; simp)) (fun hfu => inI hi (lenI fun _ => bc_ne (fun h => hf ?_) (fun h => ?_)))⟩))
      · have : (defs[i].2.1.length == 1) = false := by simp; omega
        unfold defOk; rw [this]; simp
      · rw [w64_succ (by omega)]
        refine q2 ?_
        have : (defs[i].2.1.length == 1) = true := by simp; omega
        unfold defOk; rw [hall, hfu, this]; rfl
    · intro h; rw [any_not] at h; unfold defOk; rw [nt h]; simp
    · intro h; rw [any_not] at h; exact nf h
  · intro X hdef
    refine lenI fun hl => bcN ?_
    refine loop_any rs (fun r => !(useOk l r && r.2.1.all fun a => !decide (a.1 ∈ closedR defs rs))) (fun i => ((i : Int), ())) (KT := canU l defs rs = false) (KF := canU l defs rs = true) ?_ ?_ ?_ ?_
    · intro i hi X q1 q2
      have hv := vDep_spec (vDeps_mem v2 (List.getElem_mem hi))
      have hf : useOk l rs[i] = false → ((false, ()) : Bool × Unit) = (canU l defs rs, ()) := fun h => no (canU_use (List.getElem_mem hi) h)
      refine lenI fun hl2 => bcI hi (inI hi (lenI fun _ => ?_))
      simp only
      rw [getI hi]
      refine bc_ne (fun h => hf ?_) (fun h1 => inI hi (bc_if (fun h => hf (by unfold useOk; rw [h]; simp)) (fun h2 => inI hi ?_)))
      · have : (rs[i].1.length == 1) = false := by simp; omega
        unfold useOk; rw [this]; simp
      · have hl1 : rs[i].1.length = 1 := by omega
        have hb : bodyRel rs[i] = (rs[i].1[0]'(by omega)).1 := by unfold bodyRel; rw [getD_at (by omega)]
        have hva := vRow_spec (hv.2.2.1 _ (List.getElem_mem (show 0 < rs[i].1.length by omega)))
        have hz : (rs[i].1.getD (Int.toNat (0 : Int)) zFact) = rs[i].1[0]'(by omega) := getI (i := 0) (by omega)
        rw [hz]
        refine ⟨⟨by omega, by omega⟩, ⟨hva.2.1, hva.2.2.1⟩, bc_if (fun h => hf (by unfold useOk srcAt; rw [hb, h]; simp)) (fun h3 => ?_)⟩
        have huse : useOk l rs[i] = true := by
          have : (rs[i].1.length == 1) = true := by simp; omega
          unfold useOk; rw [this, h2]; unfold srcAt; rw [hb, h3]; rfl
        have hhd : ∀ {k : Nat} (hk : k < rs[i].2.1.length), (rs[i].2.1[k]).1 ∈ closedR defs rs → ((false, ()) : Bool × Unit) = (canU l defs rs, ()) := fun hk h => no (canU_head (List.getElem_mem hi) (List.getElem_mem hk) h)
        refine loop_any rs[i].2.1 (fun a => decide (a.1 ∈ closedR defs rs)) (fun k => ((k : Int), ())) (KT := True) (KF := X (((i + 1 : Nat) : Int), ())) ?_ ?_ (fun _ => trivial) ?_
        · intro k hk Y r1 r2
          refine inI hi (lenI fun _ => bcI hk ?_)
          simp only
          rw [getI hk]
          refine loop_any defs (fun d => headRel d == (rs[i].2.1[k]).1) (fun j => ((j : Int), ())) (KT := (rs[i].2.1[k]).1 ∈ closedR defs rs) (KF := (rs[i].2.1[k]).1 ∉ defs.map headRel) ?_ ?_ ?_ ?_
          · intro j hj Z t1 t2
            have hdj := hdef _ (List.getElem_mem hj)
            have hlj : defs[j].2.1.length = 1 := by unfold defOk at hdj; simp at hdj; exact hdj.2
            have hzj : (defs[j].2.1.getD (Int.toNat (0 : Int)) zFact) = defs[j].2.1.getD 0 zFact := rfl
            refine lenI fun _ => bcI hj (inI hj (inI hi ⟨⟨by omega, by rw [getI hj]; omega⟩, inI hk ?_⟩))
            simp only
            rw [getI hj, w64_succ (by omega)]
            exact bc_if (fun h => hhd hk (t1 h)) (fun h => t2 h)
          · intro Z hnot
            refine lenI fun _ => bcN ?_
            refine loop_any rs (fun d => bodyRel d == (rs[i].2.1[k]).1) (fun j => ((j : Int), ())) (KT := (rs[i].2.1[k]).1 ∈ closedR defs rs) (KF := (rs[i].2.1[k]).1 ∉ rs.map bodyRel) ?_ ?_ ?_ ?_
            · intro j hj Z t1 t2
              have hvj := vDep_spec (vDeps_mem v2 (List.getElem_mem hj))
              refine lenI fun _ => bcI hj (inI hj (lenI fun _ => ?_))
              simp only
              rw [getI hj, w64_succ (by omega)]
              refine bc_dec (fun h => inI hj (inI hi ⟨⟨by omega, by omega⟩, inI hk (bc_if (fun h => hhd hk (t1 h)) (fun h => t2 h))⟩)) (fun h => by omega)
            · intro Z hnot2
              refine lenI fun _ => bcN ?_
              rw [w64_succ (by omega)]
              refine r2 (decide_eq_false ?_)
              unfold closedR
              rw [List.mem_append]
              rintro (h | h)
              · exact hnot h
              · exact hnot2 h
            · intro h
              obtain ⟨d, hd, he⟩ := List.any_eq_true.mp h
              unfold closedR; rw [List.mem_append]; right
              exact List.mem_map.mpr ⟨d, hd, by simpa using he⟩
            · intro h hm
              obtain ⟨d, hd, he⟩ := List.mem_map.mp hm
              have : rs.any (fun d => bodyRel d == (rs[i].2.1[k]).1) = true := List.any_eq_true.mpr ⟨d, hd, by simpa using he⟩
              rw [h] at this; cases this
          · intro h
            obtain ⟨d, hd, he⟩ := List.any_eq_true.mp h
            unfold closedR; rw [List.mem_append]; left
            exact List.mem_map.mpr ⟨d, hd, by simpa using he⟩
          · intro h hm
            obtain ⟨d, hd, he⟩ := List.mem_map.mp hm
            have : defs.any (fun d => headRel d == (rs[i].2.1[k]).1) = true := List.any_eq_true.mpr ⟨d, hd, by simpa using he⟩
            rw [h] at this; cases this
        · intro Y h
          refine inI hi (lenI fun _ => bcN ?_)
          rw [w64_succ (by omega)]
          exact h
        · intro h
          refine q2 ?_
          have : (rs[i].2.1.all fun a => !decide (a.1 ∈ closedR defs rs)) = true := by
            have h' := any_not (p := fun a : TFact => !decide (a.1 ∈ closedR defs rs)) (l := rs[i].2.1)
            simp only [Bool.not_not] at h'
            rw [h'] at h; exact nf h
          rw [huse, this]; rfl
    · intro X h
      refine lenI fun _ => bcN ?_
      rw [h]
    · intro h
      rw [any_not] at h
      have h := nt h
      rw [Bool.eq_false_iff]; intro hc
      unfold canU at hc
      simp only [Bool.and_eq_true] at hc
      have : (rs.all fun r => useOk l r && r.2.1.all fun a => !decide (a.1 ∈ closedR defs rs)) = true := List.all_eq_true.mpr fun r hr => by
        rw [List.all_eq_true.mp hc.1.2 r hr, List.all_eq_true.mp hc.2 r hr]; rfl
      rw [this] at h; cases h
    · intro h
      rw [any_not] at h
      have h := List.all_eq_true.mp (nf h)
      refine canU_yes v1 v2 hdef (fun d hd => (Bool.and_eq_true_iff.mp (h d hd)).1) (fun d hd a ha => ?_)
      have := List.all_eq_true.mp (Bool.and_eq_true_iff.mp (h d hd)).2 a ha
      simpa using this
  · intro h
    rw [any_not] at h
    obtain ⟨d, hd, he⟩ : ∃ d ∈ defs, defOk l d = false := by
      have := nt h
      simp only [List.all_eq_false, Bool.not_eq_true] at this
      exact this
    exact canU_def hd he
  · intro h; rw [any_not] at h; exact List.all_eq_true.mp (nf h))
theorem g_iCanUnfold_1 {l : List TRel} {a : TFact} (h0 : 0 ≤ a.1) (h1 : a.1 < l.length) : G_iCanUnfold_1 a l (!srcAt l a.1) := M_iCanUnfold_1 _ _ _ (by unfold S_iCanUnfold_1; exact ⟨⟨h0, h1⟩, rfl⟩)
theorem g_iCanUnfold_2 {m : List Int} {a : TFact} : G_iCanUnfold_2 a m (decide (a.1 ∈ m)) := M_iCanUnfold_2 _ _ _ (by unfold S_iCanUnfold_2; exact ⟨_, g_slices_Contains_int, rfl⟩)
theorem g_iCanUnfold {l : List TRel} {defs rs : List TDep} : G_iCanUnfold l defs rs (canU l defs rs) := M_iCanUnfold _ _ _ _ (by
  unfold S_iCanUnfold
  have no : canU l defs rs = false → ((false, ()) : Bool × Unit) = (canU l defs rs, ()) := fun h => by rw [h]
  refine ⟨_, g_iAreValidDependencies, bc_not (fun h => no (by unfold canU; rw [h]; simp)) (fun v1 => ⟨_, g_iAreValidDependencies, bc_not (fun h => no (by unfold canU; rw [h]; simp)) (fun v2 => lenI fun hl => ?_)⟩)⟩
  have hl1 := vDeps_len v1
  have hl2 := vDeps_len v2
  refine loopP_down (fun k a => ∃ i : Nat, i + k = defs.length ∧ a = ((i : Int), ((defs.take i).map headRel, ())) ∧ ∀ d ∈ defs.take i, defOk l d = true) ?_ ?_ (n := defs.length) ⟨0, by omega, rfl, by simp⟩
  · rintro a ⟨i, hi, rfl, hdef⟩ X
    obtain rfl : i = defs.length := by omega
    rw [List.take_length] at hdef
    refine bcN (lenI fun _ => ?_)
    simp only [List.take_length]
    refine loopP_down (fun k a => ∃ i : Nat, i + k = rs.length ∧ a = ((i : Int), (defs.map headRel ++ (rs.take i).map bodyRel, ())) ∧ ∀ d ∈ rs.take i, useOk l d = true) ?_ ?_ (n := rs.length) ⟨0, by omega, by simp, by simp⟩
    · rintro a ⟨i, hi, rfl, huse⟩ X
      obtain rfl : i = rs.length := by omega
      rw [List.take_length] at huse
      refine bcN (lenI fun _ => ?_)
      simp only [List.take_length]
      refine loop_any rs (fun r => r.2.1.any fun a => decide (a.1 ∈ closedR defs rs)) (fun i => ((i : Int), ())) (KT := canU l defs rs = false) (KF := canU l defs rs = true) ?_ ?_ ?_ ?_
      · intro i hi X q1 q2
        refine bcI hi (inI hi ⟨_, g_slices_ContainsFunc_Atom_c_iCanUnfold_2 (fun a => decide (a.1 ∈ closedR defs rs)) (fun _ _ => g_iCanUnfold_2), ?_⟩)
        simp only
        rw [getI hi, w64_succ (by omega)]
        exact bc_if (fun h => no (q1 h)) (fun h => q2 h)
      · intro X h; refine bcN ?_; rw [h]
      · intro h
        obtain ⟨d, hd, he⟩ := List.any_eq_true.mp h
        obtain ⟨a, ha, he⟩ := List.any_eq_true.mp he
        exact canU_head hd ha (by simpa using he)
      · intro h
        refine canU_yes v1 v2 hdef huse fun d hd a ha hm => ?_
        have : (rs.any fun r => r.2.1.any fun a => decide (a.1 ∈ closedR defs rs)) = true := List.any_eq_true.mpr ⟨d, hd, List.any_eq_true.mpr ⟨a, ha, by simpa using hm⟩⟩
        rw [h] at this; cases this
    · rintro k a ⟨i, hi, rfl, huse⟩ X hX
      have hlt : i < rs.length := by omega
      have hv := vDep_spec (vDeps_mem v2 (List.getElem_mem hlt))
      have hf : useOk l rs[i] = false → ((false, ()) : Bool × Unit) = (canU l defs rs, ()) := fun h => no (canU_use (List.getElem_mem hlt) h)
      refine bcI hlt (inI hlt ?_)
      simp only
      rw [getI hlt, w64_succ (by omega)]
      refine bc_if (fun h => hf (by unfold useOk; rw [h]; simp)) (fun h2 => lenI fun _ => bc_ne (fun h => hf ?_) (fun h1 => ?_))
      · have : (rs[i].1.length == 1) = false := by simp; omega
        unfold useOk; rw [this]; simp
      · have hl1 : rs[i].1.length = 1 := by omega
        have hb : bodyRel rs[i] = (rs[i].1[0]'(by omega)).1 := by unfold bodyRel; rw [getD_at (by omega)]
        have hva := vRow_spec (hv.2.2.1 _ (List.getElem_mem (show 0 < rs[i].1.length by omega)))
        have hz : (rs[i].1.getD (Int.toNat (0 : Int)) zFact) = rs[i].1[0]'(by omega) := getI (i := 0) (by omega)
        rw [hz]
        refine ⟨⟨by omega, by omega⟩, ⟨hva.2.1, hva.2.2.1⟩, bc_if (fun h => hf (by unfold useOk srcAt; rw [hb, h]; simp)) (fun h3 => ⟨⟨by omega, by omega⟩, ?_, ?_⟩)⟩
        · simp only [maxL, List.length_append, List.length_map, List.length_take, List.length_cons, List.length_nil]; omega
        have huse' : useOk l rs[i] = true := by
          have : (rs[i].1.length == 1) = true := by simp; omega
          unfold useOk; rw [this, h2]; unfold srcAt; rw [hb, h3]; rfl
        refine hX _ ⟨i + 1, by omega, ?_, fun d hd => ?_⟩
        · rw [take_succ_snoc hlt, List.map_append, ← hb]; simp
        · rw [take_succ_snoc hlt] at hd
          rcases List.mem_append.mp hd with hd | hd
          · exact huse d hd
          · obtain rfl := List.mem_singleton.mp hd; exact huse'
  · rintro k a ⟨i, hi, rfl, hdef⟩ X hX
    have hlt : i < defs.length := by omega
    have hv := vDep_spec (vDeps_mem v1 (List.getElem_mem hlt))
    have hf : defOk l defs[i] = false → ((false, ()) : Bool × Unit) = (canU l defs rs, ()) := fun h => no (canU_def (List.getElem_mem hlt) h)
    refine bcI hlt (inI hlt ⟨_, g_iIsFull (by simp only; rw [getI hlt]; omega) (by simp only; rw [getI hlt]; omega), ?_⟩)
    simp only
    rw [getI hlt, w64_succ (by omega)]
    refine bc_not (fun h => hf (by unfold defOk; rw [h]; simp)) (fun hfu => lenI fun _ => bc_ne (fun h => hf ?_) (fun h1 => ?_))
    · have : (defs[i].2.1.length == 1) = false := by simp; omega
      unfold defOk; rw [this]; simp
    · have hl1 : defs[i].2.1.length = 1 := by omega
      have hb : headRel defs[i] = (defs[i].2.1[0]'(by omega)).1 := by unfold headRel; rw [getD_at (by omega)]
      have hz : (defs[i].2.1.getD (Int.toNat (0 : Int)) zFact) = defs[i].2.1[0]'(by omega) := getI (i := 0) (by omega)
      refine ⟨_, g_slices_ContainsFunc_Atom_c_iCanUnfold_1 (fun a => !srcAt l a.1) (fun a ha => ?_), bc_if (fun h => hf ?_) (fun h => ⟨⟨by omega, by omega⟩, ?_, ?_⟩)⟩
      · have := vRow_spec (hv.2.2.1 a ha); exact g_iCanUnfold_1 this.2.1 this.2.2.1
      · rw [any_not] at h; unfold defOk; rw [nt h]; simp
      · simp only [maxL, List.length_append, List.length_map, List.length_take, List.length_cons, List.length_nil]; omega
      · have hdef' : defOk l defs[i] = true := by
          have : (defs[i].2.1.length == 1) = true := by simp; omega
          rw [any_not] at h; unfold defOk; rw [nf h, hfu, this]; rfl
        rw [hz]
        refine hX _ ⟨i + 1, by omega, ?_, fun d hd => ?_⟩
        · rw [take_succ_snoc hlt, List.map_append, ← hb]; simp
        · rw [take_succ_snoc hlt] at hd
          rcases List.mem_append.mp hd with hd | hd
          · exact hdef d hd
          · obtain rfl := List.mem_singleton.mp hd; exact hdef')
theorem law {x0 : List TRel} {x1 : List TDep} {x2 : List TDep} (_ : Bnd (h9) x0) (_ : Bnd (h25) x1) (_ : Bnd (h25) x2) : G_lFnExactCanUnfold x0 x1 x2 true := M_lFnExactCanUnfold _ _ _ _ (by
  unfold S_lFnExactCanUnfold
  refine ⟨_, g_lszRelationS (by omega) (by omega), bc_fits (by omega) (fun _ => rfl) fun h1 => ?_⟩
  try rw [fits_of_ge h1]
  have hB0 : bulk k3 x0 ≤ 1099511627776 := by omega
  have hS0 : bulk k3 x0 ≤ 1048576 := by omega
  refine ⟨_, g_lszDependencyS (by omega) (by omega), bc_fits (by omega) (fun _ => rfl) fun h2 => ?_⟩
  try rw [fits_of_ge h2]
  have hB1 : bulk k13 x1 ≤ 1099511627776 := by omega
  have hS1 : bulk k13 x1 ≤ 1048576 := by omega
  refine ⟨_, g_lszDependencyS (by omega) (by omega), bc_fits (by omega) (fun _ => rfl) fun h3 => ?_⟩
  try rw [fits_of_ge h3]
  have hB2 : bulk k13 x2 ≤ 1099511627776 := by omega
  have hS2 : bulk k13 x2 ≤ 1048576 := by omega
  refine ⟨_, g_ltoRelationS (hB0), ?_⟩
  refine ⟨_, g_ltoDependencyS (hB1), ?_⟩
  refine ⟨_, g_ltoDependencyS (hB2), ?_⟩
  refine ⟨_, g_sCanUnfold, ?_⟩
  refine ⟨_, g_ltoRelationS (hB0), ?_⟩
  refine ⟨_, g_ltoDependencyS (hB1), ?_⟩
  refine ⟨_, g_ltoDependencyS (hB2), ?_⟩
  refine ⟨_, g_iCanUnfold, ?_⟩
  refine bc_nb (fun h => absurd rfl h) fun _ => ?_
  refine ⟨_, g_ltoRelationS (hB0), ?_⟩
  refine ⟨_, g_leqRelationS, bc_nd (fun h => absurd rfl h) fun _ => ?_⟩
  refine ⟨_, g_ltoDependencyS (hB1), ?_⟩
  refine ⟨_, g_leqDependencyS, bc_nd (fun h => absurd rfl h) fun _ => ?_⟩
  refine ⟨_, g_ltoDependencyS (hB2), ?_⟩
  refine ⟨_, g_leqDependencyS, bc_nd (fun h => absurd rfl h) fun _ => ?_⟩
  rfl)
end Go.V
