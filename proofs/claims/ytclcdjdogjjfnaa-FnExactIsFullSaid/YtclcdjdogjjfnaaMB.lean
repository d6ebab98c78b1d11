/-
  The functions that the law reaches: what each gives.
-/
import Derived.Test.YtclcdjdogjjfnaaMF
import Derived.Test.YtclcdjdogjjfnaaMP
set_option linter.unusedVariables false
set_option linter.unusedSimpArgs false
set_option maxRecDepth 1000000
set_option maxHeartbeats 4000000
set_option linter.unusedVariables false
set_option linter.unusedSimpArgs false
namespace Go.V
open Go
theorem g_slices_Sort_int_ooz {x0 : List Int} (h : x0.length ≤ 1099511627776) : G_slices_Sort_int_ooz x0 (sortI x0) := prim_sort h
theorem g_slices_Compact_int_ooz {x0 : List Int} : G_slices_Compact_int_ooz x0 (compI x0) := prim_compact
def cmpI (a b : Int) : Int := if a < b then -1 else if b < a then 1 else 0
def cmpL : List Int → List Int → Int
  | [], [] => 0
  | [], _ :: _ => -1
  | _ :: _, [] => 1
  | a :: x, b :: y => if a < b then -1 else if b < a then 1 else cmpL x y
def cmpF (a b : TFact) : Int := if a.1 < b.1 then -1 else if b.1 < a.1 then 1 else cmpL a.2.1 b.2.1
theorem cmpL_zero : ∀ {x y : List Int}, cmpL x y = 0 ↔ x = y
  | [], [] => by simp [cmpL]
  | [], b :: y => by simp [cmpL]
  | a :: x, [] => by simp [cmpL]
  | a :: x, b :: y => by
    unfold cmpL
    split
    · rename_i h; constructor
      · intro h'; cases h'
      · intro h'; cases h'; omega
    · split
      · rename_i h; constructor
        · intro h'; cases h'
        · intro h'; cases h'; omega
      · rw [cmpL_zero]
        have : a = b := by omega
        simp [this]
theorem cmpF_zero {x y : TFact} : cmpF x y = 0 ↔ x = y := by
  obtain ⟨a, b, u⟩ := x; obtain ⟨a', b', u'⟩ := y
  unfold cmpF
  simp only
  split
  · rename_i h; constructor
    · intro h'; cases h'
    · intro h'; cases h'; omega
  · split
    · rename_i h; constructor
      · intro h'; cases h'
      · intro h'; cases h'; omega
    · rw [cmpL_zero]
      have : a = a' := by omega
      simp [this]
theorem cmpL_step {x y : List Int} {i : Nat} (h : i < x.length) (h' : i < y.length) : cmpL (x.drop i) (y.drop i) = if x[i] < y[i] then -1 else if y[i] < x[i] then 1 else cmpL (x.drop (i + 1)) (y.drop (i + 1)) := by
  rw [drop_cons h, drop_cons h', cmpL]
theorem cmpL_end {x y : List Int} {i : Nat} (h : x.length ≤ i) : cmpL (x.drop i) (y.drop i) = if i < y.length then -1 else 0 := by
  rw [List.drop_of_length_le h]
  by_cases h' : i < y.length
  · rw [drop_cons h', if_pos h']; rfl
  · rw [List.drop_of_length_le (by omega), if_neg h']; rfl
theorem cmpL_end' {x y : List Int} {i : Nat} (h : i < x.length) (h' : y.length ≤ i) : cmpL (x.drop i) (y.drop i) = 1 := by
  rw [List.drop_of_length_le h', drop_cons h]; rfl
/- ## sorted rows of integers, each once -/
def ins : List Int → Int → List Int
  | [], x => [x]
  | a :: l, x => if a < x then a :: ins l x else if a = x then a :: l else x :: a :: l
def srt (l : List Int) : Prop := l.Pairwise (· < ·)
def sset (l : List Int) : List Int := l.foldl ins []
theorem mem_put {y x : Int} : ∀ {l : List Int}, y ∈ ins l x ↔ y = x ∨ y ∈ l
  | [] => by simp [ins]
  | a :: l => by
    unfold ins
    split
    · rw [List.mem_cons, mem_put, List.mem_cons]
      constructor
      · rintro (h | h | h) <;> simp [h]
      · rintro (h | h | h) <;> simp [h]
    · split
      · rename_i h; subst h; simp
      · simp
theorem srt_put {x : Int} : ∀ {l : List Int}, srt l → srt (ins l x)
  | [], _ => by simp [ins, srt]
  | a :: l, h => by
    obtain ⟨h1, h2⟩ := List.pairwise_cons.mp h
    unfold ins
    split
    · rename_i hlt
      refine List.pairwise_cons.mpr ⟨fun y hy => ?_, srt_put h2⟩
      rcases mem_put.mp hy with rfl | hy
      · exact hlt
      · exact h1 y hy
    · split
      · exact h
      · refine List.pairwise_cons.mpr ⟨fun y hy => ?_, h⟩
        rcases List.mem_cons.mp hy with rfl | hy
        · omega
        · have := h1 y hy; omega
theorem foldput {l : List Int} : ∀ {s : List Int}, srt s → srt (l.foldl ins s) ∧ ∀ y, y ∈ l.foldl ins s ↔ y ∈ s ∨ y ∈ l := by
  induction l with
  | nil => intro s h; exact ⟨h, by simp⟩
  | cons a l ih =>
    intro s h
    obtain ⟨h1, h2⟩ := ih (srt_put (x := a) h)
    refine ⟨h1, fun y => ?_⟩
    rw [List.foldl_cons, h2, mem_put, List.mem_cons]
    constructor
    · rintro ((h | h) | h) <;> simp [h]
    · rintro (h | h | h) <;> simp [h]
theorem srt_sset (l : List Int) : srt (sset l) := (foldput List.Pairwise.nil).1
theorem mem_sset {l : List Int} {y : Int} : y ∈ sset l ↔ y ∈ l := by have := (foldput (l := l) List.Pairwise.nil).2 y; simpa [sset] using this
theorem srt_ext : ∀ {a b : List Int}, srt a → srt b → (∀ y, y ∈ a ↔ y ∈ b) → a = b
  | [], [], _, _, _ => rfl
  | [], y :: b, _, _, h => by have := (h y).mpr (by simp); simp at this
  | x :: a, [], _, _, h => by have := (h x).mp (by simp); simp at this
  | x :: a, y :: b, ha, hb, h => by
    obtain ⟨ha1, ha2⟩ := List.pairwise_cons.mp ha
    obtain ⟨hb1, hb2⟩ := List.pairwise_cons.mp hb
    have hxy : x = y := by
      rcases List.mem_cons.mp ((h x).mp (by simp)) with e | hx
      · exact e
      · rcases List.mem_cons.mp ((h y).mpr (by simp)) with e | hy
        · exact e.symm
        · have := ha1 y hy; have := hb1 x hx; omega
    subst hxy
    congr 1
    refine srt_ext ha2 hb2 fun z => ⟨fun hz => ?_, fun hz => ?_⟩
    · rcases List.mem_cons.mp ((h z).mp (by simp [hz])) with e | h'
      · have := ha1 z hz; omega
      · exact h'
    · rcases List.mem_cons.mp ((h z).mpr (by simp [hz])) with e | h'
      · have := hb1 z hz; omega
      · exact h'
theorem sset_of {a l : List Int} (h1 : srt a) (h2 : ∀ y, y ∈ a ↔ y ∈ l) : a = sset l := srt_ext h1 (srt_sset l) fun y => by rw [h2, mem_sset]
theorem sset_congr {l m : List Int} (h : ∀ y, y ∈ l ↔ y ∈ m) : sset l = sset m := sset_of (srt_sset l) fun y => by rw [mem_sset, h]
theorem foldput_sset {l m : List Int} : (sset m).foldl ins (sset l) = sset (l ++ m) := by
  obtain ⟨h1, h2⟩ := foldput (l := sset m) (srt_sset l)
  exact sset_of h1 fun y => by rw [h2, mem_sset, mem_sset, List.mem_append]
theorem sset_snoc {l : List Int} {x : Int} : ins (sset l) x = sset (l ++ [x]) := by unfold sset; rw [List.foldl_append]; rfl
theorem put_len (l : List Int) (x : Int) : (ins l x).length ≤ l.length + 1 := by
  induction l with
  | nil => simp [ins]
  | cons a l ih => unfold ins; split; simp; omega; split <;> simp
theorem sset_len (l : List Int) : (sset l).length ≤ l.length := by
  have : ∀ (l s : List Int), (l.foldl ins s).length ≤ s.length + l.length := by
    intro l
    induction l with
    | nil => intro s; simp
    | cons a l ih => intro s; have := ih (ins s a); have := put_len s a; simp only [List.foldl_cons, List.length_cons]; omega
  have := this l []
  simpa [sset] using this
theorem sset_nil_iff {l : List Int} : sset l = [] ↔ l = [] := by
  constructor
  · intro h
    apply List.eq_nil_iff_forall_not_mem.mpr
    intro y hy
    have := mem_sset.mpr hy
    rw [h] at this; simp at this
  · rintro rfl; rfl
/-- strictly sorted numbers of a range are few -/
theorem srt_range {l : List Int} {a : Int} : ∀ {n : Nat}, srt l → (∀ y ∈ l, a ≤ y ∧ y < a + n) → l.length ≤ n := by
  induction l generalizing a with
  | nil => intro n _ _; simp
  | cons x l ih =>
    intro n h hr
    obtain ⟨h1, h2⟩ := List.pairwise_cons.mp h
    have hx := hr x (by simp)
    have := ih (a := x + 1) (n := (a + n - (x + 1)).toNat) h2 fun y hy => by
      have := h1 y hy; have := hr y (by simp [hy]); omega
    simp only [List.length_cons]; omega
theorem srt_last {l : List Int} (h : srt l) (hne : l ≠ []) : ∀ y ∈ l, y ≤ l.getLast hne := by
  intro y hy
  have hs : l = l.dropLast ++ [l.getLast hne] := (List.dropLast_concat_getLast hne).symm
  rw [hs] at h hy
  unfold srt at h
  rw [List.pairwise_append] at h
  rcases List.mem_append.mp hy with hy | hy
  · have := h.2.2 y hy (l.getLast hne) (by simp); omega
  · have : y = l.getLast hne := by simpa using hy
    omega
theorem put_eq (l : List Int) (x : Int) : ins l x = if h : firstAt (fun a => !decide (a < x)) l < l.length then (if l[firstAt (fun a => !decide (a < x)) l] = x then l else l.take (firstAt (fun a => !decide (a < x)) l) ++ x :: l.drop (firstAt (fun a => !decide (a < x)) l)) else l ++ [x] := by
  induction l with
  | nil => simp [ins, firstAt]
  | cons a l ih =>
    unfold ins
    by_cases ha : a < x
    · have e : firstAt (fun a => !decide (a < x)) (a :: l) = firstAt (fun a => !decide (a < x)) l + 1 := by simp [firstAt, ha]
      rw [if_pos ha, ih]
      by_cases hf : firstAt (fun a => !decide (a < x)) l < l.length
      · rw [dif_pos hf, dif_pos (by rw [e]; simpa using hf)]
        simp only [e, List.getElem_cons_succ, List.take_succ_cons, List.drop_succ_cons]
        split
        · rfl
        · rfl
      · rw [dif_neg hf, dif_neg (by rw [e]; simpa using hf)]
        rfl
    · have e : firstAt (fun a => !decide (a < x)) (a :: l) = 0 := by simp [firstAt, ha]
      rw [if_neg ha, dif_pos (by rw [e]; simp)]
      simp only [e, List.getElem_cons_zero, List.take_zero, List.drop_zero, List.nil_append]
theorem g_sl4Put {l : List Int} {x : Int} (hl : l.length ≤ 1073741824) : G_sl4Put l x (ins l x) := M_sl4Put _ _ _ (by
  unfold S_sl4Put
  have fin : ∀ (k : Nat), k ≤ l.length → ((0 ≤ (k : Int) ∧ (k : Int) ≤ (List.length l : Int) ∧ (List.length l : Int) ≤ (List.length l : Int)) ∧ (([x] : List Int).length + (List.drop (Int.toNat (k : Int)) (List.take (Int.toNat (List.length l : Int)) l)).length ≤ maxL ∧ ((0 ≤ (0 : Int) ∧ (0 : Int) ≤ (k : Int) ∧ (k : Int) ≤ (List.length l : Int)) ∧ (([] : List Int).length + (List.drop (Int.toNat (0 : Int)) (List.take (Int.toNat (k : Int)) l)).length ≤ maxL ∧ ((([] : List Int) ++ (List.drop (Int.toNat (0 : Int)) (List.take (Int.toNat (k : Int)) l))).length + (([x] : List Int) ++ (List.drop (Int.toNat (k : Int)) (List.take (Int.toNat (List.length l : Int)) l))).length ≤ maxL ∧ (((([] : List Int) ++ (List.drop (Int.toNat (0 : Int)) (List.take (Int.toNat (k : Int)) l))) ++ (([x] : List Int) ++ (List.drop (Int.toNat (k : Int)) (List.take (Int.toNat (List.length l : Int)) l))), ()) : List Int × Unit) = (l.take k ++ x :: l.drop k, ()))))) ) := by
    intro k hk
    simp only [Int.toNat_natCast, List.take_length, Int.toNat_zero, List.drop_zero, List.nil_append, List.length_nil, List.length_cons, List.length_append, List.length_take, List.length_drop, maxL, List.cons_append]
    refine ⟨⟨by omega, by omega, by omega⟩, by omega, ⟨by omega, by omega, by omega⟩, by omega, by omega, trivial⟩
  rw [put_eq]
  refine loop_first l (fun a => !decide (a < x)) (fun i => ((i : Int), ())) (KT := fun i => ∀ h : i < l.length, ∀ r : List Int × Unit, r = (if l[i] = x then l else l.take i ++ x :: l.drop i, ()) → r = ((if h : firstAt (fun a => !decide (a < x)) l < l.length then (if l[firstAt (fun a => !decide (a < x)) l] = x then l else l.take (firstAt (fun a => !decide (a < x)) l) ++ x :: l.drop (firstAt (fun a => !decide (a < x)) l)) else l ++ [x]), ()))
    (KF := ∀ r : List Int × Unit, r = (l ++ [x], ()) → r = ((if h : firstAt (fun a => !decide (a < x)) l < l.length then (if l[firstAt (fun a => !decide (a < x)) l] = x then l else l.take (firstAt (fun a => !decide (a < x)) l) ++ x :: l.drop (firstAt (fun a => !decide (a < x)) l)) else l ++ [x]), ())) ?_ ?_ ?_ ?_
  · intro i hi X h1 h2
    refine lenI fun hl' => bcI hi (inI hi ?_)
    simp only
    rw [getI hi, w64_succ (by omega)]
    refine bc_dec (fun h => h2 (by simpa using h)) (fun h => ?_)
    have h1 := h1 (by simpa using h) hi
    refine lenI fun _ => bcI hi (inI hi (bc_beq (fun he => h1 _ (by rw [if_pos he])) (fun he => ?_)))
    rw [if_neg he] at h1
    have := fin i (by omega)
    exact ⟨this.1, this.2.1, this.2.2.1, this.2.2.2.1, this.2.2.2.2.1, h1 _ this.2.2.2.2.2⟩
  · intro X h
    refine lenI fun hl' => bcN (lenI fun _ => bcN ?_)
    have := fin l.length (by omega)
    refine ⟨this.1, this.2.1, this.2.2.1, this.2.2.2.1, this.2.2.2.2.1, h _ (this.2.2.2.2.2.trans (by simp))⟩
  · intro h h' r hr; rw [hr, dif_pos h]
  · intro h r hr; rw [hr, dif_neg (by omega)])
theorem g_sl4Has {l : List Int} {x : Int} : G_sl4Has l x (decide (x ∈ l)) := M_sl4Has _ _ _ (by
  unfold S_sl4Has
  refine loop_any l (fun a => x == a) (fun i => ((i : Int), ())) (KT := ((true, ()) : Bool × Unit) = (decide (x ∈ l), ())) (KF := ((false, ()) : Bool × Unit) = (decide (x ∈ l), ())) ?_ (fun X h => lenI fun _ => bcN h) (fun h => ?_) (fun h => ?_)
  · intro i hi X h1 h2
    refine lenI fun _ => bcI hi (inI hi ?_)
    simp only
    rw [getI hi, w64_succ (by omega)]
    exact bc_beq (fun h => h1 (by simp [h])) (fun h => h2 (by simpa using fun e => h e.symm))
  · rw [any_mem] at h; rw [h]
  · rw [any_mem] at h; rw [h])
theorem sortI_mem {l : List Int} {y : Int} : y ∈ sortI l ↔ y ∈ l := by unfold sortI; simp
theorem sortI_sorted (l : List Int) : (sortI l).Pairwise (· ≤ ·) := by
  unfold sortI
  have := List.pairwise_mergeSort (le := fun a b : Int => decide (a ≤ b)) (fun a b c h1 h2 => by simp at *; omega) (fun a b => by simp; omega) l
  exact this.imp fun h => by simpa using h
theorem comp_sort (l : List Int) : compI (sortI l) = sset l := by
  have hs := sortI_sorted l
  have hget : ∀ i j (hi : i < (sortI l).length) (hj : j < (sortI l).length), i ≤ j → (sortI l)[i] ≤ (sortI l)[j] := by
    intro i j hi hj h
    rcases Nat.lt_or_ge i j with h | h
    · exact List.pairwise_iff_getElem.mp hs i j hi hj h
    · have : i = j := by omega
      subst this; omega
  have ex : compI (sortI l) = ((List.range (sortI l).length).filter (Lib.keeps (sortI l).toArray)).map ((sortI l).toArray[·]!) := rfl
  refine sset_of ?_ ?_
  · rw [ex]
    unfold srt
    rw [List.pairwise_map, List.pairwise_filter]
    refine List.Pairwise.imp_of_mem (R := (· < ·)) ?_ List.pairwise_lt_range
    intro i j hi hj hij _ kj
    have hi := List.mem_range.mp hi; have hj := List.mem_range.mp hj
    have e1 : (sortI l).toArray[i]! = (sortI l)[i] := by simp [hi]
    have e2 : (sortI l).toArray[j]! = (sortI l)[j] := by simp [hj]
    have e3 : (sortI l).toArray[j - 1]! = (sortI l)[j - 1]'(by omega) := by rw [getElem!_pos (sortI l).toArray (j - 1) (by simp; omega)]; rfl
    rw [e1, e2]
    unfold Lib.keeps at kj
    rw [e2, e3] at kj
    have h1 := hget i (j - 1) hi (by omega) (by omega)
    have h2 := hget (j - 1) j (by omega) hj (by omega)
    rcases of_decide_eq_true kj with h | h
    · omega
    · omega
  · intro y
    rw [ex, List.mem_map]
    constructor
    · rintro ⟨j, hj, rfl⟩
      have hj := List.mem_range.mp (List.mem_filter.mp hj).1
      have e : (sortI l).toArray[j]! = (sortI l)[j] := by simp [hj]
      rw [e, ← sortI_mem]; exact List.getElem_mem hj
    · intro hy
      rw [← sortI_mem] at hy
      -- the first place that holds y
      have hf : firstAt (fun t => t == y) (sortI l) < (sortI l).length := firstAt_any.mpr (List.any_eq_true.mpr ⟨y, hy, by simp⟩)
      have h2 := firstAt_at hf
      have h3 : (sortI l)[firstAt (fun t => t == y) (sortI l)] = y := by simpa using h2
      refine ⟨firstAt (fun t => t == y) (sortI l), List.mem_filter.mpr ⟨List.mem_range.mpr hf, ?_⟩, by simp [hf, h3]⟩
      unfold Lib.keeps
      rw [decide_eq_true_iff]
      by_cases h0 : firstAt (fun t => t == y) (sortI l) = 0
      · exact .inl h0
      · right
        have hlt : firstAt (fun t => t == y) (sortI l) - 1 < (sortI l).length := by omega
        have h4 := firstAt_lt (p := fun t => t == y) (l := sortI l) hlt (by omega)
        have e1 : (sortI l).toArray[firstAt (fun t => t == y) (sortI l)]! = y := by simp [hf, h3]
        have e2 : (sortI l).toArray[firstAt (fun t => t == y) (sortI l) - 1]! = (sortI l)[firstAt (fun t => t == y) (sortI l) - 1] := by simp [hlt]
        rw [e1, e2]
        intro e
        rw [← e] at h4; simp at h4
/- ## relations, atoms, dependencies: which are valid -/
def inR (x a b : Int) : Bool := decide (a ≤ x) && decide (x ≤ b)
theorem any_not {α : Type} {p : α → Bool} {l : List α} : (l.any fun t => !p t) = !(l.all p) := by
  induction l with
  | nil => rfl
  | cons a l ih => simp only [List.any_cons, List.all_cons, ih]; cases p a <;> simp
theorem nt {b : Bool} (h : (!b) = true) : b = false := by simpa using h
theorem nf {b : Bool} (h : (!b) = false) : b = true := by simpa using h
theorem flat_split {α β : Type} (f : α → List β) {l : List α} {i : Nat} (h : i < l.length) : (l.flatMap f).length = ((l.take i).flatMap f).length + ((f l[i]).length + ((l.drop (i + 1)).flatMap f).length) := by
  have e : l = l.take i ++ l[i] :: l.drop (i + 1) := by rw [← drop_cons h, List.take_append_drop]
  have := congrArg (fun m => (m.flatMap f).length) e
  simp only [List.flatMap_append, List.flatMap_cons, List.length_append] at this
  exact this
theorem inR_iff {x a b : Int} : inR x a b = true ↔ a ≤ x ∧ x ≤ b := by simp [inR]
theorem bl_tri : ∀ {a b : List UInt8}, (Op.bytesLess b a || b == a) = !(Op.bytesLess a b)
  | [], [] => by decide
  | [], y :: b => by simp [Op.bytesLess]
  | x :: a, [] => by simp [Op.bytesLess]
  | x :: a, y :: b => by
    have ih := bl_tri (a := a) (b := b)
    simp only [Op.bytesLess]
    by_cases h : y < x
    · have h2 : ¬ x < y := UInt8.lt_asymm h
      have h3 : ¬ x = y := by rintro rfl; exact UInt8.lt_irrefl _ h
      simp [h, h2, h3]
    · by_cases h2 : x < y
      · have h3 : ¬ y = x := by rintro rfl; exact h h2
        simp [h, h2, h3]
      · have h3 : x = y := UInt8.le_antisymm (UInt8.not_lt.mp h) (UInt8.not_lt.mp h2)
        subst h3
        simp only [h, decide_false, beq_self_eq_true, Bool.true_and, Bool.false_or]
        rw [← ih]
        by_cases h4 : b = a <;> simp [h4]
def vRel (r : TRel) : Bool := (r.1.length == 1) && decide (97 ≤ (r.1.getD 0 0).toNat) && decide ((r.1.getD 0 0).toNat ≤ 122) && inR r.2.1 1 3
def relAt (l : List TRel) (i : Nat) : TRel := l.getD i zRel
def vRels (l : List TRel) : Bool := ((List.range l.length).all fun i => vRel (relAt l i) && (i == 0 || Op.bytesLess (relAt l (i - 1)).1 (relAt l i).1)) && decide (l.length ≤ 6)
theorem relAt_get {l : List TRel} {i : Nat} (h : i < l.length) : relAt l i = l[i] := getD_at h
theorem vRels_mem {l : List TRel} (h : vRels l = true) {r : TRel} (hr : r ∈ l) : vRel r = true := by
  unfold vRels at h
  rw [Bool.and_eq_true] at h
  obtain ⟨i, hi, rfl⟩ := List.mem_iff_getElem.mp hr
  have := List.all_eq_true.mp h.1 i (List.mem_range.mpr hi)
  rw [Bool.and_eq_true, relAt_get hi] at this
  exact this.1
theorem vRels_len {l : List TRel} (h : vRels l = true) : l.length ≤ 6 := by
  unfold vRels at h; simp at h; exact h.2
theorem vRel_arity {r : TRel} (h : vRel r = true) : 1 ≤ r.2.1 ∧ r.2.1 ≤ 3 := by
  unfold vRel at h; simp [inR] at h; exact h.2
def arity (l : List TRel) (i : Int) : Int := (l.getD (Int.toNat i) zRel).2.1
def srcAt (l : List TRel) (i : Int) : Bool := (l.getD (Int.toNat i) zRel).2.2.1
/-- a row of numbers at a relation, each with ok -/
def vRow (ok : Int → Bool) (l : List TRel) (a : TFact) : Bool := vRels l && inR a.1 0 ((l.length : Int) - 1) && ((a.2.1.length : Int) == arity l a.1) && a.2.1.all ok
theorem vRow_spec {ok : Int → Bool} {l : List TRel} {a : TFact} (h : vRow ok l a = true) : vRels l = true ∧ 0 ≤ a.1 ∧ a.1 < l.length ∧ (a.2.1.length : Int) = arity l a.1 ∧ a.2.1.length ≤ 3 ∧ ∀ v ∈ a.2.1, ok v = true := by
  unfold vRow at h
  simp only [Bool.and_eq_true, beq_iff_eq, List.all_eq_true] at h
  obtain ⟨⟨⟨h1, h2⟩, h3⟩, h4⟩ := h
  have h2 := inR_iff.mp h2
  have hlt : a.1.toNat < l.length := by omega
  have := vRel_arity (vRels_mem h1 (List.getElem_mem hlt))
  have e : arity l a.1 = l[a.1.toNat].2.1 := by unfold arity; rw [getD_at hlt]
  exact ⟨h1, h2.1, by omega, h3, by omega, h4⟩
def vTerm (t : Int) : Bool := inR t (-10) 4
def vAtom (l : List TRel) (a : TFact) : Bool := vRow vTerm l a
def vars (l : List TFact) : List Int := sset ((l.flatMap (·.2.1)).filter fun t => decide (0 ≤ t))
def vDep (l : List TRel) (d : TDep) : Bool := inR d.1.length 1 2 && d.1.all (vAtom l) &&
  (if d.2.2.1 then decide (d.2.1 = []) && decide (d.2.2.2.1 ∈ vars d.1) && decide (d.2.2.2.2.1 ∈ vars d.1) && decide (d.2.2.2.1 < d.2.2.2.2.1)
   else d.2.1.all (fun a => vAtom l a && !(srcAt l a.1)) && inR d.2.1.length 1 2 && (d.2.2.2.1 == 0) && (d.2.2.2.2.1 == 0))
def vDeps (l : List TRel) (ds : List TDep) : Bool := ds.all (vDep l) && vRels l && decide (ds.length ≤ 5)
def exV (d : TDep) : List Int := (vars d.2.1).filter fun v => !decide (v ∈ vars d.1)
def frV (d : TDep) : List Int := (vars d.2.1).filter fun v => decide (v ∈ vars d.1)
def full (d : TDep) : Bool := !d.2.2.1 && (exV d).isEmpty
theorem atoms_len {l : List TRel} {ats : List TFact} (h : ats.all (vAtom l) = true) : (ats.flatMap (·.2.1)).length ≤ 3 * ats.length := by
  induction ats with
  | nil => simp
  | cons a ats ih =>
    simp only [List.all_cons, Bool.and_eq_true] at h
    have h1 := (vRow_spec h.1).2.2.2.2.1
    have := ih h.2
    simp only [List.flatMap_cons, List.length_append, List.length_cons]
    omega
theorem vars_len (l : List TFact) : (vars l).length ≤ (l.flatMap (·.2.1)).length := Nat.le_trans (sset_len _) (List.length_filter_le _ _)
theorem row_start {l : List TRel} {a : TFact} (h : inR a.1 0 (w64 ((l.length : Int) - 1)) = true) (hl : (l.length : Int) ≤ 9223372036854775807) : 0 ≤ a.1 ∧ a.1 < (l.length : Int) := by
  have := inR_iff.mp h
  rw [w64_id (by omega) (by omega)] at this
  omega
theorem row_range {l : List TRel} {a : TFact} (hl : (l.length : Int) ≤ 9223372036854775807) : inR a.1 0 (w64 ((l.length : Int) - 1)) = inR a.1 0 ((l.length : Int) - 1) := by
  rw [w64_id (by omega) (by omega)]
/-- the part that the two programs' tests of rows share -/
theorem row_no1 {ok : Int → Bool} {l : List TRel} {a : TFact} (h : vRels l = false) : ((false, ()) : Bool × Unit) = (vRow ok l a, ()) := by unfold vRow; rw [h]; simp
theorem row_no2 {ok : Int → Bool} {l : List TRel} {a : TFact} (hl : (l.length : Int) ≤ 9223372036854775807) (h : inR a.1 0 (w64 ((l.length : Int) - 1)) = false) : ((false, ()) : Bool × Unit) = (vRow ok l a, ()) := by
  rw [row_range hl] at h; unfold vRow; rw [h]; simp
theorem row_no3 {ok : Int → Bool} {l : List TRel} {a : TFact} (h : (a.2.1.length : Int) ≠ (l.getD (Int.toNat a.1) zRel).2.1) : ((false, ()) : Bool × Unit) = (vRow ok l a, ()) := by
  have : ((a.2.1.length : Int) == arity l a.1) = false := by simpa [arity] using h
  unfold vRow; rw [this]; simp
theorem row_yes {ok : Int → Bool} {l : List TRel} {a : TFact} {b : Bool} (hl : (l.length : Int) ≤ 9223372036854775807) (h1 : vRels l = true) (h2 : inR a.1 0 (w64 ((l.length : Int) - 1)) = true) (h3 : (a.2.1.length : Int) = (l.getD (Int.toNat a.1) zRel).2.1) (hb : b = a.2.1.all ok) : ((b, ()) : Bool × Unit) = (vRow ok l a, ()) := by
  rw [row_range hl] at h2
  have : ((a.2.1.length : Int) == arity l a.1) = true := by simpa [arity] using h3
  unfold vRow; rw [h1, h2, this, hb]; simp
theorem g_sVariables {l : List TFact} (hl : (l.flatMap (·.2.1)).length ≤ 1073741824) : G_sVariables l (vars l) := M_sVariables _ _ (by
  unfold S_sVariables
  refine loopP_of l.length (fun i => ((i : Int), (vars (l.take i), ()))) (by simp [vars, sset]) ?_ ?_
  · intro i hi X hX
    refine lenI fun hl1 => bcI hi ?_
    simp only
    rw [getI hi]
    have hsub : ((l.take i).flatMap (·.2.1)).length + l[i].2.1.length ≤ 1073741824 := by
      have := flat_split (·.2.1) hi
      omega
    have hset : ∀ j, j ≤ l[i].2.1.length → (sset (((l.take i).flatMap (·.2.1) ++ l[i].2.1.take j).filter fun t => decide (0 ≤ t))).length ≤ 1073741824 := by
      intro j hj
      refine Nat.le_trans (sset_len _) (Nat.le_trans (List.length_filter_le _ _) ?_)
      rw [List.length_append, List.length_take]; omega
    refine loopP_of l[i].2.1.length (fun j => (sset (((l.take i).flatMap (·.2.1) ++ l[i].2.1.take j).filter fun t => decide (0 ≤ t)), ((j : Int), ()))) (by simp [vars]) ?_ ?_
    · intro j hj Y hY
      refine inI hi (lenI fun _ => bcI hj (inI hi (inI hj ?_)))
      simp only
      rw [getI hj, w64_succ (by omega)]
      have e : ((l.take i).flatMap (·.2.1) ++ l[i].2.1.take (j + 1)).filter (fun t => decide (0 ≤ t)) = ((l.take i).flatMap (·.2.1) ++ l[i].2.1.take j).filter (fun t => decide (0 ≤ t)) ++ (if 0 ≤ l[i].2.1[j] then [l[i].2.1[j]] else []) := by
        rw [take_succ_snoc hj, ← List.append_assoc, List.filter_append]
        by_cases h : 0 ≤ l[i].2.1[j] <;> simp [h]
      rw [e] at hY
      refine bc_dec (fun h => inI hi (inI hj ⟨_, g_sl4Put (hset j (by omega)), ?_⟩)) (fun h => ?_)
      · have h : 0 ≤ l[i].2.1[j] := h
        rw [if_pos h] at hY
        rw [sset_snoc]; exact hY
      · have h : ¬ 0 ≤ l[i].2.1[j] := h
        rw [if_neg h, List.append_nil] at hY; exact hY
    · intro Y
      refine inI hi (lenI fun _ => bcN ?_)
      simp only
      rw [w64_succ (by omega), List.take_length]
      have : sset (((l.take i).flatMap (·.2.1) ++ l[i].2.1).filter fun t => decide (0 ≤ t)) = vars (l.take (i + 1)) := by
        unfold vars; rw [take_succ_snoc hi, List.flatMap_append]; simp
      rw [this]; exact hX
  · intro X
    refine lenI fun _ => bcN ?_
    simp only [List.take_length])
theorem g_iVariables {l : List TFact} (hl : (l.flatMap (·.2.1)).length ≤ 1073741824) : G_iVariables l (vars l) := M_iVariables _ _ (by
  unfold S_iVariables
  refine lenI fun hl1 => ?_
  refine loopP_of l.length (fun i => ((i : Int), (((l.take i).flatMap (·.2.1)).filter (fun t => decide (0 ≤ t)), ()))) (by simp) ?_ ?_
  · intro i hi X hX
    refine bcI hi (inI hi ?_)
    simp only
    rw [getI hi, w64_succ (by omega)]
    have hsub : ((l.take i).flatMap (·.2.1)).length + l[i].2.1.length ≤ 1073741824 := by
      have := flat_split (·.2.1) hi
      omega
    refine lenI fun _ => loopP_of l[i].2.1.length (fun j => ((j : Int), (((l.take i).flatMap (·.2.1) ++ l[i].2.1.take j).filter (fun t => decide (0 ≤ t)), ()))) (by simp) ?_ ?_
    · intro j hj Y hY
      refine bcI hj (inI hj ?_)
      simp only
      rw [getI hj, w64_succ (by omega)]
      have e : ((l.take i).flatMap (·.2.1) ++ l[i].2.1.take (j + 1)).filter (fun t => decide (0 ≤ t)) = ((l.take i).flatMap (·.2.1) ++ l[i].2.1.take j).filter (fun t => decide (0 ≤ t)) ++ (if 0 ≤ l[i].2.1[j] then [l[i].2.1[j]] else []) := by
        rw [take_succ_snoc hj, ← List.append_assoc, List.filter_append]
        by_cases h : 0 ≤ l[i].2.1[j] <;> simp [h]
      rw [e] at hY
      have hb := List.length_filter_le (fun t => decide (0 ≤ t)) ((l.take i).flatMap (·.2.1) ++ l[i].2.1.take j)
      rw [List.length_append, List.length_take] at hb
      refine bc_dec (fun h => ⟨by simp only [maxL, List.length_cons, List.length_nil]; omega, ?_⟩) (fun h => ?_)
      · have h : 0 ≤ l[i].2.1[j] := h
        rw [if_pos h] at hY; exact hY
      · have h : ¬ 0 ≤ l[i].2.1[j] := h
        rw [if_neg h, List.append_nil] at hY; exact hY
    · intro Y
      refine bcN ?_
      simp only
      rw [List.take_length]
      have : ((l.take i).flatMap (·.2.1) ++ l[i].2.1).filter (fun t => decide (0 ≤ t)) = ((l.take (i + 1)).flatMap (·.2.1)).filter (fun t => decide (0 ≤ t)) := by
        rw [take_succ_snoc hi, List.flatMap_append]; simp
      rw [this]; exact hX
  · intro X
    refine bcN ⟨_, g_slices_Sort_int_ooz ?_, _, g_slices_Compact_int_ooz, ?_⟩
    · simp only [List.take_length]
      have := List.length_filter_le (fun t => decide (0 ≤ t)) (l.flatMap (·.2.1)); omega
    · simp only [List.take_length]
      rw [comp_sort]; rfl)
theorem g_sExistentialVariables {d : TDep} (h1 : (d.1.flatMap (·.2.1)).length ≤ 1073741824) (h2 : (d.2.1.flatMap (·.2.1)).length ≤ 1073741824) : G_sExistentialVariables d (exV d) := M_sExistentialVariables _ _ (by
  unfold S_sExistentialVariables
  have hv := vars_len d.2.1
  refine ⟨_, g_sVariables h1, _, g_sVariables h2, ?_⟩
  refine loopP_of (vars d.2.1).length (fun i => ((i : Int), (((vars d.2.1).take i).filter (fun v => !decide (v ∈ vars d.1)), ()))) (by simp) ?_ ?_
  · intro i hi X hX
    refine lenI fun _ => bcI hi (inI hi ⟨_, g_sl4Has, ?_⟩)
    simp only
    rw [getI hi, w64_succ (by omega)]
    have e : ((vars d.2.1).take (i + 1)).filter (fun v => !decide (v ∈ vars d.1)) = ((vars d.2.1).take i).filter (fun v => !decide (v ∈ vars d.1)) ++ (if (vars d.2.1)[i] ∈ vars d.1 then [] else [(vars d.2.1)[i]]) := by
      rw [take_succ_snoc hi, List.filter_append]
      by_cases h : (vars d.2.1)[i] ∈ vars d.1 <;> simp [h]
    rw [e] at hX
    have hb := List.length_filter_le (fun v => !decide (v ∈ vars d.1)) ((vars d.2.1).take i)
    rw [List.length_take] at hb
    refine bc_if (fun h => inI hi ⟨by simp only [maxL, List.length_cons, List.length_nil]; omega, ?_⟩) (fun h => ?_)
    · have h : ¬ (vars d.2.1)[i] ∈ vars d.1 := by simpa using h
      rw [if_neg h] at hX; exact hX
    · have h : (vars d.2.1)[i] ∈ vars d.1 := by simpa using h
      rw [if_pos h, List.append_nil] at hX; exact hX
  · intro X
    refine lenI fun _ => bcN ?_
    simp only [List.take_length]
    rfl)
def hdV (d : TDep) (b : Bool) : List Int := (vars d.2.1).filter fun v => decide (v ∈ vars d.1) == b
theorem g_iheadVariables {d : TDep} {b : Bool} (h1 : (d.1.flatMap (·.2.1)).length ≤ 1073741824) (h2 : (d.2.1.flatMap (·.2.1)).length ≤ 1073741824) : G_iheadVariables d b (hdV d b) := M_iheadVariables _ _ _ (by
  unfold S_iheadVariables
  have hv := vars_len d.2.1
  refine ⟨_, g_iVariables h1, _, g_iVariables h2, lenI fun _ => ?_⟩
  refine loopP_of (vars d.2.1).length (fun i => ((i : Int), (((vars d.2.1).take i).filter (fun v => decide (v ∈ vars d.1) == b), ()))) (by simp) ?_ ?_
  · intro i hi X hX
    refine bcI hi (inI hi ⟨_, g_slices_Contains_int, ?_⟩)
    simp only
    rw [getI hi, w64_succ (by omega)]
    have e : ((vars d.2.1).take (i + 1)).filter (fun v => decide (v ∈ vars d.1) == b) = ((vars d.2.1).take i).filter (fun v => decide (v ∈ vars d.1) == b) ++ (if (decide ((vars d.2.1)[i] ∈ vars d.1) == b) = true then [(vars d.2.1)[i]] else []) := by
      rw [take_succ_snoc hi, List.filter_append]
      cases h : (decide ((vars d.2.1)[i] ∈ vars d.1) == b) <;> simp [h]
    rw [e] at hX
    have hb := List.length_filter_le (fun v => decide (v ∈ vars d.1) == b) ((vars d.2.1).take i)
    rw [List.length_take] at hb
    refine bc_if (fun h => ⟨by simp only [maxL, List.length_cons, List.length_nil]; omega, ?_⟩) (fun h => ?_)
    · rw [if_pos h] at hX; exact hX
    · rw [if_neg (by rw [h]; simp), List.append_nil] at hX; exact hX
  · intro X
    refine bcN ?_
    simp only [List.take_length]
    rfl)
theorem hdV_false (d : TDep) : hdV d false = exV d := by unfold hdV exV; congr 1; funext v; by_cases h : v ∈ vars d.1 <;> simp [h]
theorem hdV_true (d : TDep) : hdV d true = frV d := by unfold hdV frV; congr 1; funext v; by_cases h : v ∈ vars d.1 <;> simp [h]
theorem g_iExistentialVariables {d : TDep} (h1 : (d.1.flatMap (·.2.1)).length ≤ 1073741824) (h2 : (d.2.1.flatMap (·.2.1)).length ≤ 1073741824) : G_iExistentialVariables d (exV d) := M_iExistentialVariables _ _ (by
  unfold S_iExistentialVariables
  exact ⟨_, g_iheadVariables h1 h2, by rw [hdV_false]⟩)
theorem full_eq (d : TDep) (h : d.2.2.1 = false) : ((exV d).length == (0 : Nat)) = full d := by unfold full; rw [h]; cases exV d <;> simp
theorem g_sIsFull {d : TDep} (h1 : (d.1.flatMap (·.2.1)).length ≤ 1073741824) (h2 : (d.2.1.flatMap (·.2.1)).length ≤ 1073741824) : G_sIsFull d (full d) := M_sIsFull _ _ (by
  unfold S_sIsFull
  refine bc_not (fun h => ⟨_, g_sExistentialVariables h1 h2, lenI fun _ => ?_⟩) (fun h => ?_)
  · rw [← full_eq d h]
    congr 1
    cases exV d <;> simp <;> omega
  · unfold full; rw [h]; rfl)
theorem g_iIsFull {d : TDep} (h1 : (d.1.flatMap (·.2.1)).length ≤ 1073741824) (h2 : (d.2.1.flatMap (·.2.1)).length ≤ 1073741824) : G_iIsFull d (full d) := M_iIsFull _ _ (by
  unfold S_iIsFull
  refine bc_not (fun h => ⟨_, g_iExistentialVariables h1 h2, lenI fun _ => ?_⟩) (fun h => ?_)
  · rw [← full_eq d h]
    congr 1
    cases exV d <;> simp <;> omega
  · unfold full; rw [h]; rfl)
theorem flat_bulk (l : List TFact) : (l.flatMap (·.2.1)).length ≤ bulk (.sl 0 (.pair (.int .i64) (.pair (.sl 0 (.int .i64)) .unit))) l := by
  show _ ≤ l.length + (l.map (bulk (.pair (.int .i64) (.pair (.sl 0 (.int .i64)) .unit)))).sum
  induction l with
  | nil => simp
  | cons a l ih =>
    show (a.2.1 ++ l.flatMap (·.2.1)).length ≤ (l.length + 1) + (bulk (.pair (.int .i64) (.pair (.sl 0 (.int .i64)) .unit)) a + (l.map (bulk (.pair (.int .i64) (.pair (.sl 0 (.int .i64)) .unit)))).sum)
    rw [List.length_append]
    have : a.2.1.length ≤ bulk (.pair (.int .i64) (.pair (.sl 0 (.int .i64)) .unit)) a := by
      show a.2.1.length ≤ 0 + ((a.2.1.length + _) + 0)
      omega
    omega
theorem dep_small {d : TDep} (h : bulk (.pair (.sl 0 (.pair (.int .i64) (.pair (.sl 0 (.int .i64)) .unit))) (.pair (.sl 0 (.pair (.int .i64) (.pair (.sl 0 (.int .i64)) .unit))) (.pair .bool (.pair (.int .i64) (.pair (.int .i64) .unit))))) d ≤ 1048576) :
    (d.1.flatMap (·.2.1)).length ≤ 1073741824 ∧ (d.2.1.flatMap (·.2.1)).length ≤ 1073741824 := by
  have h1 := flat_bulk d.1
  have h2 := flat_bulk d.2.1
  have h : bulk (.sl 0 (.pair (.int .i64) (.pair (.sl 0 (.int .i64)) .unit))) d.1 + (bulk (.sl 0 (.pair (.int .i64) (.pair (.sl 0 (.int .i64)) .unit))) d.2.1 + _) ≤ 1048576 := h
  omega
/-- a valid dependency is small -/
theorem vDep_spec {l : List TRel} {d : TDep} (h : vDep l d = true) : 1 ≤ d.1.length ∧ d.1.length ≤ 2 ∧ (∀ a ∈ d.1, vAtom l a = true) ∧ d.2.1.length ≤ 2 ∧ (∀ a ∈ d.2.1, vAtom l a = true) ∧ (d.1.flatMap (·.2.1)).length ≤ 6 ∧ (d.2.1.flatMap (·.2.1)).length ≤ 6 := by
  unfold vDep at h
  rw [Bool.and_eq_true, Bool.and_eq_true] at h
  obtain ⟨⟨h1, h2⟩, h3⟩ := h
  have h1 := inR_iff.mp h1
  have l1 := atoms_len h2
  cases he : d.2.2.1 with
  | true =>
    rw [if_pos he] at h3
    simp only [Bool.and_eq_true, decide_eq_true_eq] at h3
    have := h3.1.1.1
    exact ⟨by omega, by omega, List.all_eq_true.mp h2, by simp [this], by simp [this], by omega, by simp [this]⟩
  | false =>
    rw [if_neg (by simp [he])] at h3
    simp only [Bool.and_eq_true] at h3
    have hr := inR_iff.mp h3.1.1.2
    have h4 : d.2.1.all (vAtom l) = true := List.all_eq_true.mpr fun a ha => by
      have := List.all_eq_true.mp h3.1.1.1 a ha
      rw [Bool.and_eq_true] at this; exact this.1
    have l2 := atoms_len h4
    exact ⟨by omega, by omega, List.all_eq_true.mp h2, by omega, List.all_eq_true.mp h4, by omega, by omega⟩
theorem vDeps_mem {l : List TRel} {ds : List TDep} (h : vDeps l ds = true) {d : TDep} (hd : d ∈ ds) : vDep l d = true := by
  unfold vDeps at h
  rw [Bool.and_eq_true, Bool.and_eq_true] at h
  exact List.all_eq_true.mp h.1.1 d hd
theorem vDeps_len {l : List TRel} {ds : List TDep} (h : vDeps l ds = true) : ds.length ≤ 5 := by
  unfold vDeps at h; simp at h; exact h.2
theorem vDeps_rels {l : List TRel} {ds : List TDep} (h : vDeps l ds = true) : vRels l = true := by
  unfold vDeps at h
  rw [Bool.and_eq_true, Bool.and_eq_true] at h
  exact h.1.2
def headRel (d : TDep) : Int := (d.2.1.getD 0 zFact).1
def bodyRel (d : TDep) : Int := (d.1.getD 0 zFact).1
def defOk (l : List TRel) (d : TDep) : Bool := d.1.all (fun a => srcAt l a.1) && full d && (d.2.1.length == 1)
def useOk (l : List TRel) (d : TDep) : Bool := (d.1.length == 1) && !d.2.2.1 && !(srcAt l (bodyRel d))
def closedR (defs rs : List TDep) : List Int := defs.map headRel ++ rs.map bodyRel
def canU (l : List TRel) (defs rs : List TDep) : Bool := vDeps l defs && vDeps l rs && defs.all (defOk l) && rs.all (useOk l) && rs.all (fun r => r.2.1.all fun a => !decide (a.1 ∈ closedR defs rs))
theorem canU_def {l : List TRel} {defs rs : List TDep} {d : TDep} (hd : d ∈ defs) (h : defOk l d = false) : canU l defs rs = false := by
  unfold canU
  have : defs.all (defOk l) = false := by
    rw [Bool.eq_false_iff]; intro hall
    have := List.all_eq_true.mp hall d hd; rw [h] at this; cases this
  rw [this]; simp
theorem canU_use {l : List TRel} {defs rs : List TDep} {d : TDep} (hd : d ∈ rs) (h : useOk l d = false) : canU l defs rs = false := by
  unfold canU
  have : rs.all (useOk l) = false := by
    rw [Bool.eq_false_iff]; intro hall
    have := List.all_eq_true.mp hall d hd; rw [h] at this; cases this
  rw [this]; simp
theorem canU_head {l : List TRel} {defs rs : List TDep} {d : TDep} {a : TFact} (hd : d ∈ rs) (ha : a ∈ d.2.1) (h : a.1 ∈ closedR defs rs) : canU l defs rs = false := by
  unfold canU
  have : rs.all (fun r => r.2.1.all fun a => !decide (a.1 ∈ closedR defs rs)) = false := by
    rw [Bool.eq_false_iff]; intro hall
    have := List.all_eq_true.mp (List.all_eq_true.mp hall d hd) a ha
    simp [h] at this
  rw [this]; simp
theorem canU_yes {l : List TRel} {defs rs : List TDep} (h1 : vDeps l defs = true) (h2 : vDeps l rs = true) (h3 : ∀ d ∈ defs, defOk l d = true) (h4 : ∀ d ∈ rs, useOk l d = true) (h5 : ∀ d ∈ rs, ∀ a ∈ d.2.1, a.1 ∉ closedR defs rs) : canU l defs rs = true := by
  unfold canU
  rw [h1, h2, List.all_eq_true.mpr h3, List.all_eq_true.mpr h4]
  simp only [Bool.true_and]
  exact List.all_eq_true.mpr fun d hd => List.all_eq_true.mpr fun a ha => by simp [h5 d hd a ha]
theorem law {x0 : TDep} (_ : Bnd (h24) x0) : G_lFnExactIsFull x0 true := M_lFnExactIsFull _ _ (by
  unfold S_lFnExactIsFull
  refine ⟨_, g_lszDependency (by omega) (by omega), bc_fits (by omega) (fun _ => rfl) fun h1 => ?_⟩
  try rw [fits_of_ge h1]
  have hB0 : bulk k8 x0 ≤ 1099511627776 := by omega
  have hS0 : bulk k8 x0 ≤ 1048576 := by omega
  refine ⟨_, g_ltoDependency (hB0), ?_⟩
  refine ⟨_, g_sIsFull (dep_small hS0).1 (dep_small hS0).2, ?_⟩
  refine ⟨_, g_ltoDependency (hB0), ?_⟩
  refine ⟨_, g_iIsFull (dep_small hS0).1 (dep_small hS0).2, ?_⟩
  refine bc_nb (fun h => absurd rfl h) fun _ => ?_
  refine ⟨_, g_ltoDependency (hB0), ?_⟩
  refine ⟨_, g_leqDependency, bc_nd (fun h => absurd rfl h) fun _ => ?_⟩
  rfl)
end Go.V
