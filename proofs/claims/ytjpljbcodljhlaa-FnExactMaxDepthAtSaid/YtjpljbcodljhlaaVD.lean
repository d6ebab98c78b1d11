/-
  Regions whose order is open: what may be taken first.
-/
import Derived.Test.YtjpljbcodljhlaaVC
import Derived.OrdersHeld
set_option linter.unusedVariables false
set_option linter.unusedSimpArgs false
namespace Go.V
open Go

section
variable {P : Program} {ops : Array Oper} {Q : Exit → Act → World → Prop} {md : Region.Mode} {S : Array Bool → World → Prop}

/-- Whatever order is picked from here on, and S holds behind every operation. -/
def wpAnyS (P : Program) (md : Region.Mode) (ops : Array Oper) (Q : Exit → Act → World → Prop) (S : Array Bool → World → Prop) : Nat → Array Bool → Act → World → Prop
  | 0, listed, a, w => Region.ready md ops listed = [] ∧ Q .normal a w
  | fuel + 1, listed, a, w =>
    (Region.ready md ops listed = [] → Q .normal a w) ∧
    ∀ i ∈ Region.ready md ops listed, wpOp P ops Q i (fun a' w' => S (listed.setIfInBounds i true) w' ∧ wpAnyS P md ops Q S fuel (listed.setIfInBounds i true) a' w') a w

theorem wpAny_of_S : ∀ (fuel : Nat) (listed : Array Bool) (a : Act) (w : World), wpAnyS P md ops Q S fuel listed a w → wpAny P md ops Q fuel listed a w
  | 0, _, _, _, h => h
  | fuel + 1, _, _, _, h => ⟨h.1, fun i hi => wpOp_mono (fun a' w' h' => wpAny_of_S fuel _ a' w' h'.2) (h.2 i hi)⟩

/-- Where all that has not come up yet is in U, a condition that ends with U asks nothing. -/
theorem wpAnyS_more {S0 : World → Prop} {U : Nat → Prop} : ∀ (fuel : Nat) (listed : Array Bool) (a : Act) (w : World), (∀ j, listed.getD j true = false → U j) → wpAnyS P md ops Q S fuel listed a w →
    wpAnyS P md ops Q (fun L w' => S L w' ∧ ((∀ j, U j → L.getD j false = false) → S0 w')) fuel listed a w
  | 0, _, _, _, _, h => h
  | fuel + 1, listed, a, w, hU, h => by
    refine ⟨h.1, fun i hi => wpOp_mono (fun a' w' h' => ⟨⟨h'.1, fun hn => ?_⟩, wpAnyS_more fuel _ a' w' (fun j hj => hU j ?_) h'.2⟩) (h.2 i hi)⟩
    · have h0 := (mem_ready.1 hi).1
      have := hn i (hU i h0)
      rcases Nat.lt_or_ge i listed.size with h' | h'
      · simp [h'] at this
      · simp [Array.getElem?_eq_none h'] at h0
    · rcases Nat.lt_or_ge i listed.size with h' | h'
      · by_cases hij : i = j
        · subst hij; simp [h'] at hj
        · rw [getD_set_ne true hij] at hj; exact hj
      · rw [show listed.setIfInBounds i true = listed by simp [Array.setIfInBounds, Nat.not_lt.mpr h']] at hj; exact hj

/-- An operation that may come up now may be taken first: D are those that wait for it; Si holds till one of them comes up. -/
theorem wpAnyS_first {i : Nat} {oi : Oper} {v : Value} {Si : World → Prop} {D : Nat → Prop} (hi : ops[i]? = some oi) (hsel : ∀ (j : Nat) (o : Oper) cs b, ops[j]? = some o → o.op ≠ .select cs b)
    (hQ : ∀ c a w, Q (.panic c) (a.put oi.dst v) w → Q (.panic c) a w)
    (hD : ∀ j o, ops[j]? = some o → D j → ∃ e ∈ o.after, Region.binds md e = true ∧ (e.on = i ∨ D e.on))
    (hSi : ∀ L w', (∀ j, D j → L.getD j false = false) → S L w' → Si w') (hSm : ∀ L w', (∀ j, D j → L.getD j false = false) → S (L.setIfInBounds i true) w' → S L w') :
    ∀ (fuel : Nat) (listed : Array Bool) (a : Act) (w : World),
      (∀ j oj, ops[j]? = some oj → j ≠ i → listed.getD j true = false → (∀ e ∈ oj.after, Region.binds md e = true → e.on ≠ i) → oi.apart ops oj = true) →
      i ∈ Region.ready md ops listed → (∀ j, D j → listed.getD j false = false) → YieldsIf P ops Si oi v a → Si w → S (listed.setIfInBounds i true) w →
      wpAnyS P md ops Q S fuel (listed.setIfInBounds i true) (a.put oi.dst v) w → wpAnyS P md ops Q S (fuel + 1) listed a w := by
  intro fuel
  induction fuel with
  | zero =>
    intro listed a w hfree hr hd hy hS hS' H
    refine ⟨fun h => (by rw [h] at hr; cases hr), fun j hj => ?_⟩
    by_cases hji : j = i
    · subst hji; exact hy.wpOp hi hS ⟨hS', H⟩
    · have := ready_mono hj hji
      rw [H.1] at this
      cases this
  | succ fuel ih =>
    intro listed a w hfree hr hd hy hS hS' H
    refine ⟨fun h => (by rw [h] at hr; cases hr), fun j hj => ?_⟩
    by_cases hji : j = i
    · subst hji; exact hy.wpOp hi hS ⟨hS', H⟩
    · have h1 := H.2 j (ready_mono hj hji)
      obtain ⟨hjun, oj, hoj, hall⟩ := mem_ready.1 hj
      have hiun : listed.getD i true = false := (mem_ready.1 hr).1
      have hifalse : listed.getD i false = false := by
        rcases Nat.lt_or_ge i listed.size with h' | h'
        · simp [h'] at hiun ⊢; exact hiun
        · simp [Array.getElem?_eq_none h']
      have hnot : ∀ e ∈ oj.after, Region.binds md e = true → e.on ≠ i := fun e he hb heq => by
        have h1 := hall e he hb
        rw [heq, hifalse] at h1
        cases h1
      have hDj : ¬ D j := by
        intro hDj
        obtain ⟨e, he, hb, h'⟩ := hD j oj hoj hDj
        rcases h' with h' | h'
        · exact hnot e he hb h'
        · have := hall e he hb; rw [hd _ h'] at this; cases this
      have hd' : ∀ k, D k → (listed.setIfInBounds j true).getD k false = false := by
        intro k hk
        have hjk : j ≠ k := by rintro rfl; exact hDj hk
        rw [getD_set_ne false hjk]; exact hd k hk
      have h2 := wpOp_putIf hoj (hfree j oj hoj hji hjun hnot) (fun cs b => hsel i oi cs b hi) (fun cs b => hsel j oj cs b hoj) hQ hy h1
      have hfree' : ∀ k ok, ops[k]? = some ok → k ≠ i → (listed.setIfInBounds j true).getD k true = false →
          (∀ e ∈ ok.after, Region.binds md e = true → e.on ≠ i) → oi.apart ops ok = true := fun k ok hk hki hun hno => by
        refine hfree k ok hk hki ?_ hno
        by_cases hjk : j = k
        · subst hjk; exact hjun
        · rw [getD_set_ne true hjk] at hun; exact hun
      refine wpOp_mono (fun a' w' h3 => ?_) h2
      obtain ⟨h3, h4, h5⟩ := h3
      rw [Array.setIfInBounds_comm _ _ (Ne.symm hji)] at h4 h5
      have h6 := hSm _ w' hd' h4
      exact ⟨h6, ih (listed.setIfInBounds j true) a' w' hfree' (ready_mono hr (Ne.symm hji)) hd' h3 (hSi _ w' hd' h6) h4 h5⟩
end
end Go.V
/- Roots that stay: the relation, turned. -/
namespace Go.V
open Go

theorem mem_delKeys {pk : List Nat} {k : Nat} {r : Root} : ∀ {l : List (Nat × Root)}, (k, r) ∈ delKeys pk l ↔ (k, r) ∈ l ∧ k ∉ pk := by
  intro l
  induction l with
  | nil => simp [delKeys]
  | cons q l ih =>
    obtain ⟨j, u⟩ := q
    simp only [delKeys]
    cases hm : memN j pk with
    | true =>
      simp only [ih, List.mem_cons, Prod.mk.injEq]
      have := memN_iff.mp hm
      constructor
      · rintro ⟨h1, h2⟩; exact ⟨.inr h1, h2⟩
      · rintro ⟨⟨rfl, rfl⟩ | h1, h2⟩
        · exact absurd this h2
        · exact ⟨h1, h2⟩
    | false =>
      simp only [List.mem_cons, Prod.mk.injEq, ih]
      have : j ∉ pk := by rw [← memN_iff, hm]; simp
      constructor
      · rintro (⟨rfl, rfl⟩ | ⟨h1, h2⟩)
        · exact ⟨.inl ⟨rfl, rfl⟩, this⟩
        · exact ⟨.inr h1, h2⟩
      · rintro ⟨⟨rfl, rfl⟩ | h1, h2⟩
        · exact .inl ⟨rfl, rfl⟩
        · exact .inr ⟨h1, h2⟩
theorem delKeys_sub (pk : List Nat) (l : List (Nat × Root)) : (delKeys pk l).Sublist l := by
  induction l with
  | nil => exact List.Sublist.refl _
  | cons q l ih =>
    obtain ⟨j, u⟩ := q
    simp only [delKeys]
    split
    · exact ih.cons _
    · exact ih.cons_cons _
theorem constsR_spec {s : St} : ∀ {pk : List Nat} {cr : List (Nat × Root)}, constsR s pk = some cr → cr.map (·.1) = pk ∧ ∀ k r, (k, r) ∈ cr → look k s.roots = some r := by
  intro pk
  induction pk with
  | nil => intro cr h; simp only [constsR, Option.some.injEq] at h; subst h; simp
  | cons k pk ih =>
    intro cr h
    simp only [constsR] at h
    split at h
    · rename_i r rs h1 h2
      simp only [Option.some.injEq] at h
      subst h
      obtain ⟨g1, g2⟩ := ih h2
      refine ⟨by simp [g1], fun j u hj => ?_⟩
      rcases List.mem_cons.mp hj with hj | hj
      · cases hj; exact h1
      · exact g2 j u hj
    · simp at h
theorem consts_perm {s : St} {pk : List Nat} {cr : List (Nat × Root)} (h : constsR s pk = some cr) (hn : pk.Nodup) (hk : (s.roots.map (·.1)).Nodup) : s.roots.Perm (delKeys pk s.roots ++ cr) := by
  obtain ⟨g1, g2⟩ := constsR_spec h
  refine (List.perm_ext_iff_of_nodup (nodup_of_keys hk) ?_).mpr ?_
  · refine List.nodup_append.mpr ⟨List.Nodup.sublist (delKeys_sub _ _) (nodup_of_keys hk), nodup_of_keys (by rw [g1]; exact hn), ?_⟩
    rintro ⟨k, r⟩ h1 _ h2 rfl
    exact (mem_delKeys.mp h1).2 (by rw [← g1]; exact List.mem_map.mpr ⟨_, h2, rfl⟩)
  · rintro ⟨k, r⟩
    rw [List.mem_append, mem_delKeys]
    constructor
    · intro h1
      by_cases hm : k ∈ pk
      · right
        rw [← g1] at hm
        obtain ⟨⟨j, u⟩, h2, rfl⟩ := List.mem_map.mp hm
        have := g2 _ _ h2
        rw [mem_look hk h1] at this
        cases this; exact h2
      · exact .inl ⟨h1, hm⟩
    · rintro (⟨h1, _⟩ | h1)
      · exact h1
      · exact look_mem (g2 _ _ h1)

theorem fz_congr {X X' : Fr} {w : World} {l l' : List Nat} (hz : X'.z = X.z) (hl : ∀ b, b ∈ l' ↔ b ∈ l) : fzOf X' w l' = fzOf X w l := by
  funext b
  apply propext
  constructor
  · rintro ⟨h1, h2, h3⟩; exact ⟨h1, fun hm => h2 ((hl b).mpr hm), by rw [← hz]; exact h3⟩
  · rintro ⟨h1, h2, h3⟩; exact ⟨h1, fun hm => h2 ((hl b).mp hm), by rw [hz]; exact h3⟩
theorem getR_congr {C s C' s' : St} (hk : ((s.roots ++ C.roots).map (·.1)).Nodup) (hp : (s'.roots ++ C'.roots).Perm (s.roots ++ C.roots)) : getR C' s' = getR C s := by
  have hk' : ((s'.roots ++ C'.roots).map (·.1)).Nodup := (hp.map _).nodup_iff.mpr hk
  funext k
  apply Option.ext
  intro r
  rw [mem_getR hk, mem_getR hk', hp.mem_iff]

section
variable {C s C' s' : St} {X X' : Fr} {w0 w0' w : World} {a : Act} {rc : Nat → RC}

/-- The same state, seen from elsewhere. -/
theorem Rel.turn (h : Rel rc [] C s X w0 a w) (hp : (s'.roots ++ C'.roots).Perm (s.roots ++ C.roots)) (ht : s'.tmps = s.tmps) (hct : C'.tmps = C.tmps) (hz : X'.z = X.z) (hn : X'.n = X.n)
    (hb : ∀ b ∈ allB rc (s.roots ++ C.roots), w0'.heap.size ≤ b ∨ b ∈ X'.x) (he : Ext X'.x w0' w)
    (hic : X'.ic = X.ic) (hib : X'.ib = X.ib) (hzo : (∀ b, w0'.heap.size ≤ b → X'.z b) ∧ ∀ b ∈ X'.x, X'.z b) (hc : ∀ k b, X'.c k b → (∃ r, (k, r) ∈ C'.roots ∧ b ∈ blocks r (rc k)) ∧ w.heap[b]? = w0'.heap[b]?) :
    Rel rc [] C' s' X' w0' a w := by
  have hP : (allB rc (s'.roots ++ C'.roots)).Perm (allB rc (s.roots ++ C.roots)) := allB_perm hp
  have hfz : fzOf X' w ([] ++ allB rc (s'.roots ++ C'.roots)) = fzOf X w ([] ++ allB rc (s.roots ++ C.roots)) := fz_congr hz fun b => by simpa using hP.mem_iff
  have hR : getR C' s' = getR C s := getR_congr h.keys hp
  refine ⟨(hp.map _).nodup_iff.mpr h.keys, ?_, ?_, ?_, by rw [ht]; exact h.tn, ?_, ?_, he, h.nd, hzo, hc, by rw [hn]; exact h.tsz, fun k r hk => by rw [hic, hib]; exact h.inn k r (hp.mem_iff.mp hk)⟩
  · simpa using hP.nodup_iff.mpr (by simpa using h.excl)
  · intro b hb'
    have hm : b ∈ allB rc (s.roots ++ C.roots) := hP.mem_iff.mp (by simpa using hb')
    exact ⟨(h.bnd b (by simpa using hm)).1, hb b hm⟩
  · intro k r hk; rw [hfz]; exact h.roots k r (hp.mem_iff.mp hk)
  · intro t v htv; rw [hct]; exact h.td t v (by rw [← ht]; exact htv)
  · intro t v htv
    rw [hfz, hR]
    exact h.tm t v (by rw [← ht, ← hct]; exact htv)

/-- The frame within which a part of a region is gone through. -/
def innerFr (X : Fr) (rc : Nat → RC) (C s : St) (cr : List (Nat × Root)) : Fr :=
  ⟨allB rc (s.roots ++ C.roots), X.z, fun k b => ∃ r, (k, r) ∈ cr ++ C.roots ∧ b ∈ blocks r (rc k), X.n, X.ic, X.ib⟩

theorem Ext.refl' (l : List Nat) (w : World) : Ext l w w := ⟨rfl, rfl, rfl, Nat.le_refl _, fun _ _ _ => rfl⟩

theorem Rel.into (h : Rel rc [] C s X w0 a w) {pk : List Nat} {cr : List (Nat × Root)} (hc : constsR s pk = some cr) (hn : pk.Nodup) :
    Rel rc [] ⟨C.tmps, cr ++ C.roots⟩ ⟨s.tmps, delKeys pk s.roots⟩ (innerFr X rc C s cr) w a w := by
  have hk : (s.roots.map (·.1)).Nodup := by have := h.keys; rw [List.map_append] at this; exact (List.nodup_append.mp this).1
  have hp : (delKeys pk s.roots ++ (cr ++ C.roots)).Perm (s.roots ++ C.roots) := by
    rw [← List.append_assoc]; exact (consts_perm hc hn hk).symm.append_right _
  refine h.turn (s' := ⟨s.tmps, delKeys pk s.roots⟩) (C' := ⟨C.tmps, cr ++ C.roots⟩) hp rfl rfl rfl rfl (fun b hb => .inr hb) (Ext.refl' _ _) rfl rfl ⟨fun b hb => h.zok.1 b (Nat.le_trans h.ext.size hb), fun b hb => ?_⟩ ?_
  · exact (h.bnd b (by simpa [innerFr] using hb)).2.elim (h.zok.1 b) (h.zok.2 b)
  · rintro k b ⟨r, h1, h2⟩; exact ⟨⟨r, h1, h2⟩, rfl⟩

theorem Rel.outOf {rc1 : Nat → RC} {s1 : St} {a1 : Act} {w1 : World} (h : Rel rc [] C s X w0 a w) {pk : List Nat} {cr : List (Nat × Root)} (hc : constsR s pk = some cr) (hn : pk.Nodup)
    (h1 : Rel rc1 [] ⟨C.tmps, cr ++ C.roots⟩ s1 (innerFr X rc C s cr) w a1 w1) : Rel rc1 [] C ⟨s1.tmps, s1.roots ++ cr⟩ X w0 a1 w1 := by
  refine h1.turn (s' := ⟨s1.tmps, s1.roots ++ cr⟩) (C' := C) (by rw [List.append_assoc]) rfl rfl rfl rfl (fun b hb => ?_) ?_ rfl rfl h.zok ?_
  · rcases (h1.bnd b (by simpa using hb)).2 with hh | hh
    · exact .inl (Nat.le_trans h.ext.size hh)
    · exact (h.bnd b (by simpa [innerFr] using hh)).2
  · refine ⟨h1.ext.os.trans h.ext.os, h1.ext.tape.trans h.ext.tape, h1.ext.output.trans h.ext.output, Nat.le_trans h.ext.size h1.ext.size, fun b hb hx => ?_⟩
    refine (h1.ext.block b (Nat.lt_of_lt_of_le hb h.ext.size) fun hm => ?_).trans (h.ext.block b hb hx)
    rcases (h.bnd b (by simpa [innerFr] using hm)).2 with hh | hh
    · omega
    · exact hx hh
  · intro k b hkb
    obtain ⟨⟨r, g1, g2⟩, g3⟩ := h.cfx k b hkb
    obtain ⟨⟨r', k1, k2⟩, k3⟩ := h1.cfx k b ⟨r, List.mem_append_right _ g1, g2⟩
    have hk := h1.keys
    have e1 : look k (s1.roots ++ (cr ++ C.roots)) = some r' := mem_look hk (List.mem_append_right _ k1)
    have : ∃ r'', (k, r'') ∈ C.roots ∧ b ∈ blocks r'' (rc1 k) := by
      rcases List.mem_append.mp k1 with k1' | k1'
      · -- a key of C cannot be one of cr
        have hn2 := h1.keys
        simp only [List.map_append] at hn2
        have := (List.nodup_append.mp (List.nodup_append.mp hn2).2.1).2.2 k (List.mem_map.mpr ⟨_, k1', rfl⟩) k (List.mem_map.mpr ⟨_, g1, rfl⟩)
        exact absurd rfl this
      · exact ⟨r', k1', k2⟩
    exact ⟨this, k3.trans g3⟩
end
end Go.V
/- Regions: one operation, then all in a drawn order. -/
namespace Go.V
open Go

section
variable {P : Program} {E : Env} {C s : St} {X : Fr} {w0 w : World} {a : Act} {rc : Nat → RC} {o : Oper} {ops : Array Oper} {K : St → Prop} {Q : Exit → Act → World → Prop}

theorem put_same {t : Nat} {c : Value} (h : a.tmps[t]? = some c) : a.put (some t) c = a := by
  obtain ⟨tm, df⟩ := a
  have : tm.setIfInBounds t c = tm := by
    have h1 : t < tm.size := by
      rcases Nat.lt_or_ge t tm.size with h' | h'
      · exact h'
      · simp [Array.getElem?_eq_none h'] at h
    have h2 : tm[t] = c := by simpa [h1] using h
    apply Array.ext'
    rw [Array.toList_setIfInBounds, ← h2]
    exact (List.set_getElem_self (as := tm.toList) (i := t) (h := by simpa using h1))
  simp [Act.put, this]

theorem put_roots {d : Nat} {v : Val} {s1 : St} (h : put C s d v = some s1) : s1.roots = s.roots := by
  unfold put at h
  split at h
  · cases h; rfl
  · simp at h

theorem put_keys {t : Nat} {b : Bool} {s1 : St} (h : put C s t (.t .bool .z b) = some s1) : ∀ x v, evalV C s1 none x = some v → evalV C s none x = some v ∨ keys v = [] := by
  have e : s1 = ⟨upd t (.t .bool .z b) s.tmps, s.roots⟩ := by
    unfold put at h
    split at h
    · cases h; rfl
    · simp at h
  subst e
  intro x v hv
  cases x with
  | tmp j =>
    have hv : (match look j (upd t (.t .bool .z b) s.tmps) with | some v => some v | none => look j C.tmps) = some v := hv
    rw [look_upd] at hv
    by_cases hj : j = t
    · rw [if_pos hj] at hv
      cases hv
      exact .inr rfl
    · rw [if_neg hj] at hv
      exact .inl hv
  | const c => exact .inl hv
  | func f => exact .inl hv
  | global g => exact .inl hv

theorem Rel.reput (h : Rel rc [] C s X w0 a w) {t : Nat} {v : Val} {c : Value} {s1 : St} (hp : Go.V.put C s t v = some s1) (hc : a.tmps[t]? = some c)
    (hv : VOk w (fzOf X w ([] ++ allB rc (s.roots ++ C.roots))) (getR C s) rc v c) : Rel rc [] C s1 X w0 a w := by
  have hd : t < a.tmps.size := by
    rcases Nat.lt_or_ge t a.tmps.size with h' | h'
    · exact h'
    · simp [Array.getElem?_eq_none h'] at hc
  have := h.put hv hp hd
  rwa [put_same hc] at this

theorem dstOf_toList (j : Nat) : dstOf ops.toList j = (ops[j]?).bind (·.dst) := by
  unfold dstOf
  rw [Array.getElem?_toList]
  cases ops[j]? <;> rfl

theorem opM_cases (h : Rel rc [] C s X w0 a w) (hk : opM E C ops.toList o s K) :
    (Region.wanted o (yielded ops a.tmps) = true ∧ ∃ s1, s1.roots = s.roots ∧ (∀ x v, evalV C s1 none x = some v → evalV C s none x = some v ∨ keys v = []) ∧ Rel rc [] C s1 X w0 a w ∧ (opV E C o (o.dst.getD 999) s1).bind (putM C o.dst) K) ∨
    (Region.wanted o (yielded ops a.tmps) = false ∧ ∃ s1, s1.roots = s.roots ∧ Rel rc [] C s1 X w0 a w ∧ skipM C o.dst s1 K) := by
  unfold opM at hk
  cases hg : o.guard with
  | none =>
    rw [hg] at hk
    exact .inl ⟨by simp [Region.wanted, hg], s, rfl, fun _ _ h => .inl h, h, hk⟩
  | some q =>
    obtain ⟨j, want⟩ := q
    rw [hg] at hk
    simp only at hk
    cases hd : dstOf ops.toList j with
    | none => rw [hd] at hk; exact hk.elim
    | some t =>
      rw [hd] at hk
      simp only [Option.bind_some] at hk
      cases hv : getT C s t with
      | none => rw [hv] at hk; exact hk.elim
      | some v =>
        rw [hv] at hk
        simp only [Option.map_some] at hk
        cases v with
        | t sh oo b =>
          cases sh <;> try (exact hk.elim)
          cases oo <;> try (exact hk.elim)
          obtain ⟨c, hc, hvo⟩ := h.getT hv
          obtain ⟨b, rfl⟩ : ∃ b' : Bool, b' = b := ⟨b, rfl⟩
          have hcb := VOk.bool hvo
          subst hcb
          have hy : yielded ops a.tmps j = some b := by
            unfold yielded
            rw [← dstOf_toList, hd]
            simp [hc]
          have hw : Region.wanted o (yielded ops a.tmps) = (some b == some want) := by simp [Region.wanted, hg, hy]
          rw [hw]
          simp only at hk
          cases b with
          | true =>
            simp only [bcase] at hk
            cases hp : put C s t (.t .bool .z true) with
            | none => rw [hp] at hk; exact hk.elim
            | some s1 =>
              rw [hp] at hk
              simp only at hk
              have h1 := h.reput hp hc vok_bool
              cases want with
              | true => exact .inl ⟨rfl, s1, put_roots hp, put_keys hp, h1, hk⟩
              | false => exact .inr ⟨rfl, s1, put_roots hp, h1, hk⟩
          | false =>
            simp only [bcase] at hk
            cases hp : put C s t (.t .bool .z false) with
            | none => rw [hp] at hk; exact hk.elim
            | some s1 =>
              rw [hp] at hk
              simp only at hk
              have h1 := h.reput hp hc vok_bool
              cases want with
              | true => exact .inr ⟨rfl, s1, put_roots hp, h1, hk⟩
              | false => exact .inl ⟨rfl, s1, put_roots hp, put_keys hp, h1, hk⟩
        | tnil =>
          obtain ⟨c, hc, rfl⟩ := h.getT hv
          have hy : yielded ops a.tmps j = none := by
            unfold yielded
            rw [← dstOf_toList, hd]
            simp [hc]
          exact .inr ⟨by simp [Region.wanted, hg, hy], s, rfl, h, hk⟩
        | _ => exact hk.elim

theorem skipM_ok (h : Rel rc [] C s X w0 a w) {d : Option Tmp} (hd : ∀ t, d = some t → t < X.n) (hk : skipM C d s K) : ∃ s1, K s1 ∧ s1.roots = s.roots ∧ Rel rc [] C s1 X w0 (a.put d undef) w := by
  cases d with
  | none => exact ⟨s, hk, rfl, h⟩
  | some t =>
    simp only [skipM] at hk
    cases hp : put C s t .tnil with
    | none => rw [hp] at hk; exact hk.elim
    | some s1 =>
      rw [hp] at hk
      exact ⟨s1, hk, put_roots hp, h.put (v := .tnil) rfl hp (by rw [h.tsz]; exact hd t rfl)⟩

theorem putM_ok {a : Act} (h : Rel rc [] C s X w0 a w) {d : Option Tmp} (hd : ∀ t, d = some t → t < X.n) {v : Val} {c : Value} (hv : VOk w (fzOf X w ([] ++ allB rc (s.roots ++ C.roots))) (getR C s) rc v c) (hk : putM C d (v, s) K) :
    ∃ s1, K s1 ∧ s1.roots = s.roots ∧ Rel rc [] C s1 X w0 (a.put d c) w := by
  cases d with
  | none => exact ⟨s, hk, rfl, h⟩
  | some t =>
    simp only [putM] at hk
    cases hp : put C s t v with
    | none => rw [hp] at hk; exact hk.elim
    | some s1 =>
      rw [hp] at hk
      exact ⟨s1, hk, put_roots hp, h.put hv hp (by rw [h.tsz]; exact hd t rfl)⟩

/-- One operation, whatever it is. -/
theorem opM_any (hE : ∀ t s, E.sh t = some s → ShOk P s none t) (hG : ∀ f us rs outs, E.gives f us rs outs → GivesS P f us rs outs) (h : Rel rc [] C s X w0 a w) {i : Nat} (hi : ops[i]? = some o)
    (hd : ∀ t, o.dst = some t → t < X.n) (hk : opM E C ops.toList o s K) : wpOp P ops Q i (fun a' w' => ∃ s1 rc1, K s1 ∧ Rel rc1 [] C s1 X w0 a' w') a w := by
  unfold wpOp
  rw [hi]
  simp only
  rcases opM_cases h hk with ⟨hw, s1, _, _, h1, hk⟩ | ⟨hw, s1, _, h1, hk⟩
  · rw [hw]
    simp only [if_true]
    refine .inl ((opV_ok hE hG h1 hk).wp fun c w' hp => ?_)
    obtain ⟨v, s2, rc1, hk2, h2, hv⟩ := hp
    obtain ⟨s3, hk3, _, h3⟩ := putM_ok h2 hd hv hk2
    exact ⟨s3, rc1, hk3, h3⟩
  · rw [hw]
    simp only [Bool.false_eq_true, if_false]
    obtain ⟨s2, hk2, _, h2⟩ := skipM_ok h1 hd hk
    exact ⟨s2, rc, hk2, h2⟩

theorem opM_tmp (hE : ∀ t s, E.sh t = some s → ShOk P s none t) (h : Rel rc [] C s X w0 a w) (hd : ∀ t, o.dst = some t → t < X.n) (ht : tmpOp o.op = true) (hk : opM E C ops.toList o s K) :
    ∃ c s1, YieldsIf P ops (fun _ => True) o c a ∧ K s1 ∧ s1.roots = s.roots ∧ Rel rc [] C s1 X w0 (a.put o.dst c) w := by
  rcases opM_cases h hk with ⟨hw, s1, hr, _, h1, hk⟩ | ⟨hw, s1, hr, h1, hk⟩
  · obtain ⟨c, v, g1, g2, g3⟩ := tmp_ok hE h1 ht hk
    obtain ⟨s2, k1, k2, k3⟩ := putM_ok h1 hd g3 g2
    exact ⟨c, s2, .inl ⟨hw, g1⟩, k1, k2.trans hr, k3⟩
  · obtain ⟨s2, k1, k2, k3⟩ := skipM_ok h1 hd hk
    exact ⟨undef, s2, .inr ⟨hw, rfl⟩, k1, k2.trans hr, k3⟩

theorem opM_mem (hE : ∀ t s, E.sh t = some s → ShOk P s none t) (h : Rel rc [] C s X w0 a w) (hd : ∀ t, o.dst = some t → t < X.n) {x : Operand} (ht : memOp o.op = some x) (hk : opM E C ops.toList o s K)
    {F : Nat → Prop} (hF : ∀ b, fzOf X w ([] ++ allB rc (s.roots ++ C.roots)) b → F b)
    (hF2 : ∀ v, evalV C s none x = some v → ∀ k ∈ keys v, ∀ r, getR C s k = some r → ∀ b ∈ blocks r (rc k), F b) :
    ∃ c s1, YieldsIf P ops (fun w' => ∀ b, F b → w'.heap[b]? = w.heap[b]?) o c a ∧ K s1 ∧ s1.roots = s.roots ∧ Rel rc [] C s1 X w0 (a.put o.dst c) w := by
  rcases opM_cases h hk with ⟨hw, s1, hr, hkey, h1, hk⟩ | ⟨hw, s1, hr, h1, hk⟩
  · have hR : getR C s1 = getR C s := by funext k; unfold getR; rw [hr]
    obtain ⟨c, v, g1, g2, g3⟩ := mem_ok hE h1 ht hk (F := F) (by rw [hr]; exact hF) (fun v hv k hkv r hgr b hb => by
      rcases hkey x v hv with hv | hv
      · exact hF2 v hv k hkv r (by rw [← hR]; exact hgr) b hb
      · rw [hv] at hkv; simp at hkv)
    obtain ⟨s2, k1, k2, k3⟩ := putM_ok h1 hd g3 g2
    exact ⟨c, s2, .inl ⟨hw, g1⟩, k1, k2.trans hr, k3⟩
  · obtain ⟨s2, k1, k2, k3⟩ := skipM_ok h1 hd hk
    exact ⟨undef, s2, .inr ⟨hw, rfl⟩, k1, k2.trans hr, k3⟩

/- ## a region in the order of its text -/
theorem opsM_ok (hE : ∀ t s, E.sh t = some s → ShOk P s none t) (hG : ∀ f us rs outs, E.gives f us rs outs → GivesS P f us rs outs) (hd : ∀ o ∈ ops.toList, ∀ t, o.dst = some t → t < X.n) :
    ∀ {l : List Nat} {s : St} {a : Act} {w : World} {rc : Nat → RC}, Rel rc [] C s X w0 a w → opsM E C ops.toList l s K → (∀ s1 rc1 a1 w1, K s1 → Rel rc1 [] C s1 X w0 a1 w1 → Q .normal a1 w1) → wpOps P ops Q l a w := by
  intro l
  induction l with
  | nil => intro s a w rc h hk hQ; exact hQ s rc a w hk h
  | cons i l ih =>
    intro s a w rc h hk hQ
    rw [wpOps_cons]
    simp only [opsM, Array.getElem?_toList] at hk
    cases hi : ops[i]? with
    | none => rw [hi] at hk; exact hk.elim
    | some o =>
      rw [hi] at hk
      refine wpOp_mono ?_ (opM_any hE hG h hi (hd o (Array.mem_toList_iff.mpr (Array.mem_of_getElem? hi))) hk)
      rintro a' w' ⟨s1, rc1, k1, k2⟩
      exact ih k2 k1 hQ
theorem countUp_eq : ∀ (n i : Nat), countUp i n = List.range' i n := by
  intro n
  induction n with
  | zero => intro i; rfl
  | succ n ih => intro i; simp [countUp, ih, List.range'_succ]
end
end Go.V
/- Regions whose order is open: any order. -/
namespace Go.V
open Go

theorem readyP_eq (ops : Array Oper) (L : Array Bool) : readyP ops L = Region.ready .any ops L := rfl
theorem looksP_eq (ops : Array Oper) (o : Oper) : looksP ops o = o.looksAt ops := rfl
theorem apartP_eq (ops : Array Oper) (x y : Oper) : apartP ops x y = x.apart ops y := rfl
theorem freeP_eq (ops : Array Oper) (L : Array Bool) (i : Nat) : freeP ops L i = Region.free .any ops L i := rfl

/- ## who waits -/
theorem deps_pre (i : Nat) : ∀ (l : List Oper) (acc : List Bool), ∃ r, deps i l acc = acc ++ r := by
  intro l
  induction l with
  | nil => intro acc; exact ⟨[], by simp [deps]⟩
  | cons o l ih => intro acc; obtain ⟨r, h⟩ := ih (acc ++ [o.after.toList.any fun e => Region.binds .any e && (Nat.beq e.on i || acc.getD e.on false)]); exact ⟨_, by rw [deps, h, List.append_assoc]⟩
theorem deps_spec (i : Nat) : ∀ (l : List Oper) (acc : List Bool) (k : Nat) (o : Oper), l[k]? = some o → (deps i l acc).getD (acc.length + k) false = true →
    ∃ e ∈ o.after, Region.binds .any e = true ∧ (e.on = i ∨ (e.on < acc.length + k ∧ (deps i l acc).getD e.on false = true)) := by
  intro l
  induction l with
  | nil => intro acc k o h; simp at h
  | cons q l ih =>
    intro acc k o h hd
    cases k with
    | zero =>
      simp only [List.getElem?_cons_zero, Option.some.injEq] at h
      subst h
      rw [deps] at hd ⊢
      obtain ⟨r, hr⟩ := deps_pre i l (acc ++ [q.after.toList.any fun e => Region.binds .any e && (Nat.beq e.on i || acc.getD e.on false)])
      rw [hr] at hd ⊢
      simp only [Nat.add_zero, List.getD_eq_getElem?_getD, List.append_assoc, List.getElem?_append_right (Nat.le_refl _), Nat.sub_self, List.cons_append, List.getElem?_cons_zero, Option.getD_some] at hd
      obtain ⟨e, he, hb⟩ := List.any_eq_true.mp hd
      rw [Bool.and_eq_true, Bool.or_eq_true] at hb
      refine ⟨e, Array.mem_toList_iff.mp he, hb.1, ?_⟩
      rcases hb.2 with h' | h'
      · exact .inl (Nat.eq_of_beq_eq_true h')
      · right
        have hlt : e.on < acc.length := by
          rcases Nat.lt_or_ge e.on acc.length with h2 | h2
          · exact h2
          · simp [List.getElem?_eq_none h2] at h'
        refine ⟨by omega, ?_⟩
        rw [List.append_assoc, List.getD_eq_getElem?_getD, List.getElem?_append_left hlt]
        exact h'
    | succ k =>
      simp only [List.getElem?_cons_succ] at h
      rw [deps] at hd ⊢
      have := ih (acc ++ [q.after.toList.any fun e => Region.binds .any e && (Nat.beq e.on i || acc.getD e.on false)]) k o h
      simp only [List.length_append, List.length_cons, List.length_nil, Nat.zero_add, Nat.add_assoc, Nat.add_comm 1 k] at this
      exact this hd

section
variable {P : Program} {E : Env} {ops : Array Oper} {Q : Exit → Act → World → Prop}

/-- does operation j wait for operation i? -/
def Dep (ops : Array Oper) (i j : Nat) : Prop := (deps i ops.toList []).getD j false = true
theorem Dep.spec {i j : Nat} {o : Oper} (ho : ops[j]? = some o) (h : Dep ops i j) : ∃ e ∈ o.after, Region.binds .any e = true ∧ (e.on = i ∨ (e.on < j ∧ Dep ops i e.on)) := by
  have := deps_spec i ops.toList [] j o (by rw [Array.getElem?_toList]; exact ho)
  simp only [List.length_nil, Nat.zero_add] at this
  exact this h
theorem deps_len (i : Nat) : ∀ (l : List Oper) (acc : List Bool), (deps i l acc).length = acc.length + l.length := by
  intro l
  induction l with
  | nil => intro acc; simp [deps]
  | cons o l ih => intro acc; rw [deps, ih]; simp; omega
theorem Dep.lt {i j : Nat} (h : Dep ops i j) : j < ops.size := by
  unfold Dep at h
  rcases Nat.lt_or_ge j ops.size with h' | h'
  · exact h'
  · have := deps_len i ops.toList []
    simp only [List.length_nil, Nat.zero_add, Array.length_toList] at this
    rw [List.getD_eq_getElem?_getD, List.getElem?_eq_none (by omega)] at h; simp at h

/-- what has come up has come up behind what it waits for -/
def Closed (ops : Array Oper) (L : Array Bool) : Prop := L.size = ops.size ∧ ∀ j o, L.getD j false = true → ops[j]? = some o → ∀ e ∈ o.after, Region.binds .any e = true → L.getD e.on false = true

theorem getD_ft {L : Array Bool} {j : Nat} (h : L.getD j true = false) : L.getD j false = false := by
  rcases Nat.lt_or_ge j L.size with h' | h'
  · simp [h'] at h ⊢; exact h
  · simp [Array.getElem?_eq_none h']
theorem getD_size {L : Array Bool} {j : Nat} (h : L.getD j true = false) : j < L.size := by
  rcases Nat.lt_or_ge j L.size with h' | h'
  · exact h'
  · simp [Array.getElem?_eq_none h'] at h

theorem Dep.unlisted {L : Array Bool} (hc : Closed ops L) {i : Nat} (hi : L.getD i true = false) : ∀ (j : Nat), Dep ops i j → L.getD j false = false := by
  intro j
  induction j using Nat.strongRecOn with
  | _ j ih =>
    intro h
    cases hl : L.getD j false with
    | false => rfl
    | true =>
      have hlt := h.lt
      obtain ⟨e, he, hb, h'⟩ := h.spec (o := ops[j]) (by simp [hlt])
      have := hc.2 j ops[j] hl (by simp [hlt]) e he hb
      rcases h' with rfl | ⟨h1, h2⟩
      · rw [getD_ft hi] at this; cases this
      · rw [ih _ h1 h2] at this; cases this

theorem Closed.add {L : Array Bool} (hc : Closed ops L) {i : Nat} (hi : i ∈ Region.ready .any ops L) : Closed ops (L.setIfInBounds i true) ∧ (L.setIfInBounds i true).getD i false = true := by
  obtain ⟨h0, o, ho, ha⟩ := mem_ready.1 hi
  have hs := getD_size h0
  refine ⟨⟨by simp [hc.1], fun j o' hj ho' e he hb => ?_⟩, by simp [hs]⟩
  by_cases hij : i = j
  · subst hij
    rw [ho] at ho'; cases ho'
    exact getD_set_true (ha e he hb)
  · rw [getD_set_ne false hij] at hj
    exact getD_set_true (hc.2 j o' hj ho' e he hb)

def plOps : Pl → List Nat
  | .nil => []
  | .op i r => i :: plOps r
  | .mem i r => i :: plOps r
  | .chk _ b r => plOps b ++ plOps r

theorem only_eq {i : Nat} {l : List Nat} (h : only i l = true) : l = [i] := by
  unfold only at h
  split at h
  · rw [Nat.eq_of_beq_eq_true h]
  · simp at h

theorem rokP_op {i : Nat} {r : Pl} {head : Bool} {L L' : Array Bool} (h : rokP ops (.op i r) head L = some L') :
    ∃ o, ops[i]? = some o ∧ ((tmpOp o.op = true ∧ i ∈ Region.ready .any ops L ∧ Region.free .any ops L i = true ∧ rokP ops r head (L.setIfInBounds i true) = some L') ∨
      (Region.ready .any ops L = [i] ∧ rokP ops r false (L.setIfInBounds i true) = some L')) := by
  simp only [rokP] at h
  cases ho : ops[i]? with
  | none => rw [ho] at h; simp at h
  | some o =>
    rw [ho] at h
    simp only at h
    refine ⟨o, rfl, ?_⟩
    split at h
    · rename_i hc
      rw [Bool.and_eq_true, Bool.and_eq_true] at hc
      exact .inl ⟨hc.1.1, by rw [← readyP_eq]; exact memN_iff.mp hc.1.2, by rw [← freeP_eq]; exact hc.2, h⟩
    · split at h
      · rename_i hc
        exact .inr ⟨by rw [← readyP_eq]; exact only_eq hc, h⟩
      · simp at h
theorem rokP_mem {i : Nat} {r : Pl} {head : Bool} {L L' : Array Bool} (h : rokP ops (.mem i r) head L = some L') :
    head = true ∧ i ∈ Region.ready .any ops L ∧ Region.free .any ops L i = true ∧ rokP ops r head (L.setIfInBounds i true) = some L' := by
  simp only [rokP] at h
  split at h
  · rename_i hc
    rw [Bool.and_eq_true, Bool.and_eq_true] at hc
    exact ⟨hc.1.1, by rw [← readyP_eq]; exact memN_iff.mp hc.1.2, by rw [← freeP_eq]; exact hc.2, h⟩
  · simp at h
theorem rokP_chk {pk : List Nat} {b r : Pl} {head : Bool} {L L' : Array Bool} (h : rokP ops (.chk pk b r) head L = some L') :
    ∃ L1, rokP ops b true L = some L1 ∧ (∀ i ∈ mems b, ∀ j, j < ops.size → L1.getD j true = false → Dep ops i j) ∧ rokP ops r false L1 = some L' := by
  simp only [rokP] at h
  split at h
  · rename_i L1 h1
    split at h
    · rename_i hc
      refine ⟨L1, h1, fun i hi j hj hu => ?_, h⟩
      have := List.all_eq_true.mp (List.all_eq_true.mp hc i hi) j (List.mem_range.mpr hj)
      rw [hu] at this
      simpa [Dep] using this
    · simp at h
  · simp at h

theorem rokP_spec : ∀ {p : Pl} {head : Bool} {L L' : Array Bool}, rokP ops p head L = some L' → Closed ops L →
    Closed ops L' ∧ (∀ j, L.getD j false = true → L'.getD j false = true) ∧ ∀ i ∈ plOps p, L'.getD i false = true := by
  intro p
  induction p with
  | nil => intro head L L' h hc; simp only [rokP, Option.some.injEq] at h; subst h; exact ⟨hc, fun _ h => h, by simp [plOps]⟩
  | op i r ih =>
    intro head L L' h hc
    obtain ⟨o, ho, h'⟩ := rokP_op h
    have hi : i ∈ Region.ready .any ops L := by
      rcases h' with h' | h'
      · exact h'.2.1
      · rw [h'.1]; simp
    obtain ⟨c1, c2⟩ := hc.add hi
    obtain ⟨g1, g2, g3⟩ : Closed ops L' ∧ (∀ j, (L.setIfInBounds i true).getD j false = true → L'.getD j false = true) ∧ ∀ k ∈ plOps r, L'.getD k false = true := by
      rcases h' with h' | h'
      · exact ih h'.2.2.2 c1
      · exact ih h'.2 c1
    refine ⟨g1, fun j hj => g2 j (getD_set_true hj), fun k hk => ?_⟩
    rcases List.mem_cons.mp hk with rfl | hk
    · exact g2 _ c2
    · exact g3 k hk
  | mem i r ih =>
    intro head L L' h hc
    obtain ⟨_, hi, _, h'⟩ := rokP_mem h
    obtain ⟨c1, c2⟩ := hc.add hi
    obtain ⟨g1, g2, g3⟩ := ih h' c1
    refine ⟨g1, fun j hj => g2 j (getD_set_true hj), fun k hk => ?_⟩
    rcases List.mem_cons.mp hk with rfl | hk
    · exact g2 _ c2
    · exact g3 k hk
  | chk pk b r ihb ihr =>
    intro head L L' h hc
    obtain ⟨L1, h1, _, h2⟩ := rokP_chk h
    obtain ⟨g1, g2, g3⟩ := ihb h1 hc
    obtain ⟨k1, k2, k3⟩ := ihr h2 g1
    refine ⟨k1, fun j hj => k2 j (g2 j hj), fun i hi => ?_⟩
    rcases List.mem_append.mp hi with hi | hi
    · exact k2 i (g3 i hi)
    · exact k3 i hi

theorem wpAnyS_weak {S S' : Array Bool → World → Prop} (h : ∀ L w, S' L w → S L w) : ∀ (fuel : Nat) (listed : Array Bool) (a : Act) (w : World), wpAnyS P .any ops Q S' fuel listed a w → wpAnyS P .any ops Q S fuel listed a w
  | 0, _, _, _, hw => hw
  | fuel + 1, _, _, _, hw => ⟨hw.1, fun i hi => wpOp_mono (fun _ _ h' => ⟨h _ _ h'.1, wpAnyS_weak h fuel _ _ _ h'.2⟩) (hw.2 i hi)⟩
end
end Go.V
/- Regions whose order is open: the plan is as good as any order. -/
namespace Go.V
open Go

section
variable {P : Program} {E : Env} {ops : Array Oper} {Q : Exit → Act → World → Prop}

def Sx (X : Fr) (w0 w' : World) : Prop := Ext X.x w0 w' ∧ ∀ k b, X.c k b → w'.heap[b]? = w0.heap[b]?
/-- nothing has changed since the part began -/
structure HeadOk (ops : Array Oper) (C s : St) (X : Fr) (w0 : World) (rc : Nat → RC) (w : World) (S : Array Bool → World → Prop) (U : Nat → Prop) (p : Pl) : Prop where
  w : w = w0
  x : ∀ b ∈ X.x, b ∈ allB rc (s.roots ++ C.roots)
  c : ∀ k r, (k, r) ∈ C.roots → ∀ b ∈ blocks r (rc k), X.c k b
  S : ∀ L w', (∀ j, U j → L.getD j false = false) → S L w' → Sx X w0 w'
  D : ∀ i ∈ mems p, ∀ j, U j → Dep ops i j

theorem yields_imp {S S' : World → Prop} (h : ∀ w, S' w → S w) {o : Oper} {v : Value} {a : Act} (hy : YieldsIf P ops S o v a) : YieldsIf P ops S' o v a :=
  hy.imp (fun ⟨h1, h2⟩ => ⟨h1, fun w hw => h2 w (h w hw)⟩) id

theorem opsP_ok (hE : ∀ t s, E.sh t = some s → ShOk P s none t) (hG : ∀ f us rs outs, E.gives f us rs outs → GivesS P f us rs outs) (hsel : ∀ (j : Nat) (o : Oper) cs b, ops[j]? = some o → o.op ≠ .select cs b)
    (hQ : ∀ c a w, ¬ Q (.panic c) a w) {n : Nat} (hd : ∀ o ∈ ops.toList, ∀ t, o.dst = some t → t < n) :
    ∀ {p : Pl} {C s : St} {X : Fr} {w0 : World} {rc : Nat → RC} {a : Act} {w : World} {L L' : Array Bool} {head : Bool} {S : Array Bool → World → Prop} {U : Nat → Prop} {m : Nat} {K : St → Prop},
      Rel rc [] C s X w0 a w → X.n = n → Closed ops L → rokP ops p head L = some L' → opsP E ops.toList p C s K →
      (∀ {rc s a w'} L, Rel rc [] C s X w0 a w' → S L w') → (∀ i ∈ plOps p, ∀ L w', S (L.setIfInBounds i true) w' → S L w') → (head = true → HeadOk ops C s X w0 rc w S U p) →
      (∀ s1 rc1 a1 w1, K s1 → Rel rc1 [] C s1 X w0 a1 w1 → wpAnyS P .any ops Q S m L' a1 w1) →
      wpAnyS P .any ops Q S (plen p + m) L a w := by
  intro p
  induction p with
  | nil =>
    intro C s X w0 rc a w L L' head S U m K h hn hc hr hk hS hSm hH cont
    simp only [rokP, Option.some.injEq] at hr
    subst hr
    simp only [plen, Nat.zero_add]
    exact cont s rc a w hk h
  | op i r ih =>
    intro C s X w0 rc a w L L' head S U m K h hn hc hr hk hS hSm hH cont
    obtain ⟨o, ho, hr⟩ := rokP_op hr
    simp only [opsP, Array.getElem?_toList, ho] at hk
    have hdo : ∀ t, o.dst = some t → t < X.n := by rw [hn]; exact hd o (Array.mem_toList_iff.mpr (Array.mem_of_getElem? ho))
    have hfu : plen (.op i r) + m = (plen r + m) + 1 := by simp only [plen]; omega
    rw [hfu]
    rcases hr with ⟨ht, hi, hf, hr⟩ | ⟨hi, hr⟩
    · obtain ⟨c, s1, hy, hk1, hr1, h1⟩ := opM_tmp (ops := ops) hE h hdo ht hk
      refine wpAnyS_first (D := fun _ => False) (Si := fun _ => True) ho hsel (fun c a w hq => absurd hq (hQ _ _ _)) (fun _ _ _ h => h.elim) (fun _ _ _ _ => trivial) (fun L w' _ hs => hSm i (by simp [plOps]) L w' hs)
        (plen r + m) L a w (Region.free_spec ho hf) hi (fun _ h => h.elim) hy trivial (hS _ h) ?_
      refine ih (U := U) h1 hn (hc.add hi).1 hr hk1 hS (fun k hk => hSm k (by simp [plOps, hk])) (fun hh => ?_) cont
      have := hH hh
      exact ⟨this.w, by rw [hr1]; exact this.x, this.c, this.S, this.D⟩
    · refine ⟨fun h0 => (by rw [hi] at h0; cases h0), fun j hj => ?_⟩
      rw [hi] at hj
      obtain rfl := List.mem_singleton.mp hj
      have hi' : j ∈ Region.ready .any ops L := by rw [hi]; simp
      refine wpOp_mono ?_ (opM_any hE hG h ho hdo hk)
      rintro a' w' ⟨s1, rc1, hk1, h1⟩
      exact ⟨hS _ h1, ih (U := U) h1 hn (hc.add hi').1 hr hk1 hS (fun k hk => hSm k (by simp [plOps, hk])) (fun hh => by cases hh) cont⟩
  | mem i r ih =>
    intro C s X w0 rc a w L L' head S U m K h hn hc hr hk hS hSm hH cont
    obtain ⟨hh, hi, hf, hr⟩ := rokP_mem hr
    have H := hH hh
    obtain ⟨hi0, o, ho, _⟩ := mem_ready.1 hi
    simp only [opsP, Array.getElem?_toList, ho] at hk
    have hdo : ∀ t, o.dst = some t → t < X.n := by rw [hn]; exact hd o (Array.mem_toList_iff.mpr (Array.mem_of_getElem? ho))
    have hfu : plen (.mem i r) + m = (plen r + m) + 1 := by simp only [plen]; omega
    rw [hfu]
    split at hk
    · rename_i hmk
      unfold memKeys at hmk
      cases hx : memOp o.op with
      | none => rw [hx] at hmk; simp at hmk
      | some x =>
        rw [hx] at hmk
        simp only at hmk
        let F : Nat → Prop := fun b => b < w0.heap.size ∧ (b ∉ X.x ∨ ∃ k, X.c k b)
        obtain ⟨c, s1, hy, hk1, hr1, h1⟩ := opM_mem (ops := ops) hE h hdo hx hk (F := F)
          (fun b hb => ⟨by rw [← H.w]; exact hb.1, .inl fun hm => hb.2 (by simpa using H.x b hm)⟩)
          (fun v hv k hkv r hr b hb => by
            rw [hv] at hmk
            simp only at hmk
            have h2 := List.all_eq_true.mp hmk k hkv
            obtain ⟨r', hr'⟩ := Option.isSome_iff_exists.mp h2
            have hm := (mem_getR h.keys).mp hr
            have hm' := look_mem hr'
            have : r = r' := by
              have e1 := mem_look h.keys hm
              have e2 := mem_look h.keys (List.mem_append_right s.roots hm')
              rw [e1] at e2; cases e2; rfl
            subst this
            refine ⟨?_, .inr ⟨k, H.c k r hm' b hb⟩⟩
            rw [← H.w]
            exact (h.bnd b (by simp; exact mem_allB.mpr ⟨k, r, hm, hb⟩)).1)
        have hyS : YieldsIf P ops (Sx X w0) o c a := yields_imp (S := fun w' => ∀ b, F b → w'.heap[b]? = w.heap[b]?) (fun w' hs b hb => by
          rcases hb with ⟨hb1, hb2 | ⟨k, hb2⟩⟩
          · rw [hs.1.block b hb1 hb2, H.w]
          · rw [hs.2 k b hb2, H.w]) hy
        have hdep := fun j => Dep.unlisted hc hi0 j
        refine wpAnyS_first (D := Dep ops i) (Si := Sx X w0) ho hsel (fun c a w hq => absurd hq (hQ _ _ _)) (fun j oj hj hD => ?_) (fun L w' hn hs => H.S L w' (fun j hj => hn j (H.D i (by simp [mems]) j hj)) hs)
          (fun L w' _ hs => hSm i (by simp [plOps]) L w' hs) (plen r + m) L a w (Region.free_spec ho hf) hi hdep hyS ⟨h.ext, fun k b hkb => (h.cfx k b hkb).2⟩ (hS _ h) ?_
        · obtain ⟨e, he, hb, h'⟩ := hD.spec hj
          exact ⟨e, he, hb, h'.imp id (·.2)⟩
        · refine ih (U := U) h1 hn (hc.add hi).1 hr hk1 hS (fun k hk => hSm k (by simp [plOps, hk])) (fun _ => ?_) cont
          exact ⟨H.w, by rw [hr1]; exact H.x, H.c, H.S, fun j hj => H.D j (by simp [mems, hj])⟩
    · exact hk.elim
  | chk pk b r ihb ihr =>
    intro C s X w0 rc a w L L' head S U m K h hn hc hr hk hS hSm hH cont
    obtain ⟨L1, hrb, hD, hrr⟩ := rokP_chk hr
    obtain ⟨hc1, hm1, hl1⟩ := rokP_spec hrb hc
    simp only [opsP] at hk
    split at hk
    · rename_i cr hcr hnd
      have hnd := nodupN_iff hnd
      have hin := h.into hcr hnd
      have hfu : plen (.chk pk b r) + m = plen b + (plen r + m) := by simp only [plen]; omega
      rw [hfu]
      let X' := innerFr X rc C s cr
      let U' : Nat → Prop := fun j => L1.getD j true = false
      let S' : Array Bool → World → Prop := fun L w' => S L w' ∧ ((∀ j, U' j → L.getD j false = false) → Sx X' w w')
      have hperm := consts_perm hcr hnd (by have := h.keys; rw [List.map_append] at this; exact (List.nodup_append.mp this).1)
      refine wpAnyS_weak (S' := S') (fun _ _ h => h.1) _ _ _ _ (ihb (U := U') (X := X') (S := S') hin hn hc hrb hk ?_ ?_ ?_ ?_)
      · intro rc1 s1 a1 w1 L h1
        exact ⟨hS L (h.outOf hcr hnd h1), fun _ => ⟨h1.ext, fun k b hkb => (h1.cfx k b hkb).2⟩⟩
      · intro i hi L w' hs
        refine ⟨hSm i (by simp [plOps, hi]) L w' hs.1, fun hn => hs.2 fun j hj => ?_⟩
        have hij : i ≠ j := by
          rintro rfl
          have := hl1 i hi
          rw [getD_ft hj] at this; cases this
        rw [getD_set_ne false hij]; exact hn j hj
      · intro _
        refine ⟨rfl, fun b' hb' => ?_, fun k r' hk' b' hb' => ⟨r', hk', hb'⟩, fun L w' hn hs => hs.2 hn, fun i hi j hj => hD i hi j (by have := getD_size hj; rw [hc1.1] at this; exact this) hj⟩
        have : (allB rc (delKeys pk s.roots ++ (cr ++ C.roots))).Perm (allB rc (s.roots ++ C.roots)) := allB_perm (by rw [← List.append_assoc]; exact hperm.symm.append_right _)
        exact this.mem_iff.mpr hb'
      · intro s1 rc1 a1 w1 hk1 h1
        refine wpAnyS_more (S0 := Sx X' w) (U := U') _ _ _ _ (fun j hj => hj) ?_
        exact ihr (U := U) (h.outOf hcr hnd h1) hn hc1 hrr hk1 hS (fun k hk => hSm k (by simp [plOps, hk])) (fun hh => by cases hh) cont
    · exact hk.elim

/-- A region whose order is drawn. -/
theorem region_ok (hE : ∀ t s, E.sh t = some s → ShOk P s none t) (hG : ∀ f us rs outs, E.gives f us rs outs → GivesS P f us rs outs) (hm : P.follows .mixedOrders = true)
    (hQ : ∀ c a w, ¬ Q (.panic c) a w) {p : Pl} {C s : St} {X : Fr} {w0 : World} {rc : Nat → RC} {a : Act} {w : World} {K : St → Prop} (hd : ∀ o ∈ ops.toList, ∀ t, o.dst = some t → t < X.n)
    (h : Rel rc [] C s X w0 a { w with drawn := w.drawn + 1 }) (hr : rok ops p = true) (hk : opsP E ops.toList p C s K) (cont : ∀ s1 rc1 a1 w1, K s1 → Rel rc1 [] C s1 X w0 a1 w1 → Q .normal a1 w1) {id : Nat} :
    (Code.region id ops true).wp P Q a w := by
  unfold rok at hr
  split at hr
  · rename_i L hL
    rw [Bool.and_eq_true, Bool.and_eq_true] at hr
    obtain ⟨⟨hr1, hr2⟩, hr3⟩ := hr
    have hlen := Nat.eq_of_beq_eq_true hr1
    have hsel : ∀ (j : Nat) (o : Oper) cs b, ops[j]? = some o → o.op ≠ .select cs b := by
      intro j o cs b ho e
      have := List.all_eq_true.mp hr3 o (Array.mem_toList_iff.mpr (Array.mem_of_getElem? ho))
      rw [e] at this; simp at this
    have hcl : Closed ops (Array.replicate ops.size false) := by
      refine ⟨by simp, fun j o hj => ?_⟩
      rcases Nat.lt_or_ge j ops.size with h' | h' <;> simp [h'] at hj
    have hready : Region.ready .any ops L = [] := by
      apply List.eq_nil_iff_forall_not_mem.mpr
      intro j hj
      obtain ⟨h0, o, ho, _⟩ := mem_ready.1 hj
      have hlt : j < ops.size := (Array.getElem?_eq_some_iff.1 ho).1
      have := List.all_eq_true.mp hr2 j (List.mem_range.mpr hlt)
      rw [h0] at this; cases this
    refine wp_region_any hm (wpAny_of_S (S := fun _ _ => True) _ _ _ _ ?_)
    have := opsP_ok (Q := Q) (S := fun _ _ => True) (U := fun _ => False) (m := 0) (n := X.n) hE hG hsel hQ hd h rfl hcl hL hk (fun _ _ => trivial) (fun _ _ _ _ _ => trivial) (fun hh => by cases hh)
      (fun s1 rc1 a1 w1 hk1 h1 => ⟨hready, cont s1 rc1 a1 w1 hk1 h1⟩)
    rw [Nat.add_zero, hlen] at this
    exact this
  · simp at hr
end
end Go.V
/- The head of a loop: what varies is packed. -/
namespace Go.V
open Go

section
variable {P : Program} {C s : St} {X : Fr} {w0 w : World} {a : Act} {rc : Nat → RC} {refs : List (Nat × Nat)}

/-- where a varying root comes from -/
def srcP (C s : St) (refs : List (Nat × Nat)) : List (Nat × Bool × Bool × Sh × O) → List (Nat × Root)
  | [] => []
  | (k, _) :: l => match getNil C s refs k with
    | some _ => srcP C s refs l
    | none => match srcKey C s refs k with
      | some j => match look j s.roots with
        | some r => (j, r) :: srcP C s refs l
        | none => srcP C s refs l
      | none => srcP C s refs l

/-- what is told of the varying root k -/
def HdOk (C s : St) (rc : Nat → RC) (a : Act) (refs : List (Nat × Nat)) (k : Nat) (r1 : Root) (q : RC) : Prop :=
  (∃ t sh o x c, getNil C s refs k = some ⟨sh, o, x⟩ ∧ getT C s t = some (.t sh o x) ∧ (t, k) ∈ refs ∧ a.tmps[t]? = some c ∧ q.cs = [c] ∧ isSl sh = true ∧ r1.s = sh ∧ r1.box = false ∧ r1.inn = false) ∨
  (∃ j r, getNil C s refs k = none ∧ srcKey C s refs k = some j ∧ look j s.roots = some r ∧ r1.s = r.s ∧ r1.box = r.box ∧ q.cs = (rc j).cs ∧ q.blk = (rc j).blk ∧ (r1.box = true → j = k) ∧ (r1.inn = true → r.inn = true ∧ j = k))

theorem getNil_spec {k : Nat} {u : OV} : ∀ {refs : List (Nat × Nat)}, getNil C s refs k = some u → ∃ t, (t, k) ∈ refs ∧ getT C s t = some (.t u.s u.o u.x) := by
  intro refs
  induction refs with
  | nil => intro h; simp [getNil] at h
  | cons q l ih =>
    obtain ⟨t, j⟩ := q
    intro h
    simp only [getNil] at h
    split at h
    · rename_i hj
      have := Nat.eq_of_beq_eq_true hj
      subst this
      split at h
      · rename_i e; cases h; exact ⟨t, by simp, e⟩
      · simp at h
    · obtain ⟨t', h1, h2⟩ := ih h
      exact ⟨t', by simp [h1], h2⟩

theorem packR_ok (h : Rel rc [] C s X w0 a w) : ∀ {l : List (Nat × Bool × Bool × Sh × O)} {y : denR l}, packR C s refs l = some y → (l.map (·.1)).Nodup →
    ∃ (rc1 : Nat → RC) (rest : List Nat), (∀ k, k ∉ l.map (·.1) → rc1 k = rc k) ∧ (unpackR l y).map (·.1) = l.map (·.1) ∧ (allB rc (srcP C s refs l)).Perm (allB rc1 (unpackR l y) ++ rest) ∧
      (∀ fz1 : Nat → Prop, (∀ b, fzOf X w ([] ++ allB rc (s.roots ++ C.roots)) b → fz1 b) → (∀ b ∈ rest, fz1 b) → ∀ k r, (k, r) ∈ unpackR l y → RootOk w fz1 r (rc1 k)) ∧
      ∀ k r, (k, r) ∈ unpackR l y → HdOk C s rc a refs k r (rc1 k) := by
  intro l
  induction l with
  | nil => intro y _ _; exact ⟨rc, [], fun _ _ => rfl, rfl, by simp [srcP, unpackR, allB], by simp [unpackR], by simp [unpackR]⟩
  | cons e l ih =>
    obtain ⟨k, box, inn, sh, o⟩ := e
    intro y hp hn
    obtain ⟨hkn, hn2⟩ := List.nodup_cons.mp (show (k :: l.map (·.1)).Nodup from hn)
    simp only [packR] at hp
    cases hg : getNil C s refs k with
    | some u =>
      obtain ⟨sh', o', x⟩ := u
      rw [hg] at hp
      simp only at hp
      split at hp
      · rename_i y0 ys hb hcd hps
        cases hp
        rw [Bool.and_eq_true, Bool.and_eq_true, Bool.and_eq_true, Bool.not_eq_true', Bool.not_eq_true'] at hb
        obtain ⟨⟨⟨rfl, rfl⟩, hsl⟩, hle⟩ := hb
        obtain ⟨rfl, rfl⟩ := castD_some hcd
        obtain ⟨rc1, rest, g0, g1, g2, g3, g4⟩ := ih hps hn2
        obtain ⟨t, ht1, ht2⟩ := getNil_spec hg
        obtain ⟨c, hc, hv⟩ := h.getT ht2
        obtain ⟨cs, hv, rfl⟩ := hv
        have hv : Rep w (fzOf X w ([] ++ allB rc (s.roots ++ C.roots))) sh' o' y0 cs [] := hv
        obtain ⟨bs', rest', p1, p2⟩ := hv.weak hle
        obtain ⟨rfl, rfl⟩ := List.append_eq_nil_iff.mp (List.nil_perm.mp p1)
        have hlen := hv.len
        have hone : ∃ v, cs = [v] := by
          cases sh' <;> try (simp [isSl] at hsl; done)
          exact List.length_eq_one_iff.mp hlen
        obtain ⟨v, rfl⟩ := hone
        have hag : aggV (.t sh' o' y0) = false := by cases sh' <;> first | rfl | (simp [isSl] at hsl; done)
        let q : RC := ⟨[v], [], 0⟩
        have hk1 : ∀ j u, (j, u) ∈ unpackR l ys → j ≠ k := by
          rintro j u hj rfl
          exact hkn (by rw [← g1]; exact List.mem_map.mpr ⟨_, hj, rfl⟩)
        refine ⟨setRc rc1 k q, rest, ?_, ?_, ?_, ?_, ?_⟩
        · intro j hj
          simp only [List.map_cons, List.mem_cons, not_or] at hj
          simp [setRc, hj.1, g0 j hj.2]
        · simp [unpackR, g1]
        · simp only [srcP, hg, unpackR, allB_cons]
          rw [allB_congr (rc := rc1) (rc1 := setRc rc1 k q) (fun j u hj => by simp [setRc, hk1 j u hj])]
          simpa [setRc, blocks, q] using g2
        · intro fz1 hf hr j r hj
          simp only [unpackR, List.mem_cons] at hj
          rcases hj with hj | hj
          · cases hj
            refine ⟨?_, fun hb => by simp at hb⟩
            simp only [setRc, if_true]
            exact p2 w fz1 (fun b hb => ⟨hf b hb, rfl⟩) (fun _ _ => rfl) (by simp)
          · simp only [setRc, hk1 j r hj, if_false]
            exact g3 fz1 hf hr j r hj
        · intro j r hj
          simp only [unpackR, List.mem_cons] at hj
          rcases hj with hj | hj
          · cases hj
            left
            refine ⟨t, sh', o', y0, _, hg, ht2, ht1, hc, ?_, hsl, rfl, rfl, rfl⟩
            rw [hag]; simp [setRc, packV, q]
          · simp only [setRc, hk1 j r hj, if_false]
            exact g4 j r hj
      · simp at hp
    | none =>
      rw [hg] at hp
      simp only at hp
      cases hs : srcKey C s refs k with
      | none => rw [hs] at hp; simp at hp
      | some j =>
        rw [hs] at hp
        simp only at hp
        cases hr : look j s.roots with
        | none => rw [hr] at hp; simp at hp
        | some r =>
          rw [hr] at hp
          simp only at hp
          split at hp
          · rename_i y0 ys hb hcd hps
            cases hp
            rw [Bool.and_eq_true, Bool.and_eq_true, Bool.and_eq_true, beq_iff_eq, beq_iff_eq, Bool.or_eq_true, Bool.not_eq_true'] at hb
            obtain ⟨⟨⟨hbox, hinn⟩, hbk⟩, hle⟩ := hb
            obtain ⟨rbox, rinn, rs, ro, rx⟩ := r
            simp only at hbox hinn hle hcd
            subst hbox
            obtain ⟨rfl, rfl⟩ := castD_some hcd
            obtain ⟨rc1, rest, g0, g1, g2, g3, g4⟩ := ih hps hn2
            have hok := h.roots j _ (List.mem_append_left _ (look_mem hr))
            obtain ⟨bs', rest', p1, p2⟩ := hok.1.weak hle
            let q : RC := ⟨(rc j).cs, bs', (rc j).blk⟩
            have hk1 : ∀ j u, (j, u) ∈ unpackR l ys → j ≠ k := by
              rintro j u hj rfl
              exact hkn (by rw [← g1]; exact List.mem_map.mpr ⟨_, hj, rfl⟩)
            refine ⟨setRc rc1 k q, rest' ++ rest, ?_, ?_, ?_, ?_, ?_⟩
            · intro i hi
              simp only [List.map_cons, List.mem_cons, not_or] at hi
              simp [setRc, hi.1, g0 i hi.2]
            · simp [unpackR, g1]
            · simp only [srcP, hg, hs, hr, unpackR, allB_cons]
              rw [allB_congr (rc := rc1) (rc1 := setRc rc1 k q) (fun j u hj => by simp [setRc, hk1 j u hj])]
              rw [show setRc rc1 k q k = q by simp [setRc], blocks_box, blocks_box]
              simp only [q]
              refine ((p1.append_left _).append g2).trans ?_
              simp only [List.append_assoc]
              refine List.Perm.append_left _ (List.Perm.append_left _ ?_)
              exact List.perm_append_comm_assoc _ _ _
            · intro fz1 hf hrr i u hi
              simp only [unpackR, List.mem_cons] at hi
              rcases hi with hi | hi
              · cases hi
                simp only [setRc, if_true]
                refine ⟨p2 w fz1 (fun b hb => ⟨hf b hb, rfl⟩) (fun _ _ => rfl) (fun b hb => hrr b (by simp [hb])), fun hb => ?_⟩
                exact hok.2 hb
              · simp only [setRc, hk1 i u hi, if_false]
                exact g3 fz1 hf (fun b hb => hrr b (by simp [hb])) i u hi
            · intro i u hi
              simp only [unpackR, List.mem_cons] at hi
              rcases hi with hi | hi
              · cases hi
                right
                refine ⟨j, _, hg, hs, hr, rfl, rfl, by simp [setRc, q], by simp [setRc, q], fun hb => ?_, fun hi => ?_⟩
                · rcases hbk with hbk | hbk
                  · simp only at hb; rw [hb] at hbk; cases hbk
                  · exact Nat.eq_of_beq_eq_true hbk
                · simp only at hi
                  rw [hi, Bool.and_eq_true] at hinn
                  exact ⟨hinn.1, Nat.eq_of_beq_eq_true hinn.2⟩
              · simp only [setRc, hk1 i u hi, if_false]
                exact g4 i u hi
          · simp at hp
end
end Go.V
/- The head of a loop: the state of a round. -/
namespace Go.V
open Go

section
variable {P : Program} {C s : St} {X : Fr} {w0 w : World} {a : Act} {rc : Nat → RC}

theorem srcP_look {refs : List (Nat × Nat)} : ∀ {l : List (Nat × Bool × Bool × Sh × O)} {j : Nat} {r : Root}, (j, r) ∈ srcP C s refs l → look j s.roots = some r := by
  intro l
  induction l with
  | nil => intro j r h; simp [srcP] at h
  | cons e l ih =>
    obtain ⟨k, _⟩ := e
    intro j r h
    simp only [srcP] at h
    split at h
    · exact ih h
    · split at h
      · split at h
        · rename_i e
          rcases List.mem_cons.mp h with h | h
          · cases h; exact e
          · exact ih h
        · exact ih h
      · exact ih h
theorem srcP_keys {refs : List (Nat × Nat)} : ∀ {l : List (Nat × Bool × Bool × Sh × O)}, ((srcP C s refs l).map (·.1)).Sublist (l.map fun r => (srcKey C s refs r.1).getD r.1) := by
  intro l
  induction l with
  | nil => simp [srcP]
  | cons e l ih =>
    obtain ⟨k, e'⟩ := e
    simp only [srcP, List.map_cons]
    split
    · exact ih.cons _
    · split
      · rename_i j hj
        split
        · rw [hj]; exact ih.cons_cons _
        · exact ih.cons _
      · exact ih.cons _
theorem constsR_of {s : St} : ∀ {l : List (Nat × Root)}, (∀ k r, (k, r) ∈ l → look k s.roots = some r) → constsR s (l.map (·.1)) = some l := by
  intro l
  induction l with
  | nil => intro _; rfl
  | cons e l ih =>
    obtain ⟨k, r⟩ := e
    intro h
    simp only [List.map_cons, constsR, h k r (by simp), ih fun k r hk => h k r (by simp [hk])]

theorem packT_ok {α : Type} {tail : Option α} (f : α → St) : ∀ {l : List (Nat × Sh)} {y : denT α l}, packT C s tail l = some y →
    ∃ b, tail = some b ∧ (unpackT f l y).roots = (f b).roots ∧ (unpackT f l y).tmps.map (·.1) = l.map (·.1) ++ (f b).tmps.map (·.1) ∧
      ∀ t v, (t, v) ∈ (unpackT f l y).tmps → (t, v) ∈ (f b).tmps ∨ ∃ sh v0 x, (t, sh) ∈ l ∧ getT C s t = some v0 ∧ view C s v0 = some ⟨sh, x⟩ ∧ v = .t sh .z x := by
  intro l
  induction l with
  | nil => intro y h; exact ⟨y, h, rfl, rfl, fun t v h => .inl h⟩
  | cons e l ih =>
    obtain ⟨t, sh⟩ := e
    intro y h
    simp only [packT] at h
    split at h
    · rename_i v hv
      split at h
      · rename_i sh' x hw
        split at h
        · rename_i y0 ys hcd hps
          cases h
          obtain ⟨rfl, rfl⟩ := castD_some hcd
          obtain ⟨b, g1, g2, g3, g4⟩ := ih hps
          refine ⟨b, g1, g2, by simp [unpackT, g3], fun t' v' h' => ?_⟩
          simp only [unpackT, List.mem_cons] at h'
          rcases h' with h' | h'
          · cases h'
            exact .inr ⟨_, v, _, by simp, hv, hw, rfl⟩
          · rcases g4 t' v' h' with h2 | ⟨q1, q2, q3, q4, q5⟩
            · exact .inl h2
            · exact .inr ⟨q1, q2, q3, by simp [q4], q5⟩
        · simp at h
      · simp at h
    · simp at h

theorem mem_refsT {t : Nat} {v : Val} : ∀ {l : List (Nat × Nat)}, (t, v) ∈ refsT l → ∃ k, (t, k) ∈ l ∧ v = .own k [] := by
  intro l
  induction l with
  | nil => intro h; simp [refsT] at h
  | cons q l ih =>
    obtain ⟨u, k⟩ := q
    intro h
    simp only [refsT, List.mem_cons] at h
    rcases h with h | h
    · cases h; exact ⟨k, by simp, rfl⟩
    · obtain ⟨k', h1, h2⟩ := ih h; exact ⟨k', by simp [h1], h2⟩
theorem refsT_keys : ∀ {l : List (Nat × Nat)}, (refsT l).map (·.1) = l.map (·.1) := by
  intro l
  induction l with
  | nil => rfl
  | cons q l ih => obtain ⟨u, k⟩ := q; simp [refsT, ih]
theorem agree_spec {refs : List (Nat × Nat)} : ∀ {l : List (Nat × Nat)}, agree C s refs l = true → ∀ t k, (t, k) ∈ l →
    (∃ u, getNil C s refs k = some u ∧ ∀ q ∈ refs, q.2 = k → q.1 = t) ∨ (getNil C s refs k = none ∧ ∃ j, getT C s t = some (.own j []) ∧ srcKey C s refs k = some j) := by
  intro l
  induction l with
  | nil => intro _ t k h; simp at h
  | cons q l ih =>
    obtain ⟨u, i⟩ := q
    intro h t k hm
    simp only [agree, Bool.and_eq_true] at h
    rcases List.mem_cons.mp hm with hm | hm
    · cases hm
      have h1 := h.1
      split at h1
      · rename_i u' hu
        refine .inl ⟨u', hu, fun q hq hqk => ?_⟩
        have := List.all_eq_true.mp h1 q hq
        rw [Bool.or_eq_true, Bool.not_eq_true', hqk] at this
        rcases this with this | this
        · simp at this
        · exact Nat.eq_of_beq_eq_true this
      · rename_i hu
        split at h1
        · rename_i i' j' hi hj
          have := Nat.eq_of_beq_eq_true h1
          subst this
          refine .inr ⟨hu, i', ?_, hj⟩
          unfold keyOf at hi
          split at hi
          · rename_i hg; cases hi; exact hg
          · simp at hi
        · simp at h1
    · exact ih h.2 t k hm

theorem view_row {v : Val} {c : Value} {sh : Sh} {x : sh.den} (h : Rel rc [] C s X w0 a w) {fz1 : Nat → Prop} (hf : ∀ b, fzOf X w ([] ++ allB rc (s.roots ++ C.roots)) b → fz1 b)
    (hv : VOk w (fzOf X w ([] ++ allB rc (s.roots ++ C.roots))) (getR C s) rc v c) (hw : view C s v = some ⟨sh, x⟩) (hk : ∀ k ∈ keys v, ∀ r, getR C s k = some r → ∀ b ∈ blocks r (rc k), fz1 b)
    {R1 : Nat → Option Root} {rc1 : Nat → RC} : VOk w fz1 R1 rc1 (.t sh .z x) c := by
  have hne := view_plain hw
  obtain ⟨cells, hc, rfl⟩ := hv.cells hne.1 hne.2.1 hne.2.2
  have hl : lend C s .z v = some ⟨sh, .z, x⟩ := by
    cases v <;> (simp only [lend, hw])
  obtain ⟨⟨ls, kept, g⟩, hag⟩ := lend_ok h hf hc hl (by cases v <;> exact List.nodup_nil)
    (fun k hk' r hr b hb => hk k (by cases v <;> exact hk') r hr b (by unfold blocks; split <;> simp [hb]))
    (fun k hk' r hr hbx => hk k (keys_box (by cases v <;> exact hk')) r hr _ (by simp [blocks, hbx]))
  have hperm := g.perm
  have hlk : lentK .z v = [] := by cases v <;> rfl
  rw [hlk] at hperm
  obtain ⟨rfl, rfl⟩ := List.append_eq_nil_iff.mp (List.nil_perm.mp hperm)
  rw [hag]
  exact ⟨cells, g.rep, rfl⟩
end
end Go.V
/- The head of a loop: the relation of a round. -/
namespace Go.V
open Go

section
variable {P : Program} {C s : St} {X : Fr} {w0 w : World} {a : Act} {rc : Nat → RC}

theorem InB_nil (sh : Sh) (x : sh.den) : InB sh x [] := by cases sh <;> trivial
theorem pack_ok (h : Rel rc [] C s X w0 a w) {L : Loop} {a0 : L.den} {C' : St} {cr : List (Nat × Root)} (hXc : ∀ k b, ¬ X.c k b)
    (hCr : C'.roots = cr ++ C.roots) (hcr : ∀ k r, (k, r) ∈ cr → look k s.roots = some r) (hcrk : ∀ k ∈ cr.map (·.1), k ∈ L.croots) (hcrn : (cr.map (·.1)).Nodup)
    (hCt : ∀ t v, (t, v) ∈ C'.tmps → (t, v) ∈ s.tmps ++ C.tmps) (hp : L.pack C s = some a0) (ha : apart C s L = true) (hk : okL C' L = true) :
    ∃ rc1, Rel rc1 [] C' (L.unpack a0) X w0 a w := by
  unfold Loop.pack at hp
  split at hp
  case h_2 => simp at hp
  rename_i hag
  unfold okL at hk
  simp only [Bool.and_eq_true] at hk
  obtain ⟨⟨⟨⟨⟨_, hk2⟩, hk3⟩, hk4⟩, hk5⟩, hk6⟩ := hk
  have hk2 := nodupN_iff hk2
  have hk3 := nodupN_iff hk3
  obtain ⟨b, hb, hsr, hst, hsm⟩ := packT_ok (fun b => (⟨refsT L.refs, unpackR L.roots b⟩ : St)) hp
  have hroots : (L.unpack a0).roots = unpackR L.roots b := hsr
  have hkeysT : (L.unpack a0).tmps.map (·.1) = L.tmps.map (·.1) ++ L.refs.map (·.1) := by rw [← refsT_keys]; exact hst
  have hmemT : ∀ t v, (t, v) ∈ (L.unpack a0).tmps → (t, v) ∈ refsT L.refs ∨ ∃ sh v0 x, (t, sh) ∈ L.tmps ∧ getT C s t = some v0 ∧ view C s v0 = some ⟨sh, x⟩ ∧ v = .t sh .z x := hsm
  obtain ⟨rc1, rest, g0, g1, g2, g3, g4⟩ := packR_ok h hb hk2
  -- where the roots come from
  unfold apart at ha
  simp only [Bool.and_eq_true] at ha
  obtain ⟨ha1, ha2⟩ := ha
  have ha2 := nodupN_iff ha2
  let srcs := srcP C s L.refs L.roots
  have hsrc : ∀ k r, (k, r) ∈ srcs ++ cr → look k s.roots = some r := by
    intro k r hm
    rcases List.mem_append.mp hm with hm | hm
    · exact srcP_look hm
    · exact hcr k r hm
  have hpk : ((srcs ++ cr).map (·.1)).Nodup := by
    rw [List.map_append]
    refine List.nodup_append.mpr ⟨List.Nodup.sublist srcP_keys (List.nodup_append.mp ha2).1, hcrn, ?_⟩
    rintro j hj _ hj2 rfl
    exact (List.nodup_append.mp ha2).2.2 j (srcP_keys.subset hj) j (hcrk j hj2) rfl
  have hsn : (s.roots.map (·.1)).Nodup := by have := h.keys; rw [List.map_append] at this; exact (List.nodup_append.mp this).1
  have hperm := consts_perm (constsR_of hsrc) hpk hsn
  let dk := delKeys ((srcs ++ cr).map (·.1)) s.roots
  have hC'key : ∀ k ∈ L.roots.map (·.1), ∀ r, (k, r) ∉ C'.roots := by
    intro k hk' r hm
    obtain ⟨e, he, rfl⟩ := List.mem_map.mp hk'
    have := List.all_eq_true.mp hk4 e he
    rw [Bool.and_eq_true, Option.isNone_iff_eq_none] at this
    exact look_none.mp this.2 r hm
  have hrcC : ∀ k r, (k, r) ∈ C'.roots → rc1 k = rc k := fun k r hm => g0 k fun hk' => hC'key k hk' r hm
  have hCold : ∀ k r, (k, r) ∈ C'.roots → (k, r) ∈ s.roots ++ C.roots := by
    intro k r hm
    rw [hCr] at hm
    rcases List.mem_append.mp hm with hm | hm
    · exact List.mem_append_left _ (look_mem (hcr k r hm))
    · exact List.mem_append_right _ hm
  -- blocks
  have hold : (allB rc (s.roots ++ C.roots)).Perm (allB rc1 (unpackR L.roots b ++ C'.roots) ++ (rest ++ allB rc dk)) := by
    have e1 : allB rc1 C'.roots = allB rc C'.roots := allB_congr hrcC
    have e3 : allB rc1 (unpackR L.roots b ++ C'.roots) = allB rc1 (unpackR L.roots b) ++ (allB rc cr ++ allB rc C.roots) := by rw [allB_append, e1, hCr, allB_append]
    rw [e3, allB_append]
    have e2 : (allB rc s.roots).Perm (allB rc dk ++ (allB rc srcs ++ allB rc cr)) := by
      refine (allB_perm hperm).trans ?_
      rw [allB_append, allB_append]
    refine (e2.append_right _).trans ?_
    refine ((((g2.append_right (allB rc cr)).append_left (allB rc dk))).append_right _).trans ?_
    -- dk ++ ((new ++ rest) ++ cr) ++ C  ~  (new ++ (cr ++ C)) ++ (rest ++ dk)
    refine List.perm_iff_count.mpr fun x => ?_
    simp only [List.count_append]
    omega
  have hex : (allB rc (s.roots ++ C.roots)).Nodup := by simpa using h.excl
  have hnd := hold.nodup_iff.mp hex
  have hnew : ∀ b', b' ∈ allB rc1 (unpackR L.roots b ++ C'.roots) → b' ∈ allB rc (s.roots ++ C.roots) := fun b' hb' => hold.mem_iff.mpr (List.mem_append_left _ hb')
  let fz1 := fzOf X w ([] ++ allB rc1 (unpackR L.roots b ++ C'.roots))
  have hf : ∀ b', fzOf X w ([] ++ allB rc (s.roots ++ C.roots)) b' → fz1 b' := fun b' hb' => ⟨hb'.1, fun hm => hb'.2 (by simpa using hnew b' (by simpa using hm)), hb'.3⟩
  have hfd : ∀ b' ∈ rest ++ allB rc dk, fz1 b' := by
    intro b' hb'
    have hm : b' ∈ allB rc (s.roots ++ C.roots) := hold.mem_iff.mpr (List.mem_append_right _ hb')
    refine ⟨(h.bnd b' (by simpa using hm)).1, fun hn => ?_, (h.bnd b' (by simpa using hm)).2.elim (h.zok.1 b') (h.zok.2 b')⟩
    exact (List.nodup_append.mp hnd).2.2 b' (by simpa using hn) b' hb' rfl
  have hnk : ∀ k r, (k, r) ∈ unpackR L.roots b → k ∈ L.roots.map (·.1) := fun k r hm => by rw [← g1]; exact List.mem_map.mpr ⟨_, hm, rfl⟩
  have hkeys : ((unpackR L.roots b ++ C'.roots).map (·.1)).Nodup := by
    rw [List.map_append, g1]
    refine List.nodup_append.mpr ⟨hk2, ?_, ?_⟩
    · rw [hCr, List.map_append]
      have hk0 := h.keys
      rw [List.map_append] at hk0
      refine List.nodup_append.mpr ⟨hcrn, (List.nodup_append.mp hk0).2.1, ?_⟩
      rintro j hj _ hj2 rfl
      obtain ⟨⟨j', r⟩, hm, rfl⟩ := List.mem_map.mp hj
      exact (List.nodup_append.mp hk0).2.2 j' (List.mem_map.mpr ⟨_, look_mem (hcr _ _ hm), rfl⟩) j' hj2 rfl
    · rintro j hj _ hj2 rfl
      obtain ⟨⟨j', r⟩, hm, rfl⟩ := List.mem_map.mp hj2
      exact hC'key j' hj r hm
  have hR1 : ∀ {k r}, getR C' (L.unpack a0) k = some r ↔ (k, r) ∈ unpackR L.roots b ++ C'.roots := by
    intro k r
    rw [← hroots]
    exact mem_getR (by rw [hroots]; exact hkeys)
  refine ⟨rc1, ?_, ?_, ?_, ?_, ?_, ?_, ?_, h.ext, h.nd, h.zok, fun k b' hkb => absurd hkb (hXc k b'), h.tsz, ?_⟩
  · rw [hroots]; exact hkeys
  · rw [hroots]; simpa using (List.nodup_append.mp hnd).1
  · rw [hroots]
    intro b' hb'
    exact h.bnd b' (by simpa using hnew b' (by simpa using hb'))
  · rw [hroots]
    intro k r hm
    rcases List.mem_append.mp hm with hm | hm
    · exact g3 fz1 hf (fun b' hb' => hfd b' (List.mem_append_left _ hb')) k r hm
    · rw [hrcC k r hm]
      exact (h.roots k r (hCold k r hm)).stable (fun b' hb' => ⟨hf b' hb', rfl⟩) fun _ _ => rfl
  · rw [hkeysT]; exact hk3
  · intro t v htv
    have : t ∈ L.tmps.map (·.1) ++ L.refs.map (·.1) := by rw [← hkeysT]; exact List.mem_map.mpr ⟨_, htv, rfl⟩
    have := List.all_eq_true.mp hk5 t this
    exact Option.isNone_iff_eq_none.mp this
  · rw [hroots]
    intro t v htv
    rcases List.mem_append.mp htv with htv | htv
    · rcases hmemT t v htv with htv | ⟨sh, v0, x, e1, e2, e3, rfl⟩
      · -- an own slice
        obtain ⟨k, hk', rfl⟩ := mem_refsT htv
        have hkr : k ∈ L.roots.map (·.1) := memN_iff.mp (List.all_eq_true.mp hk6 _ hk')
        rw [← g1] at hkr
        obtain ⟨⟨k', r1⟩, hm1, rfl⟩ := List.mem_map.mp hkr
        have hRk : getR C' (L.unpack a0) k' = some r1 := hR1.mpr (List.mem_append_left _ hm1)
        have fin : ∀ (c v : Value), a.tmps[t]? = some c → (rc1 k').cs = [v] → c = v → (∃ e sa, r1.s = .sl e sa) →
            ∃ c, a.tmps[t]? = some c ∧ VOk w fz1 (getR C' (L.unpack a0)) rc1 (.own k' []) c := by
          rintro c v hc hq rfl ⟨e, sa, hs⟩
          refine ⟨c, hc, [c], fun r hr => ?_, rfl⟩
          rw [hRk] at hr; cases hr
          refine ⟨?_, ⟨r1.o, by cases r1.o <;> rfl⟩, ?_, e, sa, ?_⟩
          · exact InB_nil _ _
          · rw [hq]; cases r1.s <;> rfl
          · rw [hs]; rfl
        rcases agree_spec hag t k' hk' with ⟨u, hu, hall⟩ | ⟨hu, j, hg, hj⟩
        · rcases g4 k' r1 hm1 with ⟨t', sh, o, x, c, _, _, q3, q4, q5, q6, q7, _⟩ | ⟨_, _, q1, _⟩
          · have : t' = t := hall (t', k') q3 rfl
            subst this
            refine fin c c q4 q5 rfl ?_
            cases sh <;> first | (simp [isSl] at q6; done) | exact ⟨_, _, q7⟩
          · rw [hu] at q1; cases q1
        · rcases g4 k' r1 hm1 with ⟨_, _, _, _, _, q1, _⟩ | ⟨j', r, _, q2, q3, q4, _, q6, _⟩
          · rw [hu] at q1; cases q1
          · rw [hj] at q2; cases q2
            obtain ⟨c, hc, hv⟩ := h.getT hg
            obtain ⟨cs, hv, rfl⟩ := hv
            obtain ⟨_, _, m2, e, sa, m3⟩ := hv r ((mem_getR h.keys).mpr (List.mem_append_left _ (look_mem q3)))
            have hrs : r.s = .sl e sa := by cases hs : r.s <;> rw [hs] at m3 <;> simp [shP] at m3 <;> simp [m3]
            have hcs : (rc j).cs = cs := by rw [hrs] at m2; simpa [cellsP] using m2
            have hok := (h.roots j r (List.mem_append_left _ (look_mem q3))).1.len
            rw [hrs, hcs] at hok
            obtain ⟨v, rfl⟩ := List.length_eq_one_iff.mp hok
            exact fin _ v hc (by rw [q6, hcs]) rfl ⟨e, sa, by rw [q4, hrs]⟩
      · -- frozen data
        obtain ⟨c, hc, hv⟩ := h.getT e2
        refine ⟨c, hc, view_row h hf hv e3 fun k hk' r hr b' hb' => ?_⟩
        have hfr : k ∈ L.tmps.flatMap (fun (t, _) => match getT C s t with | some v => keys v | none => []) := List.mem_flatMap.mpr ⟨_, e1, by simp only [e2]; exact hk'⟩
        have h2 := List.all_eq_true.mp ha1 k hfr
        rw [Bool.and_eq_true, Bool.not_eq_true', Option.isNone_iff_eq_none] at h2
        have hnm : k ∉ (L.roots.map fun r => (srcKey C s L.refs r.1).getD r.1) ++ L.croots := by rw [← memN_iff, h2.1]; simp
        have hm := (mem_getR h.keys).mp hr
        rcases List.mem_append.mp hm with hm | hm
        · refine hfd b' (List.mem_append_right _ (mem_allB.mpr ⟨k, r, mem_delKeys.mpr ⟨hm, fun hmm => ?_⟩, hb'⟩))
          rw [List.map_append] at hmm
          rcases List.mem_append.mp hmm with hmm | hmm
          · exact hnm (List.mem_append_left _ (srcP_keys.subset hmm))
          · exact hnm (List.mem_append_right _ (hcrk k hmm))
        · exact absurd hm (look_none.mp h2.2 r)
    · obtain ⟨c, hc, hv⟩ := h.tm t v (hCt t v htv)
      refine ⟨c, hc, hv.stable (fun b' hb' => ⟨hf b' hb', rfl⟩) (fun k p hkp => ?_) fun k hkb => ?_⟩
      · intro r1 hr1
        have hm1 := hR1.mp hr1
        rcases List.mem_append.mp hm1 with hm1 | hm1
        · have hkk := hnk k r1 hm1
          obtain ⟨e, he, rfl⟩ := List.mem_map.mp hkk
          have := List.all_eq_true.mp hk4 e he
          rw [Bool.and_eq_true, Bool.not_eq_true'] at this
          have h3 := anyRef_false this.1 htv
          rw [refsAt_refs hkp] at h3; cases h3
        · refine ⟨r1, (mem_getR h.keys).mpr (hCold k r1 hm1), rfl, fun c e a q1 q2 _ q4 => ⟨q1, q2, by rw [hrcC k r1 hm1]; exact q4⟩⟩
      · intro r1 hr1 hbx
        have hm1 := hR1.mp hr1
        rcases List.mem_append.mp hm1 with hm1 | hm1
        · rcases g4 k r1 hm1 with ⟨_, _, _, _, _, _, _, _, _, _, _, _, q8, _⟩ | ⟨j, r, _, _, q3, q4, q5, _, q7, q8, _⟩
          · rw [q8] at hbx; cases hbx
          · have := q8 hbx
            subst this
            exact ⟨r, (mem_getR h.keys).mpr (List.mem_append_left _ (look_mem q3)), by rw [← q5]; exact hbx, q4, q7⟩
        · exact ⟨r1, (mem_getR h.keys).mpr (hCold k r1 hm1), hbx, rfl, by rw [hrcC k r1 hm1]⟩
  · rw [hroots]
    intro k r hm hi
    rcases List.mem_append.mp hm with hm | hm
    · rcases g4 k r hm with ⟨_, _, _, _, _, _, _, _, _, _, _, _, _, q9⟩ | ⟨j, r0, _, _, q3, _, q5, q6, q7, _, q9⟩
      · rw [q9] at hi; cases hi
      · obtain ⟨m1, rfl⟩ := q9 hi
        obtain ⟨k1, k2⟩ := h.inn j r0 (List.mem_append_left _ (look_mem q3)) m1
        exact ⟨fun hb => q6.trans (k1 (q5.symm.trans hb)), fun hb => q7.trans (k2 (q5.symm.trans hb))⟩
    · rw [hrcC k r hm]; exact h.inn k r (hCold k r hm) hi
end
end Go.V
/- Code. -/
namespace Go.V
open Go

def QK (K : Ex → St → Prop) (C : St) (X : Fr) (w0 : World) : Exit → Act → World → Prop
  | .normal, a, w => ∃ s rc, K .normal s ∧ Rel rc [] C s X w0 a w
  | .exit id, a, w => ∃ s rc, K (.exit id) s ∧ Rel rc [] C s X w0 a w
  | .ret, a, w => ∃ s rc, K .ret s ∧ Rel rc [] C s X w0 a w
  | _, _, _ => False

section
variable {P : Program} {E : Env} {C s : St} {X : Fr} {w0 w : World} {a : Act} {rc : Nat → RC}

theorem Rel.drew (h : Rel rc [] C s X w0 a w) : Rel rc [] C s X w0 a { w with drawn := w.drawn + 1 } := by
  refine h.step h.keys h.excl (fun b hb => ⟨(h.bnd b hb).1, .inl hb⟩) (Nat.le_refl _) rfl rfl rfl (fun _ _ _ => rfl) (fun k r hk => .inl ⟨hk, rfl, fun _ _ => rfl⟩) (fun _ _ _ => ⟨rfl, fun _ _ => rfl⟩) h.tn (fun _ _ h => h) ?_
  intro t v _ k
  refine ⟨fun p _ => HS.same (fz := fun _ => True) rfl rfl (fun r hr => ⟨(h.root hr).stable (fun b _ => ⟨trivial, rfl⟩) fun _ _ => rfl, fun _ _ => rfl⟩) fun _ _ => rfl, fun _ => BS.same rfl rfl⟩

/-- Behind a loop: its constants are put back. -/
theorem Rel.merge (h : Rel rc [] C s X w0 a w) {ct : List (Nat × Val)} {cr : List (Nat × Root)} {rc1 : Nat → RC} {s1 : St} {a1 : Act} {w1 : World} (hXc : ∀ k b, ¬ X.c k b)
    (hct : ∀ t v, (t, v) ∈ ct → (t, v) ∈ s.tmps) (hctn : (ct.map (·.1)).Nodup)
    (h1 : Rel rc1 [] ⟨ct ++ C.tmps, cr ++ C.roots⟩ s1 X w0 a1 w1) : Rel rc1 [] C (merge ⟨ct, cr⟩ s1) X w0 a1 w1 := by
  have hl : (s1.roots ++ (cr ++ C.roots)) = ((s1.roots ++ cr) ++ C.roots) := by simp
  have hR : getR C (Go.V.merge ⟨ct, cr⟩ s1) = getR ⟨ct ++ C.tmps, cr ++ C.roots⟩ s1 := getR_congr h1.keys (by show ((s1.roots ++ cr) ++ C.roots).Perm _; rw [← hl])
  refine ⟨?_, ?_, ?_, ?_, ?_, ?_, ?_, h1.ext, h1.nd, h1.zok, fun k b hkb => absurd hkb (hXc k b), h1.tsz, ?_⟩
  · show (((s1.roots ++ cr) ++ C.roots).map (·.1)).Nodup
    rw [← hl]; exact h1.keys
  · show ([] ++ allB rc1 ((s1.roots ++ cr) ++ C.roots)).Nodup
    rw [← hl]; exact h1.excl
  · show ∀ b ∈ [] ++ allB rc1 ((s1.roots ++ cr) ++ C.roots), _
    rw [← hl]; exact h1.bnd
  · show ∀ k r, (k, r) ∈ (s1.roots ++ cr) ++ C.roots → RootOk w1 (fzOf X w1 ([] ++ allB rc1 ((s1.roots ++ cr) ++ C.roots))) r (rc1 k)
    rw [← hl]; exact h1.roots
  · show ((s1.tmps ++ ct).map (·.1)).Nodup
    rw [List.map_append]
    refine List.nodup_append.mpr ⟨h1.tn, hctn, ?_⟩
    rintro t ht _ ht2 rfl
    obtain ⟨⟨t', v⟩, hm, rfl⟩ := List.mem_map.mp ht
    obtain ⟨⟨t2, v2⟩, hm2, rfl⟩ := List.mem_map.mp ht2
    exact look_none.mp (h1.td _ _ hm) v2 (List.mem_append_left _ hm2)
  · intro t v htv
    rcases List.mem_append.mp (show (t, v) ∈ s1.tmps ++ ct from htv) with htv | htv
    · have := look_none.mp (h1.td t v htv)
      exact look_none.mpr fun v' hv' => this v' (List.mem_append_right _ hv')
    · exact h.td t v (hct t v htv)
  · show ∀ t v, (t, v) ∈ (s1.tmps ++ ct) ++ C.tmps → ∃ c, a1.tmps[t]? = some c ∧ VOk w1 (fzOf X w1 ([] ++ allB rc1 ((s1.roots ++ cr) ++ C.roots))) (getR C (Go.V.merge ⟨ct, cr⟩ s1)) rc1 v c
    rw [← hl, hR]
    intro t v htv
    exact h1.tm t v (by rw [List.append_assoc] at htv; exact htv)
  · show ∀ k r, (k, r) ∈ (s1.roots ++ cr) ++ C.roots → _
    rw [← hl]; exact h1.inn

theorem constsT_spec {roots : List (Nat × Root)} : ∀ {l : List Nat} {ct : List (Nat × Val)}, constsT C s roots l = some ct → ct.map (·.1) = l ∧ ∀ t v, (t, v) ∈ ct → (t, v) ∈ s.tmps := by
  intro l
  induction l with
  | nil => intro ct h; simp only [constsT, Option.some.injEq] at h; subst h; simp
  | cons t l ih =>
    intro ct h
    simp only [constsT] at h
    split at h
    · rename_i v vs h1 h2
      split at h
      · cases h
        obtain ⟨g1, g2⟩ := ih h2
        refine ⟨by simp [g1], fun t' v' h' => ?_⟩
        rcases List.mem_cons.mp h' with h' | h'
        · cases h'; exact look_mem h1
        · exact g2 t' v' h'
      · simp at h
    · simp at h

/-- A loop that is left after some rounds. -/
theorem wp_rounds {c : Code} {Q : Exit → Act → World → Prop} (I : Nat → Act → World → Prop) (h0 : ∀ a w, ¬ I 0 a w)
    (round : ∀ n a w, I (n + 1) a w → c.wp P (Exit.then (I n) Q) a w) : ∀ (n : Nat) (a : Act) (w : World), I n a w → (Code.loop c).wp P Q a w := by
  intro n a w h
  have h' : ∃ n, I n a w := ⟨n, h⟩
  classical
  let μ : Act → World → Nat := fun a w => if h : ∃ n, I n a w then Classical.choose (p := fun n => I n a w ∧ ∀ m, m < n → ¬ I m a w) (by
    obtain ⟨n, hn⟩ := h
    induction n using Nat.strongRecOn with
    | _ n ih =>
      by_cases hx : ∃ m, m < n ∧ I m a w
      · obtain ⟨m, h1, h2⟩ := hx; exact ih m h1 h2
      · exact ⟨n, hn, fun m hm hi => hx ⟨m, hm, hi⟩⟩) else 0
  have hμ : ∀ a w, (∃ n, I n a w) → I (μ a w) a w ∧ ∀ m, m < μ a w → ¬ I m a w := by
    intro a w h
    simp only [μ, h, dif_pos]
    exact Classical.choose_spec (p := fun n => I n a w ∧ ∀ m, m < n → ¬ I m a w) _
  refine wp_loop (fun a w => ∃ n, I n a w) μ h' fun a w hI => ?_
  obtain ⟨g1, g2⟩ := hμ a w hI
  cases hm : μ a w with
  | zero => rw [hm] at g1; exact absurd g1 (h0 a w)
  | succ n =>
    rw [hm] at g1
    refine wp_mono (round n a w g1) fun e a' w' he => ?_
    cases e with
    | normal =>
      refine ⟨⟨n, he⟩, ?_⟩
      obtain ⟨k1, k2⟩ := hμ a' w' ⟨n, he⟩
      rcases Nat.lt_or_ge n (μ a' w') with h' | h'
      · exact absurd he (k2 n h')
      · omega
    | _ => exact he
end
end Go.V
/- Code: what the calculus tells is what happens. -/
namespace Go.V
open Go

section
variable {P : Program} {E : Env} {X : Fr} {w0 : World} {L : Nat → Option Loop} {pl : Nat → Option Pl}

theorem wp_mono_exit {c : Code} {Q Q' : Exit → Act → World → Prop} {a : Act} {w : World} (h : c.wp P Q a w) (hq : ∀ e a w, Q e a w → Q' e a w) : c.wp P Q' a w := wp_mono h hq

theorem ev_ok (hE : ∀ t s, E.sh t = some s → ShOk P s none t) (hG : ∀ f us rs outs, E.gives f us rs outs → GivesS P f us rs outs) (hm : P.follows .mixedOrders = true) (hXc : ∀ k b, ¬ X.c k b) :
    ∀ {c : Code} {cur : Nat} {C s : St} {K : Ex → St → Prop} {a : Act} {w : World} {rc : Nat → RC}, Rel rc [] C s X w0 a w → slotsOk X.n c = true → ev E L pl c cur C K s → c.wp P (QK K C X w0) a w := by
  intro c
  induction c with
  | skip => intro cur C s K a w rc h _ hk; exact wp_skip ⟨s, rc, hk, h⟩
  | exit id => intro cur C s K a w rc h _ hk; exact wp_exit ⟨s, rc, hk, h⟩
  | ret => intro cur C s K a w rc h _ hk; exact wp_ret ⟨s, rc, hk, h⟩
  | region id ops draw =>
    intro cur C s K a w rc h hs hk
    have hd : ∀ o ∈ ops.toList, ∀ t, o.dst = some t → t < X.n := by
      intro o ho t ht
      have := List.all_eq_true.mp hs o ho
      rw [ht] at this
      exact Nat.blt_eq.mp this
    cases draw with
    | false =>
      refine wp_region ?_
      have hk : opsM E C ops.toList (countUp 0 ops.size) s (K .normal) := hk
      rw [countUp_eq, ← List.range_eq_range'] at hk
      exact opsM_ok hE hG hd h hk fun s1 rc1 a1 w1 hk1 h1 => ⟨s1, rc1, hk1, h1⟩
    | true =>
      simp only [ev] at hk
      split at hk
      · rename_i p _
        split at hk
        · rename_i hr
          exact region_ok hE hG hm (fun c a w hq => hq) hd h.drew hr hk fun s1 rc1 a1 w1 hk1 h1 => ⟨s1, rc1, hk1, h1⟩
        · exact hk.elim
      · exact hk.elim
  | seq x y ihx ihy =>
    intro cur C s K a w rc h hs hk
    simp only [slotsOk, Bool.and_eq_true] at hs
    refine wp_seq (wp_mono (ihx h hs.1 hk) ?_)
    intro e a' w' he
    cases e with
    | normal => obtain ⟨s1, rc1, hk1, h1⟩ := he; exact ihy h1 hs.2 hk1
    | exit id => exact he
    | ret => exact he
    | _ => exact he.elim
  | cond c x y ihx ihy =>
    intro cur C s K a w rc h hs hk
    simp only [slotsOk, Bool.and_eq_true] at hs
    simp only [ev] at hk
    cases hv : evalV C s none c with
    | none => rw [hv] at hk; exact hk.elim
    | some v =>
      rw [hv] at hk
      cases v with
      | t sh oo b =>
        cases sh <;> try (exact hk.elim)
        cases oo <;> try (exact hk.elim)
        have hc := VOk.bool (evalV_ok h hv)
        obtain ⟨b, rfl⟩ : ∃ b' : Bool, b' = b := ⟨b, rfl⟩
        simp only at hk
        cases b with
        | true => exact wp_cond_true hc (ihx h hs.1 hk)
        | false => exact wp_cond_false hc (ihy h hs.2 hk)
      | _ => exact hk.elim
  | block id c ih =>
    intro cur C s K a w rc h hs hk
    refine wp_block (wp_mono (ih h hs hk) ?_)
    intro e a' w' he
    cases e with
    | normal => exact he
    | exit j =>
      obtain ⟨s1, rc1, hk1, h1⟩ := he
      simp only [Exit.inBlock]
      by_cases hj : j = id
      · subst hj
        simp only [Nat.beq_refl] at hk1
        simp only [if_true]
        exact ⟨s1, rc1, hk1, h1⟩
      · rw [if_neg hj]
        have : Nat.beq j id = false := by rw [Bool.eq_false_iff]; exact fun h => hj (Nat.eq_of_beq_eq_true h)
        simp only [this] at hk1
        exact ⟨s1, rc1, hk1, h1⟩
    | ret => exact he
    | _ => exact he.elim
  | loop c ih =>
    intro cur C s K a w rc h hs hk
    simp only [ev] at hk
    split at hk
    · exact hk.elim
    rename_i l _
    split at hk
    · exact hk.elim
    rename_i cr hcr
    split at hk
    case h_2 => exact hk.elim
    rename_i ct a0 hct hp ha
    split at hk
    case h_2 => exact hk.elim
    rename_i hok
    obtain ⟨k1, k2⟩ := constsR_spec hcr
    obtain ⟨t1, t2⟩ := constsT_spec hct
    have hok' := hok
    unfold okL at hok'
    simp only [Bool.and_eq_true] at hok'
    have hctn : (ct.map (·.1)).Nodup := by rw [t1]; exact nodupN_iff hok'.1.1.1.1.1
    have hcrn : (cr.map (·.1)).Nodup := by
      rw [k1]
      unfold apart at ha
      simp only [Bool.and_eq_true] at ha
      exact (List.nodup_append.mp (nodupN_iff ha.2)).2.1
    obtain ⟨rc0, h0⟩ := pack_ok (C' := ⟨ct ++ C.tmps, cr ++ C.roots⟩) h hXc rfl k2 (by rw [k1]; exact fun _ h => h) hcrn
      (fun t v htv => by
        rcases List.mem_append.mp htv with htv | htv
        · exact List.mem_append_left _ (t2 t v htv)
        · exact List.mem_append_right _ htv) hp ha hok
    obtain ⟨n, hn⟩ := hk
    let B : (l.den → Prop) → l.den → Prop := fun again a => ev E L pl c cur ⟨ct ++ C.tmps, cr ++ C.roots⟩ (fun e s' => match e with
            | .normal => match l.pack ⟨ct ++ C.tmps, cr ++ C.roots⟩ s', apart ⟨ct ++ C.tmps, cr ++ C.roots⟩ s' l with
              | some a', true => again a'
              | _, _ => False
            | e => K e (merge ⟨ct, cr⟩ s')) (l.unpack a)
    refine wp_rounds (fun n a' w' => ∃ (x : l.den) (rc' : Nat → RC), iterP B n x ∧ Rel rc' [] ⟨ct ++ C.tmps, cr ++ C.roots⟩ (l.unpack x) X w0 a' w') ?_ ?_ n a w ⟨a0, rc0, hn, h0⟩
    · rintro a' w' ⟨x, rc', hx, _⟩; exact hx
    · rintro m a' w' ⟨x, rc', hx, hr⟩
      refine wp_mono (ih hr hs hx) ?_
      intro e a2 w2 he
      cases e with
      | normal =>
        obtain ⟨s2, rc2, hk2, h2⟩ := he
        simp only at hk2
        split at hk2
        · rename_i a3 hp3 ha3
          obtain ⟨rc3, h3⟩ := pack_ok (C' := ⟨ct ++ C.tmps, cr ++ C.roots⟩) (cr := []) h2 hXc rfl (by simp) (by simp) (by simp) (fun t v htv => List.mem_append_right _ htv) hp3 ha3 hok
          exact ⟨a3, rc3, hk2, h3⟩
        · exact hk2.elim
      | exit id =>
        obtain ⟨s2, rc2, hk2, h2⟩ := he
        exact ⟨_, rc2, hk2, h.merge hXc t2 hctn h2⟩
      | ret =>
        obtain ⟨s2, rc2, hk2, h2⟩ := he
        exact ⟨_, rc2, hk2, h.merge hXc t2 hctn h2⟩
      | _ => exact he.elim
  | _ => intro cur C s K a w rc h hs hk; exact hk.elim
end
end Go.V
