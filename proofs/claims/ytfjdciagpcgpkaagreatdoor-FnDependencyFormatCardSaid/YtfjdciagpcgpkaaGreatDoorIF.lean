/-
  The family of small functions: sizes, copies, equalities.
-/
import Derived.Test.YtfjdciagpcgpkaaGreatDoorIS0
import Derived.Test.YtfjdciagpcgpkaaGreatDoorVE
set_option linter.unusedVariables false
set_option linter.unusedSimpArgs false
set_option maxRecDepth 1000000
set_option maxHeartbeats 4000000
set_option linter.unusedVariables false
set_option linter.unusedSimpArgs false
namespace Go.V
open Go
theorem g_slices_IndexFunc_int_c_iIsValidAtom_1 {x0:List Int} {x1:Unit} (p:Int→Bool) (hp:∀ t∈x0,G_iIsValidAtom_1 t (p t)):G_slices_IndexFunc_int_c_iIsValidAtom_1 x0 x1 (if firstAt p x0<x0.length then(firstAt p x0:Int)else -1):=M_slices_IndexFunc_int_c_iIsValidAtom_1 _ _ _ (by
 unfold S_slices_IndexFunc_int_c_iIsValidAtom_1
 exact idxRow p (fun y=>((y,()):Int×Unit)=((if firstAt p x0<x0.length then(firstAt p x0:Int)else -1),())) (fun t A B=>∃ y,G_iIsValidAtom_1 t y∧bcase y A B) (fun t ht A B h1 h2=>⟨_,hp t ht,bc_if h1 h2⟩) rfl)
theorem g_slices_ContainsFunc_int_c_iIsValidAtom_1 {x0:List Int} {x1:Unit} (p:Int→Bool) (hp:∀ t∈x0,G_iIsValidAtom_1 t (p t)):G_slices_ContainsFunc_int_c_iIsValidAtom_1 x0 x1 (x0.any p):=M_slices_ContainsFunc_int_c_iIsValidAtom_1 _ _ _ (by
 unfold S_slices_ContainsFunc_int_c_iIsValidAtom_1
 refine⟨_,g_slices_IndexFunc_int_c_iIsValidAtom_1 p hp,?_⟩
 rw[idx_ge])
theorem g_slices_IndexFunc_Atom_c_iareAtoms_1 {x0:List TFact} {x1:List TRel×Unit} (p:TFact→Bool) (hp:∀ t∈x0,G_iareAtoms_1 t x1.1 (p t)):G_slices_IndexFunc_Atom_c_iareAtoms_1 x0 x1 (if firstAt p x0<x0.length then(firstAt p x0:Int)else -1):=M_slices_IndexFunc_Atom_c_iareAtoms_1 _ _ _ (by
 unfold S_slices_IndexFunc_Atom_c_iareAtoms_1
 exact idxRow p (fun y=>((y,()):Int×Unit)=((if firstAt p x0<x0.length then(firstAt p x0:Int)else -1),())) (fun t A B=>∃ y,G_iareAtoms_1 t x1.1 y∧bcase y A B) (fun t ht A B h1 h2=>⟨_,hp t ht,bc_if h1 h2⟩) rfl)
theorem g_slices_ContainsFunc_Atom_c_iareAtoms_1 {x0:List TFact} {x1:List TRel×Unit} (p:TFact→Bool) (hp:∀ t∈x0,G_iareAtoms_1 t x1.1 (p t)):G_slices_ContainsFunc_Atom_c_iareAtoms_1 x0 x1 (x0.any p):=M_slices_ContainsFunc_Atom_c_iareAtoms_1 _ _ _ (by
 unfold S_slices_ContainsFunc_Atom_c_iareAtoms_1
 refine⟨_,g_slices_IndexFunc_Atom_c_iareAtoms_1 p hp,?_⟩
 rw[idx_ge])
theorem g_slices_Index_int {x0:List Int} {x1:Int}:G_slices_Index_int x0 x1 (if firstAt (fun t=>x1 == t) x0<x0.length then(firstAt (fun t=>x1 == t) x0:Int)else -1):=M_slices_Index_int _ _ _ (by
 unfold S_slices_Index_int
 exact idxRow (fun t=>x1 == t) (fun y=>((y,()):Int×Unit)=((if firstAt (fun t=>x1 == t) x0<x0.length then(firstAt (fun t=>x1 == t) x0:Int)else -1),())) (fun t A B=>bcase (x1 == t) A B) (fun t ht A B h1 h2=>bc_if h1 h2) rfl)
theorem g_slices_Contains_int {x0:List Int} {x1:Int}:G_slices_Contains_int x0 x1 (decide (x1∈x0)):=M_slices_Contains_int _ _ _ (by
 unfold S_slices_Contains_int
 refine⟨_,g_slices_Index_int,?_⟩
 rw[idx_ge,any_mem])
theorem g_slices_IndexFunc_Atom_c_iIsValidDependency_1 {x0:List TFact} {x1:List TRel×Unit} (p:TFact→Bool) (hp:∀ t∈x0,G_iIsValidDependency_1 t x1.1 (p t)):G_slices_IndexFunc_Atom_c_iIsValidDependency_1 x0 x1 (if firstAt p x0<x0.length then(firstAt p x0:Int)else -1):=M_slices_IndexFunc_Atom_c_iIsValidDependency_1 _ _ _ (by
 unfold S_slices_IndexFunc_Atom_c_iIsValidDependency_1
 exact idxRow p (fun y=>((y,()):Int×Unit)=((if firstAt p x0<x0.length then(firstAt p x0:Int)else -1),())) (fun t A B=>∃ y,G_iIsValidDependency_1 t x1.1 y∧bcase y A B) (fun t ht A B h1 h2=>⟨_,hp t ht,bc_if h1 h2⟩) rfl)
theorem g_slices_ContainsFunc_Atom_c_iIsValidDependency_1 {x0:List TFact} {x1:List TRel×Unit} (p:TFact→Bool) (hp:∀ t∈x0,G_iIsValidDependency_1 t x1.1 (p t)):G_slices_ContainsFunc_Atom_c_iIsValidDependency_1 x0 x1 (x0.any p):=M_slices_ContainsFunc_Atom_c_iIsValidDependency_1 _ _ _ (by
 unfold S_slices_ContainsFunc_Atom_c_iIsValidDependency_1
 refine⟨_,g_slices_IndexFunc_Atom_c_iIsValidDependency_1 p hp,?_⟩
 rw[idx_ge])
theorem g_slices_IndexFunc_Relation_c_iRelationIndex_1 {x0:List TRel} {x1:List UInt8×Unit} (p:TRel→Bool) (hp:∀ t∈x0,G_iRelationIndex_1 t x1.1 (p t)):G_slices_IndexFunc_Relation_c_iRelationIndex_1 x0 x1 (if firstAt p x0<x0.length then(firstAt p x0:Int)else -1):=M_slices_IndexFunc_Relation_c_iRelationIndex_1 _ _ _ (by
 unfold S_slices_IndexFunc_Relation_c_iRelationIndex_1
 exact idxRow p (fun y=>((y,()):Int×Unit)=((if firstAt p x0<x0.length then(firstAt p x0:Int)else -1),())) (fun t A B=>∃ y,G_iRelationIndex_1 t x1.1 y∧bcase y A B) (fun t ht A B h1 h2=>⟨_,hp t ht,bc_if h1 h2⟩) rfl)
theorem g_slices_Equal_int {x0:List Int} {x1:List Int}:G_slices_Equal_int x0 x1 (decide (x0=x1)):=M_slices_Equal_int _ _ _ (by
 unfold S_slices_Equal_int
 refine lenI fun hl=>lenI fun _=>?_
 have h:=eqRowB (fun a b=>decide (a=b)) (fun y=>((y,()):Bool×Unit)=(decide (x0=x1),())) (fun t u A B=>bcase (t != u) A B) (d:=(0:Int)) (e:=(0:Int)) (fun t ht u hu A B h1 h2=>bc_ne (fun h=>h1 (by simpa using h)) (fun h=>h2 (by simpa using h))) (by rw[zip_all_eq _ (fun _ _=>rfl)]) hl
 refine bc_ne (fun hne=>?_) (fun he=>?_)
 · rwa [show(((x0.length:Int) != (x1.length:Int))=true)from by simpa using hne]at h
 · rw[show(((x0.length:Int) != (x1.length:Int))=false)from by simp[he]]at h
   exact lenI fun _=>h)
theorem g_slices_EqualFunc_Atom_c_isameAtom {x0:List TFact} {x1:List TFact} {x2:Unit} (q:TFact→TFact→Bool) (hq:∀ t∈x0,∀ u∈x1,G_isameAtom t u (q t u)):G_slices_EqualFunc_Atom_c_isameAtom x0 x1 x2 (x0.length == x1.length&&(x0.zip x1).all fun t=>q t.1 t.2):=M_slices_EqualFunc_Atom_c_isameAtom _ _ _ _ (by
 unfold S_slices_EqualFunc_Atom_c_isameAtom
 refine lenI fun hl=>lenI fun _=>?_
 have h:=eqRowB q (fun y=>((y,()):Bool×Unit)=((x0.length == x1.length&&(x0.zip x1).all fun t=>q t.1 t.2),())) (fun t u A B=>∃ y,G_isameAtom t u y∧bcase (!y) A B) (d:=zFact) (e:=zFact) (fun t ht u hu A B h1 h2=>⟨_,hq t ht u hu,bc_not h1 h2⟩) rfl hl
 refine bc_ne (fun hne=>?_) (fun he=>?_)
 · rwa [show(((x0.length:Int) != (x1.length:Int))=true)from by simpa using hne]at h
 · rw[show(((x0.length:Int) != (x1.length:Int))=false)from by simp[he]]at h
   exact lenI fun _=>h)
end Go.V

