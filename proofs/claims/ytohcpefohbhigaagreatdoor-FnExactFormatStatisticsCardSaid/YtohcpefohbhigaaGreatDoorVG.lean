/-
  The sort of a row of structs by a comparison of the program, by the library's contract.
-/
import Derived.Test.YtohcpefohbhigaaGreatDoorVF
import Derived.Test.YtohcpefohbhigaaGreatDoorVE
import Derived.Shelf.SlSortCmp.WholeK
import Derived.Shelf.SlSortCmp.NoneTotal
set_option linter.unusedVariables false
set_option linter.unusedSimpArgs false
namespace Go.V
open Go Go.Proofs Go.Shelf Go.Sort Go.Lib Go.RowKit
section
variable {w:World} {fz:Nat→Prop} {sh:Sh} {oa:O} {g:Nat}
theorem ext_grow {w w':World} (h:Ext [] w w'):∃ q os,w'=grow (w.drewN q) os:=by
 refine⟨w'.drawn - w.drawn,w'.heap.extract w.heap.size w'.heap.size,?_⟩
 obtain⟨heap',tape',drawn',os',output'⟩:=w'
 have e1:os'=w.os:=h.os
 have e2:tape'=w.tape:=h.tape
 have e3:output'=w.output:=h.output
 have hs:w.heap.size≤heap'.size:=h.size
 have hd:w.drawn≤drawn':=h.drawn
 have hb:∀ k,k<w.heap.size→heap'[k]? = w.heap[k]?:=fun k hk=>h.block k hk (by simp)
 subst e1 e2 e3
 have eh:heap'=w.heap++heap'.extract w.heap.size heap'.size:=by
  apply Array.ext_getElem?
  intro k
  by_cases hk:k<w.heap.size
  · rw[Array.getElem?_append_left hk];exact hb k hk
  · rw[Array.getElem?_append_right (by omega),Array.getElem?_extract]
    by_cases hk2:k<heap'.size
    · rw[if_pos (by omega)];congr 1;omega
    · rw[if_neg (by omega),Array.getElem?_eq_none (by omega)]
 have ed:w.drawn+(drawn' - w.drawn)=drawn':=by omega
 show World.mk heap' w.tape drawn' w.os w.output=World.mk (w.heap++heap'.extract w.heap.size heap'.size) w.tape (w.drawn+(drawn' - w.drawn)) w.os w.output
 rw[ed,←eh]
theorem enters_entered {P:Program} {f:FuncId} (h:Entered P f):∀ args w,(callFunc f args).run P w = .ok (.enter f args) w:=by
 obtain⟨fn,h1,h2,h3⟩:=h
 cases hb:fn.body with
 |none=>rw[hb]at h3;cases h3
 |some c=>exact enters_of h1 h2 hb
def sortL {α:Type} (cf:α→α→Int) (x:List α):List α:=x.mergeSort fun a b=>!(ltOf cf) b a
theorem permIn_map {α β:Type} [Inhabited α] [Inhabited β] {f:α→β} {d d':Array α} (h:PermIn 0 d.size d d'):PermIn 0 (d.map f).size (d.map f) (d'.map f):=by
 obtain⟨h1,_,h3⟩:=h
 refine⟨by simp[h1],fun i hi=>?_,?_⟩
 · rw[getElem!_neg _ i (by simp at hi ⊢;omega),getElem!_neg _ i (by simp at hi ⊢;omega)]
 · rw[show(d.map f).size=d.size by simp]
   have e1:d'.extract 0 d.size=d':=by rw[←h1];exact Array.extract_size
   have e2:d.extract 0 d.size=d:=Array.extract_size
   have e3:(d'.map f).extract 0 d.size=d'.map f:=by rw[←h1,show d'.size=(d'.map f).size by simp];exact Array.extract_size
   have e4:(d.map f).extract 0 d.size=d.map f:=by rw[show d.size=(d.map f).size by simp];exact Array.extract_size
   rw[e1,e2]at h3
   rw[e3,e4,Array.toList_map,Array.toList_map]
   exact h3.map f
theorem sorted_map {α β:Type} [Inhabited α] [Inhabited β] {f:α→β} {lt:β→β→Bool} {n:Nat} {d:Array α} (hn:n=d.size) (h:SortedIn (fun x y=>lt (f x) (f y)) 0 n d):SortedIn lt 0 n (d.map f):=by
 intro i j h1 h2 h3
 have:=h i j h1 h2 h3
 rw[getElem!_pos _ i (by omega),getElem!_pos _ j (by omega)]at this
 rw[getElem!_pos _ i (by simp;omega),getElem!_pos _ j (by simp;omega),Array.getElem_map,Array.getElem_map]
 exact this
end
end Go.V

