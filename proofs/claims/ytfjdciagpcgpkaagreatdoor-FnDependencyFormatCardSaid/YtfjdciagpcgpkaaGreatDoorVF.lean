/-
  The sort and the compaction of a row of integers, by the library's contracts.
-/
import Derived.Test.YtfjdciagpcgpkaaGreatDoorVE
import Derived.Shelf.Sort.Plain
import Derived.Shelf.Slices.In.SortNone
import Derived.Shelf.Slices.CompactI
set_option linter.unusedVariables false
set_option linter.unusedSimpArgs false
namespace Go.V
open Go Go.Proofs Go.Shelf Go.Sort
theorem entered_of {P : Program} {f : FuncId} {fn : Func} (h : P.funcs[f]? = some fn) (hn : (fn.name == "runtime.NumGoroutine") = false) (hb : fn.body.isNone = false) : Entered P f := ⟨fn, h, hn, hb⟩
theorem RepL.ints {w:World} {fz:Nat→Prop} {o:O} (ho:o≠.dead):∀ {x:List Int} {cs bs},RepL (α:=Int) (Rep w fz (.int .i64) o) x cs bs→cs=x.map (Value.int .i64)∧bs=[]∧∀ y∈x,IntKind.i64.min≤y∧y≤IntKind.i64.max:=by
 intro x
 induction x with
 |nil=>rintro cs bs ⟨rfl,rfl⟩;exact⟨rfl,rfl,fun _ h=>by cases h⟩
 | cons a l ih=>
   rintro cs bs ⟨c1,c2,b1,b2,rfl,rfl,h1,h2⟩
   obtain⟨rfl,rfl,h3⟩:=ih h2
   obtain⟨rfl,_,h4⟩:=h1
   obtain⟨rfl,h5⟩:=h4 ho
   refine⟨rfl,rfl,fun y hy=>?_⟩
   rcases List.mem_cons.mp hy with rfl|hy
   · exact h5
   · exact h3 y hy
theorem RepL.of_ints {w:World} {fz:Nat→Prop} {o:O}:∀ {x:List Int},(∀ y∈x,IntKind.i64.min≤y∧y≤IntKind.i64.max)→RepL (α:=Int) (Rep w fz (.int .i64) o) x (x.map (Value.int .i64)) []:=by
 intro x
 induction x with
 |nil=>intro _;exact⟨rfl,rfl⟩
 | cons a l ih=>
   intro h
   exact⟨[.int .i64 a],_,[],[],rfl,rfl,⟨rfl,⟨rfl,by simp[Value.oneCell']⟩,fun _=>⟨rfl,h a (by simp)⟩⟩,ih fun y hy=>h y (by simp[hy])⟩
theorem own_ints {w:World} {fz:Nat→Prop} {e:TypeId} {x:List Int} {cs bs} (h:Rep w fz (.sl e (.int .i64)) (.own .z) x cs bs) :
  (cs=[.slice none 0 0]∧x=[]∧bs=[])∨(∃ g cap cur,cs=[.slice (some ⟨g,0,none⟩) x.length cap]∧w.heap[g]? = some (.cells cur e (0,0))∧x.length≤cap∧cap≤maxLen∧cur.size=cap∧
   cur.toList.take x.length=x.map (Value.int .i64)∧bs=[g]∧∀ y∈x,IntKind.i64.min≤y∧y≤IntKind.i64.max):=by
 obtain⟨v,es,ebs,rfl,h1,h2⟩:=h
 obtain⟨rfl,rfl,hr⟩:=RepL.ints (x:=x) (by simp) h1
 rcases h2 with⟨rfl,h3,rfl⟩|⟨g,cap,cur,rfl,h3,h4,h5,h6,h7,rfl⟩
 · exact .inl ⟨rfl,h3,rfl⟩
 · have h4:x.length≤cap:=h4
   have h6:cur.size=cap * 1:=h6
   have h7:cur.toList.take (x.length * 1)=x.map (Value.int .i64):=h7
   rw[Nat.mul_one]at h6 h7
   exact .inr ⟨g,cap,cur,rfl,h3,h4,h5,h6,h7,rfl,hr⟩
theorem own_ints_mk {w:World} {fz:Nat→Prop} {e:TypeId} {x:List Int} {g cap:Nat} {cur:Array Value} (h1:w.heap[g]? = some (.cells cur e (0,0))) (h2:x.length≤cap) (h3:cap≤maxLen) (h4:cur.size=cap)
  (h5:cur.toList.take x.length=x.map (Value.int .i64)) (h6:∀ y∈x,IntKind.i64.min≤y∧y≤IntKind.i64.max):Rep w fz (.sl e (.int .i64)) (.own .z) x [.slice (some ⟨g,0,none⟩) x.length cap] [g]:=
 ⟨_,_,[],rfl,RepL.of_ints (x:=x) h6,.inr ⟨g,cap,cur,rfl,h1,h2,h3,(by rw[h4,Nat.mul_one]:cur.size=cap * 1),(by rw[Nat.mul_one];exact h5:cur.toList.take (x.length * 1)=x.map (Value.int .i64)),rfl⟩⟩
theorem holds_ints {w:World} {e:TypeId} {x:List Int} {g:Nat} {cur:Array Value} (h1:w.heap[g]? = some (.cells cur e (0,0))) (h4:x.length≤cur.size)
  (h5:cur.toList.take x.length=x.map (Value.int .i64)):Holds (Value.int .i64) w g 0 x.toArray:=by
 intro j hj
 have hj':j<x.length:=by simpa using hj
 constructor
 · simp only[World.cell?,h1,Nat.zero_add]
   have:cur.toList[j]? = (x.map (Value.int .i64))[j]?:=by
    rw[←h5,List.getElem?_take,if_pos hj']
   simp only[Option.isSome_none,Bool.false_eq_true,if_false]
   rw[←Array.getElem?_toList,this,List.getElem?_map,List.getElem?_eq_getElem hj']
   simp[hj']
 · simp[World.frozen?,h1]
theorem putRow_block {w:World} {e:TypeId} {g:Nat} {cur:Array Value} {n:Nat} {α:Type} [Inhabited α] {enc:α→Value} {d:Array α} {os:Array Obj} (h1:w.heap[g]? = some (.cells cur e (0,0))) :
  (grow (putRow enc (Sort.ahead w n) g 0 d) os).heap[g]? = some (.cells (putCells enc 0 d cur) e (0,0)):=by
 have hg:g<w.heap.size:=by
  rcases Nat.lt_or_ge g w.heap.size with h|h
  · exact h
  · rw[Array.getElem?_eq_none h]at h1;simp at h1
 rw[heap_grow_old _ _ (by rw[size_putRow];exact hg)]
 simp only[putRow,mapBlock,Sort.ahead,Array.getElem?_modify,if_true,h1,Option.map_some,onCells]
theorem putCells_take {α:Type} [Inhabited α] {enc:α→Value} {cur:Array Value} {d:List α} (h:d.length≤cur.size):(putCells enc 0 d.toArray cur).toList.take d.length=d.map enc:=by
 apply List.ext_getElem?
 intro j
 rw[List.getElem?_take,List.getElem?_map]
 by_cases hj:j<d.length
 · rw[if_pos hj,Array.getElem?_toList,putCells,Array.getElem?_mapIdx,Array.getElem?_eq_getElem (by omega)]
   simp[hj]
 · rw[if_neg hj,List.getElem?_eq_none (by omega)];rfl
theorem putRow_ext {w:World} {g n:Nat} {α:Type} [Inhabited α] {enc:α→Value} {d:Array α} {os:Array Obj}:Ext [g] w (grow (putRow enc (Sort.ahead w n) g 0 d) os):=by
 refine⟨rfl,rfl,rfl,by rw[size_grow,size_putRow];exact Nat.le_add_right _ _,fun b hb hn=>?_,Nat.le_add_right _ _⟩
 rw[heap_grow_old _ _ (by rw[size_putRow];exact hb)]
 have:g≠b:=by rintro rfl;exact hn (by simp)
 simp only[putRow,mapBlock,Sort.ahead,Array.getElem?_modify,this,if_false]
def sortI (x:List Int):List Int:=x.mergeSort fun a b=>decide (a≤b)
def compI (x:List Int):List Int:=Lib.compact x
theorem sort_ints {P:Program} {ρ:Ren} (L:Lays.n189 P ρ) {e:TypeId} {x:List Int} (hx:x.length<4611686018427387904) :
  GivesS P (ρ.f 189) [⟨.sl e (.int .i64),.own .z,x⟩] [] [⟨.sl e (.int .i64),.own .z,sortI x⟩]:=by
 refine⟨entered_of L.f189 (by rfl) (by rfl),?_⟩
 rintro w fz args ls ⟨c,cs',cells,l1,l2,rfl,rfl,rfl,hrep,rfl,rfl⟩ hnd hls hfz
 have hrep:Rep w fz (.sl e (.int .i64)) (.own .z) x cells l1:=hrep
 rcases own_ints hrep with⟨rfl,rfl,rfl⟩|⟨g,cap,cur,rfl,h1,h2,h3,h4,h5,rfl,h6⟩
 · refine(Any.slices_Sort_int_none L none 0 w).mono ?_
   rintro en w' ⟨rfl,rfl⟩
   refine⟨_,[],[],[],rfl,rfl,Ext.refl' _ _,⟨rfl,rfl⟩,⟨_,_,_,[],[],rfl,rfl,rfl,rfl,rfl,by simp[Value.oneCell'],fun _=>?_,rfl,rfl⟩,by simp,by simp⟩
   have key:∀(F:Nat→Prop) (y:List Int),y=[]→Rep w' F (.sl e (.int .i64)) (.own .z) y [.slice none 0 0] []:=by
    rintro F y rfl;exact⟨_,[],[],rfl,⟨rfl,rfl⟩,.inl ⟨rfl,rfl,rfl⟩⟩
   exact key _ _ (by simp[sortI])
 · have hg:=(hls g (by simp)).1
   refine(Any.slices_Sort_int L g 0 cap x w (holds_ints h1 (by omega) h5) hg hx).mono ?_
   rintro en w' ⟨rfl,n,os,rfl⟩
   have hml:(sortI x).length=x.length:=by simp[sortI]
   refine⟨_,[],[],[g],rfl,rfl,putRow_ext,⟨rfl,rfl⟩,⟨_,_,_,[g],[],rfl,rfl,rfl,rfl,rfl,by simp[Value.oneCell'],fun _=>?_,rfl,rfl⟩,by simp,fun b hb=>?_⟩
   · have:=own_ints_mk (w:=grow (putRow (Value.int .i64) (Sort.ahead w n) g 0 (sortI x).toArray) os) (fz:=fzAfter fz ([g]++[]) w (grow (putRow (Value.int .i64) (Sort.ahead w n) g 0 (sortI x).toArray) os) ([]++[g])) (x:=sortI x) (cap:=cap) (putRow_block h1) (by omega) h3 (by simp[putCells,h4]) (putCells_take (by omega)) (fun y hy=>h6 y (by simpa [sortI]using hy))
     rw[hml]at this
     exact this
   · have:b=g:=by simpa using hb
     subst this
     refine⟨?_,.inl (by simp)⟩
     rw[size_grow,size_putRow]
     exact Nat.lt_of_lt_of_le hg (Nat.le_add_right _ _)
theorem compact_ints {P:Program} {ρ:Ren} (L:Lays2.n20 P ρ) {e:TypeId} {x:List Int} :
  GivesS P (ρ.f 20) [⟨.sl e (.int .i64),.own .z,x⟩] [⟨.sl e (.int .i64),.own .z,compI x⟩] [⟨.sl e (.int .i64),.dead,x⟩]:=by
 refine⟨entered_of L.f20 (by rfl) (by rfl),?_⟩
 rintro w fz args ls ⟨c,cs',cells,l1,l2,rfl,rfl,rfl,hrep,rfl,rfl⟩ hnd hls hfz
 have hrep:Rep w fz (.sl e (.int .i64)) (.own .z) x cells l1:=hrep
 rcases own_ints hrep with⟨rfl,rfl,rfl⟩|⟨g,cap,cur,rfl,h1,h2,h3,h4,h5,rfl,h6⟩
 · refine(Any.slices_Compact_int_empty L none 0 w).mono ?_
   rintro en w' ⟨rfl,rfl⟩
   refine⟨_,[.slice none 0 0],[],[],rfl,rfl,Ext.refl' _ _,⟨_,_,_,[],[],rfl,rfl,rfl,⟨_,[],[],rfl,⟨rfl,rfl⟩,.inl ⟨rfl,rfl,rfl⟩⟩,rfl,rfl⟩,⟨_,_,_,[],[],rfl,rfl,rfl,rfl,rfl,by simp[Value.oneCell'],fun _=>?_,rfl,rfl⟩,by simp,by simp⟩
   exact⟨rfl,rfl,by simp[Value.oneCell']⟩
 · have hg:=(hls g (by simp)).1
   have hcl:(compI x).length≤x.length:=by
    unfold compI Lib.compact Lib.compactUpTo
    rw[List.length_map]
    exact Nat.le_trans (List.length_filter_le _ _) (by simp)
   rw[maxLen_eq]at h3
   refine(Any.slices_Compact_int L g 0 cap x w (holds_ints h1 (by omega) h5) (by omega) h2).mono ?_
   rintro en w' ⟨rfl,n,rfl⟩
   change (∃ c cs l1 l2,Ending.returned (Value.slice (some ⟨g,0,none⟩) (compI x).length cap)=Ending.returned c∧_)
   rw[show Lib.compact x=compI x from rfl]
   have hgr:putRow (Value.int .i64) (Sort.ahead w n) g 0 (compI x++List.replicate (x.length - (compI x).length) 0).toArray=grow (putRow (Value.int .i64) (Sort.ahead w n) g 0 (compI x++List.replicate (x.length - (compI x).length) 0).toArray) #[]:=(grow_empty _).symm
   rw[hgr]
   have hdl:(compI x++List.replicate (x.length - (compI x).length) (0:Int)).length=x.length:=by simp;omega
   refine⟨_,[.slice (some ⟨g,0,none⟩) (compI x).length cap],[g],[],rfl,rfl,putRow_ext,⟨_,_,[.slice (some ⟨g,0,none⟩) (compI x).length cap],[g],[],rfl,rfl,rfl,?_,rfl,rfl⟩,⟨_,_,_,[],[],rfl,rfl,rfl,rfl,rfl,by simp[Value.oneCell'],fun _=>⟨rfl,rfl,by simp[Value.oneCell']⟩,rfl,rfl⟩,by simp,fun b hb=>?_⟩
   · refine own_ints_mk (x:=compI x) (putRow_block h1) (by omega) (by rw[maxLen_eq];omega) (by simp[putCells,h4]) ?_ ?_
     · have:=putCells_take (enc:=Value.int .i64) (cur:=cur) (d:=compI x++List.replicate (x.length - (compI x).length) 0) (by omega)
       have h7:=congrArg (List.take (compI x).length) this
       rw[List.take_take,Nat.min_eq_left (by omega),List.map_append,List.take_left' (by simp)]at h7
       exact h7
     · intro y hy
       refine h6 y ?_
       unfold compI Lib.compact Lib.compactUpTo at hy
       obtain⟨j,hj,rfl⟩:=List.mem_map.mp hy
       have hj2:j<x.length:=by simpa using (List.mem_filter.mp hj).1
       simp[hj2]
   · have:b=g:=by simpa using hb
     subst this
     refine⟨?_,.inl (by simp)⟩
     rw[size_grow,size_putRow]
     exact Nat.lt_of_lt_of_le hg (Nat.le_add_right _ _)
end Go.V

