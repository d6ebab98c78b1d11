/-
  The functions that the law reaches: what each gives.
-/
import Derived.Test.YtfjdciagpcgpkaaGreatDoorIF
import Derived.Test.YtfjdciagpcgpkaaGreatDoorIP
set_option linter.unusedVariables false
set_option linter.unusedSimpArgs false
set_option maxRecDepth 1000000
set_option maxHeartbeats 4000000
set_option linter.unusedVariables false
set_option linter.unusedSimpArgs false
namespace Go.V
open Go
theorem g_slices_Sort_int_ooz {x0:List Int} (h:x0.length≤1099511627776):G_slices_Sort_int_ooz x0 (sortI x0):=prim_sort h
theorem g_slices_Compact_int_ooz {x0:List Int}:G_slices_Compact_int_ooz x0 (compI x0):=prim_compact
def cmpL:List Int→List Int→Int
 |[],[]=>0
 |[],_::_=>-1
 |_::_,[]=>1
 |a::x,b::y=>if a<b then -1 else if b<a then 1 else cmpL x y
theorem cmpL_zero:∀ {x y:List Int},cmpL x y=0↔x=y
 |[],[]=>by simp[cmpL]
 |[],b::y=>by simp[cmpL]
 |a::x,[]=>by simp[cmpL]
 | a::x,b::y=>by
   unfold cmpL
   split
   · rename_i h;constructor
     · intro h';cases h'
     · intro h';cases h';omega
   · split
     · rename_i h;constructor
       · intro h';cases h'
       · intro h';cases h';omega
     · rw[cmpL_zero]
       have:a=b:=by omega
       simp[this]
theorem cmpL_step {x y:List Int} {i:Nat} (h:i<x.length) (h':i<y.length):cmpL (x.drop i) (y.drop i)=if x[i]<y[i] then -1 else if y[i]<x[i] then 1 else cmpL (x.drop (i+1)) (y.drop (i+1)):=by
 rw[drop_cons h,drop_cons h',cmpL]
theorem cmpL_end {x y:List Int} {i:Nat} (h:x.length≤i):cmpL (x.drop i) (y.drop i)=if i<y.length then -1 else 0:=by
 rw[List.drop_of_length_le h]
 by_cases h':i<y.length
 · rw[drop_cons h',if_pos h'];rfl
 · rw[List.drop_of_length_le (by omega),if_neg h'];rfl
theorem cmpL_end' {x y:List Int} {i:Nat} (h:i<x.length) (h':y.length≤i):cmpL (x.drop i) (y.drop i)=1:=by
 rw[List.drop_of_length_le h',drop_cons h];rfl
theorem g_sl4Ints {x y:List Int}:G_sl4Ints x y (cmpL x y):=M_sl4Ints _ _ _ (by
 unfold S_sl4Ints
 refine loopP_down (fun k a=>∃ i:Nat,i+k=x.length∧a=((i:Int),())∧i≤y.length∧cmpL (x.drop i) (y.drop i)=cmpL x y) ?_ ?_ (n:=x.length) ⟨0,by omega,rfl,by omega,by simp⟩
 · rintro a ⟨i,hi,rfl,hy,hc⟩ X
   obtain rfl:i=x.length:=by omega
   rw[cmpL_end (Nat.le_refl _)]at hc
   refine lenI fun h1=>bcN (lenI fun _=>lenI fun h2=>bc_dec (fun h=>?_) (fun h=>lenI fun _=>lenI fun _=>bc_dec (fun h'=>by omega) (fun h'=>?_)))
   · rw[if_pos (by omega)]at hc;rw[←hc]
   · rw[if_neg (by omega)]at hc;rw[←hc]
 · rintro k a ⟨i,hi,rfl,hy,hc⟩ X hX
   have hlt:i<x.length:=by omega
   refine lenI fun h1=>bcI hlt (lenI fun h2=>bc_dec (fun h=>?_) (fun h=>?_))
   · have hlt':i<y.length:=by omega
     refine inI hlt (inI hlt' ?_)
     simp only
     rw[getI hlt,getI hlt']
     rw[cmpL_step hlt hlt']at hc
     refine bc_dec (fun h=>?_) (fun h=>inI hlt (inI hlt' (bc_dec (fun h'=>?_) (fun h'=>?_))))
     · rw[if_pos h]at hc;rw[←hc]
     · rw[if_neg h,if_pos h']at hc;rw[←hc]
     · rw[if_neg h,if_neg (by omega)]at hc
       rw[w64_succ (by omega)]
       exact hX _ ⟨i+1,by omega,rfl,by omega,hc⟩
   · simp only at h
     rw[cmpL_end' hlt (by omega)]at hc
     refine lenI fun _=>lenI fun _=>bc_dec (fun h'=>by omega) (fun h'=>lenI fun _=>lenI fun _=>bc_dec (fun h''=>?_) (fun h''=>by omega))
     rw[←hc])
theorem g_sl9Atoms {x y:List TFact}:G_sl9Atoms x y (decide (x=y)):=M_sl9Atoms _ _ _ (by
 unfold S_sl9Atoms
 refine lenI fun hl=>lenI fun hl'=>bc_ne (fun h=>?_) (fun h=>?_)
 · rw[decide_eq_false];rintro rfl;exact h rfl
 · have he:x.length=y.length:=by omega
   refine loopP_down (fun k a=>∃ i:Nat,i+k=x.length∧a=((i:Int),())∧x.take i=y.take i) ?_ ?_ (n:=x.length) ⟨0,by omega,rfl,by simp⟩
   · rintro a ⟨i,hi,rfl,hc⟩ X
     obtain rfl:i=x.length:=by omega
     rw[List.take_length,List.take_of_length_le (by omega)]at hc
     refine lenI fun _=>bcN ?_
     rw[decide_eq_true hc]
   · rintro k a ⟨i,hi,rfl,hc⟩ X hX
     have hlt:i<x.length:=by omega
     have hlt':i<y.length:=by omega
     refine lenI fun _=>bcI hlt (inI hlt (inI hlt' ?_))
     simp only
     rw[getI hlt,getI hlt']
     have no:x[i]≠y[i]→((false,()):Bool×Unit)=(decide (x=y),()):=by
      intro hn;rw[decide_eq_false];rintro rfl;exact hn rfl
     refine bc_ne (fun h=>no fun e=>h (by rw[e])) (fun h=>inI hlt (inI hlt' ⟨_,g_sl4Ints,bc_ne (fun h'=>no fun e=>h' (cmpL_zero.mpr (by rw[e]))) (fun h'=>?_)⟩))
     rw[w64_succ (by omega)]
     refine hX _ ⟨i+1,by omega,rfl,?_⟩
     rw[take_succ_snoc hlt,take_succ_snoc hlt',hc]
     have h2:=cmpL_zero.mp h'
     have:x[i]=y[i]:=Prod.ext h (Prod.ext h2 rfl)
     rw[this])
theorem dep_eq {x y:TDep}:(x=y)↔x.1=y.1∧x.2.1=y.2.1∧x.2.2.1=y.2.2.1∧x.2.2.2.1=y.2.2.2.1∧x.2.2.2.2.1=y.2.2.2.2.1:=by
 obtain⟨a,b,c,d,e,u⟩:=x;obtain⟨a',b',c',d',e',u'⟩:=y
 simp
theorem g_sEqualDependencies {x y:TDep}:G_sEqualDependencies x y (decide (x=y)):=M_sEqualDependencies _ _ _ (by
 unfold S_sEqualDependencies
 have no:¬ x=y→((false,()):Bool×Unit)=(decide (x=y),()):=fun h=>by rw[decide_eq_false h]
 refine⟨_,g_sl9Atoms,bc_dec (fun h1=>⟨_,g_sl9Atoms,bc_dec (fun h2=>bc_beq (fun h3=>bc_beq (fun h4=>?_) (fun h=>no fun e=>h (by rw[e]))) (fun h=>no fun e=>h (by rw[e]))) (fun h=>no fun e=>h (by rw[e]))⟩) (fun h=>no fun e=>h (by rw[e]))⟩
 have:(x.2.2.2.2.1 == y.2.2.2.2.1)=decide (x=y):=by
  by_cases h:x.2.2.2.2.1=y.2.2.2.2.1
  · rw[decide_eq_true (dep_eq.mpr ⟨h1,h2,h3,h4,h⟩)];simp[h]
  · rw[decide_eq_false fun e=>h (by rw[e])];simpa using h
 rw[this])
theorem g_isameAtom {x y:TFact}:G_isameAtom x y (decide (x=y)):=M_isameAtom _ _ _ (by
 unfold S_isameAtom
 refine bc_beq (fun h=>⟨_,g_slices_Equal_int,?_⟩) (fun h=>?_)
 · obtain⟨a,b,_⟩:=x;obtain⟨a',b',_⟩:=y
   simp only at h;simp[h]
 · rw[decide_eq_false];rintro rfl;exact h rfl)
theorem g_iEqualDependencies {x y:TDep}:G_iEqualDependencies x y (decide (x=y)):=M_iEqualDependencies _ _ _ (by
 unfold S_iEqualDependencies
 have no:¬ x=y→((false,()):Bool×Unit)=(decide (x=y),()):=fun h=>by rw[decide_eq_false h]
 have at_:∀ {a b:List TFact},G_slices_EqualFunc_Atom_c_isameAtom a b () (decide (a=b)):=by
  intro a b
  have:=g_slices_EqualFunc_Atom_c_isameAtom (x0:=a) (x1:=b) (x2:=()) (fun a b=>decide (a=b)) (fun _ _ _ _=>g_isameAtom)
  rwa [zip_all_eq _ (fun _ _=>rfl)]at this
 refine bc_beq (fun h3=>bc_beq (fun h4=>bc_beq (fun h5=>⟨_,at_,bc_dec (fun h1=>⟨_,at_,?_⟩) (fun h=>no fun e=>h (by rw[e]))⟩) (fun h=>no fun e=>h (by rw[e]))) (fun h=>no fun e=>h (by rw[e]))) (fun h=>no fun e=>h (by rw[e]))
 have:decide (x.2.1=y.2.1)=decide (x=y):=by
  by_cases h:x.2.1=y.2.1
  · rw[decide_eq_true (dep_eq.mpr ⟨h1,h,h3,h4,h5⟩),decide_eq_true h]
  · rw[decide_eq_false h,decide_eq_false (p:=x=y) fun e=>h (by rw[e])]
 rw[this])
def ins:List Int→Int→List Int
 |[],x=>[x]
 |a::l,x=>if a<x then a::ins l x else if a=x then a::l else x::a::l
def srt (l:List Int):Prop:=l.Pairwise (· < ·)
def sset (l:List Int):List Int:=l.foldl ins []
theorem mem_put {y x:Int}:∀ {l:List Int},y∈ins l x↔y=x∨y∈l
 |[]=>by simp[ins]
 | a::l=>by
   unfold ins
   split
   · rw[List.mem_cons,mem_put,List.mem_cons]
     constructor
     · rintro (h|h|h)<;>simp[h]
     · rintro (h|h|h)<;>simp[h]
   · split
     · rename_i h;subst h;simp
     · simp
theorem srt_put {x:Int}:∀ {l:List Int},srt l→srt (ins l x)
 |[],_=>by simp[ins,srt]
 | a::l,h=>by
   obtain⟨h1,h2⟩:=List.pairwise_cons.mp h
   unfold ins
   split
   · rename_i hlt
     refine List.pairwise_cons.mpr ⟨fun y hy=>?_,srt_put h2⟩
     rcases mem_put.mp hy with rfl|hy
     · exact hlt
     · exact h1 y hy
   · split
     · exact h
     · refine List.pairwise_cons.mpr ⟨fun y hy=>?_,h⟩
       rcases List.mem_cons.mp hy with rfl|hy
       · omega
       · have:=h1 y hy;omega
theorem foldput {l:List Int}:∀ {s:List Int},srt s→srt (l.foldl ins s)∧∀ y,y∈l.foldl ins s↔y∈s∨y∈l:=by
 induction l with
 |nil=>intro s h;exact⟨h,by simp⟩
 | cons a l ih=>
   intro s h
   obtain⟨h1,h2⟩:=ih (srt_put (x:=a) h)
   refine⟨h1,fun y=>?_⟩
   rw[List.foldl_cons,h2,mem_put,List.mem_cons]
   constructor
   · rintro ((h|h)|h)<;>simp[h]
   · rintro (h|h|h)<;>simp[h]
theorem srt_sset (l:List Int):srt (sset l):=(foldput List.Pairwise.nil).1
theorem mem_sset {l:List Int} {y:Int}:y∈sset l↔y∈l:=by have:=(foldput (l:=l) List.Pairwise.nil).2 y;simpa [sset]using this
theorem srt_ext:∀ {a b:List Int},srt a→srt b→(∀ y,y∈a↔y∈b)→a=b
 |[],[],_,_,_=>rfl
 |[],y::b,_,_,h=>by have:=(h y).mpr (by simp);simp at this
 |x::a,[],_,_,h=>by have:=(h x).mp (by simp);simp at this
 | x::a,y::b,ha,hb,h=>by
   obtain⟨ha1,ha2⟩:=List.pairwise_cons.mp ha
   obtain⟨hb1,hb2⟩:=List.pairwise_cons.mp hb
   have hxy:x=y:=by
    rcases List.mem_cons.mp ((h x).mp (by simp))with e|hx
    · exact e
    · rcases List.mem_cons.mp ((h y).mpr (by simp))with e|hy
      · exact e.symm
      · have:=ha1 y hy;have:=hb1 x hx;omega
   subst hxy
   congr 1
   refine srt_ext ha2 hb2 fun z=>⟨fun hz=>?_,fun hz=>?_⟩
   · rcases List.mem_cons.mp ((h z).mp (by simp[hz]))with e|h'
     · have:=ha1 z hz;omega
     · exact h'
   · rcases List.mem_cons.mp ((h z).mpr (by simp[hz]))with e|h'
     · have:=hb1 z hz;omega
     · exact h'
theorem sset_of {a l:List Int} (h1:srt a) (h2:∀ y,y∈a↔y∈l):a=sset l:=srt_ext h1 (srt_sset l) fun y=>by rw[h2,mem_sset]
theorem sset_snoc {l:List Int} {x:Int}:ins (sset l) x=sset (l++[x]):=by unfold sset;rw[List.foldl_append];rfl
theorem put_len (l:List Int) (x:Int):(ins l x).length≤l.length+1:=by
 induction l with
 |nil=>simp[ins]
 |cons a l ih=>unfold ins;split;simp;omega;split<;>simp
theorem sset_len (l:List Int):(sset l).length≤l.length:=by
 have:∀(l s:List Int),(l.foldl ins s).length≤s.length+l.length:=by
  intro l
  induction l with
  |nil=>intro s;simp
  |cons a l ih=>intro s;have:=ih (ins s a);have:=put_len s a;simp only[List.foldl_cons,List.length_cons];omega
 have:=this l []
 simpa [sset]using this
theorem put_eq (l:List Int) (x:Int):ins l x=if h:firstAt (fun a=>!decide (a<x)) l<l.length then(if l[firstAt (fun a=>!decide (a<x)) l]=x then l else l.take (firstAt (fun a=>!decide (a<x)) l)++x::l.drop (firstAt (fun a=>!decide (a<x)) l))else l++[x]:=by
 induction l with
 |nil=>simp[ins,firstAt]
 | cons a l ih=>
   unfold ins
   by_cases ha:a<x
   · have e:firstAt (fun a=>!decide (a<x)) (a::l)=firstAt (fun a=>!decide (a<x)) l+1:=by simp[firstAt,ha]
     rw[if_pos ha,ih]
     by_cases hf:firstAt (fun a=>!decide (a<x)) l<l.length
     · rw[dif_pos hf,dif_pos (by rw[e];simpa using hf)]
       simp only[e,List.getElem_cons_succ,List.take_succ_cons,List.drop_succ_cons]
       split
       · rfl
       · rfl
     · rw[dif_neg hf,dif_neg (by rw[e];simpa using hf)]
       rfl
   · have e:firstAt (fun a=>!decide (a<x)) (a::l)=0:=by simp[firstAt,ha]
     rw[if_neg ha,dif_pos (by rw[e];simp)]
     simp only[e,List.getElem_cons_zero,List.take_zero,List.drop_zero,List.nil_append]
theorem g_sl4Put {l:List Int} {x:Int} (hl:l.length≤1073741824):G_sl4Put l x (ins l x):=M_sl4Put _ _ _ (by
 unfold S_sl4Put
 have fin:∀(k:Nat),k≤l.length→((0≤(k:Int)∧(k:Int)≤(List.length l:Int)∧(List.length l:Int)≤(List.length l:Int))∧(([x]:List Int).length+(List.drop (Int.toNat (k:Int)) (List.take (Int.toNat (List.length l:Int)) l)).length≤maxL∧((0≤(0:Int)∧(0:Int)≤(k:Int)∧(k:Int)≤(List.length l:Int))∧(([]:List Int).length+(List.drop (Int.toNat (0:Int)) (List.take (Int.toNat (k:Int)) l)).length≤maxL∧((([]:List Int)++(List.drop (Int.toNat (0:Int)) (List.take (Int.toNat (k:Int)) l))).length+(([x]:List Int)++(List.drop (Int.toNat (k:Int)) (List.take (Int.toNat (List.length l:Int)) l))).length≤maxL∧(((([]:List Int)++(List.drop (Int.toNat (0:Int)) (List.take (Int.toNat (k:Int)) l)))++(([x]:List Int)++(List.drop (Int.toNat (k:Int)) (List.take (Int.toNat (List.length l:Int)) l))),()):List Int×Unit)=(l.take k++x::l.drop k,()))))) ):=by
  intro k hk
  simp only[Int.toNat_natCast,List.take_length,Int.toNat_zero,List.drop_zero,List.nil_append,List.length_nil,List.length_cons,List.length_append,List.length_take,List.length_drop,maxL,List.cons_append]
  refine⟨⟨by omega,by omega,by omega⟩,by omega,⟨by omega,by omega,by omega⟩,by omega,by omega,trivial⟩
 rw[put_eq]
 refine loop_first l (fun a=>!decide (a<x)) (fun i=>((i:Int),())) (KT:=fun i=>∀ h:i<l.length,∀ r:List Int×Unit,r=(if l[i]=x then l else l.take i++x::l.drop i,())→r=((if h:firstAt (fun a=>!decide (a<x)) l<l.length then(if l[firstAt (fun a=>!decide (a<x)) l]=x then l else l.take (firstAt (fun a=>!decide (a<x)) l)++x::l.drop (firstAt (fun a=>!decide (a<x)) l))else l++[x]),()))
  (KF:=∀ r:List Int×Unit,r=(l++[x],())→r=((if h:firstAt (fun a=>!decide (a<x)) l<l.length then(if l[firstAt (fun a=>!decide (a<x)) l]=x then l else l.take (firstAt (fun a=>!decide (a<x)) l)++x::l.drop (firstAt (fun a=>!decide (a<x)) l))else l++[x]),())) ?_ ?_ ?_ ?_
 · intro i hi X h1 h2
   refine lenI fun hl'=>bcI hi (inI hi ?_)
   simp only
   rw[getI hi,w64_succ (by omega)]
   refine bc_dec (fun h=>h2 (by simpa using h)) (fun h=>?_)
   have h1:=h1 (by simpa using h) hi
   refine lenI fun _=>bcI hi (inI hi (bc_beq (fun he=>h1 _ (by rw[if_pos he])) (fun he=>?_)))
   rw[if_neg he]at h1
   have:=fin i (by omega)
   exact⟨this.1,this.2.1,this.2.2.1,this.2.2.2.1,this.2.2.2.2.1,h1 _ this.2.2.2.2.2⟩
 · intro X h
   refine lenI fun hl'=>bcN (lenI fun _=>bcN ?_)
   have:=fin l.length (by omega)
   refine⟨this.1,this.2.1,this.2.2.1,this.2.2.2.1,this.2.2.2.2.1,h _ (this.2.2.2.2.2.trans (by simp))⟩
 · intro h h' r hr;rw[hr,dif_pos h]
 · intro h r hr;rw[hr,dif_neg (by omega)])
theorem g_sl4Has {l:List Int} {x:Int}:G_sl4Has l x (decide (x∈l)):=M_sl4Has _ _ _ (by
 unfold S_sl4Has
 refine loop_any l (fun a=>x == a) (fun i=>((i:Int),())) (KT:=((true,()):Bool×Unit)=(decide (x∈l),())) (KF:=((false,()):Bool×Unit)=(decide (x∈l),())) ?_ (fun X h=>lenI fun _=>bcN h) (fun h=>?_) (fun h=>?_)
 · intro i hi X h1 h2
   refine lenI fun _=>bcI hi (inI hi ?_)
   simp only
   rw[getI hi,w64_succ (by omega)]
   exact bc_beq (fun h=>h1 (by simp[h])) (fun h=>h2 (by simpa using fun e=>h e.symm))
 · rw[any_mem]at h;rw[h]
 · rw[any_mem]at h;rw[h])
theorem sortI_mem {l:List Int} {y:Int}:y∈sortI l↔y∈l:=by unfold sortI;simp
theorem sortI_sorted (l:List Int):(sortI l).Pairwise (·≤·):=by
 unfold sortI
 have:=List.pairwise_mergeSort (le:=fun a b:Int=>decide (a≤b)) (fun a b c h1 h2=>by simp at *;omega) (fun a b=>by simp;omega) l
 exact this.imp fun h=>by simpa using h
theorem comp_sort (l:List Int):compI (sortI l)=sset l:=by
 have hs:=sortI_sorted l
 have hget:∀ i j (hi:i<(sortI l).length) (hj:j<(sortI l).length),i≤j→(sortI l)[i]≤(sortI l)[j]:=by
  intro i j hi hj h
  rcases Nat.lt_or_ge i j with h|h
  · exact List.pairwise_iff_getElem.mp hs i j hi hj h
  · have:i=j:=by omega
    subst this;omega
 have ex:compI (sortI l)=((List.range (sortI l).length).filter (Lib.keeps (sortI l).toArray)).map ((sortI l).toArray[·]!):=rfl
 refine sset_of ?_ ?_
 · rw[ex]
   unfold srt
   rw[List.pairwise_map,List.pairwise_filter]
   refine List.Pairwise.imp_of_mem (R:=(· < ·)) ?_ List.pairwise_lt_range
   intro i j hi hj hij _ kj
   have hi:=List.mem_range.mp hi;have hj:=List.mem_range.mp hj
   have e1:(sortI l).toArray[i]! = (sortI l)[i]:=by simp[hi]
   have e2:(sortI l).toArray[j]! = (sortI l)[j]:=by simp[hj]
   have e3:(sortI l).toArray[j - 1]! = (sortI l)[j - 1]'(by omega):=by rw[getElem!_pos (sortI l).toArray (j - 1) (by simp;omega)];rfl
   rw[e1,e2]
   unfold Lib.keeps at kj
   rw[e2,e3]at kj
   have h1:=hget i (j - 1) hi (by omega) (by omega)
   have h2:=hget (j - 1) j (by omega) hj (by omega)
   rcases of_decide_eq_true kj with h|h
   · omega
   · omega
 · intro y
   rw[ex,List.mem_map]
   constructor
   · rintro⟨j,hj,rfl⟩
     have hj:=List.mem_range.mp (List.mem_filter.mp hj).1
     have e:(sortI l).toArray[j]! = (sortI l)[j]:=by simp[hj]
     rw[e,←sortI_mem];exact List.getElem_mem hj
   · intro hy
     rw[←sortI_mem]at hy
     have hf:firstAt (fun t=>t == y) (sortI l)<(sortI l).length:=firstAt_any.mpr (List.any_eq_true.mpr ⟨y,hy,by simp⟩)
     have h2:=firstAt_at hf
     have h3:(sortI l)[firstAt (fun t=>t == y) (sortI l)]=y:=by simpa using h2
     refine⟨firstAt (fun t=>t == y) (sortI l),List.mem_filter.mpr ⟨List.mem_range.mpr hf,?_⟩,by simp[hf,h3]⟩
     unfold Lib.keeps
     rw[decide_eq_true_iff]
     by_cases h0:firstAt (fun t=>t == y) (sortI l)=0
     · exact .inl h0
     · right
       have hlt:firstAt (fun t=>t == y) (sortI l) - 1<(sortI l).length:=by omega
       have h4:=firstAt_lt (p:=fun t=>t == y) (l:=sortI l) hlt (by omega)
       have e1:(sortI l).toArray[firstAt (fun t=>t == y) (sortI l)]! = y:=by simp[hf,h3]
       have e2:(sortI l).toArray[firstAt (fun t=>t == y) (sortI l) - 1]! = (sortI l)[firstAt (fun t=>t == y) (sortI l) - 1]:=by simp[hlt]
       rw[e1,e2]
       intro e
       rw[←e]at h4;simp at h4
def inR (x a b:Int):Bool:=decide (a≤x)&&decide (x≤b)
theorem any_not {α:Type} {p:α→Bool} {l:List α}:(l.any fun t=>!p t) = !(l.all p):=by
 induction l with
 |nil=>rfl
 |cons a l ih=>simp only[List.any_cons,List.all_cons,ih];cases p a<;>simp
theorem nt {b:Bool} (h:(!b)=true):b=false:=by simpa using h
theorem nf {b:Bool} (h:(!b)=false):b=true:=by simpa using h
theorem flat_split {α β:Type} (f:α→List β) {l:List α} {i:Nat} (h:i<l.length):(l.flatMap f).length=((l.take i).flatMap f).length+((f l[i]).length+((l.drop (i+1)).flatMap f).length):=by
 have e:l=l.take i++l[i]::l.drop (i+1):=by rw[←drop_cons h,List.take_append_drop]
 have:=congrArg (fun m=>(m.flatMap f).length) e
 simp only[List.flatMap_append,List.flatMap_cons,List.length_append]at this
 exact this
theorem inR_iff {x a b:Int}:inR x a b=true↔a≤x∧x≤b:=by simp[inR]
theorem bl_tri:∀ {a b:List UInt8},(Op.bytesLess b a||b == a) = !(Op.bytesLess a b)
 |[],[]=>by decide
 |[],y::b=>by simp[Op.bytesLess]
 |x::a,[]=>by simp[Op.bytesLess]
 | x::a,y::b=>by
   have ih:=bl_tri (a:=a) (b:=b)
   simp only[Op.bytesLess]
   by_cases h:y<x
   · have h2:¬ x<y:=UInt8.lt_asymm h
     have h3:¬ x=y:=by rintro rfl;exact UInt8.lt_irrefl _ h
     simp[h,h2,h3]
   · by_cases h2:x<y
     · have h3:¬ y=x:=by rintro rfl;exact h h2
       simp[h,h2,h3]
     · have h3:x=y:=UInt8.le_antisymm (UInt8.not_lt.mp h) (UInt8.not_lt.mp h2)
       subst h3
       simp only[h,decide_false,beq_self_eq_true,Bool.true_and,Bool.false_or]
       rw[←ih]
       by_cases h4:b=a<;>simp[h4]
def vRel (r:TRel):Bool:=(r.1.length == 1)&&decide (97≤(r.1.getD 0 0).toNat)&&decide ((r.1.getD 0 0).toNat≤122)&&inR r.2.1 1 3
def relAt (l:List TRel) (i:Nat):TRel:=l.getD i zRel
def vRels (l:List TRel):Bool:=((List.range l.length).all fun i=>vRel (relAt l i)&&(i == 0||Op.bytesLess (relAt l (i - 1)).1 (relAt l i).1))&&decide (l.length≤6)
theorem relAt_get {l:List TRel} {i:Nat} (h:i<l.length):relAt l i=l[i]:=getD_at h
theorem vRels_mem {l:List TRel} (h:vRels l=true) {r:TRel} (hr:r∈l):vRel r=true:=by
 unfold vRels at h
 rw[Bool.and_eq_true]at h
 obtain⟨i,hi,rfl⟩:=List.mem_iff_getElem.mp hr
 have:=List.all_eq_true.mp h.1 i (List.mem_range.mpr hi)
 rw[Bool.and_eq_true,relAt_get hi]at this
 exact this.1
theorem vRel_arity {r:TRel} (h:vRel r=true):1≤r.2.1∧r.2.1≤3:=by
 unfold vRel at h;simp[inR]at h;exact h.2
def arity (l:List TRel) (i:Int):Int:=(l.getD (Int.toNat i) zRel).2.1
def srcAt (l:List TRel) (i:Int):Bool:=(l.getD (Int.toNat i) zRel).2.2.1
def vRow (ok:Int→Bool) (l:List TRel) (a:TFact):Bool:=vRels l&&inR a.1 0 ((l.length:Int) - 1)&&((a.2.1.length:Int) == arity l a.1)&&a.2.1.all ok
theorem vRow_spec {ok:Int→Bool} {l:List TRel} {a:TFact} (h:vRow ok l a=true):vRels l=true∧0≤a.1∧a.1<l.length∧(a.2.1.length:Int)=arity l a.1∧a.2.1.length≤3∧∀ v∈a.2.1,ok v=true:=by
 unfold vRow at h
 simp only[Bool.and_eq_true,beq_iff_eq,List.all_eq_true]at h
 obtain⟨⟨⟨h1,h2⟩,h3⟩,h4⟩:=h
 have h2:=inR_iff.mp h2
 have hlt:a.1.toNat<l.length:=by omega
 have:=vRel_arity (vRels_mem h1 (List.getElem_mem hlt))
 have e:arity l a.1=l[a.1.toNat].2.1:=by unfold arity;rw[getD_at hlt]
 exact⟨h1,h2.1,by omega,h3,by omega,h4⟩
def vTerm (t:Int):Bool:=inR t (-10) 4
def vAtom (l:List TRel) (a:TFact):Bool:=vRow vTerm l a
def vars (l:List TFact):List Int:=sset ((l.flatMap (·.2.1)).filter fun t=>decide (0≤t))
def vDep (l:List TRel) (d:TDep):Bool:=inR d.1.length 1 2&&d.1.all (vAtom l) &&
 (if d.2.2.1 then decide (d.2.1=[])&&decide (d.2.2.2.1∈vars d.1)&&decide (d.2.2.2.2.1∈vars d.1)&&decide (d.2.2.2.1<d.2.2.2.2.1)
  else d.2.1.all (fun a=>vAtom l a && !(srcAt l a.1))&&inR d.2.1.length 1 2&&(d.2.2.2.1 == 0)&&(d.2.2.2.2.1 == 0))
def exV (d:TDep):List Int:=(vars d.2.1).filter fun v=>!decide (v∈vars d.1)
def frV (d:TDep):List Int:=(vars d.2.1).filter fun v=>decide (v∈vars d.1)
def full (d:TDep):Bool:=!d.2.2.1&&(exV d).isEmpty
theorem atoms_len {l:List TRel} {ats:List TFact} (h:ats.all (vAtom l)=true):(ats.flatMap (·.2.1)).length≤3 * ats.length:=by
 induction ats with
 |nil=>simp
 | cons a ats ih=>
   simp only[List.all_cons,Bool.and_eq_true]at h
   have h1:=(vRow_spec h.1).2.2.2.2.1
   have:=ih h.2
   simp only[List.flatMap_cons,List.length_append,List.length_cons]
   omega
theorem vars_len (l:List TFact):(vars l).length≤(l.flatMap (·.2.1)).length:=Nat.le_trans (sset_len _) (List.length_filter_le _ _)
theorem g_sl1In {x a b:Int}:G_sl1In x a b (inR x a b):=M_sl1In _ _ _ _ (by
 unfold S_sl1In inR
 refine bc_dec (fun h=>?_) (fun h=>?_)
 · rw[decide_eq_true (show a≤x from h),Bool.true_and]
 · rw[decide_eq_false (show ¬ a≤x from h),Bool.false_and])
theorem g_iwithin {x a b:Int}:G_iwithin x a b (inR x a b):=M_iwithin _ _ _ _ (by
 unfold S_iwithin inR
 refine bc_dec (fun h=>?_) (fun h=>?_)
 · rw[decide_eq_true h,Bool.true_and]
 · rw[decide_eq_false h,Bool.false_and])
theorem g_sIsValidRelation {r:TRel}:G_sIsValidRelation r (vRel r):=M_sIsValidRelation _ _ (by
 unfold S_sIsValidRelation
 have no:∀ {b:Bool},vRel r=b→((b,()):Bool×Unit)=(vRel r,()):=fun h=>by rw[h]
 refine lenI fun _=>bc_beq (fun h=>?_) (fun h=>no ?_)
 · have h1:r.1.length=1:=by omega
   refine⟨⟨by omega,by omega⟩,?_⟩
   refine bc_dec (fun h2=>⟨⟨by omega,by omega⟩,bc_dec (fun h3=>⟨_,g_sl1In,no ?_⟩) (fun h3=>no ?_)⟩) (fun h2=>no ?_)
   · unfold vRel
     have a1:decide (97≤(r.1.getD 0 0).toNat)=true:=decide_eq_true (by have h2:(97:Int)≤((r.1.getD 0 0).toNat:Int):=h2;omega)
     have a2:decide ((r.1.getD 0 0).toNat≤122)=true:=decide_eq_true (by have h3:((r.1.getD 0 0).toNat:Int)≤122:=h3;omega)
     rw[a1,a2];simp[h1]
   · unfold vRel
     have a2:decide ((r.1.getD 0 0).toNat≤122)=false:=decide_eq_false (by have h3:¬ ((r.1.getD 0 0).toNat:Int)≤122:=h3;omega)
     rw[a2];simp
   · unfold vRel
     have a1:decide (97≤(r.1.getD 0 0).toNat)=false:=decide_eq_false (by have h2:¬ (97:Int)≤((r.1.getD 0 0).toNat:Int):=h2;omega)
     rw[a1];simp
 · unfold vRel
   have:(r.1.length == 1)=false:=by simp;omega
   rw[this];simp)
theorem vRels_no {l:List TRel} {i:Nat} (h:i<l.length) (hp:(vRel (relAt l i)&&(i == 0||Op.bytesLess (relAt l (i - 1)).1 (relAt l i).1))=false):vRels l=false:=by
 unfold vRels
 rw[Bool.and_eq_false_iff];left
 rw[Bool.eq_false_iff];intro hall
 have:=List.all_eq_true.mp hall i (List.mem_range.mpr h)
 rw[hp]at this;cases this
theorem vRels_yes {l:List TRel} (hp:∀ i,i<l.length→(!(vRel (relAt l i)&&(i == 0||Op.bytesLess (relAt l (i - 1)).1 (relAt l i).1)))=false):vRels l=decide (l.length≤6):=by
 unfold vRels
 have:((List.range l.length).all fun i=>vRel (relAt l i)&&(i == 0||Op.bytesLess (relAt l (i - 1)).1 (relAt l i).1))=true:=
  List.all_eq_true.mpr fun i hi=>by have:=hp i (List.mem_range.mp hi);rwa [Bool.not_eq_false']at this
 rw[this,Bool.true_and]
theorem g_sAreValidRelations {l:List TRel}:G_sAreValidRelations l (vRels l):=M_sAreValidRelations _ _ (by
 unfold S_sAreValidRelations
 refine loop_anyI l.length (fun i=>!(vRel (relAt l i)&&(i == 0||Op.bytesLess (relAt l (i - 1)).1 (relAt l i).1))) (fun i=>((i:Int),())) (KT:=((false,()):Bool×Unit)=(vRels l,())) (KF:=((decide ((List.length l:Int)≤6),()):Bool×Unit)=(vRels l,())) ?_ (fun X h=>lenI fun _=>bcN (lenI fun _=>h)) ?_ ?_
 · intro i hi X hb h1 h2
   refine lenI fun hl=>bcI hi (inI hi ⟨_,g_sIsValidRelation,?_⟩)
   simp only
   rw[getI hi,w64_succ (by omega)]
   rw[relAt_get hi]at h1 h2
   refine bc_not (fun h=>h1 (by simp[h])) (fun h=>bc_dec (fun h0=>?_) (fun h0=>h2 (by obtain rfl:i=0:=(by omega);simp[h])))
   have hi':i - 1<l.length:=by omega
   have hw:w64 ((i:Int) - 1)=((i - 1:Nat):Int):=by rw[w64_id (by omega) (by omega)];omega
   rw[hw]
   refine inI hi' (inI hi ?_)
   rw[getI hi']
   rw[relAt_get hi']at h1 h2
   have hz:(i == 0)=false:=by simp;omega
   rw[hz,Bool.false_or,h,Bool.true_and]at h1 h2
   exact bc_if (fun h=>h1 h) (fun h=>h2 h)
 · rintro⟨i,hi,hp⟩
   rw[vRels_no hi (by rwa [Bool.not_eq_true']at hp)]
 · intro hp
   rw[vRels_yes hp]
   congr 1
   exact decide_eq_decide.mpr (by omega))
theorem g_iIsValidRelation {r:TRel}:G_iIsValidRelation r (vRel r):=M_iIsValidRelation _ _ (by
 unfold S_iIsValidRelation
 have no:∀ {b:Bool},vRel r=b→((b,()):Bool×Unit)=(vRel r,()):=fun h=>by rw[h]
 refine lenI fun _=>bc_beq (fun h=>?_) (fun h=>no ?_)
 · have h1:r.1.length=1:=by omega
   obtain⟨c,hc⟩:∃ c,r.1=[c]:=List.length_eq_one_iff.mp h1
   rw[hc]
   have e1:(!(Op.bytesLess [c] [97]))=decide (97≤c.toNat):=by
    simp only[Op.bytesLess,Bool.and_false,Bool.or_false]
    by_cases h:c<97
    · have:c.toNat<97:=h
      simp[h];omega
    · have:¬ c.toNat<97:=h
      simp[h];omega
   have e2:(Op.bytesLess [c] [122]||[c] == [122])=decide (c.toNat≤122):=by
    simp only[Op.bytesLess,Bool.and_false,Bool.or_false]
    by_cases h:c<122
    · have:c.toNat<122:=h
      simp[h];omega
    · have:¬ c.toNat<122:=h
      by_cases h2:c=122
      · subst h2;simp
      · have h3:c.toNat≠122:=fun e=>h2 (UInt8.toNat_inj.mp e)
        have d2:([c] == [(122:UInt8)])=false:=by simp[h2]
        rw[decide_eq_false h,d2,decide_eq_false (by omega)];rfl
   rw[e1,e2]
   refine bc_dec (fun h2=>bc_dec (fun h3=>⟨_,g_iwithin,no ?_⟩) (fun h3=>no ?_)) (fun h2=>no ?_)
   · unfold vRel;rw[hc];simp[h2,h3]
   · unfold vRel;rw[hc]
     show((1 == 1)&&decide (97≤c.toNat)&&decide (c.toNat≤122)&&inR r.2.1 1 3)=false
     rw[decide_eq_false h3];simp
   · unfold vRel;rw[hc]
     show((1 == 1)&&decide (97≤c.toNat)&&decide (c.toNat≤122)&&inR r.2.1 1 3)=false
     rw[decide_eq_false h2];simp
 · unfold vRel
   have:(r.1.length == 1)=false:=by simp;omega
   rw[this];simp)
theorem g_iAreValidRelations {l:List TRel}:G_iAreValidRelations l (vRels l):=M_iAreValidRelations _ _ (by
 unfold S_iAreValidRelations
 refine lenI fun hl=>loop_anyI l.length (fun i=>!(vRel (relAt l i)&&(i == 0||Op.bytesLess (relAt l (i - 1)).1 (relAt l i).1))) (fun i=>((i:Int),())) (KT:=((false,()):Bool×Unit)=(vRels l,())) (KF:=((decide ((List.length l:Int)≤6),()):Bool×Unit)=(vRels l,())) ?_ (fun X h=>bcN (lenI fun _=>h)) ?_ ?_
 · intro i hi X hb h1 h2
   refine bcI hi (inI hi ⟨_,g_iIsValidRelation,?_⟩)
   simp only
   rw[getI hi,w64_succ (by omega)]
   rw[relAt_get hi]at h1 h2
   refine bc_not (fun h=>h1 (by simp[h])) (fun h=>bc_dec (fun h0=>?_) (fun h0=>h2 (by obtain rfl:i=0:=(by omega);simp[h])))
   have hi':i - 1<l.length:=by omega
   have hw:w64 ((i:Int) - 1)=((i - 1:Nat):Int):=by rw[w64_id (by omega) (by omega)];omega
   rw[hw]
   refine inI hi' ?_
   rw[getI hi']
   rw[relAt_get hi']at h1 h2
   have hz:(i == 0)=false:=by simp;omega
   rw[hz,Bool.false_or,h,Bool.true_and]at h1 h2
   rw[bl_tri]
   exact bc_if (fun h=>h1 h) (fun h=>h2 h)
 · rintro⟨i,hi,hp⟩
   rw[vRels_no hi (by rwa [Bool.not_eq_true']at hp)]
 · intro hp
   rw[vRels_yes hp]
   congr 1
   exact decide_eq_decide.mpr (by omega))
theorem row_start {l:List TRel} {a:TFact} (h:inR a.1 0 (w64 ((l.length:Int) - 1))=true) (hl:(l.length:Int)≤9223372036854775807):0≤a.1∧a.1<(l.length:Int):=by
 have:=inR_iff.mp h
 rw[w64_id (by omega) (by omega)]at this
 omega
theorem row_range {l:List TRel} {a:TFact} (hl:(l.length:Int)≤9223372036854775807):inR a.1 0 (w64 ((l.length:Int) - 1))=inR a.1 0 ((l.length:Int) - 1):=by
 rw[w64_id (by omega) (by omega)]
theorem row_no1 {ok:Int→Bool} {l:List TRel} {a:TFact} (h:vRels l=false):((false,()):Bool×Unit)=(vRow ok l a,()):=by unfold vRow;rw[h];simp
theorem row_no2 {ok:Int→Bool} {l:List TRel} {a:TFact} (hl:(l.length:Int)≤9223372036854775807) (h:inR a.1 0 (w64 ((l.length:Int) - 1))=false):((false,()):Bool×Unit)=(vRow ok l a,()):=by
 rw[row_range hl]at h;unfold vRow;rw[h];simp
theorem row_no3 {ok:Int→Bool} {l:List TRel} {a:TFact} (h:(a.2.1.length:Int)≠(l.getD (Int.toNat a.1) zRel).2.1):((false,()):Bool×Unit)=(vRow ok l a,()):=by
 have:((a.2.1.length:Int) == arity l a.1)=false:=by simpa [arity]using h
 unfold vRow;rw[this];simp
theorem row_yes {ok:Int→Bool} {l:List TRel} {a:TFact} {b:Bool} (hl:(l.length:Int)≤9223372036854775807) (h1:vRels l=true) (h2:inR a.1 0 (w64 ((l.length:Int) - 1))=true) (h3:(a.2.1.length:Int)=(l.getD (Int.toNat a.1) zRel).2.1) (hb:b=a.2.1.all ok):((b,()):Bool×Unit)=(vRow ok l a,()):=by
 rw[row_range hl]at h2
 have:((a.2.1.length:Int) == arity l a.1)=true:=by simpa [arity]using h3
 unfold vRow;rw[h1,h2,this,hb];simp
theorem g_sIsValidAtom {l:List TRel} {a:TFact}:G_sIsValidAtom l a (vAtom l a):=M_sIsValidAtom _ _ _ (by
 unfold S_sIsValidAtom vAtom
 refine⟨_,g_sAreValidRelations,bc_not (fun h=>row_no1 h) (fun h1=>lenI fun hl=>⟨_,g_sl1In,bc_not (fun h=>row_no2 hl h) (fun h2=>lenI fun hl2=>⟨row_start h2 hl,bc_ne (fun h=>row_no3 h) (fun h3=>?_)⟩)⟩)⟩
 refine loop_any a.2.1 (fun t=>!vTerm t) (fun i=>((i:Int),())) (KT:=((false,()):Bool×Unit)=(vRow vTerm l a,())) (KF:=((true,()):Bool×Unit)=(vRow vTerm l a,())) ?_ (fun X h=>lenI fun _=>bcN h) ?_ ?_
 · intro i hi X q1 q2
   refine lenI fun _=>bcI hi (inI hi ⟨_,g_sl1In,?_⟩)
   simp only
   rw[getI hi,w64_succ (by omega)]
   exact bc_if (fun h=>q1 h) (fun h=>q2 h)
 · intro h;exact row_yes hl h1 h2 h3 (by rw[any_not]at h;exact(nt h).symm)
 · intro h;exact row_yes hl h1 h2 h3 (by rw[any_not]at h;exact(nf h).symm))
theorem g_iIsValidAtom_1 {t:Int}:G_iIsValidAtom_1 t (!vTerm t):=M_iIsValidAtom_1 _ _ (by unfold S_iIsValidAtom_1;exact⟨_,g_iwithin,rfl⟩)
theorem g_iIsValidAtom {l:List TRel} {a:TFact}:G_iIsValidAtom l a (vAtom l a):=M_iIsValidAtom _ _ _ (by
 unfold S_iIsValidAtom vAtom
 refine⟨_,g_iAreValidRelations,bc_not (fun h=>row_no1 h) (fun h1=>lenI fun hl=>⟨_,g_iwithin,bc_not (fun h=>row_no2 hl h) (fun h2=>lenI fun hl2=>⟨row_start h2 hl,bc_ne (fun h=>row_no3 h) (fun h3=>?_)⟩)⟩)⟩
 exact⟨_,g_slices_ContainsFunc_int_c_iIsValidAtom_1 (fun t=>!vTerm t) (fun _ _=>g_iIsValidAtom_1),row_yes hl h1 h2 h3 (by rw[any_not];simp)⟩)
theorem g_sVariables {l:List TFact} (hl:(l.flatMap (·.2.1)).length≤1073741824):G_sVariables l (vars l):=M_sVariables _ _ (by
 unfold S_sVariables
 refine loopP_of l.length (fun i=>((i:Int),(vars (l.take i),()))) (by simp[vars,sset]) ?_ ?_
 · intro i hi X hX
   refine lenI fun hl1=>bcI hi ?_
   simp only
   rw[getI hi]
   have hsub:((l.take i).flatMap (·.2.1)).length+l[i].2.1.length≤1073741824:=by
    have:=flat_split (·.2.1) hi
    omega
   have hset:∀ j,j≤l[i].2.1.length→(sset (((l.take i).flatMap (·.2.1)++l[i].2.1.take j).filter fun t=>decide (0≤t))).length≤1073741824:=by
    intro j hj
    refine Nat.le_trans (sset_len _) (Nat.le_trans (List.length_filter_le _ _) ?_)
    rw[List.length_append,List.length_take];omega
   refine loopP_of l[i].2.1.length (fun j=>(sset (((l.take i).flatMap (·.2.1)++l[i].2.1.take j).filter fun t=>decide (0≤t)),((j:Int),()))) (by simp[vars]) ?_ ?_
   · intro j hj Y hY
     refine inI hi (lenI fun _=>bcI hj (inI hi (inI hj ?_)))
     simp only
     rw[getI hj,w64_succ (by omega)]
     have e:((l.take i).flatMap (·.2.1)++l[i].2.1.take (j+1)).filter (fun t=>decide (0≤t))=((l.take i).flatMap (·.2.1)++l[i].2.1.take j).filter (fun t=>decide (0≤t))++(if 0≤l[i].2.1[j] then[l[i].2.1[j]] else[]):=by
      rw[take_succ_snoc hj,←List.append_assoc,List.filter_append]
      by_cases h:0≤l[i].2.1[j]<;>simp[h]
     rw[e]at hY
     refine bc_dec (fun h=>inI hi (inI hj ⟨_,g_sl4Put (hset j (by omega)),?_⟩)) (fun h=>?_)
     · have h:0≤l[i].2.1[j]:=h
       rw[if_pos h]at hY
       rw[sset_snoc];exact hY
     · have h:¬ 0≤l[i].2.1[j]:=h
       rw[if_neg h,List.append_nil]at hY;exact hY
   · intro Y
     refine inI hi (lenI fun _=>bcN ?_)
     simp only
     rw[w64_succ (by omega),List.take_length]
     have:sset (((l.take i).flatMap (·.2.1)++l[i].2.1).filter fun t=>decide (0≤t))=vars (l.take (i+1)):=by
      unfold vars;rw[take_succ_snoc hi,List.flatMap_append];simp
     rw[this];exact hX
 · intro X
   refine lenI fun _=>bcN ?_
   simp only[List.take_length])
theorem g_iVariables {l:List TFact} (hl:(l.flatMap (·.2.1)).length≤1073741824):G_iVariables l (vars l):=M_iVariables _ _ (by
 unfold S_iVariables
 refine lenI fun hl1=>?_
 refine loopP_of l.length (fun i=>((i:Int),(((l.take i).flatMap (·.2.1)).filter (fun t=>decide (0≤t)),()))) (by simp) ?_ ?_
 · intro i hi X hX
   refine bcI hi (inI hi ?_)
   simp only
   rw[getI hi,w64_succ (by omega)]
   have hsub:((l.take i).flatMap (·.2.1)).length+l[i].2.1.length≤1073741824:=by
    have:=flat_split (·.2.1) hi
    omega
   refine lenI fun _=>loopP_of l[i].2.1.length (fun j=>((j:Int),(((l.take i).flatMap (·.2.1)++l[i].2.1.take j).filter (fun t=>decide (0≤t)),()))) (by simp) ?_ ?_
   · intro j hj Y hY
     refine bcI hj (inI hj ?_)
     simp only
     rw[getI hj,w64_succ (by omega)]
     have e:((l.take i).flatMap (·.2.1)++l[i].2.1.take (j+1)).filter (fun t=>decide (0≤t))=((l.take i).flatMap (·.2.1)++l[i].2.1.take j).filter (fun t=>decide (0≤t))++(if 0≤l[i].2.1[j] then[l[i].2.1[j]] else[]):=by
      rw[take_succ_snoc hj,←List.append_assoc,List.filter_append]
      by_cases h:0≤l[i].2.1[j]<;>simp[h]
     rw[e]at hY
     have hb:=List.length_filter_le (fun t=>decide (0≤t)) ((l.take i).flatMap (·.2.1)++l[i].2.1.take j)
     rw[List.length_append,List.length_take]at hb
     refine bc_dec (fun h=>⟨by simp only[maxL,List.length_cons,List.length_nil];omega,?_⟩) (fun h=>?_)
     · have h:0≤l[i].2.1[j]:=h
       rw[if_pos h]at hY;exact hY
     · have h:¬ 0≤l[i].2.1[j]:=h
       rw[if_neg h,List.append_nil]at hY;exact hY
   · intro Y
     refine bcN ?_
     simp only
     rw[List.take_length]
     have:((l.take i).flatMap (·.2.1)++l[i].2.1).filter (fun t=>decide (0≤t))=((l.take (i+1)).flatMap (·.2.1)).filter (fun t=>decide (0≤t)):=by
      rw[take_succ_snoc hi,List.flatMap_append];simp
     rw[this];exact hX
 · intro X
   refine bcN ⟨_,g_slices_Sort_int_ooz ?_,_,g_slices_Compact_int_ooz,?_⟩
   · simp only[List.take_length]
     have:=List.length_filter_le (fun t=>decide (0≤t)) (l.flatMap (·.2.1));omega
   · simp only[List.take_length]
     rw[comp_sort];rfl)
theorem vDep_no1 {l:List TRel} {d:TDep} (h:inR d.1.length 1 2=false):((false,()):Bool×Unit)=(vDep l d,()):=by unfold vDep;rw[h];simp
theorem vDep_no2 {l:List TRel} {d:TDep} (h:d.1.all (vAtom l)=false):((false,()):Bool×Unit)=(vDep l d,()):=by unfold vDep;rw[h];simp
theorem g_sIsValidDependency {l:List TRel} {d:TDep}:G_sIsValidDependency l d (vDep l d):=M_sIsValidDependency _ _ _ (by
 unfold S_sIsValidDependency
 refine lenI fun hl=>⟨_,g_sl1In,bc_not (fun h=>vDep_no1 h) (fun h1=>?_)⟩
 refine loop_any d.1 (fun a=>!vAtom l a) (fun i=>((i:Int),())) (KT:=((false,()):Bool×Unit)=(vDep l d,())) (KF:=d.1.all (vAtom l)=true) ?_ ?_ ?_ ?_
 · intro i hi X q1 q2
   refine lenI fun _=>bcI hi (inI hi ⟨_,g_sIsValidAtom,?_⟩)
   simp only
   rw[getI hi,w64_succ (by omega)]
   exact bc_if (fun h=>q1 h) (fun h=>q2 h)
 · intro X hall
   have hlen:=inR_iff.mp h1
   have hal:=atoms_len hall
   refine lenI fun _=>bcN (bc_if (fun he=>?_) (fun he=>?_))
   · have ev:vDep l d=(decide (d.2.1=[])&&decide (d.2.2.2.1∈vars d.1)&&decide (d.2.2.2.2.1∈vars d.1)&&decide (d.2.2.2.1<d.2.2.2.2.1)):=by
      unfold vDep;rw[h1,hall,he];simp
     rw[ev]
     refine⟨_,g_sVariables (by omega),lenI fun _=>bc_beq (fun h=>⟨_,g_sl4Has,bc_dec (fun h2=>⟨_,g_sl4Has,bc_dec (fun h3=>?_) (fun h3=>?_)⟩) (fun h2=>?_)⟩) (fun h=>?_)⟩
     · have:d.2.1=[]:=List.length_eq_zero_iff.mp (by omega)
       simp[this,h2,h3]
     · simp[h3]
     · simp[h2]
     · have:d.2.1≠[]:=by intro e;rw[e]at h;simp at h
       simp[this]
   · have ev:vDep l d=(d.2.1.all (fun a=>vAtom l a && !(srcAt l a.1))&&inR d.2.1.length 1 2&&(d.2.2.2.1 == 0)&&(d.2.2.2.2.1 == 0)):=by
      unfold vDep;rw[h1,hall,he];simp
     rw[ev]
     refine loop_any d.2.1 (fun a=>!(vAtom l a && !(srcAt l a.1))) (fun i=>((i:Int),())) (KT:=d.2.1.all (fun a=>vAtom l a && !(srcAt l a.1))=false) (KF:=d.2.1.all (fun a=>vAtom l a && !(srcAt l a.1))=true) ?_ ?_ ?_ ?_
     · intro i hi X q1 q2
       refine lenI fun _=>bcI hi (inI hi ⟨_,g_sIsValidAtom,?_⟩)
       simp only
       rw[getI hi,w64_succ (by omega)]
       have no:d.2.1.all (fun a=>vAtom l a && !(srcAt l a.1))=false→((false,()):Bool×Unit)=(d.2.1.all (fun a=>vAtom l a && !(srcAt l a.1))&&inR d.2.1.length 1 2&&(d.2.2.2.1 == 0)&&(d.2.2.2.2.1 == 0),()):=fun h=>by rw[h];simp
       refine bc_not (fun h=>no (q1 (by simp[h]))) (fun h=>inI hi ⟨?_,bc_if (fun h'=>no (q1 ?_)) (fun h'=>q2 ?_)⟩)
       · have:=vRow_spec h;exact⟨this.2.1,this.2.2.1⟩
       · have:srcAt l d.2.1[i].1=true:=h'
         simp[this]
       · have:srcAt l d.2.1[i].1=false:=h'
         simp[this,h]
     · intro X hh
       refine lenI fun _=>bcN (lenI fun _=>⟨_,g_sl1In,?_⟩)
       rw[hh]
       refine bc_if (fun h2=>bc_beq (fun h3=>?_) (fun h3=>?_)) (fun h2=>?_)
       · rw[h2,h3];simp
       · have:(d.2.2.2.1 == 0)=false:=by simpa using h3
         rw[this];simp
       · rw[h2];simp
     · intro h;rw[any_not]at h;exact nt h
     · intro h;rw[any_not]at h;exact nf h
 · intro h;rw[any_not]at h;exact vDep_no2 (nt h)
 · intro h;rw[any_not]at h;exact nf h)
theorem g_iareAtoms_1 {l:List TRel} {a:TFact}:G_iareAtoms_1 a l (!vAtom l a):=M_iareAtoms_1 _ _ _ (by unfold S_iareAtoms_1;exact⟨_,g_iIsValidAtom,rfl⟩)
theorem g_iareAtoms {l:List TRel} {ats:List TFact} {n:Int}:G_iareAtoms l ats n (inR ats.length 1 n&&ats.all (vAtom l)):=M_iareAtoms _ _ _ _ (by
 unfold S_iareAtoms
 refine lenI fun _=>⟨_,g_iwithin,bc_if (fun h=>⟨_,g_slices_ContainsFunc_Atom_c_iareAtoms_1 (fun a=>!vAtom l a) (fun _ _=>g_iareAtoms_1),?_⟩) (fun h=>?_)⟩
 · rw[h,Bool.true_and,any_not];simp
 · rw[h,Bool.false_and])
theorem g_iIsValidDependency_1 {l:List TRel} {a:TFact} (h0:0≤a.1) (h1:a.1<l.length):G_iIsValidDependency_1 a l (srcAt l a.1):=M_iIsValidDependency_1 _ _ _ (by unfold S_iIsValidDependency_1;exact⟨⟨h0,h1⟩,rfl⟩)
theorem g_iIsValidDependency {l:List TRel} {d:TDep}:G_iIsValidDependency l d (vDep l d):=M_iIsValidDependency _ _ _ (by
 unfold S_iIsValidDependency
 refine⟨_,g_iareAtoms,bc_not (fun h=>?_) (fun h=>?_)⟩
 · unfold vDep;rw[h];simp
 · have h':=Bool.and_eq_true_iff.mp h
   have hlen:=inR_iff.mp h'.1
   have hal:=atoms_len h'.2
   refine bc_if (fun he=>?_) (fun he=>?_)
   · have ev:vDep l d=(decide (d.2.1=[])&&decide (d.2.2.2.1∈vars d.1)&&decide (d.2.2.2.2.1∈vars d.1)&&decide (d.2.2.2.1<d.2.2.2.2.1)):=by
      unfold vDep;rw[h'.1,h'.2,he];simp
     rw[ev]
     refine⟨_,g_iVariables (by omega),lenI fun _=>bc_beq (fun h0=>bc_dec (fun h1=>⟨_,g_slices_Contains_int,bc_dec (fun h2=>⟨_,g_slices_Contains_int,?_⟩) (fun h2=>?_)⟩) (fun h1=>?_)) (fun h0=>?_)⟩
     · have:d.2.1=[]:=List.length_eq_zero_iff.mp (by omega)
       simp[this,h1,h2]
     · simp[h2]
     · simp[h1]
     · have:d.2.1≠[]:=by intro e;rw[e]at h0;simp at h0
       simp[this]
   · have ev:vDep l d=(d.2.1.all (fun a=>vAtom l a && !(srcAt l a.1))&&inR d.2.1.length 1 2&&(d.2.2.2.1 == 0)&&(d.2.2.2.2.1 == 0)):=by
      unfold vDep;rw[h'.1,h'.2,he];simp
     rw[ev]
     have hand:d.2.1.all (fun a=>vAtom l a && !(srcAt l a.1))=(d.2.1.all (vAtom l)&&d.2.1.all fun a=>!(srcAt l a.1)):=by
      generalize d.2.1=m
      induction m with
      |nil=>rfl
      |cons a m ih=>simp only[List.all_cons,ih];cases vAtom l a<;>cases srcAt l a.1<;>simp
     rw[hand]
     refine⟨_,g_iareAtoms,bc_if (fun h1=>bc_beq (fun h2=>bc_beq (fun h3=>?_) (fun h3=>?_)) (fun h2=>?_)) (fun h1=>?_)⟩
     · have h1:=Bool.and_eq_true_iff.mp h1
       refine⟨_,g_slices_ContainsFunc_Atom_c_iIsValidDependency_1 (fun a=>srcAt l a.1) (fun a ha=>?_),?_⟩
       · have:=vRow_spec (List.all_eq_true.mp h1.2 a ha)
         exact g_iIsValidDependency_1 this.2.1 this.2.2.1
       · rw[h1.1,h1.2,h2,h3,List.not_any_eq_all_not];simp
     · have:(d.2.2.2.2.1 == 0)=false:=by simpa using h3
       rw[this];simp
     · have:(d.2.2.2.1 == 0)=false:=by simpa using h2
       rw[this];simp
     · rcases Bool.and_eq_false_iff.mp h1 with h1|h1<;>rw[h1]<;>simp)
theorem g_sExistentialVariables {d:TDep} (h1:(d.1.flatMap (·.2.1)).length≤1073741824) (h2:(d.2.1.flatMap (·.2.1)).length≤1073741824):G_sExistentialVariables d (exV d):=M_sExistentialVariables _ _ (by
 unfold S_sExistentialVariables
 have hv:=vars_len d.2.1
 refine⟨_,g_sVariables h1,_,g_sVariables h2,?_⟩
 refine loopP_of (vars d.2.1).length (fun i=>((i:Int),(((vars d.2.1).take i).filter (fun v=>!decide (v∈vars d.1)),()))) (by simp) ?_ ?_
 · intro i hi X hX
   refine lenI fun _=>bcI hi (inI hi ⟨_,g_sl4Has,?_⟩)
   simp only
   rw[getI hi,w64_succ (by omega)]
   have e:((vars d.2.1).take (i+1)).filter (fun v=>!decide (v∈vars d.1))=((vars d.2.1).take i).filter (fun v=>!decide (v∈vars d.1))++(if (vars d.2.1)[i]∈vars d.1 then[] else[(vars d.2.1)[i]]):=by
    rw[take_succ_snoc hi,List.filter_append]
    by_cases h:(vars d.2.1)[i]∈vars d.1<;>simp[h]
   rw[e]at hX
   have hb:=List.length_filter_le (fun v=>!decide (v∈vars d.1)) ((vars d.2.1).take i)
   rw[List.length_take]at hb
   refine bc_if (fun h=>inI hi ⟨by simp only[maxL,List.length_cons,List.length_nil];omega,?_⟩) (fun h=>?_)
   · have h:¬ (vars d.2.1)[i]∈vars d.1:=by simpa using h
     rw[if_neg h]at hX;exact hX
   · have h:(vars d.2.1)[i]∈vars d.1:=by simpa using h
     rw[if_pos h,List.append_nil]at hX;exact hX
 · intro X
   refine lenI fun _=>bcN ?_
   simp only[List.take_length]
   rfl)
def hdV (d:TDep) (b:Bool):List Int:=(vars d.2.1).filter fun v=>decide (v∈vars d.1) == b
theorem g_iheadVariables {d:TDep} {b:Bool} (h1:(d.1.flatMap (·.2.1)).length≤1073741824) (h2:(d.2.1.flatMap (·.2.1)).length≤1073741824):G_iheadVariables d b (hdV d b):=M_iheadVariables _ _ _ (by
 unfold S_iheadVariables
 have hv:=vars_len d.2.1
 refine⟨_,g_iVariables h1,_,g_iVariables h2,lenI fun _=>?_⟩
 refine loopP_of (vars d.2.1).length (fun i=>((i:Int),(((vars d.2.1).take i).filter (fun v=>decide (v∈vars d.1) == b),()))) (by simp) ?_ ?_
 · intro i hi X hX
   refine bcI hi (inI hi ⟨_,g_slices_Contains_int,?_⟩)
   simp only
   rw[getI hi,w64_succ (by omega)]
   have e:((vars d.2.1).take (i+1)).filter (fun v=>decide (v∈vars d.1) == b)=((vars d.2.1).take i).filter (fun v=>decide (v∈vars d.1) == b)++(if (decide ((vars d.2.1)[i]∈vars d.1) == b)=true then[(vars d.2.1)[i]] else[]):=by
    rw[take_succ_snoc hi,List.filter_append]
    cases h:(decide ((vars d.2.1)[i]∈vars d.1) == b)<;>simp[h]
   rw[e]at hX
   have hb:=List.length_filter_le (fun v=>decide (v∈vars d.1) == b) ((vars d.2.1).take i)
   rw[List.length_take]at hb
   refine bc_if (fun h=>⟨by simp only[maxL,List.length_cons,List.length_nil];omega,?_⟩) (fun h=>?_)
   · rw[if_pos h]at hX;exact hX
   · rw[if_neg (by rw[h];simp),List.append_nil]at hX;exact hX
 · intro X
   refine bcN ?_
   simp only[List.take_length]
   rfl)
theorem hdV_false (d:TDep):hdV d false=exV d:=by unfold hdV exV;congr 1;funext v;by_cases h:v∈vars d.1<;>simp[h]
theorem hdV_true (d:TDep):hdV d true=frV d:=by unfold hdV frV;congr 1;funext v;by_cases h:v∈vars d.1<;>simp[h]
theorem g_iExistentialVariables {d:TDep} (h1:(d.1.flatMap (·.2.1)).length≤1073741824) (h2:(d.2.1.flatMap (·.2.1)).length≤1073741824):G_iExistentialVariables d (exV d):=M_iExistentialVariables _ _ (by
 unfold S_iExistentialVariables
 exact⟨_,g_iheadVariables h1 h2,by rw[hdV_false]⟩)
theorem full_eq (d:TDep) (h:d.2.2.1=false):((exV d).length == (0:Nat))=full d:=by unfold full;rw[h];cases exV d<;>simp
theorem g_sIsFull {d:TDep} (h1:(d.1.flatMap (·.2.1)).length≤1073741824) (h2:(d.2.1.flatMap (·.2.1)).length≤1073741824):G_sIsFull d (full d):=M_sIsFull _ _ (by
 unfold S_sIsFull
 refine bc_not (fun h=>⟨_,g_sExistentialVariables h1 h2,lenI fun _=>?_⟩) (fun h=>?_)
 · rw[←full_eq d h]
   congr 1
   cases exV d<;>simp<;>omega
 · unfold full;rw[h];rfl)
theorem g_iIsFull {d:TDep} (h1:(d.1.flatMap (·.2.1)).length≤1073741824) (h2:(d.2.1.flatMap (·.2.1)).length≤1073741824):G_iIsFull d (full d):=M_iIsFull _ _ (by
 unfold S_iIsFull
 refine bc_not (fun h=>⟨_,g_iExistentialVariables h1 h2,lenI fun _=>?_⟩) (fun h=>?_)
 · rw[←full_eq d h]
   congr 1
   cases exV d<;>simp<;>omega
 · unfold full;rw[h];rfl)
theorem vDep_spec {l:List TRel} {d:TDep} (h:vDep l d=true):1≤d.1.length∧d.1.length≤2∧(∀ a∈d.1,vAtom l a=true)∧d.2.1.length≤2∧(∀ a∈d.2.1,vAtom l a=true)∧(d.1.flatMap (·.2.1)).length≤6∧(d.2.1.flatMap (·.2.1)).length≤6:=by
 unfold vDep at h
 rw[Bool.and_eq_true,Bool.and_eq_true]at h
 obtain⟨⟨h1,h2⟩,h3⟩:=h
 have h1:=inR_iff.mp h1
 have l1:=atoms_len h2
 cases he:d.2.2.1 with
 | true=>
   rw[if_pos he]at h3
   simp only[Bool.and_eq_true,decide_eq_true_eq]at h3
   have:=h3.1.1.1
   exact⟨by omega,by omega,List.all_eq_true.mp h2,by simp[this],by simp[this],by omega,by simp[this]⟩
 | false=>
   rw[if_neg (by simp[he])]at h3
   simp only[Bool.and_eq_true]at h3
   have hr:=inR_iff.mp h3.1.1.2
   have h4:d.2.1.all (vAtom l)=true:=List.all_eq_true.mpr fun a ha=>by
    have:=List.all_eq_true.mp h3.1.1.1 a ha
    rw[Bool.and_eq_true]at this;exact this.1
   have l2:=atoms_len h4
   exact⟨by omega,by omega,List.all_eq_true.mp h2,by omega,List.all_eq_true.mp h4,by omega,by omega⟩
theorem g_iFrontierVariables {d:TDep} (h1:(d.1.flatMap (·.2.1)).length≤1073741824) (h2:(d.2.1.flatMap (·.2.1)).length≤1073741824):G_iFrontierVariables d (frV d):=M_iFrontierVariables _ _ (by
 unfold S_iFrontierVariables
 exact⟨_,g_iheadVariables h1 h2,by rw[hdV_true]⟩)
theorem loop_copy {α τ:Type} {B:(τ→Prop)→τ→Prop} (l:List α) (e:Nat→List α→τ) (hl:l.length≤1073741824)
  (hs:∀ i (h:i<l.length) (s:List α) (X:τ→Prop),s.length≤1073741824→X (e (i+1) (s++[l[i]]))→B X (e i s))
  (hf:∀ X:τ→Prop,B X (e l.length l)):LoopP B (e 0 []):=by
 refine loopP_of l.length (fun i=>e i (l.take i)) (by simp) ?_ ?_
 · intro i hi X hX
   rw[take_succ_snoc hi]at hX
   exact hs i hi _ X (by rw[List.length_take];omega) hX
 · intro X;rw[List.take_length];exact hf X
def okDep (d:TDep):Prop:=(d.1.length≤1073741824∧∀ f∈d.1,f.2.1.length≤1099511627776)∧(d.2.1.length≤1073741824∧∀ f∈d.2.1,f.2.1.length≤1099511627776)
theorem g_sl9Copy {d:TDep} (h:okDep d):G_sl9Copy d d:=M_sl9Copy _ _ (by
 unfold S_sl9Copy
 refine loop_copy d.1 (fun i s=>((i:Int),((s,(([]:List TFact),d.2.2)),()))) h.1.1 ?_ ?_
 · intro i hi s X hs hX
   have hb:=h.1.2 _ (List.getElem_mem hi)
   refine lenI fun _=>bcI hi ?_
   simp only
   rw[getI hi,w64_succ (by omega)]
   rw[List.nil_append]
   exact inI hi (inI hi ⟨by simp only[maxL,List.length_nil];omega,by simp only[maxL,List.length_cons,List.length_nil];omega,hX⟩)
 · intro X
   refine lenI fun _=>bcN ?_
   simp only
   refine loop_copy d.2.1 (fun i s=>((i:Int),((d.1,(s,d.2.2)),()))) h.2.1 ?_ ?_
   · intro i hi s Y hs hY
     have hb:=h.2.2 _ (List.getElem_mem hi)
     refine lenI fun _=>bcI hi ?_
     simp only
     rw[getI hi,w64_succ (by omega)]
     rw[List.nil_append]
     exact inI hi (inI hi ⟨by simp only[maxL,List.length_nil];omega,by simp only[maxL,List.length_cons,List.length_nil];omega,hY⟩)
   · intro Y
     exact lenI fun _=>bcN rfl)
def place (l:List TFact) (f:TFact):Int:=if firstAt (fun x=>decide (x=f)) l<l.length then(firstAt (fun x=>decide (x=f)) l:Int)else -1
def Rd {ρ:Type} (P:ρ→Prop) (A:Prop) (B:ρ→Prop):Prop:=A→∃ v,P v∧B v
section
variable {ρ:Type} {P:ρ→Prop}
theorem rk {x:ρ}:Rd P (P x) (fun v=>x=v):=fun h=>⟨x,h,rfl⟩
theorem rb {b:Bool} {A1 A2:Prop} {B1 B2:ρ→Prop} (h1:Rd P A1 B1) (h2:Rd P A2 B2):Rd P (bcase b A1 A2) (fun v=>bcase b (B1 v) (B2 v)):=by
 cases b
 · exact h2
 · exact h1
theorem ra {C A:Prop} {B:ρ→Prop} (h:Rd P A B):Rd P (C∧A) (fun v=>C∧B v):=fun⟨c,a⟩=>(h a).imp fun _ hv=>⟨hv.1,c,hv.2⟩
theorem re {α:Type} {A:α→Prop} {B:α→ρ→Prop} (h:∀ y,Rd P (A y) (B y)):Rd P (∃ y,A y) (fun v=>∃ y,B y v):=fun⟨y,a⟩=>(h y a).imp fun _ hv=>⟨hv.1,y,hv.2⟩
theorem rl (hi:∃ v,P v) {n:Int} {A:Prop} {B:ρ→Prop} (h:Rd P A B):Rd P (lenA n A) (fun v=>lenA n (B v)):=fun a=>by
 by_cases hn:n≤9223372036854775807
 · exact(h (a hn)).imp fun _ hv=>⟨hv.1,fun _=>hv.2⟩
 · exact hi.imp fun _ hv=>⟨hv,fun h=>absurd h hn⟩
theorem rp {σ:Type} {BP:(σ→Prop)→σ→Prop} {BV:ρ→(σ→Prop)→σ→Prop} {a0:σ}
  (h:∀(XP:σ→Prop) (XV:ρ→σ→Prop),(∀ b,Rd P (XP b) (fun v=>XV v b))→∀ a,Rd P (BP XP a) (fun v=>BV v (XV v) a)):Rd P (LoopP BP a0) (fun v=>LoopP (BV v) a0):=by
 rintro⟨n,hn⟩
 have key:∀ n a,Rd P (iterP BP n a) (fun v=>iterP (BV v) n a):=by
  intro n
  induction n with
  |zero=>intro a h;exact h.elim
  |succ n ih=>intro a;exact h _ (fun v=>iterP (BV v) n) ih a
 exact(key n a0 hn).imp fun _ hv=>⟨hv.1,n,hv.2⟩
theorem rd_of {S:(ρ→Prop)→Prop} (h:S P) (hi:∃ v,P v) (hr:(∃ v,P v)→Rd P (S P) (fun v=>S (fun q=>q=v))):∃ v,P v∧S (fun q=>q=v):=hr hi h
end
abbrev Src:=List Int×Int×Int×Unit
def SmR (r:Int) (f:TFact):Prop:=f.1=r∧1≤f.2.1.length∧f.2.1.length≤2
def Oks (s:Src):Prop:=0≤s.2.1∧s.1.length≤4611686018427387903
theorem low_byte (x:Int):0≤bitsK .and .i64 x 255∧bitsK .and .i64 x 255≤255:=by
 show 0≤IntKind.i64.wrap ((BitVec.ofInt 64 x &&& BitVec.ofInt 64 255).toNat:Int)∧IntKind.i64.wrap ((BitVec.ofInt 64 x &&& BitVec.ofInt 64 255).toNat:Int)≤255
 have h:(BitVec.ofInt 64 x &&& BitVec.ofInt 64 255).toNat≤255:=by
  rw[BitVec.toNat_and]
  exact Nat.le_trans Nat.and_le_right (by decide)
 generalize (BitVec.ofInt 64 x &&& BitVec.ofInt 64 255).toNat=n at h
 have e:IntKind.i64.wrap (n:Int)=(n:Int):=w64_id (by omega) (by omega)
 rw[e];omega
theorem d_byte {s:Src} (h:Oks s):∃ y z,G_sl1Byte_poz s y z∧(0≤y∧y≤255)∧Oks z:=by
 have hl:=h.2
 have h0:=h.1
 have hs:S_sl1Byte_poz s (fun q=>(0≤q.1∧q.1≤255)∧Oks q.2.1):=by
  unfold S_sl1Byte_poz
  refine⟨by decide,by decide,lenI fun _=>bc_dec (fun hlt=>⟨⟨h0,hlt⟩,low_byte _,?_,hl⟩) (fun _=>⟨low_byte _,h⟩)⟩
  show 0≤w64 (s.2.1+1)
  rw[w64_id (by omega) (by omega)];omega
 obtain⟨⟨y,z,_⟩,hq,hv⟩:=rd_of (S:=S_sl1Byte_poz s) hs ⟨(0,(s,())),⟨Int.le_refl (0:Int),(by decide:(0:Int)≤255)⟩,h⟩ fun hi=>by
  unfold S_sl1Byte_poz
  repeat' first|exact rk|apply_assumption|refine rb ?_ ?_|refine rl hi ?_|refine ra ?_|(refine rp ?_;intro _ _ _ _)|(refine re ?_;intro _)
 exact⟨y,z,M_sl1Byte_poz _ _ _ hv,hq.1,hq.2⟩
theorem d_below {s:Src} {n:Int} (h:Oks s) (h1:0<n) (h2:n≤256):∃ y z,G_sl1Below_poz s n y z∧(0≤y∧y<n)∧Oks z:=by
 obtain⟨y,z,g,y0,hz⟩:=d_byte h
 refine⟨Int.tmod y n,z,M_sl1Below_poz _ _ _ _ ?_,⟨?_,?_⟩,hz⟩
 · unfold S_sl1Below_poz
   rw[bc_neg (by omega)]
   exact bc_dec (fun _=>⟨y,z,g,by omega,rfl⟩) (fun h=>absurd h2 h)
 · exact Int.tmod_nonneg _ y0.1
 · exact Int.tmod_lt_of_pos _ h1
theorem d_once {s:Src} {n:Int} (h:Oks s) (h1:0<n) (h2:n≤256):∃ y z,G_sl1Once_poz s n y z∧Oks z:=by
 obtain⟨y,z,g,_,hz⟩:=d_below h h1 h2
 exact⟨_,z,M_sl1Once_poz _ _ _ _ ⟨y,z,g,rfl⟩,hz⟩
theorem d_pickInt {s:Src} {l:List Int} (h:Oks s) (h1:0<l.length) (h2:l.length≤256):∃ y z,G_sl1PickInt_poz s l y z∧Oks z:=by
 obtain⟨y,z,g,hy,hz⟩:=d_below (n:=(l.length:Int)) h (by omega) (by omega)
 exact⟨_,z,M_sl1PickInt_poz _ _ _ _ (lenI fun _=>⟨y,z,g,⟨hy.1,hy.2⟩,rfl⟩),hz⟩
def sigs:List TRel:=[([97],(2,(true,()))),([98],(1,(true,()))),([112],(2,(false,()))),([113],(2,(false,()))),([114],(1,(false,())))]
theorem g_sl3Sigs:G_sl3Sigs sigs:=M_sl3Sigs _ rfl
theorem sig_arity (i:Nat) (h:i<sigs.length):1≤(sigs[i]).2.1∧(sigs[i]).2.1≤2:=by
 match i,h with
 |0,_|2,_|3,_=>exact⟨(by decide:(1:Int)≤2),(by decide:(2:Int)≤2)⟩
 |1,_|4,_=>exact⟨(by decide:(1:Int)≤1),(by decide:(1:Int)≤2)⟩
theorem d_atom {s:Src} {r n:Int} (h:Oks s) (h0:0≤r) (h1:r<5) (hn0:0<n) (h2:n≤40):∃ y z,G_sl9Atom_poz s r n y z∧SmR r y∧Oks z:=by
 obtain⟨i,rfl⟩:∃ i:Nat,r=(i:Int):=⟨r.toNat,by omega⟩
 have hi:i<sigs.length:=by show i<5;omega
 have ha:=sig_arity i hi
 have hs:S_sl9Atom_poz s i n (fun q=>SmR i q.1∧Oks q.2.1):=by
  unfold S_sl9Atom_poz
  refine⟨_,g_sl3Sigs,?_⟩
  refine loopP_down (fun k a=>∃(c:Src) (l:List Int),a=(c,(((i:Int),(l,())),()))∧Oks c∧l.length+k=(sigs[i]).2.1.toNat) ?_ ?_ (n:=(sigs[i]).2.1.toNat) ⟨s,[],rfl,h,by simp⟩
  · rintro a ⟨c,l,rfl,hc,hl⟩ X
    refine inI hi (lenI fun _=>?_)
    rw[getI hi]
    exact bc_dec (fun h=>by simp only at h;omega) (fun _=>⟨⟨rfl,by simp only;omega,by simp only;omega⟩,hc⟩)
  · rintro k a ⟨c,l,rfl,hc,hl⟩ X hX
    obtain⟨b,z,g,hz⟩:=d_once hc (n:=14) (by decide) (by decide)
    obtain⟨u,z1,g1,_,hz1⟩:=d_below hz (n:=3) (by decide) (by decide)
    obtain⟨v,z2,g2,_,hz2⟩:=d_below hz (n:=n) hn0 (by omega)
    refine inI hi (lenI fun _=>?_)
    rw[getI hi]
    exact bc_dec (fun h=>⟨b,z,g,bc_if (fun _=>⟨u,z1,g1,by simp only[maxL,List.length_cons,List.length_nil];omega,hX _ ⟨z1,_,rfl,hz1,by simp;omega⟩⟩)
     (fun _=>⟨v,z2,g2,by simp only[maxL,List.length_cons,List.length_nil];omega,hX _ ⟨z2,_,rfl,hz2,by simp;omega⟩⟩)⟩) (fun h=>by simp only at h;omega)
 obtain⟨⟨y,z,_⟩,hq,hv⟩:=rd_of (S:=S_sl9Atom_poz s i n) hs ⟨((i,([0],())),(s,())),⟨rfl,(by decide:1≤1),(by decide:1≤2)⟩,h⟩ fun hi=>by
  unfold S_sl9Atom_poz
  repeat' first|exact rk|apply_assumption|refine rb ?_ ?_|refine rl hi ?_|refine ra ?_|(refine rp ?_;intro _ _ _ _)|(refine re ?_;intro _)
 exact⟨y,z,M_sl9Atom_poz _ _ _ _ _ hv,hq.1,hq.2⟩
theorem g_sVariables_o {l:List TFact} (hl:(l.flatMap (·.2.1)).length≤1073741824):G_sVariables_oopzpozz l (vars l) l:=M_sVariables_oopzpozz _ _ _ (by
 unfold S_sVariables_oopzpozz
 refine loopP_of l.length (fun i=>((i:Int),(vars (l.take i),()))) (by simp[vars,sset]) ?_ ?_
 · intro i hi X hX
   refine lenI fun hl1=>bcI hi ?_
   simp only
   rw[getI hi]
   have hsub:((l.take i).flatMap (·.2.1)).length+l[i].2.1.length≤1073741824:=by
    have:=flat_split (·.2.1) hi
    omega
   have hset:∀ j,j≤l[i].2.1.length→(sset (((l.take i).flatMap (·.2.1)++l[i].2.1.take j).filter fun t=>decide (0≤t))).length≤1073741824:=by
    intro j hj
    refine Nat.le_trans (sset_len _) (Nat.le_trans (List.length_filter_le _ _) ?_)
    rw[List.length_append,List.length_take];omega
   refine loopP_of l[i].2.1.length (fun j=>(sset (((l.take i).flatMap (·.2.1)++l[i].2.1.take j).filter fun t=>decide (0≤t)),((j:Int),()))) (by simp[vars]) ?_ ?_
   · intro j hj Y hY
     refine inI hi (lenI fun _=>bcI hj (inI hi (inI hj ?_)))
     simp only
     rw[getI hj,w64_succ (by omega)]
     have e:((l.take i).flatMap (·.2.1)++l[i].2.1.take (j+1)).filter (fun t=>decide (0≤t))=((l.take i).flatMap (·.2.1)++l[i].2.1.take j).filter (fun t=>decide (0≤t))++(if 0≤l[i].2.1[j] then[l[i].2.1[j]] else[]):=by
      rw[take_succ_snoc hj,←List.append_assoc,List.filter_append]
      by_cases h:0≤l[i].2.1[j]<;>simp[h]
     rw[e]at hY
     refine bc_dec (fun h=>inI hi (inI hj ⟨_,g_sl4Put (hset j (by omega)),?_⟩)) (fun h=>?_)
     · have h:0≤l[i].2.1[j]:=h
       rw[if_pos h]at hY
       rw[sset_snoc];exact hY
     · have h:¬ 0≤l[i].2.1[j]:=h
       rw[if_neg h,List.append_nil]at hY;exact hY
   · intro Y
     refine inI hi (lenI fun _=>bcN ?_)
     simp only
     rw[w64_succ (by omega),List.take_length]
     have:sset (((l.take i).flatMap (·.2.1)++l[i].2.1).filter fun t=>decide (0≤t))=vars (l.take (i+1)):=by
      unfold vars;rw[take_succ_snoc hi,List.flatMap_append];simp
     rw[this];exact hX
 · intro X
   refine lenI fun _=>bcN ?_
   simp only[List.take_length])
def SmB (l:List TFact):Prop:=∀ f∈l,1≤f.2.1.length∧f.2.1.length≤2
def SmD (n:Nat) (d:TDep):Prop:=(1≤d.1.length∧d.1.length≤2)∧d.2.1.length≤n∧SmB d.1∧SmB d.2.1
theorem SmD.mono {n m:Nat} {d:TDep} (h:SmD n d) (hm:n≤m):SmD m d:=⟨h.1,Nat.le_trans h.2.1 hm,h.2.2⟩
theorem SmD.ok {n:Nat} {d:TDep} (h:SmD n d) (hn:n≤1000):okDep d:=
 ⟨⟨by have:=h.1.2;omega,fun f hf=>by have:=(h.2.2.1 f hf).2;omega⟩,⟨by have:=h.2.1;omega,fun f hf=>by have:=(h.2.2.2 f hf).2;omega⟩⟩
theorem SmB.snoc {l:List TFact} {f:TFact} (h:SmB l) (hf:1≤f.2.1.length∧f.2.1.length≤2):SmB (l++[f]):=fun g hg=>by
 rcases List.mem_append.mp hg with hg|hg
 · exact h g hg
 · obtain rfl:=List.mem_singleton.mp hg;exact hf
theorem SmB.flat {l:List TFact} (h:SmB l):(l.flatMap (·.2.1)).length≤l.length * 2:=by
 induction l with
 |nil=>simp
 | cons a l ih=>
   have:=ih fun f hf=>h f (by simp[hf])
   have:=(h a (by simp)).2
   simp only[List.flatMap_cons,List.length_append,List.length_cons]
   omega
theorem smd0:SmD 2 ([(0,([0],()))],([],(false,(0,(0,()))))):=by unfold SmD SmB;decide
theorem both {b:Bool} {A B:Prop} (h1:A) (h2:B):bcase b A B:=by
 cases b
 · exact h2
 · exact h1
theorem w64_dec {k:Nat} (h:k≤1000):w64 (((k+1:Nat):Int) - 1)=(k:Int):=by rw[w64_id (by omega) (by omega)];omega
theorem d_known {s:Src} (h:Oks s):∃ y z,G_sl9Known_poz s y z∧SmD 2 y∧Oks z:=by
 obtain⟨v,z,g,_,hz⟩:=d_below h (n:=9) (by decide) (by decide)
 have hs:S_sl9Known_poz s (fun q=>SmD 2 q.1∧Oks q.2.1):=by
  unfold S_sl9Known_poz
  refine⟨v,z,g,?_⟩
  have hd:∀ {d:TDep},SmD 2 d→SmD 2 ((d,(z,())):TDep×Src×Unit).1∧Oks ((d,(z,())):TDep×Src×Unit).2.1:=fun h=>⟨h,hz⟩
  refine both (hd (by unfold SmD SmB;decide)) (both (hd (by unfold SmD SmB;decide)) (both (hd (by unfold SmD SmB;decide)) (both (hd (by unfold SmD SmB;decide)) (both (hd (by unfold SmD SmB;decide)) (both (hd (by unfold SmD SmB;decide)) (both (hd (by unfold SmD SmB;decide)) (both (hd (by unfold SmD SmB;decide)) (hd (by unfold SmD SmB;decide)))))))))
 obtain⟨⟨y,z,_⟩,hq,hv⟩:=rd_of (S:=S_sl9Known_poz s) hs ⟨((([(0,([0],()))],([],(false,(0,(0,()))))):TDep),(s,())),smd0,h⟩ fun hi=>by
  unfold S_sl9Known_poz
  repeat' first|exact rk|apply_assumption|refine rb ?_ ?_|refine rl hi ?_|refine ra ?_|(refine rp ?_;intro _ _ _ _)|(refine re ?_;intro _)
 exact⟨y,z,M_sl9Known_poz _ _ _ hv,hq.1,hq.2⟩
theorem d_rule {s:Src} (h:Oks s):∃ y z,G_sl9Rule_poz s y z∧SmD 2 y∧Oks z:=by
 have hs:S_sl9Rule_poz s (fun q=>SmD 2 q.1∧Oks q.2.1):=by
  unfold S_sl9Rule_poz
  obtain⟨b,z,g,hz⟩:=d_once h (n:=3) (by decide) (by decide)
  refine⟨b,z,g,both ?_ ?_⟩
  · obtain⟨y,z1,g1,hy,hz1⟩:=d_known hz
    exact⟨y,z1,g1,hy,hz1⟩
  · obtain⟨v,z1,g1,hv,hz1⟩:=d_below hz (n:=2) (by decide) (by decide)
    obtain⟨N,hN⟩:∃ N:Nat,1+v=(N:Int):=⟨(1+v).toNat,by omega⟩
    refine⟨v,z1,g1,?_⟩
    rw[show w64 (1+v)=(N:Int) by rw[hN];exact w64_id (by omega) (by omega)]
    refine loopP_down (fun k a=>∃(c:Src) (l:List TFact),a=((k:Int),(c,((l,(([]:List TFact),(false,((0:Int),((0:Int),()))))),())))∧Oks c∧l.length+k=N∧SmB l) ?_ ?_ (n:=N) ⟨z1,[],rfl,hz1,by simp,fun f hf=>by simp at hf⟩
    · rintro a ⟨c,l,rfl,hc,hl,hb⟩ X
      refine bc_dec (fun h=>by simp at h) (fun _=>?_)
      have hfl:=hb.flat
      refine⟨_,_,g_sVariables_o (l:=l) (by omega),lenI fun _=>?_⟩
      have head:∀ {c:Src},Oks c→∃ y17 y18,G_sl1Below_poz c 2 y17 y18∧(0≤y17∧y17<2)∧Oks y18:=fun hc=>d_below hc (by decide) (by decide)
      have tail:∀ {u:Int} {c:Src},0≤u∧u<2→Oks c→LoopP (fun(again20:Int×Src×TDep×Unit→Prop) (a19:Int×Src×TDep×Unit)=>bcase (decide (a19.1 > (0:Int))) (∃ y21:Int,∃ y22:Src,G_sl1Below_poz a19.2.1 (3:Int) y21 y22∧(∃ y23:TFact,∃ y24:Src,G_sl9Atom_poz y22 (w64 ((2:Int)+y21)) (4:Int) y23 y24∧(a19.2.2.1.2.1.length+([(y23.1,(y23.2.1,y23.2.2))]:List TFact).length≤maxL∧(again20 (w64 (a19.1 - (1:Int)),(y24,((a19.2.2.1.1,(a19.2.2.1.2.1++([(y23.1,(y23.2.1,y23.2.2))]:List TFact),a19.2.2.1.2.2)),()))))))) (SmD 2 ((a19.2.2.1.1,(a19.2.2.1.2.1,a19.2.2.1.2.2)):TDep)∧Oks a19.2.1)) (w64 ((1:Int)+u),(c,((l,(([]:List TFact),(false,((0:Int),((0:Int),()))))),()))):=by
       intro u c hu hc
       obtain⟨M,hM⟩:∃ M:Nat,1+u=(M:Int):=⟨(1+u).toNat,by omega⟩
       rw[show w64 (1+u)=(M:Int) by rw[hM];exact w64_id (by omega) (by omega)]
       refine loopP_down (fun k a=>∃(c:Src) (m:List TFact),a=((k:Int),(c,((l,(m,(false,((0:Int),((0:Int),()))))),())))∧Oks c∧m.length+k=M∧SmB m) ?_ ?_ (n:=M) ⟨c,[],rfl,hc,by simp,fun f hf=>by simp at hf⟩
       · rintro a ⟨c,m,rfl,hc,hm,hb2⟩ X
         exact bc_dec (fun h=>by simp at h) (fun _=>⟨⟨⟨by simp only;omega,by simp only;omega⟩,by simp only;omega,hb,hb2⟩,hc⟩)
       · rintro k a ⟨c,m,rfl,hc,hm,hb2⟩ X hX
         obtain⟨u,z1,g1,hu,hz1⟩:=d_below hc (n:=3) (by decide) (by decide)
         obtain⟨f,z2,g2,hf,hz2⟩:=d_atom hz1 (r:=2+u) (n:=4) (by omega) (by omega) (by decide) (by decide)
         refine bc_dec (fun _=>⟨u,z1,g1,f,z2,?_,?_,?_⟩) (fun h=>by simp at h<;>omega)
         · rw[w64_id (by omega) (by omega)];exact g2
         · simp only[maxL,List.length_cons,List.length_nil];omega
         · simp only
           rw[w64_dec (by omega)]
           exact hX _ ⟨z2,m++[f],rfl,hz2,by simp;omega,hb2.snoc hf.2⟩
      obtain⟨b2,z2,g2,hz2⟩:=d_once hc (n:=3) (by decide) (by decide)
      obtain⟨u,z3,g3,hu,hz3⟩:=head hz2
      obtain⟨u',z3',g3',hu',hz3'⟩:=head hc
      refine bc_dec (fun hgt=>⟨b2,z2,g2,both ⟨⟨by omega,by omega⟩,⟨by omega,by omega⟩,⟨⟨by simp only;omega,by simp only;omega⟩,by simp,hb,fun f hf=>by simp at hf⟩,hz2⟩ ⟨u,z3,g3,tail hu hz3⟩⟩) (fun _=>⟨u',z3',g3',tail hu' hz3'⟩)
    · rintro k a ⟨c,l,rfl,hc,hl,hb⟩ X hX
      obtain⟨r,z1,g1,hr,hz1⟩:=d_below hc (n:=5) (by decide) (by decide)
      obtain⟨f,z2,g2,hf,hz2⟩:=d_atom hz1 (r:=r) (n:=3) hr.1 hr.2 (by decide) (by decide)
      refine bc_dec (fun _=>⟨r,z1,g1,f,z2,g2,?_,?_⟩) (fun h=>by simp at h<;>omega)
      · simp only[maxL,List.length_cons,List.length_nil];omega
      · simp only
        rw[w64_dec (by omega)]
        exact hX _ ⟨z2,l++[f],rfl,hz2,by simp;omega,hb.snoc hf.2⟩
 obtain⟨⟨y,z,_⟩,hq,hv⟩:=rd_of (S:=S_sl9Rule_poz s) hs ⟨((([(0,([0],()))],([],(false,(0,(0,()))))):TDep),(s,())),smd0,h⟩ fun hi=>by
  unfold S_sl9Rule_poz
  repeat' first|exact rk|apply_assumption|refine rb ?_ ?_|refine rl hi ?_|refine ra ?_|(refine rp ?_;intro _ _ _ _)|(refine re ?_;intro _)
 exact⟨y,z,M_sl9Rule_poz _ _ _ hv,hq.1,hq.2⟩
theorem d_any {s:Src} (h:Oks s):∃ y z,G_sl9Any_poz s y z∧SmD 3 y∧Oks z:=by
 have hs:S_sl9Any_poz s (fun q=>SmD 3 q.1∧Oks q.2.1):=by
  unfold S_sl9Any_poz
  obtain⟨d,z,g,hd,hz⟩:=d_rule h
  obtain⟨v,z1,g1,hv,hz1⟩:=d_below hz (n:=12) (by decide) (by decide)
  obtain⟨u,z2,g2,hu,hz2⟩:=d_below hz1 (n:=7) (by decide) (by decide)
  obtain⟨w,z3,g3,hz3⟩:=d_pickInt hz1 (l:=[5,-11,4]) (by decide) (by decide)
  obtain⟨t,z4,g4,ht,hz4⟩:=d_below hz1 (n:=4) (by decide) (by decide)
  obtain⟨r,z5,g5,hr,hz5⟩:=d_below hz1 (n:=5) (by decide) (by decide)
  obtain⟨f,z6,g6,hf,hz6⟩:=d_atom hz5 (r:=r) (n:=3) hr.1 hr.2 (by decide) (by decide)
  have hd3:=hd.mono (show 2≤3 by decide)
  have h0:0<d.1.length:=hd.1.1
  have hb0:=hd.2.2.1 _ (List.getElem_mem h0)
  have hset:∀ {g:TFact},1≤g.2.1.length∧g.2.1.length≤2→SmD 3 (d.1.set (Int.toNat (0:Int)) g,d.2):=by
   intro g hg
   refine⟨⟨by simp only[List.length_set];exact hd.1.1,by simp only[List.length_set];exact hd.1.2⟩,hd3.2.1,fun x hx=>?_,hd.2.2.2⟩
   rcases List.mem_or_eq_of_mem_set hx with hx|rfl
   · exact hd.2.2.1 x hx
   · exact hg
  have e0:d.1.getD (Int.toNat (0:Int)) zFact=d.1[0]:=getI h0
  refine⟨d,z,g,v,z1,g1,?_⟩
  rw[e0]
  refine both ⟨u,z2,g2,⟨by omega,by omega⟩,hset hb0,hz2⟩ (both ⟨⟨by omega,by omega⟩,w,z3,g3,⟨by omega,by omega⟩,hset (by simp only[List.length_set];exact hb0),hz3⟩ (both ⟨t,z4,g4,hd3,hz4⟩ (both ⟨hd3,hz1⟩ (both ⟨r,z5,g5,f,z6,g6,?_,⟨hd.1,?_,hd.2.2.1,hd.2.2.2.snoc hf.2⟩,hz6⟩ ⟨hd3,hz1⟩))))
  · have:=hd.2.1
    simp only[maxL,List.length_cons,List.length_nil];omega
  · have:=hd.2.1
    simp only[List.length_append,List.length_cons,List.length_nil];omega
 obtain⟨⟨y,z,_⟩,hq,hv⟩:=rd_of (S:=S_sl9Any_poz s) hs ⟨((([(0,([0],()))],([],(false,(0,(0,()))))):TDep),(s,())),smd0.mono (by decide),h⟩ fun hi=>by
  unfold S_sl9Any_poz
  repeat' first|exact rk|apply_assumption|refine rb ?_ ?_|refine rl hi ?_|refine ra ?_|(refine rp ?_;intro _ _ _ _)|(refine re ?_;intro _)
 exact⟨y,z,M_sl9Any_poz _ _ _ hv,hq.1,hq.2⟩
theorem d_new {x:List Int} (h:x.length≤1048576):∃ z,G_sl1New x z∧Oks z:=by
 have hs:S_sl1New x (fun q=>Oks q.1):=by
  unfold S_sl1New
  refine lenI fun _=>?_
  refine loopP_down (fun k a=>∃(v:Int) (i:Nat),a=(v,((i:Int),()))∧i+k=4000) ?_ ?_ (n:=4000) ⟨_,0,rfl,rfl⟩
  · rintro a ⟨v,i,rfl,hi⟩ X
    exact lenI fun _=>both (bc_dec (fun h=>by simp at h;omega) (fun _=>⟨Int.le_refl (0:Int),by show x.length≤_;omega⟩)) ⟨Int.le_refl (0:Int),by show x.length≤_;omega⟩
  · rintro k a ⟨v,i,rfl,hi⟩ X hX
    refine lenI fun _=>bc_dec (fun hlt=>both ⟨⟨by simp only;omega,hlt⟩,?_⟩ ⟨Int.le_refl (0:Int),by show x.length≤_;omega⟩) (fun _=>⟨Int.le_refl (0:Int),by show x.length≤_;omega⟩)
    simp only
    rw[w64_succ (by omega)]
    exact hX _ ⟨_,i+1,rfl,by omega⟩
 obtain⟨⟨z,_⟩,hq,hv⟩:=rd_of (S:=S_sl1New x) hs ⟨(([],(0,(0,()))),()),Int.le_refl (0:Int),by decide⟩ fun hi=>by
  unfold S_sl1New
  repeat' first|exact rk|apply_assumption|refine rb ?_ ?_|refine rl hi ?_|refine ra ?_|(refine rp ?_;intro _ _ _ _)|(refine re ?_;intro _)
 exact⟨z,M_sl1New _ _ hv,hq⟩
theorem g_lbig {x:List Int}:G_lbig x (decide ((x.length:Int) > 1048576)):=M_lbig _ _ (lenI fun _=>rfl)
def decI (n:Int):List UInt8:=Go.Lib.decDigits n.toNat
theorem g_iFormatInt {n:Int} (h0:0≤n) (h1:n<100):G_iFormatInt n (decI n):=M_iFormatInt _ _ (by unfold S_iFormatInt;exact⟨_,prim_itoa h0 h1,rfl⟩)
theorem byte_dec:∀ i:Fin 10,bytesOf [IntKind.u8.wrap (w64 ((48:Int)+((i.val:Nat):Int)))]=[UInt8.ofNat (48+i.val)]:=by decide
theorem byte_dec' {i:Nat} (h:i<10):bytesOf [IntKind.u8.wrap (w64 ((48:Int)+(i:Int)))]=[UInt8.ofNat (48+i)]:=byte_dec ⟨i,h⟩
theorem g_sFormatInt {n:Int} (h0:0≤n) (h1:n<100):G_sFormatInt n (decI n):=M_sFormatInt _ _ (by
 obtain⟨k,rfl⟩:∃ k:Nat,n=(k:Int):=⟨n.toNat,by omega⟩
 have hk:k<100:=by omega
 clear h0 h1
 unfold S_sFormatInt
 have e10:Int.tmod (k:Int) 10=((k % 10:Nat):Int):=by rw[Int.tmod_eq_emod_of_nonneg (by omega)];omega
 have d10:Int.tdiv (k:Int) 10=((k / 10:Nat):Int):=by rw[Int.tdiv_eq_ediv_of_nonneg (by omega)];omega
 refine bc_beq (fun h=>?_) (fun h=>?_)
 · have:k=0:=by omega
   subst this
   have:decI ((0:Nat):Int)=[48]:=by unfold decI;rw[Go.Lib.decDigits_one (by decide)];rfl
   rw[this]
 · have hk0:k≠0:=by omega
   by_cases h9:k<10
   · have hd:decI (k:Int)=[UInt8.ofNat (48+k)]:=by unfold decI;rw[Int.toNat_natCast,Go.Lib.decDigits_one h9]
     refine loopP_of 1 (fun i=>if i=0 then((k:Int),(([]:List UInt8),()))else((0:Int),([UInt8.ofNat (48+k)],()))) rfl ?_ ?_
     · intro i hi X hX
       have:i=0:=by omega
       subst this
       simp only[if_true]at hX ⊢
       rw[if_neg (by omega)]at hX
       refine bc_ne (fun h'=>⟨by omega,bc_dec (fun h'=>by rw[e10]at h';omega) (fun _=>?_)⟩) (fun h'=>by exfalso;omega)
       rw[e10,d10,Nat.mod_eq_of_lt h9,byte_dec' h9,Nat.div_eq_of_lt h9]
       refine⟨by simp[maxL],by omega,?_⟩
       rw[w64_id (by omega) (by omega),List.append_nil]
       exact hX
     · intro X
       simp only[show ¬ (1=0) by omega,if_false]
       refine bc_ne (fun h'=>absurd rfl h') (fun _=>bc_dec (fun h'=>by omega) (fun _=>?_))
       rw[hd]
   · have hd:decI (k:Int)=[UInt8.ofNat (48+k / 10),UInt8.ofNat (48+k % 10)]:=by unfold decI;rw[Int.toNat_natCast,Go.Lib.decDigits_two h9 hk]
     have q9:k / 10<10:=by omega
     have m9:k % 10<10:=by omega
     refine loopP_of 2 (fun i=>if i=0 then((k:Int),(([]:List UInt8),()))else if i=1 then(((k / 10:Nat):Int),([UInt8.ofNat (48+k % 10)],()))else((0:Int),([UInt8.ofNat (48+k / 10),UInt8.ofNat (48+k % 10)],()))) rfl ?_ ?_
     · intro i hi X hX
       rcases (show i=0∨i=1 by omega)with rfl|rfl
       · simp only[if_true]at hX ⊢
         refine bc_ne (fun h'=>⟨by omega,bc_dec (fun h'=>by rw[e10]at h';omega) (fun _=>?_)⟩) (fun h'=>by exfalso;omega)
         rw[e10,d10,byte_dec' m9]
         refine⟨by simp[maxL],by omega,?_⟩
         rw[w64_id (by omega) (by omega),List.append_nil]
         exact hX
       · simp only[show ¬ (1=0) by omega,show ¬ (1+1=0) by omega,show ¬ (1+1=1) by omega,if_true,if_false]at hX ⊢
         have e10:Int.tmod ((k / 10:Nat):Int) 10=((k / 10:Nat):Int):=by rw[Int.tmod_eq_emod_of_nonneg (by omega)];omega
         have d10:Int.tdiv ((k / 10:Nat):Int) 10=0:=by rw[Int.tdiv_eq_ediv_of_nonneg (by omega)];omega
         refine bc_ne (fun h'=>⟨by omega,bc_dec (fun h'=>by rw[e10]at h';omega) (fun _=>?_)⟩) (fun h'=>by exfalso;omega)
         rw[e10,d10,byte_dec' q9]
         refine⟨by simp[maxL],by omega,?_⟩
         rw[w64_id (by omega) (by omega)]
         exact hX
     · intro X
       simp only[show ¬ (2=0) by omega,show ¬ (2=1) by omega,if_false]
       refine bc_ne (fun h'=>absurd rfl h') (fun _=>bc_dec (fun h'=>by omega) (fun _=>?_))
       rw[hd])
def letters:List UInt8:=[120,121,122,117,118]
def termS (t:Int):List UInt8:=if inR t 0 4 then(letters.take (t+1).toNat).drop t.toNat else if inR t (-10) (-1)then[UInt8.ofNat (48+(-1 - t).toNat)] else[]
def atomS (l:List TRel) (a:TFact):List UInt8:=if vAtom l a then(l.getD a.1.toNat zRel).1++a.2.1.flatMap termS else[]
def atomsS (l:List TRel) (ats:List TFact):List UInt8:=Go.Lib.join (ats.map (atomS l)) [32]
def depS (l:List TRel) (d:TDep):List UInt8:=if vDep l d then(if d.2.2.1 then((atomsS l d.1++[61])++termS d.2.2.2.1)++termS d.2.2.2.2.1 else(atomsS l d.1++[62])++atomsS l d.2.1)else[]
theorem termS_len (t:Int):(termS t).length≤1:=by
 unfold termS
 split
 · next h=>
   have:=inR_iff.mp h
   rw[List.length_drop,List.length_take]
   omega
 · split<;>simp
theorem terms_len (l:List Int):(l.flatMap termS).length≤l.length:=by
 induction l with
 |nil=>simp
 | cons a l ih=>
   have:=termS_len a
   rw[List.flatMap_cons,List.length_append,List.length_cons];omega
theorem vAtom_name {l:List TRel} {a:TFact} (h:vAtom l a=true):(0≤a.1∧a.1<l.length)∧(l.getD a.1.toNat zRel).1.length=1∧a.2.1.length≤3:=by
 obtain⟨h1,h2,h3,h4,h5,h6⟩:=vRow_spec h
 refine⟨⟨h2,h3⟩,?_,h5⟩
 have hi:a.1.toNat<l.length:=by omega
 have hm:=vRels_mem h1 (List.getElem_mem hi)
 rw[getD_at hi]
 unfold vRel at hm
 simp only[Bool.and_eq_true]at hm
 simpa using hm.1.1.1
theorem atomS_len (l:List TRel) (a:TFact):(atomS l a).length≤4:=by
 unfold atomS
 split
 · next h=>
   obtain⟨_,h1,h2⟩:=vAtom_name h
   have:=terms_len a.2.1
   rw[List.length_append];omega
 · simp
theorem joinL_len {s:List UInt8} {k:Nat}:∀ {l:List (List UInt8)},(∀ a∈l,a.length≤k)→(Go.Lib.join l s).length≤l.length * (k+s.length)
 |[],_=>by simp[Go.Lib.join_nil]
 | x::r,h=>by
   rw[Go.Lib.join_cons]
   have h1:=h x (by simp)
   have h2:(Go.Lib.joinTail s r).length≤r.length * (k+s.length):=by
    unfold Go.Lib.joinTail
    have hr:∀ a∈r,a.length≤k:=fun a ha=>h a (by simp[ha])
    clear h
    induction r with
    |nil=>simp
    | cons a r ih=>
      have h3:=hr a (by simp)
      have h4:=ih fun b hb=>hr b (by simp[hb])
      simp only[List.map_cons,List.flatten_cons,List.length_append,List.length_cons,Nat.succ_mul]
      omega
   rw[List.length_append,List.length_cons,Nat.succ_mul]
   omega
theorem atomsS_len (l:List TRel) (ats:List TFact):(atomsS l ats).length≤ats.length * 5:=by
 unfold atomsS
 have:=joinL_len (s:=[32]) (k:=4) (l:=ats.map (atomS l)) fun a ha=>by
  obtain⟨b,_,rfl⟩:=List.mem_map.mp ha
  exact atomS_len l b
 simpa using this
theorem depS_len (l:List TRel) (d:TDep):(depS l d).length≤40:=by
 unfold depS
 split
 · next h=>
   obtain⟨_,h1,_,h2,_⟩:=vDep_spec h
   have a1:=atomsS_len l d.1
   have a2:=atomsS_len l d.2.1
   have t1:=termS_len d.2.2.2.1
   have t2:=termS_len d.2.2.2.2.1
   split<;>simp only[List.length_append,List.length_cons,List.length_nil]<;>omega
 · simp
theorem decI_term {t:Int} (h:inR t (-10) (-1)=true):decI (w64 (-1 - t))=[UInt8.ofNat (48+(-1 - t).toNat)]:=by
 have h:=inR_iff.mp h
 rw[w64_id (by omega) (by omega)]
 unfold decI
 rw[Go.Lib.decDigits_one (by omega)]
theorem gI_term {t:Int}:G_iFormatTerm t (termS t):=M_iFormatTerm _ _ (by
 unfold S_iFormatTerm termS
 refine⟨_,g_iwithin,bc_if (fun h=>?_) (fun h=>⟨_,g_iwithin,bc_if (fun h2=>?_) (fun h2=>?_)⟩)⟩
 · have h':=inR_iff.mp h
   rw[if_pos h,w64_id (by omega) (by omega)]
   exact⟨⟨h'.1,by omega,by show t+1≤5;omega⟩,rfl⟩
 · have h':=inR_iff.mp h2
   have e:w64 (-1 - t) = -1 - t:=w64_id (by omega) (by omega)
   rw[if_neg (by rw[h];simp),if_pos h2,←decI_term h2]
   exact⟨_,g_iFormatInt (by omega) (by omega),rfl⟩
 · rw[if_neg (by rw[h];simp),if_neg (by rw[h2];simp)])
theorem gS_term {t:Int}:G_sFormatTerm t (termS t):=M_sFormatTerm _ _ (by
 unfold S_sFormatTerm termS
 refine⟨_,g_sl1In,bc_if (fun h2=>?_) (fun h2=>⟨_,g_sl1In,bc_not (fun h=>?_) (fun h=>?_)⟩)⟩
 · have h':=inR_iff.mp h2
   have e:w64 (-1 - t) = -1 - t:=w64_id (by omega) (by omega)
   rw[if_neg (fun h=>by have:=inR_iff.mp h;omega),if_pos h2,←decI_term h2]
   exact⟨_,g_sFormatInt (by omega) (by omega),rfl⟩
 · rw[if_neg (by rw[h];simp),if_neg (by rw[h2];simp)]
 · have h':=inR_iff.mp h
   rw[if_pos h,w64_id (by omega) (by omega)]
   exact⟨⟨h'.1,by omega,by show t+1≤5;omega⟩,rfl⟩)
theorem fl_take {l:List Int} {i:Nat} (h:i<l.length):(l.take (i+1)).flatMap termS=(l.take i).flatMap termS++termS l[i]:=by
 rw[take_succ_snoc h,List.flatMap_append];simp
theorem fl_le {l:List Int} {i:Nat}:((l.take i).flatMap termS).length≤l.length:=by
 have:=terms_len (l.take i)
 rw[List.length_take]at this;omega
theorem g_iFormatAtom {l:List TRel} {a:TFact}:G_iFormatAtom l a (atomS l a):=M_iFormatAtom _ _ _ (by
 unfold S_iFormatAtom atomS
 refine⟨_,g_iIsValidAtom,bc_not (fun h=>?_) (fun h=>?_)⟩
 · rw[if_neg (by rw[h];simp)]
 · obtain⟨hr,hn,hl⟩:=vAtom_name h
   rw[if_pos h]
   refine⟨hr,lenI fun _=>loopP_of a.2.1.length (fun i=>((l.getD a.1.toNat zRel).1++(a.2.1.take i).flatMap termS,((i:Int),()))) (by simp) ?_ ?_⟩
   · intro i hi X hX
     refine bcI hi (inI hi ⟨_,gI_term,?_⟩)
     simp only
     rw[getI hi,w64_succ (by omega)]
     have h1:=termS_len a.2.1[i]
     have h2:=fl_le (l:=a.2.1) (i:=i)
     refine⟨by rw[List.length_append,maxL];omega,?_⟩
     rw[fl_take hi,←List.append_assoc]at hX
     exact hX
   · intro X
     refine bcN ?_
     simp only[List.take_length])
theorem g_sFormatAtom {l:List TRel} {a:TFact}:G_sFormatAtom l a (atomS l a):=M_sFormatAtom _ _ _ (by
 unfold S_sFormatAtom atomS
 refine⟨_,g_sIsValidAtom,bc_not (fun h=>?_) (fun h=>?_)⟩
 · rw[if_neg (by rw[h];simp)]
 · obtain⟨hr,hn,hl⟩:=vAtom_name h
   rw[if_pos h]
   refine⟨hr,loopP_of a.2.1.length (fun i=>((l.getD a.1.toNat zRel).1++(a.2.1.take i).flatMap termS,((i:Int),()))) (by simp) ?_ ?_⟩
   · intro i hi X hX
     refine lenI fun _=>bcI hi (inI hi ⟨_,gS_term,?_⟩)
     simp only
     rw[getI hi,w64_succ (by omega)]
     have h1:=termS_len a.2.1[i]
     have h2:=fl_le (l:=a.2.1) (i:=i)
     refine⟨by rw[List.length_append,maxL];omega,?_⟩
     rw[fl_take hi,←List.append_assoc]at hX
     exact hX
   · intro X
     refine lenI fun _=>bcN ?_
     simp only[List.take_length])
theorem g_iformatAtoms {l:List TRel} {ats:List TFact} (h:ats.length≤1000):G_iformatAtoms l ats (atomsS l ats):=M_iformatAtoms _ _ _ (by
 unfold S_iformatAtoms
 refine lenI fun _=>loopP_of ats.length (fun i=>((i:Int),((ats.take i).map (atomS l),()))) (by simp) ?_ ?_
 · intro i hi X hX
   refine bcI hi (inI hi ⟨_,g_iFormatAtom,?_⟩)
   simp only
   rw[getI hi,w64_succ (by omega)]
   refine⟨by rw[List.length_map,List.length_take,maxL];simp only[List.length_cons,List.length_nil];omega,?_⟩
   rw[take_succ_snoc hi,List.map_append]at hX
   exact hX
 · intro X
   refine bcN ⟨_,?_,rfl⟩
   simp only[List.take_length]
   have:=atomsS_len l ats
   exact prim_join (by rw[List.length_map];omega) (by show(atomsS l ats).length≤_;omega))
theorem join_snoc' {x:List UInt8} {r:List (List UInt8)} {a s:List UInt8}:Go.Lib.join ((x::r)++[a]) s=Go.Lib.join (x::r) s++s++a:=by
 rw[List.cons_append,Go.Lib.join_cons,Go.Lib.join_cons]
 unfold Go.Lib.joinTail
 simp[List.append_assoc]
theorem atomsS_snoc {l:List TRel} {ats:List TFact} {a:TFact} (h:ats≠[]):atomsS l (ats++[a])=(atomsS l ats++[32])++atomS l a:=by
 obtain⟨b,bs,rfl⟩:=List.exists_cons_of_ne_nil h
 unfold atomsS
 rw[List.map_append,List.map_cons]
 exact join_snoc'
theorem g_sl10Atoms {l:List TRel} {ats:List TFact} (h:ats.length≤1000):G_sl10Atoms l ats (atomsS l ats):=M_sl10Atoms _ _ _ (by
 unfold S_sl10Atoms
 refine loopP_of ats.length (fun i=>(atomsS l (ats.take i),((i:Int),()))) (by simp[atomsS,Go.Lib.join_nil]) ?_ ?_
 · intro i hi X hX
   have hl:=atomsS_len l (ats.take i)
   rw[List.length_take]at hl
   have ha:=atomS_len l ats[i]
   rw[take_succ_snoc hi]at hX
   refine lenI fun _=>bcI hi (bc_dec (fun hp=>?_) (fun hz=>?_))
   · have hne:ats.take i≠[]:=by
      intro he
      have:=congrArg List.length he
      rw[List.length_take,List.length_nil]at this
      have hp:(0:Int)<(i:Int):=hp
      omega
     rw[atomsS_snoc hne]at hX
     refine⟨by simp only[maxL,List.length_cons,List.length_nil];omega,inI hi ⟨_,g_sFormatAtom,?_⟩⟩
     simp only
     rw[getI hi,w64_succ (by omega)]
     exact⟨by simp only[maxL,List.length_append,List.length_cons,List.length_nil];omega,hX⟩
   · have h0:i=0:=by
      have hz:¬ (0:Int)<(i:Int):=hz
      omega
     subst h0
     refine inI hi ⟨_,g_sFormatAtom,?_⟩
     simp only
     rw[getI hi,w64_succ (by omega)]
     refine⟨by simp only[maxL];omega,?_⟩
     have e:atomsS l (ats.take 0++[ats[0]])=atomsS l (ats.take 0)++atomS l ats[0]:=by
      rw[List.take_zero]
      unfold atomsS
      simp[Go.Lib.join_nil,Go.Lib.join_cons,Go.Lib.joinTail]
     rw[e]at hX
     exact hX
 · intro X
   refine lenI fun _=>bcN ?_
   simp only[List.take_length])
theorem g_iFormatDependency {l:List TRel} {d:TDep}:G_iFormatDependency l d (depS l d):=M_iFormatDependency _ _ _ (by
 unfold S_iFormatDependency
 refine⟨_,g_iIsValidDependency,bc_not (fun h=>?_) (fun h=>?_)⟩
 · unfold depS;rw[if_neg (by rw[h];simp)]
 · obtain⟨_,h1,_,h2,_⟩:=vDep_spec h
   have a1:=atomsS_len l d.1
   have a2:=atomsS_len l d.2.1
   have t1:=termS_len d.2.2.2.1
   have t2:=termS_len d.2.2.2.2.1
   unfold depS
   rw[if_pos h]
   refine bc_if (fun he=>?_) (fun he=>?_)
   · rw[if_pos he]
     exact⟨_,g_iformatAtoms (by omega),by simp only[maxL,List.length_cons,List.length_nil];omega,_,gI_term,by simp only[maxL,List.length_append,List.length_cons,List.length_nil];omega,_,gI_term,by simp only[maxL,List.length_append,List.length_cons,List.length_nil];omega,rfl⟩
   · rw[if_neg (by rw[he];simp)]
     exact⟨_,g_iformatAtoms (by omega),by simp only[maxL,List.length_cons,List.length_nil];omega,_,g_iformatAtoms (by omega),by simp only[maxL,List.length_append,List.length_cons,List.length_nil];omega,rfl⟩)
theorem g_sFormatDependency {l:List TRel} {d:TDep}:G_sFormatDependency l d (depS l d):=M_sFormatDependency _ _ _ (by
 unfold S_sFormatDependency
 refine⟨_,g_sIsValidDependency,bc_not (fun h=>?_) (fun h=>?_)⟩
 · unfold depS;rw[if_neg (by rw[h];simp)]
 · obtain⟨_,h1,_,h2,_⟩:=vDep_spec h
   have a1:=atomsS_len l d.1
   have a2:=atomsS_len l d.2.1
   have t1:=termS_len d.2.2.2.1
   have t2:=termS_len d.2.2.2.2.1
   unfold depS
   rw[if_pos h]
   refine bc_if (fun he=>?_) (fun he=>?_)
   · rw[if_pos he]
     exact⟨_,g_sl10Atoms (by omega),by simp only[maxL,List.length_cons,List.length_nil];omega,_,gS_term,by simp only[maxL,List.length_append,List.length_cons,List.length_nil];omega,_,gS_term,by simp only[maxL,List.length_append,List.length_cons,List.length_nil];omega,rfl⟩
   · rw[if_neg (by rw[he];simp)]
     exact⟨_,g_sl10Atoms (by omega),by simp only[maxL,List.length_cons,List.length_nil];omega,_,g_sl10Atoms (by omega),by simp only[maxL,List.length_append,List.length_cons,List.length_nil];omega,rfl⟩)
def stepC (c:UInt8) (st:List (List UInt8)×List UInt8) (b:UInt8):List (List UInt8)×List UInt8:=if b=c then(st.1++[st.2],[])else(st.1,st.2++[b])
def scanC (c:UInt8) (s:List UInt8):List (List UInt8)×List UInt8:=s.foldl (stepC c) ([],[])
def cutF (c:UInt8) (s:List UInt8):List (List UInt8):=(scanC c s).1++[(scanC c s).2]
theorem scanC_snoc (c:UInt8) (s:List UInt8) (b:UInt8):scanC c (s++[b])=stepC c (scanC c s) b:=by unfold scanC;rw[List.foldl_append];rfl
theorem scan_len (c:UInt8):∀(s:List UInt8) (st:List (List UInt8)×List UInt8),(s.foldl (stepC c) st).1.length≤st.1.length+s.length
 |[],st=>by simp
 | b::s,st=>by
   rw[List.foldl_cons]
   have:=scan_len c s (stepC c st b)
   have h:(stepC c st b).1.length≤st.1.length+1:=by unfold stepC;split<;>simp
   rw[List.length_cons];omega
theorem scan_in (c:UInt8) (n:Nat):∀(s:List UInt8) (st:List (List UInt8)×List UInt8),(∀ w∈st.1,w.length≤n)→st.2.length+s.length≤n→(∀ w∈(s.foldl (stepC c) st).1,w.length≤n)∧(s.foldl (stepC c) st).2.length≤n
 |[],st,h1,h2=>⟨h1,by simpa using h2⟩
 | b::s,st,h1,h2=>by
   rw[List.foldl_cons]
   rw[List.length_cons]at h2
   refine scan_in c n s _ ?_ ?_
   · unfold stepC
     split
     · intro w hw
       rcases List.mem_append.mp hw with hw|hw
       · exact h1 w hw
       · rw[List.mem_singleton.mp hw];omega
     · exact h1
   · unfold stepC
     split
     · simp;omega
     · simp;omega
theorem cutF_small (c:UInt8) (s:List UInt8):(cutF c s).length≤s.length+1∧∀ w∈cutF c s,w.length≤s.length:=by
 have h1:=scan_len c s ([],[])
 have h2:=scan_in c s.length s ([],[]) (by simp) (by simp)
 unfold cutF scanC
 refine⟨by rw[List.length_append];simp at h1 ⊢;exact h1,fun w hw=>?_⟩
 rcases List.mem_append.mp hw with hw|hw
 · exact h2.1 w hw
 · rw[List.mem_singleton.mp hw];exact h2.2
theorem scan_suffix (c:UInt8) {s:List UInt8}:∀ {i:Nat},i≤s.length→(scanC c (s.take i)).2.length≤i∧(s.take i).drop (i - (scanC c (s.take i)).2.length)=(scanC c (s.take i)).2:=by
 intro i
 induction i with
 |zero=>intro _;simp[scanC]
 | succ i ih=>
   intro h
   obtain⟨h1,h2⟩:=ih (by omega)
   rw[take_succ_snoc (by omega),scanC_snoc]
   unfold stepC
   split
   · simp
   · refine⟨by simp;omega,?_⟩
     simp only[List.length_append,List.length_cons,List.length_nil]
     rw[show i+1 - ((scanC c (s.take i)).2.length+(0+1))=i - (scanC c (s.take i)).2.length by omega,List.drop_append_of_le_length (by rw[List.length_take];omega),h2]
theorem scan_free {c:UInt8}:∀ {b:List UInt8},c∉b→∀ st:List (List UInt8)×List UInt8,b.foldl (stepC c) st=(st.1,st.2++b)
 |[],_,st=>by simp
 | x::b,h,st=>by
   have hx:x≠c:=fun e=>h (by simp[e])
   rw[List.foldl_cons,scan_free (fun hb=>h (by simp[hb]))]
   unfold stepC
   rw[if_neg hx]
   simp
theorem cutF_none {c:UInt8} {s:List UInt8} (h:c∉s):cutF c s=[s]:=by
 unfold cutF scanC;rw[scan_free h];simp
theorem cutF_one {c:UInt8} {a b:List UInt8} (h1:c∉a) (h2:c∉b):cutF c (a++c::b)=[a,b]:=by
 unfold cutF scanC
 rw[List.foldl_append,List.foldl_cons,scan_free h1,scan_free h2]
 unfold stepC
 simp
open Go.Lib in
theorem ix_none {c:UInt8}:∀ {s:List UInt8},c∉s→indexByte s c = -1
 |[],_=>rfl
 | x::s,h=>by
   have hx:(x == c)=false:=beq_eq_false_iff_ne.mpr fun e=>h (by simp[e])
   unfold indexByte
   rw[hx,ix_none (fun hs=>h (by simp[hs]))]
   rfl
open Go.Lib in
theorem ix_one {c:UInt8} {b:List UInt8}:∀ {a:List UInt8},c∉a→indexByte (a++c::b) c=(a.length:Int)
 |[],_=>by unfold indexByte;simp
 | x::a,h=>by
   have hx:(x == c)=false:=beq_eq_false_iff_ne.mpr fun e=>h (by simp[e])
   rw[List.cons_append]
   unfold indexByte
   rw[hx,ix_one (fun hs=>h (by simp[hs]))]
   have:((a.length:Int) == -1)=false:=beq_eq_false_iff_ne.mpr (by omega)
   rw[this]
   simp
open Go.Lib in
theorem split_none {c:UInt8} {s:List UInt8} (h:c∉s):split s [c]=[s]:=by
 unfold split
 rw[count_one,List.count_eq_zero_of_not_mem h]
 rfl
open Go.Lib in
theorem split_once {c:UInt8} {a b:List UInt8} (h1:c∉a) (h2:c∉b):split (a++c::b) [c]=[a,b]:=by
 unfold split
 rw[count_one,List.count_append,List.count_cons_self,List.count_eq_zero_of_not_mem h1,List.count_eq_zero_of_not_mem h2]
 show splitK [c] 0 1 _=_
 unfold splitK
 rw[index_one,ix_one h1]
 have:((a.length:Int) == -1)=false:=beq_eq_false_iff_ne.mpr (by omega)
 rw[this]
 simp only[Bool.false_eq_true,if_false,Int.toNat_natCast,Nat.add_zero,List.length_cons,List.length_nil]
 rw[List.take_left]
 show[a,(a++c::b).drop (a.length+1)]=_
 rw[List.drop_append]
 simp
open Go.Lib in
theorem split_small (c:UInt8) (s:List UInt8):(split s [c]).length≤s.length+1∧∀ w∈split s [c],w.length≤s.length:=by
 refine⟨?_,fun w hw=>splitK_len _ _ (Nat.le_refl _) w hw⟩
 have h:∀(k:Nat) (s:List UInt8),(splitK [c] 0 k s).length≤k+1:=by
  intro k
  induction k with
  |zero=>intro s;exact Nat.le_refl _
  | succ k ih=>
    intro s
    unfold splitK
    split
    · simp
    · have:=ih (s.drop ((index s [c]).toNat+[c].length))
      rw[List.length_cons];omega
 unfold split
 have:=h (count s [c]) s
 rw[count_one]at this ⊢
 have:=List.count_le_length (a:=c) (l:=s)
 omega
open Go.Lib in
theorem cut_none {c:UInt8} {s:List UInt8} (h:c∉s):cut s [c]=(s,[],false):=by
 unfold cut
 rw[index_one,ix_none h]
 rfl
open Go.Lib in
theorem cut_once {c:UInt8} {a b:List UInt8} (h1:c∉a):cut (a++c::b) [c]=(a,b,true):=by
 unfold cut
 rw[index_one,ix_one h1,if_pos (by omega)]
 simp only[Int.toNat_natCast,List.length_cons,List.length_nil]
 rw[List.take_left,List.drop_append]
 simp
theorem u8_eq (a c:UInt8):(((a.toNat:Nat):Int) == ((c.toNat:Nat):Int))=decide (a=c):=by
 by_cases h:a=c
 · simp[h]
 · have:a.toNat≠c.toNat:=fun e=>h (UInt8.toNat_inj.mp e)
   simp[h];omega
theorem g_sl3Cut {s:List UInt8} {c:UInt8} (h:s.length≤1000000):G_sl3Cut s (c.toNat:Int) (cutF c s):=M_sl3Cut _ _ _ (by
 unfold S_sl3Cut
 have hst:∀ i,(scanC c (s.take i)).1.length≤s.length:=fun i=>by
  have:=scan_len c (s.take i) ([],[])
  rw[List.length_take]at this
  show((s.take i).foldl (stepC c) ([],[])).1.length≤_
  simp at this;omega
 refine loopP_of s.length (fun i=>(((i - (scanC c (s.take i)).2.length:Nat):Int),((i:Int),((scanC c (s.take i)).1,())))) (by simp[scanC]) ?_ ?_
 · intro i hi X hX
   obtain⟨h1,h2⟩:=scan_suffix c (s:=s) (i:=i) (by omega)
   refine lenI fun _=>bcI hi (inI hi ?_)
   simp only
   have hl:=hst i
   rw[getI hi,w64_succ (by omega),u8_eq]
   rw[take_succ_snoc hi,scanC_snoc]at hX
   unfold stepC at hX
   refine bc_dec (fun he=>?_) (fun he=>?_)
   · rw[if_pos he]at hX
     refine⟨⟨by omega,by omega,by omega⟩,by simp only[maxL,List.length_cons,List.length_nil];omega,?_⟩
     rw[Int.toNat_natCast,Int.toNat_natCast,h2]
     simpa using hX
   · rw[if_neg he]at hX
     simp only[List.length_append,List.length_cons,List.length_nil]at hX
     rw[show i+1 - ((scanC c (s.take i)).2.length+(0+1))=i - (scanC c (s.take i)).2.length by omega]at hX
     exact hX
 · intro X
   obtain⟨h1,h2⟩:=scan_suffix c (s:=s) (i:=s.length) (by omega)
   have hl:=hst s.length
   refine lenI fun _=>bcN ⟨⟨by omega,by omega,by omega⟩,by simp only[maxL,List.length_cons,List.length_nil];omega,?_⟩
   simp only
   rw[Int.toNat_natCast,Int.toNat_natCast,h2,List.take_length]
   rfl)
def relIx (l:List TRel) (s:List UInt8):Int:=if firstAt (fun r=>r.1 == s) l<l.length then(firstAt (fun r=>r.1 == s) l:Int)else -1
theorem g_iRelationIndex {l:List TRel} {s:List UInt8}:G_iRelationIndex l s (relIx l s):=M_iRelationIndex _ _ _ (by
 unfold S_iRelationIndex
 exact⟨_,g_slices_IndexFunc_Relation_c_iRelationIndex_1 (fun r=>r.1 == s) (fun t _=>M_iRelationIndex_1 _ _ _ rfl),rfl⟩)
theorem g_sRelationIndex {l:List TRel} {s:List UInt8}:G_sRelationIndex l s (relIx l s):=M_sRelationIndex _ _ _ (by
 unfold S_sRelationIndex
 refine loop_first l (fun r=>r.1 == s) (fun i=>((i:Int),())) (KT:=fun i=>(((i:Int),()):Int×Unit)=(relIx l s,())) (KF:=(((-1:Int),()):Int×Unit)=(relIx l s,())) ?_ ?_ ?_ ?_
 · intro i hi X h1 h2
   refine lenI fun _=>bcI hi (inI hi ?_)
   simp only
   rw[getI hi,w64_succ (by omega)]
   exact bc_if h1 h2
 · intro X h
   exact lenI fun _=>bcN h
 · intro h
   unfold relIx
   rw[if_pos h]
 · intro h
   unfold relIx
   rw[if_neg (by omega)])
def pTerm (c:UInt8):Int:=if 48≤c.toNat∧c.toNat≤57 then -1 - ((c.toNat:Int) - 48)else if 0≤Go.Lib.indexByte letters c then Go.Lib.indexByte letters c else 5
def tRow:List Int:=[-10,-9,-8,-7,-6,-5,-4,-3,-2,-1,0,1,2,3,4]
def tmS (w:List UInt8):Int:=(firstAt (fun t=>termS t == w) tRow:Int) - 10
theorem pd:∀ i:Fin 10,w64 ((-1:Int) - w64 (IntKind.u8.wrap (((48+i.val:Nat):Int) - 48))) = -1 - (((48+i.val:Nat):Int) - 48):=by decide
theorem g_iparseTerm {c:UInt8}:G_iparseTerm (c.toNat:Int) (pTerm c):=M_iparseTerm _ _ (by
 unfold S_iparseTerm pTerm
 have e:(((c.toNat:Nat):Int).toNat).toUInt8=c:=by rw[Int.toNat_natCast];exact UInt8.ofNat_toNat
 have hI:G_strings_IndexByte letters (c.toNat:Int) (Go.Lib.indexByte letters c):=by
  have:=prim_indexByte (s:=letters) (c:=(c.toNat:Int))
  rwa [e]at this
 have hT:∀ {X:Prop},(¬ (48≤c.toNat∧c.toNat≤57)→X)→¬ (48≤c.toNat∧c.toNat≤57)→X:=fun h=>h
 have tail:¬ (48≤c.toNat∧c.toNat≤57)→∃ y1:Int,G_strings_IndexByte ([120,121,122,117,118]:List UInt8) (c.toNat:Int) y1∧(bcase (decide (y1≥(0:Int))) (((y1,()):Int×Unit)=(if 48≤c.toNat∧c.toNat≤57 then -1 - ((c.toNat:Int) - 48)else if 0≤Go.Lib.indexByte letters c then Go.Lib.indexByte letters c else 5,())) ((((5:Int),()):Int×Unit)=(if 48≤c.toNat∧c.toNat≤57 then -1 - ((c.toNat:Int) - 48)else if 0≤Go.Lib.indexByte letters c then Go.Lib.indexByte letters c else 5,()))):=fun hn=>by
  refine⟨_,hI,bc_dec (fun h=>?_) (fun h=>?_)⟩
  · rw[if_neg hn,if_pos h]
  · rw[if_neg hn,if_neg h]
 refine bc_dec (fun h1=>bc_dec (fun h2=>?_) (fun h2=>tail (by omega))) (fun h1=>tail (by omega))
 rw[if_pos ⟨by omega,by omega⟩]
 obtain⟨k,hk⟩:∃ k,c.toNat=48+k:=⟨c.toNat - 48,by omega⟩
 rw[hk,pd ⟨k,by omega⟩])
theorem tRow_at:∀ i:Fin 15,tRow[i.val]'(show i.val<15 from i.isLt)=(i.val:Int) - 10:=by decide
theorem g_sl10Term {w:List UInt8}:G_sl10Term w (tmS w):=M_sl10Term _ _ (by
 unfold S_sl10Term
 refine loop_first tRow (fun t=>termS t == w) (fun i=>((i:Int) - 10,())) (KT:=fun i=>(((i:Int) - 10,()):Int×Unit)=(tmS w,())) (KF:=(((5:Int),()):Int×Unit)=(tmS w,())) ?_ ?_ ?_ ?_
 · intro i hi X h1 h2
   have hi':i<15:=hi
   refine bc_dec (fun h=>?_) (fun h=>by simp only at h;omega)
   have e:tRow[i]=(i:Int) - 10:=tRow_at ⟨i,hi'⟩
   have h1:(termS ((i:Int) - 10) == w)=true→(((i:Int) - 10,()):Int×Unit)=(tmS w,()):=fun hh=>h1 ((congrArg (fun t=>termS t == w) e).trans hh)
   have h2:(termS ((i:Int) - 10) == w)=false→X (((i+1:Nat):Int) - 10,()):=fun hh=>h2 ((congrArg (fun t=>termS t == w) e).trans hh)
   refine⟨_,gS_term,bc_if h1 fun h=>?_⟩
   simp only
   rw[w64_id (by omega) (by omega),show(i:Int) - 10+1=((i+1:Nat):Int) - 10 by omega]
   exact h2 h
 · intro X h
   exact bc_dec (fun h'=>by simp[tRow]at h') (fun _=>h)
 · intro h;rfl
 · intro h
   unfold tmS
   rw[h];rfl)
def pAtomI (l:List TRel) (w:List UInt8):TFact:=(relIx l ((if w=[] then[32] else w).take 1),((((if w=[] then[32] else w).drop 1).map pTerm),()))
def pAtomsI (l:List TRel) (s:List UInt8):List TFact:=(Go.Lib.split s [32]).map (pAtomI l)
def pAtomS (l:List TRel) (w:List UInt8):TFact:=if w=[] then(-1,([],()))else(relIx l (w.take 1),((w.drop 1).map (fun c=>tmS [c]),()))
def pAtomsS (l:List TRel) (s:List UInt8):List TFact:=(cutF 32 s).map (pAtomS l)
theorem parse_loop {w:List UInt8} {r:Int} {KK:TFact→Prop} (hw:w≠[]) (hl:w.length≤100000) (h:KK (r,((w.drop 1).map pTerm,()))) :
  LoopP (fun(again:Int×TFact×Unit→Prop) (a:Int×TFact×Unit)=>lenA (List.length w:Int) (bcase (decide (a.1<(List.length w:Int))) ((0≤a.1∧a.1<(List.length w:Int))∧(∃ y:Int,G_iparseTerm ((List.getD w (Int.toNat a.1) 0).toNat) y∧(a.2.1.2.1.length+([y]:List Int).length≤maxL∧(again (w64 (a.1+(1:Int)),((a.2.1.1,(a.2.1.2.1++([y]:List Int),a.2.1.2.2)),())))))) (KK (a.2.1.1,(a.2.1.2.1,a.2.1.2.2))))) ((1:Int),((r,(([]:List Int),())),())):=by
 have hw0:0<w.length:=List.length_pos_iff.mpr hw
 have hd:(w.drop 1).length=w.length - 1:=List.length_drop
 refine loopP_of (w.length - 1) (fun i=>(((i+1:Nat):Int),((r,(((w.drop 1).take i).map pTerm,())),()))) (by simp) ?_ ?_
 · intro i hi X hX
   have hi1:i+1<w.length:=by omega
   refine lenI fun _=>bcI hi1 (inI hi1 ?_)
   simp only
   rw[getI hi1,w64_succ (by omega)]
   refine⟨_,g_iparseTerm,by rw[List.length_map,List.length_take,maxL];simp only[List.length_cons,List.length_nil];omega,?_⟩
   rw[take_succ_snoc (by omega),List.map_append]at hX
   have e:(w.drop 1)[i]'(by omega)=w[i+1]:=by rw[List.getElem_drop];congr 1;omega
   rw[e]at hX
   exact hX
 · intro X
   refine lenI fun _=>?_
   simp only
   rw[show w.length - 1+1=w.length by omega,show(w.drop 1).take (w.length - 1)=w.drop 1 by rw[←hd];exact List.take_length]
   exact bcN h
theorem g_iparseAtoms {l:List TRel} {s:List UInt8} (h:s.length≤100000):G_iparseAtoms l s (pAtomsI l s):=M_iparseAtoms _ _ _ (by
 unfold S_iparseAtoms
 obtain⟨n1,n2⟩:=split_small 32 s
 refine⟨_,prim_split (by omega),lenI fun _=>loopP_of (Go.Lib.split s [32]).length (fun i=>((i:Int),(((Go.Lib.split s [32]).take i).map (pAtomI l),()))) (by simp) ?_ ?_⟩
 · intro i hi X hX
   have hle:=n2 _ (List.getElem_mem hi)
   refine bcI hi (inI hi ?_)
   simp only
   rw[getI hi,w64_succ (by omega)]
   generalize hw:(Go.Lib.split s [32])[i]=w at hle
   rw[take_succ_snoc hi,List.map_append,hw]at hX
   have hb:(((Go.Lib.split s [32]).take i).map (pAtomI l)).length+1≤maxL:=by rw[List.length_map,List.length_take,maxL];omega
   refine bc_beq (fun he=>?_) (fun hne=>?_)
   · refine⟨⟨by omega,by omega,by simp⟩,_,g_iRelationIndex,parse_loop (KK:=fun t=>(((Go.Lib.split s [32]).take i).map (pAtomI l)).length+([t]:List TFact).length≤maxL∧X (((i+1:Nat):Int),(((Go.Lib.split s [32]).take i).map (pAtomI l)++([t]:List TFact),()))) (w:=[32]) (by simp) (by simp) ⟨hb,?_⟩⟩
     have e:pAtomI l w=(relIx l [32],((([32]:List UInt8).drop 1).map pTerm,())):=by unfold pAtomI;rw[if_pos he];rfl
     rw[List.map_singleton,e]at hX
     exact hX
   · have hw0:0<w.length:=List.length_pos_iff.mpr hne
     refine⟨⟨by omega,by omega,by omega⟩,_,g_iRelationIndex,parse_loop (KK:=fun t=>(((Go.Lib.split s [32]).take i).map (pAtomI l)).length+([t]:List TFact).length≤maxL∧X (((i+1:Nat):Int),(((Go.Lib.split s [32]).take i).map (pAtomI l)++([t]:List TFact),()))) hne (by omega) ⟨hb,?_⟩⟩
     have e:pAtomI l w=(relIx l (w.take 1),((w.drop 1).map pTerm,())):=by unfold pAtomI;rw[if_neg hne]
     rw[List.map_singleton,e]at hX
     exact hX
 · intro X
   refine bcN ?_
   simp only[List.take_length]
   rfl)
theorem g_sl10Read {l:List TRel} {s:List UInt8} (h:s.length≤100000):G_sl10Read l s (pAtomsS l s):=M_sl10Read _ _ _ (by
 unfold S_sl10Read
 obtain⟨n1,n2⟩:=cutF_small 32 s
 refine⟨_,g_sl3Cut (c:=32) (by omega),loopP_of (cutF 32 s).length (fun i=>((i:Int),(((cutF 32 s).take i).map (pAtomS l),()))) (by simp) ?_ ?_⟩
 · intro i hi X hX
   have hle:=n2 _ (List.getElem_mem hi)
   refine lenI fun _=>bcI hi ?_
   simp only
   rw[getI hi,w64_succ (by omega)]
   generalize hw:(cutF 32 s)[i]=w at hle
   rw[take_succ_snoc hi,List.map_append,hw]at hX
   have hb:(((cutF 32 s).take i).map (pAtomS l)).length+1≤maxL:=by rw[List.length_map,List.length_take,maxL];omega
   refine loopP_of w.length (fun j=>((j:Int),((if j=0 then((-1:Int),(([]:List Int),()))else(relIx l (w.take 1),(((w.drop 1).take (j - 1)).map (fun c=>tmS [c]),()))),()))) (by simp) ?_ ?_
   · intro j hj Y hY
     refine inI hi (lenI fun _=>bcI hj ?_)
     simp only
     rw[w64_succ (by omega)]
     refine bc_beq (fun hz=>?_) (fun hnz=>?_)
     · have hz:j=0:=by omega
       subst hz
       refine inI hi ⟨⟨by omega,by omega,by omega⟩,_,g_sRelationIndex,?_⟩
       exact hY
     · have hj0:j≠0:=by omega
       refine inI hi ⟨⟨by omega,by omega,by omega⟩,_,g_sl10Term,?_⟩
       rw[if_neg hj0]
       rw[if_neg (by omega)]at hY
       obtain⟨k,rfl⟩:∃ k,j=k+1:=⟨j - 1,by omega⟩
       rw[show k+1+1 - 1=k+1 by omega]at hY
       have hk:k<(w.drop 1).length:=by rw[List.length_drop];omega
       rw[take_succ_snoc hk,List.map_append]at hY
       have e:((w.take ((k+1+1:Nat):Int).toNat).drop ((k+1:Nat):Int).toNat)=[(w.drop 1)[k]]:=by
        rw[Int.toNat_natCast,Int.toNat_natCast,take_succ_snoc hj,List.drop_append_of_le_length (by rw[List.length_take];omega),List.drop_of_length_le (by rw[List.length_take];omega)]
        rw[List.getElem_drop]
        simp[Nat.add_comm]
       simp only[show k+1 - 1=k by omega]
       rw[e]
       refine⟨by rw[List.length_map,List.length_take,maxL];simp only[List.length_cons,List.length_nil];omega,?_⟩
       exact hY
   · intro Y
     refine inI hi (lenI fun _=>bcN ⟨hb,?_⟩)
     simp only
     have e:pAtomS l w=(if w.length=0 then((-1:Int),(([]:List Int),()))else(relIx l (w.take 1),(((w.drop 1).take (w.length - 1)).map (fun c=>tmS [c]),()))):=by
      unfold pAtomS
      by_cases hz:w=[]
      · rw[if_pos hz,if_pos (by rw[hz];rfl)]
      · have:=List.length_pos_iff.mpr hz
        rw[if_neg hz,if_neg (by omega),show(w.drop 1).take (w.length - 1)=w.drop 1 by rw[←List.length_drop];exact List.take_length]
     rw[List.map_singleton,e]at hX
     exact hX
 · intro X
   refine lenI fun _=>bcN ?_
   simp only[List.take_length]
   rfl)
def rawI (l:List TRel) (s:List UInt8):TDep:=
 if (Go.Lib.cut s [62]).2.2 then(pAtomsI l (Go.Lib.cut s [62]).1,(pAtomsI l (Go.Lib.cut s [62]).2.1,(false,(0,(0,())))))
 else if (Go.Lib.cut s [61]).2.2∧(Go.Lib.cut s [61]).2.1.length=2 then(pAtomsI l (Go.Lib.cut s [61]).1,([],(true,(pTerm ((Go.Lib.cut s [61]).2.1.getD 0 0),(pTerm ((Go.Lib.cut s [61]).2.1.getD 1 0),())))))
 else zDep
def rawS (l:List TRel) (s:List UInt8):TDep:=
 if (cutF 61 s).length=2∧((cutF 61 s).getD 1 []).length=2 then(pAtomsS l ((cutF 61 s).getD 0 []),([],(true,(tmS (((cutF 61 s).getD 1 []).take 1),(tmS (((cutF 61 s).getD 1 []).drop 1),())))))
 else if (cutF 62 s).length=2 then(pAtomsS l ((cutF 62 s).getD 0 []),(pAtomsS l ((cutF 62 s).getD 1 []),(false,(0,(0,())))))
 else zDep
def accD (l:List TRel) (s:List UInt8) (d:TDep):TDep×Bool:=if s≠[]∧depS l d=s then(d,true)else(zDep,false)
theorem acc_no1 {l:List TRel} {s:List UInt8} {d:TDep} (h:s=[]):accD l s d=(zDep,false):=if_neg fun h'=>h'.1 h
theorem acc_no2 {l:List TRel} {s:List UInt8} {d:TDep} (h:depS l d≠s):accD l s d=(zDep,false):=if_neg fun h'=>h h'.2
theorem acc_yes {l:List TRel} {s:List UInt8} {d:TDep} (h:s≠[]) (h2:depS l d=s):accD l s d=(d,true):=if_pos ⟨h,h2⟩
theorem cutL (s:List UInt8) (c:UInt8):(Go.Lib.cut s [c]).1.length≤s.length∧(Go.Lib.cut s [c]).2.1.length≤s.length:=cut_len s c
theorem g_iParseDependency {l:List TRel} {s:List UInt8} (h:s.length≤100000):G_iParseDependency l s (accD l s (rawI l s)).1 (accD l s (rawI l s)).2:=M_iParseDependency _ _ _ _ (by
 unfold S_iParseDependency
 have tail:∀ {d:TDep},rawI l s=d→bcase (s == ([]:List UInt8)) (((([]:List TFact),(([]:List TFact),(false,((0:Int),((0:Int),()))))),(false,()))=((accD l s (rawI l s)).1,((accD l s (rawI l s)).2,())))
   (∃ y6:List UInt8,G_iFormatDependency l d y6∧(bcase (!(y6 == s)) (((([]:List TFact),(([]:List TFact),(false,((0:Int),((0:Int),()))))),(false,()))=((accD l s (rawI l s)).1,((accD l s (rawI l s)).2,()))) ((d,(true,()))=((accD l s (rawI l s)).1,((accD l s (rawI l s)).2,()))))):=by
  rintro d rfl
  refine bc_beq (fun he=>?_) (fun hne=>⟨_,g_iFormatDependency,bc_nb (fun h2=>?_) (fun h2=>?_)⟩)
  · rw[acc_no1 he]
  · rw[acc_no2 h2]
  · rw[acc_yes hne h2]
 obtain⟨a1,a2⟩:=cutL s 62
 obtain⟨b1,b2⟩:=cutL s 61
 refine⟨_,_,_,prim_cut (by omega),bc_if (fun h1=>?_) (fun h1=>⟨_,_,_,prim_cut (by omega),bc_if (fun h2=>lenI fun _=>bc_beq (fun h3=>?_) (fun h3=>?_)) (fun h2=>?_)⟩)⟩
 · exact⟨_,g_iparseAtoms (by omega),_,g_iparseAtoms (by omega),tail (by unfold rawI;rw[if_pos h1])⟩
 · have h3:(Go.Lib.cut s [61]).2.1.length=2:=by omega
   exact⟨⟨by omega,by omega⟩,⟨by omega,by omega⟩,_,g_iparseAtoms (by omega),_,g_iparseTerm,_,g_iparseTerm,tail (by unfold rawI;rw[if_neg (by rw[h1];simp),if_pos ⟨h2,h3⟩];rfl)⟩
 · exact tail (by unfold rawI;rw[if_neg (by rw[h1];simp),if_neg (fun hh=>h3 (by omega))])
 · exact tail (by unfold rawI;rw[if_neg (by rw[h1];simp),if_neg (fun hh=>by rw[h2]at hh;simp at hh)]))
theorem g_sParseDependency {l:List TRel} {s:List UInt8} (h:s.length≤100000):G_sParseDependency l s (accD l s (rawS l s)).1 (accD l s (rawS l s)).2:=M_sParseDependency _ _ _ _ (by
 unfold S_sParseDependency
 have tail:∀ {d:TDep},rawS l s=d→(∃ y6:List UInt8,G_sFormatDependency l d y6∧(bcase (!(y6 == s)) (((([]:List TFact),(([]:List TFact),(false,((0:Int),((0:Int),()))))),(false,()))=((accD l s (rawS l s)).1,((accD l s (rawS l s)).2,())))
   (bcase (s == ([]:List UInt8)) (((([]:List TFact),(([]:List TFact),(false,((0:Int),((0:Int),()))))),(false,()))=((accD l s (rawS l s)).1,((accD l s (rawS l s)).2,()))) ((d,(true,()))=((accD l s (rawS l s)).1,((accD l s (rawS l s)).2,())))))):=by
  rintro d rfl
  refine⟨_,g_sFormatDependency,bc_nb (fun h2=>?_) (fun h2=>bc_beq (fun he=>?_) (fun hne=>?_))⟩
  · rw[acc_no2 h2]
  · rw[acc_no1 he]
  · rw[acc_yes hne h2]
 obtain⟨a1,a2⟩:=cutF_small 62 s
 obtain⟨b1,b2⟩:=cutF_small 61 s
 have at0:∀ {L:List (List UInt8)} (hl:L.length=2),L.getD 0 []∈L∧L.getD 1 []∈L:=fun {L} hl=>by
  match L,hl with
  |[x,y],_=>simp
 have tgd:(¬ ((cutF 61 s).length=2∧((cutF 61 s).getD 1 []).length=2))→lenA (List.length (cutF 62 s):Int) (bcase ((List.length (cutF 62 s):Int) == (2:Int)) ((0≤(0:Int)∧(0:Int)<(List.length (cutF 62 s):Int))∧((0≤(1:Int)∧(1:Int)<(List.length (cutF 62 s):Int))∧(∃ y7:List TFact,G_sl10Read l ((cutF 62 s).getD (Int.toNat (0:Int)) ([]:List UInt8)) y7∧(∃ y8:List TFact,G_sl10Read l ((cutF 62 s).getD (Int.toNat (1:Int)) ([]:List UInt8)) y8∧(∃ y9:List UInt8,G_sFormatDependency l (y7,(y8,(false,((0:Int),((0:Int),()))))) y9∧(bcase (!(y9 == s)) (((([]:List TFact),(([]:List TFact),(false,((0:Int),((0:Int),()))))),(false,()))=((accD l s (rawS l s)).1,((accD l s (rawS l s)).2,()))) (bcase (s == ([]:List UInt8)) (((([]:List TFact),(([]:List TFact),(false,((0:Int),((0:Int),()))))),(false,()))=((accD l s (rawS l s)).1,((accD l s (rawS l s)).2,()))) (((y7,(y8,(false,((0:Int),((0:Int),()))))),(true,()))=((accD l s (rawS l s)).1,((accD l s (rawS l s)).2,())))))))))) (∃ y10:List UInt8,G_sFormatDependency l (([]:List TFact),(([]:List TFact),(false,((0:Int),((0:Int),()))))) y10∧(bcase (!(y10 == s)) (((([]:List TFact),(([]:List TFact),(false,((0:Int),((0:Int),()))))),(false,()))=((accD l s (rawS l s)).1,((accD l s (rawS l s)).2,()))) (bcase (s == ([]:List UInt8)) (((([]:List TFact),(([]:List TFact),(false,((0:Int),((0:Int),()))))),(false,()))=((accD l s (rawS l s)).1,((accD l s (rawS l s)).2,()))) (((([]:List TFact),(([]:List TFact),(false,((0:Int),((0:Int),()))))),(true,()))=((accD l s (rawS l s)).1,((accD l s (rawS l s)).2,()))))))):=by
  intro hn
  refine lenI fun _=>bc_beq (fun h3=>?_) (fun h3=>?_)
  · have h3:(cutF 62 s).length=2:=by omega
    obtain⟨m0,m1⟩:=at0 h3
    have l0:=a2 _ m0
    have l1:=a2 _ m1
    exact⟨⟨by omega,by omega⟩,⟨by omega,by omega⟩,_,g_sl10Read (Nat.le_trans l0 h),_,g_sl10Read (Nat.le_trans l1 h),tail (by unfold rawS;rw[if_neg hn,if_pos h3];rfl)⟩
  · exact tail (by unfold rawS;rw[if_neg hn,if_neg (fun hh=>h3 (by omega))])
 refine⟨_,g_sl3Cut (c:=62) (by omega),_,g_sl3Cut (c:=61) (by omega),lenI fun _=>bc_beq (fun h1=>?_) (fun h1=>tgd fun hh=>h1 (by omega))⟩
 have h1:(cutF 61 s).length=2:=by omega
 obtain⟨m0,m1⟩:=at0 h1
 have l0:=b2 _ m0
 have l1:=b2 _ m1
 refine⟨⟨by omega,by omega⟩,lenI fun _=>bc_beq (fun h2=>?_) (fun h2=>tgd fun hh=>h2 (by have:=hh.2;show(((cutF 61 s).getD 1 []).length:Int)=2;omega))⟩
 have h2:((cutF 61 s).getD 1 []).length=2:=by
  have h2:(((cutF 61 s).getD 1 []).length:Int)=2:=h2
  omega
 have e2:((List.length ((cutF 61 s).getD (Int.toNat (1:Int)) ([]:List UInt8)):Int)).toNat=2:=by
  show(((cutF 61 s).getD 1 []).length:Int).toNat=2
  omega
 have hc:(0≤(0:Int)∧(0:Int)≤(1:Int)∧(1:Int)≤(List.length ((cutF 61 s).getD (Int.toNat (1:Int)) ([]:List UInt8)):Int)):=⟨by omega,by omega,by show(1:Int)≤(((cutF 61 s).getD 1 []).length:Int);omega⟩
 refine⟨⟨by omega,by omega⟩,⟨by omega,by omega⟩,⟨by omega,by omega⟩,hc,⟨by omega,hc.2.2,by omega⟩,_,g_sl10Read (Nat.le_trans l0 h),_,g_sl10Term,_,g_sl10Term,tail ?_⟩
 unfold rawS
 rw[if_pos ⟨h1,h2⟩,e2]
 have ht:List.take 2 ((cutF 61 s).getD (Int.toNat (1:Int)) ([]:List UInt8))=(cutF 61 s).getD 1 []:=List.take_of_length_le (by show((cutF 61 s).getD 1 []).length≤2;omega)
 rw[ht]
 rfl)
def tcc (t:Int):UInt8:=if 0≤t then letters.getD t.toNat 0 else UInt8.ofNat (48+(-1 - t).toNat)
def okC (c:UInt8):Prop:=c≠32∧c≠61∧c≠62
instance (c:UInt8):Decidable (okC c):=by unfold okC;infer_instance
theorem tcc_all:∀ i:Fin 15,termS ((i.val:Int) - 10)=[tcc ((i.val:Int) - 10)]∧okC (tcc ((i.val:Int) - 10))∧pTerm (tcc ((i.val:Int) - 10))=(i.val:Int) - 10∧tmS [tcc ((i.val:Int) - 10)]=(i.val:Int) - 10:=by decide
theorem tcc_ok {t:Int} (h:vTerm t=true):termS t=[tcc t]∧okC (tcc t)∧pTerm (tcc t)=t∧tmS [tcc t]=t:=by
 have h:=inR_iff.mp h
 have:=tcc_all ⟨(t+10).toNat,by omega⟩
 have e:(((t+10).toNat:Nat):Int) - 10=t:=by omega
 simp only[e]at this
 exact this
def nmc (i:Int):UInt8:=(sigs.getD i.toNat zRel).1.getD 0 0
theorem nmc_all:∀ i:Fin 5,(sigs.getD i.val zRel).1=[nmc (i.val:Int)]∧okC (nmc (i.val:Int))∧relIx sigs [nmc (i.val:Int)]=(i.val:Int):=by decide
theorem nmc_ok {i:Int} (h0:0≤i) (h1:i<5):(sigs.getD i.toNat zRel).1=[nmc i]∧okC (nmc i)∧relIx sigs [nmc i]=i:=by
 have:=nmc_all ⟨i.toNat,by omega⟩
 have e:((i.toNat:Nat):Int)=i:=by omega
 simp only[e]at this
 exact this
theorem terms_tcc:∀ {l:List Int},(∀ t∈l,vTerm t=true)→l.flatMap termS=l.map tcc
 |[],_=>rfl
 |t::l,h=>by rw[List.flatMap_cons,(tcc_ok (h t (by simp))).1,terms_tcc fun u hu=>h u (by simp[hu])];rfl
theorem atomS_eq {a:TFact} (h:vAtom sigs a=true):atomS sigs a=nmc a.1::a.2.1.map tcc∧(0≤a.1∧a.1<5)∧∀ t∈a.2.1,vTerm t=true:=by
 obtain⟨_,h2,h3,_,_,h6⟩:=vRow_spec h
 have h3:a.1<5:=h3
 refine⟨?_,⟨h2,h3⟩,h6⟩
 unfold atomS
 rw[if_pos h,(nmc_ok h2 h3).1,terms_tcc h6]
 rfl
theorem atomS_free {a:TFact} (h:vAtom sigs a=true):∀ c∈atomS sigs a,okC c:=by
 obtain⟨e,hr,ht⟩:=atomS_eq h
 rw[e]
 intro c hc
 rcases List.mem_cons.mp hc with rfl|hc
 · exact(nmc_ok hr.1 hr.2).2.1
 · obtain⟨t,h1,rfl⟩:=List.mem_map.mp hc
   exact(tcc_ok (ht t h1)).2.1
theorem parseI_atom {a:TFact} (h:vAtom sigs a=true):pAtomI sigs (atomS sigs a)=a:=by
 obtain⟨e,hr,ht⟩:=atomS_eq h
 rw[e]
 unfold pAtomI
 rw[if_neg (by simp)]
 simp only[List.take_succ_cons,List.take_zero,List.drop_succ_cons,List.drop_zero]
 rw[(nmc_ok hr.1 hr.2).2.2,List.map_map]
 have:a.2.1.map (pTerm ∘ tcc)=a.2.1:=by
  conv=>rhs;rw[←List.map_id a.2.1]
  exact List.map_congr_left fun t h1=>(tcc_ok (ht t h1)).2.2.1
 rw[this]
theorem parseS_atom {a:TFact} (h:vAtom sigs a=true):pAtomS sigs (atomS sigs a)=a:=by
 obtain⟨e,hr,ht⟩:=atomS_eq h
 rw[e]
 unfold pAtomS
 rw[if_neg (by simp)]
 simp only[List.take_succ_cons,List.take_zero,List.drop_succ_cons,List.drop_zero]
 rw[(nmc_ok hr.1 hr.2).2.2,List.map_map]
 have:a.2.1.map ((fun c=>tmS [c]) ∘ tcc)=a.2.1:=by
  conv=>rhs;rw[←List.map_id a.2.1]
  exact List.map_congr_left fun t h1=>(tcc_ok (ht t h1)).2.2.2
 rw[this]
theorem free_not {s:List UInt8} (h:∀ c∈s,okC c):(32:UInt8)∉s∧(61:UInt8)∉s∧(62:UInt8)∉s:=
 ⟨fun hc=>(h _ hc).1 rfl,fun hc=>(h _ hc).2.1 rfl,fun hc=>(h _ hc).2.2 rfl⟩
theorem atoms_back {l:List TFact} (h1:1≤l.length) (h2:l.length≤2) (hv:∀ a∈l,vAtom sigs a=true) :
  (61:UInt8)∉atomsS sigs l∧(62:UInt8)∉atomsS sigs l∧pAtomsI sigs (atomsS sigs l)=l∧pAtomsS sigs (atomsS sigs l)=l:=by
 match l,h1,h2 with
 | [a],_,_=>
   have ha:=hv a (by simp)
   obtain⟨f1,f2,f3⟩:=free_not (atomS_free ha)
   have e:atomsS sigs [a]=atomS sigs a:=by unfold atomsS;simp[Go.Lib.join_cons,Go.Lib.joinTail]
   rw[e]
   refine⟨f2,f3,?_,?_⟩
   · unfold pAtomsI;rw[split_none f1];simp[parseI_atom ha]
   · unfold pAtomsS;rw[cutF_none f1];simp[parseS_atom ha]
 | [a,b],_,_=>
   have ha:=hv a (by simp)
   have hb:=hv b (by simp)
   obtain⟨f1,f2,f3⟩:=free_not (atomS_free ha)
   obtain⟨g1,g2,g3⟩:=free_not (atomS_free hb)
   have e:atomsS sigs [a,b]=atomS sigs a++32::atomS sigs b:=by unfold atomsS;simp[Go.Lib.join_cons,Go.Lib.joinTail]
   rw[e]
   refine⟨by simp[f2,g2],by simp[f3,g3],?_,?_⟩
   · unfold pAtomsI;rw[split_once f1 g1];simp[parseI_atom ha,parseI_atom hb]
   · unfold pAtomsS;rw[cutF_one f1 g1];simp[parseS_atom ha,parseS_atom hb]
theorem back {d:TDep} (h:vDep sigs d=true):depS sigs d≠[]∧rawI sigs (depS sigs d)=d∧rawS sigs (depS sigs d)=d:=by
 have hs:=vDep_spec h
 obtain⟨b1,b2,b3,h4,h5,_,_⟩:=hs
 obtain⟨c1,c2,c3,c4⟩:=atoms_back b1 b2 b3
 have hv:=h
 unfold vDep at hv
 rw[Bool.and_eq_true,Bool.and_eq_true]at hv
 obtain⟨_,h3⟩:=hv
 cases he:d.2.2.1 with
 | true=>
   rw[if_pos he]at h3
   simp only[Bool.and_eq_true,decide_eq_true_eq]at h3
   obtain⟨⟨⟨e1,e2⟩,e3⟩,e4⟩:=h3
   have hvar:∀ {v:Int},v∈vars d.1→vTerm v=true:=fun hm=>by
    have hm:=mem_sset.mp hm
    obtain⟨hm,_⟩:=List.mem_filter.mp hm
    obtain⟨a,ha,hm⟩:=List.mem_flatMap.mp hm
    exact(atomS_eq (b3 a ha)).2.2 _ hm
   obtain⟨l1,l2,l3,l4⟩:=tcc_ok (hvar e2)
   obtain⟨r1,r2,r3,r4⟩:=tcc_ok (hvar e3)
   have e:depS sigs d=atomsS sigs d.1++61::[tcc d.2.2.2.1,tcc d.2.2.2.2.1]:=by
    unfold depS
    rw[if_pos h,if_pos he,l1,r1]
    simp
   have n61:(61:UInt8)∉[tcc d.2.2.2.1,tcc d.2.2.2.2.1]:=by
    simp only[List.mem_cons,List.not_mem_nil,or_false,not_or]
    exact⟨fun h=>l2.2.1 h.symm,fun h=>r2.2.1 h.symm⟩
   have n62:(62:UInt8)∉atomsS sigs d.1++61::[tcc d.2.2.2.1,tcc d.2.2.2.2.1]:=by
    simp only[List.mem_append,List.mem_cons,List.not_mem_nil,or_false,not_or]
    exact⟨c2,by decide,fun h=>l2.2.2 h.symm,fun h=>r2.2.2 h.symm⟩
   have hd:d=(d.1,(([]:List TFact),(true,(d.2.2.2.1,(d.2.2.2.2.1,()))))):=by
    rw[←e1,←he]
   rw[e]
   refine⟨by simp,?_,?_⟩
   · unfold rawI
     rw[cut_none n62,cut_once c1]
     simp only[Bool.false_eq_true,if_false,List.length_cons,List.length_nil]
     rw[if_pos ⟨trivial,trivial⟩,c3]
     conv=>rhs;rw[hd]
     show(d.1,([],(true,(pTerm (tcc d.2.2.2.1),(pTerm (tcc d.2.2.2.2.1),())))))=_
     rw[l3,r3]
   · unfold rawS
     rw[cutF_one c1 n61]
     rw[if_pos ⟨rfl,rfl⟩]
     show(pAtomsS sigs (atomsS sigs d.1),([],(true,(tmS [tcc d.2.2.2.1],(tmS [tcc d.2.2.2.2.1],())))))=d
     rw[c4,l4,r4]
     exact hd.symm
 | false=>
   rw[if_neg (by rw[he];simp)]at h3
   simp only[Bool.and_eq_true,beq_iff_eq]at h3
   obtain⟨⟨⟨_,e2⟩,e3⟩,e4⟩:=h3
   have e2:=inR_iff.mp e2
   obtain⟨k1,k2,k3,k4⟩:=atoms_back (l:=d.2.1) (by omega) h4 h5
   have e:depS sigs d=atomsS sigs d.1++62::atomsS sigs d.2.1:=by
    unfold depS
    rw[if_pos h,if_neg (by rw[he];simp)]
    simp
   have n61:(61:UInt8)∉atomsS sigs d.1++62::atomsS sigs d.2.1:=by
    simp only[List.mem_append,List.mem_cons,not_or]
    exact⟨c1,by decide,k1⟩
   have hd:d=(d.1,(d.2.1,(false,((0:Int),((0:Int),()))))):=by
    have h5:d.2.2=(false,((0:Int),((0:Int),()))):=by
     obtain⟨x1,x2,x3,x4,x5,x6⟩:=d
     simp only at he e3 e4
     rw[he,e3,e4]
    conv=>lhs;rw[show d=(d.1,(d.2.1,d.2.2))from rfl,h5]
   rw[e]
   refine⟨by simp,?_,?_⟩
   · unfold rawI
     rw[cut_once c2]
     rw[if_pos rfl,c3,k3]
     exact hd.symm
   · unfold rawS
     rw[cutF_none n61,cutF_one c2 k2]
     rw[if_neg (fun hh=>by have:=hh.1;simp at this),if_pos (show[atomsS sigs d.1,atomsS sigs d.2.1].length=2 from rfl)]
     show(pAtomsS sigs (atomsS sigs d.1),(pAtomsS sigs (atomsS sigs d.2.1),_))=d
     rw[c4,k4]
     exact hd.symm
theorem acc_iff {s:List UInt8} {d:TDep}:(accD sigs s d).2=true→depS sigs d=s∧s≠[]∧vDep sigs d=true∧(accD sigs s d).1=d:=fun h=>by
 unfold accD at h ⊢
 split at h
 · next hh=>
   refine⟨hh.2,hh.1,?_,by rw[if_pos hh]⟩
   cases hv:vDep sigs d with
   |true=>rfl
   | false=>
     have:depS sigs d=[]:=by unfold depS;rw[if_neg (by rw[hv];simp)]
     exact absurd (hh.2.symm.trans this) hh.1
 · cases h
theorem acc_same (s:List UInt8):(accD sigs s (rawI sigs s)).2=(accD sigs s (rawS sigs s)).2:=by
 have key:∀ {s:List UInt8} {d:TDep},(accD sigs s d).2=true→(accD sigs s (rawI sigs s)).2=true∧(accD sigs s (rawS sigs s)).2=true:=fun {s d} h=>by
  obtain⟨h1,h2,h3,_⟩:=acc_iff h
  obtain⟨_,k1,k2⟩:=back h3
  rw[h1]at k1 k2
  rw[k1,k2,h]
  exact⟨rfl,rfl⟩
 cases h1:(accD sigs s (rawI sigs s)).2 with
 |true=>exact(key h1).2.symm
 | false=>
   cases h2:(accD sigs s (rawS sigs s)).2 with
   |true=>exact h1.symm.trans (key h2).1
   |false=>rfl
theorem acc_dep (d:TDep):(accD sigs (depS sigs d) (rawI sigs (depS sigs d))).2=vDep sigs d∧(vDep sigs d=true→(accD sigs (depS sigs d) (rawI sigs (depS sigs d))).1=d):=by
 cases h:vDep sigs d with
 | true=>
   obtain⟨h1,h2,_⟩:=back h
   rw[h2,acc_yes h1 rfl]
   exact⟨rfl,fun _=>rfl⟩
 | false=>
   have e:depS sigs d=[]:=by unfold depS;rw[if_neg (by rw[h];simp)]
   rw[e,acc_no1 rfl]
   exact⟨rfl,fun h=>by cases h⟩
theorem d_text {s:Src} (h:Oks s):∃ y z,G_sl1Text_poz s 3 y z∧y.length≤3∧Oks z:=by
 have hs:S_sl1Text_poz s 3 (fun q=>q.1.length≤3∧Oks q.2.1):=by
  unfold S_sl1Text_poz
  obtain⟨u,z,g,hu,hz⟩:=d_below h (n:=4) (by decide) (by decide)
  obtain⟨v,z1,g1,hv,hz1⟩:=d_below hz (n:=4) (by decide) (by decide)
  obtain⟨N,rfl⟩:∃ N:Nat,v=(N:Int):=⟨v.toNat,by omega⟩
  refine⟨u,z,g,_,z1,g1,?_⟩
  refine loopP_down (fun k a=>∃(c:Src) (l:List Int),a=((k:Int),(l,(c,())))∧Oks c∧l.length+k=N) ?_ ?_ (n:=N) ⟨z1,[],rfl,hz1,by simp⟩
  · rintro a ⟨c,l,rfl,hc,hl⟩ X
    refine bc_dec (fun h=>by simp at h) (fun _=>⟨?_,hc⟩)
    show(bytesOf l).length≤3
    unfold bytesOf
    rw[List.length_map];omega
  · rintro k a ⟨c,l,rfl,hc,hl⟩ X hX
    obtain⟨w,z2,g2,_,hz2⟩:=d_byte hc
    have step:∀ b:Int,l.length+([b]:List Int).length≤maxL∧X (w64 (((k+1:Nat):Int) - 1),(l++([b]:List Int),(z2,()))):=fun b=>by
     refine⟨by simp only[maxL,List.length_cons,List.length_nil];omega,?_⟩
     rw[w64_dec (by omega)]
     exact hX _ ⟨z2,_,rfl,hz2,by simp;omega⟩
    refine bc_dec (fun _=>⟨w,z2,g2,both ⟨by omega,both ⟨by omega,step _⟩ (step _)⟩ (both ⟨by omega,step _⟩ (step _))⟩) (fun h=>by simp at h<;>omega)
 obtain⟨⟨y,z,_⟩,hq,hv⟩:=rd_of (S:=S_sl1Text_poz s 3) hs ⟨(([]:List UInt8),(s,())),by simp,h⟩ fun hi=>by
  unfold S_sl1Text_poz
  repeat' first|exact rk|apply_assumption|refine rb ?_ ?_|refine rl hi ?_|refine ra ?_|(refine rp ?_;intro _ _ _ _)|(refine re ?_;intro _)
 exact⟨y,z,M_sl1Text_poz _ _ _ _ hv,hq.1,hq.2⟩
theorem d_spoil {s:Src} {x:List UInt8} (h:Oks s) (hx:x.length≤100):∃ y z,G_sl1Spoil_poz s x y z∧y.length≤105∧Oks z:=by
 have hs:S_sl1Spoil_poz s x (fun q=>q.1.length≤105∧Oks q.2.1):=by
  unfold S_sl1Spoil_poz
  have hb:∀ b:Int,(bytesOf [b]).length=1:=fun b=>rfl
  refine lenI fun _=>bc_beq (fun h0=>?_) (fun h0=>lenI fun _=>?_)
  · obtain⟨y,z,g,hy,hz⟩:=d_text h
    exact⟨y,z,g,by show y.length≤105;omega,hz⟩
  · obtain⟨u,z,g,hu,hz⟩:=d_below h (n:=(x.length:Int)) (by omega) (by omega)
    obtain⟨i,rfl⟩:∃ i:Nat,u=(i:Int):=⟨u.toNat,by omega⟩
    obtain⟨v,z1,g1,hv,hz1⟩:=d_below hz (n:=4) (by decide) (by decide)
    obtain⟨w,z2,g2,hw,hz2⟩:=d_byte hz1
    obtain⟨t,z3,g3,ht,hz3⟩:=d_below hz1 (n:=255) (by decide) (by decide)
    have hi:i<x.length:=by omega
    have l1:(List.drop (Int.toNat (0:Int)) (List.take (Int.toNat (i:Int)) x)).length≤x.length:=by rw[List.length_drop,List.length_take];omega
    have l2:(List.drop (Int.toNat (w64 ((i:Int)+1))) (List.take (Int.toNat (List.length x:Int)) x)).length≤x.length:=by rw[List.length_drop,List.length_take];omega
    have l3:(List.drop (Int.toNat (i:Int)) (List.take (Int.toNat (List.length x:Int)) x)).length≤x.length:=by rw[List.length_drop,List.length_take];omega
    have l12:(List.drop (Int.toNat (0:Int)) (List.take (Int.toNat (i:Int)) x)).length+(List.drop (Int.toNat (w64 ((i:Int)+1))) (List.take (Int.toNat (List.length x:Int)) x)).length≤x.length:=by
     rw[w64_succ (by omega),List.length_drop,List.length_take,List.length_drop,List.length_take,Int.toNat_natCast,Int.toNat_natCast,Int.toNat_natCast];omega
    have l13:(List.drop (Int.toNat (0:Int)) (List.take (Int.toNat (i:Int)) x)).length+(List.drop (Int.toNat (i:Int)) (List.take (Int.toNat (List.length x:Int)) x)).length≤x.length:=by
     rw[List.length_drop,List.length_take,List.length_drop,List.length_take,Int.toNat_natCast,Int.toNat_natCast];omega
    have c1:(0≤(0:Int)∧(0:Int)≤(i:Int)∧(i:Int)≤(List.length x:Int)):=⟨by omega,by omega,by omega⟩
    have c2:(0≤(w64 ((i:Int)+(1:Int)))∧(w64 ((i:Int)+(1:Int)))≤(List.length x:Int)∧(List.length x:Int)≤(List.length x:Int)):=by
     rw[w64_succ (by omega)];exact⟨by omega,by omega,by omega⟩
    have c3:(0≤(i:Int)∧(i:Int)≤(List.length x:Int)∧(List.length x:Int)≤(List.length x:Int)):=⟨by omega,by omega,by omega⟩
    refine⟨_,z,g,v,z1,g1,both ⟨c1,c2,by rw[maxL];omega,?_,hz1⟩ (both ⟨c1,c3,w,z2,g2,by rw[maxL,hb];omega,by rw[maxL,List.length_append,hb];omega,?_,hz2⟩ (both ⟨c1,?_,hz1⟩ ⟨c1,⟨by omega,by omega⟩,c2,t,z3,g3,by rw[maxL,hb];omega,by rw[maxL,List.length_append,hb];omega,?_,hz3⟩))⟩
    · show(_++_:List UInt8).length≤105
      rw[List.length_append];omega
    · show((_++_)++_:List UInt8).length≤105
      rw[List.length_append,List.length_append,hb];omega
    · show(List.drop (Int.toNat (0:Int)) (List.take (Int.toNat (i:Int)) x)).length≤105
      omega
    · show((_++_)++_:List UInt8).length≤105
      rw[List.length_append,List.length_append,hb];omega
 obtain⟨⟨y,z,_⟩,hq,hv⟩:=rd_of (S:=S_sl1Spoil_poz s x) hs ⟨(([]:List UInt8),(s,())),by simp,h⟩ fun hi=>by
  unfold S_sl1Spoil_poz
  repeat' first|exact rk|apply_assumption|refine rb ?_ ?_|refine rl hi ?_|refine ra ?_|(refine rp ?_;intro _ _ _ _)|(refine re ?_;intro _)
 exact⟨y,z,M_sl1Spoil_poz _ _ _ _ hv,hq.1,hq.2⟩
theorem d_pickN {s:Src} {l:List (List UInt8)} {n:Nat} (h:Oks s) (h1:0<l.length) (h2:l.length≤256) (hn:∀ w∈l,w.length≤n):∃ y z,G_sl1Pick_poz s l y z∧y.length≤n∧Oks z:=by
 obtain⟨y,z,g,hy,hz⟩:=d_below (n:=(l.length:Int)) h (by omega) (by omega)
 obtain⟨i,rfl⟩:∃ i:Nat,y=(i:Int):=⟨y.toNat,by omega⟩
 have hi:i<l.length:=by omega
 refine⟨_,z,M_sl1Pick_poz _ _ _ _ (lenI fun _=>⟨_,z,g,⟨hy.1,hy.2⟩,rfl⟩),?_,hz⟩
 rw[getI hi]
 exact hn _ (List.getElem_mem hi)
theorem d_parse {x:List Int} (h:x.length≤1048576):∃ s,G_sDrawParseDependency x sigs s∧s.length≤105:=by
 obtain⟨z,g,hz⟩:=d_new h
 obtain⟨d,z1,g1,hd,hz1⟩:=d_any hz
 obtain⟨b,z2,g2,hz2⟩:=d_once hz1 (n:=3) (by decide) (by decide)
 have hl:=depS_len sigs d
 obtain⟨w,z3,g3,hw,hz3⟩:=d_spoil hz2 (x:=depS sigs d) (by omega)
 obtain⟨y,z4,g4,hy,_⟩:=d_pickN (n:=105) hz3 (l:=[([]:List UInt8),([62]:List UInt8),([97,120,121,62]:List UInt8),([62,112,120,121]:List UInt8),([97,120,121,62,97,120,121]:List UInt8),([97,120,121,61,120,121]:List UInt8),([97,120,121,61,121,120]:List UInt8),([97,120,121,61,120,120]:List UInt8),([97,120,121,61,120,122]:List UInt8),([97,120,121,62,112,120]:List UInt8),([97,120,121,32,98,122,32,99,120,62,114,120]:List UInt8),([97,120,121,62,112,120,119]:List UInt8),([97,120,121,32,62,114,120]:List UInt8),w]) (by simp) (by simp) (fun u hu=>by
  simp only[List.mem_cons,List.not_mem_nil,or_false]at hu
  rcases hu with rfl|rfl|rfl|rfl|rfl|rfl|rfl|rfl|rfl|rfl|rfl|rfl|rfl|rfl<;>first|exact hw|(simp))
 cases b with
 |true=>exact⟨y,M_sDrawParseDependency _ _ _ ⟨z,g,_,g_sl3Sigs,d,z1,g1,_,g_sFormatDependency,true,z2,g2,_,g_sl3Sigs,w,z3,g3,y,z4,g4,rfl⟩,hy⟩
 |false=>exact⟨_,M_sDrawParseDependency _ _ _ ⟨z,g,_,g_sl3Sigs,d,z1,g1,_,g_sFormatDependency,false,z2,g2,_,g_sl3Sigs,rfl⟩,Nat.le_trans (depS_len sigs _) (by decide)⟩
theorem d_format {x:List Int} (h:x.length≤1048576):∃ d,G_sDrawFormatDependency x sigs d∧SmD 3 d:=by
 obtain⟨z,g,hz⟩:=d_new h
 obtain⟨d,z1,g1,hd,hz1⟩:=d_any hz
 exact⟨d,M_sDrawFormatDependency _ _ _ ⟨_,_,M_sDrawIsValidDependency _ _ _ ⟨_,g_sl3Sigs,z,g,d,z1,g1,rfl⟩,rfl⟩,hd⟩
theorem d_equal {x:List Int} (h:x.length≤1048576):∃ d e,G_sDrawEqualDependencies x d e:=by
 obtain⟨z,g,hz⟩:=d_new h
 obtain⟨d,z1,g1,hd,hz1⟩:=d_any hz
 obtain⟨b,z2,g2,hz2⟩:=d_once hz1 (n:=2) (by decide) (by decide)
 obtain⟨e,z3,g3,_,_⟩:=d_any hz2
 cases b with
 |true=>exact⟨d,e,M_sDrawEqualDependencies _ _ _ ⟨z,g,d,z1,g1,true,z2,g2,e,z3,g3,rfl⟩⟩
 |false=>exact⟨d,d,M_sDrawEqualDependencies _ _ _ ⟨z,g,d,z1,g1,false,z2,g2,d,g_sl9Copy (hd.ok (by decide)),rfl⟩⟩
theorem g_lhas {l:List Int} {x:Int}:G_lhas l x (decide (x∈l)):=M_lhas _ _ _ (by
 unfold S_lhas
 refine loop_any l (fun a=>x == a) (fun i=>((i:Int),())) (KT:=((true,()):Bool×Unit)=(decide (x∈l),())) (KF:=((false,()):Bool×Unit)=(decide (x∈l),())) ?_ (fun X h=>lenI fun _=>bcN h) (fun h=>?_) (fun h=>?_)
 · intro i hi X h1 h2
   refine lenI fun _=>bcI hi (inI hi ?_)
   simp only
   rw[getI hi,w64_succ (by omega)]
   exact bc_beq (fun h=>h1 (by simp[h])) (fun h=>h2 (by simpa using fun e=>h e.symm))
 · rw[any_mem]at h;rw[h]
 · rw[any_mem]at h;rw[h])
theorem ex_fr_len (d:TDep):(exV d).length+(frV d).length=(vars d.2.1).length:=by
 unfold exV frV
 induction vars d.2.1 with
 |nil=>rfl
 | cons v l ih=>
   by_cases h:v∈vars d.1
   · simp only[List.filter_cons,decide_eq_true h,Bool.not_true,Bool.false_eq_true,if_false,if_true,List.length_cons];omega
   · simp only[List.filter_cons,decide_eq_false h,Bool.not_false,Bool.false_eq_true,if_false,if_true,List.length_cons];omega
theorem law {x0:List Int} (_:Bnd (.sl 5 (.int .u8)) x0):G_lFnDependencyFormat x0 true:=M_lFnDependencyFormat _ _ (by
 unfold S_lFnDependencyFormat
 refine⟨_,g_lbig,bc_dec (fun _=>rfl) (fun hb=>?_)⟩
 have hlen:x0.length≤1048576:=by omega
 obtain⟨d,gd,hd⟩:=d_format hlen
 obtain⟨s,gs,hs⟩:=d_parse hlen
 obtain⟨p,q,gq⟩:=d_equal hlen
 have hl:=depS_len sigs d
 have ha:=acc_dep d
 have hf1:(d.1.flatMap (·.2.1)).length≤1073741824:=by have:=hd.2.2.1.flat;have:=hd.1.2;omega
 have hf2:(d.2.1.flatMap (·.2.1)).length≤1073741824:=by have:=hd.2.2.2.flat;have:=hd.2.1;omega
 refine⟨_,d,gd,_,g_iFormatDependency,_,_,g_iParseDependency (Nat.le_trans (depS_len sigs _) (by decide)),_,s,gs,_,_,g_iParseDependency (by omega),_,_,g_sParseDependency (by omega),_,g_sIsValidDependency,?_⟩
 rw[show(d.1,(d.2.1,d.2.2))=d from rfl,ha.1,acc_same s]
 refine bc_nb (fun h=>absurd rfl h) fun _=>⟨_,g_iIsValidDependency,bc_nb (fun h=>absurd rfl h) fun _=>?_⟩
 have fin:∃ y17:List Int,G_iExistentialVariables (d.1,(d.2.1,d.2.2)) y17∧(∃ y18:List Int,G_iFrontierVariables (d.1,(d.2.1,d.2.2)) y18∧(∃ y19:List Int,G_iVariables d.1 y19∧(∃ y20:List Int,G_iVariables d.2.1 y20∧(LoopP (fun(again22:Int×Unit→Prop) (a21:Int×Unit)=>lenA (List.length y20:Int) (bcase (decide (a21.1<(List.length y20:Int))) ((0≤a21.1∧a21.1<(List.length y20:Int))∧((0≤a21.1∧a21.1<(List.length y20:Int))∧(∃ y23:Bool,G_lhas y17 (y20.getD (Int.toNat a21.1) (0:Int)) y23∧(∃ y24:Bool,G_lhas y18 (y20.getD (Int.toNat a21.1) (0:Int)) y24∧(bcase (y23 == y24) (((false,()):Bool×Unit)=(true,())) ((0≤a21.1∧a21.1<(List.length y20:Int))∧((0≤a21.1∧a21.1<(List.length y20:Int))∧(∃ y25:Bool,G_lhas y18 (y20.getD (Int.toNat a21.1) (0:Int)) y25∧(∃ y26:Bool,G_lhas y19 (y20.getD (Int.toNat a21.1) (0:Int)) y26∧(bcase (!(y25 == y26)) (((false,()):Bool×Unit)=(true,())) (again22 (w64 (a21.1+(1:Int)),())))))))))))) (∃ y27:TDep,∃ y28:TDep,G_sDrawEqualDependencies x0 y27 y28∧(lenA (List.length y17:Int) (lenA (List.length y18:Int) (lenA (List.length y20:Int) (bcase ((w64 ((List.length y17:Int)+(List.length y18:Int))) == (List.length y20:Int)) (∃ y29:Bool,G_iEqualDependencies (y27.1,(y27.2.1,y27.2.2)) (y28.1,(y28.2.1,y28.2.2)) y29∧(∃ y30:Bool,G_sEqualDependencies (y27.1,(y27.2.1,y27.2.2)) (y28.1,(y28.2.1,y28.2.2)) y30∧(bcase (y29 == y30) (∃ y31:Bool,G_iIsFull (d.1,(d.2.1,d.2.2)) y31∧(∃ y32:Bool,G_sIsFull (d.1,(d.2.1,d.2.2)) y32∧(((y31 == y32,()):Bool×Unit)=(true,())))) (((false,()):Bool×Unit)=(true,()))))) (((false,()):Bool×Unit)=(true,()))))))))) ((0:Int),()))))):=by
  have hv:=vars_len d.2.1
  refine⟨_,g_iExistentialVariables hf1 hf2,_,g_iFrontierVariables hf1 hf2,_,g_iVariables hf1,_,g_iVariables hf2,?_⟩
  refine loopP_of (vars d.2.1).length (fun i=>((i:Int),())) rfl ?_ ?_
  · intro i hi X hX
    refine lenI fun _=>bcI hi (inI hi (inI hi ⟨_,g_lhas,_,g_lhas,?_⟩))
    simp only
    rw[getI hi,w64_succ (by omega)]
    have hm:(vars d.2.1)[i]∈vars d.2.1:=List.getElem_mem hi
    have e1:decide ((vars d.2.1)[i]∈exV d) = !decide ((vars d.2.1)[i]∈vars d.1):=by
     unfold exV
     by_cases h:(vars d.2.1)[i]∈vars d.1<;>simp[List.mem_filter,hm,h]
    have e2:decide ((vars d.2.1)[i]∈frV d)=decide ((vars d.2.1)[i]∈vars d.1):=by
     unfold frV
     by_cases h:(vars d.2.1)[i]∈vars d.1<;>simp[List.mem_filter,hm,h]
    rw[e1,e2]
    refine bc_beq (fun h=>by cases hq:decide ((vars d.2.1)[i]∈vars d.1)<;>rw[hq]at h<;>cases h) (fun _=>inI hi (inI hi ⟨_,g_lhas,_,g_lhas,?_⟩))
    rw[e2]
    exact bc_nb (fun h=>absurd rfl h) fun _=>hX
  · intro X
    refine lenI fun _=>bcN ⟨p,q,gq,lenI fun _=>lenI fun _=>lenI fun _=>?_⟩
    have:(exV (d.1,(d.2.1,d.2.2))).length+(frV (d.1,(d.2.1,d.2.2))).length=(vars d.2.1).length:=ex_fr_len d
    rw[w64_id (by omega) (by omega)]
    refine bc_beq (fun _=>⟨_,g_iEqualDependencies,_,g_sEqualDependencies,bc_beq (fun _=>⟨_,g_iIsFull hf1 hf2,_,g_sIsFull hf1 hf2,?_⟩) (fun h=>absurd rfl h)⟩) (fun h=>absurd (by omega) h)
    show((full d == full d,()):Bool×Unit)=_
    simp
 have mid:∀ {F:Prop},F→bcase (!((accD sigs s (rawS sigs s)).2 == (accD sigs s (rawS sigs s)).2)) (((false,()):Bool×Unit)=(true,())) (bcase (accD sigs s (rawS sigs s)).2 (∃ y16:List UInt8,G_iFormatDependency sigs ((accD sigs s (rawI sigs s)).1.1,((accD sigs s (rawI sigs s)).1.2.1,(accD sigs s (rawI sigs s)).1.2.2)) y16∧(bcase (!(y16 == s)) (((false,()):Bool×Unit)=(true,())) F)) F):=by
  intro F fin
  refine bc_nb (fun h=>absurd rfl h) fun _=>bc_if (fun h=>⟨_,g_iFormatDependency,bc_nb (fun h2=>?_) (fun _=>fin)⟩) (fun _=>fin)
  rw[←acc_same s]at h
  obtain⟨k1,_,_,k4⟩:=acc_iff h
  exact absurd (by show depS sigs (accD sigs s (rawI sigs s)).1=s;rw[k4];exact k1) h2
 cases hv:vDep sigs d with
 | true=>
   rw[ha.2 hv]
   refine⟨_,g_sEqualDependencies,bc_not (fun h=>?_) (fun _=>mid fin)⟩
   exact absurd rfl (of_decide_eq_false h)
 |false=>exact mid fin)
end Go.V

