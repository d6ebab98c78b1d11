/-
  The functions that the law reaches: what each gives.
-/
import Derived.Test.YtohcpefohbhigaaGreatDoorOF
import Derived.Test.YtohcpefohbhigaaGreatDoorOP
set_option linter.unusedVariables false
set_option linter.unusedSimpArgs false
set_option maxRecDepth 1000000
set_option maxHeartbeats 4000000
set_option linter.unusedVariables false
set_option linter.unusedSimpArgs false
namespace Go.V
open Go
theorem g_slices_Sort_int_ooz {x0:List Int} (h:x0.length≤1099511627776):G_slices_Sort_int_ooz x0 (sortI x0):=prim_sort h
theorem g_slices_Compact_int_ooz {x0:List Int}:G_slices_Compact_int_ooz x0 (compI x0):=prim_compact
def cmpI (a b:Int):Int:=if a<b then -1 else if b<a then 1 else 0
def cmpL:List Int→List Int→Int
 |[],[]=>0
 |[],_::_=>-1
 |_::_,[]=>1
 |a::x,b::y=>if a<b then -1 else if b<a then 1 else cmpL x y
def cmpF (a b:TFact):Int:=if a.1<b.1 then -1 else if b.1<a.1 then 1 else cmpL a.2.1 b.2.1
theorem cmpL_zero:∀ {x y:List Int},cmpL x y=0↔x=y
 |[],[]=>by simp[cmpL]
 |[],b::y=>by simp[cmpL]
 |a::x,[]=>by simp[cmpL]
 | a::x,b::y=>by
   unfold cmpL
   split
   · rename_i h;constructor
     · intro h';cases h'
     · intro h';cases h';omega
   · split
     · rename_i h;constructor
       · intro h';cases h'
       · intro h';cases h';omega
     · rw[cmpL_zero]
       have:a=b:=by omega
       simp[this]
theorem cmpL_step {x y:List Int} {i:Nat} (h:i<x.length) (h':i<y.length):cmpL (x.drop i) (y.drop i)=if x[i]<y[i] then -1 else if y[i]<x[i] then 1 else cmpL (x.drop (i+1)) (y.drop (i+1)):=by
 rw[drop_cons h,drop_cons h',cmpL]
theorem cmpL_end {x y:List Int} {i:Nat} (h:x.length≤i):cmpL (x.drop i) (y.drop i)=if i<y.length then -1 else 0:=by
 rw[List.drop_of_length_le h]
 by_cases h':i<y.length
 · rw[drop_cons h',if_pos h'];rfl
 · rw[List.drop_of_length_le (by omega),if_neg h'];rfl
theorem cmpL_end' {x y:List Int} {i:Nat} (h:i<x.length) (h':y.length≤i):cmpL (x.drop i) (y.drop i)=1:=by
 rw[List.drop_of_length_le h',drop_cons h];rfl
theorem g_sl4Ints {x y:List Int}:G_sl4Ints x y (cmpL x y):=M_sl4Ints _ _ _ (by
 unfold S_sl4Ints
 refine loopP_down (fun k a=>∃ i:Nat,i+k=x.length∧a=((i:Int),())∧i≤y.length∧cmpL (x.drop i) (y.drop i)=cmpL x y) ?_ ?_ (n:=x.length) ⟨0,by omega,rfl,by omega,by simp⟩
 · rintro a ⟨i,hi,rfl,hy,hc⟩ X
   obtain rfl:i=x.length:=by omega
   rw[cmpL_end (Nat.le_refl _)]at hc
   refine lenI fun h1=>bcN (lenI fun _=>lenI fun h2=>bc_dec (fun h=>?_) (fun h=>lenI fun _=>lenI fun _=>bc_dec (fun h'=>by omega) (fun h'=>?_)))
   · rw[if_pos (by omega)]at hc;rw[←hc]
   · rw[if_neg (by omega)]at hc;rw[←hc]
 · rintro k a ⟨i,hi,rfl,hy,hc⟩ X hX
   have hlt:i<x.length:=by omega
   refine lenI fun h1=>bcI hlt (lenI fun h2=>bc_dec (fun h=>?_) (fun h=>?_))
   · have hlt':i<y.length:=by omega
     refine inI hlt (inI hlt' ?_)
     simp only
     rw[getI hlt,getI hlt']
     rw[cmpL_step hlt hlt']at hc
     refine bc_dec (fun h=>?_) (fun h=>inI hlt (inI hlt' (bc_dec (fun h'=>?_) (fun h'=>?_))))
     · rw[if_pos h]at hc;rw[←hc]
     · rw[if_neg h,if_pos h']at hc;rw[←hc]
     · rw[if_neg h,if_neg (by omega)]at hc
       rw[w64_succ (by omega)]
       exact hX _ ⟨i+1,by omega,rfl,by omega,hc⟩
   · simp only at h
     rw[cmpL_end' hlt (by omega)]at hc
     refine lenI fun _=>lenI fun _=>bc_dec (fun h'=>by omega) (fun h'=>lenI fun _=>lenI fun _=>bc_dec (fun h''=>?_) (fun h''=>by omega))
     rw[←hc])
theorem g_sCompareFacts {x y:TFact}:G_sCompareFacts x y (cmpF x y):=M_sCompareFacts _ _ _ (by
 unfold S_sCompareFacts cmpF
 refine bc_dec (fun h=>by rw[if_pos h]) (fun h=>bc_dec (fun h'=>by rw[if_neg h,if_pos h']) (fun h'=>⟨_,g_sl4Ints,by rw[if_neg h,if_neg (by omega)]⟩)))
theorem g_cmp_isNaN_int {x:Int}:G_cmp_isNaN_int x false:=M_cmp_isNaN_int _ _ (by unfold S_cmp_isNaN_int;simp)
theorem g_cmp_Compare_int {x y:Int}:G_cmp_Compare_int x y (cmpI x y):=M_cmp_Compare_int _ _ _ (by
 unfold S_cmp_Compare_int cmpI
 refine⟨_,g_cmp_isNaN_int,_,g_cmp_isNaN_int,bcF (bcF (bc_dec (fun h=>by rw[if_pos h]) (fun h=>bc_dec (fun h'=>by rw[if_neg h,if_pos h']) (fun h'=>by rw[if_neg h,if_neg h']))))⟩)
theorem cmpI_zero {a b:Int}:cmpI a b=0↔a=b:=by unfold cmpI;split<;>(try split)<;>omega
theorem g_slices_Compare_int {x y:List Int}:G_slices_Compare_int x y (cmpL x y):=M_slices_Compare_int _ _ _ (by
 unfold S_slices_Compare_int
 refine lenI fun h1=>loopP_down (fun k a=>∃ i:Nat,i+k=x.length∧a=((i:Int),())∧cmpL (x.drop i) (y.drop i)=cmpL x y∧i≤y.length) ?_ ?_ (n:=x.length) ⟨0,by omega,rfl,by simp,by omega⟩
 · rintro a ⟨i,hi,rfl,hc,hy⟩ X
   obtain rfl:i=x.length:=by omega
   rw[cmpL_end (Nat.le_refl _)]at hc
   refine bcN (lenI fun _=>lenI fun h2=>bc_dec (fun h=>?_) (fun h=>?_))
   · rw[if_pos (by omega)]at hc;rw[←hc]
   · rw[if_neg (by omega)]at hc;rw[←hc]
 · rintro k a ⟨i,hi,rfl,hc,hy⟩ X hX
   have hlt:i<x.length:=by omega
   refine bcI hlt (inI hlt (lenI fun h2=>bc_dec (fun h=>?_) (fun h=>?_)))
   · simp only at h
     rw[cmpL_end' hlt (by omega)]at hc
     rw[←hc]
   · simp only at h
     have hlt':i<y.length:=by omega
     refine inI hlt' ⟨_,g_cmp_Compare_int,?_⟩
     simp only
     rw[getI hlt,getI hlt']
     rw[cmpL_step hlt hlt']at hc
     refine bc_ne (fun h=>?_) (fun h=>?_)
     · have hne:x[i]≠y[i]:=fun e=>h (cmpI_zero.mpr e)
       rw[←hc]
       unfold cmpI
       by_cases h3:x[i]<y[i]
       · rw[if_pos h3,if_pos h3]
       · rw[if_neg h3,if_neg h3,if_pos (by omega),if_pos (by omega)]
     · have he:=cmpI_zero.mp h
       rw[if_neg (by omega),if_neg (by omega)]at hc
       rw[w64_succ (by omega)]
       exact hX _ ⟨i+1,by omega,rfl,hc,by omega⟩)
def orL:List Int→Int
 |[]=>0
 |a::l=>if a=0 then orL l else a
theorem g_cmp_Or_int {x:List Int}:G_cmp_Or_int x (orL x):=M_cmp_Or_int _ _ (by
 unfold S_cmp_Or_int
 have key:∀ l:List Int,orL l=if h:firstAt (fun t=>t != 0) l<l.length then l[firstAt (fun t=>t != 0) l] else 0:=by
  intro l
  induction l with
  |nil=>simp[orL,firstAt]
  | cons a l ih=>
    unfold orL
    by_cases ha:a=0
    · rw[if_pos ha,ih]
      simp only[firstAt,ha,bne_self_eq_false,Bool.false_eq_true,if_false,List.length_cons,Nat.add_lt_add_iff_right,List.getElem_cons_succ]
    · rw[if_neg ha]
      have:(a != 0)=true:=by simpa using ha
      simp[firstAt,this]
 refine lenI fun hl=>loop_first x (fun t=>t != 0) (fun i=>((i:Int),())) (KT:=fun i=>∀ h:i<x.length,((x[i],()):Int×Unit)=(orL x,())) (KF:=(((0:Int),()):Int×Unit)=(orL x,())) ?_ ?_ ?_ ?_
 · intro i hi X h1 h2
   refine bcI hi (inI hi ?_)
   simp only
   rw[getI hi,w64_succ (by omega)]
   exact bc_if (fun h=>h1 h hi) h2
 · intro X h;exact bcN h
 · intro h h';rw[key,dif_pos h]
 · intro h;rw[key,dif_neg (by omega)])
theorem g_iCompareFacts {x y:TFact}:G_iCompareFacts x y (cmpF x y):=M_iCompareFacts _ _ _ (by
 unfold S_iCompareFacts
 refine⟨_,g_cmp_Compare_int,_,g_slices_Compare_int,_,g_cmp_Or_int,?_⟩
 have:orL [cmpI x.1 y.1,cmpL x.2.1 y.2.1]=cmpF x y:=by
  unfold cmpF
  by_cases h:x.1<y.1
  · have:cmpI x.1 y.1 = -1:=by unfold cmpI;rw[if_pos h]
    rw[if_pos h,this];rfl
  · rw[if_neg h]
    by_cases h':y.1<x.1
    · have:cmpI x.1 y.1=1:=by unfold cmpI;rw[if_neg h,if_pos h']
      rw[if_pos h',this];rfl
    · have:cmpI x.1 y.1=0:=by unfold cmpI;rw[if_neg h,if_neg h']
      rw[if_neg h',this]
      unfold orL
      rw[if_pos rfl]
      unfold orL
      by_cases h0:cmpL x.2.1 y.2.1=0
      · rw[if_pos h0,h0];rfl
      · rw[if_neg h0]
 rw[this])
def ins:List Int→Int→List Int
 |[],x=>[x]
 |a::l,x=>if a<x then a::ins l x else if a=x then a::l else x::a::l
def srt (l:List Int):Prop:=l.Pairwise (· < ·)
def sset (l:List Int):List Int:=l.foldl ins []
theorem mem_put {y x:Int}:∀ {l:List Int},y∈ins l x↔y=x∨y∈l
 |[]=>by simp[ins]
 | a::l=>by
   unfold ins
   split
   · rw[List.mem_cons,mem_put,List.mem_cons]
     constructor
     · rintro (h|h|h)<;>simp[h]
     · rintro (h|h|h)<;>simp[h]
   · split
     · rename_i h;subst h;simp
     · simp
theorem srt_put {x:Int}:∀ {l:List Int},srt l→srt (ins l x)
 |[],_=>by simp[ins,srt]
 | a::l,h=>by
   obtain⟨h1,h2⟩:=List.pairwise_cons.mp h
   unfold ins
   split
   · rename_i hlt
     refine List.pairwise_cons.mpr ⟨fun y hy=>?_,srt_put h2⟩
     rcases mem_put.mp hy with rfl|hy
     · exact hlt
     · exact h1 y hy
   · split
     · exact h
     · refine List.pairwise_cons.mpr ⟨fun y hy=>?_,h⟩
       rcases List.mem_cons.mp hy with rfl|hy
       · omega
       · have:=h1 y hy;omega
theorem foldput {l:List Int}:∀ {s:List Int},srt s→srt (l.foldl ins s)∧∀ y,y∈l.foldl ins s↔y∈s∨y∈l:=by
 induction l with
 |nil=>intro s h;exact⟨h,by simp⟩
 | cons a l ih=>
   intro s h
   obtain⟨h1,h2⟩:=ih (srt_put (x:=a) h)
   refine⟨h1,fun y=>?_⟩
   rw[List.foldl_cons,h2,mem_put,List.mem_cons]
   constructor
   · rintro ((h|h)|h)<;>simp[h]
   · rintro (h|h|h)<;>simp[h]
theorem srt_sset (l:List Int):srt (sset l):=(foldput List.Pairwise.nil).1
theorem mem_sset {l:List Int} {y:Int}:y∈sset l↔y∈l:=by have:=(foldput (l:=l) List.Pairwise.nil).2 y;simpa [sset]using this
theorem srt_ext:∀ {a b:List Int},srt a→srt b→(∀ y,y∈a↔y∈b)→a=b
 |[],[],_,_,_=>rfl
 |[],y::b,_,_,h=>by have:=(h y).mpr (by simp);simp at this
 |x::a,[],_,_,h=>by have:=(h x).mp (by simp);simp at this
 | x::a,y::b,ha,hb,h=>by
   obtain⟨ha1,ha2⟩:=List.pairwise_cons.mp ha
   obtain⟨hb1,hb2⟩:=List.pairwise_cons.mp hb
   have hxy:x=y:=by
    rcases List.mem_cons.mp ((h x).mp (by simp))with e|hx
    · exact e
    · rcases List.mem_cons.mp ((h y).mpr (by simp))with e|hy
      · exact e.symm
      · have:=ha1 y hy;have:=hb1 x hx;omega
   subst hxy
   congr 1
   refine srt_ext ha2 hb2 fun z=>⟨fun hz=>?_,fun hz=>?_⟩
   · rcases List.mem_cons.mp ((h z).mp (by simp[hz]))with e|h'
     · have:=ha1 z hz;omega
     · exact h'
   · rcases List.mem_cons.mp ((h z).mpr (by simp[hz]))with e|h'
     · have:=hb1 z hz;omega
     · exact h'
theorem sset_of {a l:List Int} (h1:srt a) (h2:∀ y,y∈a↔y∈l):a=sset l:=srt_ext h1 (srt_sset l) fun y=>by rw[h2,mem_sset]
theorem foldput_sset {l m:List Int}:(sset m).foldl ins (sset l)=sset (l++m):=by
 obtain⟨h1,h2⟩:=foldput (l:=sset m) (srt_sset l)
 exact sset_of h1 fun y=>by rw[h2,mem_sset,mem_sset,List.mem_append]
theorem sset_snoc {l:List Int} {x:Int}:ins (sset l) x=sset (l++[x]):=by unfold sset;rw[List.foldl_append];rfl
theorem put_len (l:List Int) (x:Int):(ins l x).length≤l.length+1:=by
 induction l with
 |nil=>simp[ins]
 |cons a l ih=>unfold ins;split;simp;omega;split<;>simp
theorem srt_range {l:List Int} {a:Int}:∀ {n:Nat},srt l→(∀ y∈l,a≤y∧y<a+n)→l.length≤n:=by
 induction l generalizing a with
 |nil=>intro n _ _;simp
 | cons x l ih=>
   intro n h hr
   obtain⟨h1,h2⟩:=List.pairwise_cons.mp h
   have hx:=hr x (by simp)
   have:=ih (a:=x+1) (n:=(a+n - (x+1)).toNat) h2 fun y hy=>by
    have:=h1 y hy;have:=hr y (by simp[hy]);omega
   simp only[List.length_cons];omega
theorem put_eq (l:List Int) (x:Int):ins l x=if h:firstAt (fun a=>!decide (a<x)) l<l.length then(if l[firstAt (fun a=>!decide (a<x)) l]=x then l else l.take (firstAt (fun a=>!decide (a<x)) l)++x::l.drop (firstAt (fun a=>!decide (a<x)) l))else l++[x]:=by
 induction l with
 |nil=>simp[ins,firstAt]
 | cons a l ih=>
   unfold ins
   by_cases ha:a<x
   · have e:firstAt (fun a=>!decide (a<x)) (a::l)=firstAt (fun a=>!decide (a<x)) l+1:=by simp[firstAt,ha]
     rw[if_pos ha,ih]
     by_cases hf:firstAt (fun a=>!decide (a<x)) l<l.length
     · rw[dif_pos hf,dif_pos (by rw[e];simpa using hf)]
       simp only[e,List.getElem_cons_succ,List.take_succ_cons,List.drop_succ_cons]
       split
       · rfl
       · rfl
     · rw[dif_neg hf,dif_neg (by rw[e];simpa using hf)]
       rfl
   · have e:firstAt (fun a=>!decide (a<x)) (a::l)=0:=by simp[firstAt,ha]
     rw[if_neg ha,dif_pos (by rw[e];simp)]
     simp only[e,List.getElem_cons_zero,List.take_zero,List.drop_zero,List.nil_append]
theorem g_sl4Put {l:List Int} {x:Int} (hl:l.length≤1073741824):G_sl4Put l x (ins l x):=M_sl4Put _ _ _ (by
 unfold S_sl4Put
 have fin:∀(k:Nat),k≤l.length→((0≤(k:Int)∧(k:Int)≤(List.length l:Int)∧(List.length l:Int)≤(List.length l:Int))∧(([x]:List Int).length+(List.drop (Int.toNat (k:Int)) (List.take (Int.toNat (List.length l:Int)) l)).length≤maxL∧((0≤(0:Int)∧(0:Int)≤(k:Int)∧(k:Int)≤(List.length l:Int))∧(([]:List Int).length+(List.drop (Int.toNat (0:Int)) (List.take (Int.toNat (k:Int)) l)).length≤maxL∧((([]:List Int)++(List.drop (Int.toNat (0:Int)) (List.take (Int.toNat (k:Int)) l))).length+(([x]:List Int)++(List.drop (Int.toNat (k:Int)) (List.take (Int.toNat (List.length l:Int)) l))).length≤maxL∧(((([]:List Int)++(List.drop (Int.toNat (0:Int)) (List.take (Int.toNat (k:Int)) l)))++(([x]:List Int)++(List.drop (Int.toNat (k:Int)) (List.take (Int.toNat (List.length l:Int)) l))),()):List Int×Unit)=(l.take k++x::l.drop k,()))))) ):=by
  intro k hk
  simp only[Int.toNat_natCast,List.take_length,Int.toNat_zero,List.drop_zero,List.nil_append,List.length_nil,List.length_cons,List.length_append,List.length_take,List.length_drop,maxL,List.cons_append]
  refine⟨⟨by omega,by omega,by omega⟩,by omega,⟨by omega,by omega,by omega⟩,by omega,by omega,trivial⟩
 rw[put_eq]
 refine loop_first l (fun a=>!decide (a<x)) (fun i=>((i:Int),())) (KT:=fun i=>∀ h:i<l.length,∀ r:List Int×Unit,r=(if l[i]=x then l else l.take i++x::l.drop i,())→r=((if h:firstAt (fun a=>!decide (a<x)) l<l.length then(if l[firstAt (fun a=>!decide (a<x)) l]=x then l else l.take (firstAt (fun a=>!decide (a<x)) l)++x::l.drop (firstAt (fun a=>!decide (a<x)) l))else l++[x]),()))
  (KF:=∀ r:List Int×Unit,r=(l++[x],())→r=((if h:firstAt (fun a=>!decide (a<x)) l<l.length then(if l[firstAt (fun a=>!decide (a<x)) l]=x then l else l.take (firstAt (fun a=>!decide (a<x)) l)++x::l.drop (firstAt (fun a=>!decide (a<x)) l))else l++[x]),())) ?_ ?_ ?_ ?_
 · intro i hi X h1 h2
   refine lenI fun hl'=>bcI hi (inI hi ?_)
   simp only
   rw[getI hi,w64_succ (by omega)]
   refine bc_dec (fun h=>h2 (by simpa using h)) (fun h=>?_)
   have h1:=h1 (by simpa using h) hi
   refine lenI fun _=>bcI hi (inI hi (bc_beq (fun he=>h1 _ (by rw[if_pos he])) (fun he=>?_)))
   rw[if_neg he]at h1
   have:=fin i (by omega)
   exact⟨this.1,this.2.1,this.2.2.1,this.2.2.2.1,this.2.2.2.2.1,h1 _ this.2.2.2.2.2⟩
 · intro X h
   refine lenI fun hl'=>bcN (lenI fun _=>bcN ?_)
   have:=fin l.length (by omega)
   refine⟨this.1,this.2.1,this.2.2.1,this.2.2.2.1,this.2.2.2.2.1,h _ (this.2.2.2.2.2.trans (by simp))⟩
 · intro h h' r hr;rw[hr,dif_pos h]
 · intro h r hr;rw[hr,dif_neg (by omega)])
theorem sortI_mem {l:List Int} {y:Int}:y∈sortI l↔y∈l:=by unfold sortI;simp
theorem sortI_sorted (l:List Int):(sortI l).Pairwise (·≤·):=by
 unfold sortI
 have:=List.pairwise_mergeSort (le:=fun a b:Int=>decide (a≤b)) (fun a b c h1 h2=>by simp at *;omega) (fun a b=>by simp;omega) l
 exact this.imp fun h=>by simpa using h
theorem comp_sort (l:List Int):compI (sortI l)=sset l:=by
 have hs:=sortI_sorted l
 have hget:∀ i j (hi:i<(sortI l).length) (hj:j<(sortI l).length),i≤j→(sortI l)[i]≤(sortI l)[j]:=by
  intro i j hi hj h
  rcases Nat.lt_or_ge i j with h|h
  · exact List.pairwise_iff_getElem.mp hs i j hi hj h
  · have:i=j:=by omega
    subst this;omega
 have ex:compI (sortI l)=((List.range (sortI l).length).filter (Lib.keeps (sortI l).toArray)).map ((sortI l).toArray[·]!):=rfl
 refine sset_of ?_ ?_
 · rw[ex]
   unfold srt
   rw[List.pairwise_map,List.pairwise_filter]
   refine List.Pairwise.imp_of_mem (R:=(· < ·)) ?_ List.pairwise_lt_range
   intro i j hi hj hij _ kj
   have hi:=List.mem_range.mp hi;have hj:=List.mem_range.mp hj
   have e1:(sortI l).toArray[i]! = (sortI l)[i]:=by simp[hi]
   have e2:(sortI l).toArray[j]! = (sortI l)[j]:=by simp[hj]
   have e3:(sortI l).toArray[j - 1]! = (sortI l)[j - 1]'(by omega):=by rw[getElem!_pos (sortI l).toArray (j - 1) (by simp;omega)];rfl
   rw[e1,e2]
   unfold Lib.keeps at kj
   rw[e2,e3]at kj
   have h1:=hget i (j - 1) hi (by omega) (by omega)
   have h2:=hget (j - 1) j (by omega) hj (by omega)
   rcases of_decide_eq_true kj with h|h
   · omega
   · omega
 · intro y
   rw[ex,List.mem_map]
   constructor
   · rintro⟨j,hj,rfl⟩
     have hj:=List.mem_range.mp (List.mem_filter.mp hj).1
     have e:(sortI l).toArray[j]! = (sortI l)[j]:=by simp[hj]
     rw[e,←sortI_mem];exact List.getElem_mem hj
   · intro hy
     rw[←sortI_mem]at hy
     have hf:firstAt (fun t=>t == y) (sortI l)<(sortI l).length:=firstAt_any.mpr (List.any_eq_true.mpr ⟨y,hy,by simp⟩)
     have h2:=firstAt_at hf
     have h3:(sortI l)[firstAt (fun t=>t == y) (sortI l)]=y:=by simpa using h2
     refine⟨firstAt (fun t=>t == y) (sortI l),List.mem_filter.mpr ⟨List.mem_range.mpr hf,?_⟩,by simp[hf,h3]⟩
     unfold Lib.keeps
     rw[decide_eq_true_iff]
     by_cases h0:firstAt (fun t=>t == y) (sortI l)=0
     · exact .inl h0
     · right
       have hlt:firstAt (fun t=>t == y) (sortI l) - 1<(sortI l).length:=by omega
       have h4:=firstAt_lt (p:=fun t=>t == y) (l:=sortI l) hlt (by omega)
       have e1:(sortI l).toArray[firstAt (fun t=>t == y) (sortI l)]! = y:=by simp[hf,h3]
       have e2:(sortI l).toArray[firstAt (fun t=>t == y) (sortI l) - 1]! = (sortI l)[firstAt (fun t=>t == y) (sortI l) - 1]:=by simp[hlt]
       rw[e1,e2]
       intro e
       rw[←e]at h4;simp at h4
def inR (x a b:Int):Bool:=decide (a≤x)&&decide (x≤b)
theorem any_not {α:Type} {p:α→Bool} {l:List α}:(l.any fun t=>!p t) = !(l.all p):=by
 induction l with
 |nil=>rfl
 |cons a l ih=>simp only[List.any_cons,List.all_cons,ih];cases p a<;>simp
theorem nt {b:Bool} (h:(!b)=true):b=false:=by simpa using h
theorem nf {b:Bool} (h:(!b)=false):b=true:=by simpa using h
theorem flat_split {α β:Type} (f:α→List β) {l:List α} {i:Nat} (h:i<l.length):(l.flatMap f).length=((l.take i).flatMap f).length+((f l[i]).length+((l.drop (i+1)).flatMap f).length):=by
 have e:l=l.take i++l[i]::l.drop (i+1):=by rw[←drop_cons h,List.take_append_drop]
 have:=congrArg (fun m=>(m.flatMap f).length) e
 simp only[List.flatMap_append,List.flatMap_cons,List.length_append]at this
 exact this
theorem inR_iff {x a b:Int}:inR x a b=true↔a≤x∧x≤b:=by simp[inR]
theorem bl_tri:∀ {a b:List UInt8},(Op.bytesLess b a||b == a) = !(Op.bytesLess a b)
 |[],[]=>by decide
 |[],y::b=>by simp[Op.bytesLess]
 |x::a,[]=>by simp[Op.bytesLess]
 | x::a,y::b=>by
   have ih:=bl_tri (a:=a) (b:=b)
   simp only[Op.bytesLess]
   by_cases h:y<x
   · have h2:¬ x<y:=UInt8.lt_asymm h
     have h3:¬ x=y:=by rintro rfl;exact UInt8.lt_irrefl _ h
     simp[h,h2,h3]
   · by_cases h2:x<y
     · have h3:¬ y=x:=by rintro rfl;exact h h2
       simp[h,h2,h3]
     · have h3:x=y:=UInt8.le_antisymm (UInt8.not_lt.mp h) (UInt8.not_lt.mp h2)
       subst h3
       simp only[h,decide_false,beq_self_eq_true,Bool.true_and,Bool.false_or]
       rw[←ih]
       by_cases h4:b=a<;>simp[h4]
def vRel (r:TRel):Bool:=(r.1.length == 1)&&decide (97≤(r.1.getD 0 0).toNat)&&decide ((r.1.getD 0 0).toNat≤122)&&inR r.2.1 1 3
def relAt (l:List TRel) (i:Nat):TRel:=l.getD i zRel
def vRels (l:List TRel):Bool:=((List.range l.length).all fun i=>vRel (relAt l i)&&(i == 0||Op.bytesLess (relAt l (i - 1)).1 (relAt l i).1))&&decide (l.length≤6)
theorem relAt_get {l:List TRel} {i:Nat} (h:i<l.length):relAt l i=l[i]:=getD_at h
theorem vRels_mem {l:List TRel} (h:vRels l=true) {r:TRel} (hr:r∈l):vRel r=true:=by
 unfold vRels at h
 rw[Bool.and_eq_true]at h
 obtain⟨i,hi,rfl⟩:=List.mem_iff_getElem.mp hr
 have:=List.all_eq_true.mp h.1 i (List.mem_range.mpr hi)
 rw[Bool.and_eq_true,relAt_get hi]at this
 exact this.1
theorem vRel_arity {r:TRel} (h:vRel r=true):1≤r.2.1∧r.2.1≤3:=by
 unfold vRel at h;simp[inR]at h;exact h.2
def arity (l:List TRel) (i:Int):Int:=(l.getD (Int.toNat i) zRel).2.1
def srcAt (l:List TRel) (i:Int):Bool:=(l.getD (Int.toNat i) zRel).2.2.1
def vRow (ok:Int→Bool) (l:List TRel) (a:TFact):Bool:=vRels l&&inR a.1 0 ((l.length:Int) - 1)&&((a.2.1.length:Int) == arity l a.1)&&a.2.1.all ok
theorem vRow_spec {ok:Int→Bool} {l:List TRel} {a:TFact} (h:vRow ok l a=true):vRels l=true∧0≤a.1∧a.1<l.length∧(a.2.1.length:Int)=arity l a.1∧a.2.1.length≤3∧∀ v∈a.2.1,ok v=true:=by
 unfold vRow at h
 simp only[Bool.and_eq_true,beq_iff_eq,List.all_eq_true]at h
 obtain⟨⟨⟨h1,h2⟩,h3⟩,h4⟩:=h
 have h2:=inR_iff.mp h2
 have hlt:a.1.toNat<l.length:=by omega
 have:=vRel_arity (vRels_mem h1 (List.getElem_mem hlt))
 have e:arity l a.1=l[a.1.toNat].2.1:=by unfold arity;rw[getD_at hlt]
 exact⟨h1,h2.1,by omega,h3,by omega,h4⟩
theorem g_sl1In {x a b:Int}:G_sl1In x a b (inR x a b):=M_sl1In _ _ _ _ (by
 unfold S_sl1In inR
 refine bc_dec (fun h=>?_) (fun h=>?_)
 · rw[decide_eq_true (show a≤x from h),Bool.true_and]
 · rw[decide_eq_false (show ¬ a≤x from h),Bool.false_and])
theorem g_iwithin {x a b:Int}:G_iwithin x a b (inR x a b):=M_iwithin _ _ _ _ (by
 unfold S_iwithin inR
 refine bc_dec (fun h=>?_) (fun h=>?_)
 · rw[decide_eq_true h,Bool.true_and]
 · rw[decide_eq_false h,Bool.false_and])
theorem g_sIsValidRelation {r:TRel}:G_sIsValidRelation r (vRel r):=M_sIsValidRelation _ _ (by
 unfold S_sIsValidRelation
 have no:∀ {b:Bool},vRel r=b→((b,()):Bool×Unit)=(vRel r,()):=fun h=>by rw[h]
 refine lenI fun _=>bc_beq (fun h=>?_) (fun h=>no ?_)
 · have h1:r.1.length=1:=by omega
   refine⟨⟨by omega,by omega⟩,?_⟩
   refine bc_dec (fun h2=>⟨⟨by omega,by omega⟩,bc_dec (fun h3=>⟨_,g_sl1In,no ?_⟩) (fun h3=>no ?_)⟩) (fun h2=>no ?_)
   · unfold vRel
     have a1:decide (97≤(r.1.getD 0 0).toNat)=true:=decide_eq_true (by have h2:(97:Int)≤((r.1.getD 0 0).toNat:Int):=h2;omega)
     have a2:decide ((r.1.getD 0 0).toNat≤122)=true:=decide_eq_true (by have h3:((r.1.getD 0 0).toNat:Int)≤122:=h3;omega)
     rw[a1,a2];simp[h1]
   · unfold vRel
     have a2:decide ((r.1.getD 0 0).toNat≤122)=false:=decide_eq_false (by have h3:¬ ((r.1.getD 0 0).toNat:Int)≤122:=h3;omega)
     rw[a2];simp
   · unfold vRel
     have a1:decide (97≤(r.1.getD 0 0).toNat)=false:=decide_eq_false (by have h2:¬ (97:Int)≤((r.1.getD 0 0).toNat:Int):=h2;omega)
     rw[a1];simp
 · unfold vRel
   have:(r.1.length == 1)=false:=by simp;omega
   rw[this];simp)
theorem vRels_no {l:List TRel} {i:Nat} (h:i<l.length) (hp:(vRel (relAt l i)&&(i == 0||Op.bytesLess (relAt l (i - 1)).1 (relAt l i).1))=false):vRels l=false:=by
 unfold vRels
 rw[Bool.and_eq_false_iff];left
 rw[Bool.eq_false_iff];intro hall
 have:=List.all_eq_true.mp hall i (List.mem_range.mpr h)
 rw[hp]at this;cases this
theorem vRels_yes {l:List TRel} (hp:∀ i,i<l.length→(!(vRel (relAt l i)&&(i == 0||Op.bytesLess (relAt l (i - 1)).1 (relAt l i).1)))=false):vRels l=decide (l.length≤6):=by
 unfold vRels
 have:((List.range l.length).all fun i=>vRel (relAt l i)&&(i == 0||Op.bytesLess (relAt l (i - 1)).1 (relAt l i).1))=true:=
  List.all_eq_true.mpr fun i hi=>by have:=hp i (List.mem_range.mp hi);rwa [Bool.not_eq_false']at this
 rw[this,Bool.true_and]
theorem g_sAreValidRelations {l:List TRel}:G_sAreValidRelations l (vRels l):=M_sAreValidRelations _ _ (by
 unfold S_sAreValidRelations
 refine loop_anyI l.length (fun i=>!(vRel (relAt l i)&&(i == 0||Op.bytesLess (relAt l (i - 1)).1 (relAt l i).1))) (fun i=>((i:Int),())) (KT:=((false,()):Bool×Unit)=(vRels l,())) (KF:=((decide ((List.length l:Int)≤6),()):Bool×Unit)=(vRels l,())) ?_ (fun X h=>lenI fun _=>bcN (lenI fun _=>h)) ?_ ?_
 · intro i hi X hb h1 h2
   refine lenI fun hl=>bcI hi (inI hi ⟨_,g_sIsValidRelation,?_⟩)
   simp only
   rw[getI hi,w64_succ (by omega)]
   rw[relAt_get hi]at h1 h2
   refine bc_not (fun h=>h1 (by simp[h])) (fun h=>bc_dec (fun h0=>?_) (fun h0=>h2 (by obtain rfl:i=0:=(by omega);simp[h])))
   have hi':i - 1<l.length:=by omega
   have hw:w64 ((i:Int) - 1)=((i - 1:Nat):Int):=by rw[w64_id (by omega) (by omega)];omega
   rw[hw]
   refine inI hi' (inI hi ?_)
   rw[getI hi']
   rw[relAt_get hi']at h1 h2
   have hz:(i == 0)=false:=by simp;omega
   rw[hz,Bool.false_or,h,Bool.true_and]at h1 h2
   exact bc_if (fun h=>h1 h) (fun h=>h2 h)
 · rintro⟨i,hi,hp⟩
   rw[vRels_no hi (by rwa [Bool.not_eq_true']at hp)]
 · intro hp
   rw[vRels_yes hp]
   congr 1
   exact decide_eq_decide.mpr (by omega))
theorem g_iIsValidRelation {r:TRel}:G_iIsValidRelation r (vRel r):=M_iIsValidRelation _ _ (by
 unfold S_iIsValidRelation
 have no:∀ {b:Bool},vRel r=b→((b,()):Bool×Unit)=(vRel r,()):=fun h=>by rw[h]
 refine lenI fun _=>bc_beq (fun h=>?_) (fun h=>no ?_)
 · have h1:r.1.length=1:=by omega
   obtain⟨c,hc⟩:∃ c,r.1=[c]:=List.length_eq_one_iff.mp h1
   rw[hc]
   have e1:(!(Op.bytesLess [c] [97]))=decide (97≤c.toNat):=by
    simp only[Op.bytesLess,Bool.and_false,Bool.or_false]
    by_cases h:c<97
    · have:c.toNat<97:=h
      simp[h];omega
    · have:¬ c.toNat<97:=h
      simp[h];omega
   have e2:(Op.bytesLess [c] [122]||[c] == [122])=decide (c.toNat≤122):=by
    simp only[Op.bytesLess,Bool.and_false,Bool.or_false]
    by_cases h:c<122
    · have:c.toNat<122:=h
      simp[h];omega
    · have:¬ c.toNat<122:=h
      by_cases h2:c=122
      · subst h2;simp
      · have h3:c.toNat≠122:=fun e=>h2 (UInt8.toNat_inj.mp e)
        have d2:([c] == [(122:UInt8)])=false:=by simp[h2]
        rw[decide_eq_false h,d2,decide_eq_false (by omega)];rfl
   rw[e1,e2]
   refine bc_dec (fun h2=>bc_dec (fun h3=>⟨_,g_iwithin,no ?_⟩) (fun h3=>no ?_)) (fun h2=>no ?_)
   · unfold vRel;rw[hc];simp[h2,h3]
   · unfold vRel;rw[hc]
     show((1 == 1)&&decide (97≤c.toNat)&&decide (c.toNat≤122)&&inR r.2.1 1 3)=false
     rw[decide_eq_false h3];simp
   · unfold vRel;rw[hc]
     show((1 == 1)&&decide (97≤c.toNat)&&decide (c.toNat≤122)&&inR r.2.1 1 3)=false
     rw[decide_eq_false h2];simp
 · unfold vRel
   have:(r.1.length == 1)=false:=by simp;omega
   rw[this];simp)
theorem g_iAreValidRelations {l:List TRel}:G_iAreValidRelations l (vRels l):=M_iAreValidRelations _ _ (by
 unfold S_iAreValidRelations
 refine lenI fun hl=>loop_anyI l.length (fun i=>!(vRel (relAt l i)&&(i == 0||Op.bytesLess (relAt l (i - 1)).1 (relAt l i).1))) (fun i=>((i:Int),())) (KT:=((false,()):Bool×Unit)=(vRels l,())) (KF:=((decide ((List.length l:Int)≤6),()):Bool×Unit)=(vRels l,())) ?_ (fun X h=>bcN (lenI fun _=>h)) ?_ ?_
 · intro i hi X hb h1 h2
   refine bcI hi (inI hi ⟨_,g_iIsValidRelation,?_⟩)
   simp only
   rw[getI hi,w64_succ (by omega)]
   rw[relAt_get hi]at h1 h2
   refine bc_not (fun h=>h1 (by simp[h])) (fun h=>bc_dec (fun h0=>?_) (fun h0=>h2 (by obtain rfl:i=0:=(by omega);simp[h])))
   have hi':i - 1<l.length:=by omega
   have hw:w64 ((i:Int) - 1)=((i - 1:Nat):Int):=by rw[w64_id (by omega) (by omega)];omega
   rw[hw]
   refine inI hi' ?_
   rw[getI hi']
   rw[relAt_get hi']at h1 h2
   have hz:(i == 0)=false:=by simp;omega
   rw[hz,Bool.false_or,h,Bool.true_and]at h1 h2
   rw[bl_tri]
   exact bc_if (fun h=>h1 h) (fun h=>h2 h)
 · rintro⟨i,hi,hp⟩
   rw[vRels_no hi (by rwa [Bool.not_eq_true']at hp)]
 · intro hp
   rw[vRels_yes hp]
   congr 1
   exact decide_eq_decide.mpr (by omega))
theorem row_start {l:List TRel} {a:TFact} (h:inR a.1 0 (w64 ((l.length:Int) - 1))=true) (hl:(l.length:Int)≤9223372036854775807):0≤a.1∧a.1<(l.length:Int):=by
 have:=inR_iff.mp h
 rw[w64_id (by omega) (by omega)]at this
 omega
theorem row_range {l:List TRel} {a:TFact} (hl:(l.length:Int)≤9223372036854775807):inR a.1 0 (w64 ((l.length:Int) - 1))=inR a.1 0 ((l.length:Int) - 1):=by
 rw[w64_id (by omega) (by omega)]
theorem row_no1 {ok:Int→Bool} {l:List TRel} {a:TFact} (h:vRels l=false):((false,()):Bool×Unit)=(vRow ok l a,()):=by unfold vRow;rw[h];simp
theorem row_no2 {ok:Int→Bool} {l:List TRel} {a:TFact} (hl:(l.length:Int)≤9223372036854775807) (h:inR a.1 0 (w64 ((l.length:Int) - 1))=false):((false,()):Bool×Unit)=(vRow ok l a,()):=by
 rw[row_range hl]at h;unfold vRow;rw[h];simp
theorem row_no3 {ok:Int→Bool} {l:List TRel} {a:TFact} (h:(a.2.1.length:Int)≠(l.getD (Int.toNat a.1) zRel).2.1):((false,()):Bool×Unit)=(vRow ok l a,()):=by
 have:((a.2.1.length:Int) == arity l a.1)=false:=by simpa [arity]using h
 unfold vRow;rw[this];simp
theorem row_yes {ok:Int→Bool} {l:List TRel} {a:TFact} {b:Bool} (hl:(l.length:Int)≤9223372036854775807) (h1:vRels l=true) (h2:inR a.1 0 (w64 ((l.length:Int) - 1))=true) (h3:(a.2.1.length:Int)=(l.getD (Int.toNat a.1) zRel).2.1) (hb:b=a.2.1.all ok):((b,()):Bool×Unit)=(vRow ok l a,()):=by
 rw[row_range hl]at h2
 have:((a.2.1.length:Int) == arity l a.1)=true:=by simpa [arity]using h3
 unfold vRow;rw[h1,h2,this,hb];simp
def isNul (v:Int):Bool:=inR v (-40) (-1)
def nulNo (v:Int):Int:=if isNul v then -1 - v else 0
def vVal (v:Int):Bool:=inR v (-40) 9
def nulls (l:List Int):List Int:=(l.filter isNul).map (fun v=>-1 - v)
def nulF (f:TFact):List Int:=sset (nulls f.2.1)
def nulI (x:TInst):List Int:=sset (x.2.1.flatMap fun f=>nulls f.2.1)
def vFact (l:List TRel) (f:TFact):Bool:=vRow vVal l f
def factAt (l:List TFact) (i:Nat):TFact:=l.getD i zFact
def factOk (x:TInst) (i:Nat):Bool:=vFact x.1 (factAt x.2.1 i)&&(i == 0||decide (cmpF (factAt x.2.1 (i - 1)) (factAt x.2.1 i)<0)) && !(srcAt x.1 (factAt x.2.1 i).1&&(nulF (factAt x.2.1 i)).length != 0)
def vInst (x:TInst):Bool:=vRels x.1&&decide (x.2.1.length≤30)&&(List.range x.2.1.length).all (factOk x)
theorem isNul_iff {v:Int}:isNul v=true↔-40≤v∧v≤-1:=inR_iff
theorem mem_nulls {l:List Int} {k:Int}:k∈nulls l↔0≤k∧k<40∧(-1 - k)∈l:=by
 unfold nulls
 rw[List.mem_map]
 constructor
 · rintro⟨v,hv,rfl⟩
   obtain⟨h1,h2⟩:=List.mem_filter.mp hv
   have:=isNul_iff.mp h2
   exact ⟨by omega, by omega, by have e : -1 - (-1 - v)=v:=by omega
                                 rw[e];exact h1⟩
 · rintro⟨h1,h2,h3⟩
   exact⟨-1 - k,List.mem_filter.mpr ⟨h3,isNul_iff.mpr ⟨by omega,by omega⟩⟩,by omega⟩
theorem nulls_append (l m:List Int):nulls (l++m)=nulls l++nulls m:=by unfold nulls;rw[List.filter_append,List.map_append]
theorem nulls_flat (l:List TFact):nulls (l.flatMap (·.2.1))=l.flatMap fun f=>nulls f.2.1:=by
 induction l with
 |nil=>rfl
 |cons a l ih=>simp only[List.flatMap_cons];rw[nulls_append,ih]
theorem nulls_range {l:List Int}:∀ k∈sset (nulls l),0≤k∧k<0+(40:Nat):=fun k hk=>by
 have:=mem_nulls.mp (mem_sset.mp hk);omega
theorem nulls_few {l:List Int}:(sset (nulls l)).length≤40:=srt_range (srt_sset _) nulls_range
theorem nulI_few (x:TInst):(nulI x).length≤40:=by unfold nulI;rw[←nulls_flat];exact nulls_few
theorem nulls_len (l:List Int):(nulls l).length≤l.length:=by unfold nulls;rw[List.length_map];exact List.length_filter_le _ _
theorem factAt_get {l:List TFact} {i:Nat} (h:i<l.length):factAt l i=l[i]:=getD_at h
theorem vInst_fact {x:TInst} (h:vInst x=true) {f:TFact} (hf:f∈x.2.1):vFact x.1 f=true:=by
 unfold vInst at h
 rw[Bool.and_eq_true]at h
 obtain⟨i,hi,rfl⟩:=List.mem_iff_getElem.mp hf
 have:=List.all_eq_true.mp h.2 i (List.mem_range.mpr hi)
 unfold factOk at this
 rw[Bool.and_eq_true,Bool.and_eq_true,factAt_get hi]at this
 exact this.1.1
theorem vInst_len {x:TInst} (h:vInst x=true):x.2.1.length≤30:=by unfold vInst at h;simp at h;exact h.1.2
theorem vInst_no {x:TInst} {i:Nat} (hi:i<x.2.1.length) (h:factOk x i=false):vInst x=false:=by
 unfold vInst
 have:(List.range x.2.1.length).all (factOk x)=false:=by
  rw[Bool.eq_false_iff];intro hall
  have:=List.all_eq_true.mp hall i (List.mem_range.mpr hi);rw[h]at this;cases this
 rw[this];simp
theorem vInst_yes {x:TInst} (h1:∀ i,i<x.2.1.length→factOk x i=true):vInst x=(vRels x.1&&decide (x.2.1.length≤30)):=by
 unfold vInst
 rw[List.all_eq_true.mpr fun i hi=>h1 i (List.mem_range.mp hi)];simp
theorem g_sNullNumber {v:Int}:G_sNullNumber v (nulNo v) (isNul v):=R_sNullNumber fun hb=>M_sNullNumber _ _ _ (by
 have hb : -9223372036854775808≤v∧v≤9223372036854775807:=hb
 unfold S_sNullNumber
 have no:isNul v=false→(((0:Int),(false,())):Int×Bool×Unit)=(nulNo v,(isNul v,())):=fun h=>by unfold nulNo;rw[h];rfl
 refine bc_dec (fun h=>no ?_) (fun h=>⟨_,g_sl1In,?_⟩)
 · rw[Bool.eq_false_iff];intro h';have:=isNul_iff.mp h';omega
 · rw[w64_id (by omega) (by omega)]
   refine bc_not (fun h2=>no ?_) (fun h2=>?_)
   · rw[Bool.eq_false_iff]at h2 ⊢;intro h';have:=isNul_iff.mp h';exact h2 (inR_iff.mpr ⟨by omega,by omega⟩)
   · have:=inR_iff.mp h2
     have e:isNul v=true:=isNul_iff.mpr ⟨by omega,by omega⟩
     unfold nulNo;rw[e];rfl)
theorem g_iNullNumber {v:Int}:G_iNullNumber v (nulNo v) (isNul v):=R_iNullNumber fun hb=>M_iNullNumber _ _ _ (by
 have hb : -9223372036854775808≤v∧v≤9223372036854775807:=hb
 unfold S_iNullNumber
 have no:isNul v=false→(((0:Int),(false,())):Int×Bool×Unit)=(nulNo v,(isNul v,())):=fun h=>by unfold nulNo;rw[h];rfl
 rw[w64_id (by omega) (by omega)]
 refine⟨_,g_iwithin,bc_not (fun h2=>no ?_) (fun h2=>?_)⟩
 · rw[Bool.eq_false_iff]at h2 ⊢;intro h';have:=isNul_iff.mp h';exact h2 (inR_iff.mpr ⟨by omega,by omega⟩)
 · have:=inR_iff.mp h2
   have e:isNul v=true:=isNul_iff.mpr ⟨by omega,by omega⟩
   unfold nulNo;rw[e];rfl)
theorem g_sIsValidValue {v:Int}:G_sIsValidValue v (vVal v):=M_sIsValidValue _ _ (by
 unfold S_sIsValidValue
 refine⟨_,_,g_sNullNumber,bc_if (fun h=>?_) (fun h=>⟨_,g_sl1In,?_⟩)⟩
 · have:=isNul_iff.mp h
   have e:vVal v=true:=inR_iff.mpr ⟨by omega,by omega⟩
   rw[e]
 · have:inR v 0 9=vVal v:=by
    rw[Bool.eq_iff_iff]
    unfold vVal
    rw[inR_iff,inR_iff]
    constructor
    · omega
    · intro h'
      refine⟨?_,h'.2⟩
      rcases Int.lt_or_le v 0 with h0|h0
      · rw[isNul_iff.mpr ⟨by omega,by omega⟩]at h;cases h
      · exact h0
   rw[this])
theorem g_iIsValidValue {v:Int}:G_iIsValidValue v (vVal v):=M_iIsValidValue _ _ (by unfold S_iIsValidValue;exact⟨_,g_iwithin,rfl⟩)
theorem g_sNullsOfFact {f:TFact}:G_sNullsOfFact f (nulF f):=M_sNullsOfFact _ _ (by
 unfold S_sNullsOfFact
 refine loopP_of f.2.1.length (fun i=>((i:Int),(sset (nulls (f.2.1.take i)),()))) (by simp[nulls,sset]) ?_ ?_
 · intro i hi X hX
   refine lenI fun _=>bcI hi (inI hi ⟨_,_,g_sNullNumber,?_⟩)
   simp only
   rw[getI hi,w64_succ (by omega)]
   have e:nulls (f.2.1.take (i+1))=nulls (f.2.1.take i)++(if isNul f.2.1[i] then[-1 - f.2.1[i]] else[]):=by
    rw[take_succ_snoc hi,nulls_append];congr 1
    unfold nulls
    cases h:isNul f.2.1[i]<;>simp[h]
   rw[e]at hX
   have hf:=nulls_few (l:=f.2.1.take i)
   refine bc_if (fun h=>⟨_,g_sl4Put (by omega),?_⟩) (fun h=>?_)
   · rw[if_pos h]at hX
     have:nulNo f.2.1[i] = -1 - f.2.1[i]:=by unfold nulNo;rw[if_pos h]
     rw[this,sset_snoc];exact hX
   · rw[if_neg (by rw[h];simp),List.append_nil]at hX;exact hX
 · intro X
   refine lenI fun _=>bcN ?_
   simp only[List.take_length]
   rfl)
theorem g_inullsOf {l:List Int} (hl:l.length≤1073741824):G_inullsOf l (sset (nulls l)):=M_inullsOf _ _ (by
 unfold S_inullsOf
 refine lenI fun _=>loopP_of l.length (fun i=>((i:Int),(nulls (l.take i),()))) (by simp[nulls]) ?_ ?_
 · intro i hi X hX
   refine bcI hi (inI hi ⟨_,_,g_iNullNumber,?_⟩)
   simp only
   rw[getI hi,w64_succ (by omega)]
   have e:nulls (l.take (i+1))=nulls (l.take i)++(if isNul l[i] then[-1 - l[i]] else[]):=by
    rw[take_succ_snoc hi,nulls_append];congr 1
    unfold nulls
    cases h:isNul l[i]<;>simp[h]
   rw[e]at hX
   have hb:=nulls_len (l.take i)
   rw[List.length_take]at hb
   refine bc_if (fun h=>⟨by simp only[maxL,List.length_cons,List.length_nil];omega,?_⟩) (fun h=>?_)
   · rw[if_pos h]at hX
     have:nulNo l[i] = -1 - l[i]:=by unfold nulNo;rw[if_pos h]
     rw[this];exact hX
   · rw[if_neg (by rw[h];simp),List.append_nil]at hX;exact hX
 · intro X
   refine bcN ⟨_,g_slices_Sort_int_ooz ?_,_,g_slices_Compact_int_ooz,?_⟩
   · simp only[List.take_length];have:=nulls_len l;omega
   · simp only[List.take_length];rw[comp_sort])
theorem g_iNullsOfFact {f:TFact} (h:f.2.1.length≤1073741824):G_iNullsOfFact f (nulF f):=M_iNullsOfFact _ _ (by unfold S_iNullsOfFact;exact⟨_,g_inullsOf h,rfl⟩)
theorem g_sNullsOfInstance {x:TInst}:G_sNullsOfInstance x (nulI x):=M_sNullsOfInstance _ _ (by
 unfold S_sNullsOfInstance
 refine loopP_of x.2.1.length (fun i=>((i:Int),(sset ((x.2.1.take i).flatMap fun f=>nulls f.2.1),()))) (by simp[sset]) ?_ ?_
 · intro i hi X hX
   refine lenI fun _=>bcI hi (inI hi ⟨_,g_sNullsOfFact,?_⟩)
   simp only
   rw[getI hi]
   have hn:(nulF x.2.1[i]).length≤40:=nulls_few
   refine loopP_of (nulF x.2.1[i]).length (fun j=>(((nulF x.2.1[i]).take j).foldl ins (sset ((x.2.1.take i).flatMap fun f=>nulls f.2.1)),((j:Int),()))) (by simp) ?_ ?_
   · intro j hj Y hY
     refine lenI fun _=>bcI hj (inI hj ⟨_,g_sl4Put ?_,?_⟩)
     · have h1:(sset ((x.2.1.take i).flatMap fun f=>nulls f.2.1)).length≤40:=by rw[←nulls_flat];exact nulls_few
       have:∀(l s:List Int),(l.foldl ins s).length≤s.length+l.length:=by
        intro l
        induction l with
        |nil=>intro s;simp
        |cons a l ih=>intro s;have:=ih (ins s a);have:=put_len s a;simp only[List.foldl_cons,List.length_cons];omega
       have:=this ((nulF x.2.1[i]).take j) (sset ((x.2.1.take i).flatMap fun f=>nulls f.2.1))
       rw[List.length_take]at this
       simp only;omega
     · simp only
       rw[getI hj,w64_succ (by omega)]
       rw[take_succ_snoc hj,List.foldl_append]at hY
       exact hY
   · intro Y
     refine lenI fun _=>bcN ?_
     simp only[List.take_length]
     rw[w64_succ (by omega)]
     have:(nulF x.2.1[i]).foldl ins (sset ((x.2.1.take i).flatMap fun f=>nulls f.2.1))=sset ((x.2.1.take (i+1)).flatMap fun f=>nulls f.2.1):=by
      unfold nulF
      rw[foldput_sset,take_succ_snoc hi,List.flatMap_append];simp
     rw[this];exact hX
 · intro X
   refine lenI fun _=>bcN ?_
   simp only[List.take_length]
   rfl)
theorem g_iNullsOfInstance {x:TInst} (hl:(x.2.1.flatMap (·.2.1)).length≤1073741824):G_iNullsOfInstance x (nulI x):=M_iNullsOfInstance _ _ (by
 unfold S_iNullsOfInstance
 refine lenI fun _=>loopP_of x.2.1.length (fun i=>((i:Int),((x.2.1.take i).flatMap (·.2.1),()))) (by simp) ?_ ?_
 · intro i hi X hX
   have hs:=flat_split (fun f:TFact=>f.2.1) hi
   refine bcI hi (inI hi ⟨?_,?_⟩)
   · simp only[maxL];rw[getI hi];omega
   · simp only
     rw[getI hi,w64_succ (by omega)]
     rw[take_succ_snoc hi,List.flatMap_append]at hX
     simpa using hX
 · intro X
   refine bcN ⟨_,g_inullsOf ?_,?_⟩
   · simp only[List.take_length];exact hl
   · simp only[List.take_length]
     rw[nulls_flat];rfl)
theorem g_sIsValidFact {l:List TRel} {a:TFact}:G_sIsValidFact l a (vFact l a):=M_sIsValidFact _ _ _ (by
 unfold S_sIsValidFact vFact
 refine⟨_,g_sAreValidRelations,bc_not (fun h=>row_no1 h) (fun h1=>lenI fun hl=>⟨_,g_sl1In,bc_not (fun h=>row_no2 hl h) (fun h2=>lenI fun hl2=>⟨row_start h2 hl,bc_ne (fun h=>row_no3 h) (fun h3=>?_)⟩)⟩)⟩
 refine loop_any a.2.1 (fun t=>!vVal t) (fun i=>((i:Int),())) (KT:=((false,()):Bool×Unit)=(vRow vVal l a,())) (KF:=((true,()):Bool×Unit)=(vRow vVal l a,())) ?_ (fun X h=>lenI fun _=>bcN h) ?_ ?_
 · intro i hi X q1 q2
   refine lenI fun _=>bcI hi (inI hi ⟨_,g_sIsValidValue,?_⟩)
   simp only
   rw[getI hi,w64_succ (by omega)]
   exact bc_if (fun h=>q1 h) (fun h=>q2 h)
 · intro h;exact row_yes hl h1 h2 h3 (by rw[any_not]at h;exact(nt h).symm)
 · intro h;exact row_yes hl h1 h2 h3 (by rw[any_not]at h;exact(nf h).symm))
theorem g_iIsValidFact_1 {t:Int}:G_iIsValidFact_1 t (!vVal t):=M_iIsValidFact_1 _ _ (by unfold S_iIsValidFact_1;exact⟨_,g_iIsValidValue,rfl⟩)
theorem g_iIsValidFact {l:List TRel} {a:TFact}:G_iIsValidFact l a (vFact l a):=M_iIsValidFact _ _ _ (by
 unfold S_iIsValidFact vFact
 refine⟨_,g_iAreValidRelations,bc_not (fun h=>row_no1 h) (fun h1=>lenI fun hl=>⟨_,g_iwithin,bc_not (fun h=>row_no2 hl h) (fun h2=>lenI fun hl2=>⟨row_start h2 hl,bc_ne (fun h=>row_no3 h) (fun h3=>?_)⟩)⟩)⟩
 exact⟨_,g_slices_ContainsFunc_int_c_iIsValidFact_1 (fun t=>!vVal t) (fun _ _=>g_iIsValidFact_1),row_yes hl h1 h2 h3 (by rw[any_not];simp)⟩)
theorem fact_rel {x:TInst} {f:TFact} (h:vFact x.1 f=true):0≤f.1∧f.1<(x.1.length:Int):=by have:=vRow_spec h;exact⟨this.2.1,this.2.2.1⟩
theorem factOk_split {x:TInst} {i:Nat} (hi:i<x.2.1.length) (h1:vFact x.1 x.2.1[i]=true) (h2:0<i→cmpF (factAt x.2.1 (i - 1)) x.2.1[i]<0):factOk x i = !(srcAt x.1 x.2.1[i].1&&(nulF x.2.1[i]).length != 0):=by
 unfold factOk
 rw[factAt_get hi,h1]
 have:(i == 0||decide (cmpF (factAt x.2.1 (i - 1)) x.2.1[i]<0))=true:=by
  rcases Nat.eq_zero_or_pos i with h|h
  · simp[h]
  · rw[decide_eq_true (h2 h)];simp
 rw[this];rfl
theorem g_sIsValidInstance {x:TInst}:G_sIsValidInstance x (vInst x):=M_sIsValidInstance _ _ (by
 unfold S_sIsValidInstance
 have no:vInst x=false→((false,()):Bool×Unit)=(vInst x,()):=fun h=>by rw[h]
 refine loop_anyI x.2.1.length (fun i=>!factOk x i) (fun i=>((i:Int),())) (KT:=vInst x=false) (KF:=vInst x=(vRels x.1&&decide (x.2.1.length≤30))) ?_ ?_ ?_ ?_
 · intro i hi X hb q1 q2
   have qn:factOk x i=false→((false,()):Bool×Unit)=(vInst x,()):=fun h=>no (q1 (by rw[h];rfl))
   have qy:factOk x i=true→X (((i+1:Nat):Int),()):=fun h=>q2 (by rw[h];rfl)
   refine lenI fun hl=>bcI hi (inI hi ⟨_,g_sIsValidFact,?_⟩)
   simp only
   rw[getI hi,w64_succ (by omega)]
   refine bc_not (fun h=>qn (by unfold factOk;rw[factAt_get hi,h];simp)) (fun hv=>?_)
   have fin:factOk x i = !(srcAt x.1 x.2.1[i].1&&(nulF x.2.1[i]).length != 0)→((0≤x.2.1[i].1∧x.2.1[i].1<(x.1.length:Int))∧(bcase (((x.1.getD (Int.toNat x.2.1[i].1) zRel).2).2).1 (∃ y5:List Int,G_sNullsOfFact x.2.1[i] y5∧(lenA (List.length y5:Int) (bcase (decide ((List.length y5:Int) > (0:Int))) (((false,()):Bool×Unit)=(vInst x,())) (X (((i+1:Nat):Int),()))))) (X (((i+1:Nat):Int),())))):=by
    intro he
    refine⟨fact_rel hv,bc_if (fun hs=>⟨_,g_sNullsOfFact,lenI fun _=>bc_dec (fun h=>qn ?_) (fun h=>qy ?_)⟩) (fun hs=>qy ?_)⟩
    · have hs:srcAt x.1 x.2.1[i].1=true:=hs
      rw[he,hs];simp;intro e;rw[e]at h;simp at h
    · have:(nulF x.2.1[i]).length=0:=by omega
      rw[he,this];simp
    · have hs:srcAt x.1 x.2.1[i].1=false:=hs
      rw[he,hs];rfl
   refine bc_dec (fun h0=>?_) (fun h0=>fin (factOk_split hi hv (fun h=>by omega)))
   have hi':i - 1<x.2.1.length:=by omega
   have hw:w64 ((i:Int) - 1)=((i - 1:Nat):Int):=by rw[w64_id (by omega) (by omega)];omega
   rw[hw]
   refine inI hi' ⟨_,g_sCompareFacts,?_⟩
   rw[getI hi']
   refine bc_dec (fun h=>qn ?_) (fun h=>fin (factOk_split hi hv (fun _=>by rw[factAt_get hi'];omega)))
   unfold factOk
   rw[factAt_get hi,factAt_get hi',decide_eq_false (by omega)]
   have:(i == 0)=false:=by simp;omega
   rw[this];simp
 · intro X h
   refine lenI fun _=>bcN ⟨_,g_sAreValidRelations,bc_if (fun h1=>lenI fun _=>?_) (fun h1=>no (by rw[h,h1];rfl))⟩
   rw[h,h1]
   have:decide ((x.2.1.length:Int)≤30)=decide (x.2.1.length≤30):=decide_eq_decide.mpr (by omega)
   rw[this];rfl
 · rintro⟨i,hi,hp⟩;exact vInst_no hi (nt hp)
 · intro h;exact vInst_yes fun i hi=>nf (h i hi))
theorem g_iIsValidInstance {x:TInst}:G_iIsValidInstance x (vInst x):=M_iIsValidInstance _ _ (by
 unfold S_iIsValidInstance
 have no:vInst x=false→((false,()):Bool×Unit)=(vInst x,()):=fun h=>by rw[h]
 refine⟨_,g_iAreValidRelations,bc_not (fun h=>no (by unfold vInst;rw[h];simp)) (fun hr=>lenI fun _=>bc_dec (fun h=>no (by unfold vInst;rw[decide_eq_false (show ¬ x.2.1.length≤30 by omega)];simp)) (fun hlen=>lenI fun _=>?_))⟩
 refine loop_anyI x.2.1.length (fun i=>!factOk x i) (fun i=>((i:Int),())) (KT:=vInst x=false) (KF:=vInst x=(vRels x.1&&decide (x.2.1.length≤30))) ?_ ?_ ?_ ?_
 · intro i hi X hb q1 q2
   have qn:factOk x i=false→((false,()):Bool×Unit)=(vInst x,()):=fun h=>no (q1 (by rw[h];rfl))
   have qy:factOk x i=true→X (((i+1:Nat):Int),()):=fun h=>q2 (by rw[h];rfl)
   refine bcI hi (inI hi ⟨_,g_iIsValidFact,?_⟩)
   simp only
   rw[getI hi,w64_succ (by omega)]
   refine bc_not (fun h=>qn (by unfold factOk;rw[factAt_get hi,h];simp)) (fun hv=>?_)
   have hvl:=(vRow_spec hv).2.2.2.2.1
   have fin:factOk x i = !(srcAt x.1 x.2.1[i].1&&(nulF x.2.1[i]).length != 0)→((0≤x.2.1[i].1∧x.2.1[i].1<(x.1.length:Int))∧(bcase (((x.1.getD (Int.toNat x.2.1[i].1) zRel).2).2).1 (∃ y5:List Int,G_iNullsOfFact x.2.1[i] y5∧(lenA (List.length y5:Int) (bcase (decide ((List.length y5:Int) > (0:Int))) (((false,()):Bool×Unit)=(vInst x,())) (X (((i+1:Nat):Int),()))))) (X (((i+1:Nat):Int),())))):=by
    intro he
    refine⟨fact_rel hv,bc_if (fun hs=>⟨_,g_iNullsOfFact (by omega),lenI fun _=>bc_dec (fun h=>qn ?_) (fun h=>qy ?_)⟩) (fun hs=>qy ?_)⟩
    · have hs:srcAt x.1 x.2.1[i].1=true:=hs
      rw[he,hs];simp;intro e;rw[e]at h;simp at h
    · have:(nulF x.2.1[i]).length=0:=by omega
      rw[he,this];simp
    · have hs:srcAt x.1 x.2.1[i].1=false:=hs
      rw[he,hs];rfl
   refine bc_dec (fun h0=>?_) (fun h0=>fin (factOk_split hi hv (fun h=>by omega)))
   have hi':i - 1<x.2.1.length:=by omega
   have hw:w64 ((i:Int) - 1)=((i - 1:Nat):Int):=by rw[w64_id (by omega) (by omega)];omega
   rw[hw]
   refine inI hi' ⟨_,g_iCompareFacts,?_⟩
   rw[getI hi']
   refine bc_dec (fun h=>qn ?_) (fun h=>fin (factOk_split hi hv (fun _=>by rw[factAt_get hi'];omega)))
   unfold factOk
   rw[factAt_get hi,factAt_get hi',decide_eq_false (by omega)]
   have:(i == 0)=false:=by simp;omega
   rw[this];simp
 · intro X h
   refine bcN ?_
   rw[h,hr,decide_eq_true (show x.2.1.length≤30 by omega)];rfl
 · rintro⟨i,hi,hp⟩;exact vInst_no hi (nt hp)
 · intro h;exact vInst_yes fun i hi=>nf (h i hi))
theorem vInst_flat {x:TInst} (h:vInst x=true):(x.2.1.flatMap (·.2.1)).length≤90:=by
 have h1:=vInst_len h
 have:∀ l:List TFact,(∀ f∈l,vFact x.1 f=true)→(l.flatMap (·.2.1)).length≤3 * l.length:=by
  intro l
  induction l with
  |nil=>intro _;simp
  | cons a l ih=>
    intro hl
    have h1:=(vRow_spec (hl a (by simp))).2.2.2.2.1
    have:=ih fun f hf=>hl f (by simp[hf])
    simp only[List.flatMap_cons,List.length_append,List.length_cons];omega
 have:=this x.2.1 fun f hf=>vInst_fact h hf
 omega
theorem getD_set {α:Type} {l:List α} {i j:Nat} {x d:α} (h:i<l.length):(l.set i x).getD j d=if j=i then x else l.getD j d:=by
 by_cases hj:j<l.length
 · rw[getD_at (by simpa using hj),getD_at hj,List.getElem_set]
   by_cases hij:i=j
   · subst hij;simp
   · rw[if_neg hij,if_neg (Ne.symm hij)]
 · have:j≠i:=by omega
   rw[if_neg this,List.getD_eq_getElem?_getD,List.getD_eq_getElem?_getD,List.getElem?_eq_none (by simpa using hj),List.getElem?_eq_none (by omega)]
def place (l:List TFact) (f:TFact):Int:=if firstAt (fun x=>decide (x=f)) l<l.length then(firstAt (fun x=>decide (x=f)) l:Int)else -1
theorem cmpL_trans:∀ {x y z:List Int},cmpL x y<0→cmpL y z<0→cmpL x z<0
 |[],[],z,h,_=>by simp[cmpL]at h
 |[],b::y,[],_,h=>by simp[cmpL]at h
 |[],b::y,c::z,_,_=>by simp[cmpL]
 |a::x,[],z,h,_=>by simp[cmpL]at h
 |a::x,b::y,[],_,h=>by simp[cmpL]at h
 | a::x,b::y,c::z,h1,h2=>by
   simp only[cmpL]at h1 h2 ⊢
   have ih:=cmpL_trans (x:=x) (y:=y) (z:=z)
   split at h1
   · split at h2
     · rw[if_pos (by omega)];omega
     · split at h2
       · omega
       · rw[if_pos (by omega)];omega
   · split at h1
     · omega
     · split at h2
       · rw[if_pos (by omega)];omega
       · split at h2
         · omega
         · rw[if_neg (by omega),if_neg (by omega)];exact ih h1 h2
theorem cmpL_anti:∀ {x y:List Int},cmpL y x = - cmpL x y
 |[],[]=>rfl
 |[],b::y=>rfl
 |a::x,[]=>rfl
 | a::x,b::y=>by
   simp only[cmpL]
   have:=cmpL_anti (x:=x) (y:=y)
   split<;>split<;>first|omega|(rw[this])|skip
inductive Conn (ms:List (List Int)):Int→Int→Prop
 |base {m:List Int} {a b:Int}:m∈ms→a∈m→b∈m→Conn ms a b
 |trans {a b c:Int}:Conn ms a b→Conn ms b c→Conn ms a c
theorem Conn.symm {ms:List (List Int)} {a b:Int} (h:Conn ms a b):Conn ms b a:=by
 induction h with
 |base h1 h2 h3=>exact .base h1 h3 h2
 |trans _ _ h1 h2=>exact h2.trans h1
theorem Conn.mono {ms ms':List (List Int)} (hs:∀ m∈ms,m∈ms') {a b:Int} (h:Conn ms a b):Conn ms' a b:=by
 induction h with
 |base h1 h2 h3=>exact .base (hs _ h1) h2 h3
 |trans _ _ h1 h2=>exact h1.trans h2
structure PartB (ms bs:List (List Int)):Prop where
 srt:∀ B∈bs,srt B
 ne:∀ B∈bs,B≠[]
 nd:bs.Nodup
 dis:∀ B∈bs,∀ C∈bs,∀ a,a∈B→a∈C→B=C
 conn:∀ a b,(∃ B∈bs,a∈B∧b∈B)↔Conn ms a b
theorem partB_nil:PartB [] []:=⟨by simp,by simp,List.nodup_nil,by simp,fun a b=>⟨fun⟨_,h,_⟩=>(nomatch h),fun h=>by
 exfalso
 induction h with
 |base h _ _=>cases h
 |trans _ _ h _=>exact h⟩⟩
theorem partB_skip {ms bs:List (List Int)} (h:PartB ms bs):PartB (ms++[[]]) bs:=⟨h.srt,h.ne,h.nd,h.dis,fun a b=>(h.conn a b).trans ⟨fun h=>h.mono fun _ hm=>by simp[hm],fun h=>by
 induction h with
 | base h1 h2 h3=>
   rcases List.mem_append.mp h1 with h1|h1
   · exact .base h1 h2 h3
   · rw[List.mem_singleton.mp h1]at h2;cases h2
 |trans _ _ h1 h2=>exact h1.trans h2⟩⟩
def tchB (m B:List Int):Bool:=B.any fun k=>decide (k∈m)
theorem tchB_iff {m B:List Int}:tchB m B=true↔∃ k∈B,k∈m:=by simp[tchB]
def absB (m:List Int) (bs:List (List Int)):List Int×List (List Int):=bs.foldl (fun s B=>if tchB s.1 B then(s.1++B,s.2)else(s.1,s.2++[B])) (m,[])
theorem absB_eq (m:List Int):∀(l:List (List Int)) (ex:List Int) (r:List (List Int)),(∀ B∈l,∀ a∈B,a∉ex)→l.Pairwise (fun B C=>∀ a∈B,a∉C)→
  l.foldl (fun s B=>if tchB s.1 B then(s.1++B,s.2)else(s.1,s.2++[B])) (m++ex,r)=(m++ex++(l.filter (tchB m)).flatten,r++l.filter (fun B=>!tchB m B))
 |[],ex,r,_,_=>by simp
 | B::l,ex,r,h,hp=>by
   have hp:=List.pairwise_cons.mp hp
   have ht:tchB (m++ex) B=tchB m B:=by
    rw[Bool.eq_iff_iff,tchB_iff,tchB_iff]
    constructor
    · rintro⟨k,hk,hk'⟩
      rcases List.mem_append.mp hk' with h1|h1
      · exact⟨k,hk,h1⟩
      · exact absurd h1 (h B (by simp) k hk)
    · rintro⟨k,hk,hk'⟩;exact⟨k,hk,by simp[hk']⟩
   rw[List.foldl_cons,show(m++ex,r).1=m++ex from rfl,ht]
   by_cases hb:tchB m B=true
   · rw[if_pos hb,show((m++ex,r).1++B,(m++ex,r).2)=(m++(ex++B),r) by simp[List.append_assoc],absB_eq m l (ex++B) r (fun C hC a ha=>by
      rw[List.mem_append];rintro (h1|h1)
      · exact h C (by simp[hC]) a ha h1
      · exact hp.1 C hC a h1 ha) hp.2]
     simp[hb,List.append_assoc]
   · have hb:tchB m B=false:=by simpa using hb
     rw[if_neg (by simp[hb]),show((m++ex,r).1,(m++ex,r).2++[B])=(m++ex,r++[B])from rfl,absB_eq m l ex (r++[B]) (fun C hC=>h C (by simp[hC])) hp.2]
     simp[hb]
theorem absB_of {ms bs:List (List Int)} (h:PartB ms bs) (m:List Int):absB m bs=(m++(bs.filter (tchB m)).flatten,bs.filter (fun B=>!tchB m B)):=by
 have:=absB_eq m bs [] [] (by simp) (by
  refine List.Pairwise.imp_of_mem ?_ h.nd
  intro B C hB hC hne a ha ha'
  exact hne (h.dis B hB C hC a ha ha'))
 simpa [absB]using this
theorem partB_add {ms bs:List (List Int)} (h:PartB ms bs) {m:List Int} (hm:m≠[]):PartB (ms++[m]) ((absB m bs).2++[sset (absB m bs).1]):=by
 rw[absB_of h m]
 generalize hN:sset (m++(bs.filter (tchB m)).flatten)=N
 have mN:∀ a,a∈N↔a∈m∨∃ B∈bs,(∃ k∈B,k∈m)∧a∈B:=by
  intro a;rw[←hN,mem_sset,List.mem_append,List.mem_flatten]
  constructor
  · rintro (h|⟨B,hB,ha⟩)
    · exact .inl h
    · have:=List.mem_filter.mp hB;exact .inr ⟨B,this.1,tchB_iff.mp this.2,ha⟩
  · rintro (h|⟨B,hB,ht,ha⟩)
    · exact .inl h
    · exact .inr ⟨B,List.mem_filter.mpr ⟨hB,tchB_iff.mpr ht⟩,ha⟩
 have mR:∀ B,B∈bs.filter (fun B=>!tchB m B)↔B∈bs∧¬ ∃ k∈B,k∈m:=by
  intro B;rw[List.mem_filter]
  constructor
  · rintro⟨h1,h2⟩;exact⟨h1,fun h=>by rw[tchB_iff.mpr h]at h2;cases h2⟩
  · rintro⟨h1,h2⟩;exact⟨h1,by cases hh:tchB m B with|false=>rfl|true=>exact absurd (tchB_iff.mp hh) h2⟩
 obtain⟨a0,ha0⟩:∃ a,a∈m:=by cases m with|nil=>exact absurd rfl hm|cons a _=>exact⟨a,by simp⟩
 have dN:∀ B,B∈bs→(¬ ∃ k∈B,k∈m)→∀ a,a∈B→a∉N:=by
  intro B hB hn a ha hN'
  rcases (mN a).mp hN' with h1|⟨C,hC,ht,hc⟩
  · exact hn ⟨a,ha,h1⟩
  · rw[h.dis B hB C hC a ha hc]at hn;exact hn ht
 refine⟨?_,?_,?_,?_,?_⟩
 · intro B hB
   rcases List.mem_append.mp hB with hB|hB
   · exact h.srt B ((mR B).mp hB).1
   · rw[List.mem_singleton.mp hB,←hN];exact srt_sset _
 · intro B hB
   rcases List.mem_append.mp hB with hB|hB
   · exact h.ne B ((mR B).mp hB).1
   · rw[List.mem_singleton.mp hB];intro e;have:=(mN a0).mpr (.inl ha0);rw[e]at this;cases this
 · rw[List.nodup_append]
   refine⟨h.nd.filter _,by simp,?_⟩
   intro B hB C hC e
   rw[List.mem_singleton.mp hC]at e
   have hB:=(mR B).mp hB
   cases hB':B with
   |nil=>exact h.ne B hB.1 hB'
   |cons a l=>exact dN B hB.1 hB.2 a (by rw[hB'];simp) (by rw[←e,hB'];simp)
 · intro B hB C hC a ha hc
   rcases List.mem_append.mp hB with hB|hB<;>rcases List.mem_append.mp hC with hC|hC
   · exact h.dis B ((mR B).mp hB).1 C ((mR C).mp hC).1 a ha hc
   · rw[List.mem_singleton.mp hC]at hc
     exact absurd hc (dN B ((mR B).mp hB).1 ((mR B).mp hB).2 a ha)
   · rw[List.mem_singleton.mp hB]at ha
     exact absurd ha (dN C ((mR C).mp hC).1 ((mR C).mp hC).2 a hc)
   · rw[List.mem_singleton.mp hB,List.mem_singleton.mp hC]
 · have up:∀ {a b},Conn ms a b→Conn (ms++[m]) a b:=fun h=>h.mono fun _ hm=>by simp[hm]
   have toM:∀ a,a∈N→∃ y∈m,Conn (ms++[m]) a y:=by
    intro a ha
    rcases (mN a).mp ha with h1|⟨B,hB,⟨k,hk,hkm⟩,hb⟩
    · exact⟨a,h1,.base (by simp) h1 h1⟩
    · exact⟨k,hkm,up ((h.conn a k).mp ⟨B,hB,hb,hk⟩)⟩
   intro a b
   constructor
   · rintro⟨B,hB,ha,hb⟩
     rcases List.mem_append.mp hB with hB|hB
     · exact up ((h.conn a b).mp ⟨B,((mR B).mp hB).1,ha,hb⟩)
     · rw[List.mem_singleton.mp hB]at ha hb
       obtain⟨y,hy,h1⟩:=toM a ha
       obtain⟨z,hz,h2⟩:=toM b hb
       exact h1.trans ((Conn.base (m:=m) (by simp) hy hz).trans h2.symm)
   · intro hc
     have fromOld:∀ {a b},(∃ B∈bs,a∈B∧b∈B)→∃ B∈bs.filter (fun B=>!tchB m B)++[N],a∈B∧b∈B:=by
      rintro a b ⟨B,hB,ha,hb⟩
      by_cases ht:∃ k∈B,k∈m
      · exact⟨N,by simp,(mN a).mpr (.inr ⟨B,hB,ht,ha⟩),(mN b).mpr (.inr ⟨B,hB,ht,hb⟩)⟩
      · exact⟨B,List.mem_append.mpr (.inl ((mR B).mpr ⟨hB,ht⟩)),ha,hb⟩
     induction hc with
     | @base m' a b h1 h2 h3=>
       rcases List.mem_append.mp h1 with h1|h1
       · exact fromOld ((h.conn a b).mpr (.base h1 h2 h3))
       · rw[List.mem_singleton.mp h1]at h2 h3
         exact⟨N,by simp,(mN a).mpr (.inl h2),(mN b).mpr (.inl h3)⟩
     | @trans a b c _ _ h1 h2=>
       obtain⟨B,hB,ha,hb⟩:=h1
       obtain⟨C,hC,hb',hc⟩:=h2
       have:B=C:=by
        rcases List.mem_append.mp hB with hB|hB<;>rcases List.mem_append.mp hC with hC|hC
        · exact h.dis B ((mR B).mp hB).1 C ((mR C).mp hC).1 b hb hb'
        · rw[List.mem_singleton.mp hC]at hb'
          exact absurd hb' (dN B ((mR B).mp hB).1 ((mR B).mp hB).2 b hb)
        · rw[List.mem_singleton.mp hB]at hb
          exact absurd hb (dN C ((mR C).mp hC).1 ((mR C).mp hC).2 b hb')
        · rw[List.mem_singleton.mp hB,List.mem_singleton.mp hC]
       subst this
       exact⟨B,hB,ha,hc⟩
def blkI (ms:List (List Int)):List (List Int):=ms.foldl (fun bs m=>if m=[] then bs else(absB m bs).2++[sset (absB m bs).1]) []
theorem blkI_snoc (ms:List (List Int)) (m:List Int):blkI (ms++[m])=if m=[] then blkI ms else(absB m (blkI ms)).2++[sset (absB m (blkI ms)).1]:=by
 unfold blkI;rw[List.foldl_append];rfl
theorem blkI_foldl:∀(l ms:List (List Int)) (bs:List (List Int)),PartB ms bs→PartB (ms++l) (l.foldl (fun bs m=>if m=[] then bs else(absB m bs).2++[sset (absB m bs).1]) bs)
 |[],ms,bs,h=>by simpa using h
 | m::l,ms,bs,h=>by
   rw[show ms++m::l=(ms++[m])++l by simp,List.foldl_cons]
   apply blkI_foldl l
   by_cases hm:m=[]
   · rw[if_pos hm,hm];exact partB_skip h
   · rw[if_neg hm];exact partB_add h hm
theorem blkI_part (ms:List (List Int)):PartB ms (blkI ms):=by have:=blkI_foldl ms [] [] partB_nil;rwa [List.nil_append]at this
def lstB (mk:Int→Int) (m:List Int):Int:=m.foldl (fun a k=>if mk k<a then mk k else a) 40
def stpB (mk:Int→Int) (m:List Int):Int→Int:=fun k=>if k∈m then lstB mk m else mk k
def rndB (ms:List (List Int)) (mk:Int→Int):Int→Int:=ms.foldl stpB mk
def itrB (ms:List (List Int)):Nat→Int→Int
 |0=>id
 |n+1=>rndB ms (itrB ms n)
def blkS (L:List Int) (mk:Int→Int):List (List Int):=(L.map fun i=>L.filter fun k=>mk k == i).filter fun b=>b != []
theorem lstB_le {mk:Int→Int}:∀(m:List Int) (s:Int),m.foldl (fun a k=>if mk k<a then mk k else a) s≤s∧(∀ k∈m,m.foldl (fun a k=>if mk k<a then mk k else a) s≤mk k)∧
  (m.foldl (fun a k=>if mk k<a then mk k else a) s=s∨∃ k∈m,m.foldl (fun a k=>if mk k<a then mk k else a) s=mk k)
 |[],s=>⟨Int.le_refl _,by simp,.inl rfl⟩
 | x::m,s=>by
   rw[List.foldl_cons]
   obtain⟨h1,h2,h3⟩:=lstB_le (mk:=mk) m (if mk x<s then mk x else s)
   have h1':m.foldl (fun a k=>if mk k<a then mk k else a) (if mk x<s then mk x else s)≤s∧m.foldl (fun a k=>if mk k<a then mk k else a) (if mk x<s then mk x else s)≤mk x:=by
    generalize m.foldl (fun a k=>if mk k<a then mk k else a) (if mk x<s then mk x else s)=z at h1 ⊢
    split at h1<;>omega
   refine⟨h1'.1,?_,?_⟩
   · intro k hk
     rcases List.mem_cons.mp hk with rfl|hk
     · exact h1'.2
     · exact h2 k hk
   · rcases h3 with h3|⟨k,hk,h3⟩
     · by_cases hx:mk x<s
       · rw[if_pos hx]at h3 ⊢;exact .inr ⟨x,by simp,h3⟩
       · rw[if_neg hx]at h3 ⊢;exact .inl h3
     · exact .inr ⟨k,by simp[hk],h3⟩
structure LoS (ms:List (List Int)) (L:List Int) (lo:Int→Int):Prop where
 sub:∀ m∈ms,∀ a∈m,a∈L
 com:∀ m∈ms,∀ a∈m,∀ b∈m,lo a=lo b
 mem:∀ a∈L,lo a∈L
 le:∀ a∈L,lo a≤a
 lolo:∀ a∈L,lo (lo a)=lo a
 rng:∀ a∈L,a<40
 conn:∀ S:Int→Prop,(∀ m∈ms,∀ a∈m,∀ b∈m,S a→S b)→∀ a∈L,S (lo a)→S a
structure InvM (L:List Int) (lo mk:Int→Int):Prop where
 mem:∀ k∈L,mk k∈L
 lo:∀ k∈L,lo (mk k)=lo k
 le:∀ k∈L,mk k≤k
theorem stpB_inv {ms:List (List Int)} {L:List Int} {lo mk:Int→Int} (hL:LoS ms L lo) {m:List Int} (hm:m∈ms) (h:InvM L lo mk) :
  InvM L lo (stpB mk m)∧(∀ k∈L,mk k=lo k→stpB mk m k=lo k)∧(∀ a∈m,mk a=lo a→∀ b∈m,stpB mk m b=lo b):=by
 have key:∀ k∈m,∃ a∈m,lstB mk m=mk a∧lstB mk m≤mk k:=by
  intro k hk
  obtain⟨h1,h2,h3⟩:=lstB_le (mk:=mk) m 40
  have hk40:mk k<40:=hL.rng _ (h.mem k (hL.sub m hm k hk))
  rcases h3 with h3|⟨a,ha,h3⟩
  · have:=h2 k hk;omega
  · exact⟨a,ha,h3,h2 k hk⟩
 have good:∀ a∈m,mk a=lo a→∀ b∈m,lstB mk m=lo b:=by
  intro a ha h1 b hb
  obtain⟨c,hc,h2,_⟩:=key b hb
  obtain⟨_,_,_,h3⟩:=key a ha
  have hcL:=hL.sub m hm c hc
  have h4:lo (mk c)≤mk c:=hL.le _ (h.mem c hcL)
  rw[h.lo c hcL,hL.com m hm c hc b hb]at h4
  rw[h1,hL.com m hm a ha b hb]at h3
  omega
 refine⟨⟨?_,?_,?_⟩,?_,?_⟩
 · intro k hk
   unfold stpB
   split
   · next hkm=>obtain⟨a,ha,h1,_⟩:=key k hkm;rw[h1];exact h.mem a (hL.sub m hm a ha)
   · exact h.mem k hk
 · intro k hk
   unfold stpB
   split
   · next hkm=>obtain⟨a,ha,h1,_⟩:=key k hkm;rw[h1,h.lo a (hL.sub m hm a ha),hL.com m hm a ha k hkm]
   · exact h.lo k hk
 · intro k hk
   unfold stpB
   split
   · next hkm=>obtain⟨a,ha,_,h1⟩:=key k hkm;have:=h.le k hk;omega
   · exact h.le k hk
 · intro k hk h1
   unfold stpB
   split
   · next hkm=>exact good k hkm h1 k hkm
   · exact h1
 · intro a ha h1 b hb
   unfold stpB
   rw[if_pos hb];exact good a ha h1 b hb
theorem rndB_inv {ms:List (List Int)} {L:List Int} {lo:Int→Int} (hL:LoS ms L lo):∀(l:List (List Int)),(∀ m∈l,m∈ms)→∀ {mk:Int→Int},InvM L lo mk→
  InvM L lo (l.foldl stpB mk)∧(∀ k∈L,mk k=lo k→l.foldl stpB mk k=lo k)∧(∀ m∈l,∀ a∈m,mk a=lo a→∀ b∈m,l.foldl stpB mk b=lo b)
 |[],_,mk,h=>⟨h,fun _ _ h=>h,by simp⟩
 | m::l,hs,mk,h=>by
   obtain⟨h1,h2,h3⟩:=stpB_inv hL (hs m (by simp)) h
   obtain⟨g1,g2,g3⟩:=rndB_inv hL l (fun m hm=>hs m (by simp[hm])) h1
   rw[List.foldl_cons]
   refine⟨g1,fun k hk e=>g2 k hk (h2 k hk e),?_⟩
   intro m' hm' a ha e b hb
   rcases List.mem_cons.mp hm' with rfl|hm'
   · exact g2 b (hL.sub _ (hs _ (by simp)) b hb) (h3 a ha e b hb)
   · exact g3 m' hm' a ha (h2 a (hL.sub _ (hs _ (by simp[hm'])) a ha) e) b hb
theorem countPB_lt {p q:Int→Bool}:∀ {l:List Int},(∀ k∈l,p k=true→q k=true)→(∃ k∈l,p k=false∧q k=true)→l.countP p<l.countP q
 |[],_,h=>by obtain⟨_,h,_⟩:=h;cases h
 | x::l,h1,h2=>by
   rw[List.countP_cons,List.countP_cons]
   have hle:l.countP p≤l.countP q:=List.countP_mono_left fun k hk=>h1 k (by simp[hk])
   obtain⟨k,hk,e1,e2⟩:=h2
   rcases List.mem_cons.mp hk with rfl|hk
   · rw[e1,e2];simp;omega
   · have:=countPB_lt (l:=l) (fun k hk=>h1 k (by simp[hk])) ⟨k,hk,e1,e2⟩
     have hx:=h1 x (by simp)
     cases hp:p x with
     |false=>simp;omega
     |true=>rw[hx hp];simp;omega
theorem itrB_inv {ms:List (List Int)} {L:List Int} {lo:Int→Int} (hL:LoS ms L lo):∀ n,InvM L lo (itrB ms n)∧min L.length n≤L.countP (fun k=>decide (itrB ms n k=lo k))
 |0=>⟨⟨fun _ h=>h,fun _ _=>rfl,fun _ _=>Int.le_refl _⟩,by simp⟩
 | n+1=>by
   obtain⟨h1,h2⟩:=itrB_inv hL n
   obtain⟨g1,g2,g3⟩:=rndB_inv hL ms (fun _ h=>h) h1
   refine⟨g1,?_⟩
   show _≤L.countP (fun k=>decide (ms.foldl stpB (itrB ms n) k=lo k))
   by_cases hall:∀ k∈L,itrB ms n k=lo k
   · have:L.countP (fun k=>decide (ms.foldl stpB (itrB ms n) k=lo k))=L.length:=List.countP_eq_length.mpr fun k hk=>by simpa using g2 k hk (hall k hk)
     omega
   · have hex:∃ m∈ms,∃ a∈m,∃ b∈m,itrB ms n a=lo a∧itrB ms n b≠lo b:=by
      refine Classical.byContradiction fun hn=>hall ?_
      intro k hk
      refine hL.conn (fun k=>itrB ms n k=lo k) ?_ k hk ?_
      · intro m hm a ha b hb e
        exact Classical.byContradiction fun hb'=>hn ⟨m,hm,a,ha,b,hb,e,hb'⟩
      · have:=hL.mem k hk
        have h3:=hL.le _ (h1.mem _ this)
        rw[h1.lo _ this]at h3
        have h4:=h1.le _ this
        rw[hL.lolo k hk]at h3 ⊢
        omega
     obtain⟨m,hm,a,ha,b,hb,e,hb'⟩:=hex
     have:=countPB_lt (p:=fun k=>decide (itrB ms n k=lo k)) (q:=fun k=>decide (ms.foldl stpB (itrB ms n) k=lo k)) (l:=L) (fun k hk e=>by simpa using g2 k hk (by simpa using e))
      ⟨b,hL.sub m hm b hb,by simpa using hb',by simpa using g3 m hm a ha e b hb⟩
     omega
theorem itrB_fin {ms:List (List Int)} {L:List Int} {lo:Int→Int} (hL:LoS ms L lo):∀ k∈L,itrB ms L.length k=lo k:=by
 have h:=(itrB_inv hL L.length).2
 have h2:L.countP (fun k=>decide (itrB ms L.length k=lo k))≤L.length:=List.countP_le_length
 have:=List.countP_eq_length.mp (show L.countP (fun k=>decide (itrB ms L.length k=lo k))=L.length by omega)
 intro k hk;simpa using this k hk
def loB (bs:List (List Int)) (k:Int):Int:=((bs.find? fun B=>decide (k∈B)).getD [k]).headD k
theorem loB_of {ms bs:List (List Int)} (h:PartB ms bs) {B:List Int} (hB:B∈bs) {k:Int} (hk:k∈B):loB bs k=B.headD 0:=by
 unfold loB
 cases hf:bs.find? (fun B=>decide (k∈B))with
 |none=>rw[List.find?_eq_none]at hf;exact absurd (by simpa using hk) (hf B hB)
 | some C=>
   have h1:=List.mem_of_find?_eq_some hf
   have h2:=List.find?_some hf
   have:C=B:=h.dis C h1 B hB k (by simpa using h2) hk
   rw[this]
   cases B with
   |nil=>cases hk
   |cons a l=>rfl
theorem head_mem {B:List Int} (h:B≠[]):B.headD 0∈B:=by cases B with|nil=>exact absurd rfl h|cons a l=>simp
theorem head_le {B:List Int} (h:srt B) {k:Int} (hk:k∈B):B.headD 0≤k:=by
 cases B with
 |nil=>cases hk
 | cons a l=>
   rcases List.mem_cons.mp hk with rfl|hk
   · exact Int.le_refl _
   · have:=(List.pairwise_cons.mp h).1 k hk;simp;omega
theorem perm_of_mem {α:Type}:∀ {l m:List α},l.Nodup→m.Nodup→(∀ a,a∈l↔a∈m)→l.Perm m:=fun h1 h2 h=>(List.perm_ext_iff_of_nodup h1 h2).mpr h
theorem srt_nodup {l:List Int} (h:srt l):l.Nodup:=List.Pairwise.imp (fun h=>by omega) h
theorem blk_perm {ms:List (List Int)} {L:List Int} (hs:srt L) (hr:∀ a∈L,a<40) (hm:∀ a,a∈L↔∃ m∈ms,a∈m):(blkS L (itrB ms L.length)).Perm (blkI ms):=by
 have h:=blkI_part ms
 generalize blkI ms=bs at h
 have inB:∀ a,a∈L↔∃ B∈bs,a∈B:=by
  intro a
  rw[hm]
  constructor
  · rintro⟨m,h1,h2⟩
    obtain⟨B,hB,h3,_⟩:=(h.conn a a).mpr (.base h1 h2 h2)
    exact⟨B,hB,h3⟩
  · rintro⟨B,hB,h3⟩
    have:=(h.conn a a).mp ⟨B,hB,h3,h3⟩
    have:∀ {a b},Conn ms a b→∃ m∈ms,a∈m:=by
     intro a b h
     induction h with
     |base h1 h2 _=>exact⟨_,h1,h2⟩
     |trans _ _ h1 _=>exact h1
    exact this ‹_›
 have hL:LoS ms L (loB bs):=by
  refine⟨fun m h1 a h2=>(hm a).mpr ⟨m,h1,h2⟩,?_,?_,?_,?_,hr,?_⟩
  · intro m h1 a ha b hb
    obtain⟨B,hB,h3,h4⟩:=(h.conn a b).mpr (.base h1 ha hb)
    rw[loB_of h hB h3,loB_of h hB h4]
  · intro a ha
    obtain⟨B,hB,h3⟩:=(inB a).mp ha
    rw[loB_of h hB h3];exact(inB _).mpr ⟨B,hB,head_mem (h.ne B hB)⟩
  · intro a ha
    obtain⟨B,hB,h3⟩:=(inB a).mp ha
    rw[loB_of h hB h3];exact head_le (h.srt B hB) h3
  · intro a ha
    obtain⟨B,hB,h3⟩:=(inB a).mp ha
    rw[loB_of h hB h3,loB_of h hB (head_mem (h.ne B hB))]
  · intro S hS a ha h1
    obtain⟨B,hB,h3⟩:=(inB a).mp ha
    rw[loB_of h hB h3]at h1
    have hc:=(h.conn _ a).mp ⟨B,hB,head_mem (h.ne B hB),h3⟩
    have:∀ {a b},Conn ms a b→S a→S b:=by
     intro a b h
     induction h with
     |base h1 h2 h3=>exact hS _ h1 _ h2 _ h3
     |trans _ _ h1 h2=>exact fun h=>h2 (h1 h)
    exact this hc h1
 have hf:=itrB_fin hL
 have e1:blkS L (itrB ms L.length)=(L.filter fun i=>L.filter (fun k=>loB bs k == i) != []).map fun i=>L.filter fun k=>loB bs k == i:=by
  unfold blkS
  rw[List.filter_map]
  have:∀ i,L.filter (fun k=>itrB ms L.length k == i)=L.filter (fun k=>loB bs k == i):=fun i=>List.filter_congr fun k hk=>by rw[hf k hk]
  simp only[this]
  rfl
 have bB:∀ B∈bs,L.filter (fun k=>loB bs k == B.headD 0)=B:=by
  intro B hB
  refine srt_ext (List.Pairwise.filter _ hs) (h.srt B hB) fun y=>?_
  rw[List.mem_filter]
  constructor
  · rintro⟨hy,he⟩
    obtain⟨C,hC,h3⟩:=(inB y).mp hy
    rw[loB_of h hC h3]at he
    have he:C.headD 0=B.headD 0:=by simpa using he
    have hh:=head_mem (h.ne C hC)
    have:C=B:=h.dis C hC B hB _ hh (by rw[he];exact head_mem (h.ne B hB))
    rw[←this];exact h3
  · intro hy;exact⟨(inB y).mpr ⟨B,hB,hy⟩,by rw[loB_of h hB hy];simp⟩
 have e2:bs=(bs.map fun B=>B.headD 0).map fun i=>L.filter fun k=>loB bs k == i:=by
  rw[List.map_map]
  conv=>lhs;rw[←List.map_id bs]
  exact List.map_congr_left fun B hB=>(bB B hB).symm
 rw[e1]
 have hp:(L.filter fun i=>L.filter (fun k=>loB bs k == i) != []).Perm (bs.map fun B=>B.headD 0):=by
  refine perm_of_mem ((srt_nodup hs).filter _) ?_ fun i=>?_
  · rw[List.nodup_iff_pairwise_ne,List.pairwise_map]
    refine List.Pairwise.imp_of_mem ?_ (List.nodup_iff_pairwise_ne.mp h.nd)
    intro B C hB hC hne e
    exact hne (h.dis B hB C hC _ (head_mem (h.ne B hB)) (by rw[e];exact head_mem (h.ne C hC)))
  · rw [List.mem_filter,List.mem_map]
    constructor
    · rintro⟨_,hne⟩
      cases hc:L.filter (fun k=>loB bs k == i)with
      |nil=>rw[hc]at hne;simp at hne
      | cons a l=>
        have:a∈L.filter (fun k=>loB bs k == i):=by rw[hc];simp
        have:=List.mem_filter.mp this
        obtain⟨B,hB,h3⟩:=(inB a).mp this.1
        exact⟨B,hB,by rw[←loB_of h hB h3];simpa using this.2⟩
    · rintro⟨B,hB,rfl⟩
      refine⟨(inB _).mpr ⟨B,hB,head_mem (h.ne B hB)⟩,?_⟩
      rw[bB B hB]
      have:=h.ne B hB
      simp[this]
 conv=>rhs;rw[e2]
 exact hp.map _
theorem perm_maxlen {f:Int→List Int→Int} (hf:∀ a B C,f (f a B) C=f (f a C) B) {l m:List (List Int)} (h:l.Perm m) (a:Int):l.foldl f a=m.foldl f a:=h.foldl_eq' (fun x _ y _ z=>(hf z x y)) a
def nusI (x:TInst):List (List Int):=x.2.1.map nulF
def blocksI (x:TInst):List (List Int):=if vInst x then sortL cmpL (blkI (nusI x))else[]
def blocksS (x:TInst):List (List Int):=if vInst x then blkS (nulI x) (itrB (nusI x) (nulI x).length)else[]
theorem sortL_perm {α:Type} (cf:α→α→Int) (l:List α):(sortL cf l).Perm l:=List.mergeSort_perm _ _
theorem blocks_perm (x:TInst):(blocksS x).Perm (blocksI x):=by
 unfold blocksS blocksI
 split
 · refine(blk_perm (by unfold nulI;exact srt_sset _) ?_ ?_).trans (sortL_perm _ _).symm
   · intro a ha
     unfold nulI at ha
     rw[←nulls_flat]at ha
     have:=nulls_range a ha;omega
   · intro a
     unfold nulI nusI
     rw[mem_sset,List.mem_flatMap]
     constructor
     · rintro⟨f,hf,ha⟩;exact⟨nulF f,List.mem_map.mpr ⟨f,hf,rfl⟩,mem_sset.mpr ha⟩
     · rintro⟨m,hm,ha⟩
       obtain⟨f,hf,rfl⟩:=List.mem_map.mp hm
       exact⟨f,hf,mem_sset.mp ha⟩
 · exact List.Perm.refl _
theorem absB_stp (l:List (List Int)):∀(s:List Int×List (List Int)),(l.foldl (fun s B=>if tchB s.1 B then(s.1++B,s.2)else(s.1,s.2++[B])) s).2.length≤s.2.length+l.length∧((∀ B∈l,B.length≤40)→(l.foldl (fun s B=>if tchB s.1 B then(s.1++B,s.2)else(s.1,s.2++[B])) s).1.length≤s.1.length+40 * l.length):=by
 induction l with
 |nil=>intro s;simp
 | cons B l ih=>
   intro s
   rw[List.foldl_cons]
   obtain⟨h1,h2⟩:=ih (if tchB s.1 B then(s.1++B,s.2)else(s.1,s.2++[B]))
   have e1:(if tchB s.1 B then(s.1++B,s.2)else(s.1,s.2++[B])).2.length≤s.2.length+1:=by split<;>simp
   have e2:(if tchB s.1 B then(s.1++B,s.2)else(s.1,s.2++[B])).1.length≤s.1.length+B.length:=by split<;>simp
   rw[List.length_cons]
   refine⟨by omega,fun h=>?_⟩
   have h3:=h2 fun C hC=>h C (by simp[hC])
   have h4:=h B (by simp)
   omega
theorem absB_len {m:List Int} (hm:m.length≤40) (bs:List (List Int)) (h:∀ B∈bs,B.length≤40):(absB m bs).1.length≤40+40 * bs.length:=by
 have:=(absB_stp bs (m,[])).2 h
 unfold absB;simp only at this;omega
theorem absB_len2 {m:List Int} (bs:List (List Int)):(absB m bs).2.length≤bs.length:=by
 have:=(absB_stp bs (m,[])).1
 unfold absB;simp at this;exact this
theorem blk_len {ms:List (List Int)} (hm:∀ m∈ms,∀ k∈m,0≤k∧k<40):(blkI ms).length≤ms.length∧∀ B∈blkI ms,B.length≤40:=by
 have hp:=blkI_part ms
 refine⟨?_,fun B hB=>srt_range (a:=0) (hp.srt B hB) fun y hy=>?_⟩
 · have:∀(l:List (List Int)) (bs:List (List Int)),(l.foldl (fun bs m=>if m=[] then bs else(absB m bs).2++[sset (absB m bs).1]) bs).length≤bs.length+l.length:=by
    intro l
    induction l with
    |nil=>intro bs;simp
    | cons m l ih=>
      intro bs
      rw[List.foldl_cons]
      have h2:=ih (if m=[] then bs else(absB m bs).2++[sset (absB m bs).1])
      have h3:(absB m bs).2.length≤bs.length:=absB_len2 bs
      have h4:(if m=[] then bs else(absB m bs).2++[sset (absB m bs).1]).length≤bs.length+1:=by split<;>simp;omega
      rw[List.length_cons];omega
   have:=this ms []
   unfold blkI;simpa using this
 · obtain⟨m,h1,h2⟩:∃ m∈ms,y∈m:=by
    have hc:=(hp.conn y y).mp ⟨B,hB,hy,hy⟩
    have:∀ {a b},Conn ms a b→∃ m∈ms,a∈m:=by
     intro a b h
     induction h with
     |base h1 h2 _=>exact⟨_,h1,h2⟩
     |trans _ _ h1 _=>exact h1
    exact this hc
   have:=hm m h1 y h2
   omega
theorem nus_rng (x:TInst):∀ m∈nusI x,∀ k∈m,0≤k∧k<40:=by
 intro m hm k hk
 obtain⟨f,_,rfl⟩:=List.mem_map.mp hm
 have:=nulls_range k hk;omega
theorem ltL {x y:List Int}:Go.Proofs.ltOf cmpL x y=decide (cmpL x y<0):=rfl
theorem swoL:Go.Sort.SWO (Go.Proofs.ltOf cmpL):=by
 refine⟨fun x=>?_,fun x y z h1 h2=>?_,fun x y z h1 h2=>?_⟩
 · rw[ltL,cmpL_zero.mpr rfl];rfl
 · rw[ltL,decide_eq_true_eq]at h1 h2 ⊢;exact cmpL_trans h1 h2
 · rw[ltL,decide_eq_false_iff_not]at h1 h2 ⊢
   intro h3
   by_cases h4:cmpL x y=0
   · obtain rfl:=cmpL_zero.mp h4
     exact h2 h3
   · have h5:cmpL y x<0:=by rw[cmpL_anti];omega
     exact h2 (cmpL_trans h5 h3)
theorem totL {x y:List Int} (h1:Go.Proofs.ltOf cmpL x y=false) (h2:Go.Proofs.ltOf cmpL y x=false):x=y:=by
 rw[ltL,decide_eq_false_iff_not]at h1 h2
 rw[cmpL_anti]at h2
 exact cmpL_zero.mp (by omega)
theorem g_isortS {l:List (List Int)} (h:l.length≤1000):G_slices_SortFunc_Sint_ooz_c_slices_Compare_int l () (sortL cmpL l):=prim_sortS (fun a b=>g_slices_Compare_int) swoL (fun _ _=>totL) (by omega)
theorem g_iNullBlocks_1 {k:Int} {m:List Int}:G_iNullBlocks_1 k m (decide (k∈m)):=M_iNullBlocks_1 _ _ _ (by unfold S_iNullBlocks_1;exact⟨_,g_slices_Contains_int,rfl⟩)
theorem g_iNullBlocks {x:TInst}:G_iNullBlocks x (blocksI x):=M_iNullBlocks _ _ (by
 unfold S_iNullBlocks blocksI
 refine⟨_,g_iIsValidInstance,bc_not (fun h=>by rw[h];rfl) (fun hv=>lenI fun _=>?_)⟩
 rw[if_pos hv]
 have hl:=vInst_len hv
 have hB:∀ n,∀ m∈(nusI x).take n,∀ k∈m,0≤k∧k<40:=fun n m hm=>nus_rng x m (List.mem_of_mem_take hm)
 have hnl:(nusI x).length=x.2.1.length:=by unfold nusI;simp
 refine loopP_of x.2.1.length (fun i=>((i:Int),(blkI ((nusI x).take i),()))) (by simp[blkI]) ?_ ?_
 · intro i hi X hX
   have hf3:=(vRow_spec (vInst_fact hv (List.getElem_mem hi))).2.2.2.2.1
   refine bcI hi (inI hi ⟨nulF x.2.1[i],?_,lenI fun _=>?_⟩)
   · rw[getI hi];exact g_iNullsOfFact (by omega)
   have hi':i<(nusI x).length:=by omega
   have e1:(nusI x)[i]=nulF x.2.1[i]:=List.getElem_map _
   rw[take_succ_snoc hi',e1,blkI_snoc]at hX
   obtain⟨l1,l2⟩:=blk_len (hB i)
   rw[List.length_take]at l1
   simp only
   rw[w64_succ (by omega)]
   generalize hbs:blkI ((nusI x).take i)=bs at hX l1 l2 ⊢
   have hm40:(nulF x.2.1[i]).length≤40:=nulls_few
   generalize nulF x.2.1[i]=m at hX hm40 ⊢
   refine bc_beq (fun h=>?_) (fun h=>lenI fun _=>?_)
   · have:m=[]:=List.length_eq_zero_iff.mp (by omega)
     rw[if_pos this]at hX;exact hX
   · have hm:¬ m=[]:=fun e=>h (by rw[e];rfl)
     rw[if_neg hm]at hX
     refine loopP_of bs.length (fun j=>((j:Int),((absB m (bs.take j)).2,((absB m (bs.take j)).1,())))) (by simp[absB]) ?_ ?_
     · intro j hj Y hY
       have hsn:absB m (bs.take (j+1))=if tchB (absB m (bs.take j)).1 bs[j] then((absB m (bs.take j)).1++bs[j],(absB m (bs.take j)).2)else((absB m (bs.take j)).1,(absB m (bs.take j)).2++[bs[j]]):=by
        unfold absB;rw[take_succ_snoc hj,List.foldl_append];rfl
       rw[hsn]at hY
       have b1:=absB_len hm40 (bs.take j) fun B hB=>l2 B (List.mem_of_mem_take hB)
       have b2:=absB_len2 (m:=m) (bs.take j)
       rw[List.length_take]at b1 b2
       have b3:=l2 bs[j] (List.getElem_mem hj)
       refine bcI hj (inI hj ⟨tchB (absB m (bs.take j)).1 bs[j],?_,?_⟩)
       · rw[getI hj];exact g_slices_ContainsFunc_int_c_iNullBlocks_1 (fun k=>decide (k∈(absB m (bs.take j)).1)) (fun _ _=>g_iNullBlocks_1)
       · simp only
         rw[getI hj,w64_succ (by omega)]
         refine bc_if (fun h=>⟨by simp only[maxL];omega,?_⟩) (fun h=>⟨by simp only[maxL,List.length_cons,List.length_nil];omega,?_⟩)
         · rw[if_pos h]at hY;exact hY
         · rw[if_neg (by rw[h];simp)]at hY;exact hY
     · intro Y
       have b1:=absB_len hm40 bs l2
       have b2:=absB_len2 (m:=m) bs
       refine bcN ⟨_,g_slices_Sort_int_ooz ?_,_,g_slices_Compact_int_ooz,?_,?_⟩
       · simp only[List.take_length];omega
       · simp only[List.take_length,maxL,List.length_cons,List.length_nil];omega
       · simp only[List.take_length];rw[comp_sort];exact hX
 · intro X
   obtain⟨l1,_⟩:=blk_len (nus_rng x)
   rw[←hnl]
   simp only[List.take_length]
   rw[hnl]
   exact bcN ⟨_,g_isortS (by omega),rfl⟩)
def mkOf (l:List Int) (k:Int):Int:=l.getD (Int.toNat k) 0
theorem iota_at {n:Nat}:∀ k:Int,0≤k→k<(n:Int)→mkOf ((List.range n).map fun k:Nat=>(k:Int)) k=k:=by
 intro k h0 h1
 unfold mkOf
 rw[getD_at (by simp;omega)]
 simp;omega
theorem mk_set {l:List Int} {k v j:Int} (hk:0≤k) (hl:k<(l.length:Int)) (hj:0≤j):mkOf (l.set (Int.toNat k) v) j=if j=k then v else mkOf l j:=by
 unfold mkOf
 rw[getD_set (by omega)]
 by_cases h:j=k
 · rw[if_pos h,if_pos (by omega)]
 · rw[if_neg h,if_neg (by omega)]
def setAll (l:List Int) (m:List Int) (v:Int):List Int:=m.foldl (fun l k=>l.set (Int.toNat k) v) l
theorem setAll_len (v:Int):∀(m l:List Int),(setAll l m v).length=l.length
 |[],l=>rfl
 |k::m,l=>by show(setAll (l.set (Int.toNat k) v) m v).length=_;rw[setAll_len v m];simp
theorem setAll_at {v:Int}:∀(m l:List Int),(∀ k∈m,0≤k∧k<(l.length:Int))→∀ j,0≤j→mkOf (setAll l m v) j=if j∈m then v else mkOf l j
 |[],l,_,j,_=>by simp[setAll]
 | k::m,l,h,j,hj=>by
   have hk:=h k (by simp)
   show mkOf (setAll (l.set (Int.toNat k) v) m v) j=_
   rw[setAll_at m _ (fun a ha=>by have:=h a (by simp[ha]);simpa using this) j hj,mk_set hk.1 hk.2 hj]
   by_cases h1:j∈m
   · rw[if_pos h1,if_pos (by simp[h1])]
   · rw[if_neg h1]
     by_cases h2:j=k
     · rw[if_pos h2,if_pos (by simp[h2])]
     · rw[if_neg h2,if_neg (by simp[h1,h2])]
def stpN (l:List Int) (m:List Int):List Int:=setAll l m (lstB (mkOf l) m)
def rndN (ms:List (List Int)) (l:List Int):List Int:=ms.foldl stpN l
def itrN (ms:List (List Int)) (l:List Int):Nat→List Int
 |0=>l
 |n+1=>rndN ms (itrN ms l n)
theorem lstB_congr {f g:Int→Int} {m:List Int} (h:∀ k∈m,f k=g k):lstB f m=lstB g m:=by
 unfold lstB
 have:∀(m:List Int) (s:Int),(∀ k∈m,f k=g k)→m.foldl (fun a k=>if f k<a then f k else a) s=m.foldl (fun a k=>if g k<a then g k else a) s:=by
  intro m
  induction m with
  |nil=>intro s _;rfl
  |cons k m ih=>intro s h;rw[List.foldl_cons,List.foldl_cons,h k (by simp)];exact ih _ fun a ha=>h a (by simp[ha])
 exact this m 40 h
theorem round_rel {ms:List (List Int)}:∀(q:List (List Int)),(∀ m∈q,∀ k∈m,0≤k∧k<40)→∀ {l:List Int} {f:Int→Int},l.length=40→(∀ k,0≤k→k<40→mkOf l k=f k)→
  (q.foldl stpN l).length=40∧∀ k,0≤k→k<40→mkOf (q.foldl stpN l) k=q.foldl stpB f k
 |[],_,l,f,hl,h=>⟨hl,h⟩
 | m::q,hq,l,f,hl,h=>by
   rw[List.foldl_cons,List.foldl_cons]
   refine round_rel (ms:=ms) q (fun m hm=>hq m (by simp[hm])) (by unfold stpN;rw[setAll_len];exact hl) fun k h0 h1=>?_
   unfold stpN stpB
   rw[setAll_at m l (fun a ha=>by have:=hq m (by simp) a ha;omega) k h0,lstB_congr fun a ha=>by have:=hq m (by simp) a ha;exact h a this.1 this.2,h k h0 h1]
theorem iter_rel {ms:List (List Int)} (hq:∀ m∈ms,∀ k∈m,0≤k∧k<40) {l:List Int} (hl:l.length=40) (h:∀ k,0≤k→k<40→mkOf l k=k):∀ n,(itrN ms l n).length=40∧∀ k,0≤k→k<40→mkOf (itrN ms l n) k=itrB ms n k
 |0=>⟨hl,h⟩
 | n+1=>by
   obtain⟨h1,h2⟩:=iter_rel hq hl h n
   exact round_rel (ms:=ms) ms hq h1 h2
theorem blkS_congr {L:List Int} {f g:Int→Int} (h:∀ k∈L,f k=g k):blkS L f=blkS L g:=by
 unfold blkS
 congr 1
 refine List.map_congr_left fun i _=>List.filter_congr fun k hk=>by rw[h k hk]
theorem blkS_snoc (L:List Int) (i:Int) (f:Int→Int) (M:List Int):((M++[i]).map fun i=>L.filter fun k=>f k == i).filter (fun b=>b != [])=((M.map fun i=>L.filter fun k=>f k == i).filter fun b=>b != [])++if (L.filter fun k=>f k == i)=[] then[] else[L.filter fun k=>f k == i]:=by
 rw[List.map_append,List.filter_append]
 congr 1
 by_cases h:(L.filter fun k=>f k == i)=[]
 · rw[if_pos h];simp[h]
 · rw[if_neg h];simp[h]
theorem g_sNullBlocks {x:TInst}:G_sNullBlocks x (blocksS x):=M_sNullBlocks _ _ (by
 unfold S_sNullBlocks blocksS
 refine⟨_,g_sIsValidInstance,bc_not (fun h=>by rw[h];rfl) (fun hv=>?_)⟩
 rw[if_pos hv]
 have hl:=vInst_len hv
 have hL40:(nulI x).length≤40:=nulI_few x
 have hLr:∀ k∈nulI x,0≤k∧k<40:=by
  intro a ha
  unfold nulI at ha
  rw[←nulls_flat]at ha
  have:=nulls_range a ha;omega
 have hq:=nus_rng x
 have hnl:(nusI x).length=x.2.1.length:=by unfold nusI;simp
 refine⟨_,g_sNullsOfInstance,⟨by omega,by omega,by simp[maxL]⟩,?_⟩
 generalize hLL:nulI x=L at hL40 hLr ⊢
 refine loopP_of 40 (fun i=>((i:Int),(((List.range i).map fun k:Nat=>(k:Int))++List.replicate (40 - i) 0,()))) (by simp) ?_ ?_
 · intro i hi X hX
   refine bc_dec (fun _=>⟨⟨by simp only;omega,by simp;omega⟩,?_⟩) (fun h=>by simp only at h;omega)
   simp only
   rw[w64_succ (by omega)]
   have e:(((List.range i).map fun k:Nat=>(k:Int))++List.replicate (40 - i) (0:Int)).set (Int.toNat (i:Int)) (i:Int)=((List.range (i+1)).map fun k:Nat=>(k:Int))++List.replicate (40 - (i+1)) 0:=by
    rw[Int.toNat_natCast,List.set_append_right _ _ (by simp),List.range_succ,List.map_append]
    rw[show 40 - i=(40 - (i+1))+1 by omega,List.replicate_succ]
    simp
   rw[e];exact hX
 · intro X
   refine bc_dec (fun h=>by simp only at h;omega) (fun _=>?_)
   simp only[Nat.sub_self,List.replicate_zero,List.append_nil]
   generalize hio:((List.range 40).map fun k:Nat=>(k:Int))=io
   have io1:io.length=40:=by rw[←hio];simp
   have io2:∀ k,0≤k→k<40→mkOf io k=k:=by
    intro k h0 h1;rw[←hio];exact iota_at (n:=40) k h0 h1
   refine loopP_of L.length (fun n=>((n:Int),(itrN (nusI x) io n,()))) rfl ?_ ?_
   · intro n hn Y hY
     refine lenI fun _=>bcI hn ?_
     obtain⟨r1,r2⟩:=iter_rel hq io1 io2 n
     simp only
     rw[w64_succ (by omega)]
     change Y (((n+1:Nat):Int),(rndN (nusI x) (itrN (nusI x) io n),()))at hY
     generalize itrN (nusI x) io n=l at r1 r2 hY ⊢
     refine loopP_of x.2.1.length (fun i=>((i:Int),(((nusI x).take i).foldl stpN l,()))) (by simp) ?_ ?_
     · intro i hi Z hZ
       have hi':i<(nusI x).length:=by omega
       have e1:(nusI x)[i]=nulF x.2.1[i]:=List.getElem_map _
       have hm:=hq (nusI x)[i] (List.getElem_mem hi')
       have hl1:=(round_rel (ms:=[]) ((nusI x).take i) (fun m hm=>hq m (List.mem_of_mem_take hm)) r1 r2).1
       rw[take_succ_snoc hi',List.foldl_append,e1]at hZ
       rw[e1]at hm
       refine lenI fun _=>bcI hi (inI hi ⟨_,g_sNullsOfFact,?_⟩)
       simp only
       rw[getI hi,w64_succ (by omega)]
       change Z (((i+1:Nat):Int),(stpN (((nusI x).take i).foldl stpN l) (nulF x.2.1[i]),()))at hZ
       have hm40:(nulF x.2.1[i]).length≤40:=nulls_few
       generalize ((nusI x).take i).foldl stpN l=l at hl1 hZ ⊢
       generalize nulF x.2.1[i]=m at hm hm40 hZ ⊢
       refine loopP_of m.length (fun j=>((m.take j).foldl (fun a k=>if mkOf l k<a then mkOf l k else a) 40,((j:Int),()))) (by simp) ?_ ?_
       · intro j hj W hW
         have hk:=hm m[j] (List.getElem_mem hj)
         refine lenI fun _=>bcI hj (inI hj ?_)
         simp only
         rw[getI hj,w64_succ (by omega)]
         refine⟨⟨hk.1,by omega⟩,?_⟩
         rw[take_succ_snoc hj,List.foldl_append]at hW
         exact hW
       · intro W
         refine lenI fun _=>bcN ?_
         simp only[List.take_length]
         change LoopP _ ((0:Int),(l,()))
         have hlm:m.foldl (fun a k=>if mkOf l k<a then mkOf l k else a) 40=lstB (mkOf l) m:=rfl
         rw[hlm]
         unfold stpN at hZ
         generalize lstB (mkOf l) m=v at hZ ⊢
         refine loopP_of m.length (fun j=>((j:Int),(setAll l (m.take j) v,()))) (by simp[setAll]) ?_ ?_
         · intro j hj W hW
           have hk:=hm m[j] (List.getElem_mem hj)
           refine lenI fun _=>bcI hj (inI hj ?_)
           simp only
           rw[getI hj,w64_succ (by omega),setAll_len]
           refine⟨⟨hk.1,by omega⟩,?_⟩
           have e2:setAll l (m.take (j+1)) v=(setAll l (m.take j) v).set (Int.toNat m[j]) v:=by unfold setAll;rw[take_succ_snoc hj,List.foldl_append];rfl
           rw[e2]at hW;exact hW
         · intro W
           refine lenI fun _=>bcN ?_
           simp only[List.take_length]
           exact hZ
     · intro Z
       refine lenI fun _=>bcN ?_
       simp only
       rw[←hnl,List.take_length]
       exact hY
   · intro Y
     refine lenI fun _=>bcN ?_
     obtain⟨r1,r2⟩:=iter_rel hq io1 io2 L.length
     simp only
     rw[blkS_congr (f:=itrB (nusI x) L.length) (g:=mkOf (itrN (nusI x) io L.length)) fun k hk=>(r2 k (hLr k hk).1 (hLr k hk).2).symm]
     generalize itrN (nusI x) io L.length=l at r1 ⊢
     have hb:∀ M:List Int,((M.map fun i=>L.filter fun k=>mkOf l k == i).filter fun b=>b != []).length≤M.length:=fun M=>by
      have:=List.length_filter_le (fun b:List Int=>b != []) (M.map fun i=>L.filter fun k=>mkOf l k == i)
      rw[List.length_map]at this;exact this
     refine loopP_of L.length (fun i=>((i:Int),(((L.take i).map fun i=>L.filter fun k=>mkOf l k == i).filter (fun b=>b != []),()))) (by simp) ?_ ?_
     · intro i hi Z hZ
       rw[take_succ_snoc hi,blkS_snoc]at hZ
       refine lenI fun _=>bcI hi ?_
       refine loopP_of L.length (fun j=>((j:Int),((L.take j).filter (fun k=>mkOf l k == L[i]),()))) (by simp) ?_ ?_
       · intro j hj W hW
         have hk:=hLr L[j] (List.getElem_mem hj)
         rw[take_succ_snoc hj,List.filter_append]at hW
         refine lenI fun _=>bcI hj (inI hj (inI hi ?_))
         simp only
         rw[getI hj,getI hi,w64_succ (by omega)]
         have hfl:=List.length_filter_le (fun k=>mkOf l k == L[i]) (L.take j)
         rw[List.length_take]at hfl
         refine⟨⟨hk.1,by omega⟩,bc_beq (fun h=>inI hj ⟨by simp only[maxL,List.length_cons,List.length_nil];omega,?_⟩) (fun h=>?_)⟩
         · have h:mkOf l L[j]=L[i]:=h
           rw[show[L[j]].filter (fun k=>mkOf l k == L[i])=[L[j]] by simp[h]]at hW
           exact hW
         · have h:¬ mkOf l L[j]=L[i]:=h
           rw[show[L[j]].filter (fun k=>mkOf l k == L[i])=[] by simp[h],List.append_nil]at hW
           exact hW
       · intro W
         refine lenI fun _=>bcN (lenI fun _=>?_)
         simp only[List.take_length]
         rw[w64_succ (by omega)]
         have hbl:=hb (L.take i)
         rw[List.length_take]at hbl
         refine bc_dec (fun h=>⟨by simp only[maxL,List.length_cons,List.length_nil];omega,?_⟩) (fun h=>?_)
         · rw[if_neg (by intro e;rw[e]at h;simp at h)]at hZ;exact hZ
         · have:L.filter (fun k=>mkOf l k == L[i])=[]:=List.length_eq_zero_iff.mp (by omega)
           rw[if_pos this,List.append_nil]at hZ;exact hZ
     · intro Z
       refine lenI fun _=>bcN ?_
       simp only[List.take_length]
       rfl)
def bigB (l:List (List Int)):Int:=l.foldl (fun a B=>maxI a (B.length:Int)) 0
theorem bigB_perm {l m:List (List Int)} (h:l.Perm m):bigB l=bigB m:=perm_maxlen (fun a B C=>by unfold maxI;by_cases h1:(B.length:Int) > a<;>by_cases h2:(C.length:Int) > a<;>simp only[h1,h2,if_true,if_false]<;>(repeat' split)<;>omega) h 0
theorem g_iLargestBlockSize {x:TInst} (hb:(blocksI x).length≤1000):G_iLargestBlockSize x (bigB (blocksI x)):=M_iLargestBlockSize _ _ (by
 unfold S_iLargestBlockSize
 refine⟨_,g_iNullBlocks,lenI fun _=>?_⟩
 generalize blocksI x=l at hb ⊢
 refine loopP_of l.length (fun i=>(bigB (l.take i),((i:Int),()))) (by simp[bigB]) ?_ ?_
 · intro i hi X hX
   refine bcI hi (inI hi (lenI fun _=>?_))
   simp only
   rw[getI hi,w64_succ (by omega)]
   unfold bigB at hX ⊢
   rw[take_succ_snoc hi,List.foldl_append]at hX;exact hX
 · intro X
   refine bcN ?_
   simp only[List.take_length])
theorem g_sLargestBlockSize {x:TInst} (hb:(blocksS x).length≤1000):G_sLargestBlockSize x (bigB (blocksS x)):=M_sLargestBlockSize _ _ (by
 unfold S_sLargestBlockSize
 refine⟨_,g_sNullBlocks,?_⟩
 generalize blocksS x=l at hb ⊢
 refine loopP_of l.length (fun i=>(bigB (l.take i),((i:Int),()))) (by simp[bigB]) ?_ ?_
 · intro i hi X hX
   refine lenI fun _=>bcI hi (inI hi (lenI fun _=>?_))
   simp only
   rw[getI hi,w64_succ (by omega)]
   unfold bigB at hX ⊢
   rw[take_succ_snoc hi,List.foldl_append]at hX;exact hX
 · intro X
   refine lenI fun _=>bcN ?_
   simp only[List.take_length])
def stats (x:TInst):List Int:=if vInst x then[(x.2.1.length:Int),((nulI x).length:Int),((blocksI x).length:Int),bigB (blocksI x)] else[]
theorem blocksI_len (x:TInst):(blocksI x).length≤30:=by
 unfold blocksI
 split
 · next h=>
   have h1:=(blk_len (nus_rng x)).1
   have h2:=(sortL_perm cmpL (blkI (nusI x))).length_eq
   have h3:(nusI x).length=x.2.1.length:=by unfold nusI;simp
   have:=vInst_len h
   omega
 · simp
theorem g_iStatistics {x:TInst}:G_iStatistics x (stats x):=M_iStatistics _ _ (by
 unfold S_iStatistics stats
 have hb:=blocksI_len x
 refine⟨_,g_iIsValidInstance,bc_not (fun h=>by rw[h];rfl) (fun hv=>lenI fun _=>⟨_,g_iNullsOfInstance (by have:=vInst_flat hv;omega),lenI fun _=>⟨_,g_iNullBlocks,lenI fun _=>⟨_,g_iLargestBlockSize (by omega),?_⟩⟩⟩)⟩
 rw[hv];rfl)
theorem g_sStatistics {x:TInst}:G_sStatistics x (stats x):=M_sStatistics _ _ (by
 unfold S_sStatistics stats
 have hb:=blocksI_len x
 have hp:=(blocks_perm x).length_eq
 refine⟨_,g_sIsValidInstance,bc_not (fun h=>by rw[h];rfl) (fun hv=>lenI fun _=>⟨_,g_sNullsOfInstance,lenI fun _=>⟨_,g_sNullBlocks,lenI fun _=>⟨_,g_sLargestBlockSize (by omega),?_⟩⟩⟩)⟩
 rw[hv,hp,bigB_perm (blocks_perm x)];rfl)
theorem join_snoc {x:List UInt8} {r:List (List UInt8)} {a s:List UInt8}:Go.Lib.join ((x::r)++[a]) s=Go.Lib.join (x::r) s++s++a:=by
 rw[List.cons_append,Go.Lib.join_cons,Go.Lib.join_cons]
 unfold Go.Lib.joinTail
 simp[List.append_assoc]
theorem join_len {s:List UInt8} {k:Nat}:∀ {l:List (List UInt8)},(∀ a∈l,a.length≤k)→(Go.Lib.join l s).length≤l.length * (k+s.length)
 |[],_=>by simp[Go.Lib.join_nil]
 | x::r,h=>by
   rw[Go.Lib.join_cons]
   have h1:=h x (by simp)
   have h2:(Go.Lib.joinTail s r).length≤r.length * (k+s.length):=by
    unfold Go.Lib.joinTail
    have hr:∀ a∈r,a.length≤k:=fun a ha=>h a (by simp[ha])
    clear h
    induction r with
    |nil=>simp
    | cons a r ih=>
      have h3:=hr a (by simp)
      have h4:=ih fun b hb=>hr b (by simp[hb])
      simp only[List.map_cons,List.flatten_cons,List.length_append,List.length_cons,Nat.succ_mul]
      omega
   rw[List.length_append,List.length_cons,Nat.succ_mul]
   omega
def decI (n:Int):List UInt8:=Go.Lib.decDigits n.toNat
theorem decI_len {n:Int} (h:n<100):(decI n).length≤2:=by
 unfold decI
 by_cases h1:n.toNat<10
 · rw[Go.Lib.decDigits_one h1];simp
 · rw[Go.Lib.decDigits_two h1 (by omega)];simp
theorem g_iFormatInt {n:Int} (h0:0≤n) (h1:n<100):G_iFormatInt n (decI n):=M_iFormatInt _ _ (by unfold S_iFormatInt;exact⟨_,prim_itoa h0 h1,rfl⟩)
theorem byte_dec:∀ i:Fin 10,bytesOf [IntKind.u8.wrap (w64 ((48:Int)+((i.val:Nat):Int)))]=[UInt8.ofNat (48+i.val)]:=by decide
theorem byte_dec' {i:Nat} (h:i<10):bytesOf [IntKind.u8.wrap (w64 ((48:Int)+(i:Int)))]=[UInt8.ofNat (48+i)]:=byte_dec ⟨i,h⟩
theorem g_sFormatInt {n:Int} (h0:0≤n) (h1:n<100):G_sFormatInt n (decI n):=M_sFormatInt _ _ (by
 obtain⟨k,rfl⟩:∃ k:Nat,n=(k:Int):=⟨n.toNat,by omega⟩
 have hk:k<100:=by omega
 clear h0 h1
 unfold S_sFormatInt
 have e10:Int.tmod (k:Int) 10=((k % 10:Nat):Int):=by rw[Int.tmod_eq_emod_of_nonneg (by omega)];omega
 have d10:Int.tdiv (k:Int) 10=((k / 10:Nat):Int):=by rw[Int.tdiv_eq_ediv_of_nonneg (by omega)];omega
 refine bc_beq (fun h=>?_) (fun h=>?_)
 · have:k=0:=by omega
   subst this
   have:decI ((0:Nat):Int)=[48]:=by unfold decI;rw[Go.Lib.decDigits_one (by decide)];rfl
   rw[this]
 · have hk0:k≠0:=by omega
   by_cases h9:k<10
   · have hd:decI (k:Int)=[UInt8.ofNat (48+k)]:=by unfold decI;rw[Int.toNat_natCast,Go.Lib.decDigits_one h9]
     refine loopP_of 1 (fun i=>if i=0 then((k:Int),(([]:List UInt8),()))else((0:Int),([UInt8.ofNat (48+k)],()))) rfl ?_ ?_
     · intro i hi X hX
       have:i=0:=by omega
       subst this
       simp only[if_true]at hX ⊢
       rw[if_neg (by omega)]at hX
       refine bc_ne (fun h'=>⟨by omega,bc_dec (fun h'=>by rw[e10]at h';omega) (fun _=>?_)⟩) (fun h'=>by exfalso;omega)
       rw[e10,d10,Nat.mod_eq_of_lt h9,byte_dec' h9,Nat.div_eq_of_lt h9]
       refine⟨by simp[maxL],by omega,?_⟩
       rw[w64_id (by omega) (by omega),List.append_nil]
       exact hX
     · intro X
       simp only[show ¬ (1=0) by omega,if_false]
       refine bc_ne (fun h'=>absurd rfl h') (fun _=>bc_dec (fun h'=>by omega) (fun _=>?_))
       rw[hd]
   · have hd:decI (k:Int)=[UInt8.ofNat (48+k / 10),UInt8.ofNat (48+k % 10)]:=by unfold decI;rw[Int.toNat_natCast,Go.Lib.decDigits_two h9 hk]
     have q9:k / 10<10:=by omega
     have m9:k % 10<10:=by omega
     refine loopP_of 2 (fun i=>if i=0 then((k:Int),(([]:List UInt8),()))else if i=1 then(((k / 10:Nat):Int),([UInt8.ofNat (48+k % 10)],()))else((0:Int),([UInt8.ofNat (48+k / 10),UInt8.ofNat (48+k % 10)],()))) rfl ?_ ?_
     · intro i hi X hX
       rcases (show i=0∨i=1 by omega)with rfl|rfl
       · simp only[if_true]at hX ⊢
         refine bc_ne (fun h'=>⟨by omega,bc_dec (fun h'=>by rw[e10]at h';omega) (fun _=>?_)⟩) (fun h'=>by exfalso;omega)
         rw[e10,d10,byte_dec' m9]
         refine⟨by simp[maxL],by omega,?_⟩
         rw[w64_id (by omega) (by omega),List.append_nil]
         exact hX
       · simp only[show ¬ (1=0) by omega,show ¬ (1+1=0) by omega,show ¬ (1+1=1) by omega,if_true,if_false]at hX ⊢
         have e10:Int.tmod ((k / 10:Nat):Int) 10=((k / 10:Nat):Int):=by rw[Int.tmod_eq_emod_of_nonneg (by omega)];omega
         have d10:Int.tdiv ((k / 10:Nat):Int) 10=0:=by rw[Int.tdiv_eq_ediv_of_nonneg (by omega)];omega
         refine bc_ne (fun h'=>⟨by omega,bc_dec (fun h'=>by rw[e10]at h';omega) (fun _=>?_)⟩) (fun h'=>by exfalso;omega)
         rw[e10,d10,byte_dec' q9]
         refine⟨by simp[maxL],by omega,?_⟩
         rw[w64_id (by omega) (by omega)]
         exact hX
     · intro X
       simp only[show ¬ (2=0) by omega,show ¬ (2=1) by omega,if_false]
       refine bc_ne (fun h'=>absurd rfl h') (fun _=>bc_dec (fun h'=>by omega) (fun _=>?_))
       rw[hd])
theorem bigB_le {l:List (List Int)} (h:∀ B∈l,B.length≤40):0≤bigB l∧bigB l≤40:=by
 unfold bigB
 have:∀(l:List (List Int)) (a:Int),0≤a→a≤40→(∀ B∈l,B.length≤40)→0≤l.foldl (fun a B=>maxI a (B.length:Int)) a∧l.foldl (fun a B=>maxI a (B.length:Int)) a≤40:=by
  intro l
  induction l with
  |nil=>intro a h0 h1 _;exact⟨h0,h1⟩
  | cons B l ih=>
    intro a h0 h1 h2
    rw[List.foldl_cons]
    have:=h2 B (by simp)
    refine ih _ ?_ ?_ fun C hC=>h2 C (by simp[hC])
    · unfold maxI;split<;>omega
    · unfold maxI;split<;>omega
 exact this l 0 (by omega) (by omega) h
theorem blocksI_each {x:TInst}:∀ B∈blocksI x,B.length≤40:=by
 unfold blocksI
 split
 · intro B hB
   exact(blk_len (nus_rng x)).2 B ((sortL_perm cmpL _).mem_iff.mp hB)
 · simp
theorem stats_rng {x:TInst}:(stats x).length≤4∧∀ n∈stats x,0≤n∧n<100:=by
 unfold stats
 split
 · next hv=>
   have h1:=vInst_len hv
   have h2:=nulI_few x
   have h3:=blocksI_len x
   have h4:=bigB_le (blocksI_each (x:=x))
   refine⟨by simp,fun n hn=>?_⟩
   simp only[List.mem_cons,List.not_mem_nil,or_false]at hn
   rcases hn with rfl|rfl|rfl|rfl<;>omega
 · exact⟨by simp,by simp⟩
def fmtS (l:List Int):List UInt8:=Go.Lib.join (l.map decI) [32]
theorem fmtS_len {l:List Int} (h:l.length≤4) (h2:∀ n∈l,n<100):(fmtS l).length≤12:=by
 unfold fmtS
 have:=join_len (s:=[32]) (k:=2) (l:=l.map decI) (by
  intro a ha
  obtain⟨n,hn,rfl⟩:=List.mem_map.mp ha
  exact decI_len (h2 n hn))
 rw[List.length_map]at this
 simp only[List.length_cons,List.length_nil]at this
 omega
theorem g_iFormatStatistics {x:TInst}:G_iFormatStatistics x (fmtS (stats x)):=M_iFormatStatistics _ _ (by
 unfold S_iFormatStatistics
 refine⟨_,g_iStatistics,lenI fun _=>?_⟩
 obtain⟨hl,hr⟩:=stats_rng (x:=x)
 generalize stats x=l at hl hr ⊢
 refine loopP_of l.length (fun i=>((i:Int),((l.take i).map decI,()))) (by simp) ?_ ?_
 · intro i hi X hX
   have hn:=hr l[i] (List.getElem_mem hi)
   refine bcI hi (inI hi ⟨decI l[i],?_,?_,?_⟩)
   · simp only;rw[getI hi];exact g_iFormatInt hn.1 hn.2
   · simp only[maxL,List.length_map,List.length_take,List.length_cons,List.length_nil];omega
   · simp only
     rw[w64_succ (by omega)]
     rw[take_succ_snoc hi,List.map_append]at hX
     exact hX
 · intro X
   refine bcN ⟨fmtS l,?_,rfl⟩
   simp only[List.take_length]
   exact prim_join (x:=l.map decI) (s:=[32]) (by rw[List.length_map];omega) (by have:=fmtS_len hl (fun n hn=>(hr n hn).2);unfold fmtS at this;omega))
theorem g_sFormatStatistics {x:TInst}:G_sFormatStatistics x (fmtS (stats x)):=M_sFormatStatistics _ _ (by
 unfold S_sFormatStatistics
 refine⟨_,g_sStatistics,?_⟩
 obtain⟨hl,hr⟩:=stats_rng (x:=x)
 generalize stats x=l at hl hr ⊢
 refine loopP_of l.length (fun i=>(fmtS (l.take i),((i:Int),()))) (by simp[fmtS,Go.Lib.join_nil]) ?_ ?_
 · intro i hi X hX
   have hn:=hr l[i] (List.getElem_mem hi)
   have hd:=decI_len hn.2
   have hb:(fmtS (l.take i)).length≤12:=fmtS_len (by rw[List.length_take];omega) fun n h=>(hr n (List.mem_of_mem_take h)).2
   simp only at hX ⊢
   refine lenI fun _=>bcI hi ?_
   rw[w64_succ (by omega),getI hi]
   rw[take_succ_snoc hi]at hX
   refine bc_dec (fun h=>⟨by simp only[maxL,List.length_cons,List.length_nil];omega,inI hi ⟨_,g_sFormatInt hn.1 hn.2,by simp only[maxL,List.length_append,List.length_cons,List.length_nil];omega,?_⟩⟩) (fun h=>inI hi ⟨_,g_sFormatInt hn.1 hn.2,by simp only[maxL];omega,?_⟩)
   · have e:fmtS (l.take i++[l[i]])=fmtS (l.take i)++[32]++decI l[i]:=by
      unfold fmtS
      rw[List.map_append,List.map_cons,List.map_nil]
      cases ht:(l.take i).map decI with
      | nil=>
        have:=congrArg List.length ht
        rw[List.length_map,List.length_take,List.length_nil]at this
        omega
      |cons a r=>exact join_snoc
     rw[e]at hX
     exact hX
   · have:i=0:=by omega
     subst this
     have e:fmtS (l.take 0++[l[0]])=fmtS (l.take 0)++decI l[0]:=by
      unfold fmtS;simp[Go.Lib.join_nil,Go.Lib.join_one]
     rw[e]at hX
     exact hX
 · intro X
   refine lenI fun _=>bcN ?_
   simp only[List.take_length])
theorem law {x0:TInst} (_:Bnd (h14) x0):G_lFnExactFormatStatistics x0 true:=M_lFnExactFormatStatistics _ _ (by
 unfold S_lFnExactFormatStatistics
 refine⟨_,g_lszInstance (by omega) (by omega),bc_fits (by omega) (fun _=>rfl) fun h1=>?_⟩
 try rw[fits_of_ge h1]
 have hB0:bulk k9 x0≤1099511627776:=by omega
 have hS0:bulk k9 x0≤1048576:=by omega
 refine⟨_,g_ltoInstance (hB0),?_⟩
 refine⟨_,g_sFormatStatistics,?_⟩
 refine⟨_,g_ltoInstance (hB0),?_⟩
 refine⟨_,g_iFormatStatistics,?_⟩
 refine bc_nb (fun h=>absurd rfl h) fun _=>?_
 refine⟨_,g_ltoInstance (hB0),?_⟩
 refine⟨_,g_leqInstance,bc_nd (fun h=>absurd rfl h) fun _=>?_⟩
 rfl)
end Go.V

