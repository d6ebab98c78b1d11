/-
  The functions that the law reaches: what each gives.
-/
import Derived.Test.YtjafmgnamibefaaGreatWF
import Derived.Test.YtjafmgnamibefaaGreatWP
set_option linter.unusedVariables false
set_option linter.unusedSimpArgs false
set_option maxRecDepth 1000000
set_option maxHeartbeats 4000000
set_option linter.unusedVariables false
set_option linter.unusedSimpArgs false
namespace Go.V
open Go
theorem g_slices_Sort_int_ooz {x0:List Int} (h:x0.length≤1099511627776):G_slices_Sort_int_ooz x0 (sortI x0):=prim_sort h
theorem g_slices_Compact_int_ooz {x0:List Int}:G_slices_Compact_int_ooz x0 (compI x0):=prim_compact
def cmpI (a b:Int):Int:=if a<b then -1 else if b<a then 1 else 0
def cmpL:List Int→List Int→Int
 |[],[]=>0
 |[],_::_=>-1
 |_::_,[]=>1
 |a::x,b::y=>if a<b then -1 else if b<a then 1 else cmpL x y
def cmpF (a b:TFact):Int:=if a.1<b.1 then -1 else if b.1<a.1 then 1 else cmpL a.2.1 b.2.1
theorem cmpL_zero:∀ {x y:List Int},cmpL x y=0↔x=y
 |[],[]=>by simp[cmpL]
 |[],b::y=>by simp[cmpL]
 |a::x,[]=>by simp[cmpL]
 | a::x,b::y=>by
   unfold cmpL
   split
   · rename_i h;constructor
     · intro h';cases h'
     · intro h';cases h';omega
   · split
     · rename_i h;constructor
       · intro h';cases h'
       · intro h';cases h';omega
     · rw[cmpL_zero]
       have:a=b:=by omega
       simp[this]
theorem cmpF_zero {x y:TFact}:cmpF x y=0↔x=y:=by
 obtain⟨a,b,u⟩:=x;obtain⟨a',b',u'⟩:=y
 unfold cmpF
 simp only
 split
 · rename_i h;constructor
   · intro h';cases h'
   · intro h';cases h';omega
 · split
   · rename_i h;constructor
     · intro h';cases h'
     · intro h';cases h';omega
   · rw[cmpL_zero]
     have:a=a':=by omega
     simp[this]
theorem cmpL_step {x y:List Int} {i:Nat} (h:i<x.length) (h':i<y.length):cmpL (x.drop i) (y.drop i)=if x[i]<y[i] then -1 else if y[i]<x[i] then 1 else cmpL (x.drop (i+1)) (y.drop (i+1)):=by
 rw[drop_cons h,drop_cons h',cmpL]
theorem cmpL_end {x y:List Int} {i:Nat} (h:x.length≤i):cmpL (x.drop i) (y.drop i)=if i<y.length then -1 else 0:=by
 rw[List.drop_of_length_le h]
 by_cases h':i<y.length
 · rw[drop_cons h',if_pos h'];rfl
 · rw[List.drop_of_length_le (by omega),if_neg h'];rfl
theorem cmpL_end' {x y:List Int} {i:Nat} (h:i<x.length) (h':y.length≤i):cmpL (x.drop i) (y.drop i)=1:=by
 rw[List.drop_of_length_le h',drop_cons h];rfl
theorem g_sl4Ints {x y:List Int}:G_sl4Ints x y (cmpL x y):=M_sl4Ints _ _ _ (by
 unfold S_sl4Ints
 refine loopP_down (fun k a=>∃ i:Nat,i+k=x.length∧a=((i:Int),())∧i≤y.length∧cmpL (x.drop i) (y.drop i)=cmpL x y) ?_ ?_ (n:=x.length) ⟨0,by omega,rfl,by omega,by simp⟩
 · rintro a ⟨i,hi,rfl,hy,hc⟩ X
   obtain rfl:i=x.length:=by omega
   rw[cmpL_end (Nat.le_refl _)]at hc
   refine lenI fun h1=>bcN (lenI fun _=>lenI fun h2=>bc_dec (fun h=>?_) (fun h=>lenI fun _=>lenI fun _=>bc_dec (fun h'=>by omega) (fun h'=>?_)))
   · rw[if_pos (by omega)]at hc;rw[←hc]
   · rw[if_neg (by omega)]at hc;rw[←hc]
 · rintro k a ⟨i,hi,rfl,hy,hc⟩ X hX
   have hlt:i<x.length:=by omega
   refine lenI fun h1=>bcI hlt (lenI fun h2=>bc_dec (fun h=>?_) (fun h=>?_))
   · have hlt':i<y.length:=by omega
     refine inI hlt (inI hlt' ?_)
     simp only
     rw[getI hlt,getI hlt']
     rw[cmpL_step hlt hlt']at hc
     refine bc_dec (fun h=>?_) (fun h=>inI hlt (inI hlt' (bc_dec (fun h'=>?_) (fun h'=>?_))))
     · rw[if_pos h]at hc;rw[←hc]
     · rw[if_neg h,if_pos h']at hc;rw[←hc]
     · rw[if_neg h,if_neg (by omega)]at hc
       rw[w64_succ (by omega)]
       exact hX _ ⟨i+1,by omega,rfl,by omega,hc⟩
   · simp only at h
     rw[cmpL_end' hlt (by omega)]at hc
     refine lenI fun _=>lenI fun _=>bc_dec (fun h'=>by omega) (fun h'=>lenI fun _=>lenI fun _=>bc_dec (fun h''=>?_) (fun h''=>by omega))
     rw[←hc])
theorem g_sCompareFacts {x y:TFact}:G_sCompareFacts x y (cmpF x y):=M_sCompareFacts _ _ _ (by
 unfold S_sCompareFacts cmpF
 refine bc_dec (fun h=>by rw[if_pos h]) (fun h=>bc_dec (fun h'=>by rw[if_neg h,if_pos h']) (fun h'=>⟨_,g_sl4Ints,by rw[if_neg h,if_neg (by omega)]⟩)))
theorem g_cmp_isNaN_int {x:Int}:G_cmp_isNaN_int x false:=M_cmp_isNaN_int _ _ (by unfold S_cmp_isNaN_int;simp)
theorem g_cmp_Compare_int {x y:Int}:G_cmp_Compare_int x y (cmpI x y):=M_cmp_Compare_int _ _ _ (by
 unfold S_cmp_Compare_int cmpI
 refine⟨_,g_cmp_isNaN_int,_,g_cmp_isNaN_int,bcF (bcF (bc_dec (fun h=>by rw[if_pos h]) (fun h=>bc_dec (fun h'=>by rw[if_neg h,if_pos h']) (fun h'=>by rw[if_neg h,if_neg h']))))⟩)
theorem cmpI_zero {a b:Int}:cmpI a b=0↔a=b:=by unfold cmpI;split<;>(try split)<;>omega
theorem g_slices_Compare_int {x y:List Int}:G_slices_Compare_int x y (cmpL x y):=M_slices_Compare_int _ _ _ (by
 unfold S_slices_Compare_int
 refine lenI fun h1=>loopP_down (fun k a=>∃ i:Nat,i+k=x.length∧a=((i:Int),())∧cmpL (x.drop i) (y.drop i)=cmpL x y∧i≤y.length) ?_ ?_ (n:=x.length) ⟨0,by omega,rfl,by simp,by omega⟩
 · rintro a ⟨i,hi,rfl,hc,hy⟩ X
   obtain rfl:i=x.length:=by omega
   rw[cmpL_end (Nat.le_refl _)]at hc
   refine bcN (lenI fun _=>lenI fun h2=>bc_dec (fun h=>?_) (fun h=>?_))
   · rw[if_pos (by omega)]at hc;rw[←hc]
   · rw[if_neg (by omega)]at hc;rw[←hc]
 · rintro k a ⟨i,hi,rfl,hc,hy⟩ X hX
   have hlt:i<x.length:=by omega
   refine bcI hlt (inI hlt (lenI fun h2=>bc_dec (fun h=>?_) (fun h=>?_)))
   · simp only at h
     rw[cmpL_end' hlt (by omega)]at hc
     rw[←hc]
   · simp only at h
     have hlt':i<y.length:=by omega
     refine inI hlt' ⟨_,g_cmp_Compare_int,?_⟩
     simp only
     rw[getI hlt,getI hlt']
     rw[cmpL_step hlt hlt']at hc
     refine bc_ne (fun h=>?_) (fun h=>?_)
     · have hne:x[i]≠y[i]:=fun e=>h (cmpI_zero.mpr e)
       rw[←hc]
       unfold cmpI
       by_cases h3:x[i]<y[i]
       · rw[if_pos h3,if_pos h3]
       · rw[if_neg h3,if_neg h3,if_pos (by omega),if_pos (by omega)]
     · have he:=cmpI_zero.mp h
       rw[if_neg (by omega),if_neg (by omega)]at hc
       rw[w64_succ (by omega)]
       exact hX _ ⟨i+1,by omega,rfl,hc,by omega⟩)
def orL:List Int→Int
 |[]=>0
 |a::l=>if a=0 then orL l else a
theorem g_cmp_Or_int {x:List Int}:G_cmp_Or_int x (orL x):=M_cmp_Or_int _ _ (by
 unfold S_cmp_Or_int
 have key:∀ l:List Int,orL l=if h:firstAt (fun t=>t != 0) l<l.length then l[firstAt (fun t=>t != 0) l] else 0:=by
  intro l
  induction l with
  |nil=>simp[orL,firstAt]
  | cons a l ih=>
    unfold orL
    by_cases ha:a=0
    · rw[if_pos ha,ih]
      simp only[firstAt,ha,bne_self_eq_false,Bool.false_eq_true,if_false,List.length_cons,Nat.add_lt_add_iff_right,List.getElem_cons_succ]
    · rw[if_neg ha]
      have:(a != 0)=true:=by simpa using ha
      simp[firstAt,this]
 refine lenI fun hl=>loop_first x (fun t=>t != 0) (fun i=>((i:Int),())) (KT:=fun i=>∀ h:i<x.length,((x[i],()):Int×Unit)=(orL x,())) (KF:=(((0:Int),()):Int×Unit)=(orL x,())) ?_ ?_ ?_ ?_
 · intro i hi X h1 h2
   refine bcI hi (inI hi ?_)
   simp only
   rw[getI hi,w64_succ (by omega)]
   exact bc_if (fun h=>h1 h hi) h2
 · intro X h;exact bcN h
 · intro h h';rw[key,dif_pos h]
 · intro h;rw[key,dif_neg (by omega)])
theorem g_iCompareFacts {x y:TFact}:G_iCompareFacts x y (cmpF x y):=M_iCompareFacts _ _ _ (by
 unfold S_iCompareFacts
 refine⟨_,g_cmp_Compare_int,_,g_slices_Compare_int,_,g_cmp_Or_int,?_⟩
 have:orL [cmpI x.1 y.1,cmpL x.2.1 y.2.1]=cmpF x y:=by
  unfold cmpF
  by_cases h:x.1<y.1
  · have:cmpI x.1 y.1 = -1:=by unfold cmpI;rw[if_pos h]
    rw[if_pos h,this];rfl
  · rw[if_neg h]
    by_cases h':y.1<x.1
    · have:cmpI x.1 y.1=1:=by unfold cmpI;rw[if_neg h,if_pos h']
      rw[if_pos h',this];rfl
    · have:cmpI x.1 y.1=0:=by unfold cmpI;rw[if_neg h,if_neg h']
      rw[if_neg h',this]
      unfold orL
      rw[if_pos rfl]
      unfold orL
      by_cases h0:cmpL x.2.1 y.2.1=0
      · rw[if_pos h0,h0];rfl
      · rw[if_neg h0]
 rw[this])
theorem g_isameFact {x y:TFact}:G_isameFact x y (decide (x=y)):=M_isameFact _ _ _ (by
 unfold S_isameFact
 refine⟨_,g_iCompareFacts,?_⟩
 have:(cmpF x y == (0:Int))=decide (x=y):=by
  by_cases h:x=y
  · rw[cmpF_zero.mpr h];simp[h]
  · have:cmpF x y≠0:=fun e=>h (cmpF_zero.mp e)
    simp[h,this]
 rw[this])
def ins:List Int→Int→List Int
 |[],x=>[x]
 |a::l,x=>if a<x then a::ins l x else if a=x then a::l else x::a::l
def srt (l:List Int):Prop:=l.Pairwise (· < ·)
def sset (l:List Int):List Int:=l.foldl ins []
theorem mem_put {y x:Int}:∀ {l:List Int},y∈ins l x↔y=x∨y∈l
 |[]=>by simp[ins]
 | a::l=>by
   unfold ins
   split
   · rw[List.mem_cons,mem_put,List.mem_cons]
     constructor
     · rintro (h|h|h)<;>simp[h]
     · rintro (h|h|h)<;>simp[h]
   · split
     · rename_i h;subst h;simp
     · simp
theorem srt_put {x:Int}:∀ {l:List Int},srt l→srt (ins l x)
 |[],_=>by simp[ins,srt]
 | a::l,h=>by
   obtain⟨h1,h2⟩:=List.pairwise_cons.mp h
   unfold ins
   split
   · rename_i hlt
     refine List.pairwise_cons.mpr ⟨fun y hy=>?_,srt_put h2⟩
     rcases mem_put.mp hy with rfl|hy
     · exact hlt
     · exact h1 y hy
   · split
     · exact h
     · refine List.pairwise_cons.mpr ⟨fun y hy=>?_,h⟩
       rcases List.mem_cons.mp hy with rfl|hy
       · omega
       · have:=h1 y hy;omega
theorem foldput {l:List Int}:∀ {s:List Int},srt s→srt (l.foldl ins s)∧∀ y,y∈l.foldl ins s↔y∈s∨y∈l:=by
 induction l with
 |nil=>intro s h;exact⟨h,by simp⟩
 | cons a l ih=>
   intro s h
   obtain⟨h1,h2⟩:=ih (srt_put (x:=a) h)
   refine⟨h1,fun y=>?_⟩
   rw[List.foldl_cons,h2,mem_put,List.mem_cons]
   constructor
   · rintro ((h|h)|h)<;>simp[h]
   · rintro (h|h|h)<;>simp[h]
theorem srt_sset (l:List Int):srt (sset l):=(foldput List.Pairwise.nil).1
theorem mem_sset {l:List Int} {y:Int}:y∈sset l↔y∈l:=by have:=(foldput (l:=l) List.Pairwise.nil).2 y;simpa [sset]using this
theorem srt_ext:∀ {a b:List Int},srt a→srt b→(∀ y,y∈a↔y∈b)→a=b
 |[],[],_,_,_=>rfl
 |[],y::b,_,_,h=>by have:=(h y).mpr (by simp);simp at this
 |x::a,[],_,_,h=>by have:=(h x).mp (by simp);simp at this
 | x::a,y::b,ha,hb,h=>by
   obtain⟨ha1,ha2⟩:=List.pairwise_cons.mp ha
   obtain⟨hb1,hb2⟩:=List.pairwise_cons.mp hb
   have hxy:x=y:=by
    rcases List.mem_cons.mp ((h x).mp (by simp))with e|hx
    · exact e
    · rcases List.mem_cons.mp ((h y).mpr (by simp))with e|hy
      · exact e.symm
      · have:=ha1 y hy;have:=hb1 x hx;omega
   subst hxy
   congr 1
   refine srt_ext ha2 hb2 fun z=>⟨fun hz=>?_,fun hz=>?_⟩
   · rcases List.mem_cons.mp ((h z).mp (by simp[hz]))with e|h'
     · have:=ha1 z hz;omega
     · exact h'
   · rcases List.mem_cons.mp ((h z).mpr (by simp[hz]))with e|h'
     · have:=hb1 z hz;omega
     · exact h'
theorem sset_of {a l:List Int} (h1:srt a) (h2:∀ y,y∈a↔y∈l):a=sset l:=srt_ext h1 (srt_sset l) fun y=>by rw[h2,mem_sset]
theorem foldput_sset {l m:List Int}:(sset m).foldl ins (sset l)=sset (l++m):=by
 obtain⟨h1,h2⟩:=foldput (l:=sset m) (srt_sset l)
 exact sset_of h1 fun y=>by rw[h2,mem_sset,mem_sset,List.mem_append]
theorem sset_snoc {l:List Int} {x:Int}:ins (sset l) x=sset (l++[x]):=by unfold sset;rw[List.foldl_append];rfl
theorem put_len (l:List Int) (x:Int):(ins l x).length≤l.length+1:=by
 induction l with
 |nil=>simp[ins]
 |cons a l ih=>unfold ins;split;simp;omega;split<;>simp
theorem sset_len (l:List Int):(sset l).length≤l.length:=by
 have:∀(l s:List Int),(l.foldl ins s).length≤s.length+l.length:=by
  intro l
  induction l with
  |nil=>intro s;simp
  |cons a l ih=>intro s;have:=ih (ins s a);have:=put_len s a;simp only[List.foldl_cons,List.length_cons];omega
 have:=this l []
 simpa [sset]using this
theorem srt_range {l:List Int} {a:Int}:∀ {n:Nat},srt l→(∀ y∈l,a≤y∧y<a+n)→l.length≤n:=by
 induction l generalizing a with
 |nil=>intro n _ _;simp
 | cons x l ih=>
   intro n h hr
   obtain⟨h1,h2⟩:=List.pairwise_cons.mp h
   have hx:=hr x (by simp)
   have:=ih (a:=x+1) (n:=(a+n - (x+1)).toNat) h2 fun y hy=>by
    have:=h1 y hy;have:=hr y (by simp[hy]);omega
   simp only[List.length_cons];omega
theorem srt_last {l:List Int} (h:srt l) (hne:l≠[]):∀ y∈l,y≤l.getLast hne:=by
 intro y hy
 have hs:l=l.dropLast++[l.getLast hne]:=(List.dropLast_concat_getLast hne).symm
 rw[hs]at h hy
 unfold srt at h
 rw[List.pairwise_append]at h
 rcases List.mem_append.mp hy with hy|hy
 · have:=h.2.2 y hy (l.getLast hne) (by simp);omega
 · have:y=l.getLast hne:=by simpa using hy
   omega
theorem put_eq (l:List Int) (x:Int):ins l x=if h:firstAt (fun a=>!decide (a<x)) l<l.length then(if l[firstAt (fun a=>!decide (a<x)) l]=x then l else l.take (firstAt (fun a=>!decide (a<x)) l)++x::l.drop (firstAt (fun a=>!decide (a<x)) l))else l++[x]:=by
 induction l with
 |nil=>simp[ins,firstAt]
 | cons a l ih=>
   unfold ins
   by_cases ha:a<x
   · have e:firstAt (fun a=>!decide (a<x)) (a::l)=firstAt (fun a=>!decide (a<x)) l+1:=by simp[firstAt,ha]
     rw[if_pos ha,ih]
     by_cases hf:firstAt (fun a=>!decide (a<x)) l<l.length
     · rw[dif_pos hf,dif_pos (by rw[e];simpa using hf)]
       simp only[e,List.getElem_cons_succ,List.take_succ_cons,List.drop_succ_cons]
       split
       · rfl
       · rfl
     · rw[dif_neg hf,dif_neg (by rw[e];simpa using hf)]
       rfl
   · have e:firstAt (fun a=>!decide (a<x)) (a::l)=0:=by simp[firstAt,ha]
     rw[if_neg ha,dif_pos (by rw[e];simp)]
     simp only[e,List.getElem_cons_zero,List.take_zero,List.drop_zero,List.nil_append]
theorem g_sl4Put {l:List Int} {x:Int} (hl:l.length≤1073741824):G_sl4Put l x (ins l x):=M_sl4Put _ _ _ (by
 unfold S_sl4Put
 have fin:∀(k:Nat),k≤l.length→((0≤(k:Int)∧(k:Int)≤(List.length l:Int)∧(List.length l:Int)≤(List.length l:Int))∧(([x]:List Int).length+(List.drop (Int.toNat (k:Int)) (List.take (Int.toNat (List.length l:Int)) l)).length≤maxL∧((0≤(0:Int)∧(0:Int)≤(k:Int)∧(k:Int)≤(List.length l:Int))∧(([]:List Int).length+(List.drop (Int.toNat (0:Int)) (List.take (Int.toNat (k:Int)) l)).length≤maxL∧((([]:List Int)++(List.drop (Int.toNat (0:Int)) (List.take (Int.toNat (k:Int)) l))).length+(([x]:List Int)++(List.drop (Int.toNat (k:Int)) (List.take (Int.toNat (List.length l:Int)) l))).length≤maxL∧(((([]:List Int)++(List.drop (Int.toNat (0:Int)) (List.take (Int.toNat (k:Int)) l)))++(([x]:List Int)++(List.drop (Int.toNat (k:Int)) (List.take (Int.toNat (List.length l:Int)) l))),()):List Int×Unit)=(l.take k++x::l.drop k,()))))) ):=by
  intro k hk
  simp only[Int.toNat_natCast,List.take_length,Int.toNat_zero,List.drop_zero,List.nil_append,List.length_nil,List.length_cons,List.length_append,List.length_take,List.length_drop,maxL,List.cons_append]
  refine⟨⟨by omega,by omega,by omega⟩,by omega,⟨by omega,by omega,by omega⟩,by omega,by omega,trivial⟩
 rw[put_eq]
 refine loop_first l (fun a=>!decide (a<x)) (fun i=>((i:Int),())) (KT:=fun i=>∀ h:i<l.length,∀ r:List Int×Unit,r=(if l[i]=x then l else l.take i++x::l.drop i,())→r=((if h:firstAt (fun a=>!decide (a<x)) l<l.length then(if l[firstAt (fun a=>!decide (a<x)) l]=x then l else l.take (firstAt (fun a=>!decide (a<x)) l)++x::l.drop (firstAt (fun a=>!decide (a<x)) l))else l++[x]),()))
  (KF:=∀ r:List Int×Unit,r=(l++[x],())→r=((if h:firstAt (fun a=>!decide (a<x)) l<l.length then(if l[firstAt (fun a=>!decide (a<x)) l]=x then l else l.take (firstAt (fun a=>!decide (a<x)) l)++x::l.drop (firstAt (fun a=>!decide (a<x)) l))else l++[x]),())) ?_ ?_ ?_ ?_
 · intro i hi X h1 h2
   refine lenI fun hl'=>bcI hi (inI hi ?_)
   simp only
   rw[getI hi,w64_succ (by omega)]
   refine bc_dec (fun h=>h2 (by simpa using h)) (fun h=>?_)
   have h1:=h1 (by simpa using h) hi
   refine lenI fun _=>bcI hi (inI hi (bc_beq (fun he=>h1 _ (by rw[if_pos he])) (fun he=>?_)))
   rw[if_neg he]at h1
   have:=fin i (by omega)
   exact⟨this.1,this.2.1,this.2.2.1,this.2.2.2.1,this.2.2.2.2.1,h1 _ this.2.2.2.2.2⟩
 · intro X h
   refine lenI fun hl'=>bcN (lenI fun _=>bcN ?_)
   have:=fin l.length (by omega)
   refine⟨this.1,this.2.1,this.2.2.1,this.2.2.2.1,this.2.2.2.2.1,h _ (this.2.2.2.2.2.trans (by simp))⟩
 · intro h h' r hr;rw[hr,dif_pos h]
 · intro h r hr;rw[hr,dif_neg (by omega)])
theorem g_sl4Has {l:List Int} {x:Int}:G_sl4Has l x (decide (x∈l)):=M_sl4Has _ _ _ (by
 unfold S_sl4Has
 refine loop_any l (fun a=>x == a) (fun i=>((i:Int),())) (KT:=((true,()):Bool×Unit)=(decide (x∈l),())) (KF:=((false,()):Bool×Unit)=(decide (x∈l),())) ?_ (fun X h=>lenI fun _=>bcN h) (fun h=>?_) (fun h=>?_)
 · intro i hi X h1 h2
   refine lenI fun _=>bcI hi (inI hi ?_)
   simp only
   rw[getI hi,w64_succ (by omega)]
   exact bc_beq (fun h=>h1 (by simp[h])) (fun h=>h2 (by simpa using fun e=>h e.symm))
 · rw[any_mem]at h;rw[h]
 · rw[any_mem]at h;rw[h])
theorem sortI_mem {l:List Int} {y:Int}:y∈sortI l↔y∈l:=by unfold sortI;simp
theorem sortI_sorted (l:List Int):(sortI l).Pairwise (·≤·):=by
 unfold sortI
 have:=List.pairwise_mergeSort (le:=fun a b:Int=>decide (a≤b)) (fun a b c h1 h2=>by simp at *;omega) (fun a b=>by simp;omega) l
 exact this.imp fun h=>by simpa using h
theorem comp_sort (l:List Int):compI (sortI l)=sset l:=by
 have hs:=sortI_sorted l
 have hget:∀ i j (hi:i<(sortI l).length) (hj:j<(sortI l).length),i≤j→(sortI l)[i]≤(sortI l)[j]:=by
  intro i j hi hj h
  rcases Nat.lt_or_ge i j with h|h
  · exact List.pairwise_iff_getElem.mp hs i j hi hj h
  · have:i=j:=by omega
    subst this;omega
 have ex:compI (sortI l)=((List.range (sortI l).length).filter (Lib.keeps (sortI l).toArray)).map ((sortI l).toArray[·]!):=rfl
 refine sset_of ?_ ?_
 · rw[ex]
   unfold srt
   rw[List.pairwise_map,List.pairwise_filter]
   refine List.Pairwise.imp_of_mem (R:=(· < ·)) ?_ List.pairwise_lt_range
   intro i j hi hj hij _ kj
   have hi:=List.mem_range.mp hi;have hj:=List.mem_range.mp hj
   have e1:(sortI l).toArray[i]! = (sortI l)[i]:=by simp[hi]
   have e2:(sortI l).toArray[j]! = (sortI l)[j]:=by simp[hj]
   have e3:(sortI l).toArray[j - 1]! = (sortI l)[j - 1]'(by omega):=by rw[getElem!_pos (sortI l).toArray (j - 1) (by simp;omega)];rfl
   rw[e1,e2]
   unfold Lib.keeps at kj
   rw[e2,e3]at kj
   have h1:=hget i (j - 1) hi (by omega) (by omega)
   have h2:=hget (j - 1) j (by omega) hj (by omega)
   rcases of_decide_eq_true kj with h|h
   · omega
   · omega
 · intro y
   rw[ex,List.mem_map]
   constructor
   · rintro⟨j,hj,rfl⟩
     have hj:=List.mem_range.mp (List.mem_filter.mp hj).1
     have e:(sortI l).toArray[j]! = (sortI l)[j]:=by simp[hj]
     rw[e,←sortI_mem];exact List.getElem_mem hj
   · intro hy
     rw[←sortI_mem]at hy
     have hf:firstAt (fun t=>t == y) (sortI l)<(sortI l).length:=firstAt_any.mpr (List.any_eq_true.mpr ⟨y,hy,by simp⟩)
     have h2:=firstAt_at hf
     have h3:(sortI l)[firstAt (fun t=>t == y) (sortI l)]=y:=by simpa using h2
     refine⟨firstAt (fun t=>t == y) (sortI l),List.mem_filter.mpr ⟨List.mem_range.mpr hf,?_⟩,by simp[hf,h3]⟩
     unfold Lib.keeps
     rw[decide_eq_true_iff]
     by_cases h0:firstAt (fun t=>t == y) (sortI l)=0
     · exact .inl h0
     · right
       have hlt:firstAt (fun t=>t == y) (sortI l) - 1<(sortI l).length:=by omega
       have h4:=firstAt_lt (p:=fun t=>t == y) (l:=sortI l) hlt (by omega)
       have e1:(sortI l).toArray[firstAt (fun t=>t == y) (sortI l)]! = y:=by simp[hf,h3]
       have e2:(sortI l).toArray[firstAt (fun t=>t == y) (sortI l) - 1]! = (sortI l)[firstAt (fun t=>t == y) (sortI l) - 1]:=by simp[hlt]
       rw[e1,e2]
       intro e
       rw[←e]at h4;simp at h4
def inR (x a b:Int):Bool:=decide (a≤x)&&decide (x≤b)
theorem any_not {α:Type} {p:α→Bool} {l:List α}:(l.any fun t=>!p t) = !(l.all p):=by
 induction l with
 |nil=>rfl
 |cons a l ih=>simp only[List.any_cons,List.all_cons,ih];cases p a<;>simp
theorem nt {b:Bool} (h:(!b)=true):b=false:=by simpa using h
theorem nf {b:Bool} (h:(!b)=false):b=true:=by simpa using h
theorem flat_split {α β:Type} (f:α→List β) {l:List α} {i:Nat} (h:i<l.length):(l.flatMap f).length=((l.take i).flatMap f).length+((f l[i]).length+((l.drop (i+1)).flatMap f).length):=by
 have e:l=l.take i++l[i]::l.drop (i+1):=by rw[←drop_cons h,List.take_append_drop]
 have:=congrArg (fun m=>(m.flatMap f).length) e
 simp only[List.flatMap_append,List.flatMap_cons,List.length_append]at this
 exact this
theorem inR_iff {x a b:Int}:inR x a b=true↔a≤x∧x≤b:=by simp[inR]
theorem bl_tri:∀ {a b:List UInt8},(Op.bytesLess b a||b == a) = !(Op.bytesLess a b)
 |[],[]=>by decide
 |[],y::b=>by simp[Op.bytesLess]
 |x::a,[]=>by simp[Op.bytesLess]
 | x::a,y::b=>by
   have ih:=bl_tri (a:=a) (b:=b)
   simp only[Op.bytesLess]
   by_cases h:y<x
   · have h2:¬ x<y:=UInt8.lt_asymm h
     have h3:¬ x=y:=by rintro rfl;exact UInt8.lt_irrefl _ h
     simp[h,h2,h3]
   · by_cases h2:x<y
     · have h3:¬ y=x:=by rintro rfl;exact h h2
       simp[h,h2,h3]
     · have h3:x=y:=UInt8.le_antisymm (UInt8.not_lt.mp h) (UInt8.not_lt.mp h2)
       subst h3
       simp only[h,decide_false,beq_self_eq_true,Bool.true_and,Bool.false_or]
       rw[←ih]
       by_cases h4:b=a<;>simp[h4]
def vRel (r:TRel):Bool:=(r.1.length == 1)&&decide (97≤(r.1.getD 0 0).toNat)&&decide ((r.1.getD 0 0).toNat≤122)&&inR r.2.1 1 3
def relAt (l:List TRel) (i:Nat):TRel:=l.getD i zRel
def vRels (l:List TRel):Bool:=((List.range l.length).all fun i=>vRel (relAt l i)&&(i == 0||Op.bytesLess (relAt l (i - 1)).1 (relAt l i).1))&&decide (l.length≤6)
theorem relAt_get {l:List TRel} {i:Nat} (h:i<l.length):relAt l i=l[i]:=getD_at h
theorem vRels_mem {l:List TRel} (h:vRels l=true) {r:TRel} (hr:r∈l):vRel r=true:=by
 unfold vRels at h
 rw[Bool.and_eq_true]at h
 obtain⟨i,hi,rfl⟩:=List.mem_iff_getElem.mp hr
 have:=List.all_eq_true.mp h.1 i (List.mem_range.mpr hi)
 rw[Bool.and_eq_true,relAt_get hi]at this
 exact this.1
theorem vRels_len {l:List TRel} (h:vRels l=true):l.length≤6:=by
 unfold vRels at h;simp at h;exact h.2
theorem vRel_arity {r:TRel} (h:vRel r=true):1≤r.2.1∧r.2.1≤3:=by
 unfold vRel at h;simp[inR]at h;exact h.2
def arity (l:List TRel) (i:Int):Int:=(l.getD (Int.toNat i) zRel).2.1
def srcAt (l:List TRel) (i:Int):Bool:=(l.getD (Int.toNat i) zRel).2.2.1
def vRow (ok:Int→Bool) (l:List TRel) (a:TFact):Bool:=vRels l&&inR a.1 0 ((l.length:Int) - 1)&&((a.2.1.length:Int) == arity l a.1)&&a.2.1.all ok
theorem vRow_spec {ok:Int→Bool} {l:List TRel} {a:TFact} (h:vRow ok l a=true):vRels l=true∧0≤a.1∧a.1<l.length∧(a.2.1.length:Int)=arity l a.1∧a.2.1.length≤3∧∀ v∈a.2.1,ok v=true:=by
 unfold vRow at h
 simp only[Bool.and_eq_true,beq_iff_eq,List.all_eq_true]at h
 obtain⟨⟨⟨h1,h2⟩,h3⟩,h4⟩:=h
 have h2:=inR_iff.mp h2
 have hlt:a.1.toNat<l.length:=by omega
 have:=vRel_arity (vRels_mem h1 (List.getElem_mem hlt))
 have e:arity l a.1=l[a.1.toNat].2.1:=by unfold arity;rw[getD_at hlt]
 exact⟨h1,h2.1,by omega,h3,by omega,h4⟩
def vTerm (t:Int):Bool:=inR t (-10) 4
def vAtom (l:List TRel) (a:TFact):Bool:=vRow vTerm l a
def vars (l:List TFact):List Int:=sset ((l.flatMap (·.2.1)).filter fun t=>decide (0≤t))
def vDep (l:List TRel) (d:TDep):Bool:=inR d.1.length 1 2&&d.1.all (vAtom l) &&
 (if d.2.2.1 then decide (d.2.1=[])&&decide (d.2.2.2.1∈vars d.1)&&decide (d.2.2.2.2.1∈vars d.1)&&decide (d.2.2.2.1<d.2.2.2.2.1)
  else d.2.1.all (fun a=>vAtom l a && !(srcAt l a.1))&&inR d.2.1.length 1 2&&(d.2.2.2.1 == 0)&&(d.2.2.2.2.1 == 0))
def vDeps (l:List TRel) (ds:List TDep):Bool:=ds.all (vDep l)&&vRels l&&decide (ds.length≤5)
def exV (d:TDep):List Int:=(vars d.2.1).filter fun v=>!decide (v∈vars d.1)
def frV (d:TDep):List Int:=(vars d.2.1).filter fun v=>decide (v∈vars d.1)
theorem atoms_len {l:List TRel} {ats:List TFact} (h:ats.all (vAtom l)=true):(ats.flatMap (·.2.1)).length≤3 * ats.length:=by
 induction ats with
 |nil=>simp
 | cons a ats ih=>
   simp only[List.all_cons,Bool.and_eq_true]at h
   have h1:=(vRow_spec h.1).2.2.2.2.1
   have:=ih h.2
   simp only[List.flatMap_cons,List.length_append,List.length_cons]
   omega
theorem vars_len (l:List TFact):(vars l).length≤(l.flatMap (·.2.1)).length:=Nat.le_trans (sset_len _) (List.length_filter_le _ _)
theorem g_sl1In {x a b:Int}:G_sl1In x a b (inR x a b):=M_sl1In _ _ _ _ (by
 unfold S_sl1In inR
 refine bc_dec (fun h=>?_) (fun h=>?_)
 · rw[decide_eq_true (show a≤x from h),Bool.true_and]
 · rw[decide_eq_false (show ¬ a≤x from h),Bool.false_and])
theorem g_iwithin {x a b:Int}:G_iwithin x a b (inR x a b):=M_iwithin _ _ _ _ (by
 unfold S_iwithin inR
 refine bc_dec (fun h=>?_) (fun h=>?_)
 · rw[decide_eq_true h,Bool.true_and]
 · rw[decide_eq_false h,Bool.false_and])
theorem g_sIsValidRelation {r:TRel}:G_sIsValidRelation r (vRel r):=M_sIsValidRelation _ _ (by
 unfold S_sIsValidRelation
 have no:∀ {b:Bool},vRel r=b→((b,()):Bool×Unit)=(vRel r,()):=fun h=>by rw[h]
 refine lenI fun _=>bc_beq (fun h=>?_) (fun h=>no ?_)
 · have h1:r.1.length=1:=by omega
   refine⟨⟨by omega,by omega⟩,?_⟩
   refine bc_dec (fun h2=>⟨⟨by omega,by omega⟩,bc_dec (fun h3=>⟨_,g_sl1In,no ?_⟩) (fun h3=>no ?_)⟩) (fun h2=>no ?_)
   · unfold vRel
     have a1:decide (97≤(r.1.getD 0 0).toNat)=true:=decide_eq_true (by have h2:(97:Int)≤((r.1.getD 0 0).toNat:Int):=h2;omega)
     have a2:decide ((r.1.getD 0 0).toNat≤122)=true:=decide_eq_true (by have h3:((r.1.getD 0 0).toNat:Int)≤122:=h3;omega)
     rw[a1,a2];simp[h1]
   · unfold vRel
     have a2:decide ((r.1.getD 0 0).toNat≤122)=false:=decide_eq_false (by have h3:¬ ((r.1.getD 0 0).toNat:Int)≤122:=h3;omega)
     rw[a2];simp
   · unfold vRel
     have a1:decide (97≤(r.1.getD 0 0).toNat)=false:=decide_eq_false (by have h2:¬ (97:Int)≤((r.1.getD 0 0).toNat:Int):=h2;omega)
     rw[a1];simp
 · unfold vRel
   have:(r.1.length == 1)=false:=by simp;omega
   rw[this];simp)
theorem vRels_no {l:List TRel} {i:Nat} (h:i<l.length) (hp:(vRel (relAt l i)&&(i == 0||Op.bytesLess (relAt l (i - 1)).1 (relAt l i).1))=false):vRels l=false:=by
 unfold vRels
 rw[Bool.and_eq_false_iff];left
 rw[Bool.eq_false_iff];intro hall
 have:=List.all_eq_true.mp hall i (List.mem_range.mpr h)
 rw[hp]at this;cases this
theorem vRels_yes {l:List TRel} (hp:∀ i,i<l.length→(!(vRel (relAt l i)&&(i == 0||Op.bytesLess (relAt l (i - 1)).1 (relAt l i).1)))=false):vRels l=decide (l.length≤6):=by
 unfold vRels
 have:((List.range l.length).all fun i=>vRel (relAt l i)&&(i == 0||Op.bytesLess (relAt l (i - 1)).1 (relAt l i).1))=true:=
  List.all_eq_true.mpr fun i hi=>by have:=hp i (List.mem_range.mp hi);rwa [Bool.not_eq_false']at this
 rw[this,Bool.true_and]
theorem g_sAreValidRelations {l:List TRel}:G_sAreValidRelations l (vRels l):=M_sAreValidRelations _ _ (by
 unfold S_sAreValidRelations
 refine loop_anyI l.length (fun i=>!(vRel (relAt l i)&&(i == 0||Op.bytesLess (relAt l (i - 1)).1 (relAt l i).1))) (fun i=>((i:Int),())) (KT:=((false,()):Bool×Unit)=(vRels l,())) (KF:=((decide ((List.length l:Int)≤6),()):Bool×Unit)=(vRels l,())) ?_ (fun X h=>lenI fun _=>bcN (lenI fun _=>h)) ?_ ?_
 · intro i hi X hb h1 h2
   refine lenI fun hl=>bcI hi (inI hi ⟨_,g_sIsValidRelation,?_⟩)
   simp only
   rw[getI hi,w64_succ (by omega)]
   rw[relAt_get hi]at h1 h2
   refine bc_not (fun h=>h1 (by simp[h])) (fun h=>bc_dec (fun h0=>?_) (fun h0=>h2 (by obtain rfl:i=0:=(by omega);simp[h])))
   have hi':i - 1<l.length:=by omega
   have hw:w64 ((i:Int) - 1)=((i - 1:Nat):Int):=by rw[w64_id (by omega) (by omega)];omega
   rw[hw]
   refine inI hi' (inI hi ?_)
   rw[getI hi']
   rw[relAt_get hi']at h1 h2
   have hz:(i == 0)=false:=by simp;omega
   rw[hz,Bool.false_or,h,Bool.true_and]at h1 h2
   exact bc_if (fun h=>h1 h) (fun h=>h2 h)
 · rintro⟨i,hi,hp⟩
   rw[vRels_no hi (by rwa [Bool.not_eq_true']at hp)]
 · intro hp
   rw[vRels_yes hp]
   congr 1
   exact decide_eq_decide.mpr (by omega))
theorem g_iIsValidRelation {r:TRel}:G_iIsValidRelation r (vRel r):=M_iIsValidRelation _ _ (by
 unfold S_iIsValidRelation
 have no:∀ {b:Bool},vRel r=b→((b,()):Bool×Unit)=(vRel r,()):=fun h=>by rw[h]
 refine lenI fun _=>bc_beq (fun h=>?_) (fun h=>no ?_)
 · have h1:r.1.length=1:=by omega
   obtain⟨c,hc⟩:∃ c,r.1=[c]:=List.length_eq_one_iff.mp h1
   rw[hc]
   have e1:(!(Op.bytesLess [c] [97]))=decide (97≤c.toNat):=by
    simp only[Op.bytesLess,Bool.and_false,Bool.or_false]
    by_cases h:c<97
    · have:c.toNat<97:=h
      simp[h];omega
    · have:¬ c.toNat<97:=h
      simp[h];omega
   have e2:(Op.bytesLess [c] [122]||[c] == [122])=decide (c.toNat≤122):=by
    simp only[Op.bytesLess,Bool.and_false,Bool.or_false]
    by_cases h:c<122
    · have:c.toNat<122:=h
      simp[h];omega
    · have:¬ c.toNat<122:=h
      by_cases h2:c=122
      · subst h2;simp
      · have h3:c.toNat≠122:=fun e=>h2 (UInt8.toNat_inj.mp e)
        have d2:([c] == [(122:UInt8)])=false:=by simp[h2]
        rw[decide_eq_false h,d2,decide_eq_false (by omega)];rfl
   rw[e1,e2]
   refine bc_dec (fun h2=>bc_dec (fun h3=>⟨_,g_iwithin,no ?_⟩) (fun h3=>no ?_)) (fun h2=>no ?_)
   · unfold vRel;rw[hc];simp[h2,h3]
   · unfold vRel;rw[hc]
     show((1 == 1)&&decide (97≤c.toNat)&&decide (c.toNat≤122)&&inR r.2.1 1 3)=false
     rw[decide_eq_false h3];simp
   · unfold vRel;rw[hc]
     show((1 == 1)&&decide (97≤c.toNat)&&decide (c.toNat≤122)&&inR r.2.1 1 3)=false
     rw[decide_eq_false h2];simp
 · unfold vRel
   have:(r.1.length == 1)=false:=by simp;omega
   rw[this];simp)
theorem g_iAreValidRelations {l:List TRel}:G_iAreValidRelations l (vRels l):=M_iAreValidRelations _ _ (by
 unfold S_iAreValidRelations
 refine lenI fun hl=>loop_anyI l.length (fun i=>!(vRel (relAt l i)&&(i == 0||Op.bytesLess (relAt l (i - 1)).1 (relAt l i).1))) (fun i=>((i:Int),())) (KT:=((false,()):Bool×Unit)=(vRels l,())) (KF:=((decide ((List.length l:Int)≤6),()):Bool×Unit)=(vRels l,())) ?_ (fun X h=>bcN (lenI fun _=>h)) ?_ ?_
 · intro i hi X hb h1 h2
   refine bcI hi (inI hi ⟨_,g_iIsValidRelation,?_⟩)
   simp only
   rw[getI hi,w64_succ (by omega)]
   rw[relAt_get hi]at h1 h2
   refine bc_not (fun h=>h1 (by simp[h])) (fun h=>bc_dec (fun h0=>?_) (fun h0=>h2 (by obtain rfl:i=0:=(by omega);simp[h])))
   have hi':i - 1<l.length:=by omega
   have hw:w64 ((i:Int) - 1)=((i - 1:Nat):Int):=by rw[w64_id (by omega) (by omega)];omega
   rw[hw]
   refine inI hi' ?_
   rw[getI hi']
   rw[relAt_get hi']at h1 h2
   have hz:(i == 0)=false:=by simp;omega
   rw[hz,Bool.false_or,h,Bool.true_and]at h1 h2
   rw[bl_tri]
   exact bc_if (fun h=>h1 h) (fun h=>h2 h)
 · rintro⟨i,hi,hp⟩
   rw[vRels_no hi (by rwa [Bool.not_eq_true']at hp)]
 · intro hp
   rw[vRels_yes hp]
   congr 1
   exact decide_eq_decide.mpr (by omega))
theorem row_start {l:List TRel} {a:TFact} (h:inR a.1 0 (w64 ((l.length:Int) - 1))=true) (hl:(l.length:Int)≤9223372036854775807):0≤a.1∧a.1<(l.length:Int):=by
 have:=inR_iff.mp h
 rw[w64_id (by omega) (by omega)]at this
 omega
theorem row_range {l:List TRel} {a:TFact} (hl:(l.length:Int)≤9223372036854775807):inR a.1 0 (w64 ((l.length:Int) - 1))=inR a.1 0 ((l.length:Int) - 1):=by
 rw[w64_id (by omega) (by omega)]
theorem row_no1 {ok:Int→Bool} {l:List TRel} {a:TFact} (h:vRels l=false):((false,()):Bool×Unit)=(vRow ok l a,()):=by unfold vRow;rw[h];simp
theorem row_no2 {ok:Int→Bool} {l:List TRel} {a:TFact} (hl:(l.length:Int)≤9223372036854775807) (h:inR a.1 0 (w64 ((l.length:Int) - 1))=false):((false,()):Bool×Unit)=(vRow ok l a,()):=by
 rw[row_range hl]at h;unfold vRow;rw[h];simp
theorem row_no3 {ok:Int→Bool} {l:List TRel} {a:TFact} (h:(a.2.1.length:Int)≠(l.getD (Int.toNat a.1) zRel).2.1):((false,()):Bool×Unit)=(vRow ok l a,()):=by
 have:((a.2.1.length:Int) == arity l a.1)=false:=by simpa [arity]using h
 unfold vRow;rw[this];simp
theorem row_yes {ok:Int→Bool} {l:List TRel} {a:TFact} {b:Bool} (hl:(l.length:Int)≤9223372036854775807) (h1:vRels l=true) (h2:inR a.1 0 (w64 ((l.length:Int) - 1))=true) (h3:(a.2.1.length:Int)=(l.getD (Int.toNat a.1) zRel).2.1) (hb:b=a.2.1.all ok):((b,()):Bool×Unit)=(vRow ok l a,()):=by
 rw[row_range hl]at h2
 have:((a.2.1.length:Int) == arity l a.1)=true:=by simpa [arity]using h3
 unfold vRow;rw[h1,h2,this,hb];simp
theorem g_sIsValidAtom {l:List TRel} {a:TFact}:G_sIsValidAtom l a (vAtom l a):=M_sIsValidAtom _ _ _ (by
 unfold S_sIsValidAtom vAtom
 refine⟨_,g_sAreValidRelations,bc_not (fun h=>row_no1 h) (fun h1=>lenI fun hl=>⟨_,g_sl1In,bc_not (fun h=>row_no2 hl h) (fun h2=>lenI fun hl2=>⟨row_start h2 hl,bc_ne (fun h=>row_no3 h) (fun h3=>?_)⟩)⟩)⟩
 refine loop_any a.2.1 (fun t=>!vTerm t) (fun i=>((i:Int),())) (KT:=((false,()):Bool×Unit)=(vRow vTerm l a,())) (KF:=((true,()):Bool×Unit)=(vRow vTerm l a,())) ?_ (fun X h=>lenI fun _=>bcN h) ?_ ?_
 · intro i hi X q1 q2
   refine lenI fun _=>bcI hi (inI hi ⟨_,g_sl1In,?_⟩)
   simp only
   rw[getI hi,w64_succ (by omega)]
   exact bc_if (fun h=>q1 h) (fun h=>q2 h)
 · intro h;exact row_yes hl h1 h2 h3 (by rw[any_not]at h;exact(nt h).symm)
 · intro h;exact row_yes hl h1 h2 h3 (by rw[any_not]at h;exact(nf h).symm))
theorem g_iIsValidAtom_1 {t:Int}:G_iIsValidAtom_1 t (!vTerm t):=M_iIsValidAtom_1 _ _ (by unfold S_iIsValidAtom_1;exact⟨_,g_iwithin,rfl⟩)
theorem g_iIsValidAtom {l:List TRel} {a:TFact}:G_iIsValidAtom l a (vAtom l a):=M_iIsValidAtom _ _ _ (by
 unfold S_iIsValidAtom vAtom
 refine⟨_,g_iAreValidRelations,bc_not (fun h=>row_no1 h) (fun h1=>lenI fun hl=>⟨_,g_iwithin,bc_not (fun h=>row_no2 hl h) (fun h2=>lenI fun hl2=>⟨row_start h2 hl,bc_ne (fun h=>row_no3 h) (fun h3=>?_)⟩)⟩)⟩
 exact⟨_,g_slices_ContainsFunc_int_c_iIsValidAtom_1 (fun t=>!vTerm t) (fun _ _=>g_iIsValidAtom_1),row_yes hl h1 h2 h3 (by rw[any_not];simp)⟩)
theorem g_sVariables {l:List TFact} (hl:(l.flatMap (·.2.1)).length≤1073741824):G_sVariables l (vars l):=M_sVariables _ _ (by
 unfold S_sVariables
 refine loopP_of l.length (fun i=>((i:Int),(vars (l.take i),()))) (by simp[vars,sset]) ?_ ?_
 · intro i hi X hX
   refine lenI fun hl1=>bcI hi ?_
   simp only
   rw[getI hi]
   have hsub:((l.take i).flatMap (·.2.1)).length+l[i].2.1.length≤1073741824:=by
    have:=flat_split (·.2.1) hi
    omega
   have hset:∀ j,j≤l[i].2.1.length→(sset (((l.take i).flatMap (·.2.1)++l[i].2.1.take j).filter fun t=>decide (0≤t))).length≤1073741824:=by
    intro j hj
    refine Nat.le_trans (sset_len _) (Nat.le_trans (List.length_filter_le _ _) ?_)
    rw[List.length_append,List.length_take];omega
   refine loopP_of l[i].2.1.length (fun j=>(sset (((l.take i).flatMap (·.2.1)++l[i].2.1.take j).filter fun t=>decide (0≤t)),((j:Int),()))) (by simp[vars]) ?_ ?_
   · intro j hj Y hY
     refine inI hi (lenI fun _=>bcI hj (inI hi (inI hj ?_)))
     simp only
     rw[getI hj,w64_succ (by omega)]
     have e:((l.take i).flatMap (·.2.1)++l[i].2.1.take (j+1)).filter (fun t=>decide (0≤t))=((l.take i).flatMap (·.2.1)++l[i].2.1.take j).filter (fun t=>decide (0≤t))++(if 0≤l[i].2.1[j] then[l[i].2.1[j]] else[]):=by
      rw[take_succ_snoc hj,←List.append_assoc,List.filter_append]
      by_cases h:0≤l[i].2.1[j]<;>simp[h]
     rw[e]at hY
     refine bc_dec (fun h=>inI hi (inI hj ⟨_,g_sl4Put (hset j (by omega)),?_⟩)) (fun h=>?_)
     · have h:0≤l[i].2.1[j]:=h
       rw[if_pos h]at hY
       rw[sset_snoc];exact hY
     · have h:¬ 0≤l[i].2.1[j]:=h
       rw[if_neg h,List.append_nil]at hY;exact hY
   · intro Y
     refine inI hi (lenI fun _=>bcN ?_)
     simp only
     rw[w64_succ (by omega),List.take_length]
     have:sset (((l.take i).flatMap (·.2.1)++l[i].2.1).filter fun t=>decide (0≤t))=vars (l.take (i+1)):=by
      unfold vars;rw[take_succ_snoc hi,List.flatMap_append];simp
     rw[this];exact hX
 · intro X
   refine lenI fun _=>bcN ?_
   simp only[List.take_length])
theorem g_iVariables {l:List TFact} (hl:(l.flatMap (·.2.1)).length≤1073741824):G_iVariables l (vars l):=M_iVariables _ _ (by
 unfold S_iVariables
 refine lenI fun hl1=>?_
 refine loopP_of l.length (fun i=>((i:Int),(((l.take i).flatMap (·.2.1)).filter (fun t=>decide (0≤t)),()))) (by simp) ?_ ?_
 · intro i hi X hX
   refine bcI hi (inI hi ?_)
   simp only
   rw[getI hi,w64_succ (by omega)]
   have hsub:((l.take i).flatMap (·.2.1)).length+l[i].2.1.length≤1073741824:=by
    have:=flat_split (·.2.1) hi
    omega
   refine lenI fun _=>loopP_of l[i].2.1.length (fun j=>((j:Int),(((l.take i).flatMap (·.2.1)++l[i].2.1.take j).filter (fun t=>decide (0≤t)),()))) (by simp) ?_ ?_
   · intro j hj Y hY
     refine bcI hj (inI hj ?_)
     simp only
     rw[getI hj,w64_succ (by omega)]
     have e:((l.take i).flatMap (·.2.1)++l[i].2.1.take (j+1)).filter (fun t=>decide (0≤t))=((l.take i).flatMap (·.2.1)++l[i].2.1.take j).filter (fun t=>decide (0≤t))++(if 0≤l[i].2.1[j] then[l[i].2.1[j]] else[]):=by
      rw[take_succ_snoc hj,←List.append_assoc,List.filter_append]
      by_cases h:0≤l[i].2.1[j]<;>simp[h]
     rw[e]at hY
     have hb:=List.length_filter_le (fun t=>decide (0≤t)) ((l.take i).flatMap (·.2.1)++l[i].2.1.take j)
     rw[List.length_append,List.length_take]at hb
     refine bc_dec (fun h=>⟨by simp only[maxL,List.length_cons,List.length_nil];omega,?_⟩) (fun h=>?_)
     · have h:0≤l[i].2.1[j]:=h
       rw[if_pos h]at hY;exact hY
     · have h:¬ 0≤l[i].2.1[j]:=h
       rw[if_neg h,List.append_nil]at hY;exact hY
   · intro Y
     refine bcN ?_
     simp only
     rw[List.take_length]
     have:((l.take i).flatMap (·.2.1)++l[i].2.1).filter (fun t=>decide (0≤t))=((l.take (i+1)).flatMap (·.2.1)).filter (fun t=>decide (0≤t)):=by
      rw[take_succ_snoc hi,List.flatMap_append];simp
     rw[this];exact hX
 · intro X
   refine bcN ⟨_,g_slices_Sort_int_ooz ?_,_,g_slices_Compact_int_ooz,?_⟩
   · simp only[List.take_length]
     have:=List.length_filter_le (fun t=>decide (0≤t)) (l.flatMap (·.2.1));omega
   · simp only[List.take_length]
     rw[comp_sort];rfl)
theorem vDep_no1 {l:List TRel} {d:TDep} (h:inR d.1.length 1 2=false):((false,()):Bool×Unit)=(vDep l d,()):=by unfold vDep;rw[h];simp
theorem vDep_no2 {l:List TRel} {d:TDep} (h:d.1.all (vAtom l)=false):((false,()):Bool×Unit)=(vDep l d,()):=by unfold vDep;rw[h];simp
theorem g_sIsValidDependency {l:List TRel} {d:TDep}:G_sIsValidDependency l d (vDep l d):=M_sIsValidDependency _ _ _ (by
 unfold S_sIsValidDependency
 refine lenI fun hl=>⟨_,g_sl1In,bc_not (fun h=>vDep_no1 h) (fun h1=>?_)⟩
 refine loop_any d.1 (fun a=>!vAtom l a) (fun i=>((i:Int),())) (KT:=((false,()):Bool×Unit)=(vDep l d,())) (KF:=d.1.all (vAtom l)=true) ?_ ?_ ?_ ?_
 · intro i hi X q1 q2
   refine lenI fun _=>bcI hi (inI hi ⟨_,g_sIsValidAtom,?_⟩)
   simp only
   rw[getI hi,w64_succ (by omega)]
   exact bc_if (fun h=>q1 h) (fun h=>q2 h)
 · intro X hall
   have hlen:=inR_iff.mp h1
   have hal:=atoms_len hall
   refine lenI fun _=>bcN (bc_if (fun he=>?_) (fun he=>?_))
   · have ev:vDep l d=(decide (d.2.1=[])&&decide (d.2.2.2.1∈vars d.1)&&decide (d.2.2.2.2.1∈vars d.1)&&decide (d.2.2.2.1<d.2.2.2.2.1)):=by
      unfold vDep;rw[h1,hall,he];simp
     rw[ev]
     refine⟨_,g_sVariables (by omega),lenI fun _=>bc_beq (fun h=>⟨_,g_sl4Has,bc_dec (fun h2=>⟨_,g_sl4Has,bc_dec (fun h3=>?_) (fun h3=>?_)⟩) (fun h2=>?_)⟩) (fun h=>?_)⟩
     · have:d.2.1=[]:=List.length_eq_zero_iff.mp (by omega)
       simp[this,h2,h3]
     · simp[h3]
     · simp[h2]
     · have:d.2.1≠[]:=by intro e;rw[e]at h;simp at h
       simp[this]
   · have ev:vDep l d=(d.2.1.all (fun a=>vAtom l a && !(srcAt l a.1))&&inR d.2.1.length 1 2&&(d.2.2.2.1 == 0)&&(d.2.2.2.2.1 == 0)):=by
      unfold vDep;rw[h1,hall,he];simp
     rw[ev]
     refine loop_any d.2.1 (fun a=>!(vAtom l a && !(srcAt l a.1))) (fun i=>((i:Int),())) (KT:=d.2.1.all (fun a=>vAtom l a && !(srcAt l a.1))=false) (KF:=d.2.1.all (fun a=>vAtom l a && !(srcAt l a.1))=true) ?_ ?_ ?_ ?_
     · intro i hi X q1 q2
       refine lenI fun _=>bcI hi (inI hi ⟨_,g_sIsValidAtom,?_⟩)
       simp only
       rw[getI hi,w64_succ (by omega)]
       have no:d.2.1.all (fun a=>vAtom l a && !(srcAt l a.1))=false→((false,()):Bool×Unit)=(d.2.1.all (fun a=>vAtom l a && !(srcAt l a.1))&&inR d.2.1.length 1 2&&(d.2.2.2.1 == 0)&&(d.2.2.2.2.1 == 0),()):=fun h=>by rw[h];simp
       refine bc_not (fun h=>no (q1 (by simp[h]))) (fun h=>inI hi ⟨?_,bc_if (fun h'=>no (q1 ?_)) (fun h'=>q2 ?_)⟩)
       · have:=vRow_spec h;exact⟨this.2.1,this.2.2.1⟩
       · have:srcAt l d.2.1[i].1=true:=h'
         simp[this]
       · have:srcAt l d.2.1[i].1=false:=h'
         simp[this,h]
     · intro X hh
       refine lenI fun _=>bcN (lenI fun _=>⟨_,g_sl1In,?_⟩)
       rw[hh]
       refine bc_if (fun h2=>bc_beq (fun h3=>?_) (fun h3=>?_)) (fun h2=>?_)
       · rw[h2,h3];simp
       · have:(d.2.2.2.1 == 0)=false:=by simpa using h3
         rw[this];simp
       · rw[h2];simp
     · intro h;rw[any_not]at h;exact nt h
     · intro h;rw[any_not]at h;exact nf h
 · intro h;rw[any_not]at h;exact vDep_no2 (nt h)
 · intro h;rw[any_not]at h;exact nf h)
theorem g_iareAtoms_1 {l:List TRel} {a:TFact}:G_iareAtoms_1 a l (!vAtom l a):=M_iareAtoms_1 _ _ _ (by unfold S_iareAtoms_1;exact⟨_,g_iIsValidAtom,rfl⟩)
theorem g_iareAtoms {l:List TRel} {ats:List TFact} {n:Int}:G_iareAtoms l ats n (inR ats.length 1 n&&ats.all (vAtom l)):=M_iareAtoms _ _ _ _ (by
 unfold S_iareAtoms
 refine lenI fun _=>⟨_,g_iwithin,bc_if (fun h=>⟨_,g_slices_ContainsFunc_Atom_c_iareAtoms_1 (fun a=>!vAtom l a) (fun _ _=>g_iareAtoms_1),?_⟩) (fun h=>?_)⟩
 · rw[h,Bool.true_and,any_not];simp
 · rw[h,Bool.false_and])
theorem g_iIsValidDependency_1 {l:List TRel} {a:TFact} (h0:0≤a.1) (h1:a.1<l.length):G_iIsValidDependency_1 a l (srcAt l a.1):=M_iIsValidDependency_1 _ _ _ (by unfold S_iIsValidDependency_1;exact⟨⟨h0,h1⟩,rfl⟩)
theorem g_iIsValidDependency {l:List TRel} {d:TDep}:G_iIsValidDependency l d (vDep l d):=M_iIsValidDependency _ _ _ (by
 unfold S_iIsValidDependency
 refine⟨_,g_iareAtoms,bc_not (fun h=>?_) (fun h=>?_)⟩
 · unfold vDep;rw[h];simp
 · have h':=Bool.and_eq_true_iff.mp h
   have hlen:=inR_iff.mp h'.1
   have hal:=atoms_len h'.2
   refine bc_if (fun he=>?_) (fun he=>?_)
   · have ev:vDep l d=(decide (d.2.1=[])&&decide (d.2.2.2.1∈vars d.1)&&decide (d.2.2.2.2.1∈vars d.1)&&decide (d.2.2.2.1<d.2.2.2.2.1)):=by
      unfold vDep;rw[h'.1,h'.2,he];simp
     rw[ev]
     refine⟨_,g_iVariables (by omega),lenI fun _=>bc_beq (fun h0=>bc_dec (fun h1=>⟨_,g_slices_Contains_int,bc_dec (fun h2=>⟨_,g_slices_Contains_int,?_⟩) (fun h2=>?_)⟩) (fun h1=>?_)) (fun h0=>?_)⟩
     · have:d.2.1=[]:=List.length_eq_zero_iff.mp (by omega)
       simp[this,h1,h2]
     · simp[h2]
     · simp[h1]
     · have:d.2.1≠[]:=by intro e;rw[e]at h0;simp at h0
       simp[this]
   · have ev:vDep l d=(d.2.1.all (fun a=>vAtom l a && !(srcAt l a.1))&&inR d.2.1.length 1 2&&(d.2.2.2.1 == 0)&&(d.2.2.2.2.1 == 0)):=by
      unfold vDep;rw[h'.1,h'.2,he];simp
     rw[ev]
     have hand:d.2.1.all (fun a=>vAtom l a && !(srcAt l a.1))=(d.2.1.all (vAtom l)&&d.2.1.all fun a=>!(srcAt l a.1)):=by
      generalize d.2.1=m
      induction m with
      |nil=>rfl
      |cons a m ih=>simp only[List.all_cons,ih];cases vAtom l a<;>cases srcAt l a.1<;>simp
     rw[hand]
     refine⟨_,g_iareAtoms,bc_if (fun h1=>bc_beq (fun h2=>bc_beq (fun h3=>?_) (fun h3=>?_)) (fun h2=>?_)) (fun h1=>?_)⟩
     · have h1:=Bool.and_eq_true_iff.mp h1
       refine⟨_,g_slices_ContainsFunc_Atom_c_iIsValidDependency_1 (fun a=>srcAt l a.1) (fun a ha=>?_),?_⟩
       · have:=vRow_spec (List.all_eq_true.mp h1.2 a ha)
         exact g_iIsValidDependency_1 this.2.1 this.2.2.1
       · rw[h1.1,h1.2,h2,h3,List.not_any_eq_all_not];simp
     · have:(d.2.2.2.2.1 == 0)=false:=by simpa using h3
       rw[this];simp
     · have:(d.2.2.2.1 == 0)=false:=by simpa using h2
       rw[this];simp
     · rcases Bool.and_eq_false_iff.mp h1 with h1|h1<;>rw[h1]<;>simp)
theorem g_sAreValidDependencies {l:List TRel} {ds:List TDep}:G_sAreValidDependencies l ds (vDeps l ds):=M_sAreValidDependencies _ _ _ (by
 unfold S_sAreValidDependencies
 refine loop_any ds (fun d=>!vDep l d) (fun i=>((i:Int),())) (KT:=ds.all (vDep l)=false) (KF:=ds.all (vDep l)=true) ?_ ?_ ?_ ?_
 · intro i hi X q1 q2
   refine lenI fun _=>bcI hi (inI hi ⟨_,g_sIsValidDependency,?_⟩)
   simp only
   rw[getI hi,w64_succ (by omega)]
   exact bc_if (fun h=>by unfold vDeps;rw[q1 h];simp) (fun h=>q2 h)
 · intro X h
   refine lenI fun _=>bcN ⟨_,g_sAreValidRelations,bc_if (fun h1=>lenI fun _=>?_) (fun h1=>?_)⟩
   · unfold vDeps;rw[h,h1]
     have:decide ((ds.length:Int)≤5)=decide (ds.length≤5):=decide_eq_decide.mpr (by omega)
     rw[this];simp
   · unfold vDeps;rw[h1];simp
 · intro h;rw[any_not]at h;exact nt h
 · intro h;rw[any_not]at h;exact nf h)
theorem g_iAreValidDependencies_1 {l:List TRel} {d:TDep}:G_iAreValidDependencies_1 d l (!vDep l d):=M_iAreValidDependencies_1 _ _ _ (by unfold S_iAreValidDependencies_1;exact⟨_,g_iIsValidDependency,rfl⟩)
theorem g_iAreValidDependencies {l:List TRel} {ds:List TDep}:G_iAreValidDependencies l ds (vDeps l ds):=M_iAreValidDependencies _ _ _ (by
 unfold S_iAreValidDependencies
 refine⟨_,g_iAreValidRelations,bc_if (fun h1=>lenI fun _=>bc_dec (fun h2=>⟨_,g_slices_ContainsFunc_Dependency_c_iAreValidDependencies_1 (fun d=>!vDep l d) (fun _ _=>g_iAreValidDependencies_1),?_⟩) (fun h2=>?_)) (fun h1=>?_)⟩
 · have:decide (ds.length≤5)=true:=decide_eq_true (by omega)
   unfold vDeps;rw[h1,this,any_not];simp
 · have:decide (ds.length≤5)=false:=decide_eq_false (by omega)
   unfold vDeps;rw[this];simp
 · unfold vDeps;rw[h1];simp)
theorem g_sExistentialVariables {d:TDep} (h1:(d.1.flatMap (·.2.1)).length≤1073741824) (h2:(d.2.1.flatMap (·.2.1)).length≤1073741824):G_sExistentialVariables d (exV d):=M_sExistentialVariables _ _ (by
 unfold S_sExistentialVariables
 have hv:=vars_len d.2.1
 refine⟨_,g_sVariables h1,_,g_sVariables h2,?_⟩
 refine loopP_of (vars d.2.1).length (fun i=>((i:Int),(((vars d.2.1).take i).filter (fun v=>!decide (v∈vars d.1)),()))) (by simp) ?_ ?_
 · intro i hi X hX
   refine lenI fun _=>bcI hi (inI hi ⟨_,g_sl4Has,?_⟩)
   simp only
   rw[getI hi,w64_succ (by omega)]
   have e:((vars d.2.1).take (i+1)).filter (fun v=>!decide (v∈vars d.1))=((vars d.2.1).take i).filter (fun v=>!decide (v∈vars d.1))++(if (vars d.2.1)[i]∈vars d.1 then[] else[(vars d.2.1)[i]]):=by
    rw[take_succ_snoc hi,List.filter_append]
    by_cases h:(vars d.2.1)[i]∈vars d.1<;>simp[h]
   rw[e]at hX
   have hb:=List.length_filter_le (fun v=>!decide (v∈vars d.1)) ((vars d.2.1).take i)
   rw[List.length_take]at hb
   refine bc_if (fun h=>inI hi ⟨by simp only[maxL,List.length_cons,List.length_nil];omega,?_⟩) (fun h=>?_)
   · have h:¬ (vars d.2.1)[i]∈vars d.1:=by simpa using h
     rw[if_neg h]at hX;exact hX
   · have h:(vars d.2.1)[i]∈vars d.1:=by simpa using h
     rw[if_pos h,List.append_nil]at hX;exact hX
 · intro X
   refine lenI fun _=>bcN ?_
   simp only[List.take_length]
   rfl)
def hdV (d:TDep) (b:Bool):List Int:=(vars d.2.1).filter fun v=>decide (v∈vars d.1) == b
theorem g_iheadVariables {d:TDep} {b:Bool} (h1:(d.1.flatMap (·.2.1)).length≤1073741824) (h2:(d.2.1.flatMap (·.2.1)).length≤1073741824):G_iheadVariables d b (hdV d b):=M_iheadVariables _ _ _ (by
 unfold S_iheadVariables
 have hv:=vars_len d.2.1
 refine⟨_,g_iVariables h1,_,g_iVariables h2,lenI fun _=>?_⟩
 refine loopP_of (vars d.2.1).length (fun i=>((i:Int),(((vars d.2.1).take i).filter (fun v=>decide (v∈vars d.1) == b),()))) (by simp) ?_ ?_
 · intro i hi X hX
   refine bcI hi (inI hi ⟨_,g_slices_Contains_int,?_⟩)
   simp only
   rw[getI hi,w64_succ (by omega)]
   have e:((vars d.2.1).take (i+1)).filter (fun v=>decide (v∈vars d.1) == b)=((vars d.2.1).take i).filter (fun v=>decide (v∈vars d.1) == b)++(if (decide ((vars d.2.1)[i]∈vars d.1) == b)=true then[(vars d.2.1)[i]] else[]):=by
    rw[take_succ_snoc hi,List.filter_append]
    cases h:(decide ((vars d.2.1)[i]∈vars d.1) == b)<;>simp[h]
   rw[e]at hX
   have hb:=List.length_filter_le (fun v=>decide (v∈vars d.1) == b) ((vars d.2.1).take i)
   rw[List.length_take]at hb
   refine bc_if (fun h=>⟨by simp only[maxL,List.length_cons,List.length_nil];omega,?_⟩) (fun h=>?_)
   · rw[if_pos h]at hX;exact hX
   · rw[if_neg (by rw[h];simp),List.append_nil]at hX;exact hX
 · intro X
   refine bcN ?_
   simp only[List.take_length]
   rfl)
theorem hdV_false (d:TDep):hdV d false=exV d:=by unfold hdV exV;congr 1;funext v;by_cases h:v∈vars d.1<;>simp[h]
theorem g_iExistentialVariables {d:TDep} (h1:(d.1.flatMap (·.2.1)).length≤1073741824) (h2:(d.2.1.flatMap (·.2.1)).length≤1073741824):G_iExistentialVariables d (exV d):=M_iExistentialVariables _ _ (by
 unfold S_iExistentialVariables
 exact⟨_,g_iheadVariables h1 h2,by rw[hdV_false]⟩)
theorem vDep_spec {l:List TRel} {d:TDep} (h:vDep l d=true):1≤d.1.length∧d.1.length≤2∧(∀ a∈d.1,vAtom l a=true)∧d.2.1.length≤2∧(∀ a∈d.2.1,vAtom l a=true)∧(d.1.flatMap (·.2.1)).length≤6∧(d.2.1.flatMap (·.2.1)).length≤6:=by
 unfold vDep at h
 rw[Bool.and_eq_true,Bool.and_eq_true]at h
 obtain⟨⟨h1,h2⟩,h3⟩:=h
 have h1:=inR_iff.mp h1
 have l1:=atoms_len h2
 cases he:d.2.2.1 with
 | true=>
   rw[if_pos he]at h3
   simp only[Bool.and_eq_true,decide_eq_true_eq]at h3
   have:=h3.1.1.1
   exact⟨by omega,by omega,List.all_eq_true.mp h2,by simp[this],by simp[this],by omega,by simp[this]⟩
 | false=>
   rw[if_neg (by simp[he])]at h3
   simp only[Bool.and_eq_true]at h3
   have hr:=inR_iff.mp h3.1.1.2
   have h4:d.2.1.all (vAtom l)=true:=List.all_eq_true.mpr fun a ha=>by
    have:=List.all_eq_true.mp h3.1.1.1 a ha
    rw[Bool.and_eq_true]at this;exact this.1
   have l2:=atoms_len h4
   exact⟨by omega,by omega,List.all_eq_true.mp h2,by omega,List.all_eq_true.mp h4,by omega,by omega⟩
theorem vDeps_mem {l:List TRel} {ds:List TDep} (h:vDeps l ds=true) {d:TDep} (hd:d∈ds):vDep l d=true:=by
 unfold vDeps at h
 rw[Bool.and_eq_true,Bool.and_eq_true]at h
 exact List.all_eq_true.mp h.1.1 d hd
theorem vDeps_len {l:List TRel} {ds:List TDep} (h:vDeps l ds=true):ds.length≤5:=by
 unfold vDeps at h;simp at h;exact h.2
def isNul (v:Int):Bool:=inR v (-40) (-1)
def nulNo (v:Int):Int:=if isNul v then -1 - v else 0
def vVal (v:Int):Bool:=inR v (-40) 9
def nulls (l:List Int):List Int:=(l.filter isNul).map (fun v=>-1 - v)
def nulF (f:TFact):List Int:=sset (nulls f.2.1)
def nulI (x:TInst):List Int:=sset (x.2.1.flatMap fun f=>nulls f.2.1)
def vFact (l:List TRel) (f:TFact):Bool:=vRow vVal l f
def factAt (l:List TFact) (i:Nat):TFact:=l.getD i zFact
def factOk (x:TInst) (i:Nat):Bool:=vFact x.1 (factAt x.2.1 i)&&(i == 0||decide (cmpF (factAt x.2.1 (i - 1)) (factAt x.2.1 i)<0)) && !(srcAt x.1 (factAt x.2.1 i).1&&(nulF (factAt x.2.1 i)).length != 0)
def vInst (x:TInst):Bool:=vRels x.1&&decide (x.2.1.length≤30)&&(List.range x.2.1.length).all (factOk x)
theorem isNul_iff {v:Int}:isNul v=true↔-40≤v∧v≤-1:=inR_iff
theorem mem_nulls {l:List Int} {k:Int}:k∈nulls l↔0≤k∧k<40∧(-1 - k)∈l:=by
 unfold nulls
 rw[List.mem_map]
 constructor
 · rintro⟨v,hv,rfl⟩
   obtain⟨h1,h2⟩:=List.mem_filter.mp hv
   have:=isNul_iff.mp h2
   exact ⟨by omega, by omega, by have e : -1 - (-1 - v)=v:=by omega
                                 rw[e];exact h1⟩
 · rintro⟨h1,h2,h3⟩
   exact⟨-1 - k,List.mem_filter.mpr ⟨h3,isNul_iff.mpr ⟨by omega,by omega⟩⟩,by omega⟩
theorem nulls_append (l m:List Int):nulls (l++m)=nulls l++nulls m:=by unfold nulls;rw[List.filter_append,List.map_append]
theorem nulls_flat (l:List TFact):nulls (l.flatMap (·.2.1))=l.flatMap fun f=>nulls f.2.1:=by
 induction l with
 |nil=>rfl
 |cons a l ih=>simp only[List.flatMap_cons];rw[nulls_append,ih]
theorem nulls_range {l:List Int}:∀ k∈sset (nulls l),0≤k∧k<0+(40:Nat):=fun k hk=>by
 have:=mem_nulls.mp (mem_sset.mp hk);omega
theorem nulls_few {l:List Int}:(sset (nulls l)).length≤40:=srt_range (srt_sset _) nulls_range
theorem nulI_few (x:TInst):(nulI x).length≤40:=by unfold nulI;rw[←nulls_flat];exact nulls_few
theorem nulls_len (l:List Int):(nulls l).length≤l.length:=by unfold nulls;rw[List.length_map];exact List.length_filter_le _ _
theorem factAt_get {l:List TFact} {i:Nat} (h:i<l.length):factAt l i=l[i]:=getD_at h
theorem vInst_fact {x:TInst} (h:vInst x=true) {f:TFact} (hf:f∈x.2.1):vFact x.1 f=true:=by
 unfold vInst at h
 rw[Bool.and_eq_true]at h
 obtain⟨i,hi,rfl⟩:=List.mem_iff_getElem.mp hf
 have:=List.all_eq_true.mp h.2 i (List.mem_range.mpr hi)
 unfold factOk at this
 rw[Bool.and_eq_true,Bool.and_eq_true,factAt_get hi]at this
 exact this.1.1
theorem vInst_len {x:TInst} (h:vInst x=true):x.2.1.length≤30:=by unfold vInst at h;simp at h;exact h.1.2
theorem vInst_rels {x:TInst} (h:vInst x=true):vRels x.1=true:=by unfold vInst at h;simp at h;exact h.1.1
theorem vInst_no {x:TInst} {i:Nat} (hi:i<x.2.1.length) (h:factOk x i=false):vInst x=false:=by
 unfold vInst
 have:(List.range x.2.1.length).all (factOk x)=false:=by
  rw[Bool.eq_false_iff];intro hall
  have:=List.all_eq_true.mp hall i (List.mem_range.mpr hi);rw[h]at this;cases this
 rw[this];simp
theorem vInst_yes {x:TInst} (h1:∀ i,i<x.2.1.length→factOk x i=true):vInst x=(vRels x.1&&decide (x.2.1.length≤30)):=by
 unfold vInst
 rw[List.all_eq_true.mpr fun i hi=>h1 i (List.mem_range.mp hi)];simp
theorem g_sNullNumber {v:Int}:G_sNullNumber v (nulNo v) (isNul v):=R_sNullNumber fun hb=>M_sNullNumber _ _ _ (by
 have hb : -9223372036854775808≤v∧v≤9223372036854775807:=hb
 unfold S_sNullNumber
 have no:isNul v=false→(((0:Int),(false,())):Int×Bool×Unit)=(nulNo v,(isNul v,())):=fun h=>by unfold nulNo;rw[h];rfl
 refine bc_dec (fun h=>no ?_) (fun h=>⟨_,g_sl1In,?_⟩)
 · rw[Bool.eq_false_iff];intro h';have:=isNul_iff.mp h';omega
 · rw[w64_id (by omega) (by omega)]
   refine bc_not (fun h2=>no ?_) (fun h2=>?_)
   · rw[Bool.eq_false_iff]at h2 ⊢;intro h';have:=isNul_iff.mp h';exact h2 (inR_iff.mpr ⟨by omega,by omega⟩)
   · have:=inR_iff.mp h2
     have e:isNul v=true:=isNul_iff.mpr ⟨by omega,by omega⟩
     unfold nulNo;rw[e];rfl)
theorem g_iNullNumber {v:Int}:G_iNullNumber v (nulNo v) (isNul v):=R_iNullNumber fun hb=>M_iNullNumber _ _ _ (by
 have hb : -9223372036854775808≤v∧v≤9223372036854775807:=hb
 unfold S_iNullNumber
 have no:isNul v=false→(((0:Int),(false,())):Int×Bool×Unit)=(nulNo v,(isNul v,())):=fun h=>by unfold nulNo;rw[h];rfl
 rw[w64_id (by omega) (by omega)]
 refine⟨_,g_iwithin,bc_not (fun h2=>no ?_) (fun h2=>?_)⟩
 · rw[Bool.eq_false_iff]at h2 ⊢;intro h';have:=isNul_iff.mp h';exact h2 (inR_iff.mpr ⟨by omega,by omega⟩)
 · have:=inR_iff.mp h2
   have e:isNul v=true:=isNul_iff.mpr ⟨by omega,by omega⟩
   unfold nulNo;rw[e];rfl)
theorem g_sIsValidValue {v:Int}:G_sIsValidValue v (vVal v):=M_sIsValidValue _ _ (by
 unfold S_sIsValidValue
 refine⟨_,_,g_sNullNumber,bc_if (fun h=>?_) (fun h=>⟨_,g_sl1In,?_⟩)⟩
 · have:=isNul_iff.mp h
   have e:vVal v=true:=inR_iff.mpr ⟨by omega,by omega⟩
   rw[e]
 · have:inR v 0 9=vVal v:=by
    rw[Bool.eq_iff_iff]
    unfold vVal
    rw[inR_iff,inR_iff]
    constructor
    · omega
    · intro h'
      refine⟨?_,h'.2⟩
      rcases Int.lt_or_le v 0 with h0|h0
      · rw[isNul_iff.mpr ⟨by omega,by omega⟩]at h;cases h
      · exact h0
   rw[this])
theorem g_iIsValidValue {v:Int}:G_iIsValidValue v (vVal v):=M_iIsValidValue _ _ (by unfold S_iIsValidValue;exact⟨_,g_iwithin,rfl⟩)
theorem g_sNullsOfFact {f:TFact}:G_sNullsOfFact f (nulF f):=M_sNullsOfFact _ _ (by
 unfold S_sNullsOfFact
 refine loopP_of f.2.1.length (fun i=>((i:Int),(sset (nulls (f.2.1.take i)),()))) (by simp[nulls,sset]) ?_ ?_
 · intro i hi X hX
   refine lenI fun _=>bcI hi (inI hi ⟨_,_,g_sNullNumber,?_⟩)
   simp only
   rw[getI hi,w64_succ (by omega)]
   have e:nulls (f.2.1.take (i+1))=nulls (f.2.1.take i)++(if isNul f.2.1[i] then[-1 - f.2.1[i]] else[]):=by
    rw[take_succ_snoc hi,nulls_append];congr 1
    unfold nulls
    cases h:isNul f.2.1[i]<;>simp[h]
   rw[e]at hX
   have hf:=nulls_few (l:=f.2.1.take i)
   refine bc_if (fun h=>⟨_,g_sl4Put (by omega),?_⟩) (fun h=>?_)
   · rw[if_pos h]at hX
     have:nulNo f.2.1[i] = -1 - f.2.1[i]:=by unfold nulNo;rw[if_pos h]
     rw[this,sset_snoc];exact hX
   · rw[if_neg (by rw[h];simp),List.append_nil]at hX;exact hX
 · intro X
   refine lenI fun _=>bcN ?_
   simp only[List.take_length]
   rfl)
theorem g_inullsOf {l:List Int} (hl:l.length≤1073741824):G_inullsOf l (sset (nulls l)):=M_inullsOf _ _ (by
 unfold S_inullsOf
 refine lenI fun _=>loopP_of l.length (fun i=>((i:Int),(nulls (l.take i),()))) (by simp[nulls]) ?_ ?_
 · intro i hi X hX
   refine bcI hi (inI hi ⟨_,_,g_iNullNumber,?_⟩)
   simp only
   rw[getI hi,w64_succ (by omega)]
   have e:nulls (l.take (i+1))=nulls (l.take i)++(if isNul l[i] then[-1 - l[i]] else[]):=by
    rw[take_succ_snoc hi,nulls_append];congr 1
    unfold nulls
    cases h:isNul l[i]<;>simp[h]
   rw[e]at hX
   have hb:=nulls_len (l.take i)
   rw[List.length_take]at hb
   refine bc_if (fun h=>⟨by simp only[maxL,List.length_cons,List.length_nil];omega,?_⟩) (fun h=>?_)
   · rw[if_pos h]at hX
     have:nulNo l[i] = -1 - l[i]:=by unfold nulNo;rw[if_pos h]
     rw[this];exact hX
   · rw[if_neg (by rw[h];simp),List.append_nil]at hX;exact hX
 · intro X
   refine bcN ⟨_,g_slices_Sort_int_ooz ?_,_,g_slices_Compact_int_ooz,?_⟩
   · simp only[List.take_length];have:=nulls_len l;omega
   · simp only[List.take_length];rw[comp_sort])
theorem g_iNullsOfFact {f:TFact} (h:f.2.1.length≤1073741824):G_iNullsOfFact f (nulF f):=M_iNullsOfFact _ _ (by unfold S_iNullsOfFact;exact⟨_,g_inullsOf h,rfl⟩)
theorem g_sNullsOfInstance {x:TInst}:G_sNullsOfInstance x (nulI x):=M_sNullsOfInstance _ _ (by
 unfold S_sNullsOfInstance
 refine loopP_of x.2.1.length (fun i=>((i:Int),(sset ((x.2.1.take i).flatMap fun f=>nulls f.2.1),()))) (by simp[sset]) ?_ ?_
 · intro i hi X hX
   refine lenI fun _=>bcI hi (inI hi ⟨_,g_sNullsOfFact,?_⟩)
   simp only
   rw[getI hi]
   have hn:(nulF x.2.1[i]).length≤40:=nulls_few
   refine loopP_of (nulF x.2.1[i]).length (fun j=>(((nulF x.2.1[i]).take j).foldl ins (sset ((x.2.1.take i).flatMap fun f=>nulls f.2.1)),((j:Int),()))) (by simp) ?_ ?_
   · intro j hj Y hY
     refine lenI fun _=>bcI hj (inI hj ⟨_,g_sl4Put ?_,?_⟩)
     · have h1:(sset ((x.2.1.take i).flatMap fun f=>nulls f.2.1)).length≤40:=by rw[←nulls_flat];exact nulls_few
       have:∀(l s:List Int),(l.foldl ins s).length≤s.length+l.length:=by
        intro l
        induction l with
        |nil=>intro s;simp
        |cons a l ih=>intro s;have:=ih (ins s a);have:=put_len s a;simp only[List.foldl_cons,List.length_cons];omega
       have:=this ((nulF x.2.1[i]).take j) (sset ((x.2.1.take i).flatMap fun f=>nulls f.2.1))
       rw[List.length_take]at this
       simp only;omega
     · simp only
       rw[getI hj,w64_succ (by omega)]
       rw[take_succ_snoc hj,List.foldl_append]at hY
       exact hY
   · intro Y
     refine lenI fun _=>bcN ?_
     simp only[List.take_length]
     rw[w64_succ (by omega)]
     have:(nulF x.2.1[i]).foldl ins (sset ((x.2.1.take i).flatMap fun f=>nulls f.2.1))=sset ((x.2.1.take (i+1)).flatMap fun f=>nulls f.2.1):=by
      unfold nulF
      rw[foldput_sset,take_succ_snoc hi,List.flatMap_append];simp
     rw[this];exact hX
 · intro X
   refine lenI fun _=>bcN ?_
   simp only[List.take_length]
   rfl)
theorem g_iNullsOfInstance {x:TInst} (hl:(x.2.1.flatMap (·.2.1)).length≤1073741824):G_iNullsOfInstance x (nulI x):=M_iNullsOfInstance _ _ (by
 unfold S_iNullsOfInstance
 refine lenI fun _=>loopP_of x.2.1.length (fun i=>((i:Int),((x.2.1.take i).flatMap (·.2.1),()))) (by simp) ?_ ?_
 · intro i hi X hX
   have hs:=flat_split (fun f:TFact=>f.2.1) hi
   refine bcI hi (inI hi ⟨?_,?_⟩)
   · simp only[maxL];rw[getI hi];omega
   · simp only
     rw[getI hi,w64_succ (by omega)]
     rw[take_succ_snoc hi,List.flatMap_append]at hX
     simpa using hX
 · intro X
   refine bcN ⟨_,g_inullsOf ?_,?_⟩
   · simp only[List.take_length];exact hl
   · simp only[List.take_length]
     rw[nulls_flat];rfl)
theorem g_sIsValidFact {l:List TRel} {a:TFact}:G_sIsValidFact l a (vFact l a):=M_sIsValidFact _ _ _ (by
 unfold S_sIsValidFact vFact
 refine⟨_,g_sAreValidRelations,bc_not (fun h=>row_no1 h) (fun h1=>lenI fun hl=>⟨_,g_sl1In,bc_not (fun h=>row_no2 hl h) (fun h2=>lenI fun hl2=>⟨row_start h2 hl,bc_ne (fun h=>row_no3 h) (fun h3=>?_)⟩)⟩)⟩
 refine loop_any a.2.1 (fun t=>!vVal t) (fun i=>((i:Int),())) (KT:=((false,()):Bool×Unit)=(vRow vVal l a,())) (KF:=((true,()):Bool×Unit)=(vRow vVal l a,())) ?_ (fun X h=>lenI fun _=>bcN h) ?_ ?_
 · intro i hi X q1 q2
   refine lenI fun _=>bcI hi (inI hi ⟨_,g_sIsValidValue,?_⟩)
   simp only
   rw[getI hi,w64_succ (by omega)]
   exact bc_if (fun h=>q1 h) (fun h=>q2 h)
 · intro h;exact row_yes hl h1 h2 h3 (by rw[any_not]at h;exact(nt h).symm)
 · intro h;exact row_yes hl h1 h2 h3 (by rw[any_not]at h;exact(nf h).symm))
theorem g_iIsValidFact_1 {t:Int}:G_iIsValidFact_1 t (!vVal t):=M_iIsValidFact_1 _ _ (by unfold S_iIsValidFact_1;exact⟨_,g_iIsValidValue,rfl⟩)
theorem g_iIsValidFact {l:List TRel} {a:TFact}:G_iIsValidFact l a (vFact l a):=M_iIsValidFact _ _ _ (by
 unfold S_iIsValidFact vFact
 refine⟨_,g_iAreValidRelations,bc_not (fun h=>row_no1 h) (fun h1=>lenI fun hl=>⟨_,g_iwithin,bc_not (fun h=>row_no2 hl h) (fun h2=>lenI fun hl2=>⟨row_start h2 hl,bc_ne (fun h=>row_no3 h) (fun h3=>?_)⟩)⟩)⟩
 exact⟨_,g_slices_ContainsFunc_int_c_iIsValidFact_1 (fun t=>!vVal t) (fun _ _=>g_iIsValidFact_1),row_yes hl h1 h2 h3 (by rw[any_not];simp)⟩)
theorem fact_rel {x:TInst} {f:TFact} (h:vFact x.1 f=true):0≤f.1∧f.1<(x.1.length:Int):=by have:=vRow_spec h;exact⟨this.2.1,this.2.2.1⟩
theorem factOk_split {x:TInst} {i:Nat} (hi:i<x.2.1.length) (h1:vFact x.1 x.2.1[i]=true) (h2:0<i→cmpF (factAt x.2.1 (i - 1)) x.2.1[i]<0):factOk x i = !(srcAt x.1 x.2.1[i].1&&(nulF x.2.1[i]).length != 0):=by
 unfold factOk
 rw[factAt_get hi,h1]
 have:(i == 0||decide (cmpF (factAt x.2.1 (i - 1)) x.2.1[i]<0))=true:=by
  rcases Nat.eq_zero_or_pos i with h|h
  · simp[h]
  · rw[decide_eq_true (h2 h)];simp
 rw[this];rfl
theorem g_sIsValidInstance {x:TInst}:G_sIsValidInstance x (vInst x):=M_sIsValidInstance _ _ (by
 unfold S_sIsValidInstance
 have no:vInst x=false→((false,()):Bool×Unit)=(vInst x,()):=fun h=>by rw[h]
 refine loop_anyI x.2.1.length (fun i=>!factOk x i) (fun i=>((i:Int),())) (KT:=vInst x=false) (KF:=vInst x=(vRels x.1&&decide (x.2.1.length≤30))) ?_ ?_ ?_ ?_
 · intro i hi X hb q1 q2
   have qn:factOk x i=false→((false,()):Bool×Unit)=(vInst x,()):=fun h=>no (q1 (by rw[h];rfl))
   have qy:factOk x i=true→X (((i+1:Nat):Int),()):=fun h=>q2 (by rw[h];rfl)
   refine lenI fun hl=>bcI hi (inI hi ⟨_,g_sIsValidFact,?_⟩)
   simp only
   rw[getI hi,w64_succ (by omega)]
   refine bc_not (fun h=>qn (by unfold factOk;rw[factAt_get hi,h];simp)) (fun hv=>?_)
   have fin:factOk x i = !(srcAt x.1 x.2.1[i].1&&(nulF x.2.1[i]).length != 0)→((0≤x.2.1[i].1∧x.2.1[i].1<(x.1.length:Int))∧(bcase (((x.1.getD (Int.toNat x.2.1[i].1) zRel).2).2).1 (∃ y5:List Int,G_sNullsOfFact x.2.1[i] y5∧(lenA (List.length y5:Int) (bcase (decide ((List.length y5:Int) > (0:Int))) (((false,()):Bool×Unit)=(vInst x,())) (X (((i+1:Nat):Int),()))))) (X (((i+1:Nat):Int),())))):=by
    intro he
    refine⟨fact_rel hv,bc_if (fun hs=>⟨_,g_sNullsOfFact,lenI fun _=>bc_dec (fun h=>qn ?_) (fun h=>qy ?_)⟩) (fun hs=>qy ?_)⟩
    · have hs:srcAt x.1 x.2.1[i].1=true:=hs
      rw[he,hs];simp;intro e;rw[e]at h;simp at h
    · have:(nulF x.2.1[i]).length=0:=by omega
      rw[he,this];simp
    · have hs:srcAt x.1 x.2.1[i].1=false:=hs
      rw[he,hs];rfl
   refine bc_dec (fun h0=>?_) (fun h0=>fin (factOk_split hi hv (fun h=>by omega)))
   have hi':i - 1<x.2.1.length:=by omega
   have hw:w64 ((i:Int) - 1)=((i - 1:Nat):Int):=by rw[w64_id (by omega) (by omega)];omega
   rw[hw]
   refine inI hi' ⟨_,g_sCompareFacts,?_⟩
   rw[getI hi']
   refine bc_dec (fun h=>qn ?_) (fun h=>fin (factOk_split hi hv (fun _=>by rw[factAt_get hi'];omega)))
   unfold factOk
   rw[factAt_get hi,factAt_get hi',decide_eq_false (by omega)]
   have:(i == 0)=false:=by simp;omega
   rw[this];simp
 · intro X h
   refine lenI fun _=>bcN ⟨_,g_sAreValidRelations,bc_if (fun h1=>lenI fun _=>?_) (fun h1=>no (by rw[h,h1];rfl))⟩
   rw[h,h1]
   have:decide ((x.2.1.length:Int)≤30)=decide (x.2.1.length≤30):=decide_eq_decide.mpr (by omega)
   rw[this];rfl
 · rintro⟨i,hi,hp⟩;exact vInst_no hi (nt hp)
 · intro h;exact vInst_yes fun i hi=>nf (h i hi))
theorem g_iIsValidInstance {x:TInst}:G_iIsValidInstance x (vInst x):=M_iIsValidInstance _ _ (by
 unfold S_iIsValidInstance
 have no:vInst x=false→((false,()):Bool×Unit)=(vInst x,()):=fun h=>by rw[h]
 refine⟨_,g_iAreValidRelations,bc_not (fun h=>no (by unfold vInst;rw[h];simp)) (fun hr=>lenI fun _=>bc_dec (fun h=>no (by unfold vInst;rw[decide_eq_false (show ¬ x.2.1.length≤30 by omega)];simp)) (fun hlen=>lenI fun _=>?_))⟩
 refine loop_anyI x.2.1.length (fun i=>!factOk x i) (fun i=>((i:Int),())) (KT:=vInst x=false) (KF:=vInst x=(vRels x.1&&decide (x.2.1.length≤30))) ?_ ?_ ?_ ?_
 · intro i hi X hb q1 q2
   have qn:factOk x i=false→((false,()):Bool×Unit)=(vInst x,()):=fun h=>no (q1 (by rw[h];rfl))
   have qy:factOk x i=true→X (((i+1:Nat):Int),()):=fun h=>q2 (by rw[h];rfl)
   refine bcI hi (inI hi ⟨_,g_iIsValidFact,?_⟩)
   simp only
   rw[getI hi,w64_succ (by omega)]
   refine bc_not (fun h=>qn (by unfold factOk;rw[factAt_get hi,h];simp)) (fun hv=>?_)
   have hvl:=(vRow_spec hv).2.2.2.2.1
   have fin:factOk x i = !(srcAt x.1 x.2.1[i].1&&(nulF x.2.1[i]).length != 0)→((0≤x.2.1[i].1∧x.2.1[i].1<(x.1.length:Int))∧(bcase (((x.1.getD (Int.toNat x.2.1[i].1) zRel).2).2).1 (∃ y5:List Int,G_iNullsOfFact x.2.1[i] y5∧(lenA (List.length y5:Int) (bcase (decide ((List.length y5:Int) > (0:Int))) (((false,()):Bool×Unit)=(vInst x,())) (X (((i+1:Nat):Int),()))))) (X (((i+1:Nat):Int),())))):=by
    intro he
    refine⟨fact_rel hv,bc_if (fun hs=>⟨_,g_iNullsOfFact (by omega),lenI fun _=>bc_dec (fun h=>qn ?_) (fun h=>qy ?_)⟩) (fun hs=>qy ?_)⟩
    · have hs:srcAt x.1 x.2.1[i].1=true:=hs
      rw[he,hs];simp;intro e;rw[e]at h;simp at h
    · have:(nulF x.2.1[i]).length=0:=by omega
      rw[he,this];simp
    · have hs:srcAt x.1 x.2.1[i].1=false:=hs
      rw[he,hs];rfl
   refine bc_dec (fun h0=>?_) (fun h0=>fin (factOk_split hi hv (fun h=>by omega)))
   have hi':i - 1<x.2.1.length:=by omega
   have hw:w64 ((i:Int) - 1)=((i - 1:Nat):Int):=by rw[w64_id (by omega) (by omega)];omega
   rw[hw]
   refine inI hi' ⟨_,g_iCompareFacts,?_⟩
   rw[getI hi']
   refine bc_dec (fun h=>qn ?_) (fun h=>fin (factOk_split hi hv (fun _=>by rw[factAt_get hi'];omega)))
   unfold factOk
   rw[factAt_get hi,factAt_get hi',decide_eq_false (by omega)]
   have:(i == 0)=false:=by simp;omega
   rw[this];simp
 · intro X h
   refine bcN ?_
   rw[h,hr,decide_eq_true (show x.2.1.length≤30 by omega)];rfl
 · rintro⟨i,hi,hp⟩;exact vInst_no hi (nt hp)
 · intro h;exact vInst_yes fun i hi=>nf (h i hi))
theorem vInst_flat {x:TInst} (h:vInst x=true):(x.2.1.flatMap (·.2.1)).length≤90:=by
 have h1:=vInst_len h
 have:∀ l:List TFact,(∀ f∈l,vFact x.1 f=true)→(l.flatMap (·.2.1)).length≤3 * l.length:=by
  intro l
  induction l with
  |nil=>intro _;simp
  | cons a l ih=>
    intro hl
    have h1:=(vRow_spec (hl a (by simp))).2.2.2.2.1
    have:=ih fun f hf=>hl f (by simp[hf])
    simp only[List.flatMap_cons,List.length_append,List.length_cons];omega
 have:=this x.2.1 fun f hf=>vInst_fact h hf
 omega
def nextN (x:TInst):Int:=match (nulI x).getLast? with
 |some k=>k+1
 |none=>0
theorem nextN_le {x:TInst} {n:Nat}:nextN x≤n↔∀ k∈nulI x,k<n:=by
 unfold nextN
 have hs:srt (nulI x):=srt_sset _
 cases h:(nulI x).getLast? with
 | none=>
   have:nulI x=[]:=List.getLast?_eq_none_iff.mp h
   rw[this];simp
 | some m=>
   have hne:nulI x≠[]:=by intro e;rw[e]at h;simp at h
   have hm:(nulI x).getLast hne=m:=by rw[List.getLast?_eq_some_getLast hne]at h;exact Option.some.inj h
   have hlast:=srt_last hs hne
   constructor
   · intro h' k hk
     have:=hlast k hk;rw[hm]at this;simp only at h';omega
   · intro h'
     have:=h' m (by rw[←hm];exact List.getLast_mem hne)
     simp only;omega
theorem g_iNextNull {x:TInst} (hl:(x.2.1.flatMap (·.2.1)).length≤1073741824):G_iNextNull x (nextN x):=M_iNextNull _ _ (by
 unfold S_iNextNull
 have hf:=nulI_few x
 refine⟨_,g_iNullsOfInstance hl,lenI fun _=>bc_beq (fun h=>?_) (fun h=>lenI fun _=>?_)⟩
 · have:nulI x=[]:=List.length_eq_zero_iff.mp (by omega)
   unfold nextN;rw[this];rfl
 · have hw:w64 ((nulI x).length - 1:Int)=(((nulI x).length - 1:Nat):Int):=by rw[w64_id (by omega) (by omega)];omega
   rw[hw]
   have hlt:(nulI x).length - 1<(nulI x).length:=by omega
   refine inI hlt ?_
   rw[getI hlt]
   have hne:nulI x≠[]:=by intro e;rw[e]at h;simp at h
   have hr:0≤(nulI x)[(nulI x).length - 1]∧(nulI x)[(nulI x).length - 1]<0+(40:Nat):=by
    have:=nulls_range (l:=x.2.1.flatMap (·.2.1)) ((nulI x)[(nulI x).length - 1]) (by rw[nulls_flat];exact List.getElem_mem hlt)
    exact this
   rw[w64_id (by omega) (by omega)]
   unfold nextN
   rw[List.getLast?_eq_some_getLast hne,List.getLast_eq_getElem])
def sumA (l:List TRel):Int:=l.foldl (fun a r=>a+r.2.1) 0
theorem sumA_bnd:∀ {l:List TRel} {a:Int},(∀ r∈l,vRel r=true)→a≤l.foldl (fun a r=>a+r.2.1) a∧l.foldl (fun a r=>a+r.2.1) a≤a+3 * l.length
 |[],a,_=>by simp
 | x::l,a,h=>by
   have h1:=vRel_arity (h x (by simp))
   have h2:=sumA_bnd (l:=l) (a:=a+x.2.1) fun r hr=>h r (by simp[hr])
   rw[List.foldl_cons,List.length_cons];omega
def posIx (l:List TRel) (r p:Int):Int:=if vRels l&&inR r 0 ((l.length:Int) - 1)&&inR p 0 (arity l r - 1)then sumA (l.take r.toNat)+p else -1
theorem g_sPositionIndex {l:List TRel} {r p:Int}:G_sPositionIndex l r p (posIx l r p):=M_sPositionIndex _ _ _ _ (by
 unfold S_sPositionIndex
 refine⟨_,g_sAreValidRelations,bc_not (fun h=>by unfold posIx;rw[h];rfl) (fun hv=>lenI fun _=>⟨_,g_sl1In,?_⟩)⟩
 have hl:=vRels_len hv
 rw[w64_id (by omega) (by omega)]
 refine bc_not (fun h=>by unfold posIx;rw[h];simp) (fun h1=>?_)
 have hr:=inR_iff.mp h1
 obtain⟨n,rfl⟩:∃ n:Nat,r=n:=⟨r.toNat,by omega⟩
 have hn:n<l.length:=by omega
 have ha:=vRel_arity (vRels_mem hv (List.getElem_mem hn))
 refine inI hn ⟨_,g_sl1In,?_⟩
 rw[getI hn,w64_id (by omega) (by omega)]
 have har:arity l n=l[n].2.1:=by unfold arity;rw[getI hn]
 refine bc_not (fun h=>by unfold posIx;rw[har,h];simp) (fun h2=>?_)
 have hp:=inR_iff.mp h2
 have hb:=fun i=>sumA_bnd (l:=l.take i) (a:=0) fun r hr=>vRels_mem hv (List.mem_of_mem_take hr)
 refine loopP_of n (fun i=>(sumA (l.take i),((i:Int),()))) (by simp[sumA]) ?_ ?_
 · intro i hi X hX
   have hil:i<l.length:=by omega
   have hbi:=hb (i+1)
   refine bcI hi (inI hil ?_)
   simp only
   rw[take_succ_snoc hil]at hX hbi
   unfold sumA at hX ⊢
   rw[List.foldl_append]at hX hbi
   simp only[List.foldl_cons,List.foldl_nil,List.length_append,List.length_take,List.length_cons,List.length_nil]at hX hbi
   rw[getI hil,w64_succ (by omega),w64_id (by omega) (by omega)]
   exact hX
 · intro X
   have hbi:=hb n
   rw[List.length_take]at hbi
   refine bcN ?_
   unfold posIx
   rw[hv,h1,har,h2]
   simp only
   unfold sumA
   rw[w64_id (by omega) (by omega)];rfl)
theorem g_sFrontierVariables {d:TDep} (h1:(d.1.flatMap (·.2.1)).length≤1073741824) (h2:(d.2.1.flatMap (·.2.1)).length≤1073741824):G_sFrontierVariables d (frV d):=M_sFrontierVariables _ _ (by
 unfold S_sFrontierVariables
 have hv:=vars_len d.2.1
 refine⟨_,g_sVariables h1,_,g_sVariables h2,?_⟩
 refine loopP_of (vars d.2.1).length (fun i=>((i:Int),(((vars d.2.1).take i).filter (fun v=>decide (v∈vars d.1)),()))) (by simp) ?_ ?_
 · intro i hi X hX
   refine lenI fun _=>bcI hi (inI hi ⟨_,g_sl4Has,?_⟩)
   simp only
   rw[getI hi,w64_succ (by omega)]
   have e:((vars d.2.1).take (i+1)).filter (fun v=>decide (v∈vars d.1))=((vars d.2.1).take i).filter (fun v=>decide (v∈vars d.1))++(if (vars d.2.1)[i]∈vars d.1 then[(vars d.2.1)[i]] else[]):=by
    rw[take_succ_snoc hi,List.filter_append]
    by_cases h:(vars d.2.1)[i]∈vars d.1<;>simp[h]
   rw[e]at hX
   have hb:=List.length_filter_le (fun v=>decide (v∈vars d.1)) ((vars d.2.1).take i)
   rw[List.length_take]at hb
   refine bc_if (fun h=>inI hi ⟨by simp only[maxL,List.length_cons,List.length_nil];omega,?_⟩) (fun h=>?_)
   · have h:(vars d.2.1)[i]∈vars d.1:=by simpa using h
     rw[if_pos h]at hX;exact hX
   · have h:¬ (vars d.2.1)[i]∈vars d.1:=by simpa using h
     rw[if_neg h,List.append_nil]at hX;exact hX
 · intro X
   refine lenI fun _=>bcN ?_
   simp only[List.take_length]
   rfl)
def placeG (l:List TRel) (a:TFact) (v:Int) (out:List Int) (j:Nat):List Int:=if a.2.1.getD j 0 == v then out++[posIx l a.1 j] else out
def placeA (l:List TRel) (v:Int) (out:List Int) (a:TFact):List Int:=(List.range a.2.1.length).foldl (placeG l a v) out
def places (l:List TRel) (ats:List TFact) (v:Int):List Int:=ats.foldl (placeA l v) []
theorem placeR_len (l:List TRel) (a:TFact) (v:Int) (out:List Int):∀ n:Nat,((List.range n).foldl (placeG l a v) out).length≤out.length+n
 |0=>by simp
 | n+1=>by
   have:=placeR_len l a v out n
   rw[List.range_succ,List.foldl_append,List.foldl_cons,List.foldl_nil]
   unfold placeG at this ⊢
   split
   · rw[List.length_append];simp only[List.length_cons,List.length_nil];omega
   · omega
theorem placeA_len (l:List TRel) (v:Int) (out:List Int) (a:TFact):(placeA l v out a).length≤out.length+a.2.1.length:=placeR_len l a v out _
theorem placesF_len (l:List TRel) (v:Int):∀(ats:List TFact) (out:List Int),(ats.foldl (placeA l v) out).length≤out.length+(ats.flatMap (·.2.1)).length
 |[],out=>by simp
 | a::ats,out=>by
   have h1:=placesF_len l v ats (placeA l v out a)
   have h2:=placeA_len l v out a
   rw[List.foldl_cons,List.flatMap_cons,List.length_append];omega
theorem places_len (l:List TRel) (ats:List TFact) (v:Int):(places l ats v).length≤(ats.flatMap (·.2.1)).length:=by
 have:=placesF_len l v ats []
 simpa [places]using this
theorem g_sl13Places {l:List TRel} {ats:List TFact} {v:Int} (hb:(ats.flatMap (·.2.1)).length≤1073741824):G_sl13Places l ats v (places l ats v):=M_sl13Places _ _ _ _ (by
 unfold S_sl13Places
 refine loop_fold ats (placeA l v) [] (fun i m=>((i:Int),(m,()))) ?_ ?_
 · intro i hi X hX
   have hs:=flat_split (fun a:TFact=>a.2.1) hi
   have hm:=placesF_len l v (ats.take i) []
   rw[List.length_nil]at hm
   refine lenI fun _=>bcI hi ?_
   simp only
   rw[getI hi]
   generalize (ats.take i).foldl (placeA l v) []=m0 at hX hm ⊢
   unfold placeA at hX
   refine loopP_of ats[i].2.1.length (fun j=>((j:Int),((List.range j).foldl (placeG l ats[i] v) m0,()))) (by simp) ?_ ?_
   · intro j hj Y hY
     have hl:=placeR_len l ats[i] v m0 j
     refine inI hi (lenI fun _=>bcI hj (inI hi (inI hj ?_)))
     simp only
     rw[w64_succ (by omega)]
     rw[List.range_succ,List.foldl_append,List.foldl_cons,List.foldl_nil]at hY
     rw[placeG.eq_def]at hY
     refine bc_if (fun h=>inI hi ⟨_,g_sPositionIndex,⟨by simp only[maxL,List.length_cons,List.length_nil];omega,?_⟩⟩) (fun h=>?_)
     · rw[if_pos (show(ats[i].2.1.getD j 0 == v)=true from h)]at hY;exact hY
     · rw[show(ats[i].2.1.getD j 0 == v)=false from h]at hY;exact hY
   · intro Y
     refine inI hi (lenI fun _=>bcN ?_)
     simp only
     rw[w64_succ (by omega)];exact hX
 · intro X
   exact lenI fun _=>bcN rfl)
theorem fold_len {α σ:Type} {μ:σ→Nat} {g:σ→α→σ} {c:Nat}:∀ {l:List α} {s:σ},(∀ s,∀ a∈l,μ (g s a)≤μ s+c)→μ (l.foldl g s)≤μ s+l.length * c
 |[],s,_=>by simp
 | a::l,s,h=>by
   have h1:=h s a (by simp)
   have h2:=fold_len (s:=g s a) fun s b (hb:b∈l)=>h s b (by simp[hb])
   rw[List.foldl_cons,List.length_cons,Nat.add_mul];omega
theorem loop_foldB {α σ τ:Type} {B:(τ→Prop)→τ→Prop} (l:List α) (g:σ→α→σ) (s0:σ) (e:Nat→σ→τ) (μ:σ→Nat) (c N:Nat) (hN:l.length≤N) (hg:∀ s,∀ a∈l,μ (g s a)≤μ s+c)
  (hs:∀ i (h:i<l.length) (s:σ) (X:τ→Prop),μ s≤μ s0+N * c→X (e (i+1) (g s l[i]))→B X (e i s))
  (hf:∀ X:τ→Prop,μ (l.foldl g s0)≤μ s0+N * c→B X (e l.length (l.foldl g s0))):LoopP B (e 0 s0):=by
 have hb:∀ i,i≤l.length→μ ((l.take i).foldl g s0)≤μ s0+N * c:=fun i hi=>by
  have h1:=fold_len (μ:=μ) (g:=g) (c:=c) (l:=l.take i) (s:=s0) fun s a ha=>hg s a (List.mem_of_mem_take ha)
  rw[List.length_take,Nat.min_eq_left hi]at h1
  have:i * c≤N * c:=Nat.mul_le_mul_right c (by omega)
  omega
 refine loop_fold l g s0 e (fun i hi X hX=>hs i hi _ X (hb i (by omega)) hX) (fun X=>hf X ?_)
 have:=hb l.length (Nat.le_refl _)
 rwa [List.take_length]at this
def small (d:TDep):Prop:=(d.1.flatMap (·.2.1)).length≤6∧(d.2.1.flatMap (·.2.1)).length≤6
theorem small_of {l:List TRel} {d:TDep} (h:vDep l d=true):small d:=by
 have:=vDep_spec h;exact⟨this.2.2.2.2.2.1,this.2.2.2.2.2.2⟩
theorem exV_len {d:TDep} (h:small d):(exV d).length≤6:=Nat.le_trans (List.length_filter_le _ _) (Nat.le_trans (vars_len _) h.2)
theorem frV_len {d:TDep} (h:small d):(frV d).length≤6:=Nat.le_trans (List.length_filter_le _ _) (Nat.le_trans (vars_len _) h.2)
def putE (e:List TEdge) (x:TEdge):List TEdge:=if x∈e then e else e++[x]
def ed (f:Int) (b:Bool) (ps:List Int) (out:List TEdge):List TEdge:=ps.foldl (fun out t=>putE out (f,t,b,())) out
def gFrom (l:List TRel) (d:TDep) (v:Int) (out:List TEdge) (f:Int):List TEdge:=(exV d).foldl (fun out n=>ed f true (places l d.2.1 n) out) (ed f false (places l d.2.1 v) out)
def gVar (l:List TRel) (d:TDep) (out:List TEdge) (v:Int):List TEdge:=(places l d.1 v).foldl (gFrom l d v) out
def gDep (l:List TRel) (out:List TEdge) (d:TDep):List TEdge:=(frV d).foldl (gVar l d) out
def graph (l:List TRel) (ds:List TDep):List TEdge:=if vDeps l ds then ds.foldl (gDep l) [] else[]
theorem putE_len (e:List TEdge) (x:TEdge):(putE e x).length≤e.length+1:=by unfold putE;split<;>simp
theorem ed_len (f:Int) (b:Bool) (ps:List Int) (out:List TEdge):(ed f b ps out).length≤out.length+ps.length:=by
 have:=fold_len (μ:=List.length) (g:=fun out t=>putE out (f,t,b,())) (c:=1) (l:=ps) (s:=out) fun s a _=>putE_len _ _
 unfold ed;omega
theorem gFrom_len {l:List TRel} {d:TDep} (h:small d) (v:Int) (out:List TEdge) (f:Int):(gFrom l d v out f).length≤out.length+42:=by
 have h1:=ed_len f false (places l d.2.1 v) out
 have h2:=places_len l d.2.1 v
 have h3:=fold_len (μ:=List.length) (g:=fun out n=>ed f true (places l d.2.1 n) out) (c:=6) (l:=exV d) (s:=ed f false (places l d.2.1 v) out) fun s a _=>by
  have h1:=ed_len f true (places l d.2.1 a) s
  have h2:=places_len l d.2.1 a
  have:=h.2;omega
 have h4:=exV_len h
 have:=h.2
 unfold gFrom;omega
theorem gVar_len {l:List TRel} {d:TDep} (h:small d) (out:List TEdge) (v:Int):(gVar l d out v).length≤out.length+252:=by
 have h1:=fold_len (μ:=List.length) (g:=gFrom l d v) (c:=42) (l:=places l d.1 v) (s:=out) fun s a _=>gFrom_len h v s a
 have h2:=places_len l d.1 v
 have:=h.1
 unfold gVar;omega
theorem gDep_len {l:List TRel} {d:TDep} (h:small d) (out:List TEdge):(gDep l out d).length≤out.length+1512:=by
 have h1:=fold_len (μ:=List.length) (g:=gVar l d) (c:=252) (l:=frV d) (s:=out) fun s a _=>gVar_len h s a
 have h2:=frV_len h
 unfold gDep;omega
theorem eqD_edge (x y:TEdge):eqD (.pair (.int .i64) (.pair (.int .i64) (.pair .bool .unit))) x y=decide (x=y):=by
 obtain⟨a,b,c,_⟩:=x;obtain⟨a',b',c',_⟩:=y
 show((a == a')&&((b == b')&&((c == c')&&true)))=_
 by_cases h1:a=a'<;>by_cases h2:b=b'<;>by_cases h3:c=c'<;>simp[h1,h2,h3]
theorem g_sl13Put_ooz {e:List TEdge} {x:TEdge} (h:e.length≤1073741824):G_sl13Put_ooz e x (putE e x):=M_sl13Put_ooz _ _ _ (by
 unfold S_sl13Put_ooz
 refine loop_any e (fun y=>decide (y=x)) (fun i=>((i:Int),())) (KT:=x∈e) (KF:=¬ x∈e) ?_ ?_ ?_ ?_
 · intro i hi X h1 h2
   refine lenI fun _=>bcI hi (inI hi ?_)
   simp only
   rw[getI hi,w64_succ (by omega)]
   rw[eqD_edge]
   refine bc_if (fun h=>?_) (fun h=>h2 h)
   have:=h1 h
   unfold putE;rw[if_pos this]
 · intro X hn
   refine lenI fun _=>bcN ⟨by simp only[maxL,List.length_cons,List.length_nil];omega,?_⟩
   unfold putE;rw[if_neg hn]
 · intro h
   obtain⟨y,hy,hp⟩:=List.any_eq_true.mp h
   have:y=x:=by simpa using hp
   rw[←this];exact hy
 · intro h hm
   have:e.any (fun y=>decide (y=x))=true:=List.any_eq_true.mpr ⟨x,hm,by simp⟩
   rw[h]at this;cases this)
theorem g_sPositionGraph {l:List TRel} {ds:List TDep}:G_sPositionGraph l ds (graph l ds):=M_sPositionGraph _ _ _ (by
 unfold S_sPositionGraph graph
 cases hv:vDeps l ds with
 | false=>
   refine loopP_of 0 (fun _=>((0:Int),(([]:List TEdge),()))) rfl (fun i hi=>by omega) fun X=>?_
   refine lenI fun _=>bc_dec (fun _=>⟨_,g_sAreValidDependencies,?_⟩) (fun _=>?_)
   · rw[hv];exact bcF (by simp)
   · simp
 | true=>
   rw[if_pos rfl]
   have hdl:=vDeps_len hv
   have hsm:∀ d∈ds,small d:=fun d hd=>small_of (vDeps_mem hv hd)
   refine loop_foldB ds (gDep l) [] (fun i m=>((i:Int),(m,()))) List.length 1512 5 hdl (fun s a ha=>gDep_len (hsm a ha) s) ?_ ?_
   · intro i hi s X hs hX
     rw[List.length_nil]at hs
     have hd:=hsm _ (List.getElem_mem hi)
     have hd1:=hd.1
     have hd2:=hd.2
     have hfl:=frV_len hd
     have hel:=exV_len hd
     refine lenI fun _=>bcI hi ⟨_,g_sAreValidDependencies,?_⟩
     rw[hv]
     refine bcT (inI hi ⟨_,g_sFrontierVariables (by simp only;rw[getI hi];omega) (by simp only;rw[getI hi];omega),inI hi ⟨_,g_sExistentialVariables (by simp only;rw[getI hi];omega) (by simp only;rw[getI hi];omega),?_⟩⟩)
     simp only
     rw[getI hi,w64_succ (by omega)]
     refine loop_foldB (frV ds[i]) (gVar l ds[i]) s (fun i m=>((i:Int),(m,()))) List.length 252 6 hfl (fun s a _=>gVar_len hd s a) ?_ ?_
     · intro j hj s2 Y hs2 hY
       have hpl:=places_len l ds[i].1 (frV ds[i])[j]
       have hpl2:=places_len l ds[i].2.1 (frV ds[i])[j]
       refine lenI fun _=>bcI hj (inI hi (inI hj ⟨_,g_sl13Places (by omega),inI hi (inI hj ⟨_,g_sl13Places (by omega),?_⟩)⟩))
       simp only
       rw[getI hj,w64_succ (by omega)]
       refine loop_foldB (places l ds[i].1 (frV ds[i])[j]) (gFrom l ds[i] (frV ds[i])[j]) s2 (fun i m=>((i:Int),(m,()))) List.length 42 6 (by omega) (fun s a _=>gFrom_len hd _ s a) ?_ ?_
       · intro k hk s3 Z hs3 hZ
         refine lenI fun _=>bcI hk ?_
         simp only
         rw[getI hk,w64_succ (by omega)]
         have he1:=ed_len (places l ds[i].1 (frV ds[i])[j])[k] false (places l ds[i].2.1 (frV ds[i])[j]) s3
         refine loop_foldB (places l ds[i].2.1 (frV ds[i])[j]) (fun out t=>putE out ((places l ds[i].1 (frV ds[i])[j])[k],t,false,())) s3 (fun i m=>((i:Int),(m,()))) List.length 1 6 (by omega) (fun s a _=>putE_len _ _) ?_ ?_
         · intro m hm s4 W hs4 hW
           refine lenI fun _=>bcI hm (inI hk (inI hm ⟨_,g_sl13Put_ooz (by simp only;omega),?_⟩))
           simp only
           rw[getI hm,w64_succ (by omega)];exact hW
         · intro W hs4
           refine lenI fun _=>bcN ?_
           simp only
           refine loop_foldB (exV ds[i]) (fun out n=>ed (places l ds[i].1 (frV ds[i])[j])[k] true (places l ds[i].2.1 n) out) (ed (places l ds[i].1 (frV ds[i])[j])[k] false (places l ds[i].2.1 (frV ds[i])[j]) s3) (fun i m=>((i:Int),(m,()))) List.length 6 6 hel (fun s a _=>by
            have h1:=ed_len (places l ds[i].1 (frV ds[i])[j])[k] true (places l ds[i].2.1 a) s
            have h2:=places_len l ds[i].2.1 a
            omega) ?_ ?_
           · intro m hm s4 V hs4 hV
             have hpl3:=places_len l ds[i].2.1 (exV ds[i])[m]
             refine lenI fun _=>bcI hm (inI hi (inI hm ⟨_,g_sl13Places (by omega),?_⟩))
             simp only
             rw[getI hm,w64_succ (by omega)]
             refine loop_foldB (places l ds[i].2.1 (exV ds[i])[m]) (fun out t=>putE out ((places l ds[i].1 (frV ds[i])[j])[k],t,true,())) s4 (fun i m=>((i:Int),(m,()))) List.length 1 6 (by omega) (fun s a _=>putE_len _ _) ?_ ?_
             · intro p hp s5 V5 hs5 hV5
               refine lenI fun _=>bcI hp (inI hk (inI hp ⟨_,g_sl13Put_ooz (by simp only;omega),?_⟩))
               simp only
               rw[getI hp,w64_succ (by omega)];exact hV5
             · intro V5 _
               exact lenI fun _=>bcN hV
           · intro V _
             exact lenI fun _=>bcN hZ
       · intro Z _
         exact lenI fun _=>bcN hY
     · intro Y _
       exact lenI fun _=>bcN hX
   · intro X _
     exact lenI fun _=>bcN rfl)
def cntP (l:List TRel):Int:=if vRels l then sumA l else 0
theorem g_sPositionCount {l:List TRel}:G_sPositionCount l (cntP l):=M_sPositionCount _ _ (by
 unfold S_sPositionCount cntP
 cases hv:vRels l with
 | false=>
   refine loopP_of 0 (fun _=>((0:Int),((0:Int),()))) rfl (fun i hi=>by omega) fun X=>?_
   refine lenI fun _=>bc_dec (fun _=>⟨_,g_sAreValidRelations,?_⟩) (fun _=>?_)
   · rw[hv];exact bcF (by simp)
   · simp
 | true=>
   rw[if_pos rfl]
   have hl:=vRels_len hv
   refine loop_fold l (fun a r=>a+r.2.1) 0 (fun i m=>(m,((i:Int),()))) ?_ ?_
   · intro i hi X hX
     have hb:=sumA_bnd (l:=l.take i) (a:=0) fun r hr=>vRels_mem hv (List.mem_of_mem_take hr)
     rw[List.length_take]at hb
     have ha:=vRel_arity (vRels_mem hv (List.getElem_mem hi))
     refine lenI fun _=>bcI hi ⟨_,g_sAreValidRelations,?_⟩
     rw[hv]
     refine bcT (inI hi ?_)
     simp only
     rw[getI hi,w64_succ (by omega),w64_id (by omega) (by omega)]
     exact hX
   · intro X
     exact lenI fun _=>bcN rfl)
def iterN {α:Type} (f:α→α):Nat→α→α
 |0,a=>a
 |n+1,a=>iterN f n (f a)
theorem iterN_succ {α:Type} {f:α→α}:∀ {n:Nat} {a:α},iterN f (n+1) a=f (iterN f n a)
 |0,_=>rfl
 |n+1,a=>by rw[iterN,iterN_succ];rfl
theorem iterN_inv {α:Type} {f:α→α} {I:α→Prop} (h:∀ a,I a→I (f a)):∀ {n:Nat} {a:α},I a→I (iterN f n a)
 |0,_,ha=>ha
 |n+1,_,ha=>iterN_inv h (n:=n) (h _ ha)
def stepR (n:Int) (met:List Bool) (e:TEdge):List Bool:=if inR e.1 0 (n - 1)&&inR e.2.1 0 (n - 1)&&met.getD e.1.toNat false then met.set e.2.1.toNat true else met
def roundR (n:Int) (es:List TEdge) (met:List Bool):List Bool:=es.foldl (stepR n) met
def reachL (n:Int) (es:List TEdge) (a:Int):List Bool:=iterN (roundR n es) n.toNat ((List.replicate n.toNat false).set a.toNat true)
def reach (n:Int) (es:List TEdge) (a b:Int):Bool:=inR n 0 30&&inR a 0 (n - 1)&&inR b 0 (n - 1)&&(reachL n es a).getD b.toNat false
theorem stepR_len (n:Int) (met:List Bool) (e:TEdge):(stepR n met e).length=met.length:=by unfold stepR;split<;>simp
theorem foldR_len (n:Int):∀(es:List TEdge) (met:List Bool),(es.foldl (stepR n) met).length=met.length
 |[],_=>rfl
 |e::es,met=>by rw[List.foldl_cons,foldR_len n es];exact stepR_len n met e
theorem iterR_len (n:Int) (es:List TEdge) (k:Nat) (met:List Bool):(iterN (roundR n es) k met).length=met.length:=
 iterN_inv (I:=fun m:List Bool=>m.length=met.length) (fun m hm=>by unfold roundR;rw[foldR_len];exact hm) rfl
theorem g_sIsReachable {n:Int} {es:List TEdge} {a b:Int}:G_sIsReachable n es a b (reach n es a b):=M_sIsReachable _ _ _ _ _ (by
 unfold S_sIsReachable
 refine⟨_,g_sl1In,bc_not (fun h=>by unfold reach;rw[h];rfl) (fun h1=>⟨_,g_sl1In,?_⟩)⟩
 have hn:=inR_iff.mp h1
 rw[w64_id (by omega) (by omega)]
 refine bc_not (fun h=>by unfold reach;rw[h];simp) (fun h2=>⟨_,g_sl1In,bc_not (fun h=>by unfold reach;rw[h];simp) (fun h3=>?_)⟩)
 have ha:=inR_iff.mp h2
 have hb:=inR_iff.mp h3
 refine⟨⟨by omega,by omega,by simp only[maxL];omega⟩,⟨by omega,by rw[List.length_replicate];omega⟩,?_⟩
 have hlen:∀ k,(iterN (roundR n es) k ((List.replicate n.toNat false).set a.toNat true)).length=n.toNat:=fun k=>by rw[iterR_len];simp
 refine loopP_of n.toNat (fun i=>((i:Int),(iterN (roundR n es) i ((List.replicate n.toNat false).set a.toNat true),()))) (by simp[iterN]) ?_ ?_
 · intro i hi X hX
   refine bc_dec (fun _=>?_) (fun h=>by omega)
   rw[iterN_succ]at hX
   have hli:=hlen i
   simp only
   generalize iterN (roundR n es) i ((List.replicate n.toNat false).set a.toNat true)=m0 at hX hli ⊢
   unfold roundR at hX
   refine loop_fold es (stepR n) m0 (fun i m=>((i:Int),(m,()))) ?_ ?_
   · intro j hj Y hY
     have hlm:=foldR_len n (es.take j) m0
     rw[hli]at hlm
     generalize (es.take j).foldl (stepR n) m0=m1 at hY hlm ⊢
     unfold stepR at hY
     refine lenI fun _=>bcI hj (inI hj ⟨_,g_sl1In,?_⟩)
     simp only
     rw[getI hj,w64_succ (by omega)]
     refine bc_if (fun h4=>inI hj ⟨_,g_sl1In,bc_if (fun h5=>inI hj ?_) (fun h5=>by rw[h5]at hY;simpa using hY)⟩) (fun h4=>by rw[h4]at hY;simpa using hY)
     have e1:=inR_iff.mp h4
     have e2:=inR_iff.mp h5
     refine⟨⟨by omega,by omega⟩,bc_if (fun h6=>inI hj ⟨⟨by omega,by omega⟩,?_⟩) (fun h6=>?_)⟩
     · rw[h4,h5,h6]at hY;simpa using hY
     · rw[h6]at hY;simpa using hY
   · intro Y
     refine lenI fun _=>bcN ?_
     simp only
     rw[w64_succ (by omega)];exact hX
 · intro X
   refine bc_dec (fun h=>by omega) (fun _=>⟨⟨by omega,by rw[hlen];omega⟩,?_⟩)
   unfold reach reachL
   rw[h1,h2,h3];rfl)
def cycP (l:List TRel) (ds:List TDep) (e:TEdge):Bool:=e.2.2.1&&reach (cntP l) (graph l ds) e.2.1 e.1
def cyc (l:List TRel) (ds:List TDep):Bool:=(graph l ds).any (cycP l ds)
def cycE (l:List TRel) (ds:List TDep):TEdge:=if firstAt (cycP l ds) (graph l ds)<(graph l ds).length then(graph l ds).getD (firstAt (cycP l ds) (graph l ds)) zEdge else zEdge
theorem any_first {α:Type} {p:α→Bool} {l:List α}:l.any p=decide (firstAt p l<l.length):=by
 rcases Nat.lt_or_ge (firstAt p l) l.length with h|h
 · rw[decide_eq_true h]
   exact List.any_eq_true.mpr ⟨_,List.getElem_mem h,firstAt_at h⟩
 · rw[decide_eq_false (by omega),Bool.eq_false_iff]
   intro hany
   obtain⟨x,hx,hp⟩:=List.any_eq_true.mp hany
   obtain⟨i,hi,rfl⟩:=List.mem_iff_getElem.mp hx
   have:=firstAt_lt (p:=p) hi (by omega)
   rw[hp]at this;cases this
def wac (l:List TRel) (ds:List TDep):Bool:=vDeps l ds && !cyc l ds
theorem g_sSpecialCycleEdge {l:List TRel} {ds:List TDep}:G_sSpecialCycleEdge l ds (cycE l ds) (cyc l ds):=M_sSpecialCycleEdge _ _ _ _ (by
 unfold S_sSpecialCycleEdge
 refine⟨_,g_sPositionGraph,loop_first (graph l ds) (cycP l ds) (fun i=>((i:Int),(zEdge,()))) (KT:=fun i=>((graph l ds).getD i zEdge,(true,()))=(cycE l ds,(cyc l ds,()))) (KF:=(zEdge,(false,()))=(cycE l ds,(cyc l ds,()))) ?_ ?_ ?_ ?_⟩
 · intro i hi X h1 h2
   refine lenI fun _=>bcI hi (inI hi ?_)
   simp only
   rw[w64_succ (by omega)]
   have hg:=getI (d:=zEdge) hi
   rw[hg]
   unfold cycP at h1 h2
   refine bc_if (fun h=>inI hi (inI hi ⟨_,g_sPositionCount,_,g_sIsReachable,bc_if (fun h3=>inI hi ?_) (fun h3=>?_)⟩)) (fun h=>h2 (by rw[h];rfl))
   · have:=h1 (by rw[h,h3];rfl)
     rw[getD_at hi]at this;exact this
   · exact h2 (by rw[h,h3];rfl)
 · intro X h
   exact lenI fun _=>bcN h
 · intro h
   unfold cycE cyc
   rw[if_pos h,any_first,decide_eq_true h]
 · intro h
   unfold cycE cyc
   rw[if_neg (by omega),any_first,decide_eq_false (by omega)])
theorem g_sIsWeaklyAcyclic {l:List TRel} {ds:List TDep}:G_sIsWeaklyAcyclic l ds (wac l ds):=M_sIsWeaklyAcyclic _ _ _ (by
 unfold S_sIsWeaklyAcyclic wac
 refine⟨_,_,g_sSpecialCycleEdge,_,g_sAreValidDependencies,bc_if (fun h=>by rw[h];rfl) (fun h=>by rw[h];rfl)⟩)
def hgt (n:Int) (es:List TEdge) (p:Nat):Nat:=(List.range n.toNat).countP fun(q:Nat)=>(reachL n es (q:Int)).getD p false && !(reachL n es (p:Int)).getD q false
theorem g_slices_Clone_int {l:List Int} (h:l.length≤1099511627776):G_slices_Clone_int l l:=M_slices_Clone_int _ _ (by
 unfold S_slices_Clone_int
 refine bc_if (fun he=>⟨?_,by simp only[maxL,List.length_nil];omega,by rw[List.nil_append]⟩) (fun _=>⟨by simp only[maxL,List.length_nil];omega,by rw[List.nil_append]⟩)
 have:l=[]:=List.isEmpty_iff.mp he
 rw[this])
theorem g_slices_Clone_Relation {l:List TRel} (h:l.length≤1099511627776):G_slices_Clone_Relation l l:=M_slices_Clone_Relation _ _ (by
 unfold S_slices_Clone_Relation
 refine bc_if (fun he=>⟨?_,by simp only[maxL,List.length_nil];omega,by rw[List.nil_append]⟩) (fun _=>⟨by simp only[maxL,List.length_nil];omega,by rw[List.nil_append]⟩)
 have:l=[]:=List.isEmpty_iff.mp he
 rw[this])
theorem g_sl5Fact {f:TFact} (h:f.2.1.length≤1099511627776):G_sl5Fact f f:=M_sl5Fact _ _ (by
 unfold S_sl5Fact
 try refine⟨trivial,?_⟩
 exact⟨by simp only[maxL,List.length_nil];omega,by rw[List.nil_append]⟩)
theorem g_ifactCopy {f:TFact} (h:f.2.1.length≤1099511627776):G_ifactCopy f f:=M_ifactCopy _ _ (by
 unfold S_ifactCopy
 exact⟨_,g_slices_Clone_int h,rfl⟩)
theorem loop_copy {α τ:Type} {B:(τ→Prop)→τ→Prop} (l:List α) (e:Nat→List α→τ) (hl:l.length≤1073741824)
  (hs:∀ i (h:i<l.length) (s:List α) (X:τ→Prop),s.length≤1073741824→X (e (i+1) (s++[l[i]]))→B X (e i s))
  (hf:∀ X:τ→Prop,B X (e l.length l)):LoopP B (e 0 []):=by
 refine loopP_of l.length (fun i=>e i (l.take i)) (by simp) ?_ ?_
 · intro i hi X hX
   rw[take_succ_snoc hi]at hX
   exact hs i hi _ X (by rw[List.length_take];omega) hX
 · intro X;rw[List.take_length];exact hf X
theorem g_ifactsCopy {l:List TFact} (hl:l.length≤1073741824) (h:∀ f∈l,f.2.1.length≤1099511627776):G_ifactsCopy l l:=M_ifactsCopy _ _ (by
 unfold S_ifactsCopy
 refine lenI fun _=>loop_copy l (fun i s=>((i:Int),(s,()))) hl ?_ ?_
 · intro i hi s X hs hX
   refine bcI hi (inI hi ⟨l[i],?_,⟨by simp only[maxL,List.length_cons,List.length_nil];omega,?_⟩⟩)
   · simp only;rw[getI hi];exact g_ifactCopy (h _ (List.getElem_mem hi))
   · simp only;rw[w64_succ (by omega)];exact hX
 · intro X;exact bcN rfl)
def okDep (d:TDep):Prop:=(d.1.length≤1073741824∧∀ f∈d.1,f.2.1.length≤1099511627776)∧(d.2.1.length≤1073741824∧∀ f∈d.2.1,f.2.1.length≤1099511627776)
theorem g_math_bits_Mul64_5:G_math_bits_Mul64 1 5 0 5:=M_math_bits_Mul64 _ _ _ _ (by
 unfold S_math_bits_Mul64
 decide)
abbrev blank:List Int:=[10,10,10,10,10]
theorem g_slices_Repeat_int_5:G_slices_Repeat_int [10] 5 blank:=M_slices_Repeat_int _ _ _ (by
 unfold S_slices_Repeat_int
 refine bcF (lenI fun _=>⟨0,5,M_math_bits_Mul _ _ _ _ ⟨0,5,g_math_bits_Mul64_5,rfl⟩,bcF (bcF ⟨by decide,by decide,?_⟩)⟩)
 refine loopP_of 3 (fun i=>match i with
  |0=>((1:Int),(([10,0,0,0,0]:List Int),()))
  |1=>((2:Int),(([10,10,0,0,0]:List Int),()))
  |2=>((4:Int),(([10,10,10,10,0]:List Int),()))
  |_=>((5:Int),(([10,10,10,10,10]:List Int),()))) (by decide) ?_ ?_
 · intro i hi X hX
   rcases i with _|_|_|i
   · exact lenI fun _=>bcT ⟨by decide,by decide,by decide,by rw[show ∀ z,w64 z=IntKind.i64.wrap z from fun _=>rfl];exact hX⟩
   · exact lenI fun _=>bcT ⟨by decide,by decide,by decide,by rw[show ∀ z,w64 z=IntKind.i64.wrap z from fun _=>rfl];exact hX⟩
   · exact lenI fun _=>bcT ⟨by decide,by decide,by decide,by rw[show ∀ z,w64 z=IntKind.i64.wrap z from fun _=>rfl];exact hX⟩
   · omega
 · intro X
   exact lenI fun _=>bcF rfl)
theorem g_iunboundBinding:G_iunboundBinding blank:=M_iunboundBinding _ (by unfold S_iunboundBinding;exact⟨_,g_slices_Repeat_int_5,rfl⟩)
theorem g_sl11None:G_sl11None 10:=M_sl11None _ (by unfold S_sl11None;rfl)
theorem g_sl11Blank:G_sl11Blank [10,10,10,10,10]:=M_sl11Blank _ (by
 unfold S_sl11Blank
 refine loopP_of 5 (fun i=>(List.replicate i (10:Int),())) rfl ?_ ?_
 · intro i hi X hX
   refine lenI fun _=>bc_dec (fun _=>⟨_,g_sl11None,by simp only[maxL,List.length_replicate,List.length_cons,List.length_nil];omega,?_⟩) (fun h=>by simp only[List.length_replicate]at h;omega)
   rw[List.replicate_succ']at hX;exact hX
 · intro X
   exact lenI fun _=>bcF rfl)
def fitP:List Int→List Int→List Int→List Int×Bool
 |[],_,b=>(b,true)
 | t::ts,v::vs,b=>if t<0 then(if -1 - t=v then fitP ts vs b else(b,false))
   else if b.getD t.toNat 0=10∨b.getD t.toNat 0=v then fitP ts vs (b.set t.toNat v)else(b,false)
 |_::_,[],b=>(b,false)
theorem fitP_cons {t:Int} {ts:List Int} {v:Int} {vs b:List Int}:fitP (t::ts) (v::vs) b=if t<0 then(if -1 - t=v then fitP ts vs b else(b,false))
 else if b.getD t.toNat 0=10∨b.getD t.toNat 0=v then fitP ts vs (b.set t.toNat v)else(b,false):=rfl
theorem fitP_len:∀ {ts vs b:List Int},(fitP ts vs b).1.length=b.length
 |[],vs,b=>by simp[fitP]
 |t::ts,[],b=>by simp[fitP]
 | t::ts,v::vs,b=>by
   unfold fitP
   split
   · split
     · exact fitP_len
     · rfl
   · split
     · rw[fitP_len,List.length_set]
     · rfl
theorem set_same {l:List Int} {i:Nat} {v:Int} (h:i<l.length) (hv:l.getD i 0=v):l.set i v=l:=by
 rw[getD_at h]at hv
 subst hv
 exact List.set_getElem_self h
theorem g_sl11Fit {a f:TFact} {b:List Int} (hl:a.2.1.length≤1000) (hb:b.length≤1000) (ht:∀ t∈a.2.1,-10≤t∧t<b.length) :
  G_sl11Fit a f b (if a.1=f.1∧a.2.1.length=f.2.1.length then(fitP a.2.1 f.2.1 b).1 else b) (decide (a.1=f.1∧a.2.1.length=f.2.1.length)&&(fitP a.2.1 f.2.1 b).2):=M_sl11Fit _ _ _ _ _ (by
 unfold S_sl11Fit
 refine⟨by simp only[maxL,List.length_nil];omega,bc_ne (fun h=>by rw[if_neg (fun h'=>h h'.1)];simp[h]) (fun h1=>lenI fun _=>lenI fun _=>bc_ne (fun h=>?_) (fun h2=>?_))⟩
 · have h:¬ a.2.1.length=f.2.1.length:=by omega
   rw[if_neg (fun h'=>h h'.2)];simp[h]
 · have h2:a.2.1.length=f.2.1.length:=by omega
   rw[if_pos ⟨h1,h2⟩,decide_eq_true (And.intro h1 h2),Bool.true_and,List.nil_append]
   refine loopP_down (fun k s=>∃(i:Nat) (c:List Int),i+k=a.2.1.length∧s=((i:Int),(c,()))∧c.length=b.length∧fitP (a.2.1.drop i) (f.2.1.drop i) c=fitP a.2.1 f.2.1 b) ?_ ?_ (n:=a.2.1.length) ⟨0,b,by omega,rfl,rfl,by simp⟩
   · rintro s ⟨i,c,hi,rfl,hc,hf⟩ X
     obtain rfl:i=a.2.1.length:=by omega
     refine lenI fun _=>bcN ?_
     rw[←hf];simp[fitP]
   · rintro k s ⟨i,c,hi,rfl,hc,hf⟩ X hX
     have hlt:i<a.2.1.length:=by omega
     have hlt':i<f.2.1.length:=by omega
     rw[drop_cons hlt,drop_cons hlt']at hf
     have htr:=ht _ (List.getElem_mem hlt)
     refine lenI fun _=>bcI hlt (inI hlt ?_)
     simp only
     rw[getI hlt,getI hlt',w64_succ (by omega)]
     rw[fitP_cons]at hf
     refine bc_dec (fun h3=>inI hlt' ?_) (fun h3=>?_)
     · rw[if_pos h3]at hf
       rw[w64_id (by omega) (by omega)]
       refine bc_ne (fun h4=>?_) (fun h4=>?_)
       · rw[if_neg h4]at hf;rw[←hf]
       · rw[if_pos h4]at hf;exact hX _ ⟨i+1,c,by omega,rfl,hc,hf⟩
     · rw[if_neg h3]at hf
       have hin:a.2.1[i].toNat<c.length:=by omega
       refine⟨⟨by omega,by omega⟩,_,g_sl11None,bc_ne (fun h4=>⟨⟨by omega,by omega⟩,inI hlt' (bc_ne (fun h5=>?_) (fun h5=>inI hlt' ⟨⟨by omega,by omega⟩,?_⟩))⟩) (fun h4=>inI hlt' ⟨⟨by omega,by omega⟩,?_⟩)⟩
       · rw[if_neg (by rintro (h|h);exact h4 h;exact h5 h)]at hf;rw[←hf]
       · rw[if_pos (.inr h5)]at hf;exact hX _ ⟨i+1,_,by omega,rfl,by rw[List.length_set];exact hc,hf⟩
       · rw[if_pos (.inl h4)]at hf;exact hX _ ⟨i+1,_,by omega,rfl,by rw[List.length_set];exact hc,hf⟩)
theorem g_ibind {a f:TFact} {b:List Int} (hl:a.2.1.length≤1000) (hb:b.length≤1000) (ht:∀ t∈a.2.1,-10≤t∧t<b.length) (hr:a.1=f.1→a.2.1.length=f.2.1.length) :
  G_ibind b a f (if a.1=f.1∧(fitP a.2.1 f.2.1 b).2 then(fitP a.2.1 f.2.1 b).1 else[]) (decide (a.1=f.1)&&(fitP a.2.1 f.2.1 b).2):=M_ibind _ _ _ _ _ (by
 unfold S_ibind
 refine bc_ne (fun h=>by rw[if_neg (fun h'=>h h'.1)];simp[h]) (fun h1=>⟨_,g_slices_Clone_int (by omega),lenI fun _=>?_⟩)
 have h2:=hr h1
 rw[decide_eq_true h1,Bool.true_and]
 refine loopP_down (fun k s=>∃(i:Nat) (c:List Int),i+k=a.2.1.length∧s=((i:Int),(c,()))∧c.length=b.length∧fitP (a.2.1.drop i) (f.2.1.drop i) c=fitP a.2.1 f.2.1 b) ?_ ?_ (n:=a.2.1.length) ⟨0,b,by omega,rfl,rfl,by simp⟩
 · rintro s ⟨i,c,hi,rfl,hc,hf⟩ X
   obtain rfl:i=a.2.1.length:=by omega
   refine bcN ?_
   rw[←hf];simp[fitP,h1]
 · rintro k s ⟨i,c,hi,rfl,hc,hf⟩ X hX
   have hlt:i<a.2.1.length:=by omega
   have hlt':i<f.2.1.length:=by omega
   rw[drop_cons hlt,drop_cons hlt']at hf
   have htr:=ht _ (List.getElem_mem hlt)
   refine bcI hlt (inI hlt (inI hlt' ?_))
   simp only
   rw[getI hlt,getI hlt',w64_succ (by omega)]
   rw[fitP_cons]at hf
   refine bc_dec (fun h3=>?_) (fun h3=>?_)
   · rw[if_pos h3]at hf
     rw[w64_id (by omega) (by omega)]
     refine bc_ne (fun h4=>?_) (fun h4=>?_)
     · rw[if_neg (fun h=>h4 h.symm)]at hf;rw[←hf];simp
     · rw[if_pos h4.symm]at hf;exact hX _ ⟨i+1,c,by omega,rfl,hc,hf⟩
   · rw[if_neg h3]at hf
     have hin:a.2.1[i].toNat<c.length:=by omega
     refine⟨⟨by omega,by omega⟩,bc_beq (fun h4=>⟨⟨by omega,by omega⟩,?_⟩) (fun h4=>⟨⟨by omega,by omega⟩,bc_ne (fun h5=>?_) (fun h5=>?_)⟩)⟩
     · rw[if_pos (.inl h4)]at hf;exact hX _ ⟨i+1,_,by omega,rfl,by rw[List.length_set];exact hc,hf⟩
     · rw[if_neg (by rintro (h|h);exact h4 h;exact h5 h)]at hf;rw[←hf];simp
     · rw[if_pos (.inr h5),set_same hin h5]at hf;exact hX _ ⟨i+1,c,by omega,rfl,hc,hf⟩)
def walkG (fs:List TFact) (w:List Int→List (List Int)) (a:TFact) (b:List Int) (out:List (List Int)) (f:TFact):List (List Int):=if a.1=f.1∧(fitP a.2.1 f.2.1 b).2=true then out++w (fitP a.2.1 f.2.1 b).1 else out
def walk (fs:List TFact):List TFact→List Int→List (List Int)
 |[],b=>[b]
 |a::ats,b=>fs.foldl (walkG fs (walk fs ats) a b) []
structure WOk (fs ats:List TFact):Prop where
 few:fs.length≤30
 row:∀ a∈ats,a.2.1.length≤3∧∀ t∈a.2.1,-10≤t∧t<5
 fit:∀ a∈ats,∀ f∈fs,a.1=f.1→a.2.1.length=f.2.1.length
theorem WOk.tail {fs ats:List TFact} {a:TFact} (h:WOk fs (a::ats)):WOk fs ats:=⟨h.few,fun x hx=>h.row x (by simp[hx]),fun x hx=>h.fit x (by simp[hx])⟩
theorem walkG_len {fs ats:List TFact} {a:TFact} {b:List Int} {n:Nat} (hw:∀ c,(walk fs ats c).length≤n) (out:List (List Int)) (f:TFact):(walkG fs (walk fs ats) a b out f).length≤out.length+n:=by
 unfold walkG
 split
 · rw[List.length_append];have:=hw (fitP a.2.1 f.2.1 b).1;omega
 · omega
theorem walk_len {fs:List TFact} (h:fs.length≤30):∀ {ats:List TFact} {b:List Int},(walk fs ats b).length≤30 ^ ats.length
 |[],b=>by simp[walk]
 | a::ats,b=>by
   have:=fold_len (l:=fs) (g:=walkG fs (walk fs ats) a b) (s:=[]) (μ:=List.length) (c:=30 ^ ats.length) fun s f _=>walkG_len (fun c=>walk_len h) s f
   simp only[List.length_nil,Nat.zero_add]at this
   rw[List.length_cons,Nat.pow_succ,Nat.mul_comm]
   exact Nat.le_trans this (Nat.mul_le_mul_right _ h)
theorem walk_mem {fs ats:List TFact} {b c:List Int} (h:c∈walk fs ats b):c.length=b.length:=by
 induction ats generalizing b c with
 |nil=>simp[walk]at h;rw[h]
 | cons a ats ih=>
   have:∀(l:List TFact) (out:List (List Int)),(∀ c∈out,c.length=b.length)→∀ c∈l.foldl (walkG fs (walk fs ats) a b) out,c.length=b.length:=by
    intro l
    induction l with
    |nil=>intro out ho;exact ho
    | cons f l ihl=>
      intro out ho
      rw[List.foldl_cons]
      refine ihl _ fun c hc=>?_
      unfold walkG at hc
      split at hc
      · rcases List.mem_append.mp hc with hc|hc
        · exact ho c hc
        · rw[ih hc,fitP_len]
      · exact ho c hc
   exact this fs [] (by simp) c h
def mOk (x:TInst) (l:List TFact):Bool:=l.all (vAtom x.1)&&(vInst x&&decide (l.length≤3))
theorem mOk_wok {x:TInst} {l:List TFact} (h:mOk x l=true):WOk x.2.1 l∧l.length≤3:=by
 unfold mOk at h
 simp only[Bool.and_eq_true,decide_eq_true_eq]at h
 obtain⟨h1,h2,h3⟩:=h
 refine⟨⟨vInst_len h2,fun a ha=>?_,fun a ha f hf he=>?_⟩,h3⟩
 · have:=vRow_spec (List.all_eq_true.mp h1 a ha)
   exact⟨this.2.2.2.2.1,fun t ht=>by have:=inR_iff.mp (this.2.2.2.2.2 t ht);omega⟩
 · have e1:=vRow_spec (List.all_eq_true.mp h1 a ha)
   have e2:=vRow_spec (vInst_fact h2 hf)
   have:=e1.2.2.2.1
   have:=e2.2.2.2.1
   rw[he]at *
   omega
def dedG (out:List (List Int)) (b:List Int):List (List Int):=if b∈out then out else out++[b]
def finds (x:TInst) (l:List TFact):List (List Int):=if mOk x l then(walk x.2.1 l blank).foldl dedG [] else[]
theorem dedG_len (out:List (List Int)) (b:List Int):(dedG out b).length≤out.length+1:=by unfold dedG;split<;>simp
theorem dedF_mem:∀ {l:List (List Int)} {out:List (List Int)} {b:List Int},b∈l.foldl dedG out→b∈out∨b∈l
 |[],out,b,h=>.inl h
 | c::l,out,b,h=>by
   rw[List.foldl_cons]at h
   rcases dedF_mem h with h|h
   · unfold dedG at h
     split at h
     · exact .inl h
     · rcases List.mem_append.mp h with h|h
       · exact .inl h
       · simp at h;exact .inr (by simp[h])
   · exact .inr (by simp[h])
theorem finds_len5 {x:TInst} {l:List TFact} {b:List Int} (h:b∈finds x l):b.length=5:=by
 unfold finds at h
 split at h
 · rcases dedF_mem h with h|h
   · simp at h
   · rw[walk_mem h];rfl
 · simp at h
theorem pow30 {n:Nat} (h:n≤3):30 ^ n≤27000:=Nat.le_trans (Nat.pow_le_pow_right (by omega) h) (by decide)
theorem finds_len {x:TInst} {l:List TFact}:(finds x l).length≤27000:=by
 unfold finds
 split
 · rename_i h
   have:=fold_len (l:=walk x.2.1 l blank) (g:=dedG) (s:=[]) (μ:=List.length) (c:=1) fun s f _=>dedG_len s f
   have h2:=walk_len (mOk_wok h).1.few (ats:=l) (b:=blank)
   have:=pow30 (mOk_wok h).2
   simp at *
   omega
 · exact Nat.zero_le _
theorem g_sl11Ok {x:TInst} {l:List TFact}:G_sl11Ok x l (mOk x l):=M_sl11Ok _ _ _ (by
 unfold S_sl11Ok
 refine loop_any l (fun a=>!vAtom x.1 a) (fun i=>((i:Int),())) (KT:=((false,()):Bool×Unit)=(mOk x l,())) (KF:=l.any (fun a=>!vAtom x.1 a)=false) ?_ ?_ ?_ (fun h=>h)
 · intro i hi X h1 h2
   refine lenI fun _=>bcI hi (inI hi ⟨_,g_sIsValidAtom,?_⟩)
   simp only
   rw[getI hi,w64_succ (by omega)]
   exact bc_if h1 h2
 · intro X h
   refine lenI fun _=>bcN ⟨_,g_sIsValidInstance,?_⟩
   rw[any_not]at h
   refine bc_if (fun h1=>lenI fun _=>?_) (fun h1=>?_)
   · unfold mOk;rw[nf h,h1];simp;omega
   · unfold mOk;rw[h1];simp
 · intro h
   rw[any_not]at h
   unfold mOk;rw[nt h];rfl)
theorem g_iareMatchable {x:TInst} {l:List TFact}:G_iareMatchable x l (mOk x l):=M_iareMatchable _ _ _ (by
 unfold S_iareMatchable
 refine⟨_,g_iIsValidInstance,bc_if (fun h1=>lenI fun _=>bc_beq (fun h2=>?_) (fun h2=>⟨_,g_iareAtoms,?_⟩)) (fun h1=>by unfold mOk;rw[h1];simp)⟩
 · have:l=[]:=List.eq_nil_of_length_eq_zero (by omega)
   unfold mOk;rw[this,h1];rfl
 · have:mOk x l=(inR l.length 1 3&&l.all (vAtom x.1)):=by
    unfold mOk
    rw[h1,Bool.true_and,Bool.and_comm]
    congr 1
    have h0:1≤l.length:=by omega
    unfold inR
    rw[decide_eq_true (show(1:Int)≤(l.length:Int) by omega),Bool.true_and]
    exact decide_eq_decide.mpr (by omega)
   rw[this])
theorem g_sl11Walk {x:TInst} {l:List TFact} (h:WOk x.2.1 l) (hl:l.length≤3):∀(k n:Nat) (b:List Int),n+k=l.length→b.length=5→G_sl11Walk x l n b (walk x.2.1 (l.drop n) b)
 | 0,n,b,hn,hb=>M_sl11Walk _ _ _ _ _ (by
   unfold S_sl11Walk
   obtain rfl:n=l.length:=by omega
   refine lenI fun _=>bc_beq (fun _=>⟨by simp only[maxL,List.length_nil];omega,by rw[List.drop_length];rfl⟩) (fun h=>absurd rfl h))
 | k+1,n,b,hn,hb=>M_sl11Walk _ _ _ _ _ (by
   unfold S_sl11Walk
   have hlt:n<l.length:=by omega
   refine lenI fun _=>bc_beq (fun h=>by omega) (fun _=>?_)
   rw[drop_cons hlt]
   have hrow:=h.row _ (List.getElem_mem hlt)
   refine loop_foldB x.2.1 (walkG x.2.1 (walk x.2.1 (l.drop (n+1))) l[n] b) [] (fun i s=>((i:Int),(s,()))) List.length 27000 30 h.few (fun s f _=>walkG_len (fun c=>Nat.le_trans (walk_len h.few) (pow30 (by rw[List.length_drop];omega))) s f) ?_ ?_
   · intro i hi s X hs hX
     have hfew:=h.few
     refine lenI fun _=>bcI hi (inI hlt (inI hi ⟨_,_,g_sl11Fit (a:=l.getD (Int.toNat (n:Int)) zFact) (f:=x.2.1.getD (Int.toNat (i:Int)) zFact) (b:=b) ?_ (by omega) ?_,?_⟩))
     · rw[getI hlt];omega
     · rw[getI hlt];intro t ht;have:=hrow.2 t ht;omega
     · simp only
       rw[getI hlt,getI hi,w64_succ (by omega),w64_succ (by omega)]
       have hfit:=h.fit _ (List.getElem_mem hlt) _ (List.getElem_mem hi)
       unfold walkG at hX
       by_cases hc:l[n].1=x.2.1[i].1
       · rw[if_pos ⟨hc,hfit hc⟩,decide_eq_true (And.intro hc (hfit hc)),Bool.true_and]
         refine bc_if (fun h4=>⟨_,g_sl11Walk h hl k (n+1) _ (by omega) (by rw[fitP_len];exact hb),?_,?_⟩) (fun h4=>?_)
         · have h5:(walk x.2.1 (l.drop (n+1)) (fitP l[n].2.1 x.2.1[i].2.1 b).1).length≤27000:=Nat.le_trans (walk_len h.few) (pow30 (by rw[List.length_drop];omega))
           simp only[maxL,List.length_nil]at *
           omega
         · rw[if_pos ⟨hc,h4⟩]at hX;exact hX
         · rw[if_neg (by rintro⟨_,h5⟩;rw[h4]at h5;cases h5)]at hX;exact hX
       · rw[if_neg (fun h=>hc h.1),decide_eq_false (fun h=>hc h.1),Bool.false_and]
         rw[if_neg (fun h=>hc h.1)]at hX
         exact bcF hX
   · intro X _
     exact lenI fun _=>bcN rfl)
theorem g_imatches {fs:List TFact}:∀ {l:List TFact} (b:List Int),WOk fs l→l.length≤3→b.length=5→G_imatches fs l b (walk fs l b)
 |[],b,h,hl,hb=>M_imatches _ _ _ _ (by unfold S_imatches;exact lenI fun _=>bcT rfl)
 | a::l,b,h,hl,hb=>M_imatches _ _ _ _ (by
   unfold S_imatches
   have hrow:=h.row a (by simp)
   refine lenI fun _=>bc_beq (fun h=>by simp at h;omega) (fun _=>lenI fun _=>?_)
   have hd:List.drop (Int.toNat (1:Int)) (List.take (Int.toNat ((a::l).length:Int)) (a::l))=l:=by rw[Int.toNat_natCast,List.take_length];rfl
   rw[hd]
   refine loop_foldB fs (walkG fs (walk fs l) a b) [] (fun i s=>((i:Int),(s,()))) List.length 27000 30 h.few (fun s f _=>walkG_len (fun c=>Nat.le_trans (walk_len h.few) (pow30 (by simp at hl;omega))) s f) ?_ ?_
   · intro i hi s X hs hX
     have hfew:=h.few
     refine bcI hi (inI hi ⟨⟨by omega,by simp only[List.length_cons];omega⟩,_,_,g_ibind (a:=a) (f:=fs.getD (Int.toNat (i:Int)) zFact) (b:=b) (by omega) (by omega) (fun t ht=>by have:=hrow.2 t ht;omega) ?_,?_⟩)
     · rw[getI hi];exact h.fit a (by simp) _ (List.getElem_mem hi)
     · simp only
       rw[getI hi,w64_succ (by omega)]
       unfold walkG at hX
       by_cases hc:a.1=fs[i].1
       · rw[decide_eq_true hc,Bool.true_and]
         refine bc_if (fun h4=>⟨⟨by omega,by simp;omega,by omega⟩,_,g_imatches _ h.tail (by simp at hl;omega) (by rw[if_pos ⟨hc,h4⟩,fitP_len];exact hb),?_,?_⟩) (fun h4=>?_)
         · have h5:∀ c,(walk fs l c).length≤27000:=fun c=>Nat.le_trans (walk_len h.few) (pow30 (by simp at hl;omega))
           have:=h5 (if a.1=fs[i].1∧(fitP a.2.1 fs[i].2.1 b).2=true then(fitP a.2.1 fs[i].2.1 b).1 else[])
           simp only[maxL,List.length_nil]at *
           omega
         · rw[if_pos ⟨hc,h4⟩]at hX ⊢;exact hX
         · rw[if_neg (by rintro⟨_,h5⟩;rw[h4]at h5;cases h5)]at hX;exact hX
       · rw[decide_eq_false hc,Bool.false_and]
         rw[if_neg (fun h=>hc h.1)]at hX
         exact bcF hX
   · intro X _
     exact bcN rfl)
theorem g_ihasBinding {l:List (List Int)} {b:List Int}:G_ihasBinding l b (decide (b∈l)):=M_ihasBinding _ _ _ (by
 unfold S_ihasBinding
 refine⟨_,g_slices_ContainsFunc_Sint_c_ihasBinding_1 (fun t=>decide (t=b)) (fun t _=>M_ihasBinding_1 _ _ _ ⟨_,g_slices_Equal_int,rfl⟩),?_⟩
 have:(l.any fun t=>decide (t=b))=decide (b∈l):=by
  rw[←any_mem]
  congr 1;funext t
  by_cases h:t=b
  · simp[h]
  · have:¬ b=t:=fun e=>h e.symm
    simp[h,this]
 rw[this])
def mkd {α:Type} (w:List α) (i:Nat):List (Bool×α):=(w.take i).map (fun y=>(false,y))++(w.drop i).map (fun y=>(true,y))
theorem mkd_len {α:Type} {w:List α} {i:Nat}:(mkd w i).length=w.length:=by
 unfold mkd
 rw[List.length_append,List.length_map,List.length_map,←List.length_append,List.take_append_drop]
theorem mkd_get {α:Type} {w:List α} {i:Nat} (h:i<w.length) {d:Bool×α}:List.getD (mkd w i) i d=(true,w[i]):=by
 have hl:((w.take i).map (fun y=>(false,y))).length=i:=by simp;omega
 unfold mkd
 rw[List.getD_eq_getElem?_getD,List.getElem?_append_right (by omega),hl,Nat.sub_self,List.getElem?_map,List.getElem?_drop,Nat.add_zero,List.getElem?_eq_getElem h]
 rfl
theorem mkd_set {α:Type} {w:List α} {i:Nat} (h:i<w.length):List.set (mkd w i) i (false,w[i])=mkd w (i+1):=by
 have hl:((w.take i).map (fun y=>(false,y))).length=i:=by simp;omega
 unfold mkd
 rw[List.set_append,hl,if_neg (by omega),Nat.sub_self,List.drop_eq_getElem_cons h,List.map_cons,List.set_cons_zero,take_succ_snoc h,List.map_append,List.append_assoc]
 rfl
theorem g_iFindMatches {x:TInst} {l:List TFact}:G_iFindMatches x l (finds x l):=M_iFindMatches _ _ _ (by
 unfold S_iFindMatches
 refine⟨_,g_iareMatchable,bc_not (fun h=>by unfold finds;rw[h];rfl) (fun h=>?_)⟩
 obtain⟨hw,hl⟩:=mOk_wok h
 refine⟨_,g_iunboundBinding,_,g_imatches blank hw hl rfl,lenI fun _=>?_⟩
 have hlen:(walk x.2.1 l blank).length≤27000:=Nat.le_trans (walk_len hw.few) (pow30 hl)
 unfold finds
 rw[h,if_pos rfl]
 rw[show List.map (fun y=>(true,y)) (walk x.2.1 l blank)=mkd (walk x.2.1 l blank) 0 from rfl]
 refine loop_foldB (walk x.2.1 l blank) dedG [] (fun i s=>((i:Int),(s,(mkd (walk x.2.1 l blank) i,())))) List.length 1 27000 hlen (fun s f _=>dedG_len s f) ?_ ?_
 · intro i hi s X hs hX
   refine bcI hi (inI (by rw[mkd_len];exact hi) ?_)
   simp only[Int.toNat_natCast]
   rw[mkd_get hi]
   refine⟨rfl,_,g_ihasBinding,?_⟩
   simp only
   rw[mkd_set hi,w64_succ (by omega)]
   unfold dedG at hX
   refine bc_nd (fun h4=>⟨by simp only[maxL,List.length_nil,List.length_cons]at *;omega,?_⟩) (fun h4=>?_)
   · rw[if_neg h4]at hX;exact hX
   · rw[if_pos h4]at hX;exact hX
 · intro X _
   exact bcN rfl)
theorem g_sFindMatches {x:TInst} {l:List TFact}:G_sFindMatches x l (finds x l):=M_sFindMatches _ _ _ (by
 unfold S_sFindMatches
 refine⟨_,g_sl11Ok,bc_not (fun h=>by unfold finds;rw[h];rfl) (fun h=>?_)⟩
 obtain⟨hw,hl⟩:=mOk_wok h
 refine⟨_,g_sl11Blank,_,g_sl11Walk hw hl l.length 0 blank (by omega) rfl,?_⟩
 rw[List.drop_zero]
 have hlen:(walk x.2.1 l blank).length≤27000:=Nat.le_trans (walk_len hw.few) (pow30 hl)
 unfold finds
 rw[h,if_pos rfl]
 refine loop_foldB (walk x.2.1 l blank) dedG [] (fun i s=>((i:Int),(s,(walk x.2.1 l blank,())))) List.length 1 27000 hlen (fun s f _=>dedG_len s f) ?_ ?_
 · intro i hi s X hs hX
   refine lenI fun _=>bcI hi ?_
   simp only
   rw[w64_succ (by omega)]
   refine loop_fold s (fun(m:Bool) c=>m||decide (c=(walk x.2.1 l blank)[i])) false (fun j m=>(m,((j:Int),()))) ?_ ?_
   · intro j hj Y hY
     refine lenI fun _=>bcI hj ?_
     simp only
     rw[w64_succ (by simp at hs;omega)]
     generalize (s.take j).foldl (fun(m:Bool) c=>m||decide (c=(walk x.2.1 l blank)[i])) false=m at hY ⊢
     cases m with
     |true=>exact bcT hY
     | false=>
       refine bcF (inI hj (inI hi ⟨_,g_sl4Ints,?_⟩))
       rw[getI hj,getI hi]
       have:(cmpL s[j] (walk x.2.1 l blank)[i] == (0:Int))=decide (s[j]=(walk x.2.1 l blank)[i]):=by
        by_cases he:s[j]=(walk x.2.1 l blank)[i]
        · rw[cmpL_zero.mpr he];simp[he]
        · have:cmpL s[j] (walk x.2.1 l blank)[i]≠0:=fun e=>he (cmpL_zero.mp e)
          simp[he,this]
       rw[this];simpa using hY
   · intro Y
     refine lenI fun _=>bcN ?_
     simp only
     have hm:∀(s:List (List Int)) (m:Bool),s.foldl (fun(m:Bool) c=>m||decide (c=(walk x.2.1 l blank)[i])) m=(m||decide ((walk x.2.1 l blank)[i]∈s)):=by
      intro s
      induction s with
      |nil=>intro m;simp
      | cons c s ih=>
        intro m
        rw[List.foldl_cons,ih,Bool.or_assoc]
        congr 1
        by_cases he:c=(walk x.2.1 l blank)[i]
        · simp[he]
        · have:¬ (walk x.2.1 l blank)[i]=c:=fun e=>he e.symm
          simp[he,this]
     rw[hm,Bool.false_or]
     unfold dedG at hX
     refine bc_nd (fun h4=>inI hi ⟨by simp only[maxL,List.length_nil,List.length_cons]at *;omega,?_⟩) (fun h4=>?_)
     · rw[getI hi];rw[if_neg h4]at hX;exact hX
     · rw[if_pos h4]at hX;exact hX
 · intro X _
   exact lenI fun _=>bcN rfl)
def instG (b:List Int) (t:Int):Option Int:=if 0≤t then(if (b.length:Int)≤t then none else if vVal (b.getD t.toNat 0)then some (b.getD t.toNat 0)else none)else(if vVal (-1 - t)then some (-1 - t)else none)
def instS (b:List Int) (s:List Int) (t:Int):Unit ⊕ List Int:=match instG b t with
 |none=>.inl ()
 |some v=>.inr (s++[v])
def inst (a:TFact) (b:List Int):TFact:=match runE (instS b) a.2.1 []with
 |.inl _=>zFact
 |.inr s=>(a.1,(s,()))
def instOk (a:TFact) (b:List Int):Bool:=match runE (instS b) a.2.1 []with
 |.inl _=>false
 |.inr _=>true
theorem instS_len {b:List Int}:∀ {l:List Int} {s s':List Int},runE (instS b) l s = .inr s'→s'.length=s.length+l.length
 |[],s,s',h=>by simp only[runE,Sum.inr.injEq]at h;subst h;simp
 | t::l,s,s',h=>by
   simp only[runE]at h
   unfold instS at h
   cases e:instG b t with
   |none=>rw[e]at h;simp at h
   | some v=>
     rw[e]at h
     have:=instS_len (b:=b) (l:=l) h
     simp at this ⊢
     omega
theorem inst_len {a:TFact} {b:List Int}:(inst a b).2.1.length≤a.2.1.length:=by
 unfold inst
 cases e:runE (instS b) a.2.1 []with
 |inl _=>simp
 |inr s=>have:=instS_len e;simp at this ⊢;omega
theorem inst_no {a:TFact} {b:List Int} {r:Unit} (h:runE (instS b) a.2.1 [] = .inl r):((zFact,(false,())):TFact×Bool×Unit)=(inst a b,(instOk a b,())):=by unfold inst instOk;rw[h]
theorem inst_yes {a:TFact} {b s:List Int} (h:runE (instS b) a.2.1 [] = .inr s):(((a.1,(s,())),(true,())):TFact×Bool×Unit)=(inst a b,(instOk a b,())):=by unfold inst instOk;rw[h]
theorem g_iInstantiate {a:TFact} {b:List Int} (hl:a.2.1.length≤1000) (hb:b.length≤1000) (ht:∀ t∈a.2.1,-10≤t∧t<5):G_iInstantiate a b (inst a b) (instOk a b):=M_iInstantiate _ _ _ _ (by
 unfold S_iInstantiate
 refine lenI fun _=>loop_run a.2.1 (instS b) [] (fun i s=>((i:Int),(zFact,((a.1,(s,())),())))) (KR:=fun _=>((zFact,(false,())):TFact×Bool×Unit)=(inst a b,(instOk a b,()))) ?_ ?_ (fun r hr=>inst_no hr)
 · intro i hi s X hr h1 h2
   have hs:=instS_len hr
   have htr:=ht _ (List.getElem_mem hi)
   refine bcI hi (inI hi ?_)
   simp only
   rw[getI hi,w64_succ (by omega)]
   unfold instS instG at h1 h2
   rw[List.length_take,List.length_nil]at hs
   refine bc_dec (fun h3=>lenI fun _=>bc_dec (fun h4=>?_) (fun h4=>⟨⟨by omega,by omega⟩,_,g_iIsValidValue,bc_not (fun h5=>?_) (fun h5=>⟨by simp only[maxL,List.length_cons,List.length_nil];omega,?_⟩)⟩)) (fun h3=>⟨_,g_iIsValidValue,?_⟩)
   · exact h1 () (by rw[if_pos (by omega),if_pos (by omega)])
   · exact h1 () (by rw[if_pos (by omega),if_neg (by omega),h5];rfl)
   · exact h2 _ (by rw[if_pos (by omega),if_neg (by omega),h5];rfl)
   · rw[w64_id (by omega) (by omega)]
     refine bc_not (fun h5=>?_) (fun h5=>⟨by simp only[maxL,List.length_cons,List.length_nil];omega,?_⟩)
     · exact h1 () (by rw[if_neg (by omega),h5];rfl)
     · exact h2 _ (by rw[if_neg (by omega),h5];rfl)
 · intro s X hr
   exact bcN (inst_yes hr))
theorem g_sInstantiate {a:TFact} {b:List Int} (hl:a.2.1.length≤1000) (hb:b.length≤1000) (ht:∀ t∈a.2.1,-10≤t∧t<5):G_sInstantiate a b (inst a b) (instOk a b):=M_sInstantiate _ _ _ _ (by
 unfold S_sInstantiate
 refine loop_run a.2.1 (instS b) [] (fun i s=>((i:Int),(zFact,((a.1,(s,())),())))) (KR:=fun _=>((zFact,(false,())):TFact×Bool×Unit)=(inst a b,(instOk a b,()))) ?_ ?_ (fun r hr=>inst_no hr)
 · intro i hi s X hr h1 h2
   have hs:=instS_len hr
   have htr:=ht _ (List.getElem_mem hi)
   refine lenI fun _=>bcI hi (inI hi (inI hi ?_))
   simp only
   rw[getI hi,w64_succ (by omega)]
   unfold instS instG at h1 h2
   rw[List.length_take,List.length_nil]at hs
   refine bc_dec (fun h3=>inI hi (lenI fun _=>bc_dec (fun h4=>?_) (fun h4=>inI hi ⟨⟨by omega,by omega⟩,_,g_sIsValidValue,bc_not (fun h5=>?_) (fun h5=>inI hi (bc_dec (fun h6=>by omega) (fun h6=>⟨by simp only[maxL,List.length_cons,List.length_nil];omega,?_⟩)))⟩))) (fun h3=>⟨_,g_sIsValidValue,?_⟩)
   · exact h1 () (by rw[if_pos (by omega),if_pos (by omega)])
   · exact h1 () (by rw[if_pos (by omega),if_neg (by omega),h5];rfl)
   · exact h2 _ (by rw[if_pos (by omega),if_neg (by omega),h5];rfl)
   · rw[w64_id (by omega) (by omega)]
     refine bc_not (fun h5=>?_) (fun h5=>inI hi (bc_dec (fun _=>bc_dec (fun h6=>by omega) (fun _=>⟨by simp only[maxL,List.length_cons,List.length_nil];omega,?_⟩)) (fun h6=>by omega)))
     · exact h1 () (by rw[if_neg (by omega),h5];rfl)
     · exact h2 _ (by rw[if_neg (by omega),h5];rfl)
 · intro s X hr
   exact lenI fun _=>bcN (inst_yes hr))
theorem g_iNullValue {k:Int} (h0:0≤k) (h1:k≤1000000):G_iNullValue k (-1 - k):=M_iNullValue _ _ (by unfold S_iNullValue;rw[w64_id (by omega) (by omega)])
theorem g_sNullValue {k:Int} (h0:0≤k) (h1:k≤1000000):G_sNullValue k (-1 - k):=M_sNullValue _ _ (by unfold S_sNullValue;rw[w64_id (by omega) (by omega)])
theorem any_dec {α:Type} [BEq α] [LawfulBEq α] [DecidableEq α] {l:List α} {b:α}:(l.any fun t=>decide (t=b))=decide (b∈l):=by
 rw[←any_mem]
 congr 1;funext t
 by_cases h:t=b
 · simp[h]
 · have:¬ b=t:=fun e=>h e.symm
   simp[h,this]
theorem g_ihasFact {l:List TFact} {f:TFact}:G_ihasFact l f (decide (f∈l)):=M_ihasFact _ _ _ (by
 unfold S_ihasFact
 refine⟨_,g_slices_ContainsFunc_Fact_c_ihasFact_1 (fun t=>decide (t=f)) (fun t _=>M_ihasFact_1 _ _ _ ⟨_,g_isameFact,rfl⟩),?_⟩
 rw[any_dec])
def place (l:List TFact) (f:TFact):Int:=if firstAt (fun x=>decide (x=f)) l<l.length then(firstAt (fun x=>decide (x=f)) l:Int)else -1
theorem place_ge {l:List TFact} {f:TFact}:decide (place l f≥0)=decide (f∈l):=by
 have:=idx_ge (fun x=>decide (x=f)) l
 rw[any_dec]at this
 exact this
theorem cmp_dec {x f:TFact}:(cmpF x f == (0:Int))=decide (x=f):=by
 by_cases h:x=f
 · rw[cmpF_zero.mpr h];simp[h]
 · have:cmpF x f≠0:=fun e=>h (cmpF_zero.mp e)
   simp[h,this]
theorem g_sl5Place {x:TInst} {f:TFact}:G_sl5Place x f (place x.2.1 f):=M_sl5Place _ _ _ (by
 unfold S_sl5Place
 refine loop_first x.2.1 (fun t=>decide (t=f)) (fun i=>((i:Int),())) (KT:=fun i=>(((i:Int),()):Int×Unit)=(place x.2.1 f,())) (KF:=(((-1:Int),()):Int×Unit)=(place x.2.1 f,())) ?_ ?_ ?_ ?_
 · intro i hi X h1 h2
   refine lenI fun _=>bcI hi (inI hi ⟨_,g_sCompareFacts,?_⟩)
   simp only
   rw[getI hi,cmp_dec,w64_succ (by omega)]
   exact bc_if h1 h2
 · intro X h;exact lenI fun _=>bcN h
 · intro h;unfold place;rw[if_pos h]
 · intro h;unfold place;rw[if_neg (by omega)])
theorem cmpL_trans:∀ {x y z:List Int},cmpL x y<0→cmpL y z<0→cmpL x z<0
 |[],[],z,h,_=>by simp[cmpL]at h
 |[],b::y,[],_,h=>by simp[cmpL]at h
 |[],b::y,c::z,_,_=>by simp[cmpL]
 |a::x,[],z,h,_=>by simp[cmpL]at h
 |a::x,b::y,[],_,h=>by simp[cmpL]at h
 | a::x,b::y,c::z,h1,h2=>by
   simp only[cmpL]at h1 h2 ⊢
   have ih:=cmpL_trans (x:=x) (y:=y) (z:=z)
   split at h1
   · split at h2
     · rw[if_pos (by omega)];omega
     · split at h2
       · omega
       · rw[if_pos (by omega)];omega
   · split at h1
     · omega
     · split at h2
       · rw[if_pos (by omega)];omega
       · split at h2
         · omega
         · rw[if_neg (by omega),if_neg (by omega)];exact ih h1 h2
theorem cmpF_trans {x y z:TFact} (h1:cmpF x y<0) (h2:cmpF y z<0):cmpF x z<0:=by
 unfold cmpF at *
 split at h1
 · split at h2
   · rw[if_pos (by omega)];omega
   · split at h2
     · omega
     · rw[if_pos (by omega)];omega
 · split at h1
   · omega
   · split at h2
     · rw[if_pos (by omega)];omega
     · split at h2
       · omega
       · rw[if_neg (by omega),if_neg (by omega)];exact cmpL_trans h1 h2
def asc (l:List TFact):Prop:=∀ i j (hj:j<l.length) (hij:i<j),cmpF (l[i]'(by omega)) l[j]<0
theorem vInst_asc {x:TInst} (h:vInst x=true):asc x.2.1:=by
 have step:∀ i (hi:i+1<x.2.1.length),cmpF (x.2.1[i]'(by omega)) x.2.1[i+1]<0:=by
  intro i hi
  unfold vInst at h
  simp only[Bool.and_eq_true]at h
  have:=List.all_eq_true.mp h.2 (i+1) (by simpa using hi)
  unfold factOk at this
  simp only[Bool.and_eq_true]at this
  have:=this.1.2
  rw[show(i+1 == 0)=false by simp,Bool.false_or]at this
  have h:=of_decide_eq_true this
  rw[Nat.add_sub_cancel,factAt_get (by omega),factAt_get hi]at h
  exact h
 have all:∀ k i (hk:i+1+k<x.2.1.length),cmpF (x.2.1[i]'(by omega)) x.2.1[i+1+k]<0:=by
  intro k
  induction k with
  |zero=>intro i hk;exact step i hk
  |succ k ih=>intro i hk;exact cmpF_trans (ih i (by omega)) (step (i+1+k) hk)
 intro i j hj hij
 obtain⟨k,rfl⟩:∃ k,j=i+1+k:=⟨j - i - 1,by omega⟩
 exact all k i hj
theorem foldl_snoc {α β:Type} (f:α→β):∀(l:List α) (s:List β),l.foldl (fun out a=>out++[f a]) s=s++l.map f
 |[],s=>by simp
 |a::l,s=>by rw[List.foldl_cons,foldl_snoc f l];simp
theorem loop_rangeB {σ τ:Type} {B:(τ→Prop)→τ→Prop} (n:Nat) (g:σ→Nat→σ) (s0:σ) (e:Nat→σ→τ) (μ:σ→Nat) (c N:Nat) (hN:n≤N) (hg:∀ s i,i<n→μ (g s i)≤μ s+c)
  (hs:∀ i (_:i<n) (s:σ) (X:τ→Prop),μ s≤μ s0+N * c→X (e (i+1) (g s i))→B X (e i s))
  (hf:∀ X:τ→Prop,μ ((List.range n).foldl g s0)≤μ s0+N * c→B X (e n ((List.range n).foldl g s0))):LoopP B (e 0 s0):=
 loop_foldB (List.range n) g s0 e μ c N (by simpa using hN) (fun s a ha=>hg s a (List.mem_range.mp ha)) (fun i h s X hs' hX=>hs i (by simpa using h) s X hs' (by simpa using hX)) (fun X h=>by simpa using hf X h)
theorem flat_le {f:TFact}:∀ {l:List TFact},f∈l→f.2.1.length≤(l.flatMap (·.2.1)).length
 | a::l,h=>by
   rw[List.flatMap_cons,List.length_append]
   rcases List.mem_cons.mp h with rfl|h
   · omega
   · have:=flat_le h;omega
theorem fact_args {x:TInst} (h:vInst x=true) {f:TFact} (hf:f∈x.2.1):f.2.1.length≤1099511627776:=by
 have:=vInst_flat h
 have:=flat_le hf
 omega
theorem g_sl5Copy {x:TInst} (h1:x.1.length≤1099511627776) (hl:x.2.1.length≤1073741824) (h:∀ f∈x.2.1,f.2.1.length≤1099511627776):G_sl5Copy x x:=M_sl5Copy _ _ (by
 unfold S_sl5Copy
 refine⟨by simp only[maxL,List.length_nil];omega,?_⟩
 rw[List.nil_append]
 refine loop_copy x.2.1 (fun i s=>((i:Int),((x.1,(s,())),()))) hl ?_ ?_
 · intro i hi s X hs hX
   refine lenI fun _=>bcI hi (inI hi ⟨x.2.1[i],?_,⟨by simp only[maxL,List.length_cons,List.length_nil];omega,?_⟩⟩)
   · simp only;rw[getI hi];exact g_sl5Fact (h _ (List.getElem_mem hi))
   · simp only;rw[w64_succ (by omega)];exact hX
 · intro X;exact lenI fun _=>bcN rfl)
theorem g_iinstanceCopy {x:TInst} (h1:x.1.length≤1099511627776) (hl:x.2.1.length≤1073741824) (h:∀ f∈x.2.1,f.2.1.length≤1099511627776):G_iinstanceCopy x x:=M_iinstanceCopy _ _ (by
 unfold S_iinstanceCopy
 exact⟨_,g_slices_Clone_Relation h1,_,g_ifactsCopy hl h,rfl⟩)
def iAt (l:List Int) (i:Nat):Int:=l.getD i 0
theorem iAt_get {l:List Int} {i:Nat} (h:i<l.length):iAt l i=l[i]:=getD_at h
theorem cmpL_anti:∀ {x y:List Int},cmpL y x = - cmpL x y
 |[],[]=>rfl
 |[],b::y=>rfl
 |a::x,[]=>rfl
 | a::x,b::y=>by
   simp only[cmpL]
   have:=cmpL_anti (x:=x) (y:=y)
   split<;>split<;>first|omega|(rw[this])|skip
theorem cmpF_anti {x y:TFact}:cmpF y x = - cmpF x y:=by
 unfold cmpF
 have:=cmpL_anti (x:=x.2.1) (y:=y.2.1)
 split<;>split<;>first|omega|(rw[this])|skip
theorem asc_pw {l:List TFact}:asc l↔l.Pairwise fun a b=>cmpF a b<0:=by
 rw[List.pairwise_iff_getElem]
 exact⟨fun h i j hi hj hij=>h i j hj hij,fun h i j hj hij=>h i j (by omega) hj hij⟩
theorem pw_ext:∀ {a b:List TFact},(a.Pairwise fun a b=>cmpF a b<0)→(b.Pairwise fun a b=>cmpF a b<0)→(∀ y,y∈a↔y∈b)→a=b
 |[],[],_,_,_=>rfl
 |[],b::m,_,_,h=>absurd ((h b).mpr (by simp)) (by simp)
 |a::l,[],_,_,h=>absurd ((h a).mp (by simp)) (by simp)
 | a::l,b::m,h1,h2,h=>by
   rw[List.pairwise_cons]at h1 h2
   have hab:a=b:=by
    have ha:=(h a).mp (by simp)
    have hb:=(h b).mpr (by simp)
    rcases List.mem_cons.mp ha with e|ha
    · exact e
    · rcases List.mem_cons.mp hb with e|hb
      · exact e.symm
      · have q1:=h2.1 a ha
        have q2:=h1.1 b hb
        rw[cmpF_anti]at q1
        omega
   subst hab
   congr 1
   refine pw_ext h1.2 h2.2 fun y=>⟨fun hy=>?_,fun hy=>?_⟩
   · rcases List.mem_cons.mp ((h y).mp (by simp[hy]))with e|h'
     · subst e;have:=h1.1 y hy;rw[cmpF_zero.mpr rfl]at this;omega
     · exact h'
   · rcases List.mem_cons.mp ((h y).mpr (by simp[hy]))with e|h'
     · subst e;have:=h2.1 y hy;rw[cmpF_zero.mpr rfl]at this;omega
     · exact h'
theorem asc_ext {a b:List TFact} (h1:asc a) (h2:asc b) (h:∀ y,y∈a↔y∈b):a=b:=pw_ext (asc_pw.mp h1) (asc_pw.mp h2) h
def putK (l:List TFact) (f:TFact):Nat:=firstAt (fun t=>!decide (cmpF t f<0)) l
def putF (l:List TFact) (f:TFact):List TFact:=if f∈l then l else l.take (putK l f)++f::l.drop (putK l f)
theorem putF_mem {l:List TFact} {f y:TFact}:y∈putF l f↔y∈l∨y=f:=by
 unfold putF
 split
 · rename_i h
   exact⟨.inl,fun h'=>h'.elim id fun e=>e ▸ h⟩
 · have:y∈l↔y∈l.take (putK l f)∨y∈l.drop (putK l f):=by rw[←List.mem_append,List.take_append_drop]
   rw[this,List.mem_append,List.mem_cons]
   constructor
   · rintro (h|h|h)
     · exact .inl (.inl h)
     · exact .inr h
     · exact .inl (.inr h)
   · rintro ((h|h)|h)
     · exact .inl h
     · exact .inr (.inr h)
     · exact .inr (.inl h)
theorem putF_len {l:List TFact} {f:TFact}:(putF l f).length≤l.length+1:=by
 unfold putF
 split
 · omega
 · simp only[List.length_append,List.length_cons,List.length_take,List.length_drop];omega
theorem putF_asc {l:List TFact} {f:TFact} (h:asc l):asc (putF l f):=by
 unfold putF
 split
 · exact h
 rename_i hn
 have hp:=asc_pw.mp h
 rw[asc_pw]
 have e:l=l.take (putK l f)++l.drop (putK l f):=(List.take_append_drop _ _).symm
 rw[e]at hp
 rw[List.pairwise_append]at hp ⊢
 have h1:∀ a∈l.take (putK l f),cmpF a f<0:=by
  intro a ha
  obtain⟨i,hi,rfl⟩:=List.mem_iff_getElem.mp ha
  rw[List.length_take]at hi
  have:=firstAt_lt (p:=fun t=>!decide (cmpF t f<0)) (l:=l) (i:=i) (by omega) (show i<putK l f by omega)
  rw[List.getElem_take]
  simpa using this
 have h2:∀ a∈l.drop (putK l f),cmpF f a<0:=by
  intro a ha
  have hin:putK l f<l.length:=by
   rcases Nat.lt_or_ge (putK l f) l.length with h'|h'
   · exact h'
   · rw[List.drop_of_length_le h']at ha;simp at ha
  have h3:cmpF f l[putK l f]<0:=by
   have h4:=firstAt_at (p:=fun t=>!decide (cmpF t f<0)) (l:=l) hin
   have h4:¬ cmpF l[putK l f] f<0:=by have h4:(!decide (cmpF l[putK l f] f<0))=true:=h4;simpa using h4
   have h5:cmpF l[putK l f] f≠0:=fun e=>hn ((cmpF_zero.mp e) ▸ List.getElem_mem hin)
   rw[cmpF_anti];omega
  obtain⟨i,hi,rfl⟩:=List.mem_iff_getElem.mp ha
  rw[List.getElem_drop]
  rcases Nat.eq_zero_or_pos i with rfl|h0
  · simpa using h3
  · rw[List.length_drop]at hi
    exact cmpF_trans h3 (h _ _ (by omega) (by omega))
 refine⟨hp.1,List.pairwise_cons.mpr ⟨h2,hp.2.1⟩,fun a ha b hb=>?_⟩
 rcases List.mem_cons.mp hb with rfl|hb
 · exact h1 a ha
 · exact hp.2.2 a ha b hb
def facS (l:List TFact):List TFact:=l.foldl putF []
theorem foldF_asc:∀ {l m:List TFact},asc m→asc (l.foldl putF m)
 |[],m,h=>h
 |a::l,m,h=>foldF_asc (l:=l) (putF_asc h)
theorem foldF_mem:∀ {l m:List TFact} {y:TFact},y∈l.foldl putF m↔y∈m∨y∈l
 |[],m,y=>by simp
 | a::l,m,y=>by
   rw[List.foldl_cons,foldF_mem (l:=l),putF_mem,List.mem_cons]
   constructor
   · rintro ((h|h)|h)
     · exact .inl h
     · exact .inr (.inl h)
     · exact .inr (.inr h)
   · rintro (h|h|h)
     · exact .inl (.inl h)
     · exact .inl (.inr h)
     · exact .inr h
theorem foldF_len:∀ {l m:List TFact},(l.foldl putF m).length≤m.length+l.length
 |[],m=>by simp
 | a::l,m=>by
   have:=foldF_len (l:=l) (m:=putF m a)
   have:=putF_len (l:=m) (f:=a)
   rw[List.foldl_cons,List.length_cons];omega
theorem asc_nil:asc []:=fun i j hj _=>by simp at hj
theorem facS_asc (l:List TFact):asc (facS l):=foldF_asc asc_nil
theorem facS_mem {l:List TFact} {y:TFact}:y∈facS l↔y∈l:=by unfold facS;rw[foldF_mem];simp
theorem facS_of {a l:List TFact} (h1:asc a) (h2:∀ y,y∈a↔y∈l):a=facS l:=asc_ext h1 (facS_asc l) fun y=>by rw[h2,facS_mem]
theorem facS_app {l m:List TFact} (h:asc l):m.foldl putF l=facS (l++m):=facS_of (foldF_asc h) fun y=>by rw[foldF_mem,List.mem_append]
theorem facS_len {l:List TFact}:(facS l).length≤l.length:=by have:=foldF_len (l:=l) (m:=[]);simpa [facS]using this
def ddF (l:List TFact):Nat→List TFact
 |0=>[]
 |n+1=>if n=0∨factAt l n≠factAt l (n - 1)then ddF l n++[factAt l n] else ddF l n
theorem ddF_set {l:List TFact} (hs:l.Pairwise fun a b=>cmpF a b≤0):∀ {n:Nat},n≤l.length→asc (ddF l n)∧∀ y,y∈ddF l n↔y∈l.take n
 |0,_=>⟨asc_nil,fun y=>by simp[ddF]⟩
 | n+1,h=>by
   obtain⟨h1,h2⟩:=ddF_set hs (n:=n) (by omega)
   have hn:n<l.length:=by omega
   unfold ddF
   rw[take_succ_snoc hn,factAt_get hn]
   have hle:∀ i j (hj:j<l.length) (hij:i<j),cmpF (l[i]'(by omega)) l[j]≤0:=fun i j hj hij=>List.pairwise_iff_getElem.mp hs i j (by omega) hj hij
   split
   · rename_i hc
     refine⟨?_,fun y=>by rw[List.mem_append,List.mem_append,h2]⟩
     rw[asc_pw,List.pairwise_append]
     refine⟨asc_pw.mp h1,by simp,fun a ha b hb=>?_⟩
     obtain rfl:b=l[n]:=by simpa using hb
     obtain⟨i,hi,rfl⟩:=List.mem_iff_getElem.mp ((h2 a).mp ha)
     rw[List.length_take]at hi
     rw[List.getElem_take]
     rcases hc with hc|hc
     · omega
     · rw[factAt_get (by omega)]at hc
       have g1:=hle (n - 1) n hn (by omega)
       have g2:cmpF l[n - 1] l[n]≠0:=fun e=>hc (cmpF_zero.mp e).symm
       rcases Nat.lt_or_ge i (n - 1)with h'|h'
       · have g3:=hle i (n - 1) (by omega) h'
         by_cases h0:cmpF l[i] l[n - 1]=0
         · rw[cmpF_zero.mp h0];omega
         · exact cmpF_trans (by omega:cmpF l[i] l[n - 1]<0) (by omega)
       · have:i=n - 1:=by omega
         subst this;omega
   · rename_i hc
     refine⟨h1,fun y=>?_⟩
     rw[h2,List.mem_append]
     refine⟨.inl,fun h'=>h'.elim id fun e=>?_⟩
     have h0:n≠0:=fun e=>hc (.inl e)
     have he:l[n]=factAt l (n - 1):=Classical.byContradiction fun h=>hc (.inr h)
     rw[factAt_get (by omega)]at he
     have:y=l[n - 1]:=by simpa [he]using e
     subst this
     exact List.mem_iff_getElem.mpr ⟨n - 1,by rw[List.length_take];omega,by rw[List.getElem_take]⟩
def subAt (s:TSub) (i:Nat):Bool:=inR (iAt s.1 i) 0 39&&(i == 0||decide (iAt s.1 (i - 1)<iAt s.1 i))&&vVal (iAt s.2.1 i)
def vSub (s:TSub):Bool:=(s.1.length == s.2.1.length)&&(List.range s.1.length).all (subAt s)
theorem vSub_len {s:TSub} (h:vSub s=true):s.1.length=s.2.1.length:=by unfold vSub at h;simp only[Bool.and_eq_true,beq_iff_eq]at h;exact h.1
theorem vSub_at {s:TSub} (h:vSub s=true) {i:Nat} (hi:i<s.1.length):subAt s i=true:=by
 unfold vSub at h
 rw[Bool.and_eq_true]at h
 exact List.all_eq_true.mp h.2 i (List.mem_range.mpr hi)
theorem vSub_nul {s:TSub} (h:vSub s=true) {k:Int} (hk:k∈s.1):0≤k∧k≤39:=by
 obtain⟨i,hi,rfl⟩:=List.mem_iff_getElem.mp hk
 have:=vSub_at h hi
 unfold subAt at this
 rw[iAt_get hi]at this
 simp only[Bool.and_eq_true]at this
 exact inR_iff.mp this.1.1
theorem vSub_no {s:TSub} {i:Nat} (hi:i<s.1.length) (h:subAt s i=false):vSub s=false:=by
 rw[Bool.eq_false_iff]
 intro h'
 rw[vSub_at h' hi]at h;cases h
theorem vSub_yes {s:TSub} (hl:s.1.length=s.2.1.length) (h:∀ i,i<s.1.length→subAt s i=true):vSub s=true:=by
 unfold vSub
 rw[List.all_eq_true.mpr fun i hi=>h i (List.mem_range.mp hi)]
 simp[hl]
def subV (s:TSub) (v:Int):Int:=if vSub s then(if firstAt (fun k=>decide (-1 - k=v)) s.1<s.1.length then iAt s.2.1 (firstAt (fun k=>decide (-1 - k=v)) s.1)else v)else v
def subF (s:TSub) (f:TFact):TFact:=(f.1,(f.2.1.map (subV s),()))
def subI (s:TSub) (x:TInst):TInst:=(x.1,(facS (x.2.1.map (subF s)),()))
def appI (s:TSub) (x:TInst):TInst:=if vSub s&&vInst x then subI s x else([],([],()))
theorem subI_len {s:TSub} {x:TInst}:(subI s x).2.1.length≤x.2.1.length:=by
 unfold subI
 have:=facS_len (l:=x.2.1.map (subF s))
 simpa using this
theorem subAt_split {s:TSub} {i:Nat} (hi:i<s.1.length) (h1:inR s.1[i] 0 39=true) (h2:0<i→iAt s.1 (i - 1)<s.1[i]):subAt s i=vVal (iAt s.2.1 i):=by
 unfold subAt
 rw[iAt_get hi,h1]
 have:(i == 0||decide (iAt s.1 (i - 1)<s.1[i]))=true:=by
  rcases Nat.eq_zero_or_pos i with h|h
  · simp[h]
  · rw[decide_eq_true (h2 h)];simp
 rw[this];rfl
theorem subAt_no1 {s:TSub} {i:Nat} (hi:i<s.1.length) (h:inR s.1[i] 0 39=false):subAt s i=false:=by
 unfold subAt;rw[iAt_get hi,h];rfl
theorem subAt_no2 {s:TSub} {i:Nat} (hi:i<s.1.length) (h0:0<i) (h:s.1[i]≤s.1[i - 1]):subAt s i=false:=by
 unfold subAt
 rw[iAt_get hi,iAt_get (by omega),decide_eq_false (by omega)]
 have:(i == 0)=false:=by simp;omega
 rw[this];simp
theorem g_sIsValidSubstitution {s:TSub}:G_sIsValidSubstitution s (vSub s):=M_sIsValidSubstitution _ _ (by
 unfold S_sIsValidSubstitution
 have no:vSub s=false→((false,()):Bool×Unit)=(vSub s,()):=fun h=>by rw[h]
 refine lenI fun _=>lenI fun _=>bc_ne (fun h=>no (by unfold vSub;rw[beq_eq_false_iff_ne.mpr (by omega)];rfl)) (fun hl=>?_)
 have hl:s.1.length=s.2.1.length:=by omega
 refine loop_anyI s.1.length (fun i=>!subAt s i) (fun i=>((i:Int),())) (KT:=vSub s=false) (KF:=vSub s=true) ?_ ?_ ?_ ?_
 · intro i hi X hb q1 q2
   have qn:subAt s i=false→((false,()):Bool×Unit)=(vSub s,()):=fun h=>no (q1 (by rw[h];rfl))
   have qy:subAt s i=true→X (((i+1:Nat):Int),()):=fun h=>q2 (by rw[h];rfl)
   have hi':i<s.2.1.length:=by omega
   refine lenI fun hlen=>bcI hi (inI hi ⟨_,g_sl1In,?_⟩)
   simp only
   rw[getI hi,w64_succ (by omega)]
   refine bc_not (fun h=>qn (subAt_no1 hi h)) (fun h1=>bc_dec (fun h0=>?_) (fun h0=>inI hi' ⟨_,g_sIsValidValue,?_⟩))
   · have hw:w64 ((i:Int) - 1)=((i - 1:Nat):Int):=by rw[w64_id (by omega) (by omega)];omega
     have hj:i - 1<s.1.length:=by omega
     rw[hw]
     refine inI hi (inI hj ?_)
     rw[getI hj]
     refine bc_dec (fun h=>qn (subAt_no2 hi (by omega) h)) (fun h=>inI hi' ⟨_,g_sIsValidValue,?_⟩)
     rw[getI hi']
     have e:=subAt_split hi h1 (fun _=>by rw[iAt_get hj];omega)
     rw[iAt_get hi']at e
     exact bc_not (fun h=>qn (e.trans h)) (fun h=>qy (e.trans h))
   · rw[getI hi']
     have e:=subAt_split hi h1 (fun _=>by omega)
     rw[iAt_get hi']at e
     exact bc_not (fun h=>qn (e.trans h)) (fun h=>qy (e.trans h))
 · intro X h
   exact lenI fun _=>bcN (by rw[h])
 · rintro⟨i,hi,hp⟩;exact vSub_no hi (nt hp)
 · intro h;exact vSub_yes hl fun i hi=>nf (h i hi))
theorem g_iIsValidSubstitution {s:TSub}:G_iIsValidSubstitution s (vSub s):=M_iIsValidSubstitution _ _ (by
 unfold S_iIsValidSubstitution
 have no:vSub s=false→((false,()):Bool×Unit)=(vSub s,()):=fun h=>by rw[h]
 refine lenI fun _=>lenI fun _=>bc_ne (fun h=>no (by unfold vSub;rw[beq_eq_false_iff_ne.mpr (by omega)];rfl)) (fun hl=>lenI fun _=>?_)
 have hl:s.1.length=s.2.1.length:=by omega
 refine loop_anyI s.1.length (fun i=>!subAt s i) (fun i=>((i:Int),())) (KT:=vSub s=false) (KF:=vSub s=true) ?_ ?_ ?_ ?_
 · intro i hi X hb q1 q2
   have qn:subAt s i=false→((false,()):Bool×Unit)=(vSub s,()):=fun h=>no (q1 (by rw[h];rfl))
   have qy:subAt s i=true→X (((i+1:Nat):Int),()):=fun h=>q2 (by rw[h];rfl)
   have hi':i<s.2.1.length:=by omega
   refine bcI hi (inI hi ⟨_,g_iwithin,?_⟩)
   simp only
   rw[getI hi,w64_succ (by omega)]
   refine bc_not (fun h=>qn (subAt_no1 hi h)) (fun h1=>bc_dec (fun h0=>?_) (fun h0=>inI hi' ⟨_,g_iIsValidValue,?_⟩))
   · have hw:w64 ((i:Int) - 1)=((i - 1:Nat):Int):=by rw[w64_id (by omega) (by omega)];omega
     have hj:i - 1<s.1.length:=by omega
     rw[hw]
     refine inI hj ?_
     rw[getI hj]
     refine bc_dec (fun h=>qn (subAt_no2 hi (by omega) h)) (fun h=>inI hi' ⟨_,g_iIsValidValue,?_⟩)
     rw[getI hi']
     have e:=subAt_split hi h1 (fun _=>by rw[iAt_get hj];omega)
     rw[iAt_get hi']at e
     exact bc_not (fun h=>qn (e.trans h)) (fun h=>qy (e.trans h))
   · rw[getI hi']
     have e:=subAt_split hi h1 (fun _=>by omega)
     rw[iAt_get hi']at e
     exact bc_not (fun h=>qn (e.trans h)) (fun h=>qy (e.trans h))
 · intro X h
   exact bcN (by rw[h])
 · rintro⟨i,hi,hp⟩;exact vSub_no hi (nt hp)
 · intro h;exact vSub_yes hl fun i hi=>nf (h i hi))
theorem subV_no {s:TSub} {v:Int} (h:vSub s=false):subV s v=v:=by unfold subV;rw[h];rfl
theorem g_sApplyToValue {s:TSub} {v:Int}:G_sApplyToValue s v (subV s v):=M_sApplyToValue _ _ _ (by
 unfold S_sApplyToValue
 refine loop_first s.1 (fun k=>decide (-1 - k=v)) (fun i=>((i:Int),())) (KT:=fun i=>vSub s=true→((iAt s.2.1 i,()):Int×Unit)=(subV s v,())) (KF:=vSub s=true→((v,()):Int×Unit)=(subV s v,())) ?_ ?_ ?_ ?_
 · intro i hi X h1 h2
   refine lenI fun _=>bcI hi ⟨_,g_sIsValidSubstitution,bc_if (fun hv=>inI hi ⟨-1 - s.1[i],?_,?_⟩) (fun hv=>by rw[subV_no hv])⟩
   · simp only
     rw[getI hi]
     have:=vSub_nul hv (List.getElem_mem hi)
     exact g_sNullValue (by omega) (by omega)
   · simp only
     rw[w64_succ (by omega)]
     have hl:=vSub_len hv
     have hi':i<s.2.1.length:=by omega
     refine bc_beq (fun h=>inI hi' ?_) (fun h=>h2 (decide_eq_false h))
     rw[getI hi',←iAt_get hi']
     exact h1 (decide_eq_true h) hv
 · intro X h
   refine lenI fun _=>bcN ?_
   by_cases hv:vSub s=true
   · exact h hv
   · rw[subV_no (by simpa using hv)]
 · intro h hv;unfold subV;rw[hv,if_pos rfl,if_pos h]
 · intro h hv;unfold subV;rw[hv,if_pos rfl,if_neg (by omega)])
theorem firstAt_congr {α:Type} {p q:α→Bool}:∀ {l:List α},(∀ a∈l,p a=q a)→firstAt p l=firstAt q l
 |[],_=>rfl
 | a::l,h=>by
   unfold firstAt
   rw[h a (by simp),firstAt_congr (l:=l) fun b hb=>h b (by simp[hb])]
theorem g_iApplyToValue {s:TSub} {v:Int}:G_iApplyToValue s v (subV s v):=M_iApplyToValue _ _ _ (by
 unfold S_iApplyToValue
 refine⟨_,_,g_iNullNumber,_,g_slices_Index_int,bc_not (fun hn=>?_) (fun hn=>?_)⟩
 · by_cases hv:vSub s=true
   · unfold subV
     rw[hv,if_pos rfl,if_neg]
     intro h
     have:=firstAt_at h
     simp only[decide_eq_true_eq]at this
     have h2:=vSub_nul hv (List.getElem_mem h)
     rw[isNul_iff.mpr ⟨by omega,by omega⟩]at hn;cases hn
   · rw[subV_no (by simpa using hv)]
 · have hk:nulNo v = -1 - v:=by unfold nulNo;rw[if_pos hn]
   have e:firstAt (fun k=>decide (-1 - k=v)) s.1=firstAt (fun t=>nulNo v == t) s.1:=firstAt_congr fun k _=>by
    rw[hk,Bool.eq_iff_iff];simp;omega
   refine bc_dec (fun h=>?_) (fun h=>⟨_,g_iIsValidSubstitution,bc_not (fun hv=>by rw[subV_no hv]) (fun hv=>?_)⟩)
   · by_cases hv:vSub s=true
     · unfold subV
       rw[hv,if_pos rfl,e]
       rw[if_neg]
       intro h'
       rw[if_pos h']at h
       omega
     · rw[subV_no (by simpa using hv)]
   · have hl:=vSub_len hv
     have hlt:firstAt (fun t=>nulNo v == t) s.1<s.1.length:=by
      rcases Nat.lt_or_ge (firstAt (fun t=>nulNo v == t) s.1) s.1.length with h'|h'
      · exact h'
      · rw[if_neg (by omega)]at h;omega
     have hlt2:firstAt (fun t=>nulNo v == t) s.1<s.2.1.length:=by omega
     rw[if_pos hlt]
     refine inI hlt2 ?_
     rw[getI hlt2,←iAt_get hlt2]
     unfold subV
     rw[hv,if_pos rfl,e,if_pos hlt])
theorem g_sApplyToFact {s:TSub} {f:TFact} (hl:f.2.1.length≤1000):G_sApplyToFact s f (subF s f):=M_sApplyToFact _ _ _ (by
 unfold S_sApplyToFact
 refine loopP_of f.2.1.length (fun i=>((i:Int),((f.1,((f.2.1.take i).map (subV s),())),()))) (by simp) ?_ ?_
 · intro i hi X hX
   refine lenI fun _=>bcI hi (inI hi ⟨_,g_sApplyToValue,?_,?_⟩)
   · simp only[maxL,List.length_map,List.length_take,List.length_cons,List.length_nil];omega
   · simp only
     rw[getI hi,w64_succ (by omega)]
     rw[take_succ_snoc hi,List.map_append]at hX
     exact hX
 · intro X
   refine lenI fun _=>bcN ?_
   simp only[List.take_length]
   rfl)
theorem map_set {α:Type} {g:α→α} {l:List α} {i:Nat} (hi:i<l.length):((l.take i).map g++l.drop i).set i (g l[i])=(l.take (i+1)).map g++l.drop (i+1):=by
 have h:((l.take i).map g).length=i:=by simp;omega
 rw[List.set_append,if_neg (by omega),h,Nat.sub_self,drop_cons hi,List.set_cons_zero,take_succ_snoc hi,List.map_append,List.append_assoc];rfl
theorem g_iApplyToFact {s:TSub} {f:TFact} (hl:f.2.1.length≤1000):G_iApplyToFact s f (subF s f):=M_iApplyToFact _ _ _ (by
 unfold S_iApplyToFact
 refine⟨f,g_ifactCopy (by omega),lenI fun _=>?_⟩
 refine loopP_of f.2.1.length (fun i=>((i:Int),((f.1,((f.2.1.take i).map (subV s)++f.2.1.drop i,())),()))) (by simp) ?_ ?_
 · intro i hi X hX
   refine bcI hi (inI hi ⟨_,g_iApplyToValue,⟨by omega,?_⟩,?_⟩)
   · simp only[List.length_append,List.length_map,List.length_take,List.length_drop];omega
   · simp only
     rw[getI hi,w64_succ (by omega),Int.toNat_natCast,map_set hi]
     exact hX
 · intro X
   refine bcN ?_
   simp only[List.take_length,List.drop_length,List.append_nil]
   rfl)
theorem g_sl5Put {x:TInst} {f:TFact} (h1:x.2.1.length≤1000) (h2:f.2.1.length≤1000):G_sl5Put x f (x.1,(putF x.2.1 f,())):=M_sl5Put _ _ _ (by
 unfold S_sl5Put
 refine⟨_,g_sl5Place,?_⟩
 rw[place_ge]
 refine bc_dec (fun h=>by unfold putF;rw[if_pos h]) (fun hn=>?_)
 have hle:putK x.2.1 f≤x.2.1.length:=firstAt_le _ _
 have key:∀ i:Nat,i=putK x.2.1 f→((0:Int)≤(i:Int)∧(i:Int)≤(x.2.1.length:Int)∧(x.2.1.length:Int)≤(x.2.1.length:Int))∧((([f]:List TFact)).length+(List.drop (Int.toNat (i:Int)) (List.take (Int.toNat (x.2.1.length:Int)) x.2.1)).length≤maxL)∧
   (([]:List TFact)++List.drop (Int.toNat (0:Int)) (List.take (Int.toNat (i:Int)) x.2.1))++([f]++List.drop (Int.toNat (i:Int)) (List.take (Int.toNat (x.2.1.length:Int)) x.2.1))=putF x.2.1 f∧
   ([]:List TFact).length+(List.drop (Int.toNat (0:Int)) (List.take (Int.toNat (i:Int)) x.2.1)).length≤maxL∧
   (([]:List TFact)++List.drop (Int.toNat (0:Int)) (List.take (Int.toNat (i:Int)) x.2.1)).length+([f]++List.drop (Int.toNat (i:Int)) (List.take (Int.toNat (x.2.1.length:Int)) x.2.1)).length≤maxL:=by
  rintro i rfl
  simp only[Int.toNat_natCast,Int.toNat_zero,List.drop_zero,List.nil_append,List.take_length,maxL,List.length_cons,List.length_nil,List.length_append,List.length_drop,List.length_take]
  refine⟨⟨by omega,by omega,by omega⟩,by omega,?_,by omega,by omega⟩
  unfold putF
  rw[if_neg hn];rfl
 refine loop_first x.2.1 (fun t=>!decide (cmpF t f<0)) (fun i=>((i:Int),())) (KT:=fun i=>i=putK x.2.1 f) (KF:=putK x.2.1 f=x.2.1.length) ?_ ?_ (fun _=>rfl) (fun h=>by unfold putK;have:=firstAt_le (fun t=>!decide (cmpF t f<0)) x.2.1;omega)
 · intro i hi X q1 q2
   refine lenI fun _=>bcI hi (inI hi ⟨_,g_sCompareFacts,?_⟩)
   simp only
   rw[getI hi,w64_succ (by omega)]
   refine bc_dec (fun h=>q2 (by rw[decide_eq_true h];rfl)) (fun h=>?_)
   obtain⟨k1,k2,k3,k4,k5⟩:=key i (q1 (by rw[decide_eq_false h];rfl))
   refine⟨k1,f,g_sl5Fact (by omega),k2,⟨by omega,by omega,by omega⟩,k4,k5,?_⟩
   show((x.1,((([]:List TFact)++List.drop (Int.toNat (0:Int)) (List.take (Int.toNat (i:Int)) x.2.1))++([f]++List.drop (Int.toNat (i:Int)) (List.take (Int.toNat (x.2.1.length:Int)) x.2.1)),())),())=((x.1,(putF x.2.1 f,())),())
   rw[k3]
 · intro X h
   obtain⟨k1,k2,k3,k4,k5⟩:=key x.2.1.length h.symm
   refine lenI fun _=>bcN ⟨k1,f,g_sl5Fact (by omega),k2,⟨by omega,by simp only;omega,by simp only;omega⟩,k4,k5,?_⟩
   show((x.1,((([]:List TFact)++List.drop (Int.toNat (0:Int)) (List.take (Int.toNat (x.2.1.length:Int)) x.2.1))++([f]++List.drop (Int.toNat (x.2.1.length:Int)) (List.take (Int.toNat (x.2.1.length:Int)) x.2.1)),())),())=((x.1,(putF x.2.1 f,())),())
   rw[k3])
theorem g_sApplyToInstance {s:TSub} {x:TInst}:G_sApplyToInstance s x (appI s x) (vSub s&&vInst x):=M_sApplyToInstance _ _ _ _ (by
 unfold S_sApplyToInstance
 refine⟨_,g_sIsValidSubstitution,bc_not (fun h=>by unfold appI;rw[h];rfl) (fun h1=>⟨_,g_sIsValidInstance,bc_not (fun h=>by unfold appI;rw[h1,h];rfl) (fun h2=>?_)⟩)⟩
 have hr:=vRels_len (vInst_rels h2)
 have hf:=vInst_len h2
 refine⟨by simp only[maxL,List.length_nil];omega,?_⟩
 rw[List.nil_append]
 have hlen:∀ i,((x.2.1.take i).map (subF s)).foldl putF []=facS ((x.2.1.take i).map (subF s)):=fun i=>rfl
 have hfl:∀ i,(facS ((x.2.1.take i).map (subF s))).length≤30:=fun i=>by
  have:=facS_len (l:=(x.2.1.take i).map (subF s))
  rw[List.length_map,List.length_take]at this
  omega
 have hrow:∀ f∈x.2.1,(subF s f).2.1.length≤3:=fun f hm=>by
  have:=(vRow_spec (vInst_fact h2 hm)).2.2.2.2.1
  unfold subF;simpa using this
 refine loopP_of x.2.1.length (fun i=>((i:Int),((x.1,(facS ((x.2.1.take i).map (subF s)),())),()))) (by simp[facS]) ?_ ?_
 · intro i hi X hX
   have:=hfl i
   have h3:=hrow _ (List.getElem_mem hi)
   have h4:=(vRow_spec (vInst_fact h2 (List.getElem_mem hi))).2.2.2.2.1
   refine lenI fun _=>bcI hi (inI hi ⟨subF s x.2.1[i],?_,_,g_sl5Put (by simp only;omega) (by simp only;omega),?_⟩)
   · simp only;rw[getI hi];exact g_sApplyToFact (by omega)
   · simp only
     rw[w64_succ (by omega)]
     rw[take_succ_snoc hi,List.map_append]at hX
     unfold facS at hX ⊢
     rw[List.foldl_append]at hX
     exact hX
 · intro X
   have h5:=hfl x.2.1.length
   refine lenI fun _=>bcN ⟨_,g_sl5Copy (by simp only;omega) (by simp only;omega) (fun f hm=>?_),?_⟩
   · have hm:f∈facS ((x.2.1.take x.2.1.length).map (subF s)):=hm
     obtain⟨g,hg,rfl⟩:=List.mem_map.mp (facS_mem.mp hm)
     have:=hrow g (List.mem_of_mem_take hg)
     omega
   · simp only[List.take_length]
     unfold appI subI
     rw[h1,h2];rfl)
theorem g_sNextNull {x:TInst}:G_sNextNull x (nextN x):=M_sNextNull _ _ (by
 unfold S_sNextNull
 have hf:=nulI_few x
 refine⟨_,g_sNullsOfInstance,lenI fun _=>bc_beq (fun h=>?_) (fun h=>lenI fun _=>?_)⟩
 · have:nulI x=[]:=List.length_eq_zero_iff.mp (by omega)
   unfold nextN;rw[this];rfl
 · have hw:w64 ((nulI x).length - 1:Int)=(((nulI x).length - 1:Nat):Int):=by rw[w64_id (by omega) (by omega)];omega
   rw[hw]
   have hlt:(nulI x).length - 1<(nulI x).length:=by omega
   refine inI hlt ?_
   rw[getI hlt]
   have hne:nulI x≠[]:=by intro e;rw[e]at h;simp at h
   have hr:0≤(nulI x)[(nulI x).length - 1]∧(nulI x)[(nulI x).length - 1]<0+(40:Nat):=by
    have:=nulls_range (l:=x.2.1.flatMap (·.2.1)) ((nulI x)[(nulI x).length - 1]) (by rw[nulls_flat];exact List.getElem_mem hlt)
    exact this
   rw[w64_id (by omega) (by omega)]
   unfold nextN
   rw[List.getLast?_eq_some_getLast hne,List.getLast_eq_getElem])
abbrev zTF:TTok TFact:=zTk (zcells (.pair (.int .i64) (.pair (.sl 3 (.int .i64)) .unit))) zFact
def tkAt (l:List (TTok TFact)) (i:Nat):TTok TFact:=l.getD i zTF
theorem tkAt_get {l:List (TTok TFact)} {i:Nat} (h:i<l.length):tkAt l i=l[i]:=getD_at h
def ddT (l:List (TTok TFact)):Nat→List (TTok TFact)
 |0=>[]
 |n+1=>if n=0∨(tkAt l n).2≠(tkAt l (n - 1)).2 then ddT l n++[tkAt l n] else ddT l n
theorem ddT_all {l:List (TTok TFact)}:∀ {n:Nat},n≤l.length→(∀ i,1≤i→i<n→(tkAt l i).2≠(tkAt l (i - 1)).2)→ddT l n=l.take n
 |0,_,_=>by simp[ddT]
 | n+1,h,hi=>by
   unfold ddT
   rw[ddT_all (n:=n) (by omega) fun i h1 h2=>hi i h1 (by omega),take_succ_snoc (by omega)]
   rw[if_pos,tkAt_get (by omega)]
   rcases Nat.eq_zero_or_pos n with h0|h0
   · exact .inl h0
   · exact .inr (hi n (by omega) (by omega))
theorem ddT_sub {l:List (TTok TFact)}:∀ {n:Nat},n≤l.length→(ddT l n).Sublist (l.take n)
 |0,_=>by simp[ddT]
 | n+1,h=>by
   have:=ddT_sub (l:=l) (n:=n) (by omega)
   unfold ddT
   rw[take_succ_snoc (by omega)]
   split
   · rw[tkAt_get (by omega)];exact this.append_right _
   · exact this.trans (List.sublist_append_left _ _)
theorem tkAt_map {l:List (TTok TFact)} {i:Nat}:factAt (l.map (·.2)) i=(tkAt l i).2:=by
 unfold factAt tkAt
 rw[List.getD_eq_getElem?_getD,List.getD_eq_getElem?_getD,List.getElem?_map]
 cases l[i]?<;>rfl
theorem ddT_map {l:List (TTok TFact)}:∀ {n:Nat},(ddT l n).map (·.2)=ddF (l.map (·.2)) n
 |0=>rfl
 | n+1=>by
   unfold ddT ddF
   rw[tkAt_map,tkAt_map]
   split
   · rw[List.map_append,ddT_map];rfl
   · exact ddT_map
theorem g_tcomp {l:List (TTok TFact)} (hl:l.length≤1000):G_slices_CompactFunc_Fact_tok_c_isameFact l () (ddT l l.length):=M_slices_CompactFunc_Fact_tok_c_isameFact _ _ _ (by
 unfold S_slices_CompactFunc_Fact_tok_c_isameFact
 refine lenI fun _=>bc_dec (fun h=>?_) (fun h=>?_)
 · rw[ddT_all (Nat.le_refl _) (fun i h1 h2=>by omega),List.take_length]
 refine loopP_down (fun k a=>∃ i:Nat,i+k=l.length∧1≤i∧a=((i:Int),(l,()))∧∀ j,1≤j→j<i→(tkAt l j).2≠(tkAt l (j - 1)).2) ?_ ?_ (n:=l.length - 1) ⟨1,by omega,by omega,rfl,fun j h1 h2=>by omega⟩
 · rintro a ⟨i,hi,h1,rfl,hn⟩ X
   obtain rfl:i=l.length:=by omega
   refine lenI fun _=>bcN ?_
   rw[ddT_all (Nat.le_refl _) hn,List.take_length]
 · rintro k a ⟨i,hi,h1,rfl,hn⟩ X hX
   have hlt:i<l.length:=by omega
   have hw:w64 ((i:Int) - 1)=((i - 1:Nat):Int):=by rw[w64_id (by omega) (by omega)];omega
   have hj:i - 1<l.length:=by omega
   refine lenI fun _=>bcI hlt (inI hlt ?_)
   simp only
   rw[hw]
   refine inI hj ⟨_,K_isameFact_tok _ _ _ g_isameFact,?_⟩
   rw[getI hlt,getI hj,w64_succ (by omega)]
   refine bc_dec (fun h=>?_) (fun h=>hX _ ⟨i+1,by omega,by omega,rfl,fun j q1 q2=>?_⟩)
   · refine⟨⟨by omega,by omega,by omega,by omega⟩,?_⟩
     have hbase:ddT l (i+1)=l.take i:=by
      unfold ddT
      rw[if_neg,ddT_all (by omega) hn]
      rw[tkAt_get hlt,tkAt_get hj,h]
      rintro (h|h)
      · omega
      · exact h rfl
     simp only[Int.toNat_natCast]
     refine loopP_down (fun k a=>∃(p q:Nat) (L:List (TTok TFact)),q+k=l.length - i∧1≤q∧a=((p:Int),((q:Int),(L,())))∧L.length=l.length∧p+1≤i+q∧L.take p=ddT l (i+q)∧L.drop (i+q - 1)=l.drop (i+q - 1)) ?_ ?_ (n:=l.length - i - 1) ⟨i,1,l,by omega,by omega,rfl,rfl,by omega,hbase.symm,rfl⟩
     · rintro a ⟨p,q,L,hq,hq1,rfl,hL,hp,e1,e2⟩ Y
       obtain rfl:q=l.length - i:=by omega
       rw[show i+(l.length - i)=l.length by omega]at e1
       have ht:(L.take p).length=p:=by rw[List.length_take];omega
       refine lenI fun _=>bcN ⟨⟨by omega,by simp only;omega,by omega,by simp only;omega⟩,by simp only[Int.toNat_natCast];omega,⟨by omega,by omega,?_,?_⟩,?_⟩
       · simp only[List.length_append,Int.toNat_natCast,ht];omega
       · simp only[List.length_append,List.length_replicate,Int.toNat_natCast,ht];omega
       · rw[Int.toNat_natCast,List.take_left' ht,e1]
     · rintro k a ⟨p,q,L,hq,hq1,rfl,hL,hp,e1,e2⟩ Y hY
       have hlq:i+q<l.length:=by omega
       have hg:∀ j,i+q - 1≤j→j<l.length→L.getD j zTF=tkAt l j:=by
        intro j g1 g2
        have e3:=congrArg (fun m=>m.getD (j - (i+q - 1)) zTF) e2
        simp only[List.getD_eq_getElem?_getD,List.getElem?_drop]at e3
        rw[show i+q - 1+(j - (i+q - 1))=j by omega]at e3
        unfold tkAt
        simpa [List.getD_eq_getElem?_getD]using e3
       have hwq:w64 ((q:Int) - 1)=((q - 1:Nat):Int):=by rw[w64_id (by omega) (by omega)];omega
       have hdd:L.drop (i+q)=l.drop (i+q):=by
        have:=congrArg (List.drop 1) e2
        rw[List.drop_drop,List.drop_drop,show i+q - 1+1=i+q by omega]at this
        exact this
       refine lenI fun _=>bcI (by omega) (inI (by omega) ?_)
       simp only
       rw[hwq]
       refine inI (by omega) ⟨_,K_isameFact_tok _ _ _ g_isameFact,?_⟩
       rw[Int.toNat_natCast,Int.toNat_natCast,hg (i+q) (by omega) hlq,show i+(q - 1)=i+q - 1 by omega,hg (i+q - 1) (by omega) (by omega),w64_succ (by omega),w64_succ (by omega)]
       refine bc_nd (fun h5=>inI (by omega) ⟨⟨by omega,by omega⟩,?_⟩) (fun h5=>?_)
       · refine hY _ ⟨p+1,q+1,_,by omega,by omega,rfl,by rw[List.length_set];exact hL,by omega,?_,?_⟩
         · rw[show i+(q+1)=(i+q)+1 by omega]
           unfold ddT
           rw[if_pos (.inr h5),←e1,Int.toNat_natCast,List.take_set,take_succ_snoc (show p<L.length by omega),List.set_append]
           simp[List.length_take,Nat.min_eq_left (show p≤L.length by omega)]
         · rw[show i+(q+1) - 1=i+q by omega,←hdd,Int.toNat_natCast,List.drop_set_of_lt (by omega)]
       · refine hY _ ⟨p,q+1,L,by omega,by omega,rfl,hL,by omega,?_,by rw[show i+(q+1) - 1=i+q by omega];exact hdd⟩
         rw[show i+(q+1)=(i+q)+1 by omega]
         unfold ddT
         rw[if_neg,e1]
         rintro (h6|h6)
         · omega
         · exact h6 h5
   · by_cases hji:j=i
     · subst hji;rw[tkAt_get hlt,tkAt_get hj];exact h
     · exact hn j q1 (by omega))
theorem g_icompF {l:List TFact} (hl:l.length≤1000):G_slices_CompactFunc_Fact_oopzpozz_c_isameFact l () (ddF l l.length):=K_slices_CompactFunc_Fact_oopzpozz_c_isameFact _ _ _ fun xs hx=>by
 subst hx
 rw[List.length_map]at hl ⊢
 refine⟨ddT xs xs.length,?_,ddT_map,g_tcomp hl⟩
 have:=ddT_sub (l:=xs) (Nat.le_refl _)
 rwa [List.take_length]at this
theorem g_iIsNull {v:Int}:G_iIsNull v (decide (v<0)):=M_iIsNull _ _ (by unfold S_iIsNull;rfl)
theorem ltF {x y:TFact}:Go.Proofs.ltOf cmpF x y=decide (cmpF x y<0):=rfl
theorem swoF:Go.Sort.SWO (Go.Proofs.ltOf cmpF):=by
 refine⟨fun x=>?_,fun x y z h1 h2=>?_,fun x y z h1 h2=>?_⟩
 · rw[ltF,cmpF_zero.mpr rfl];rfl
 · rw[ltF,decide_eq_true_eq]at h1 h2 ⊢;exact cmpF_trans h1 h2
 · rw[ltF,decide_eq_false_iff_not]at h1 h2 ⊢
   intro h3
   by_cases h4:cmpF x y=0
   · obtain rfl:=cmpF_zero.mp h4
     exact h2 h3
   · have h5:cmpF y x<0:=by rw[cmpF_anti];omega
     exact h2 (cmpF_trans h5 h3)
theorem totF {x y:TFact} (h1:Go.Proofs.ltOf cmpF x y=false) (h2:Go.Proofs.ltOf cmpF y x=false):x=y:=by
 rw[ltF,decide_eq_false_iff_not]at h1 h2
 rw[cmpF_anti]at h2
 exact cmpF_zero.mp (by omega)
theorem g_isortF {l:List TFact} (h:l.length≤1000):G_slices_SortFunc_Fact_oopzpozz_c_iCompareFacts l () (sortL cmpF l):=prim_sortF (fun a b=>g_iCompareFacts) swoF (fun _ _=>totF) (by omega)
theorem sortF_pw (l:List TFact):(sortL cmpF l).Pairwise fun a b=>cmpF a b≤0:=by
 have:=List.pairwise_mergeSort (le:=fun a b=>!(decide (cmpF b a<0))) (fun a b c h1 h2=>by
  simp only[Bool.not_eq_true',decide_eq_false_iff_not]at h1 h2 ⊢
  intro h3
  rw[cmpF_anti]at h1 h2
  by_cases h4:cmpF a b=0
  · rw[cmpF_zero.mp h4]at h3;rw[cmpF_anti]at h3;omega
  · have:=cmpF_trans h3 (by omega:cmpF a b<0);rw[cmpF_anti]at this;omega) (fun a b=>by
  rw[cmpF_anti (x:=a) (y:=b)]
  simp
  omega) l
 refine List.Pairwise.imp (fun h=>?_) this
 simp only[Bool.not_eq_true',decide_eq_false_iff_not]at h
 rw[cmpF_anti]at h;omega
theorem dd_sort {l:List TFact}:ddF (sortL cmpF l) l.length=facS l:=by
 have hl:(sortL cmpF l).length=l.length:=by simp[sortL]
 obtain⟨h1,h2⟩:=ddF_set (sortF_pw l) (n:=l.length) (by omega)
 refine facS_of h1 fun y=>?_
 rw[h2,List.take_of_length_le (by omega)]
 simp[sortL]
theorem g_ifactsSet {l:List TFact} (hl:l.length≤1000) (h:∀ f∈l,f.2.1.length≤1000):G_ifactsSet l (facS l):=M_ifactsSet _ _ (by
 unfold S_ifactsSet
 have hs:(sortL cmpF l).length=l.length:=by simp[sortL]
 refine⟨l,g_ifactsCopy (by omega) (fun f hf=>by have:=h f hf;omega),_,g_isortF hl,_,g_icompF (by omega),?_⟩
 rw[hs,dd_sort])
theorem g_iApplyToInstance {s:TSub} {x:TInst}:G_iApplyToInstance s x (appI s x) (vSub s&&vInst x):=M_iApplyToInstance _ _ _ _ (by
 unfold S_iApplyToInstance
 refine⟨_,g_iIsValidSubstitution,bc_not (fun h=>by unfold appI;rw[h];rfl) (fun h1=>⟨_,g_iIsValidInstance,bc_not (fun h=>by unfold appI;rw[h1,h];rfl) (fun h2=>?_)⟩)⟩
 have hr:=vRels_len (vInst_rels h2)
 have hf:=vInst_len h2
 have hrow:∀ f∈x.2.1,f.2.1.length≤3:=fun f hm=>(vRow_spec (vInst_fact h2 hm)).2.2.2.2.1
 refine⟨x,g_iinstanceCopy (by omega) (by omega) (fun f hf=>fact_args h2 hf),lenI fun _=>?_⟩
 refine loopP_of x.2.1.length (fun i=>((i:Int),((x.1,((x.2.1.take i).map (subF s)++x.2.1.drop i,())),()))) (by simp) ?_ ?_
 · intro i hi X hX
   have h3:=hrow _ (List.getElem_mem hi)
   refine bcI hi (inI hi ⟨subF s x.2.1[i],?_,⟨by omega,?_⟩,?_⟩)
   · simp only;rw[getI hi];exact g_iApplyToFact (by omega)
   · simp only[List.length_append,List.length_map,List.length_take,List.length_drop];omega
   · simp only
     rw[w64_succ (by omega),Int.toNat_natCast]
     show X (((i+1:Nat):Int),((x.1,(((x.2.1.take i).map (subF s)++x.2.1.drop i).set i (subF s x.2.1[i]),())),()))
     rw[map_set hi]
     exact hX
 · intro X
   refine bcN ⟨_,g_ifactsSet ?_ (fun f hm=>?_),?_⟩
   · simp only[List.take_length,List.drop_length,List.append_nil,List.length_map];omega
   · simp only[List.take_length,List.drop_length,List.append_nil]at hm
     obtain⟨g,hg,rfl⟩:=List.mem_map.mp hm
     have:=hrow g hg
     unfold subF
     simp only[List.length_map];omega
   · simp only[List.take_length,List.drop_length,List.append_nil]
     unfold appI subI
     rw[h1,h2];rfl)
theorem g_iequated {x:TInst} {a b:Int} (h1:x.1.length≤1099511627776) (hl:x.2.1.length≤1073741824) (h:∀ f∈x.2.1,f.2.1.length≤1099511627776) :
  G_iequated x a b (if 0≤a∧0≤b then x else appI ([nulNo (minI a b)],([maxI a b],())) x) (if 0≤a∧0≤b then 2 else 1):=M_iequated _ _ _ _ _ (by
 unfold S_iequated
 refine⟨_,g_iIsNull,bc_not (fun ha=>⟨_,g_iIsNull,bc_not (fun hb=>?_) (fun hb=>?_)⟩) (fun ha=>?_)⟩
 · simp only[decide_eq_false_iff_not]at ha hb
   rw[if_pos ⟨by omega,by omega⟩,if_pos ⟨by omega,by omega⟩]
   exact⟨_,g_iinstanceCopy h1 hl h,rfl⟩
 · simp only[decide_eq_false_iff_not,decide_eq_true_eq]at ha hb
   rw[if_neg (by omega),if_neg (by omega)]
   exact⟨_,_,g_iNullNumber,_,_,g_iApplyToInstance,rfl⟩
 · simp only[decide_eq_true_eq]at ha
   rw[if_neg (by omega),if_neg (by omega)]
   exact⟨_,_,g_iNullNumber,_,_,g_iApplyToInstance,rfl⟩)
def trigB (d:TDep) (b:List Int):Bool:=(List.range b.length).all fun k=>decide ((k:Int)∈vars d.1) == !(iAt b k == 10)
def trigF (x:TInst) (d:TDep) (b:List Int):Bool:=d.1.all fun a=>instOk a b&&decide (inst a b∈x.2.1)
def isTrig (x:TInst) (d:TDep) (b:List Int):Bool:=vInst x&&(vDep x.1 d&&((b.length == 5)&&(trigB d b&&trigF x d b)))
def hasExt (x:TInst) (l:List TFact) (b:List Int):Bool:=mOk x l&&((b.length == 5)&&decide (0<(walk x.2.1 l b).length))
def act (x:TInst) (d:TDep) (b:List Int):Bool:=isTrig x d b&&(if d.2.2.1 then !(iAt b d.2.2.2.1.toNat == iAt b d.2.2.2.2.1.toNat)else !(hasExt x d.2.1 b))
theorem isTrig_parts {x:TInst} {d:TDep} {b:List Int} (h:isTrig x d b=true):vInst x=true∧vDep x.1 d=true∧b.length=5:=by
 unfold isTrig at h
 simp only[Bool.and_eq_true,beq_iff_eq]at h
 exact⟨h.1,h.2.1,h.2.2.1⟩
theorem act_trig {x:TInst} {d:TDep} {b:List Int} (h:act x d b=true):isTrig x d b=true:=by
 unfold act at h;rw[Bool.and_eq_true]at h;exact h.1
theorem vars_range {l:List TRel} {ats:List TFact} (h:∀ a∈ats,vAtom l a=true) {v:Int} (hv:v∈vars ats):0≤v∧v<5:=by
 unfold vars at hv
 have hv:=mem_sset.mp hv
 obtain⟨h1,h2⟩:=List.mem_filter.mp hv
 obtain⟨a,ha,hva⟩:=List.mem_flatMap.mp h1
 have:=inR_iff.mp ((vRow_spec (h a ha)).2.2.2.2.2 v hva)
 have:0≤v:=by simpa using h2
 omega
theorem vDep_sides {l:List TRel} {d:TDep} (h:vDep l d=true) (he:d.2.2.1=true):(0≤d.2.2.2.1∧d.2.2.2.1<5)∧(0≤d.2.2.2.2.1∧d.2.2.2.2.1<5):=by
 have hs:=vDep_spec h
 unfold vDep at h
 rw[he]at h
 simp only[Bool.and_eq_true,if_pos,decide_eq_true_eq]at h
 exact⟨vars_range hs.2.2.1 h.2.1.1.2,vars_range hs.2.2.1 h.2.1.2⟩
def witB:List Int→List Int→Int→List Int
 |b,[],_=>b
 |b,v::l,k=>witB (b.set v.toNat (-1 - k)) l (k+1)
theorem witB_len:∀ {l b:List Int} {k:Int},(witB b l k).length=b.length
 |[],b,k=>rfl
 |v::l,b,k=>by rw[witB,witB_len,List.length_set]
theorem witB_snoc:∀ {l b:List Int} {k v:Int},witB b (l++[v]) k=(witB b l k).set v.toNat (-1 - (k+l.length))
 |[],b,k,v=>by simp[witB]
 | w::l,b,k,v=>by
   simp only[List.cons_append,witB,witB_snoc,List.length_cons]
   congr 1
   omega
def newF (x:TInst) (d:TDep) (b:List Int):List TFact:=facS (x.2.1++d.2.1.map fun a=>inst a (witB b (exV d) (nextN x)))
def appT (x:TInst) (d:TDep) (b:List Int):TInst×Int:=
 if act x d b then
  (if d.2.2.1 then
    (if 0≤iAt b d.2.2.2.1.toNat∧0≤iAt b d.2.2.2.2.1.toNat then(x,2)
     else(appI ([nulNo (minI (iAt b d.2.2.2.1.toNat) (iAt b d.2.2.2.2.1.toNat))],([maxI (iAt b d.2.2.2.1.toNat) (iAt b d.2.2.2.2.1.toNat)],())) x,1))
   else if 40<nextN x+(exV d).length∨30<(newF x d b).length then(x,3)else((x.1,(newF x d b,())),1))
 else(x,0)
theorem appT_code {x:TInst} {d:TDep} {b:List Int}:(appT x d b).2=0↔act x d b=false:=by
 unfold appT
 constructor
 · intro h
   rw[Bool.eq_false_iff]
   intro ha
   rw[if_pos ha]at h
   revert h
   split<;>split<;>simp
 · intro h
   rw[h];rfl
theorem bb1:∀ u v:Bool,(u == v) = !(u == !v):=by decide
theorem bb2:∀ u v:Bool,(!((!v) == u)) = !(u == !v):=by decide
theorem place_neg {l:List TFact} {f:TFact}:place l f<0↔f∉l:=by
 have:=decide_eq_decide.mp (place_ge (l:=l) (f:=f))
 constructor
 · intro h hm;have:=this.mpr hm;omega
 · intro h
   rcases Int.lt_or_le (place l f) 0 with h'|h'
   · exact h'
   · exact absurd (this.mp h') h
theorem term_row {l:List TRel} {a:TFact} (h:vAtom l a=true):a.2.1.length≤3∧∀ t∈a.2.1,-10≤t∧t<5:=by
 have:=vRow_spec h
 exact⟨this.2.2.2.2.1,fun t ht=>by have:=inR_iff.mp (this.2.2.2.2.2 t ht);omega⟩
theorem nextN_range (x:TInst):0≤nextN x∧nextN x≤40:=by
 have hk:∀ k∈nulI x,0≤k∧k<40:=fun k hk=>by
  have:=nulls_range (l:=x.2.1.flatMap (·.2.1)) k (by rw[nulls_flat];exact hk)
  omega
 refine⟨?_,nextN_le (n:=40) |>.mpr fun k h=>(hk k h).2⟩
 unfold nextN
 cases h:(nulI x).getLast? with
 |none=>exact Int.le_refl 0
 |some m=>have:=hk m (List.mem_of_getLast? h);simp only;omega
theorem exV_le6 {l:List TRel} {d:TDep} (h:vDep l d=true):(exV d).length≤6:=by
 have hd:=vDep_spec h
 have h1:(exV d).length≤(vars d.2.1).length:=by unfold exV;exact List.length_filter_le _ _
 have h2:=vars_len d.2.1
 omega
theorem exV_range {l:List TRel} {d:TDep} (h:vDep l d=true) {v:Int} (hv:v∈exV d):0≤v∧v<5:=by
 have hd:=vDep_spec h
 unfold exV at hv
 exact vars_range hd.2.2.2.2.1 (List.mem_filter.mp hv).1
theorem heads_asc {x:TInst} (h:vInst x=true) (l:List TFact):l.foldl putF x.2.1=facS (x.2.1++l):=facS_app (vInst_asc h)
theorem g_sIsTrigger {x:TInst} {d:TDep} {b:List Int}:G_sIsTrigger x d b (isTrig x d b):=M_sIsTrigger _ _ _ _ (by
 unfold S_sIsTrigger
 refine⟨_,g_sIsValidInstance,bc_not (fun h=>by unfold isTrig;rw[h];rfl) (fun h1=>⟨_,g_sIsValidDependency,bc_not (fun h=>by unfold isTrig;rw[h1,h];rfl) (fun h2=>lenI fun _=>bc_ne (fun h=>?_) (fun h3=>?_))⟩)⟩
 · unfold isTrig
   rw[show(b.length == 5)=false from beq_eq_false_iff_ne.mpr (by omega),h1,h2];rfl
 have h3:b.length=5:=by omega
 have hd:=vDep_spec h2
 have e:isTrig x d b=(trigB d b&&trigF x d b):=by unfold isTrig;rw[h1,h2,h3];rfl
 rw[e]
 refine⟨_,g_sVariables (by omega),?_⟩
 refine loop_anyI b.length (fun k=>!(decide ((k:Int)∈vars d.1) == !(iAt b k == 10))) (fun i=>((i:Int),())) (KT:=trigB d b=false) (KF:=trigB d b=true) ?_ ?_ ?_ ?_
 · intro i hi X _ q1 q2
   refine lenI fun _=>bcI hi (inI hi ⟨_,g_sl4Has,_,g_sl11None,?_⟩)
   simp only
   rw[getI hi,←iAt_get hi,w64_succ (by omega),bb1]
   exact bc_if (fun h=>by rw[q1 h];rfl) q2
 · intro X hB
   refine lenI fun _=>bcN ?_
   rw[hB,Bool.true_and]
   refine loop_any d.1 (fun a=>!(instOk a b&&decide (inst a b∈x.2.1))) (fun i=>((i:Int),())) (KT:=trigF x d b=false) (KF:=trigF x d b=true) ?_ ?_ ?_ ?_
   · intro i hi X q1 q2
     have hr:=term_row (hd.2.2.1 _ (List.getElem_mem hi))
     refine lenI fun _=>bcI hi (inI hi ⟨inst d.1[i] b,instOk d.1[i] b,?_,?_⟩)
     · simp only;rw[getI hi];exact g_sInstantiate (by omega) (by omega) hr.2
     · rw[w64_succ (by omega)]
       refine bc_not (fun h=>by rw[q1 (by rw[h];rfl)]) (fun h=>⟨_,g_sl5Place,bc_dec (fun h4=>?_) (fun h4=>?_)⟩)
       · have h4:=place_neg.mp h4
         rw[q1 (by rw[h];simpa using h4)]
       · have h4:inst d.1[i] b∈x.2.1:=Classical.byContradiction fun h5=>h4 (place_neg.mpr h5)
         exact q2 (by rw[h];simpa using h4)
   · intro X h;exact lenI fun _=>bcN (by rw[h])
   · intro h;rw[any_not]at h;unfold trigF;exact nt h
   · intro h;rw[any_not]at h;unfold trigF;exact nf h
 · rintro⟨i,hi,hp⟩
   unfold trigB
   rw[Bool.eq_false_iff]
   intro h
   have:=List.all_eq_true.mp h i (List.mem_range.mpr hi)
   rw[this]at hp;cases hp
 · intro h
   unfold trigB
   exact List.all_eq_true.mpr fun i hi=>nf (h i (List.mem_range.mp hi)))
theorem g_iIsTrigger {x:TInst} {d:TDep} {b:List Int}:G_iIsTrigger x d b (isTrig x d b):=M_iIsTrigger _ _ _ _ (by
 unfold S_iIsTrigger
 refine⟨_,g_iIsValidInstance,bc_not (fun h=>by unfold isTrig;rw[h];rfl) (fun h1=>⟨_,g_iIsValidDependency,bc_not (fun h=>by unfold isTrig;rw[h1,h];rfl) (fun h2=>lenI fun _=>bc_ne (fun h=>?_) (fun h3=>?_))⟩)⟩
 · unfold isTrig
   rw[show(b.length == 5)=false from beq_eq_false_iff_ne.mpr (by omega),h1,h2];rfl
 have h3:b.length=5:=by omega
 have hd:=vDep_spec h2
 have e:isTrig x d b=(trigB d b&&trigF x d b):=by unfold isTrig;rw[h1,h2,h3];rfl
 rw[e]
 refine⟨_,g_iVariables (by omega),lenI fun _=>?_⟩
 refine loop_anyI b.length (fun k=>!(decide ((k:Int)∈vars d.1) == !(iAt b k == 10))) (fun i=>((i:Int),())) (KT:=trigB d b=false) (KF:=trigB d b=true) ?_ ?_ ?_ ?_
 · intro i hi X _ q1 q2
   refine bcI hi (inI hi ⟨_,g_slices_Contains_int,?_⟩)
   simp only
   rw[getI hi,←iAt_get hi,w64_succ (by omega)]
   show bcase (!((!(iAt b i == 10)) == _)) _ _
   rw[bb2]
   exact bc_if (fun h=>by rw[q1 h];rfl) q2
 · intro X hB
   refine bcN (lenI fun _=>?_)
   rw[hB,Bool.true_and]
   refine loop_any d.1 (fun a=>!(instOk a b&&decide (inst a b∈x.2.1))) (fun i=>((i:Int),())) (KT:=trigF x d b=false) (KF:=trigF x d b=true) ?_ ?_ ?_ ?_
   · intro i hi X q1 q2
     have hr:=term_row (hd.2.2.1 _ (List.getElem_mem hi))
     refine bcI hi (inI hi ⟨inst d.1[i] b,instOk d.1[i] b,?_,?_⟩)
     · simp only;rw[getI hi];exact g_iInstantiate (by omega) (by omega) hr.2
     · rw[w64_succ (by omega)]
       refine bc_not (fun h=>by rw[q1 (by rw[h];rfl)]) (fun h=>⟨_,g_ihasFact,bc_not (fun h4=>?_) (fun h4=>?_)⟩)
       · have h4:inst d.1[i] b∉x.2.1:=of_decide_eq_false h4
         rw[q1 (by rw[h];simpa using h4)]
       · have h4:inst d.1[i] b∈x.2.1:=of_decide_eq_true h4
         exact q2 (by rw[h];simpa using h4)
   · intro X h;exact bcN (by rw[h])
   · intro h;rw[any_not]at h;unfold trigF;exact nt h
   · intro h;rw[any_not]at h;unfold trigF;exact nf h
 · rintro⟨i,hi,hp⟩
   unfold trigB
   rw[Bool.eq_false_iff]
   intro h
   have:=List.all_eq_true.mp h i (List.mem_range.mpr hi)
   rw[this]at hp;cases hp
 · intro h
   unfold trigB
   exact List.all_eq_true.mpr fun i hi=>nf (h i (List.mem_range.mp hi)))
theorem g_sHasExtension {x:TInst} {l:List TFact} {b:List Int}:G_sHasExtension x l b (hasExt x l b):=M_sHasExtension _ _ _ _ (by
 unfold S_sHasExtension
 refine⟨_,g_sl11Ok,bc_if (fun h=>lenI fun _=>bc_beq (fun hb=>?_) (fun hb=>?_)) (fun h=>by unfold hasExt;rw[h];rfl)⟩
 · have hb:b.length=5:=by omega
   obtain⟨hw,hl⟩:=mOk_wok h
   have g:=g_sl11Walk hw hl l.length 0 b (by omega) hb
   rw[List.drop_zero]at g
   refine⟨_,g,lenI fun _=>?_⟩
   unfold hasExt
   rw[h,hb]
   have:decide (((walk x.2.1 l b).length:Int) > 0)=decide (0<(walk x.2.1 l b).length):=decide_eq_decide.mpr (by omega)
   rw[this];rfl
 · unfold hasExt
   rw[show(b.length == 5)=false from beq_eq_false_iff_ne.mpr (by omega),h];rfl)
theorem g_iHasExtension {x:TInst} {l:List TFact} {b:List Int}:G_iHasExtension x l b (hasExt x l b):=M_iHasExtension _ _ _ _ (by
 unfold S_iHasExtension
 refine⟨_,g_iareMatchable,bc_if (fun h=>lenI fun _=>bc_beq (fun hb=>?_) (fun hb=>?_)) (fun h=>by unfold hasExt;rw[h];rfl)⟩
 · have hb:b.length=5:=by omega
   obtain⟨hw,hl⟩:=mOk_wok h
   refine⟨b,g_slices_Clone_int (by omega),_,g_imatches b hw hl hb,lenI fun _=>?_⟩
   unfold hasExt
   rw[h,hb]
   have:decide (((walk x.2.1 l b).length:Int) > 0)=decide (0<(walk x.2.1 l b).length):=decide_eq_decide.mpr (by omega)
   rw[this];rfl
 · unfold hasExt
   rw[show(b.length == 5)=false from beq_eq_false_iff_ne.mpr (by omega),h];rfl)
theorem g_sIsActiveTrigger {x:TInst} {d:TDep} {b:List Int}:G_sIsActiveTrigger x d b (act x d b):=M_sIsActiveTrigger _ _ _ _ (by
 unfold S_sIsActiveTrigger
 refine⟨_,g_sIsTrigger,bc_not (fun h=>by unfold act;rw[h];rfl) (fun h=>?_)⟩
 obtain⟨_,hv,hb⟩:=isTrig_parts h
 refine bc_if (fun he=>?_) (fun he=>⟨_,g_sHasExtension,by unfold act;rw[h,he];rfl⟩)
 have hs:=vDep_sides hv he
 exact⟨⟨by omega,by omega⟩,⟨by omega,by omega⟩,by unfold act;rw[h,he];rfl⟩)
theorem g_iIsActiveTrigger {x:TInst} {d:TDep} {b:List Int}:G_iIsActiveTrigger x d b (act x d b):=M_iIsActiveTrigger _ _ _ _ (by
 unfold S_iIsActiveTrigger
 refine⟨_,g_iIsTrigger,bc_not (fun h=>by unfold act;rw[h];rfl) (fun h=>?_)⟩
 obtain⟨_,hv,hb⟩:=isTrig_parts h
 refine bc_if (fun he=>?_) (fun he=>⟨_,g_iHasExtension,by unfold act;rw[h,he];rfl⟩)
 have hs:=vDep_sides hv he
 exact⟨⟨by omega,by omega⟩,⟨by omega,by omega⟩,by unfold act;rw[h,he];rfl⟩)
structure SmI (x:TInst):Prop where
 rels:x.1.length≤6
 few:x.2.1.length≤30
 row:∀ f∈x.2.1,f.2.1.length≤3
theorem SmI.of {x:TInst} (h:vInst x=true):SmI x:=⟨vRels_len (vInst_rels h),vInst_len h,fun f hf=>(vRow_spec (vInst_fact h hf)).2.2.2.2.1⟩
theorem SmI.app {s:TSub} {x:TInst} (h:SmI x):SmI (appI s x):=by
 unfold appI
 split
 · refine⟨h.rels,Nat.le_trans subI_len h.few,fun f hf=>?_⟩
   unfold subI at hf
   obtain⟨g,hg,rfl⟩:=List.mem_map.mp (facS_mem.mp hf)
   unfold subF
   have:=h.row g hg
   simpa using this
 · exact⟨by simp,by simp,by simp⟩
theorem SmI.newF {x:TInst} {d:TDep} {b:List Int} (h:SmI x) (hd:∀ a∈d.2.1,a.2.1.length≤3):∀ f∈newF x d b,f.2.1.length≤3:=by
 intro f hf
 unfold V.newF at hf
 rcases List.mem_append.mp (facS_mem.mp hf)with hf|hf
 · exact h.row f hf
 · obtain⟨a,ha,rfl⟩:=List.mem_map.mp hf
   exact Nat.le_trans inst_len (hd a ha)
theorem SmI.step {x:TInst} {d:TDep} {b:List Int} (h:SmI x):SmI (appT x d b).1:=by
 unfold appT
 split
 · rename_i ha
   have hp:=isTrig_parts (act_trig ha)
   have hd:=vDep_spec hp.2.1
   split
   · split
     · exact h
     · exact h.app
   · split
     · exact h
     · rename_i hn
       exact ⟨h.rels, by have:¬ 30<(V.newF x d b).length:=fun h'=>hn (.inr h')
                         simp only;omega,h.newF fun a ha=>(vRow_spec (hd.2.2.2.2.1 a ha)).2.2.2.2.1⟩
 · exact h
theorem act_valid {x:TInst} {d:TDep} {b:List Int} (h:act x d b=true):vInst x=true∧vDep x.1 d=true∧b.length=5:=isTrig_parts (act_trig h)
theorem appT_no {x:TInst} {d:TDep} {b:List Int} (h:act x d b=false):appT x d b=(x,0):=by unfold appT;rw[h];rfl
theorem appT_egd {x:TInst} {d:TDep} {b:List Int} (h:act x d b=true) (he:d.2.2.1=true):appT x d b=(if 0≤iAt b d.2.2.2.1.toNat∧0≤iAt b d.2.2.2.2.1.toNat then(x,2)
 else(appI ([nulNo (minI (iAt b d.2.2.2.1.toNat) (iAt b d.2.2.2.2.1.toNat))],([maxI (iAt b d.2.2.2.1.toNat) (iAt b d.2.2.2.2.1.toNat)],())) x,1)):=by unfold appT;rw[h,he];rfl
theorem appT_tgd {x:TInst} {d:TDep} {b:List Int} (h:act x d b=true) (he:d.2.2.1=false):appT x d b=(if 40<nextN x+(exV d).length∨30<(newF x d b).length then(x,3)else((x.1,(newF x d b,())),1)):=by unfold appT;rw[h,he];rfl
theorem g_sApplyTrigger {x:TInst} {d:TDep} {b:List Int} (hx:SmI x):G_sApplyTrigger x d b (appT x d b).1 (appT x d b).2:=M_sApplyTrigger _ _ _ _ _ (by
 unfold S_sApplyTrigger
 have h1:=hx.rels
 have h2:=hx.few
 refine⟨x,g_sl5Copy (by omega) (by omega) (fun f hf=>by have:=hx.row f hf;omega),_,g_sIsActiveTrigger,bc_not (fun h=>by rw[appT_no h]) (fun ha=>?_)⟩
 obtain⟨hv,hd,hb⟩:=act_valid ha
 have hds:=vDep_spec hd
 refine bc_if (fun he=>?_) (fun he=>?_)
 · have hs:=vDep_sides hd he
   have e1:b.getD d.2.2.2.1.toNat 0=iAt b d.2.2.2.1.toNat:=rfl
   have e2:b.getD d.2.2.2.2.1.toNat 0=iAt b d.2.2.2.2.1.toNat:=rfl
   rw[e1,e2,appT_egd ha he]
   refine⟨⟨by omega,by omega⟩,⟨by omega,by omega⟩,bc_dec (fun hp=>bc_dec (fun hq=>?_) (fun hq=>?_)) (fun hp=>?_)⟩
   · rw[if_pos ⟨hp,hq⟩]
   · rw[if_neg (fun h=>hq h.2)]
     exact⟨_,_,g_sNullNumber,_,_,g_sApplyToInstance,rfl⟩
   · rw[if_neg (fun h=>hp h.1)]
     exact⟨_,_,g_sNullNumber,_,_,g_sApplyToInstance,rfl⟩
 · have hn:=nextN_range x
   have hl:=exV_le6 hd
   rw[appT_tgd ha he]
   refine⟨by simp only[maxL,List.length_nil];omega,_,g_sExistentialVariables (by omega) (by omega),?_⟩
   rw[List.nil_append]
   refine loop_anyI (exV d).length (fun i=>decide (40≤nextN x+i)) (fun i=>((i:Int),(x,((([]:List TRel),(([]:List TFact),())),(witB b ((exV d).take i) (nextN x),()))))) (KT:=40<nextN x+(exV d).length) (KF:=nextN x+(exV d).length≤40) ?_ ?_ ?_ ?_
   · intro i hi X _ q1 q2
     refine lenI fun _=>bcI hi ⟨_,g_sNextNull,?_⟩
     simp only
     rw[w64_id (n:=nextN x+i) (by omega) (by omega),getI hi,w64_succ (by omega)]
     have hr:=exV_range hd (List.getElem_mem hi)
     refine bc_dec (fun h=>?_) (fun h=>inI hi ⟨_,g_sNullValue (by omega) (by omega),⟨by omega,by rw[witB_len];omega⟩,?_⟩)
     · rw[if_pos (.inl (q1 (decide_eq_true h)))]
     · have q3:=q2 (decide_eq_false h)
       rw[take_succ_snoc hi,witB_snoc,List.length_take,Nat.min_eq_left (by omega)]at q3
       exact q3
   · intro X hk
     refine lenI fun _=>bcN ?_
     simp only[List.take_length]
     have hm:∀ i,(((d.2.1.take i).map fun a=>inst a (witB b (exV d) (nextN x))).foldl putF x.2.1).length≤32:=fun i=>by
      have:=foldF_len (l:=(d.2.1.take i).map fun a=>inst a (witB b (exV d) (nextN x))) (m:=x.2.1)
      rw[List.length_map,List.length_take]at this
      omega
     refine loopP_of d.2.1.length (fun i=>((i:Int),((x.1,(((d.2.1.take i).map fun a=>inst a (witB b (exV d) (nextN x))).foldl putF x.2.1,())),()))) (by simp) ?_ ?_
     · intro i hi Y hY
       have hr:=term_row (hds.2.2.2.2.1 _ (List.getElem_mem hi))
       have hmi:=hm i
       have hil:=inst_len (a:=d.2.1[i]) (b:=witB b (exV d) (nextN x))
       refine lenI fun _=>bcI hi (inI hi ⟨inst d.2.1[i] (witB b (exV d) (nextN x)),instOk d.2.1[i] (witB b (exV d) (nextN x)),?_,_,g_sl5Put (by simp only;omega) (by simp only;omega),?_⟩)
       · simp only;rw[getI hi];exact g_sInstantiate (by omega) (by rw[witB_len];omega) hr.2
       · simp only
         rw[w64_succ (by omega)]
         rw[take_succ_snoc hi,List.map_append,List.foldl_append]at hY
         exact hY
     · intro Y
       have hml:=hm d.2.1.length
       refine lenI fun _=>bcN ?_
       simp only[List.take_length]at hml ⊢
       have e:(d.2.1.map fun a=>inst a (witB b (exV d) (nextN x))).foldl putF x.2.1=newF x d b:=heads_asc hv _
       rw[e]at hml ⊢
       refine lenI fun _=>bc_dec (fun h=>?_) (fun h=>?_)
       · rw[if_pos (.inr (by omega))]
       · rw[if_neg (by rintro (h'|h')<;>omega)]
         refine⟨_,g_sl5Copy (by simp only;omega) (by simp only;omega) (fun f hf=>?_),rfl⟩
         have:=hx.newF (d:=d) (b:=b) (fun a ha=>(term_row (hds.2.2.2.2.1 a ha)).1) f hf
         omega
   · rintro⟨i,hi,hp⟩
     have:=of_decide_eq_true hp
     omega
   · intro h
     rcases Nat.eq_zero_or_pos (exV d).length with h0|h0
     · rw[h0];omega
     · have:=of_decide_eq_false (h ((exV d).length - 1) (by omega))
       omega)
theorem g_iApplyTrigger {x:TInst} {d:TDep} {b:List Int} (hx:SmI x):G_iApplyTrigger x d b (appT x d b).1 (appT x d b).2:=M_iApplyTrigger _ _ _ _ _ (by
 unfold S_iApplyTrigger
 have h1:=hx.rels
 have h2:=hx.few
 have hcp:G_iinstanceCopy x x:=g_iinstanceCopy (by omega) (by omega) (fun f hf=>by have:=hx.row f hf;omega)
 refine⟨_,g_iIsActiveTrigger,bc_not (fun h=>by rw[appT_no h];exact⟨x,hcp,rfl⟩) (fun ha=>?_)⟩
 obtain⟨hv,hd,hb⟩:=act_valid ha
 have hds:=vDep_spec hd
 refine bc_if (fun he=>?_) (fun he=>?_)
 · have hs:=vDep_sides hd he
   have e1:b.getD d.2.2.2.1.toNat 0=iAt b d.2.2.2.1.toNat:=rfl
   have e2:b.getD d.2.2.2.2.1.toNat 0=iAt b d.2.2.2.2.1.toNat:=rfl
   rw[e1,e2,appT_egd ha he]
   refine⟨⟨by omega,by omega⟩,⟨by omega,by omega⟩,_,_,g_iequated (by omega) (by omega) (fun f hf=>by have:=hx.row f hf;omega),?_⟩
   by_cases h:0≤iAt b d.2.2.2.1.toNat∧0≤iAt b d.2.2.2.2.1.toNat
   · rw[if_pos h,if_pos h,if_pos h]
   · rw[if_neg h,if_neg h,if_neg h]
 · have hn:=nextN_range x
   have hl:=exV_le6 hd
   have hvf:=vInst_flat hv
   rw[appT_tgd ha he]
   refine⟨b,g_slices_Clone_int (by omega),_,g_iNextNull (by omega),_,g_iExistentialVariables (by omega) (by omega),lenI fun _=>?_⟩
   refine loopP_of (exV d).length (fun i=>(nextN x+i,((i:Int),(witB b ((exV d).take i) (nextN x),())))) (by simp[witB]) ?_ ?_
   · intro i hi X hX
     have hr:=exV_range hd (List.getElem_mem hi)
     refine bcI hi (inI hi ⟨_,g_iNullValue (by simp only;omega) (by simp only;omega),?_⟩)
     simp only
     rw[getI hi,w64_succ (by omega),w64_id (n:=nextN x+i+1) (by omega) (by omega)]
     refine⟨⟨by omega,by rw[witB_len];omega⟩,?_⟩
     rw[take_succ_snoc hi,witB_snoc,List.length_take,Nat.min_eq_left (by omega),show nextN x+((i+1:Nat):Int)=nextN x+i+1 by omega]at hX
     exact hX
   · intro X
     refine bcN ⟨x,hcp,lenI fun _=>?_⟩
     simp only[List.take_length]
     refine loopP_of d.2.1.length (fun i=>((i:Int),((x.1,(x.2.1++(d.2.1.take i).map fun a=>inst a (witB b (exV d) (nextN x)),())),()))) (by simp) ?_ ?_
     · intro i hi Y hY
       have hr:=term_row (hds.2.2.2.2.1 _ (List.getElem_mem hi))
       refine bcI hi (inI hi ⟨inst d.2.1[i] (witB b (exV d) (nextN x)),instOk d.2.1[i] (witB b (exV d) (nextN x)),?_,?_,?_⟩)
       · simp only;rw[getI hi];exact g_iInstantiate (by omega) (by rw[witB_len];omega) hr.2
       · simp only[maxL,List.length_append,List.length_map,List.length_take,List.length_cons,List.length_nil];omega
       · simp only
         rw[w64_succ (by omega),List.append_assoc]
         rw[take_succ_snoc hi,List.map_append]at hY
         exact hY
     · intro Y
       have e:facS (x.2.1++(d.2.1.map fun a=>inst a (witB b (exV d) (nextN x))))=newF x d b:=rfl
       refine bcN ⟨newF x d b,?_,?_⟩
       · simp only[List.take_length]
         rw[←e]
         refine g_ifactsSet (by simp only[List.length_append,List.length_map];omega) (fun f hf=>?_)
         rcases List.mem_append.mp hf with hf|hf
         · have:=hx.row f hf;omega
         · obtain⟨a,ha,rfl⟩:=List.mem_map.mp hf
           have h5:=(term_row (hds.2.2.2.2.1 a ha)).1
           have:=inst_len (a:=a) (b:=witB b (exV d) (nextN x))
           omega
       · simp only
         refine bc_dec (fun h=>?_) (fun h=>lenI fun _=>bc_dec (fun h'=>?_) (fun h'=>?_))
         · rw[if_pos (.inl (by omega))];exact⟨x,hcp,rfl⟩
         · rw[if_pos (.inr (by omega))];exact⟨x,hcp,rfl⟩
         · rw[if_neg (by rintro (h''|h'')<;>omega)])
def depAt (ds:List TDep) (i:Int):TDep:=ds.getD i.toNat zDep
def stpR (ds:List TDep) (st:TInst×Int) (s:TFact):Unit ⊕ (TInst×Int):=
 if st.2=1 then(if inR s.1 0 ((ds.length:Int) - 1)then(if act st.1 (depAt ds s.1) s.2.1 then .inr (appT st.1 (depAt ds s.1) s.2.1)else .inl ())else .inl ())else .inl ()
def replay (x:TInst) (ds:List TDep) (l:List TFact):TInst×Int×Bool:=if vInst x&&vDeps x.1 ds then(match runE (stpR ds) l (x,1)with
 |.inl _=>(([],([],())),0,false)
 |.inr s=>(s.1,s.2,true))else(([],([],())),0,false)
def isFail (x:TInst) (ds:List TDep) (l:List TFact):Bool:=(replay x ds l).2.2&&((replay x ds l).2.1 == 2)
theorem stpR_ok {ds:List TDep} {st st':TInst×Int} {s:TFact} (h:stpR ds st s = .inr st'):st.2=1∧inR s.1 0 ((ds.length:Int) - 1)=true∧act st.1 (depAt ds s.1) s.2.1=true∧st'=appT st.1 (depAt ds s.1) s.2.1:=by
 unfold stpR at h
 split at h
 · rename_i h1
   split at h
   · rename_i h2
     split at h
     · rename_i h3
       exact⟨h1,h2,h3,(Sum.inr.inj h).symm⟩
     · cases h
   · cases h
 · cases h
theorem runR_small {ds:List TDep}:∀ {l:List TFact} {st st':TInst×Int},SmI st.1→runE (stpR ds) l st = .inr st'→SmI st'.1
 |[],st,st',h,hr=>by simp only[runE,Sum.inr.injEq]at hr;subst hr;exact h
 | s::l,st,st',h,hr=>by
   simp only[runE]at hr
   cases e:stpR ds st s with
   |inl _=>rw[e]at hr;simp at hr
   | inr q=>
     rw[e]at hr
     obtain⟨_,_,_,rfl⟩:=stpR_ok e
     exact runR_small (l:=l) h.step hr
theorem g_sReplaySteps {x:TInst} {ds:List TDep} {l:List TFact}:G_sReplaySteps x ds l (replay x ds l).1 (replay x ds l).2.1 (replay x ds l).2.2:=M_sReplaySteps _ _ _ _ _ _ (by
 unfold S_sReplaySteps
 refine⟨_,g_sIsValidInstance,bc_not (fun h=>by unfold replay;rw[h];rfl) (fun h1=>⟨_,g_sAreValidDependencies,bc_not (fun h=>by unfold replay;rw[h1,h];rfl) (fun h2=>?_)⟩)⟩
 have hx:=SmI.of h1
 have b1:=hx.rels
 have b2:=hx.few
 refine⟨x,g_sl5Copy (by omega) (by omega) (fun f hf=>by have:=hx.row f hf;omega),?_⟩
 have no:∀ r:Unit,runE (stpR ds) l (x,1) = .inl r→(((([]:List TRel),(([]:List TFact),())),((0:Int),(false,()))):TInst×Int×Bool×Unit)=((replay x ds l).1,((replay x ds l).2.1,((replay x ds l).2.2,()))):=fun r hr=>by
  unfold replay;rw[h1,h2,hr];rfl
 refine loop_run l (stpR ds) (x,1) (fun i s=>(s.2,((i:Int),((([]:List TRel),(([]:List TFact),())),(s.1,()))))) (KR:=fun _=>(((([]:List TRel),(([]:List TFact),())),((0:Int),(false,()))):TInst×Int×Bool×Unit)=((replay x ds l).1,((replay x ds l).2.1,((replay x ds l).2.2,())))) ?_ ?_ no
 · intro i hi s X hr q1 q2
   have hs:=runR_small hx hr
   refine lenI fun _=>bcI hi (bc_ne (fun h=>q1 () (by unfold stpR;rw[if_neg h])) (fun hc=>inI hi (lenI fun hl=>?_)))
   have hc:s.2=1:=hc
   simp only
   rw[getI hi,w64_id (n:=(ds.length:Int) - 1) (by omega) (by omega),w64_succ (by omega)]
   refine⟨_,g_sl1In,bc_not (fun h=>q1 () (by unfold stpR;rw[if_pos hc,h];rfl)) (fun hin=>inI hi (inI hi ?_))⟩
   have hr2:=inR_iff.mp hin
   refine⟨⟨by omega,by omega⟩,act s.1 (depAt ds l[i].1) l[i].2.1,g_sIsActiveTrigger,bc_not (fun h=>q1 () (by unfold stpR;rw[if_pos hc,hin,h];rfl)) (fun ha=>inI hi (inI hi ⟨⟨by omega,by omega⟩,(appT s.1 (depAt ds l[i].1) l[i].2.1).1,(appT s.1 (depAt ds l[i].1) l[i].2.1).2,g_sApplyTrigger hs,?_⟩))⟩
   exact q2 (appT s.1 (depAt ds l[i].1) l[i].2.1) (by unfold stpR;rw[if_pos hc,hin,ha];rfl)
 · intro s X hr
   refine lenI fun _=>bcN ?_
   unfold replay;rw[h1,h2,hr];rfl)
theorem g_iReplaySteps {x:TInst} {ds:List TDep} {l:List TFact}:G_iReplaySteps x ds l (replay x ds l).1 (replay x ds l).2.1 (replay x ds l).2.2:=M_iReplaySteps _ _ _ _ _ _ (by
 unfold S_iReplaySteps
 refine⟨_,g_iIsValidInstance,bc_not (fun h=>by unfold replay;rw[h];rfl) (fun h1=>⟨_,g_iAreValidDependencies,bc_not (fun h=>by unfold replay;rw[h1,h];rfl) (fun h2=>?_)⟩)⟩
 have hx:=SmI.of h1
 have b1:=hx.rels
 have b2:=hx.few
 refine⟨x,g_iinstanceCopy (by omega) (by omega) (fun f hf=>by have:=hx.row f hf;omega),lenI fun _=>?_⟩
 have no:∀ r:Unit,runE (stpR ds) l (x,1) = .inl r→(((([]:List TRel),(([]:List TFact),())),((0:Int),(false,()))):TInst×Int×Bool×Unit)=((replay x ds l).1,((replay x ds l).2.1,((replay x ds l).2.2,()))):=fun r hr=>by
  unfold replay;rw[h1,h2,hr];rfl
 refine loop_run l (stpR ds) (x,1) (fun i s=>(s.2,((i:Int),((([]:List TRel),(([]:List TFact),())),(s.1,()))))) (KR:=fun _=>(((([]:List TRel),(([]:List TFact),())),((0:Int),(false,()))):TInst×Int×Bool×Unit)=((replay x ds l).1,((replay x ds l).2.1,((replay x ds l).2.2,())))) ?_ ?_ no
 · intro i hi s X hr q1 q2
   have hs:=runR_small hx hr
   refine bcI hi (inI hi (bc_ne (fun h=>q1 () (by unfold stpR;rw[if_neg h])) (fun hc=>lenI fun hl=>?_)))
   have hc:s.2=1:=hc
   simp only
   rw[getI hi,w64_id (n:=(ds.length:Int) - 1) (by omega) (by omega),w64_succ (by omega)]
   refine⟨_,g_iwithin,bc_not (fun h=>q1 () (by unfold stpR;rw[if_pos hc,h];rfl)) (fun hin=>?_)⟩
   have hr2:=inR_iff.mp hin
   refine⟨⟨by omega,by omega⟩,(appT s.1 (depAt ds l[i].1) l[i].2.1).1,(appT s.1 (depAt ds l[i].1) l[i].2.1).2,g_iApplyTrigger hs,bc_beq (fun h=>q1 () ?_) (fun h=>?_)⟩
   · unfold stpR;rw[if_pos hc,hin,appT_code.mp h];rfl
   · have ha:act s.1 (depAt ds l[i].1) l[i].2.1=true:=by
      cases e:act s.1 (depAt ds l[i].1) l[i].2.1 with
      |true=>rfl
      |false=>exact absurd (appT_code.mpr e) h
     exact q2 (appT s.1 (depAt ds l[i].1) l[i].2.1) (by unfold stpR;rw[if_pos hc,hin,ha];rfl)
 · intro s X hr
   refine bcN ?_
   unfold replay;rw[h1,h2,hr];rfl)
theorem g_sIsFailureProof {x:TInst} {ds:List TDep} {l:List TFact}:G_sIsFailureProof x ds l (isFail x ds l):=M_sIsFailureProof _ _ _ _ (by
 unfold S_sIsFailureProof
 exact⟨_,_,_,g_sReplaySteps,bc_if (fun h=>by unfold isFail;rw[h];rfl) (fun h=>by unfold isFail;rw[h];rfl)⟩)
theorem g_iIsFailureProof {x:TInst} {ds:List TDep} {l:List TFact}:G_iIsFailureProof x ds l (isFail x ds l):=M_iIsFailureProof _ _ _ _ (by
 unfold S_iIsFailureProof
 exact⟨_,_,_,g_iReplaySteps,bc_if (fun h=>by unfold isFail;rw[h];rfl) (fun h=>by unfold isFail;rw[h];rfl)⟩)
def lastS (l:List TFact):TFact:=l.getD (l.length - 1) zFact
theorem fail_last {x:TInst} {ds:List TDep} {l:List TFact} (h:isFail x ds l=true):l≠[]∧(0≤(lastS l).1∧(lastS l).1<ds.length)∧(lastS l).2.1.length=5∧
  (0≤(depAt ds (lastS l).1).2.2.2.1∧(depAt ds (lastS l).1).2.2.2.1<5)∧(0≤(depAt ds (lastS l).1).2.2.2.2.1∧(depAt ds (lastS l).1).2.2.2.2.1<5):=by
 unfold isFail replay at h
 split at h
 · cases e:runE (stpR ds) l (x,1)with
   |inl r=>rw[e]at h;simp at h
   | inr s=>
     rw[e]at h
     have hs:s.2=2:=by simpa using h
     have hne:l≠[]:=by
      rintro rfl
      simp only[runE,Sum.inr.injEq]at e
      subst e
      simp at hs
     have hn:l.length - 1<l.length:=by have:=List.length_pos_iff.mpr hne;omega
     have hl:l=l.take (l.length - 1)++[l[l.length - 1]]:=by
      rw[←take_succ_snoc hn,show l.length - 1+1=l.length by omega,List.take_length]
     have hlast:lastS l=l[l.length - 1]:=by unfold lastS;exact getD_at hn
     rw[hl,runE_append]at e
     cases e2:runE (stpR ds) (l.take (l.length - 1)) (x,1)with
     |inl r=>rw[e2]at e;simp at e
     | inr s0=>
       rw[e2]at e
       simp only[runE]at e
       cases e3:stpR ds s0 l[l.length - 1]with
       |inl r=>rw[e3]at e;simp at e
       | inr s1=>
         rw[e3]at e
         simp only[Sum.inr.injEq]at e
         subst e
         obtain⟨_,g2,g3,rfl⟩:=stpR_ok e3
         rw[hlast]
         obtain⟨_,hd,hb⟩:=act_valid g3
         have hr:=inR_iff.mp g2
         have he:(depAt ds l[l.length - 1].1).2.2.1=true:=by
          cases he:(depAt ds l[l.length - 1].1).2.2.1 with
          |true=>rfl
          | false=>
            rw[appT_tgd g3 he]at hs
            revert hs
            split<;>simp
         exact⟨hne,⟨hr.1,by omega⟩,hb,vDep_sides hd he⟩
 · simp at h
def confl (x:TInst) (ds:List TDep) (l:List TFact):Int×Int×Bool:=if isFail x ds l then(iAt (lastS l).2.1 (depAt ds (lastS l).1).2.2.2.1.toNat,iAt (lastS l).2.1 (depAt ds (lastS l).1).2.2.2.2.1.toNat,true)else(0,0,false)
theorem last_ix {l:List TFact} (hne:l≠[]) (hl:(l.length:Int)≤9223372036854775807):w64 ((l.length:Int) - 1)=((l.length - 1:Nat):Int)∧l.length - 1<l.length:=by
 have:=List.length_pos_iff.mpr hne
 exact⟨by rw[w64_id (by omega) (by omega)];omega,by omega⟩
theorem g_iConflictingConstants {x:TInst} {ds:List TDep} {l:List TFact}:G_iConflictingConstants x ds l (confl x ds l).1 (confl x ds l).2.1 (confl x ds l).2.2:=M_iConflictingConstants _ _ _ _ _ _ (by
 unfold S_iConflictingConstants
 refine⟨_,g_iIsFailureProof,bc_not (fun h=>by unfold confl;rw[h];rfl) (fun h=>lenI fun hl=>?_)⟩
 obtain⟨hne,⟨h1,h2⟩,h3,⟨h4,h5⟩,⟨h6,h7⟩⟩:=fail_last h
 obtain⟨hw,hlt⟩:=last_ix hne hl
 rw[hw]
 rw[show l.getD (Int.toNat ((l.length - 1:Nat):Int)) zFact=lastS l by unfold lastS;rw[Int.toNat_natCast]]
 rw[show ds.getD (lastS l).1.toNat zDep=depAt ds (lastS l).1 from rfl]
 refine inI hlt ⟨⟨h1,h2⟩,⟨by omega,by omega⟩,⟨by omega,by omega⟩,?_⟩
 unfold confl;rw[h];rfl)
def actT (x:TInst) (d:TDep):List (List Int):=if vDep x.1 d then(finds x d.1).filter (fun b=>act x d b)else[]
theorem filt_snoc {α:Type} {p:α→Bool} {l:List α} {i:Nat} (h:i<l.length):(l.take (i+1)).filter p=(l.take i).filter p++(if p l[i] then[l[i]] else[]):=by
 rw[take_succ_snoc h,List.filter_append]
 congr 1
 cases hp:p l[i]<;>simp[hp]
theorem filt_len {α:Type} {p:α→Bool} {l:List α} (i:Nat):((l.take i).filter p).length≤l.length:=by
 have h1:=List.length_filter_le p (l.take i)
 rw[List.length_take]at h1
 omega
theorem g_iActiveTriggers {x:TInst} {d:TDep}:G_iActiveTriggers x d (actT x d):=M_iActiveTriggers _ _ _ (by
 unfold S_iActiveTriggers
 refine⟨_,g_iIsValidDependency,bc_not (fun h=>by unfold actT;rw[h];rfl) (fun h=>⟨_,g_iFindMatches,lenI fun _=>?_⟩)⟩
 have hl:=finds_len (x:=x) (l:=d.1)
 unfold actT
 rw[h,if_pos rfl]
 rw[show List.map (fun y=>(true,y)) (finds x d.1)=mkd (finds x d.1) 0 from rfl]
 refine loopP_of (finds x d.1).length (fun i=>((i:Int),(((finds x d.1).take i).filter (fun b=>act x d b),(mkd (finds x d.1) i,())))) (by simp) ?_ ?_
 · intro i hi X hX
   have hf:=filt_len (p:=fun b=>act x d b) (l:=finds x d.1) i
   refine bcI hi (inI (by rw[mkd_len];exact hi) ?_)
   simp only[Int.toNat_natCast]
   rw[mkd_get hi]
   refine⟨rfl,_,g_iIsActiveTrigger,?_⟩
   simp only
   rw[mkd_set hi,w64_succ (by omega)]
   rw[filt_snoc hi]at hX
   refine bc_if (fun h=>⟨by simp only[maxL,List.length_cons,List.length_nil];omega,?_⟩) (fun h=>?_)
   · rw[if_pos h]at hX;exact hX
   · rw[if_neg (by rw[h];simp),List.append_nil]at hX;exact hX
 · intro X
   refine bcN ?_
   simp only[List.take_length])
theorem g_sActiveTriggers {x:TInst} {d:TDep}:G_sActiveTriggers x d (actT x d):=M_sActiveTriggers _ _ _ (by
 unfold S_sActiveTriggers
 refine⟨_,g_sIsValidDependency,bc_not (fun h=>by unfold actT;rw[h];rfl) (fun h=>⟨_,g_sFindMatches,?_⟩)⟩
 have hl:=finds_len (x:=x) (l:=d.1)
 unfold actT
 rw[h,if_pos rfl]
 refine loopP_of (finds x d.1).length (fun i=>((i:Int),(((finds x d.1).take i).filter (fun b=>act x d b),()))) (by simp) ?_ ?_
 · intro i hi X hX
   have hf:=filt_len (p:=fun b=>act x d b) (l:=finds x d.1) i
   refine lenI fun _=>bcI hi (inI hi ⟨_,g_sIsActiveTrigger,?_⟩)
   simp only
   rw[getI hi,w64_succ (by omega)]
   rw[filt_snoc hi]at hX
   refine bc_if (fun h=>inI hi ⟨by simp only[maxL,List.length_cons,List.length_nil];omega,?_⟩) (fun h=>?_)
   · rw[if_pos h]at hX;exact hX
   · rw[if_neg (by rw[h];simp),List.append_nil]at hX;exact hX
 · intro X
   refine lenI fun _=>bcN ?_
   simp only[List.take_length])
def trgG (x:TInst) (ds:List TDep) (out:List TFact) (i:Nat):List TFact:=(actT x (ds.getD i zDep)).foldl (fun o b=>o++[((i:Int),(b,()))]) out
def trigs (x:TInst) (ds:List TDep):List TFact:=(List.range ds.length).foldl (trgG x ds) []
theorem actT_len {x:TInst} {d:TDep}:(actT x d).length≤27000:=by
 unfold actT
 split
 · exact Nat.le_trans (List.length_filter_le ..) finds_len
 · simp
theorem actT_len5 {x:TInst} {d:TDep} {b:List Int} (h:b∈actT x d):b.length=5:=by
 unfold actT at h
 split at h
 · exact finds_len5 (List.mem_filter.mp h).1
 · simp at h
theorem trgG_eq {x:TInst} {ds:List TDep} {out:List TFact} {i:Nat}:trgG x ds out i=out++(actT x (ds.getD i zDep)).map fun b=>((i:Int),(b,())):=foldl_snoc _ _ _
theorem trgG_len {x:TInst} {ds:List TDep} {out:List TFact} {i:Nat}:(trgG x ds out i).length≤out.length+27000:=by
 have:=actT_len (x:=x) (d:=ds.getD i zDep)
 rw[trgG_eq,List.length_append,List.length_map]
 omega
theorem trigs_mem {x:TInst} {ds:List TDep} {t:TFact} (h:t∈trigs x ds):∃ i:Nat,i<ds.length∧∃ b:List Int,b.length=5∧t=((i:Int),(b,())):=by
 have outer:∀(l:List Nat) (out:List TFact),(∀ i∈l,i<ds.length)→(∀ t∈out,∃ i:Nat,i<ds.length∧∃ b:List Int,b.length=5∧t=((i:Int),(b,())))→
   ∀ t∈l.foldl (trgG x ds) out,∃ i:Nat,i<ds.length∧∃ b:List Int,b.length=5∧t=((i:Int),(b,())):=by
  intro l
  induction l with
  |nil=>intro out _ ho;exact ho
  | cons i l ih=>
    intro out hl ho
    rw[List.foldl_cons]
    refine ih _ (fun c hc=>hl c (by simp[hc])) fun t ht=>?_
    rw[trgG_eq]at ht
    rcases List.mem_append.mp ht with ht|ht
    · exact ho t ht
    · obtain⟨b,hb,rfl⟩:=List.mem_map.mp ht
      exact⟨i,hl i (by simp),b,actT_len5 hb,rfl⟩
 exact outer _ [] (fun i hi=>List.mem_range.mp hi) (by simp) t h
theorem g_iallTriggers {x:TInst} {ds:List TDep} (hds:ds.length≤5):G_iallTriggers x ds (trigs x ds):=M_iallTriggers _ _ _ (by
 unfold S_iallTriggers
 refine lenI fun _=>loop_rangeB ds.length (trgG x ds) [] (fun i o=>((i:Int),(o,()))) List.length 27000 5 hds (fun o i _=>trgG_len) ?_ ?_
 · intro i hi o X ho hX
   unfold trgG at hX
   rw[getD_at hi]at hX
   refine bcI hi (inI hi ⟨_,g_iActiveTriggers,?_⟩)
   simp only
   rw[getI hi,w64_succ (by omega)]
   refine lenI fun _=>?_
   rw[show List.map (fun y=>(true,y)) (actT x ds[i])=mkd (actT x ds[i]) 0 from rfl]
   refine loop_foldB (actT x ds[i]) (fun o b=>o++[((i:Int),(b,()))]) o (fun j o=>((j:Int),(o,(mkd (actT x ds[i]) j,())))) List.length 1 27000 actT_len (fun o b _=>by simp) ?_ ?_
   · intro j hj o' Y ho' hY
     simp only[List.length_nil]at ho
     refine bcI hj (inI (by rw[mkd_len];exact hj) ?_)
     simp only[Int.toNat_natCast]
     rw[mkd_get hj]
     refine⟨rfl,by simp only[maxL,List.length_cons,List.length_nil];omega,?_⟩
     simp only
     rw[mkd_set hj,w64_succ (by omega)]
     exact hY
   · intro Y _
     exact bcN hX
 · intro X _
   exact bcN rfl)
theorem g_sl16All {x:TInst} {ds:List TDep} (hds:ds.length≤5):G_sl16All x ds (trigs x ds):=M_sl16All _ _ _ (by
 unfold S_sl16All
 refine loop_rangeB ds.length (trgG x ds) [] (fun i o=>((i:Int),(o,()))) List.length 27000 5 hds (fun o i _=>trgG_len) ?_ ?_
 · intro i hi o X ho hX
   unfold trgG at hX
   rw[getD_at hi]at hX
   refine lenI fun _=>bcI hi (inI hi ⟨_,g_sActiveTriggers,?_⟩)
   simp only
   rw[getI hi,w64_succ (by omega)]
   refine loop_foldB (actT x ds[i]) (fun o b=>o++[((i:Int),(b,()))]) o (fun j o=>((j:Int),(o,()))) List.length 1 27000 actT_len (fun o b _=>by simp) ?_ ?_
   · intro j hj o' Y ho' hY
     simp only[List.length_nil]at ho
     refine lenI fun _=>bcI hj (inI hj ⟨by simp only[maxL,List.length_cons,List.length_nil];omega,?_⟩)
     simp only
     rw[getI hj,w64_succ (by omega)]
     exact hY
   · intro Y _
     exact lenI fun _=>bcN hX
 · intro X _
   exact lenI fun _=>bcN rfl)
def chK (ds:List TDep):Nat→TInst→List TFact→TRes
 |0,x,l=>(x,(3,(l,())))
 | n+1,x,l=>match trigs x ds with
   |[]=>(x,(1,(l,())))
   | t::_=>if (appT x (ds.getD t.1.toNat zDep) t.2.1).2=1 then chK ds n (appT x (ds.getD t.1.toNat zDep) t.2.1).1 (l++[t])
     else((appT x (ds.getD t.1.toNat zDep) t.2.1).1,((appT x (ds.getD t.1.toNat zDep) t.2.1).2,(l++[t],())))
def chs (x:TInst) (ds:List TDep):TRes×Bool:=if vInst x&&vDeps x.1 ds then(chK ds 60 x [],true)else((([],([],())),(0,([],()))),false)
def fpf (x:TInst) (ds:List TDep):List TFact×Bool:=if (chs x ds).2&&((chs x ds).1.2.1 == 2)then((chs x ds).1.2.2.1,true)else([],false)
theorem chK_steps {ds:List TDep}:∀ {n:Nat} {x:TInst} {l:List TFact},(∀ t∈l,t.2.1.length=5)→(chK ds n x l).2.2.1.length≤l.length+n∧∀ t∈(chK ds n x l).2.2.1,t.2.1.length=5
 |0,x,l,h=>⟨Nat.le_refl _,h⟩
 | n+1,x,l,h=>by
   unfold chK
   split
   · exact⟨Nat.le_add_right _ _,h⟩
   · rename_i t ts ht
     have h5:∀ u∈l++[t],u.2.1.length=5:=by
      intro u hu
      rcases List.mem_append.mp hu with hu|hu
      · exact h u hu
      · obtain rfl:=List.mem_singleton.mp hu
        obtain⟨_,_,b,hb,rfl⟩:=trigs_mem (x:=x) (ds:=ds) (t:=u) (by rw[ht];simp)
        exact hb
     have hl:(l++[t]).length=l.length+1:=by simp
     split
     · obtain⟨h1,h2⟩:=chK_steps (ds:=ds) (n:=n) (x:=(appT x (ds.getD t.1.toNat zDep) t.2.1).1) h5
       exact⟨by omega,h2⟩
     · exact⟨by show(l++[t]).length≤_;omega,h5⟩
theorem fpf_steps {x:TInst} {ds:List TDep}:(fpf x ds).1.length≤60∧∀ t∈(fpf x ds).1,t.2.1.length≤5:=by
 unfold fpf
 split
 · rename_i h
   unfold chs at h ⊢
   split
   · obtain⟨h1,h2⟩:=chK_steps (ds:=ds) (n:=60) (x:=x) (l:=[]) (by simp)
     exact⟨by simpa using h1,fun t ht=>Nat.le_of_eq (h2 t ht)⟩
   · rename_i h';rw[if_neg h']at h;simp at h
 · simp
theorem g_sl16Go {x:TInst} {ds:List TDep}:G_sl16Go x ds [] (chs x ds).1 (chs x ds).2:=M_sl16Go _ _ _ _ _ (by
 unfold S_sl16Go
 refine⟨_,g_sIsValidInstance,bc_not (fun h=>by unfold chs;rw[h];rfl) (fun h1=>⟨_,g_sAreValidDependencies,bc_not (fun h=>by unfold chs;rw[h1,h];rfl) (fun h2=>?_)⟩)⟩
 have hr:=vRels_len (vInst_rels h1)
 have hf:=vInst_len h1
 have hdl:=vDeps_len h2
 have hR:chs x ds=(chK ds 60 x [],true):=by unfold chs;rw[h1,h2];rfl
 rw[hR]
 refine⟨x,g_sl5Copy (by omega) (by omega) (fun f hf=>fact_args h1 hf),?_⟩
 refine loopP_down (fun k a=>∃(n:Nat) (y:TInst) (l:List TFact) (z:TRes),a=((n:Int),((y,(0,(l,()))),(z,())))∧SmI y∧l.length=n∧n+k=60∧chK ds k y l=chK ds 60 x []) ?_ ?_ (n:=60) ⟨0,x,[],_,rfl,.of h1,rfl,rfl,rfl⟩
 · rintro a ⟨n,y,l,z,rfl,hy,hl,hn,he⟩ X
   rw[←he]
   exact bc_dec (fun h=>by simp only at h;omega) (fun _=>rfl)
 · rintro k a ⟨n,y,l,z,rfl,hy,hl,hn,he⟩ X hX
   refine bc_dec (fun _=>⟨_,g_sl16All hdl,lenI fun _=>?_⟩) (fun h=>by simp only at h;omega)
   rw[←he]at hX ⊢
   rw[chK]at hX ⊢
   cases ht:trigs y ds with
   |nil=>rw[ht]at hX;exact bc_beq (fun _=>rfl) (fun h=>absurd rfl h)
   | cons t ts=>
     obtain⟨i,hi,b,hb,rfl⟩:=trigs_mem (x:=y) (ds:=ds) (t:=t) (by rw[ht];simp)
     rw[ht]at hX
     simp only at hX ⊢
     refine bc_beq (fun h=>by simp at h;omega) (fun _=>lenI fun _=>bcF ⟨⟨by omega,by simp⟩,⟨by omega,by simp⟩,trivial,⟨by show(0:Int)≤(i:Int);omega,by show(i:Int)<_;omega⟩,_,_,g_sApplyTrigger hy,⟨by omega,by simp⟩,?_,?_⟩)
     · simp only[maxL,List.length_cons,List.length_nil];omega
     · refine bc_ne (fun h=>?_) (fun h=>?_)
       · have h:¬ (appT y (ds.getD (Int.toNat (i:Int)) zDep) b).2=1:=h
         rw[if_neg h];rfl
       · have h:(appT y (ds.getD (Int.toNat (i:Int)) zDep) b).2=1:=h
         rw[if_pos h]at hX
         rw[w64_succ (by omega)]
         exact hX _ ⟨n+1,_,_,_,rfl,hy.step,by simp;omega,by omega,rfl⟩)
theorem g_sChase {x:TInst} {ds:List TDep}:G_sChase x ds (chs x ds).1 (chs x ds).2:=M_sChase _ _ _ _ (by
 unfold S_sChase
 exact⟨_,_,g_sl16Go,rfl⟩)
theorem g_iChaseWithOrder {x:TInst} {ds:List TDep}:G_iChaseWithOrder x ds [] (chs x ds).1 (chs x ds).2:=M_iChaseWithOrder _ _ _ _ _ (by
 unfold S_iChaseWithOrder
 refine⟨_,g_iIsValidInstance,bc_not (fun h=>by unfold chs;rw[h];rfl) (fun h1=>⟨_,g_iAreValidDependencies,bc_not (fun h=>by unfold chs;rw[h1,h];rfl) (fun h2=>?_)⟩)⟩
 have hr:=vRels_len (vInst_rels h1)
 have hf:=vInst_len h1
 have hdl:=vDeps_len h2
 have hR:chs x ds=(chK ds 60 x [],true):=by unfold chs;rw[h1,h2];rfl
 rw[hR]
 refine⟨x,g_iinstanceCopy (by omega) (by omega) (fun f hf=>fact_args h1 hf),?_⟩
 refine loopP_down (fun k a=>0<k∧∃(n:Nat) (y:TInst) (c:Int) (l:List TFact),a=((n:Int),((y,(c,(l,()))),()))∧SmI y∧l.length=n∧
  ((c=1∧n+(k - 1)=60∧chK ds (k - 1) y l=chK ds 60 x [])∨(¬ c=1∧(y,(c,(l,())))=chK ds 60 x []))) ?_ ?_ (n:=61) ⟨by omega,0,x,1,[],rfl,.of h1,rfl,.inl ⟨rfl,rfl,rfl⟩⟩
 · rintro a ⟨hk,_⟩ X
   omega
 · rintro k a ⟨_,n,y,c,l,rfl,hy,hl,⟨rfl,hn,he⟩|⟨hc,he⟩⟩ X hX
   · rw[Nat.add_sub_cancel]at hn he
     refine bc_beq (fun _=>?_) (fun h=>absurd rfl h)
     refine bc_beq (fun h=>?_) (fun h=>?_)
     · simp only at h
       obtain rfl:k=0:=by omega
       rw[←he];rfl
     · simp only at h
       obtain⟨k,rfl⟩:∃ j,k=j+1:=⟨k - 1,by omega⟩
       refine⟨_,g_iallTriggers hdl,lenI fun _=>?_⟩
       rw[←he]at hX ⊢
       rw[chK]at hX ⊢
       cases ht:trigs y ds with
       |nil=>exact bc_beq (fun _=>rfl) (fun h=>absurd rfl h)
       | cons t ts=>
         obtain⟨i,hi,b,hb,rfl⟩:=trigs_mem (x:=y) (ds:=ds) (t:=t) (by rw[ht];simp)
         rw[ht]at hX
         simp only at hX ⊢
         refine bc_beq (fun h=>by simp at h;omega) (fun _=>lenI fun _=>bcF ⟨⟨by omega,by simp⟩,rfl,⟨by show(0:Int)≤(i:Int);omega,by show(i:Int)<_;omega⟩,_,_,g_iApplyTrigger hy,?_,?_⟩)
         · simp only[maxL,List.length_cons,List.length_nil];omega
         · by_cases h:(appT y (ds.getD (Int.toNat (i:Int)) zDep) b).2=1
           · rw[if_pos h]at hX
             have:=hX ((n+1:Nat),(((appT y (ds.getD (Int.toNat (i:Int)) zDep) b).1,(1,(l++[((i:Int),(b,()))],()))),())) ⟨by omega,n+1,_,1,_,rfl,hy.step,by simp;omega,.inl ⟨rfl,by omega,rfl⟩⟩
             rw[←h,←w64_succ (show n<9223372036854775807 by omega)]at this
             exact this
           · rw[if_neg h]at hX
             have:=hX ((n+1:Nat),(((appT y (ds.getD (Int.toNat (i:Int)) zDep) b).1,((appT y (ds.getD (Int.toNat (i:Int)) zDep) b).2,(l++[((i:Int),(b,()))],()))),())) ⟨by omega,n+1,_,_,_,rfl,hy.step,by simp;omega,.inr ⟨h,rfl⟩⟩
             rw[←w64_succ (show n<9223372036854775807 by omega)]at this
             exact this
   · exact bc_beq (fun h=>absurd h hc) (fun _=>by rw[←he])
 )
theorem g_iChase {x:TInst} {ds:List TDep}:G_iChase x ds (chs x ds).1 (chs x ds).2:=M_iChase _ _ _ _ (by
 unfold S_iChase
 exact⟨_,_,g_iChaseWithOrder,rfl⟩)
theorem g_sFindFailureProof {x:TInst} {ds:List TDep}:G_sFindFailureProof x ds (fpf x ds).1 (fpf x ds).2:=M_sFindFailureProof _ _ _ _ (by
 unfold S_sFindFailureProof fpf
 refine⟨_,_,g_sChase,bc_not (fun h=>by rw[h];rfl) (fun h=>bc_ne (fun h2=>?_) (fun h2=>?_))⟩
 · rw[h,show((chs x ds).1.2.1 == 2)=false by simpa using h2];rfl
 · rw[h,show((chs x ds).1.2.1 == 2)=true by simpa using h2];rfl)
theorem g_iFindFailureProof {x:TInst} {ds:List TDep}:G_iFindFailureProof x ds (fpf x ds).1 (fpf x ds).2:=M_iFindFailureProof _ _ _ _ (by
 unfold S_iFindFailureProof fpf
 refine⟨_,_,g_iChase,bc_not (fun h=>by rw[h];rfl) (fun h=>bc_ne (fun h2=>?_) (fun h2=>?_))⟩
 · rw[h,show((chs x ds).1.2.1 == 2)=false by simpa using h2];rfl
 · rw[h,show((chs x ds).1.2.1 == 2)=true by simpa using h2];rfl)
def Rd {ρ:Type} (P:ρ→Prop) (A:Prop) (B:ρ→Prop):Prop:=A→∃ v,P v∧B v
section
variable {ρ:Type} {P:ρ→Prop}
theorem rk {x:ρ}:Rd P (P x) (fun v=>x=v):=fun h=>⟨x,h,rfl⟩
theorem rb {b:Bool} {A1 A2:Prop} {B1 B2:ρ→Prop} (h1:Rd P A1 B1) (h2:Rd P A2 B2):Rd P (bcase b A1 A2) (fun v=>bcase b (B1 v) (B2 v)):=by
 cases b
 · exact h2
 · exact h1
theorem ra {C A:Prop} {B:ρ→Prop} (h:Rd P A B):Rd P (C∧A) (fun v=>C∧B v):=fun⟨c,a⟩=>(h a).imp fun _ hv=>⟨hv.1,c,hv.2⟩
theorem re {α:Type} {A:α→Prop} {B:α→ρ→Prop} (h:∀ y,Rd P (A y) (B y)):Rd P (∃ y,A y) (fun v=>∃ y,B y v):=fun⟨y,a⟩=>(h y a).imp fun _ hv=>⟨hv.1,y,hv.2⟩
theorem rl (hi:∃ v,P v) {n:Int} {A:Prop} {B:ρ→Prop} (h:Rd P A B):Rd P (lenA n A) (fun v=>lenA n (B v)):=fun a=>by
 by_cases hn:n≤9223372036854775807
 · exact(h (a hn)).imp fun _ hv=>⟨hv.1,fun _=>hv.2⟩
 · exact hi.imp fun _ hv=>⟨hv,fun h=>absurd h hn⟩
theorem rp {σ:Type} {BP:(σ→Prop)→σ→Prop} {BV:ρ→(σ→Prop)→σ→Prop} {a0:σ}
  (h:∀(XP:σ→Prop) (XV:ρ→σ→Prop),(∀ b,Rd P (XP b) (fun v=>XV v b))→∀ a,Rd P (BP XP a) (fun v=>BV v (XV v) a)):Rd P (LoopP BP a0) (fun v=>LoopP (BV v) a0):=by
 rintro⟨n,hn⟩
 have key:∀ n a,Rd P (iterP BP n a) (fun v=>iterP (BV v) n a):=by
  intro n
  induction n with
  |zero=>intro a h;exact h.elim
  |succ n ih=>intro a;exact h _ (fun v=>iterP (BV v) n) ih a
 exact(key n a0 hn).imp fun _ hv=>⟨hv.1,n,hv.2⟩
theorem rd_of {S:(ρ→Prop)→Prop} (h:S P) (hi:∃ v,P v) (hr:(∃ v,P v)→Rd P (S P) (fun v=>S (fun q=>q=v))):∃ v,P v∧S (fun q=>q=v):=hr hi h
end
abbrev Src:=List Int×Int×Int×Unit
def Oks (s:Src):Prop:=0≤s.2.1∧s.1.length≤4611686018427387903
theorem low_byte (x:Int):0≤bitsK .and .i64 x 255∧bitsK .and .i64 x 255≤255:=by
 show 0≤IntKind.i64.wrap ((BitVec.ofInt 64 x &&& BitVec.ofInt 64 255).toNat:Int)∧IntKind.i64.wrap ((BitVec.ofInt 64 x &&& BitVec.ofInt 64 255).toNat:Int)≤255
 have h:(BitVec.ofInt 64 x &&& BitVec.ofInt 64 255).toNat≤255:=by
  rw[BitVec.toNat_and]
  exact Nat.le_trans Nat.and_le_right (by decide)
 generalize (BitVec.ofInt 64 x &&& BitVec.ofInt 64 255).toNat=n at h
 have e:IntKind.i64.wrap (n:Int)=(n:Int):=w64_id (by omega) (by omega)
 rw[e];omega
theorem d_byte {s:Src} (h:Oks s):∃ y z,G_sl1Byte_poz s y z∧(0≤y∧y≤255)∧Oks z:=by
 have hl:=h.2
 have h0:=h.1
 have hs:S_sl1Byte_poz s (fun q=>(0≤q.1∧q.1≤255)∧Oks q.2.1):=by
  unfold S_sl1Byte_poz
  refine⟨by decide,by decide,lenI fun _=>bc_dec (fun hlt=>⟨⟨h0,hlt⟩,low_byte _,?_,hl⟩) (fun _=>⟨low_byte _,h⟩)⟩
  show 0≤w64 (s.2.1+1)
  rw[w64_id (by omega) (by omega)];omega
 obtain⟨⟨y,z,_⟩,hq,hv⟩:=rd_of (S:=S_sl1Byte_poz s) hs ⟨(0,(s,())),⟨Int.le_refl (0:Int),(by decide:(0:Int)≤255)⟩,h⟩ fun hi=>by
  unfold S_sl1Byte_poz
  repeat' first|exact rk|apply_assumption|refine rb ?_ ?_|refine rl hi ?_|refine ra ?_|(refine rp ?_;intro _ _ _ _)|(refine re ?_;intro _)
 exact⟨y,z,M_sl1Byte_poz _ _ _ hv,hq.1,hq.2⟩
theorem d_below {s:Src} {n:Int} (h:Oks s) (h1:0<n) (h2:n≤256):∃ y z,G_sl1Below_poz s n y z∧(0≤y∧y<n)∧Oks z:=by
 obtain⟨y,z,g,y0,hz⟩:=d_byte h
 refine⟨Int.tmod y n,z,M_sl1Below_poz _ _ _ _ ?_,⟨?_,?_⟩,hz⟩
 · unfold S_sl1Below_poz
   rw[bc_neg (by omega)]
   exact bc_dec (fun _=>⟨y,z,g,by omega,rfl⟩) (fun h=>absurd h2 h)
 · exact Int.tmod_nonneg _ y0.1
 · exact Int.tmod_lt_of_pos _ h1
theorem d_once {s:Src} {n:Int} (h:Oks s) (h1:0<n) (h2:n≤256):∃ y z,G_sl1Once_poz s n y z∧Oks z:=by
 obtain⟨y,z,g,_,hz⟩:=d_below h h1 h2
 exact⟨_,z,M_sl1Once_poz _ _ _ _ ⟨y,z,g,rfl⟩,hz⟩
def sigs:List TRel:=[([97],(2,(true,()))),([98],(1,(true,()))),([112],(2,(false,()))),([113],(2,(false,()))),([114],(1,(false,())))]
theorem g_sl3Sigs:G_sl3Sigs sigs:=M_sl3Sigs _ rfl
theorem sig_arity (i:Nat) (h:i<sigs.length):1≤(sigs[i]).2.1∧(sigs[i]).2.1≤2:=by
 match i,h with
 |0,_|2,_|3,_=>exact⟨(by decide:(1:Int)≤2),(by decide:(2:Int)≤2)⟩
 |1,_|4,_=>exact⟨(by decide:(1:Int)≤1),(by decide:(1:Int)≤2)⟩
theorem d_value {s:Src} {n:Int} (h:Oks s) (h2:n≤40):∃ y z,G_sl4Value_poz s n y z∧(-40≤y∧y<3)∧Oks z:=by
 have hs:S_sl4Value_poz s n (fun q=>(-40≤q.1∧q.1<3)∧Oks q.2.1):=by
  unfold S_sl4Value_poz
  refine bc_dec (fun hn=>?_) (fun hn=>?_)
  · obtain⟨b,z,g,hz⟩:=d_once h (n:=2) (by decide) (by decide)
    obtain⟨v,z1,g1,hv,hz1⟩:=d_below hz (n:=n) (by omega) (by omega)
    obtain⟨u,z2,g2,hu,hz2⟩:=d_below hz (n:=3) (by decide) (by decide)
    exact⟨b,z,g,bc_if (fun _=>⟨v,z1,g1,_,g_sNullValue hv.1 (by omega),⟨by simp only;omega,by simp only;omega⟩,hz1⟩) (fun _=>⟨u,z2,g2,⟨by simp only;omega,hu.2⟩,hz2⟩)⟩
  · obtain⟨u,z2,g2,hu,hz2⟩:=d_below h (n:=3) (by decide) (by decide)
    exact⟨u,z2,g2,⟨by simp only;omega,hu.2⟩,hz2⟩
 obtain⟨⟨y,z,_⟩,hq,hv⟩:=rd_of (S:=S_sl4Value_poz s n) hs ⟨(0,(s,())),⟨(by decide:(-40:Int)≤0),(by decide:(0:Int)<3)⟩,h⟩ fun hi=>by
  unfold S_sl4Value_poz
  repeat' first|exact rk|apply_assumption|refine rb ?_ ?_|refine ra ?_|(refine rp ?_;intro _ _ _ _)|(refine re ?_;intro _)
 exact⟨y,z,M_sl4Value_poz _ _ _ _ hv,hq.1,hq.2⟩
def SmR (r:Int) (f:TFact):Prop:=f.1=r∧1≤f.2.1.length∧f.2.1.length≤2
theorem d_fact {s:Src} {r n:Int} (h:Oks s) (h0:0≤r) (h1:r<5) (h2:n≤40):∃ y z,G_sl4Fact_poz s r n y z∧SmR r y∧Oks z:=by
 obtain⟨i,rfl⟩:∃ i:Nat,r=(i:Int):=⟨r.toNat,by omega⟩
 have hi:i<sigs.length:=by show i<5;omega
 have ha:=sig_arity i hi
 have hs:S_sl4Fact_poz s i n (fun q=>SmR i q.1∧Oks q.2.1):=by
  unfold S_sl4Fact_poz
  refine⟨_,g_sl3Sigs,?_⟩
  refine loopP_down (fun k a=>∃(c:Src) (l:List Int),a=(c,(((i:Int),(l,())),()))∧Oks c∧l.length+k=(sigs[i]).2.1.toNat) ?_ ?_ (n:=(sigs[i]).2.1.toNat) ⟨s,[],rfl,h,by simp⟩
  · rintro a ⟨c,l,rfl,hc,hl⟩ X
    refine inI hi (lenI fun _=>?_)
    rw[getI hi]
    exact bc_dec (fun h=>by simp only at h;omega) (fun _=>⟨⟨rfl,by simp only;omega,by simp only;omega⟩,hc⟩)
  · rintro k a ⟨c,l,rfl,hc,hl⟩ X hX
    obtain⟨v,z,g,_,hz⟩:=d_value hc h2
    refine inI hi (lenI fun _=>?_)
    rw[getI hi]
    exact bc_dec (fun h=>⟨v,z,g,by simp only[maxL,List.length_cons,List.length_nil];omega,hX _ ⟨z,l++[v],rfl,hz,by simp;omega⟩⟩) (fun h=>by simp only at h;omega)
 obtain⟨⟨y,z,_⟩,hq,hv⟩:=rd_of (S:=S_sl4Fact_poz s i n) hs ⟨((i,([0],())),(s,())),⟨rfl,(by decide:1≤1),(by decide:1≤2)⟩,h⟩ fun hi=>by
  unfold S_sl4Fact_poz
  repeat' first|exact rk|apply_assumption|refine rb ?_ ?_|refine rl hi ?_|refine ra ?_|(refine rp ?_;intro _ _ _ _)|(refine re ?_;intro _)
 exact⟨y,z,M_sl4Fact_poz _ _ _ _ _ hv,hq.1,hq.2⟩
theorem d_atom {s:Src} {r n:Int} (h:Oks s) (h0:0≤r) (h1:r<5) (hn0:0<n) (h2:n≤40):∃ y z,G_sl9Atom_poz s r n y z∧SmR r y∧Oks z:=by
 obtain⟨i,rfl⟩:∃ i:Nat,r=(i:Int):=⟨r.toNat,by omega⟩
 have hi:i<sigs.length:=by show i<5;omega
 have ha:=sig_arity i hi
 have hs:S_sl9Atom_poz s i n (fun q=>SmR i q.1∧Oks q.2.1):=by
  unfold S_sl9Atom_poz
  refine⟨_,g_sl3Sigs,?_⟩
  refine loopP_down (fun k a=>∃(c:Src) (l:List Int),a=(c,(((i:Int),(l,())),()))∧Oks c∧l.length+k=(sigs[i]).2.1.toNat) ?_ ?_ (n:=(sigs[i]).2.1.toNat) ⟨s,[],rfl,h,by simp⟩
  · rintro a ⟨c,l,rfl,hc,hl⟩ X
    refine inI hi (lenI fun _=>?_)
    rw[getI hi]
    exact bc_dec (fun h=>by simp only at h;omega) (fun _=>⟨⟨rfl,by simp only;omega,by simp only;omega⟩,hc⟩)
  · rintro k a ⟨c,l,rfl,hc,hl⟩ X hX
    obtain⟨b,z,g,hz⟩:=d_once hc (n:=14) (by decide) (by decide)
    obtain⟨u,z1,g1,_,hz1⟩:=d_below hz (n:=3) (by decide) (by decide)
    obtain⟨v,z2,g2,_,hz2⟩:=d_below hz (n:=n) hn0 (by omega)
    refine inI hi (lenI fun _=>?_)
    rw[getI hi]
    exact bc_dec (fun h=>⟨b,z,g,bc_if (fun _=>⟨u,z1,g1,by simp only[maxL,List.length_cons,List.length_nil];omega,hX _ ⟨z1,_,rfl,hz1,by simp;omega⟩⟩)
     (fun _=>⟨v,z2,g2,by simp only[maxL,List.length_cons,List.length_nil];omega,hX _ ⟨z2,_,rfl,hz2,by simp;omega⟩⟩)⟩) (fun h=>by simp only at h;omega)
 obtain⟨⟨y,z,_⟩,hq,hv⟩:=rd_of (S:=S_sl9Atom_poz s i n) hs ⟨((i,([0],())),(s,())),⟨rfl,(by decide:1≤1),(by decide:1≤2)⟩,h⟩ fun hi=>by
  unfold S_sl9Atom_poz
  repeat' first|exact rk|apply_assumption|refine rb ?_ ?_|refine rl hi ?_|refine ra ?_|(refine rp ?_;intro _ _ _ _)|(refine re ?_;intro _)
 exact⟨y,z,M_sl9Atom_poz _ _ _ _ _ hv,hq.1,hq.2⟩
theorem g_sVariables_o {l:List TFact} (hl:(l.flatMap (·.2.1)).length≤1073741824):G_sVariables_oopzpozz l (vars l) l:=M_sVariables_oopzpozz _ _ _ (by
 unfold S_sVariables_oopzpozz
 refine loopP_of l.length (fun i=>((i:Int),(vars (l.take i),()))) (by simp[vars,sset]) ?_ ?_
 · intro i hi X hX
   refine lenI fun hl1=>bcI hi ?_
   simp only
   rw[getI hi]
   have hsub:((l.take i).flatMap (·.2.1)).length+l[i].2.1.length≤1073741824:=by
    have:=flat_split (·.2.1) hi
    omega
   have hset:∀ j,j≤l[i].2.1.length→(sset (((l.take i).flatMap (·.2.1)++l[i].2.1.take j).filter fun t=>decide (0≤t))).length≤1073741824:=by
    intro j hj
    refine Nat.le_trans (sset_len _) (Nat.le_trans (List.length_filter_le _ _) ?_)
    rw[List.length_append,List.length_take];omega
   refine loopP_of l[i].2.1.length (fun j=>(sset (((l.take i).flatMap (·.2.1)++l[i].2.1.take j).filter fun t=>decide (0≤t)),((j:Int),()))) (by simp[vars]) ?_ ?_
   · intro j hj Y hY
     refine inI hi (lenI fun _=>bcI hj (inI hi (inI hj ?_)))
     simp only
     rw[getI hj,w64_succ (by omega)]
     have e:((l.take i).flatMap (·.2.1)++l[i].2.1.take (j+1)).filter (fun t=>decide (0≤t))=((l.take i).flatMap (·.2.1)++l[i].2.1.take j).filter (fun t=>decide (0≤t))++(if 0≤l[i].2.1[j] then[l[i].2.1[j]] else[]):=by
      rw[take_succ_snoc hj,←List.append_assoc,List.filter_append]
      by_cases h:0≤l[i].2.1[j]<;>simp[h]
     rw[e]at hY
     refine bc_dec (fun h=>inI hi (inI hj ⟨_,g_sl4Put (hset j (by omega)),?_⟩)) (fun h=>?_)
     · have h:0≤l[i].2.1[j]:=h
       rw[if_pos h]at hY
       rw[sset_snoc];exact hY
     · have h:¬ 0≤l[i].2.1[j]:=h
       rw[if_neg h,List.append_nil]at hY;exact hY
   · intro Y
     refine inI hi (lenI fun _=>bcN ?_)
     simp only
     rw[w64_succ (by omega),List.take_length]
     have:sset (((l.take i).flatMap (·.2.1)++l[i].2.1).filter fun t=>decide (0≤t))=vars (l.take (i+1)):=by
      unfold vars;rw[take_succ_snoc hi,List.flatMap_append];simp
     rw[this];exact hX
 · intro X
   refine lenI fun _=>bcN ?_
   simp only[List.take_length])
def SmB (l:List TFact):Prop:=∀ f∈l,1≤f.2.1.length∧f.2.1.length≤2
def SmD (n:Nat) (d:TDep):Prop:=(1≤d.1.length∧d.1.length≤2)∧d.2.1.length≤n∧SmB d.1∧SmB d.2.1
theorem SmD.ok {n:Nat} {d:TDep} (h:SmD n d) (hn:n≤1000):okDep d:=
 ⟨⟨by have:=h.1.2;omega,fun f hf=>by have:=(h.2.2.1 f hf).2;omega⟩,⟨by have:=h.2.1;omega,fun f hf=>by have:=(h.2.2.2 f hf).2;omega⟩⟩
theorem SmB.snoc {l:List TFact} {f:TFact} (h:SmB l) (hf:1≤f.2.1.length∧f.2.1.length≤2):SmB (l++[f]):=fun g hg=>by
 rcases List.mem_append.mp hg with hg|hg
 · exact h g hg
 · obtain rfl:=List.mem_singleton.mp hg;exact hf
theorem SmB.flat {l:List TFact} (h:SmB l):(l.flatMap (·.2.1)).length≤l.length * 2:=by
 induction l with
 |nil=>simp
 | cons a l ih=>
   have:=ih fun f hf=>h f (by simp[hf])
   have:=(h a (by simp)).2
   simp only[List.flatMap_cons,List.length_append,List.length_cons]
   omega
theorem smd0:SmD 2 ([(0,([0],()))],([],(false,(0,(0,()))))):=by unfold SmD SmB;decide
theorem both {b:Bool} {A B:Prop} (h1:A) (h2:B):bcase b A B:=by
 cases b
 · exact h2
 · exact h1
theorem w64_dec {k:Nat} (h:k≤1000):w64 (((k+1:Nat):Int) - 1)=(k:Int):=by rw[w64_id (by omega) (by omega)];omega
theorem d_known {s:Src} (h:Oks s):∃ y z,G_sl9Known_poz s y z∧SmD 2 y∧Oks z:=by
 obtain⟨v,z,g,_,hz⟩:=d_below h (n:=9) (by decide) (by decide)
 have hs:S_sl9Known_poz s (fun q=>SmD 2 q.1∧Oks q.2.1):=by
  unfold S_sl9Known_poz
  refine⟨v,z,g,?_⟩
  have hd:∀ {d:TDep},SmD 2 d→SmD 2 ((d,(z,())):TDep×Src×Unit).1∧Oks ((d,(z,())):TDep×Src×Unit).2.1:=fun h=>⟨h,hz⟩
  refine both (hd (by unfold SmD SmB;decide)) (both (hd (by unfold SmD SmB;decide)) (both (hd (by unfold SmD SmB;decide)) (both (hd (by unfold SmD SmB;decide)) (both (hd (by unfold SmD SmB;decide)) (both (hd (by unfold SmD SmB;decide)) (both (hd (by unfold SmD SmB;decide)) (both (hd (by unfold SmD SmB;decide)) (hd (by unfold SmD SmB;decide)))))))))
 obtain⟨⟨y,z,_⟩,hq,hv⟩:=rd_of (S:=S_sl9Known_poz s) hs ⟨((([(0,([0],()))],([],(false,(0,(0,()))))):TDep),(s,())),smd0,h⟩ fun hi=>by
  unfold S_sl9Known_poz
  repeat' first|exact rk|apply_assumption|refine rb ?_ ?_|refine rl hi ?_|refine ra ?_|(refine rp ?_;intro _ _ _ _)|(refine re ?_;intro _)
 exact⟨y,z,M_sl9Known_poz _ _ _ hv,hq.1,hq.2⟩
theorem d_rule {s:Src} (h:Oks s):∃ y z,G_sl9Rule_poz s y z∧SmD 2 y∧Oks z:=by
 have hs:S_sl9Rule_poz s (fun q=>SmD 2 q.1∧Oks q.2.1):=by
  unfold S_sl9Rule_poz
  obtain⟨b,z,g,hz⟩:=d_once h (n:=3) (by decide) (by decide)
  refine⟨b,z,g,both ?_ ?_⟩
  · obtain⟨y,z1,g1,hy,hz1⟩:=d_known hz
    exact⟨y,z1,g1,hy,hz1⟩
  · obtain⟨v,z1,g1,hv,hz1⟩:=d_below hz (n:=2) (by decide) (by decide)
    obtain⟨N,hN⟩:∃ N:Nat,1+v=(N:Int):=⟨(1+v).toNat,by omega⟩
    refine⟨v,z1,g1,?_⟩
    rw[show w64 (1+v)=(N:Int) by rw[hN];exact w64_id (by omega) (by omega)]
    refine loopP_down (fun k a=>∃(c:Src) (l:List TFact),a=((k:Int),(c,((l,(([]:List TFact),(false,((0:Int),((0:Int),()))))),())))∧Oks c∧l.length+k=N∧SmB l) ?_ ?_ (n:=N) ⟨z1,[],rfl,hz1,by simp,fun f hf=>by simp at hf⟩
    · rintro a ⟨c,l,rfl,hc,hl,hb⟩ X
      refine bc_dec (fun h=>by simp at h) (fun _=>?_)
      have hfl:=hb.flat
      refine⟨_,_,g_sVariables_o (l:=l) (by omega),lenI fun _=>?_⟩
      have head:∀ {c:Src},Oks c→∃ y17 y18,G_sl1Below_poz c 2 y17 y18∧(0≤y17∧y17<2)∧Oks y18:=fun hc=>d_below hc (by decide) (by decide)
      have tail:∀ {u:Int} {c:Src},0≤u∧u<2→Oks c→LoopP (fun(again20:Int×Src×TDep×Unit→Prop) (a19:Int×Src×TDep×Unit)=>bcase (decide (a19.1 > (0:Int))) (∃ y21:Int,∃ y22:Src,G_sl1Below_poz a19.2.1 (3:Int) y21 y22∧(∃ y23:TFact,∃ y24:Src,G_sl9Atom_poz y22 (w64 ((2:Int)+y21)) (4:Int) y23 y24∧(a19.2.2.1.2.1.length+([(y23.1,(y23.2.1,y23.2.2))]:List TFact).length≤maxL∧(again20 (w64 (a19.1 - (1:Int)),(y24,((a19.2.2.1.1,(a19.2.2.1.2.1++([(y23.1,(y23.2.1,y23.2.2))]:List TFact),a19.2.2.1.2.2)),()))))))) (SmD 2 ((a19.2.2.1.1,(a19.2.2.1.2.1,a19.2.2.1.2.2)):TDep)∧Oks a19.2.1)) (w64 ((1:Int)+u),(c,((l,(([]:List TFact),(false,((0:Int),((0:Int),()))))),()))):=by
       intro u c hu hc
       obtain⟨M,hM⟩:∃ M:Nat,1+u=(M:Int):=⟨(1+u).toNat,by omega⟩
       rw[show w64 (1+u)=(M:Int) by rw[hM];exact w64_id (by omega) (by omega)]
       refine loopP_down (fun k a=>∃(c:Src) (m:List TFact),a=((k:Int),(c,((l,(m,(false,((0:Int),((0:Int),()))))),())))∧Oks c∧m.length+k=M∧SmB m) ?_ ?_ (n:=M) ⟨c,[],rfl,hc,by simp,fun f hf=>by simp at hf⟩
       · rintro a ⟨c,m,rfl,hc,hm,hb2⟩ X
         exact bc_dec (fun h=>by simp at h) (fun _=>⟨⟨⟨by simp only;omega,by simp only;omega⟩,by simp only;omega,hb,hb2⟩,hc⟩)
       · rintro k a ⟨c,m,rfl,hc,hm,hb2⟩ X hX
         obtain⟨u,z1,g1,hu,hz1⟩:=d_below hc (n:=3) (by decide) (by decide)
         obtain⟨f,z2,g2,hf,hz2⟩:=d_atom hz1 (r:=2+u) (n:=4) (by omega) (by omega) (by decide) (by decide)
         refine bc_dec (fun _=>⟨u,z1,g1,f,z2,?_,?_,?_⟩) (fun h=>by simp at h<;>omega)
         · rw[w64_id (by omega) (by omega)];exact g2
         · simp only[maxL,List.length_cons,List.length_nil];omega
         · simp only
           rw[w64_dec (by omega)]
           exact hX _ ⟨z2,m++[f],rfl,hz2,by simp;omega,hb2.snoc hf.2⟩
      obtain⟨b2,z2,g2,hz2⟩:=d_once hc (n:=3) (by decide) (by decide)
      obtain⟨u,z3,g3,hu,hz3⟩:=head hz2
      obtain⟨u',z3',g3',hu',hz3'⟩:=head hc
      refine bc_dec (fun hgt=>⟨b2,z2,g2,both ⟨⟨by omega,by omega⟩,⟨by omega,by omega⟩,⟨⟨by simp only;omega,by simp only;omega⟩,by simp,hb,fun f hf=>by simp at hf⟩,hz2⟩ ⟨u,z3,g3,tail hu hz3⟩⟩) (fun _=>⟨u',z3',g3',tail hu' hz3'⟩)
    · rintro k a ⟨c,l,rfl,hc,hl,hb⟩ X hX
      obtain⟨r,z1,g1,hr,hz1⟩:=d_below hc (n:=5) (by decide) (by decide)
      obtain⟨f,z2,g2,hf,hz2⟩:=d_atom hz1 (r:=r) (n:=3) hr.1 hr.2 (by decide) (by decide)
      refine bc_dec (fun _=>⟨r,z1,g1,f,z2,g2,?_,?_⟩) (fun h=>by simp at h<;>omega)
      · simp only[maxL,List.length_cons,List.length_nil];omega
      · simp only
        rw[w64_dec (by omega)]
        exact hX _ ⟨z2,l++[f],rfl,hz2,by simp;omega,hb.snoc hf.2⟩
 obtain⟨⟨y,z,_⟩,hq,hv⟩:=rd_of (S:=S_sl9Rule_poz s) hs ⟨((([(0,([0],()))],([],(false,(0,(0,()))))):TDep),(s,())),smd0,h⟩ fun hi=>by
  unfold S_sl9Rule_poz
  repeat' first|exact rk|apply_assumption|refine rb ?_ ?_|refine rl hi ?_|refine ra ?_|(refine rp ?_;intro _ _ _ _)|(refine re ?_;intro _)
 exact⟨y,z,M_sl9Rule_poz _ _ _ hv,hq.1,hq.2⟩
theorem d_new {x:List Int} (h:x.length≤1048576):∃ z,G_sl1New x z∧Oks z:=by
 have hs:S_sl1New x (fun q=>Oks q.1):=by
  unfold S_sl1New
  refine lenI fun _=>?_
  refine loopP_down (fun k a=>∃(v:Int) (i:Nat),a=(v,((i:Int),()))∧i+k=4000) ?_ ?_ (n:=4000) ⟨_,0,rfl,rfl⟩
  · rintro a ⟨v,i,rfl,hi⟩ X
    exact lenI fun _=>both (bc_dec (fun h=>by simp at h;omega) (fun _=>⟨Int.le_refl (0:Int),by show x.length≤_;omega⟩)) ⟨Int.le_refl (0:Int),by show x.length≤_;omega⟩
  · rintro k a ⟨v,i,rfl,hi⟩ X hX
    refine lenI fun _=>bc_dec (fun hlt=>both ⟨⟨by simp only;omega,hlt⟩,?_⟩ ⟨Int.le_refl (0:Int),by show x.length≤_;omega⟩) (fun _=>⟨Int.le_refl (0:Int),by show x.length≤_;omega⟩)
    simp only
    rw[w64_succ (by omega)]
    exact hX _ ⟨_,i+1,rfl,by omega⟩
 obtain⟨⟨z,_⟩,hq,hv⟩:=rd_of (S:=S_sl1New x) hs ⟨(([],(0,(0,()))),()),Int.le_refl (0:Int),by decide⟩ fun hi=>by
  unfold S_sl1New
  repeat' first|exact rk|apply_assumption|refine rb ?_ ?_|refine rl hi ?_|refine ra ?_|(refine rp ?_;intro _ _ _ _)|(refine re ?_;intro _)
 exact⟨z,M_sl1New _ _ hv,hq⟩
theorem g_lbig {x:List Int}:G_lbig x (decide ((x.length:Int) > 1048576)):=M_lbig _ _ (lenI fun _=>rfl)
def SmX2 (m:Nat) (x:TInst):Prop:=x.1=sigs∧x.2.1.length≤m∧∀ f∈x.2.1,f.2.1.length≤2
theorem d_source {s:Src} {m:Int} (h:Oks s) (h0:0≤m) (h1:m≤30):∃ y z,G_sl5Source_poz s m y z∧SmX2 m.toNat y∧Oks z:=by
 have hs:S_sl5Source_poz s m (fun q=>SmX2 m.toNat q.1∧Oks q.2.1):=by
  unfold S_sl5Source_poz
  obtain⟨v,z,g,hv,hz⟩:=d_below h (n:=m+1) (by omega) (by omega)
  refine⟨_,g_sl3Sigs,v,z,by rw[w64_id (by omega) (by omega)];exact g,?_⟩
  obtain⟨N,rfl⟩:∃ N:Nat,v=(N:Int):=⟨v.toNat,by omega⟩
  refine loopP_down (fun k a=>∃(c:Src) (x:TInst),a=((k:Int),(c,(x,())))∧Oks c∧x.1=sigs∧x.2.1.length+k≤N∧∀ f∈x.2.1,f.2.1.length≤2) ?_ ?_ (n:=N) ⟨z,(sigs,([],())),rfl,hz,rfl,by simp,fun f hf=>by simp at hf⟩
  · rintro a ⟨c,x,rfl,hc,hx,hl,hf⟩ X
    refine bc_dec (fun h=>by simp at h) (fun _=>⟨x,g_sl5Copy (by rw[hx];decide) (by first|omega|(simp only;omega)) (fun f hm=>by have:=hf f hm;omega),⟨hx,by first|omega|(simp only;omega),hf⟩,hc⟩)
  · rintro k a ⟨c,x,rfl,hc,hx,hl,hf⟩ X hX
    obtain⟨u,z1,g1,hu,hz1⟩:=d_below hc (n:=2) (by decide) (by decide)
    obtain⟨f,z2,g2,hr,hz2⟩:=d_fact hz1 (r:=u) (n:=0) (by omega) (by omega) (by decide)
    have hr2:=hr.2.2
    refine bc_dec (fun _=>⟨u,z1,g1,f,z2,g2,_,g_sl5Put (x:=x) (f:=f) (by omega) (by omega),?_⟩) (fun h=>by simp at h<;>omega)
    simp only
    rw[w64_dec (by omega)]
    refine hX _ ⟨z2,_,rfl,hz2,hx,?_,fun y hy=>?_⟩
    · have:=putF_len (l:=x.2.1) (f:=f)
      show(putF x.2.1 f).length+k≤N
      omega
    · rcases putF_mem.mp hy with hy|rfl
      · exact hf y hy
      · exact hr2
 obtain⟨⟨y,z,_⟩,hq,hv⟩:=rd_of (S:=S_sl5Source_poz s m) hs ⟨(((sigs,([],())):TInst),(s,())),⟨rfl,by simp,fun f hf=>by simp at hf⟩,h⟩ fun hi=>by
  unfold S_sl5Source_poz
  repeat' first|exact rk|apply_assumption|refine rb ?_ ?_|refine rl hi ?_|refine ra ?_|(refine rp ?_;intro _ _ _ _)|(refine re ?_;intro _)
 exact⟨y,z,M_sl5Source_poz _ _ _ _ hv,hq.1,hq.2⟩
theorem g_sameInts_self {l:List Int}:G_lsameInts l l true:=M_lsameInts _ _ _ (by
 unfold S_lsameInts
 refine lenI fun _=>lenI fun _=>bc_ne (fun h=>absurd rfl h) fun _=>?_
 refine loopP_of l.length (fun i=>((i:Int),())) rfl ?_ ?_
 · intro i hi X hX
   refine lenI fun _=>bcI hi (inI hi (inI hi (bc_ne (fun h=>absurd rfl h) fun _=>?_)))
   simp only
   rw[w64_succ (by omega)]
   exact hX
 · intro X
   exact lenI fun _=>bcN rfl)
theorem g_sameFires_self {l:List TFact}:G_lsameFires l l true:=M_lsameFires _ _ _ (by
 unfold S_lsameFires
 refine lenI fun _=>lenI fun _=>bc_ne (fun h=>absurd rfl h) fun _=>?_
 refine loopP_of l.length (fun i=>((i:Int),())) rfl ?_ ?_
 · intro i hi X hX
   refine lenI fun _=>bcI hi (inI hi (inI hi (bc_ne (fun h=>absurd rfl h) fun _=>inI hi (inI hi ⟨_,g_sameInts_self,bcF ?_⟩))))
   simp only
   rw[w64_succ (by omega)]
   exact hX
 · intro X
   exact lenI fun _=>bcN rfl)
theorem d_rules9 {s:Src} (h:Oks s):∃ y z,G_sl9Rules_poz s y z∧(y.length≤4∧∀ d∈y,SmD 2 d)∧Oks z:=by
 have hs:S_sl9Rules_poz s (fun q=>(q.1.length≤4∧∀ d∈q.1,SmD 2 d)∧Oks q.2.1):=by
  unfold S_sl9Rules_poz
  obtain⟨v,z,g,hv,hz⟩:=d_below h (n:=4) (by decide) (by decide)
  obtain⟨N,hN⟩:∃ N:Nat,1+v=(N:Int):=⟨(1+v).toNat,by omega⟩
  refine⟨v,z,g,?_⟩
  rw[show w64 (1+v)=(N:Int) by rw[hN];exact w64_id (by omega) (by omega)]
  refine loopP_down (fun k a=>∃(c:Src) (ds:List TDep),a=((k:Int),(ds,(c,())))∧Oks c∧ds.length+k≤4∧∀ d∈ds,SmD 2 d) ?_ ?_ (n:=N) ⟨z,[],rfl,hz,by simp;omega,fun d hd=>by simp at hd⟩
  · rintro a ⟨c,ds,rfl,hc,hl,hd⟩ X
    exact bc_dec (fun h=>by simp at h) (fun _=>⟨⟨by simp only;omega,hd⟩,hc⟩)
  · rintro k a ⟨c,ds,rfl,hc,hl,hd⟩ X hX
    obtain⟨d,z1,g1,hd1,hz1⟩:=d_rule hc
    refine bc_dec (fun _=>⟨d,z1,g1,?_,?_⟩) (fun h=>by simp at h<;>omega)
    · simp only[maxL,List.length_cons,List.length_nil];omega
    · simp only
      rw[w64_dec (by omega)]
      refine hX _ ⟨z1,ds++[d],rfl,hz1,by simp only[List.length_append,List.length_cons,List.length_nil];omega,fun e he=>?_⟩
      rcases List.mem_append.mp he with he|he
      · exact hd e he
      · obtain rfl:=List.mem_singleton.mp he;exact hd1
 obtain⟨⟨y,z,_⟩,hq,hv⟩:=rd_of (S:=S_sl9Rules_poz s) hs ⟨(([]:List TDep),(s,())),⟨by simp,fun f hf=>by simp at hf⟩,h⟩ fun hi=>by
  unfold S_sl9Rules_poz
  repeat' first|exact rk|apply_assumption|refine rb ?_ ?_|refine rl hi ?_|refine ra ?_|(refine rp ?_;intro _ _ _ _)|(refine re ?_;intro _)
 exact⟨y,z,M_sl9Rules_poz _ _ _ hv,hq.1,hq.2⟩
theorem trigs_act {x:TInst} {ds:List TDep} {t:TFact} (h:t∈trigs x ds):inR t.1 0 ((ds.length:Int) - 1)=true∧act x (depAt ds t.1) t.2.1=true:=by
 have outer:∀(l:List Nat) (out:List TFact),(∀ i∈l,i<ds.length)→(∀ t∈out,inR t.1 0 ((ds.length:Int) - 1)=true∧act x (depAt ds t.1) t.2.1=true)→
   ∀ t∈l.foldl (trgG x ds) out,inR t.1 0 ((ds.length:Int) - 1)=true∧act x (depAt ds t.1) t.2.1=true:=by
  intro l
  induction l with
  |nil=>intro out _ ho;exact ho
  | cons i l ih=>
    intro out hl ho
    rw[List.foldl_cons]
    refine ih _ (fun c hc=>hl c (by simp[hc])) fun t ht=>?_
    rw[trgG_eq]at ht
    rcases List.mem_append.mp ht with ht|ht
    · exact ho t ht
    · obtain⟨b,hb,rfl⟩:=List.mem_map.mp ht
      have hi:=hl i (by simp)
      refine⟨inR_iff.mpr ⟨by simp only;omega,by simp only;omega⟩,?_⟩
      unfold actT at hb
      split at hb
      · have:=(List.mem_filter.mp hb).2
        unfold depAt
        simpa using this
      · cases hb
 exact outer _ [] (fun i hi=>List.mem_range.mp hi) (by simp) t h
theorem chK_replay {ds:List TDep} {x0:TInst}:∀(n:Nat) (x:TInst) (l:List TFact),runE (stpR ds) l (x0,1) = .inr (x,1)→(chK ds n x l).2.1=2→runE (stpR ds) (chK ds n x l).2.2.1 (x0,1) = .inr ((chK ds n x l).1,2)
 |0,x,l,_,h2=>by simp[chK]at h2
 | n+1,x,l,h,h2=>by
   unfold chK at h2 ⊢
   cases ht:trigs x ds with
   |nil=>rw[ht]at h2;simp at h2
   | cons t ts=>
     rw[ht]at h2
     simp only at h2 ⊢
     obtain⟨g1,g2⟩:=trigs_act (x:=x) (ds:=ds) (t:=t) (by rw[ht];simp)
     have hs:stpR ds (x,1) t = .inr (appT x (depAt ds t.1) t.2.1):=by
      unfold stpR
      rw[if_pos rfl,if_pos g1,if_pos g2]
     have hr:runE (stpR ds) (l++[t]) (x0,1) = .inr (appT x (depAt ds t.1) t.2.1):=by
      rw[runE_append,h]
      simp only[runE,hs]
     have hd:ds.getD t.1.toNat zDep=depAt ds t.1:=rfl
     rw[hd]at h2 ⊢
     by_cases hc:(appT x (depAt ds t.1) t.2.1).2=1
     · rw[if_pos hc]at h2 ⊢
       refine chK_replay n _ _ ?_ h2
       rw[hr,←hc]
     · rw[if_neg hc]at h2 ⊢
       simp only at h2 ⊢
       rw[hr,←h2]
theorem fpf_fail {x:TInst} {ds:List TDep} (h:(fpf x ds).2=true):isFail x ds (fpf x ds).1=true:=by
 unfold fpf at h ⊢
 split at h
 · next hc=>
   rw[if_pos hc]
   rw[Bool.and_eq_true]at hc
   obtain⟨h1,h2⟩:=hc
   unfold chs at h1 h2 ⊢
   by_cases hv:(vInst x&&vDeps x.1 ds)=true
   · rw[if_pos hv]at h2 ⊢
     have h2:(chK ds 60 x []).2.1=2:=by simpa using h2
     have:=chK_replay (ds:=ds) (x0:=x) 60 x [] rfl h2
     unfold isFail replay
     rw[if_pos hv,this]
     rfl
   · rw[if_neg hv]at h1;simp at h1
 · simp at h
theorem fpf_no {x:TInst} {ds:List TDep} (h:(fpf x ds).2=false):(fpf x ds).1=[]:=by
 unfold fpf at h ⊢
 split at h
 · simp at h
 · next hc=>rw[if_neg hc]
theorem fail_nil {x:TInst} {ds:List TDep}:isFail x ds []=false:=by
 unfold isFail replay
 split
 · rfl
 · rfl
theorem fail_parts {x:TInst} {ds:List TDep} {l:List TFact} (h:isFail x ds l=true):¬ iAt (lastS l).2.1 (depAt ds (lastS l).1).2.2.2.1.toNat=iAt (lastS l).2.1 (depAt ds (lastS l).1).2.2.2.2.1.toNat∧
  0≤iAt (lastS l).2.1 (depAt ds (lastS l).1).2.2.2.1.toNat∧0≤iAt (lastS l).2.1 (depAt ds (lastS l).1).2.2.2.2.1.toNat:=by
 obtain⟨hne,_⟩:=fail_last h
 unfold isFail replay at h
 split at h
 · cases e:runE (stpR ds) l (x,1)with
   |inl r=>rw[e]at h;simp at h
   | inr s=>
     rw[e]at h
     have hs:s.2=2:=by simpa using h
     have hn:l.length - 1<l.length:=by have:=List.length_pos_iff.mpr hne;omega
     have hl:l=l.take (l.length - 1)++[l[l.length - 1]]:=by
      rw[←take_succ_snoc hn,show l.length - 1+1=l.length by omega,List.take_length]
     have hlast:lastS l=l[l.length - 1]:=by unfold lastS;exact getD_at hn
     rw[hl,runE_append]at e
     cases e2:runE (stpR ds) (l.take (l.length - 1)) (x,1)with
     |inl r=>rw[e2]at e;simp at e
     | inr s0=>
       rw[e2]at e
       simp only[runE]at e
       cases e3:stpR ds s0 l[l.length - 1]with
       |inl r=>rw[e3]at e;simp at e
       | inr s1=>
         rw[e3]at e
         simp only[Sum.inr.injEq]at e
         subst e
         obtain⟨_,g2,g3,rfl⟩:=stpR_ok e3
         rw[hlast]
         have he:(depAt ds l[l.length - 1].1).2.2.1=true:=by
          cases he:(depAt ds l[l.length - 1].1).2.2.1 with
          |true=>rfl
          | false=>
            rw[appT_tgd g3 he]at hs
            revert hs
            split<;>simp
         rw[appT_egd g3 he]at hs
         have hnn:0≤iAt l[l.length - 1].2.1 (depAt ds l[l.length - 1].1).2.2.2.1.toNat∧0≤iAt l[l.length - 1].2.1 (depAt ds l[l.length - 1].1).2.2.2.2.1.toNat:=by
          revert hs
          split
          · intro _;assumption
          · simp
         refine⟨fun hq=>?_,hnn.1,hnn.2⟩
         unfold act at g3
         rw[he]at g3
         simp only[Bool.and_eq_true,if_true]at g3
         have:=g3.2
         rw[hq]at this
         simp at this
 · simp at h
def shStep (x:TInst) (ds:List TDep) (out:List TFact) (i:Nat):List TFact:=if isFail x ds (out.take i++out.drop (i+1))then out.take i++out.drop (i+1)else out
def shG (x:TInst) (ds:List TDep):Nat→List TFact→List TFact
 |0,out=>out
 |n+1,out=>shG x ds n (shStep x ds out n)
def shF (x:TInst) (ds:List TDep) (l:List TFact):List TFact:=if isFail x ds l then shG x ds (l.length - 1) l else l
theorem cut_len {l:List TFact} {i:Nat} (h:i<l.length):(l.take i++l.drop (i+1)).length=l.length - 1:=by simp;omega
theorem shStep_len {x:TInst} {ds:List TDep} {out:List TFact} {i:Nat}:(shStep x ds out i).length≤out.length∧out.length≤(shStep x ds out i).length+1:=by
 unfold shStep
 split
 · simp;omega
 · omega
theorem shG_ok {x:TInst} {ds:List TDep}:∀(n:Nat) (out:List TFact),isFail x ds out=true→isFail x ds (shG x ds n out)=true
 |0,out,h=>h
 | n+1,out,h=>by
   unfold shG
   refine shG_ok n _ ?_
   unfold shStep
   split
   · assumption
   · exact h
theorem shG_len {x:TInst} {ds:List TDep}:∀(n:Nat) (out:List TFact),(shG x ds n out).length≤out.length
 |0,out=>Nat.le_refl _
 |n+1,out=>by unfold shG;exact Nat.le_trans (shG_len n _) shStep_len.1
theorem shF_fail {x:TInst} {ds:List TDep} {l:List TFact}:isFail x ds (shF x ds l)=isFail x ds l:=by
 unfold shF
 by_cases h:isFail x ds l=true
 · rw[if_pos h,shG_ok _ _ h,h]
 · rw[if_neg h]
theorem shF_len {x:TInst} {ds:List TDep} {l:List TFact}:(shF x ds l).length≤l.length:=by
 unfold shF
 split
 · exact shG_len _ _
 · exact Nat.le_refl _
theorem g_istepCopy {t:TFact} (h:t.2.1.length≤1048576):G_istepCopy t t:=M_istepCopy _ _ (by unfold S_istepCopy;exact⟨_,g_slices_Clone_int (by omega),rfl⟩)
theorem g_slices_Clone_ChaseStep {l:List TFact} (h:l.length≤1099511627776):G_slices_Clone_ChaseStep l l:=M_slices_Clone_ChaseStep _ _ (by
 unfold S_slices_Clone_ChaseStep
 refine bc_if (fun he=>⟨?_,by simp only[maxL,List.length_nil];omega,by rw[List.nil_append]⟩) (fun _=>⟨by simp only[maxL,List.length_nil];omega,by rw[List.nil_append]⟩)
 have:l=[]:=List.isEmpty_iff.mp he
 rw[this])
theorem g_sl28Copy {l:List TFact} (hl:l.length≤1048576) (h:∀ t∈l,t.2.1.length≤1048576):G_sl28Copy l l:=M_sl28Copy _ _ (by
 unfold S_sl28Copy
 refine loopP_of l.length (fun i=>((i:Int),(l.take i,()))) (by simp) ?_ ?_
 · intro i hi X hX
   have ht:=h l[i] (List.getElem_mem hi)
   rw[take_succ_snoc hi]at hX
   refine lenI fun _=>bcI hi (inI hi (inI hi ?_))
   simp only
   rw[getI hi,w64_succ (by omega)]
   refine⟨by simp only[maxL,List.length_nil];omega,by simp only[maxL,List.length_take,List.length_cons,List.length_nil];omega,?_⟩
   rw[List.nil_append]
   exact hX
 · intro X
   refine lenI fun _=>bcN ?_
   simp only[List.take_length])
theorem g_iShortenFailureProof {x:TInst} {ds:List TDep} {l:List TFact} (hl:l.length≤1000) (h:∀ t∈l,t.2.1.length≤1000):G_iShortenFailureProof x ds l (shF x ds l):=M_iShortenFailureProof _ _ _ _ (by
 unfold S_iShortenFailureProof shF
 refine lenI fun _=>loopP_of l.length (fun i=>((i:Int),(l.take i,()))) (by simp) ?_ ?_
 · intro i hi X hX
   have ht:=h l[i] (List.getElem_mem hi)
   rw[take_succ_snoc hi]at hX
   refine bcI hi (inI hi ⟨l[i],?_,?_,?_⟩)
   · simp only;rw[getI hi];exact g_istepCopy (by omega)
   · simp only[maxL,List.length_take,List.length_cons,List.length_nil];omega
   · simp only
     rw[w64_succ (by omega)]
     exact hX
 · intro X
   refine bcN ?_
   simp only[List.take_length]
   refine⟨_,g_iIsFailureProof,bc_not (fun h=>by rw[h];rfl) (fun hf=>lenI fun _=>?_)⟩
   have hne:=List.length_pos_iff.mpr (fail_last hf).1
   rw[hf,if_pos rfl,w64_id (by omega) (by omega)]
   refine loopP_down (fun k a=>∃ out:List TFact,a=((k:Int) - 1,(out,()))∧k+1≤out.length∧out.length≤1000∧shG x ds k out=shG x ds (l.length - 1) l) ?_ ?_ (n:=l.length - 1) ⟨l,by congr 1;omega,by omega,hl,rfl⟩
   · rintro a ⟨out,rfl,_,_,he⟩ Y
     refine bc_dec (fun h=>by simp at h) (fun _=>?_)
     simp only
     rw[←he];rfl
   · rintro k a ⟨out,rfl,ho,hom,he⟩ Y hY
     have ek:((k+1:Nat):Int) - 1=(k:Int):=by omega
     refine bc_dec (fun _=>⟨out,g_slices_Clone_ChaseStep (by simp only;omega),?_⟩) (fun h=>by simp only at h;omega)
     simp only
     rw[ek,w64_succ (by omega),w64_id (n:=(k:Int) - 1) (by omega) (by omega)]
     refine⟨out.take k++out.drop (k+1),prim_slices_Delete_ChaseStep_ooz (x:=out) (i:=k) (j:=k+1) (by omega) (by show k+1≤out.length;omega),_,g_iIsFailureProof,?_⟩
     have hc:=cut_len (l:=out) (i:=k) (by omega)
     rw[shG]at he
     unfold shStep at he
     refine bc_if (fun hq=>hY _ ⟨_,rfl,by omega,by omega,?_⟩) (fun hq=>hY _ ⟨_,rfl,by omega,hom,?_⟩)
     · rw[←he,if_pos hq]
     · rw[←he,if_neg (by rw[hq];simp)])
theorem g_sShortenFailureProof {x:TInst} {ds:List TDep} {l:List TFact} (hl:l.length≤1000) (h:∀ t∈l,t.2.1.length≤1000):G_sShortenFailureProof x ds l (shF x ds l):=M_sShortenFailureProof _ _ _ _ (by
 unfold S_sShortenFailureProof shF
 refine⟨_,g_sl28Copy (by omega) (fun t ht=>by have:=h t ht;omega),_,g_sIsFailureProof,bc_not (fun h=>by rw[h];rfl) (fun hf=>lenI fun _=>?_)⟩
 have hne:=List.length_pos_iff.mpr (fail_last hf).1
 rw[hf,if_pos rfl,w64_id (by omega) (by omega)]
 refine loopP_down (fun k a=>∃ out:List TFact,a=((k:Int) - 1,(out,()))∧k+1≤out.length∧out.length≤1000∧shG x ds k out=shG x ds (l.length - 1) l) ?_ ?_ (n:=l.length - 1) ⟨l,by congr 1;omega,by omega,hl,rfl⟩
 · rintro a ⟨out,rfl,_,_,he⟩ Y
   refine bc_dec (fun h=>by simp at h) (fun _=>?_)
   simp only
   rw[←he];rfl
 · rintro k a ⟨out,rfl,ho,hom,he⟩ Y hY
   have ek:((k+1:Nat):Int) - 1=(k:Int):=by omega
   refine bc_dec (fun _=>?_) (fun h=>by simp only at h;omega)
   simp only
   rw[ek,w64_succ (by omega),w64_id (n:=(k:Int) - 1) (by omega) (by omega)]
   have e1:([]:List TFact)++List.take (Int.toNat (k:Int) - Int.toNat (0:Int)) (List.drop (Int.toNat (0:Int)) out)=out.take k:=by simp
   have e2:List.take (Int.toNat (out.length:Int) - Int.toNat ((k+1:Nat):Int)) (List.drop (Int.toNat ((k+1:Nat):Int)) out)=out.drop (k+1):=by
    rw[Int.toNat_natCast,Int.toNat_natCast,List.take_of_length_le (by rw[List.length_drop];omega)]
   have hc:=cut_len (l:=out) (i:=k) (by omega)
   rw[List.length_append]at hc
   refine⟨⟨by omega,by omega,by omega,by omega⟩,⟨by omega,by omega,by omega,by omega⟩,by simp only[maxL,List.length_nil,List.length_take,List.length_drop];omega,?_,isFail x ds (out.take k++out.drop (k+1)),?_,?_⟩
   · rw[e1,e2];simp only[maxL];omega
   · rw[e1,e2];exact g_sIsFailureProof
   rw[e1,e2]
   rw[shG]at he
   unfold shStep at he
   refine bc_if (fun hq=>hY _ ⟨_,rfl,by rw[List.length_append];omega,by rw[List.length_append];omega,?_⟩) (fun hq=>hY _ ⟨_,rfl,by omega,hom,?_⟩)
   · rw[←he,if_pos hq]
   · rw[←he,if_neg (by rw[hq];simp)])
theorem d_rules16 {s:Src} (h:Oks s):∃ y z,G_sl16Rules_poz s y z∧(y.length≤4∧∀ d∈y,SmD 2 d)∧Oks z:=by
 have hs:S_sl16Rules_poz s (fun q=>(q.1.length≤4∧∀ d∈q.1,SmD 2 d)∧Oks q.2.1):=by
  unfold S_sl16Rules_poz
  obtain⟨ds,z,g,hds,hz⟩:=d_rules9 h
  refine⟨ds,z,g,?_⟩
  refine loopP_down (fun k a=>∃ ds:List TDep,a=(ds,())∧ds.length=k∧k≤4∧∀ d∈ds,SmD 2 d) ?_ ?_ (n:=ds.length) ⟨ds,rfl,rfl,hds.1,hds.2⟩
  · rintro a ⟨ds,rfl,hl,h4,hd⟩ X
    exact lenI fun _=>bc_dec (fun h=>by simp only at h;omega) (fun _=>⟨⟨by simp only;omega,hd⟩,hz⟩)
  · rintro k a ⟨ds,rfl,hl,h4,hd⟩ X hX
    refine lenI fun _=>bc_dec (fun hp=>⟨_,g_sl3Sigs,_,g_sIsWeaklyAcyclic,bc_not (fun _=>⟨⟨by omega,by simp only;omega,Int.le_refl _⟩,?_⟩) (fun _=>⟨⟨by simp only;omega,hd⟩,hz⟩)⟩) (fun _=>⟨⟨by simp only;omega,hd⟩,hz⟩)
    simp only
    rw[Int.toNat_natCast,List.take_length]
    exact hX _ ⟨_,rfl,by rw[List.length_drop];simp;omega,by omega,fun d hm=>hd d (List.mem_of_mem_drop hm)⟩
 obtain⟨⟨y,z,_⟩,hq,hv⟩:=rd_of (S:=S_sl16Rules_poz s) hs ⟨(([]:List TDep),(s,())),⟨by simp,fun f hf=>by simp at hf⟩,h⟩ fun hi=>by
  unfold S_sl16Rules_poz
  repeat' first|exact rk|apply_assumption|refine rb ?_ ?_|refine rl hi ?_|refine ra ?_|(refine rp ?_;intro _ _ _ _)|(refine re ?_;intro _)
 exact⟨y,z,M_sl16Rules_poz _ _ _ hv,hq.1,hq.2⟩
theorem d_both28 {x:List Int} (h:x.length≤1048576):∃ c y ds,G_sl28Both x c y ds∧Oks c:=by
 have hs:S_sl28Both x (fun q=>Oks q.1):=by
  unfold S_sl28Both
  obtain⟨z,g,hz⟩:=d_new h
  obtain⟨y,z1,g1,hy,hz1⟩:=d_source hz (m:=3) (by decide) (by decide)
  obtain⟨d,z2,g2,hd,hz2⟩:=d_known hz1
  obtain⟨o,z3,g3,hz3⟩:=d_once hz2 (n:=4) (by decide) (by decide)
  obtain⟨rs,z4,g4,hrs,hz4⟩:=d_rules16 hz3
  refine⟨z,g,y,z1,g1,d,z2,g2,o,z3,g3,bc_if (fun _=>⟨rs,z4,g4,hz4⟩) (fun _=>⟨_,g_sl3Sigs,_,g_sIsWeaklyAcyclic,bc_not (fun _=>⟨rs,z4,g4,hz4⟩) (fun _=>hz3)⟩)⟩
 obtain⟨⟨c,y,ds,_⟩,hq,hv⟩:=rd_of (S:=S_sl28Both x) hs ⟨((([],(0,(0,()))):Src),(([],([],())):TInst),([]:List TDep),()),⟨Int.le_refl (0:Int),by decide⟩⟩ fun hi=>by
  unfold S_sl28Both
  repeat' first|exact rk|apply_assumption|refine rb ?_ ?_|refine rl hi ?_|refine ra ?_|(refine rp ?_;intro _ _ _ _)|(refine re ?_;intro _)
 exact⟨c,y,ds,M_sl28Both _ _ _ _ hv,hq⟩
theorem law {x0:List Int} (_:Bnd (.sl 5 (.int .u8)) x0):G_lFnFailureProof x0 true:=M_lFnFailureProof _ _ (by
 unfold S_lFnFailureProof
 refine⟨_,g_lbig,bc_dec (fun _=>rfl) (fun hb=>?_)⟩
 have hlen:x0.length≤1048576:=by omega
 obtain⟨c,x,ds,gb,_⟩:=d_both28 hlen
 obtain⟨hl,h5⟩:=fpf_steps (x:=x) (ds:=ds)
 refine⟨x,ds,M_sDrawFindFailureProof _ _ _ ⟨c,x,ds,gb,rfl⟩,_,_,g_iFindFailureProof,_,_,g_sFindFailureProof,bc_nb (fun h=>absurd rfl h) fun _=>⟨_,g_sameFires_self,bcF ⟨_,_,_,g_iConflictingConstants,bc_not (fun hno=>?_) (fun hyes=>?_)⟩⟩⟩
 · have e:=fpf_no hno
   rw[e]
   refine lenI fun _=>bc_beq (fun _=>?_) (fun h=>absurd rfl h)
   have:(confl (x.1,(x.2.1,x.2.2)) ds []).2.2=false:=by
    unfold confl
    rw[if_neg (by rw[show isFail (x.1,(x.2.1,x.2.2)) ds []=false from fail_nil];simp)]
   rw[this];rfl
 · have hf:=fpf_fail hyes
   obtain⟨p1,p2,p3⟩:=fail_parts hf
   have hc:confl (x.1,(x.2.1,x.2.2)) ds (fpf x ds).1=(iAt (lastS (fpf x ds).1).2.1 (depAt ds (lastS (fpf x ds).1).1).2.2.2.1.toNat,iAt (lastS (fpf x ds).1).2.1 (depAt ds (lastS (fpf x ds).1).1).2.2.2.2.1.toNat,true):=by
    unfold confl
    rw[if_pos hf]
   have hS:=shF_fail (x:=x) (ds:=ds) (l:=(fpf x ds).1)
   have hL:=shF_len (x:=x) (ds:=ds) (l:=(fpf x ds).1)
   rw[hf]at hS
   have hL2:(shF x ds (fpf x ds).1).length≤(fpf (x.1,(x.2.1,x.2.2)) ds).1.length:=hL
   refine⟨_,g_iShortenFailureProof (x:=x) (l:=(fpf x ds).1) (by omega) (fun t ht=>by have:=h5 t ht;omega),_,g_sShortenFailureProof (x:=x) (l:=(fpf x ds).1) (by omega) (fun t ht=>by have:=h5 t ht;omega),_,g_iIsFailureProof,?_⟩
   rw[show isFail (x.1,(x.2.1,x.2.2)) ds (fpf (x.1,(x.2.1,x.2.2)) ds).1=true from hf]
   refine bcT ?_
   rw[hc]
   refine bcT (bc_ne (fun _=>bc_dec (fun _=>bc_dec (fun _=>⟨_,g_sameFires_self,bcT ⟨_,g_sIsFailureProof,?_⟩⟩) (fun h=>absurd p3 h)) (fun h=>absurd p2 h)) (fun h=>absurd h p1))
   rw[show isFail (x.1,(x.2.1,x.2.2)) ds (shF x ds (fpf x ds).1)=true from hS]
   refine bcT (lenI fun _=>lenI fun _=>?_)
   rw[decide_eq_true (by omega)])
end Go.V

