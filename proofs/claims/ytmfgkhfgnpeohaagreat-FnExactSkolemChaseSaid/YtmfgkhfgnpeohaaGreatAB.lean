/-
  The functions that the law reaches: what each gives.
-/
import Derived.Test.YtmfgkhfgnpeohaaGreatAF
import Derived.Test.YtmfgkhfgnpeohaaGreatAP
set_option linter.unusedVariables false
set_option linter.unusedSimpArgs false
set_option maxRecDepth 1000000
set_option maxHeartbeats 4000000
set_option linter.unusedVariables false
set_option linter.unusedSimpArgs false
namespace Go.V
open Go
theorem g_slices_Sort_int_ooz {x0:List Int} (h:x0.length≤1099511627776):G_slices_Sort_int_ooz x0 (sortI x0):=prim_sort h
theorem g_slices_Compact_int_ooz {x0:List Int}:G_slices_Compact_int_ooz x0 (compI x0):=prim_compact
def cmpI (a b:Int):Int:=if a<b then -1 else if b<a then 1 else 0
def cmpL:List Int→List Int→Int
 |[],[]=>0
 |[],_::_=>-1
 |_::_,[]=>1
 |a::x,b::y=>if a<b then -1 else if b<a then 1 else cmpL x y
def cmpF (a b:TFact):Int:=if a.1<b.1 then -1 else if b.1<a.1 then 1 else cmpL a.2.1 b.2.1
theorem cmpL_zero:∀ {x y:List Int},cmpL x y=0↔x=y
 |[],[]=>by simp[cmpL]
 |[],b::y=>by simp[cmpL]
 |a::x,[]=>by simp[cmpL]
 | a::x,b::y=>by
   unfold cmpL
   split
   · rename_i h;constructor
     · intro h';cases h'
     · intro h';cases h';omega
   · split
     · rename_i h;constructor
       · intro h';cases h'
       · intro h';cases h';omega
     · rw[cmpL_zero]
       have:a=b:=by omega
       simp[this]
theorem cmpF_zero {x y:TFact}:cmpF x y=0↔x=y:=by
 obtain⟨a,b,u⟩:=x;obtain⟨a',b',u'⟩:=y
 unfold cmpF
 simp only
 split
 · rename_i h;constructor
   · intro h';cases h'
   · intro h';cases h';omega
 · split
   · rename_i h;constructor
     · intro h';cases h'
     · intro h';cases h';omega
   · rw[cmpL_zero]
     have:a=a':=by omega
     simp[this]
theorem cmpL_step {x y:List Int} {i:Nat} (h:i<x.length) (h':i<y.length):cmpL (x.drop i) (y.drop i)=if x[i]<y[i] then -1 else if y[i]<x[i] then 1 else cmpL (x.drop (i+1)) (y.drop (i+1)):=by
 rw[drop_cons h,drop_cons h',cmpL]
theorem cmpL_end {x y:List Int} {i:Nat} (h:x.length≤i):cmpL (x.drop i) (y.drop i)=if i<y.length then -1 else 0:=by
 rw[List.drop_of_length_le h]
 by_cases h':i<y.length
 · rw[drop_cons h',if_pos h'];rfl
 · rw[List.drop_of_length_le (by omega),if_neg h'];rfl
theorem cmpL_end' {x y:List Int} {i:Nat} (h:i<x.length) (h':y.length≤i):cmpL (x.drop i) (y.drop i)=1:=by
 rw[List.drop_of_length_le h',drop_cons h];rfl
theorem g_sl4Ints {x y:List Int}:G_sl4Ints x y (cmpL x y):=M_sl4Ints _ _ _ (by
 unfold S_sl4Ints
 refine loopP_down (fun k a=>∃ i:Nat,i+k=x.length∧a=((i:Int),())∧i≤y.length∧cmpL (x.drop i) (y.drop i)=cmpL x y) ?_ ?_ (n:=x.length) ⟨0,by omega,rfl,by omega,by simp⟩
 · rintro a ⟨i,hi,rfl,hy,hc⟩ X
   obtain rfl:i=x.length:=by omega
   rw[cmpL_end (Nat.le_refl _)]at hc
   refine lenI fun h1=>bcN (lenI fun _=>lenI fun h2=>bc_dec (fun h=>?_) (fun h=>lenI fun _=>lenI fun _=>bc_dec (fun h'=>by omega) (fun h'=>?_)))
   · rw[if_pos (by omega)]at hc;rw[←hc]
   · rw[if_neg (by omega)]at hc;rw[←hc]
 · rintro k a ⟨i,hi,rfl,hy,hc⟩ X hX
   have hlt:i<x.length:=by omega
   refine lenI fun h1=>bcI hlt (lenI fun h2=>bc_dec (fun h=>?_) (fun h=>?_))
   · have hlt':i<y.length:=by omega
     refine inI hlt (inI hlt' ?_)
     simp only
     rw[getI hlt,getI hlt']
     rw[cmpL_step hlt hlt']at hc
     refine bc_dec (fun h=>?_) (fun h=>inI hlt (inI hlt' (bc_dec (fun h'=>?_) (fun h'=>?_))))
     · rw[if_pos h]at hc;rw[←hc]
     · rw[if_neg h,if_pos h']at hc;rw[←hc]
     · rw[if_neg h,if_neg (by omega)]at hc
       rw[w64_succ (by omega)]
       exact hX _ ⟨i+1,by omega,rfl,by omega,hc⟩
   · simp only at h
     rw[cmpL_end' hlt (by omega)]at hc
     refine lenI fun _=>lenI fun _=>bc_dec (fun h'=>by omega) (fun h'=>lenI fun _=>lenI fun _=>bc_dec (fun h''=>?_) (fun h''=>by omega))
     rw[←hc])
theorem g_sCompareFacts {x y:TFact}:G_sCompareFacts x y (cmpF x y):=M_sCompareFacts _ _ _ (by
 unfold S_sCompareFacts cmpF
 refine bc_dec (fun h=>by rw[if_pos h]) (fun h=>bc_dec (fun h'=>by rw[if_neg h,if_pos h']) (fun h'=>⟨_,g_sl4Ints,by rw[if_neg h,if_neg (by omega)]⟩)))
theorem g_cmp_isNaN_int {x:Int}:G_cmp_isNaN_int x false:=M_cmp_isNaN_int _ _ (by unfold S_cmp_isNaN_int;simp)
theorem g_cmp_Compare_int {x y:Int}:G_cmp_Compare_int x y (cmpI x y):=M_cmp_Compare_int _ _ _ (by
 unfold S_cmp_Compare_int cmpI
 refine⟨_,g_cmp_isNaN_int,_,g_cmp_isNaN_int,bcF (bcF (bc_dec (fun h=>by rw[if_pos h]) (fun h=>bc_dec (fun h'=>by rw[if_neg h,if_pos h']) (fun h'=>by rw[if_neg h,if_neg h']))))⟩)
theorem cmpI_zero {a b:Int}:cmpI a b=0↔a=b:=by unfold cmpI;split<;>(try split)<;>omega
theorem g_slices_Compare_int {x y:List Int}:G_slices_Compare_int x y (cmpL x y):=M_slices_Compare_int _ _ _ (by
 unfold S_slices_Compare_int
 refine lenI fun h1=>loopP_down (fun k a=>∃ i:Nat,i+k=x.length∧a=((i:Int),())∧cmpL (x.drop i) (y.drop i)=cmpL x y∧i≤y.length) ?_ ?_ (n:=x.length) ⟨0,by omega,rfl,by simp,by omega⟩
 · rintro a ⟨i,hi,rfl,hc,hy⟩ X
   obtain rfl:i=x.length:=by omega
   rw[cmpL_end (Nat.le_refl _)]at hc
   refine bcN (lenI fun _=>lenI fun h2=>bc_dec (fun h=>?_) (fun h=>?_))
   · rw[if_pos (by omega)]at hc;rw[←hc]
   · rw[if_neg (by omega)]at hc;rw[←hc]
 · rintro k a ⟨i,hi,rfl,hc,hy⟩ X hX
   have hlt:i<x.length:=by omega
   refine bcI hlt (inI hlt (lenI fun h2=>bc_dec (fun h=>?_) (fun h=>?_)))
   · simp only at h
     rw[cmpL_end' hlt (by omega)]at hc
     rw[←hc]
   · simp only at h
     have hlt':i<y.length:=by omega
     refine inI hlt' ⟨_,g_cmp_Compare_int,?_⟩
     simp only
     rw[getI hlt,getI hlt']
     rw[cmpL_step hlt hlt']at hc
     refine bc_ne (fun h=>?_) (fun h=>?_)
     · have hne:x[i]≠y[i]:=fun e=>h (cmpI_zero.mpr e)
       rw[←hc]
       unfold cmpI
       by_cases h3:x[i]<y[i]
       · rw[if_pos h3,if_pos h3]
       · rw[if_neg h3,if_neg h3,if_pos (by omega),if_pos (by omega)]
     · have he:=cmpI_zero.mp h
       rw[if_neg (by omega),if_neg (by omega)]at hc
       rw[w64_succ (by omega)]
       exact hX _ ⟨i+1,by omega,rfl,hc,by omega⟩)
def orL:List Int→Int
 |[]=>0
 |a::l=>if a=0 then orL l else a
theorem g_cmp_Or_int {x:List Int}:G_cmp_Or_int x (orL x):=M_cmp_Or_int _ _ (by
 unfold S_cmp_Or_int
 have key:∀ l:List Int,orL l=if h:firstAt (fun t=>t != 0) l<l.length then l[firstAt (fun t=>t != 0) l] else 0:=by
  intro l
  induction l with
  |nil=>simp[orL,firstAt]
  | cons a l ih=>
    unfold orL
    by_cases ha:a=0
    · rw[if_pos ha,ih]
      simp only[firstAt,ha,bne_self_eq_false,Bool.false_eq_true,if_false,List.length_cons,Nat.add_lt_add_iff_right,List.getElem_cons_succ]
    · rw[if_neg ha]
      have:(a != 0)=true:=by simpa using ha
      simp[firstAt,this]
 refine lenI fun hl=>loop_first x (fun t=>t != 0) (fun i=>((i:Int),())) (KT:=fun i=>∀ h:i<x.length,((x[i],()):Int×Unit)=(orL x,())) (KF:=(((0:Int),()):Int×Unit)=(orL x,())) ?_ ?_ ?_ ?_
 · intro i hi X h1 h2
   refine bcI hi (inI hi ?_)
   simp only
   rw[getI hi,w64_succ (by omega)]
   exact bc_if (fun h=>h1 h hi) h2
 · intro X h;exact bcN h
 · intro h h';rw[key,dif_pos h]
 · intro h;rw[key,dif_neg (by omega)])
theorem g_iCompareFacts {x y:TFact}:G_iCompareFacts x y (cmpF x y):=M_iCompareFacts _ _ _ (by
 unfold S_iCompareFacts
 refine⟨_,g_cmp_Compare_int,_,g_slices_Compare_int,_,g_cmp_Or_int,?_⟩
 have:orL [cmpI x.1 y.1,cmpL x.2.1 y.2.1]=cmpF x y:=by
  unfold cmpF
  by_cases h:x.1<y.1
  · have:cmpI x.1 y.1 = -1:=by unfold cmpI;rw[if_pos h]
    rw[if_pos h,this];rfl
  · rw[if_neg h]
    by_cases h':y.1<x.1
    · have:cmpI x.1 y.1=1:=by unfold cmpI;rw[if_neg h,if_pos h']
      rw[if_pos h',this];rfl
    · have:cmpI x.1 y.1=0:=by unfold cmpI;rw[if_neg h,if_neg h']
      rw[if_neg h',this]
      unfold orL
      rw[if_pos rfl]
      unfold orL
      by_cases h0:cmpL x.2.1 y.2.1=0
      · rw[if_pos h0,h0];rfl
      · rw[if_neg h0]
 rw[this])
theorem g_isameFact {x y:TFact}:G_isameFact x y (decide (x=y)):=M_isameFact _ _ _ (by
 unfold S_isameFact
 refine⟨_,g_iCompareFacts,?_⟩
 have:(cmpF x y == (0:Int))=decide (x=y):=by
  by_cases h:x=y
  · rw[cmpF_zero.mpr h];simp[h]
  · have:cmpF x y≠0:=fun e=>h (cmpF_zero.mp e)
    simp[h,this]
 rw[this])
def ins:List Int→Int→List Int
 |[],x=>[x]
 |a::l,x=>if a<x then a::ins l x else if a=x then a::l else x::a::l
def srt (l:List Int):Prop:=l.Pairwise (· < ·)
def sset (l:List Int):List Int:=l.foldl ins []
theorem mem_put {y x:Int}:∀ {l:List Int},y∈ins l x↔y=x∨y∈l
 |[]=>by simp[ins]
 | a::l=>by
   unfold ins
   split
   · rw[List.mem_cons,mem_put,List.mem_cons]
     constructor
     · rintro (h|h|h)<;>simp[h]
     · rintro (h|h|h)<;>simp[h]
   · split
     · rename_i h;subst h;simp
     · simp
theorem srt_put {x:Int}:∀ {l:List Int},srt l→srt (ins l x)
 |[],_=>by simp[ins,srt]
 | a::l,h=>by
   obtain⟨h1,h2⟩:=List.pairwise_cons.mp h
   unfold ins
   split
   · rename_i hlt
     refine List.pairwise_cons.mpr ⟨fun y hy=>?_,srt_put h2⟩
     rcases mem_put.mp hy with rfl|hy
     · exact hlt
     · exact h1 y hy
   · split
     · exact h
     · refine List.pairwise_cons.mpr ⟨fun y hy=>?_,h⟩
       rcases List.mem_cons.mp hy with rfl|hy
       · omega
       · have:=h1 y hy;omega
theorem foldput {l:List Int}:∀ {s:List Int},srt s→srt (l.foldl ins s)∧∀ y,y∈l.foldl ins s↔y∈s∨y∈l:=by
 induction l with
 |nil=>intro s h;exact⟨h,by simp⟩
 | cons a l ih=>
   intro s h
   obtain⟨h1,h2⟩:=ih (srt_put (x:=a) h)
   refine⟨h1,fun y=>?_⟩
   rw[List.foldl_cons,h2,mem_put,List.mem_cons]
   constructor
   · rintro ((h|h)|h)<;>simp[h]
   · rintro (h|h|h)<;>simp[h]
theorem srt_sset (l:List Int):srt (sset l):=(foldput List.Pairwise.nil).1
theorem mem_sset {l:List Int} {y:Int}:y∈sset l↔y∈l:=by have:=(foldput (l:=l) List.Pairwise.nil).2 y;simpa [sset]using this
theorem srt_ext:∀ {a b:List Int},srt a→srt b→(∀ y,y∈a↔y∈b)→a=b
 |[],[],_,_,_=>rfl
 |[],y::b,_,_,h=>by have:=(h y).mpr (by simp);simp at this
 |x::a,[],_,_,h=>by have:=(h x).mp (by simp);simp at this
 | x::a,y::b,ha,hb,h=>by
   obtain⟨ha1,ha2⟩:=List.pairwise_cons.mp ha
   obtain⟨hb1,hb2⟩:=List.pairwise_cons.mp hb
   have hxy:x=y:=by
    rcases List.mem_cons.mp ((h x).mp (by simp))with e|hx
    · exact e
    · rcases List.mem_cons.mp ((h y).mpr (by simp))with e|hy
      · exact e.symm
      · have:=ha1 y hy;have:=hb1 x hx;omega
   subst hxy
   congr 1
   refine srt_ext ha2 hb2 fun z=>⟨fun hz=>?_,fun hz=>?_⟩
   · rcases List.mem_cons.mp ((h z).mp (by simp[hz]))with e|h'
     · have:=ha1 z hz;omega
     · exact h'
   · rcases List.mem_cons.mp ((h z).mpr (by simp[hz]))with e|h'
     · have:=hb1 z hz;omega
     · exact h'
theorem sset_of {a l:List Int} (h1:srt a) (h2:∀ y,y∈a↔y∈l):a=sset l:=srt_ext h1 (srt_sset l) fun y=>by rw[h2,mem_sset]
theorem foldput_sset {l m:List Int}:(sset m).foldl ins (sset l)=sset (l++m):=by
 obtain⟨h1,h2⟩:=foldput (l:=sset m) (srt_sset l)
 exact sset_of h1 fun y=>by rw[h2,mem_sset,mem_sset,List.mem_append]
theorem sset_snoc {l:List Int} {x:Int}:ins (sset l) x=sset (l++[x]):=by unfold sset;rw[List.foldl_append];rfl
theorem put_len (l:List Int) (x:Int):(ins l x).length≤l.length+1:=by
 induction l with
 |nil=>simp[ins]
 |cons a l ih=>unfold ins;split;simp;omega;split<;>simp
theorem sset_len (l:List Int):(sset l).length≤l.length:=by
 have:∀(l s:List Int),(l.foldl ins s).length≤s.length+l.length:=by
  intro l
  induction l with
  |nil=>intro s;simp
  |cons a l ih=>intro s;have:=ih (ins s a);have:=put_len s a;simp only[List.foldl_cons,List.length_cons];omega
 have:=this l []
 simpa [sset]using this
theorem srt_range {l:List Int} {a:Int}:∀ {n:Nat},srt l→(∀ y∈l,a≤y∧y<a+n)→l.length≤n:=by
 induction l generalizing a with
 |nil=>intro n _ _;simp
 | cons x l ih=>
   intro n h hr
   obtain⟨h1,h2⟩:=List.pairwise_cons.mp h
   have hx:=hr x (by simp)
   have:=ih (a:=x+1) (n:=(a+n - (x+1)).toNat) h2 fun y hy=>by
    have:=h1 y hy;have:=hr y (by simp[hy]);omega
   simp only[List.length_cons];omega
theorem srt_last {l:List Int} (h:srt l) (hne:l≠[]):∀ y∈l,y≤l.getLast hne:=by
 intro y hy
 have hs:l=l.dropLast++[l.getLast hne]:=(List.dropLast_concat_getLast hne).symm
 rw[hs]at h hy
 unfold srt at h
 rw[List.pairwise_append]at h
 rcases List.mem_append.mp hy with hy|hy
 · have:=h.2.2 y hy (l.getLast hne) (by simp);omega
 · have:y=l.getLast hne:=by simpa using hy
   omega
theorem put_eq (l:List Int) (x:Int):ins l x=if h:firstAt (fun a=>!decide (a<x)) l<l.length then(if l[firstAt (fun a=>!decide (a<x)) l]=x then l else l.take (firstAt (fun a=>!decide (a<x)) l)++x::l.drop (firstAt (fun a=>!decide (a<x)) l))else l++[x]:=by
 induction l with
 |nil=>simp[ins,firstAt]
 | cons a l ih=>
   unfold ins
   by_cases ha:a<x
   · have e:firstAt (fun a=>!decide (a<x)) (a::l)=firstAt (fun a=>!decide (a<x)) l+1:=by simp[firstAt,ha]
     rw[if_pos ha,ih]
     by_cases hf:firstAt (fun a=>!decide (a<x)) l<l.length
     · rw[dif_pos hf,dif_pos (by rw[e];simpa using hf)]
       simp only[e,List.getElem_cons_succ,List.take_succ_cons,List.drop_succ_cons]
       split
       · rfl
       · rfl
     · rw[dif_neg hf,dif_neg (by rw[e];simpa using hf)]
       rfl
   · have e:firstAt (fun a=>!decide (a<x)) (a::l)=0:=by simp[firstAt,ha]
     rw[if_neg ha,dif_pos (by rw[e];simp)]
     simp only[e,List.getElem_cons_zero,List.take_zero,List.drop_zero,List.nil_append]
theorem g_sl4Put {l:List Int} {x:Int} (hl:l.length≤1073741824):G_sl4Put l x (ins l x):=M_sl4Put _ _ _ (by
 unfold S_sl4Put
 have fin:∀(k:Nat),k≤l.length→((0≤(k:Int)∧(k:Int)≤(List.length l:Int)∧(List.length l:Int)≤(List.length l:Int))∧(([x]:List Int).length+(List.drop (Int.toNat (k:Int)) (List.take (Int.toNat (List.length l:Int)) l)).length≤maxL∧((0≤(0:Int)∧(0:Int)≤(k:Int)∧(k:Int)≤(List.length l:Int))∧(([]:List Int).length+(List.drop (Int.toNat (0:Int)) (List.take (Int.toNat (k:Int)) l)).length≤maxL∧((([]:List Int)++(List.drop (Int.toNat (0:Int)) (List.take (Int.toNat (k:Int)) l))).length+(([x]:List Int)++(List.drop (Int.toNat (k:Int)) (List.take (Int.toNat (List.length l:Int)) l))).length≤maxL∧(((([]:List Int)++(List.drop (Int.toNat (0:Int)) (List.take (Int.toNat (k:Int)) l)))++(([x]:List Int)++(List.drop (Int.toNat (k:Int)) (List.take (Int.toNat (List.length l:Int)) l))),()):List Int×Unit)=(l.take k++x::l.drop k,()))))) ):=by
  intro k hk
  simp only[Int.toNat_natCast,List.take_length,Int.toNat_zero,List.drop_zero,List.nil_append,List.length_nil,List.length_cons,List.length_append,List.length_take,List.length_drop,maxL,List.cons_append]
  refine⟨⟨by omega,by omega,by omega⟩,by omega,⟨by omega,by omega,by omega⟩,by omega,by omega,trivial⟩
 rw[put_eq]
 refine loop_first l (fun a=>!decide (a<x)) (fun i=>((i:Int),())) (KT:=fun i=>∀ h:i<l.length,∀ r:List Int×Unit,r=(if l[i]=x then l else l.take i++x::l.drop i,())→r=((if h:firstAt (fun a=>!decide (a<x)) l<l.length then(if l[firstAt (fun a=>!decide (a<x)) l]=x then l else l.take (firstAt (fun a=>!decide (a<x)) l)++x::l.drop (firstAt (fun a=>!decide (a<x)) l))else l++[x]),()))
  (KF:=∀ r:List Int×Unit,r=(l++[x],())→r=((if h:firstAt (fun a=>!decide (a<x)) l<l.length then(if l[firstAt (fun a=>!decide (a<x)) l]=x then l else l.take (firstAt (fun a=>!decide (a<x)) l)++x::l.drop (firstAt (fun a=>!decide (a<x)) l))else l++[x]),())) ?_ ?_ ?_ ?_
 · intro i hi X h1 h2
   refine lenI fun hl'=>bcI hi (inI hi ?_)
   simp only
   rw[getI hi,w64_succ (by omega)]
   refine bc_dec (fun h=>h2 (by simpa using h)) (fun h=>?_)
   have h1:=h1 (by simpa using h) hi
   refine lenI fun _=>bcI hi (inI hi (bc_beq (fun he=>h1 _ (by rw[if_pos he])) (fun he=>?_)))
   rw[if_neg he]at h1
   have:=fin i (by omega)
   exact⟨this.1,this.2.1,this.2.2.1,this.2.2.2.1,this.2.2.2.2.1,h1 _ this.2.2.2.2.2⟩
 · intro X h
   refine lenI fun hl'=>bcN (lenI fun _=>bcN ?_)
   have:=fin l.length (by omega)
   refine⟨this.1,this.2.1,this.2.2.1,this.2.2.2.1,this.2.2.2.2.1,h _ (this.2.2.2.2.2.trans (by simp))⟩
 · intro h h' r hr;rw[hr,dif_pos h]
 · intro h r hr;rw[hr,dif_neg (by omega)])
theorem g_sl4Has {l:List Int} {x:Int}:G_sl4Has l x (decide (x∈l)):=M_sl4Has _ _ _ (by
 unfold S_sl4Has
 refine loop_any l (fun a=>x == a) (fun i=>((i:Int),())) (KT:=((true,()):Bool×Unit)=(decide (x∈l),())) (KF:=((false,()):Bool×Unit)=(decide (x∈l),())) ?_ (fun X h=>lenI fun _=>bcN h) (fun h=>?_) (fun h=>?_)
 · intro i hi X h1 h2
   refine lenI fun _=>bcI hi (inI hi ?_)
   simp only
   rw[getI hi,w64_succ (by omega)]
   exact bc_beq (fun h=>h1 (by simp[h])) (fun h=>h2 (by simpa using fun e=>h e.symm))
 · rw[any_mem]at h;rw[h]
 · rw[any_mem]at h;rw[h])
theorem sortI_mem {l:List Int} {y:Int}:y∈sortI l↔y∈l:=by unfold sortI;simp
theorem sortI_sorted (l:List Int):(sortI l).Pairwise (·≤·):=by
 unfold sortI
 have:=List.pairwise_mergeSort (le:=fun a b:Int=>decide (a≤b)) (fun a b c h1 h2=>by simp at *;omega) (fun a b=>by simp;omega) l
 exact this.imp fun h=>by simpa using h
theorem comp_sort (l:List Int):compI (sortI l)=sset l:=by
 have hs:=sortI_sorted l
 have hget:∀ i j (hi:i<(sortI l).length) (hj:j<(sortI l).length),i≤j→(sortI l)[i]≤(sortI l)[j]:=by
  intro i j hi hj h
  rcases Nat.lt_or_ge i j with h|h
  · exact List.pairwise_iff_getElem.mp hs i j hi hj h
  · have:i=j:=by omega
    subst this;omega
 have ex:compI (sortI l)=((List.range (sortI l).length).filter (Lib.keeps (sortI l).toArray)).map ((sortI l).toArray[·]!):=rfl
 refine sset_of ?_ ?_
 · rw[ex]
   unfold srt
   rw[List.pairwise_map,List.pairwise_filter]
   refine List.Pairwise.imp_of_mem (R:=(· < ·)) ?_ List.pairwise_lt_range
   intro i j hi hj hij _ kj
   have hi:=List.mem_range.mp hi;have hj:=List.mem_range.mp hj
   have e1:(sortI l).toArray[i]! = (sortI l)[i]:=by simp[hi]
   have e2:(sortI l).toArray[j]! = (sortI l)[j]:=by simp[hj]
   have e3:(sortI l).toArray[j - 1]! = (sortI l)[j - 1]'(by omega):=by rw[getElem!_pos (sortI l).toArray (j - 1) (by simp;omega)];rfl
   rw[e1,e2]
   unfold Lib.keeps at kj
   rw[e2,e3]at kj
   have h1:=hget i (j - 1) hi (by omega) (by omega)
   have h2:=hget (j - 1) j (by omega) hj (by omega)
   rcases of_decide_eq_true kj with h|h
   · omega
   · omega
 · intro y
   rw[ex,List.mem_map]
   constructor
   · rintro⟨j,hj,rfl⟩
     have hj:=List.mem_range.mp (List.mem_filter.mp hj).1
     have e:(sortI l).toArray[j]! = (sortI l)[j]:=by simp[hj]
     rw[e,←sortI_mem];exact List.getElem_mem hj
   · intro hy
     rw[←sortI_mem]at hy
     have hf:firstAt (fun t=>t == y) (sortI l)<(sortI l).length:=firstAt_any.mpr (List.any_eq_true.mpr ⟨y,hy,by simp⟩)
     have h2:=firstAt_at hf
     have h3:(sortI l)[firstAt (fun t=>t == y) (sortI l)]=y:=by simpa using h2
     refine⟨firstAt (fun t=>t == y) (sortI l),List.mem_filter.mpr ⟨List.mem_range.mpr hf,?_⟩,by simp[hf,h3]⟩
     unfold Lib.keeps
     rw[decide_eq_true_iff]
     by_cases h0:firstAt (fun t=>t == y) (sortI l)=0
     · exact .inl h0
     · right
       have hlt:firstAt (fun t=>t == y) (sortI l) - 1<(sortI l).length:=by omega
       have h4:=firstAt_lt (p:=fun t=>t == y) (l:=sortI l) hlt (by omega)
       have e1:(sortI l).toArray[firstAt (fun t=>t == y) (sortI l)]! = y:=by simp[hf,h3]
       have e2:(sortI l).toArray[firstAt (fun t=>t == y) (sortI l) - 1]! = (sortI l)[firstAt (fun t=>t == y) (sortI l) - 1]:=by simp[hlt]
       rw[e1,e2]
       intro e
       rw[←e]at h4;simp at h4
def inR (x a b:Int):Bool:=decide (a≤x)&&decide (x≤b)
theorem any_not {α:Type} {p:α→Bool} {l:List α}:(l.any fun t=>!p t) = !(l.all p):=by
 induction l with
 |nil=>rfl
 |cons a l ih=>simp only[List.any_cons,List.all_cons,ih];cases p a<;>simp
theorem nt {b:Bool} (h:(!b)=true):b=false:=by simpa using h
theorem nf {b:Bool} (h:(!b)=false):b=true:=by simpa using h
theorem flat_split {α β:Type} (f:α→List β) {l:List α} {i:Nat} (h:i<l.length):(l.flatMap f).length=((l.take i).flatMap f).length+((f l[i]).length+((l.drop (i+1)).flatMap f).length):=by
 have e:l=l.take i++l[i]::l.drop (i+1):=by rw[←drop_cons h,List.take_append_drop]
 have:=congrArg (fun m=>(m.flatMap f).length) e
 simp only[List.flatMap_append,List.flatMap_cons,List.length_append]at this
 exact this
theorem inR_iff {x a b:Int}:inR x a b=true↔a≤x∧x≤b:=by simp[inR]
theorem bl_tri:∀ {a b:List UInt8},(Op.bytesLess b a||b == a) = !(Op.bytesLess a b)
 |[],[]=>by decide
 |[],y::b=>by simp[Op.bytesLess]
 |x::a,[]=>by simp[Op.bytesLess]
 | x::a,y::b=>by
   have ih:=bl_tri (a:=a) (b:=b)
   simp only[Op.bytesLess]
   by_cases h:y<x
   · have h2:¬ x<y:=UInt8.lt_asymm h
     have h3:¬ x=y:=by rintro rfl;exact UInt8.lt_irrefl _ h
     simp[h,h2,h3]
   · by_cases h2:x<y
     · have h3:¬ y=x:=by rintro rfl;exact h h2
       simp[h,h2,h3]
     · have h3:x=y:=UInt8.le_antisymm (UInt8.not_lt.mp h) (UInt8.not_lt.mp h2)
       subst h3
       simp only[h,decide_false,beq_self_eq_true,Bool.true_and,Bool.false_or]
       rw[←ih]
       by_cases h4:b=a<;>simp[h4]
def vRel (r:TRel):Bool:=(r.1.length == 1)&&decide (97≤(r.1.getD 0 0).toNat)&&decide ((r.1.getD 0 0).toNat≤122)&&inR r.2.1 1 3
def relAt (l:List TRel) (i:Nat):TRel:=l.getD i zRel
def vRels (l:List TRel):Bool:=((List.range l.length).all fun i=>vRel (relAt l i)&&(i == 0||Op.bytesLess (relAt l (i - 1)).1 (relAt l i).1))&&decide (l.length≤6)
theorem relAt_get {l:List TRel} {i:Nat} (h:i<l.length):relAt l i=l[i]:=getD_at h
theorem vRels_mem {l:List TRel} (h:vRels l=true) {r:TRel} (hr:r∈l):vRel r=true:=by
 unfold vRels at h
 rw[Bool.and_eq_true]at h
 obtain⟨i,hi,rfl⟩:=List.mem_iff_getElem.mp hr
 have:=List.all_eq_true.mp h.1 i (List.mem_range.mpr hi)
 rw[Bool.and_eq_true,relAt_get hi]at this
 exact this.1
theorem vRels_len {l:List TRel} (h:vRels l=true):l.length≤6:=by
 unfold vRels at h;simp at h;exact h.2
theorem vRel_arity {r:TRel} (h:vRel r=true):1≤r.2.1∧r.2.1≤3:=by
 unfold vRel at h;simp[inR]at h;exact h.2
def arity (l:List TRel) (i:Int):Int:=(l.getD (Int.toNat i) zRel).2.1
def srcAt (l:List TRel) (i:Int):Bool:=(l.getD (Int.toNat i) zRel).2.2.1
def vRow (ok:Int→Bool) (l:List TRel) (a:TFact):Bool:=vRels l&&inR a.1 0 ((l.length:Int) - 1)&&((a.2.1.length:Int) == arity l a.1)&&a.2.1.all ok
theorem vRow_spec {ok:Int→Bool} {l:List TRel} {a:TFact} (h:vRow ok l a=true):vRels l=true∧0≤a.1∧a.1<l.length∧(a.2.1.length:Int)=arity l a.1∧a.2.1.length≤3∧∀ v∈a.2.1,ok v=true:=by
 unfold vRow at h
 simp only[Bool.and_eq_true,beq_iff_eq,List.all_eq_true]at h
 obtain⟨⟨⟨h1,h2⟩,h3⟩,h4⟩:=h
 have h2:=inR_iff.mp h2
 have hlt:a.1.toNat<l.length:=by omega
 have:=vRel_arity (vRels_mem h1 (List.getElem_mem hlt))
 have e:arity l a.1=l[a.1.toNat].2.1:=by unfold arity;rw[getD_at hlt]
 exact⟨h1,h2.1,by omega,h3,by omega,h4⟩
def vTerm (t:Int):Bool:=inR t (-10) 4
def vAtom (l:List TRel) (a:TFact):Bool:=vRow vTerm l a
def vars (l:List TFact):List Int:=sset ((l.flatMap (·.2.1)).filter fun t=>decide (0≤t))
def vDep (l:List TRel) (d:TDep):Bool:=inR d.1.length 1 2&&d.1.all (vAtom l) &&
 (if d.2.2.1 then decide (d.2.1=[])&&decide (d.2.2.2.1∈vars d.1)&&decide (d.2.2.2.2.1∈vars d.1)&&decide (d.2.2.2.1<d.2.2.2.2.1)
  else d.2.1.all (fun a=>vAtom l a && !(srcAt l a.1))&&inR d.2.1.length 1 2&&(d.2.2.2.1 == 0)&&(d.2.2.2.2.1 == 0))
def vDeps (l:List TRel) (ds:List TDep):Bool:=ds.all (vDep l)&&vRels l&&decide (ds.length≤5)
def exV (d:TDep):List Int:=(vars d.2.1).filter fun v=>!decide (v∈vars d.1)
def frV (d:TDep):List Int:=(vars d.2.1).filter fun v=>decide (v∈vars d.1)
theorem atoms_len {l:List TRel} {ats:List TFact} (h:ats.all (vAtom l)=true):(ats.flatMap (·.2.1)).length≤3 * ats.length:=by
 induction ats with
 |nil=>simp
 | cons a ats ih=>
   simp only[List.all_cons,Bool.and_eq_true]at h
   have h1:=(vRow_spec h.1).2.2.2.2.1
   have:=ih h.2
   simp only[List.flatMap_cons,List.length_append,List.length_cons]
   omega
theorem vars_len (l:List TFact):(vars l).length≤(l.flatMap (·.2.1)).length:=Nat.le_trans (sset_len _) (List.length_filter_le _ _)
theorem g_sl1In {x a b:Int}:G_sl1In x a b (inR x a b):=M_sl1In _ _ _ _ (by
 unfold S_sl1In inR
 refine bc_dec (fun h=>?_) (fun h=>?_)
 · rw[decide_eq_true (show a≤x from h),Bool.true_and]
 · rw[decide_eq_false (show ¬ a≤x from h),Bool.false_and])
theorem g_iwithin {x a b:Int}:G_iwithin x a b (inR x a b):=M_iwithin _ _ _ _ (by
 unfold S_iwithin inR
 refine bc_dec (fun h=>?_) (fun h=>?_)
 · rw[decide_eq_true h,Bool.true_and]
 · rw[decide_eq_false h,Bool.false_and])
theorem g_sIsValidRelation {r:TRel}:G_sIsValidRelation r (vRel r):=M_sIsValidRelation _ _ (by
 unfold S_sIsValidRelation
 have no:∀ {b:Bool},vRel r=b→((b,()):Bool×Unit)=(vRel r,()):=fun h=>by rw[h]
 refine lenI fun _=>bc_beq (fun h=>?_) (fun h=>no ?_)
 · have h1:r.1.length=1:=by omega
   refine⟨⟨by omega,by omega⟩,?_⟩
   refine bc_dec (fun h2=>⟨⟨by omega,by omega⟩,bc_dec (fun h3=>⟨_,g_sl1In,no ?_⟩) (fun h3=>no ?_)⟩) (fun h2=>no ?_)
   · unfold vRel
     have a1:decide (97≤(r.1.getD 0 0).toNat)=true:=decide_eq_true (by have h2:(97:Int)≤((r.1.getD 0 0).toNat:Int):=h2;omega)
     have a2:decide ((r.1.getD 0 0).toNat≤122)=true:=decide_eq_true (by have h3:((r.1.getD 0 0).toNat:Int)≤122:=h3;omega)
     rw[a1,a2];simp[h1]
   · unfold vRel
     have a2:decide ((r.1.getD 0 0).toNat≤122)=false:=decide_eq_false (by have h3:¬ ((r.1.getD 0 0).toNat:Int)≤122:=h3;omega)
     rw[a2];simp
   · unfold vRel
     have a1:decide (97≤(r.1.getD 0 0).toNat)=false:=decide_eq_false (by have h2:¬ (97:Int)≤((r.1.getD 0 0).toNat:Int):=h2;omega)
     rw[a1];simp
 · unfold vRel
   have:(r.1.length == 1)=false:=by simp;omega
   rw[this];simp)
theorem vRels_no {l:List TRel} {i:Nat} (h:i<l.length) (hp:(vRel (relAt l i)&&(i == 0||Op.bytesLess (relAt l (i - 1)).1 (relAt l i).1))=false):vRels l=false:=by
 unfold vRels
 rw[Bool.and_eq_false_iff];left
 rw[Bool.eq_false_iff];intro hall
 have:=List.all_eq_true.mp hall i (List.mem_range.mpr h)
 rw[hp]at this;cases this
theorem vRels_yes {l:List TRel} (hp:∀ i,i<l.length→(!(vRel (relAt l i)&&(i == 0||Op.bytesLess (relAt l (i - 1)).1 (relAt l i).1)))=false):vRels l=decide (l.length≤6):=by
 unfold vRels
 have:((List.range l.length).all fun i=>vRel (relAt l i)&&(i == 0||Op.bytesLess (relAt l (i - 1)).1 (relAt l i).1))=true:=
  List.all_eq_true.mpr fun i hi=>by have:=hp i (List.mem_range.mp hi);rwa [Bool.not_eq_false']at this
 rw[this,Bool.true_and]
theorem g_sAreValidRelations {l:List TRel}:G_sAreValidRelations l (vRels l):=M_sAreValidRelations _ _ (by
 unfold S_sAreValidRelations
 refine loop_anyI l.length (fun i=>!(vRel (relAt l i)&&(i == 0||Op.bytesLess (relAt l (i - 1)).1 (relAt l i).1))) (fun i=>((i:Int),())) (KT:=((false,()):Bool×Unit)=(vRels l,())) (KF:=((decide ((List.length l:Int)≤6),()):Bool×Unit)=(vRels l,())) ?_ (fun X h=>lenI fun _=>bcN (lenI fun _=>h)) ?_ ?_
 · intro i hi X hb h1 h2
   refine lenI fun hl=>bcI hi (inI hi ⟨_,g_sIsValidRelation,?_⟩)
   simp only
   rw[getI hi,w64_succ (by omega)]
   rw[relAt_get hi]at h1 h2
   refine bc_not (fun h=>h1 (by simp[h])) (fun h=>bc_dec (fun h0=>?_) (fun h0=>h2 (by obtain rfl:i=0:=(by omega);simp[h])))
   have hi':i - 1<l.length:=by omega
   have hw:w64 ((i:Int) - 1)=((i - 1:Nat):Int):=by rw[w64_id (by omega) (by omega)];omega
   rw[hw]
   refine inI hi' (inI hi ?_)
   rw[getI hi']
   rw[relAt_get hi']at h1 h2
   have hz:(i == 0)=false:=by simp;omega
   rw[hz,Bool.false_or,h,Bool.true_and]at h1 h2
   exact bc_if (fun h=>h1 h) (fun h=>h2 h)
 · rintro⟨i,hi,hp⟩
   rw[vRels_no hi (by rwa [Bool.not_eq_true']at hp)]
 · intro hp
   rw[vRels_yes hp]
   congr 1
   exact decide_eq_decide.mpr (by omega))
theorem g_iIsValidRelation {r:TRel}:G_iIsValidRelation r (vRel r):=M_iIsValidRelation _ _ (by
 unfold S_iIsValidRelation
 have no:∀ {b:Bool},vRel r=b→((b,()):Bool×Unit)=(vRel r,()):=fun h=>by rw[h]
 refine lenI fun _=>bc_beq (fun h=>?_) (fun h=>no ?_)
 · have h1:r.1.length=1:=by omega
   obtain⟨c,hc⟩:∃ c,r.1=[c]:=List.length_eq_one_iff.mp h1
   rw[hc]
   have e1:(!(Op.bytesLess [c] [97]))=decide (97≤c.toNat):=by
    simp only[Op.bytesLess,Bool.and_false,Bool.or_false]
    by_cases h:c<97
    · have:c.toNat<97:=h
      simp[h];omega
    · have:¬ c.toNat<97:=h
      simp[h];omega
   have e2:(Op.bytesLess [c] [122]||[c] == [122])=decide (c.toNat≤122):=by
    simp only[Op.bytesLess,Bool.and_false,Bool.or_false]
    by_cases h:c<122
    · have:c.toNat<122:=h
      simp[h];omega
    · have:¬ c.toNat<122:=h
      by_cases h2:c=122
      · subst h2;simp
      · have h3:c.toNat≠122:=fun e=>h2 (UInt8.toNat_inj.mp e)
        have d2:([c] == [(122:UInt8)])=false:=by simp[h2]
        rw[decide_eq_false h,d2,decide_eq_false (by omega)];rfl
   rw[e1,e2]
   refine bc_dec (fun h2=>bc_dec (fun h3=>⟨_,g_iwithin,no ?_⟩) (fun h3=>no ?_)) (fun h2=>no ?_)
   · unfold vRel;rw[hc];simp[h2,h3]
   · unfold vRel;rw[hc]
     show((1 == 1)&&decide (97≤c.toNat)&&decide (c.toNat≤122)&&inR r.2.1 1 3)=false
     rw[decide_eq_false h3];simp
   · unfold vRel;rw[hc]
     show((1 == 1)&&decide (97≤c.toNat)&&decide (c.toNat≤122)&&inR r.2.1 1 3)=false
     rw[decide_eq_false h2];simp
 · unfold vRel
   have:(r.1.length == 1)=false:=by simp;omega
   rw[this];simp)
theorem g_iAreValidRelations {l:List TRel}:G_iAreValidRelations l (vRels l):=M_iAreValidRelations _ _ (by
 unfold S_iAreValidRelations
 refine lenI fun hl=>loop_anyI l.length (fun i=>!(vRel (relAt l i)&&(i == 0||Op.bytesLess (relAt l (i - 1)).1 (relAt l i).1))) (fun i=>((i:Int),())) (KT:=((false,()):Bool×Unit)=(vRels l,())) (KF:=((decide ((List.length l:Int)≤6),()):Bool×Unit)=(vRels l,())) ?_ (fun X h=>bcN (lenI fun _=>h)) ?_ ?_
 · intro i hi X hb h1 h2
   refine bcI hi (inI hi ⟨_,g_iIsValidRelation,?_⟩)
   simp only
   rw[getI hi,w64_succ (by omega)]
   rw[relAt_get hi]at h1 h2
   refine bc_not (fun h=>h1 (by simp[h])) (fun h=>bc_dec (fun h0=>?_) (fun h0=>h2 (by obtain rfl:i=0:=(by omega);simp[h])))
   have hi':i - 1<l.length:=by omega
   have hw:w64 ((i:Int) - 1)=((i - 1:Nat):Int):=by rw[w64_id (by omega) (by omega)];omega
   rw[hw]
   refine inI hi' ?_
   rw[getI hi']
   rw[relAt_get hi']at h1 h2
   have hz:(i == 0)=false:=by simp;omega
   rw[hz,Bool.false_or,h,Bool.true_and]at h1 h2
   rw[bl_tri]
   exact bc_if (fun h=>h1 h) (fun h=>h2 h)
 · rintro⟨i,hi,hp⟩
   rw[vRels_no hi (by rwa [Bool.not_eq_true']at hp)]
 · intro hp
   rw[vRels_yes hp]
   congr 1
   exact decide_eq_decide.mpr (by omega))
theorem row_start {l:List TRel} {a:TFact} (h:inR a.1 0 (w64 ((l.length:Int) - 1))=true) (hl:(l.length:Int)≤9223372036854775807):0≤a.1∧a.1<(l.length:Int):=by
 have:=inR_iff.mp h
 rw[w64_id (by omega) (by omega)]at this
 omega
theorem row_range {l:List TRel} {a:TFact} (hl:(l.length:Int)≤9223372036854775807):inR a.1 0 (w64 ((l.length:Int) - 1))=inR a.1 0 ((l.length:Int) - 1):=by
 rw[w64_id (by omega) (by omega)]
theorem row_no1 {ok:Int→Bool} {l:List TRel} {a:TFact} (h:vRels l=false):((false,()):Bool×Unit)=(vRow ok l a,()):=by unfold vRow;rw[h];simp
theorem row_no2 {ok:Int→Bool} {l:List TRel} {a:TFact} (hl:(l.length:Int)≤9223372036854775807) (h:inR a.1 0 (w64 ((l.length:Int) - 1))=false):((false,()):Bool×Unit)=(vRow ok l a,()):=by
 rw[row_range hl]at h;unfold vRow;rw[h];simp
theorem row_no3 {ok:Int→Bool} {l:List TRel} {a:TFact} (h:(a.2.1.length:Int)≠(l.getD (Int.toNat a.1) zRel).2.1):((false,()):Bool×Unit)=(vRow ok l a,()):=by
 have:((a.2.1.length:Int) == arity l a.1)=false:=by simpa [arity]using h
 unfold vRow;rw[this];simp
theorem row_yes {ok:Int→Bool} {l:List TRel} {a:TFact} {b:Bool} (hl:(l.length:Int)≤9223372036854775807) (h1:vRels l=true) (h2:inR a.1 0 (w64 ((l.length:Int) - 1))=true) (h3:(a.2.1.length:Int)=(l.getD (Int.toNat a.1) zRel).2.1) (hb:b=a.2.1.all ok):((b,()):Bool×Unit)=(vRow ok l a,()):=by
 rw[row_range hl]at h2
 have:((a.2.1.length:Int) == arity l a.1)=true:=by simpa [arity]using h3
 unfold vRow;rw[h1,h2,this,hb];simp
theorem g_sIsValidAtom {l:List TRel} {a:TFact}:G_sIsValidAtom l a (vAtom l a):=M_sIsValidAtom _ _ _ (by
 unfold S_sIsValidAtom vAtom
 refine⟨_,g_sAreValidRelations,bc_not (fun h=>row_no1 h) (fun h1=>lenI fun hl=>⟨_,g_sl1In,bc_not (fun h=>row_no2 hl h) (fun h2=>lenI fun hl2=>⟨row_start h2 hl,bc_ne (fun h=>row_no3 h) (fun h3=>?_)⟩)⟩)⟩
 refine loop_any a.2.1 (fun t=>!vTerm t) (fun i=>((i:Int),())) (KT:=((false,()):Bool×Unit)=(vRow vTerm l a,())) (KF:=((true,()):Bool×Unit)=(vRow vTerm l a,())) ?_ (fun X h=>lenI fun _=>bcN h) ?_ ?_
 · intro i hi X q1 q2
   refine lenI fun _=>bcI hi (inI hi ⟨_,g_sl1In,?_⟩)
   simp only
   rw[getI hi,w64_succ (by omega)]
   exact bc_if (fun h=>q1 h) (fun h=>q2 h)
 · intro h;exact row_yes hl h1 h2 h3 (by rw[any_not]at h;exact(nt h).symm)
 · intro h;exact row_yes hl h1 h2 h3 (by rw[any_not]at h;exact(nf h).symm))
theorem g_iIsValidAtom_1 {t:Int}:G_iIsValidAtom_1 t (!vTerm t):=M_iIsValidAtom_1 _ _ (by unfold S_iIsValidAtom_1;exact⟨_,g_iwithin,rfl⟩)
theorem g_iIsValidAtom {l:List TRel} {a:TFact}:G_iIsValidAtom l a (vAtom l a):=M_iIsValidAtom _ _ _ (by
 unfold S_iIsValidAtom vAtom
 refine⟨_,g_iAreValidRelations,bc_not (fun h=>row_no1 h) (fun h1=>lenI fun hl=>⟨_,g_iwithin,bc_not (fun h=>row_no2 hl h) (fun h2=>lenI fun hl2=>⟨row_start h2 hl,bc_ne (fun h=>row_no3 h) (fun h3=>?_)⟩)⟩)⟩
 exact⟨_,g_slices_ContainsFunc_int_c_iIsValidAtom_1 (fun t=>!vTerm t) (fun _ _=>g_iIsValidAtom_1),row_yes hl h1 h2 h3 (by rw[any_not];simp)⟩)
theorem g_sVariables {l:List TFact} (hl:(l.flatMap (·.2.1)).length≤1073741824):G_sVariables l (vars l):=M_sVariables _ _ (by
 unfold S_sVariables
 refine loopP_of l.length (fun i=>((i:Int),(vars (l.take i),()))) (by simp[vars,sset]) ?_ ?_
 · intro i hi X hX
   refine lenI fun hl1=>bcI hi ?_
   simp only
   rw[getI hi]
   have hsub:((l.take i).flatMap (·.2.1)).length+l[i].2.1.length≤1073741824:=by
    have:=flat_split (·.2.1) hi
    omega
   have hset:∀ j,j≤l[i].2.1.length→(sset (((l.take i).flatMap (·.2.1)++l[i].2.1.take j).filter fun t=>decide (0≤t))).length≤1073741824:=by
    intro j hj
    refine Nat.le_trans (sset_len _) (Nat.le_trans (List.length_filter_le _ _) ?_)
    rw[List.length_append,List.length_take];omega
   refine loopP_of l[i].2.1.length (fun j=>(sset (((l.take i).flatMap (·.2.1)++l[i].2.1.take j).filter fun t=>decide (0≤t)),((j:Int),()))) (by simp[vars]) ?_ ?_
   · intro j hj Y hY
     refine inI hi (lenI fun _=>bcI hj (inI hi (inI hj ?_)))
     simp only
     rw[getI hj,w64_succ (by omega)]
     have e:((l.take i).flatMap (·.2.1)++l[i].2.1.take (j+1)).filter (fun t=>decide (0≤t))=((l.take i).flatMap (·.2.1)++l[i].2.1.take j).filter (fun t=>decide (0≤t))++(if 0≤l[i].2.1[j] then[l[i].2.1[j]] else[]):=by
      rw[take_succ_snoc hj,←List.append_assoc,List.filter_append]
      by_cases h:0≤l[i].2.1[j]<;>simp[h]
     rw[e]at hY
     refine bc_dec (fun h=>inI hi (inI hj ⟨_,g_sl4Put (hset j (by omega)),?_⟩)) (fun h=>?_)
     · have h:0≤l[i].2.1[j]:=h
       rw[if_pos h]at hY
       rw[sset_snoc];exact hY
     · have h:¬ 0≤l[i].2.1[j]:=h
       rw[if_neg h,List.append_nil]at hY;exact hY
   · intro Y
     refine inI hi (lenI fun _=>bcN ?_)
     simp only
     rw[w64_succ (by omega),List.take_length]
     have:sset (((l.take i).flatMap (·.2.1)++l[i].2.1).filter fun t=>decide (0≤t))=vars (l.take (i+1)):=by
      unfold vars;rw[take_succ_snoc hi,List.flatMap_append];simp
     rw[this];exact hX
 · intro X
   refine lenI fun _=>bcN ?_
   simp only[List.take_length])
theorem g_iVariables {l:List TFact} (hl:(l.flatMap (·.2.1)).length≤1073741824):G_iVariables l (vars l):=M_iVariables _ _ (by
 unfold S_iVariables
 refine lenI fun hl1=>?_
 refine loopP_of l.length (fun i=>((i:Int),(((l.take i).flatMap (·.2.1)).filter (fun t=>decide (0≤t)),()))) (by simp) ?_ ?_
 · intro i hi X hX
   refine bcI hi (inI hi ?_)
   simp only
   rw[getI hi,w64_succ (by omega)]
   have hsub:((l.take i).flatMap (·.2.1)).length+l[i].2.1.length≤1073741824:=by
    have:=flat_split (·.2.1) hi
    omega
   refine lenI fun _=>loopP_of l[i].2.1.length (fun j=>((j:Int),(((l.take i).flatMap (·.2.1)++l[i].2.1.take j).filter (fun t=>decide (0≤t)),()))) (by simp) ?_ ?_
   · intro j hj Y hY
     refine bcI hj (inI hj ?_)
     simp only
     rw[getI hj,w64_succ (by omega)]
     have e:((l.take i).flatMap (·.2.1)++l[i].2.1.take (j+1)).filter (fun t=>decide (0≤t))=((l.take i).flatMap (·.2.1)++l[i].2.1.take j).filter (fun t=>decide (0≤t))++(if 0≤l[i].2.1[j] then[l[i].2.1[j]] else[]):=by
      rw[take_succ_snoc hj,←List.append_assoc,List.filter_append]
      by_cases h:0≤l[i].2.1[j]<;>simp[h]
     rw[e]at hY
     have hb:=List.length_filter_le (fun t=>decide (0≤t)) ((l.take i).flatMap (·.2.1)++l[i].2.1.take j)
     rw[List.length_append,List.length_take]at hb
     refine bc_dec (fun h=>⟨by simp only[maxL,List.length_cons,List.length_nil];omega,?_⟩) (fun h=>?_)
     · have h:0≤l[i].2.1[j]:=h
       rw[if_pos h]at hY;exact hY
     · have h:¬ 0≤l[i].2.1[j]:=h
       rw[if_neg h,List.append_nil]at hY;exact hY
   · intro Y
     refine bcN ?_
     simp only
     rw[List.take_length]
     have:((l.take i).flatMap (·.2.1)++l[i].2.1).filter (fun t=>decide (0≤t))=((l.take (i+1)).flatMap (·.2.1)).filter (fun t=>decide (0≤t)):=by
      rw[take_succ_snoc hi,List.flatMap_append];simp
     rw[this];exact hX
 · intro X
   refine bcN ⟨_,g_slices_Sort_int_ooz ?_,_,g_slices_Compact_int_ooz,?_⟩
   · simp only[List.take_length]
     have:=List.length_filter_le (fun t=>decide (0≤t)) (l.flatMap (·.2.1));omega
   · simp only[List.take_length]
     rw[comp_sort];rfl)
theorem vDep_no1 {l:List TRel} {d:TDep} (h:inR d.1.length 1 2=false):((false,()):Bool×Unit)=(vDep l d,()):=by unfold vDep;rw[h];simp
theorem vDep_no2 {l:List TRel} {d:TDep} (h:d.1.all (vAtom l)=false):((false,()):Bool×Unit)=(vDep l d,()):=by unfold vDep;rw[h];simp
theorem g_sIsValidDependency {l:List TRel} {d:TDep}:G_sIsValidDependency l d (vDep l d):=M_sIsValidDependency _ _ _ (by
 unfold S_sIsValidDependency
 refine lenI fun hl=>⟨_,g_sl1In,bc_not (fun h=>vDep_no1 h) (fun h1=>?_)⟩
 refine loop_any d.1 (fun a=>!vAtom l a) (fun i=>((i:Int),())) (KT:=((false,()):Bool×Unit)=(vDep l d,())) (KF:=d.1.all (vAtom l)=true) ?_ ?_ ?_ ?_
 · intro i hi X q1 q2
   refine lenI fun _=>bcI hi (inI hi ⟨_,g_sIsValidAtom,?_⟩)
   simp only
   rw[getI hi,w64_succ (by omega)]
   exact bc_if (fun h=>q1 h) (fun h=>q2 h)
 · intro X hall
   have hlen:=inR_iff.mp h1
   have hal:=atoms_len hall
   refine lenI fun _=>bcN (bc_if (fun he=>?_) (fun he=>?_))
   · have ev:vDep l d=(decide (d.2.1=[])&&decide (d.2.2.2.1∈vars d.1)&&decide (d.2.2.2.2.1∈vars d.1)&&decide (d.2.2.2.1<d.2.2.2.2.1)):=by
      unfold vDep;rw[h1,hall,he];simp
     rw[ev]
     refine⟨_,g_sVariables (by omega),lenI fun _=>bc_beq (fun h=>⟨_,g_sl4Has,bc_dec (fun h2=>⟨_,g_sl4Has,bc_dec (fun h3=>?_) (fun h3=>?_)⟩) (fun h2=>?_)⟩) (fun h=>?_)⟩
     · have:d.2.1=[]:=List.length_eq_zero_iff.mp (by omega)
       simp[this,h2,h3]
     · simp[h3]
     · simp[h2]
     · have:d.2.1≠[]:=by intro e;rw[e]at h;simp at h
       simp[this]
   · have ev:vDep l d=(d.2.1.all (fun a=>vAtom l a && !(srcAt l a.1))&&inR d.2.1.length 1 2&&(d.2.2.2.1 == 0)&&(d.2.2.2.2.1 == 0)):=by
      unfold vDep;rw[h1,hall,he];simp
     rw[ev]
     refine loop_any d.2.1 (fun a=>!(vAtom l a && !(srcAt l a.1))) (fun i=>((i:Int),())) (KT:=d.2.1.all (fun a=>vAtom l a && !(srcAt l a.1))=false) (KF:=d.2.1.all (fun a=>vAtom l a && !(srcAt l a.1))=true) ?_ ?_ ?_ ?_
     · intro i hi X q1 q2
       refine lenI fun _=>bcI hi (inI hi ⟨_,g_sIsValidAtom,?_⟩)
       simp only
       rw[getI hi,w64_succ (by omega)]
       have no:d.2.1.all (fun a=>vAtom l a && !(srcAt l a.1))=false→((false,()):Bool×Unit)=(d.2.1.all (fun a=>vAtom l a && !(srcAt l a.1))&&inR d.2.1.length 1 2&&(d.2.2.2.1 == 0)&&(d.2.2.2.2.1 == 0),()):=fun h=>by rw[h];simp
       refine bc_not (fun h=>no (q1 (by simp[h]))) (fun h=>inI hi ⟨?_,bc_if (fun h'=>no (q1 ?_)) (fun h'=>q2 ?_)⟩)
       · have:=vRow_spec h;exact⟨this.2.1,this.2.2.1⟩
       · have:srcAt l d.2.1[i].1=true:=h'
         simp[this]
       · have:srcAt l d.2.1[i].1=false:=h'
         simp[this,h]
     · intro X hh
       refine lenI fun _=>bcN (lenI fun _=>⟨_,g_sl1In,?_⟩)
       rw[hh]
       refine bc_if (fun h2=>bc_beq (fun h3=>?_) (fun h3=>?_)) (fun h2=>?_)
       · rw[h2,h3];simp
       · have:(d.2.2.2.1 == 0)=false:=by simpa using h3
         rw[this];simp
       · rw[h2];simp
     · intro h;rw[any_not]at h;exact nt h
     · intro h;rw[any_not]at h;exact nf h
 · intro h;rw[any_not]at h;exact vDep_no2 (nt h)
 · intro h;rw[any_not]at h;exact nf h)
theorem g_iareAtoms_1 {l:List TRel} {a:TFact}:G_iareAtoms_1 a l (!vAtom l a):=M_iareAtoms_1 _ _ _ (by unfold S_iareAtoms_1;exact⟨_,g_iIsValidAtom,rfl⟩)
theorem g_iareAtoms {l:List TRel} {ats:List TFact} {n:Int}:G_iareAtoms l ats n (inR ats.length 1 n&&ats.all (vAtom l)):=M_iareAtoms _ _ _ _ (by
 unfold S_iareAtoms
 refine lenI fun _=>⟨_,g_iwithin,bc_if (fun h=>⟨_,g_slices_ContainsFunc_Atom_c_iareAtoms_1 (fun a=>!vAtom l a) (fun _ _=>g_iareAtoms_1),?_⟩) (fun h=>?_)⟩
 · rw[h,Bool.true_and,any_not];simp
 · rw[h,Bool.false_and])
theorem g_iIsValidDependency_1 {l:List TRel} {a:TFact} (h0:0≤a.1) (h1:a.1<l.length):G_iIsValidDependency_1 a l (srcAt l a.1):=M_iIsValidDependency_1 _ _ _ (by unfold S_iIsValidDependency_1;exact⟨⟨h0,h1⟩,rfl⟩)
theorem g_iIsValidDependency {l:List TRel} {d:TDep}:G_iIsValidDependency l d (vDep l d):=M_iIsValidDependency _ _ _ (by
 unfold S_iIsValidDependency
 refine⟨_,g_iareAtoms,bc_not (fun h=>?_) (fun h=>?_)⟩
 · unfold vDep;rw[h];simp
 · have h':=Bool.and_eq_true_iff.mp h
   have hlen:=inR_iff.mp h'.1
   have hal:=atoms_len h'.2
   refine bc_if (fun he=>?_) (fun he=>?_)
   · have ev:vDep l d=(decide (d.2.1=[])&&decide (d.2.2.2.1∈vars d.1)&&decide (d.2.2.2.2.1∈vars d.1)&&decide (d.2.2.2.1<d.2.2.2.2.1)):=by
      unfold vDep;rw[h'.1,h'.2,he];simp
     rw[ev]
     refine⟨_,g_iVariables (by omega),lenI fun _=>bc_beq (fun h0=>bc_dec (fun h1=>⟨_,g_slices_Contains_int,bc_dec (fun h2=>⟨_,g_slices_Contains_int,?_⟩) (fun h2=>?_)⟩) (fun h1=>?_)) (fun h0=>?_)⟩
     · have:d.2.1=[]:=List.length_eq_zero_iff.mp (by omega)
       simp[this,h1,h2]
     · simp[h2]
     · simp[h1]
     · have:d.2.1≠[]:=by intro e;rw[e]at h0;simp at h0
       simp[this]
   · have ev:vDep l d=(d.2.1.all (fun a=>vAtom l a && !(srcAt l a.1))&&inR d.2.1.length 1 2&&(d.2.2.2.1 == 0)&&(d.2.2.2.2.1 == 0)):=by
      unfold vDep;rw[h'.1,h'.2,he];simp
     rw[ev]
     have hand:d.2.1.all (fun a=>vAtom l a && !(srcAt l a.1))=(d.2.1.all (vAtom l)&&d.2.1.all fun a=>!(srcAt l a.1)):=by
      generalize d.2.1=m
      induction m with
      |nil=>rfl
      |cons a m ih=>simp only[List.all_cons,ih];cases vAtom l a<;>cases srcAt l a.1<;>simp
     rw[hand]
     refine⟨_,g_iareAtoms,bc_if (fun h1=>bc_beq (fun h2=>bc_beq (fun h3=>?_) (fun h3=>?_)) (fun h2=>?_)) (fun h1=>?_)⟩
     · have h1:=Bool.and_eq_true_iff.mp h1
       refine⟨_,g_slices_ContainsFunc_Atom_c_iIsValidDependency_1 (fun a=>srcAt l a.1) (fun a ha=>?_),?_⟩
       · have:=vRow_spec (List.all_eq_true.mp h1.2 a ha)
         exact g_iIsValidDependency_1 this.2.1 this.2.2.1
       · rw[h1.1,h1.2,h2,h3,List.not_any_eq_all_not];simp
     · have:(d.2.2.2.2.1 == 0)=false:=by simpa using h3
       rw[this];simp
     · have:(d.2.2.2.1 == 0)=false:=by simpa using h2
       rw[this];simp
     · rcases Bool.and_eq_false_iff.mp h1 with h1|h1<;>rw[h1]<;>simp)
theorem g_sAreValidDependencies {l:List TRel} {ds:List TDep}:G_sAreValidDependencies l ds (vDeps l ds):=M_sAreValidDependencies _ _ _ (by
 unfold S_sAreValidDependencies
 refine loop_any ds (fun d=>!vDep l d) (fun i=>((i:Int),())) (KT:=ds.all (vDep l)=false) (KF:=ds.all (vDep l)=true) ?_ ?_ ?_ ?_
 · intro i hi X q1 q2
   refine lenI fun _=>bcI hi (inI hi ⟨_,g_sIsValidDependency,?_⟩)
   simp only
   rw[getI hi,w64_succ (by omega)]
   exact bc_if (fun h=>by unfold vDeps;rw[q1 h];simp) (fun h=>q2 h)
 · intro X h
   refine lenI fun _=>bcN ⟨_,g_sAreValidRelations,bc_if (fun h1=>lenI fun _=>?_) (fun h1=>?_)⟩
   · unfold vDeps;rw[h,h1]
     have:decide ((ds.length:Int)≤5)=decide (ds.length≤5):=decide_eq_decide.mpr (by omega)
     rw[this];simp
   · unfold vDeps;rw[h1];simp
 · intro h;rw[any_not]at h;exact nt h
 · intro h;rw[any_not]at h;exact nf h)
theorem g_iAreValidDependencies_1 {l:List TRel} {d:TDep}:G_iAreValidDependencies_1 d l (!vDep l d):=M_iAreValidDependencies_1 _ _ _ (by unfold S_iAreValidDependencies_1;exact⟨_,g_iIsValidDependency,rfl⟩)
theorem g_iAreValidDependencies {l:List TRel} {ds:List TDep}:G_iAreValidDependencies l ds (vDeps l ds):=M_iAreValidDependencies _ _ _ (by
 unfold S_iAreValidDependencies
 refine⟨_,g_iAreValidRelations,bc_if (fun h1=>lenI fun _=>bc_dec (fun h2=>⟨_,g_slices_ContainsFunc_Dependency_c_iAreValidDependencies_1 (fun d=>!vDep l d) (fun _ _=>g_iAreValidDependencies_1),?_⟩) (fun h2=>?_)) (fun h1=>?_)⟩
 · have:decide (ds.length≤5)=true:=decide_eq_true (by omega)
   unfold vDeps;rw[h1,this,any_not];simp
 · have:decide (ds.length≤5)=false:=decide_eq_false (by omega)
   unfold vDeps;rw[this];simp
 · unfold vDeps;rw[h1];simp)
theorem g_sExistentialVariables {d:TDep} (h1:(d.1.flatMap (·.2.1)).length≤1073741824) (h2:(d.2.1.flatMap (·.2.1)).length≤1073741824):G_sExistentialVariables d (exV d):=M_sExistentialVariables _ _ (by
 unfold S_sExistentialVariables
 have hv:=vars_len d.2.1
 refine⟨_,g_sVariables h1,_,g_sVariables h2,?_⟩
 refine loopP_of (vars d.2.1).length (fun i=>((i:Int),(((vars d.2.1).take i).filter (fun v=>!decide (v∈vars d.1)),()))) (by simp) ?_ ?_
 · intro i hi X hX
   refine lenI fun _=>bcI hi (inI hi ⟨_,g_sl4Has,?_⟩)
   simp only
   rw[getI hi,w64_succ (by omega)]
   have e:((vars d.2.1).take (i+1)).filter (fun v=>!decide (v∈vars d.1))=((vars d.2.1).take i).filter (fun v=>!decide (v∈vars d.1))++(if (vars d.2.1)[i]∈vars d.1 then[] else[(vars d.2.1)[i]]):=by
    rw[take_succ_snoc hi,List.filter_append]
    by_cases h:(vars d.2.1)[i]∈vars d.1<;>simp[h]
   rw[e]at hX
   have hb:=List.length_filter_le (fun v=>!decide (v∈vars d.1)) ((vars d.2.1).take i)
   rw[List.length_take]at hb
   refine bc_if (fun h=>inI hi ⟨by simp only[maxL,List.length_cons,List.length_nil];omega,?_⟩) (fun h=>?_)
   · have h:¬ (vars d.2.1)[i]∈vars d.1:=by simpa using h
     rw[if_neg h]at hX;exact hX
   · have h:(vars d.2.1)[i]∈vars d.1:=by simpa using h
     rw[if_pos h,List.append_nil]at hX;exact hX
 · intro X
   refine lenI fun _=>bcN ?_
   simp only[List.take_length]
   rfl)
def hdV (d:TDep) (b:Bool):List Int:=(vars d.2.1).filter fun v=>decide (v∈vars d.1) == b
theorem g_iheadVariables {d:TDep} {b:Bool} (h1:(d.1.flatMap (·.2.1)).length≤1073741824) (h2:(d.2.1.flatMap (·.2.1)).length≤1073741824):G_iheadVariables d b (hdV d b):=M_iheadVariables _ _ _ (by
 unfold S_iheadVariables
 have hv:=vars_len d.2.1
 refine⟨_,g_iVariables h1,_,g_iVariables h2,lenI fun _=>?_⟩
 refine loopP_of (vars d.2.1).length (fun i=>((i:Int),(((vars d.2.1).take i).filter (fun v=>decide (v∈vars d.1) == b),()))) (by simp) ?_ ?_
 · intro i hi X hX
   refine bcI hi (inI hi ⟨_,g_slices_Contains_int,?_⟩)
   simp only
   rw[getI hi,w64_succ (by omega)]
   have e:((vars d.2.1).take (i+1)).filter (fun v=>decide (v∈vars d.1) == b)=((vars d.2.1).take i).filter (fun v=>decide (v∈vars d.1) == b)++(if (decide ((vars d.2.1)[i]∈vars d.1) == b)=true then[(vars d.2.1)[i]] else[]):=by
    rw[take_succ_snoc hi,List.filter_append]
    cases h:(decide ((vars d.2.1)[i]∈vars d.1) == b)<;>simp[h]
   rw[e]at hX
   have hb:=List.length_filter_le (fun v=>decide (v∈vars d.1) == b) ((vars d.2.1).take i)
   rw[List.length_take]at hb
   refine bc_if (fun h=>⟨by simp only[maxL,List.length_cons,List.length_nil];omega,?_⟩) (fun h=>?_)
   · rw[if_pos h]at hX;exact hX
   · rw[if_neg (by rw[h];simp),List.append_nil]at hX;exact hX
 · intro X
   refine bcN ?_
   simp only[List.take_length]
   rfl)
theorem hdV_false (d:TDep):hdV d false=exV d:=by unfold hdV exV;congr 1;funext v;by_cases h:v∈vars d.1<;>simp[h]
theorem hdV_true (d:TDep):hdV d true=frV d:=by unfold hdV frV;congr 1;funext v;by_cases h:v∈vars d.1<;>simp[h]
theorem g_iExistentialVariables {d:TDep} (h1:(d.1.flatMap (·.2.1)).length≤1073741824) (h2:(d.2.1.flatMap (·.2.1)).length≤1073741824):G_iExistentialVariables d (exV d):=M_iExistentialVariables _ _ (by
 unfold S_iExistentialVariables
 exact⟨_,g_iheadVariables h1 h2,by rw[hdV_false]⟩)
theorem vDep_spec {l:List TRel} {d:TDep} (h:vDep l d=true):1≤d.1.length∧d.1.length≤2∧(∀ a∈d.1,vAtom l a=true)∧d.2.1.length≤2∧(∀ a∈d.2.1,vAtom l a=true)∧(d.1.flatMap (·.2.1)).length≤6∧(d.2.1.flatMap (·.2.1)).length≤6:=by
 unfold vDep at h
 rw[Bool.and_eq_true,Bool.and_eq_true]at h
 obtain⟨⟨h1,h2⟩,h3⟩:=h
 have h1:=inR_iff.mp h1
 have l1:=atoms_len h2
 cases he:d.2.2.1 with
 | true=>
   rw[if_pos he]at h3
   simp only[Bool.and_eq_true,decide_eq_true_eq]at h3
   have:=h3.1.1.1
   exact⟨by omega,by omega,List.all_eq_true.mp h2,by simp[this],by simp[this],by omega,by simp[this]⟩
 | false=>
   rw[if_neg (by simp[he])]at h3
   simp only[Bool.and_eq_true]at h3
   have hr:=inR_iff.mp h3.1.1.2
   have h4:d.2.1.all (vAtom l)=true:=List.all_eq_true.mpr fun a ha=>by
    have:=List.all_eq_true.mp h3.1.1.1 a ha
    rw[Bool.and_eq_true]at this;exact this.1
   have l2:=atoms_len h4
   exact⟨by omega,by omega,List.all_eq_true.mp h2,by omega,List.all_eq_true.mp h4,by omega,by omega⟩
theorem vDeps_mem {l:List TRel} {ds:List TDep} (h:vDeps l ds=true) {d:TDep} (hd:d∈ds):vDep l d=true:=by
 unfold vDeps at h
 rw[Bool.and_eq_true,Bool.and_eq_true]at h
 exact List.all_eq_true.mp h.1.1 d hd
theorem vDeps_len {l:List TRel} {ds:List TDep} (h:vDeps l ds=true):ds.length≤5:=by
 unfold vDeps at h;simp at h;exact h.2
def isNul (v:Int):Bool:=inR v (-40) (-1)
def nulNo (v:Int):Int:=if isNul v then -1 - v else 0
def vVal (v:Int):Bool:=inR v (-40) 9
def nulls (l:List Int):List Int:=(l.filter isNul).map (fun v=>-1 - v)
def nulF (f:TFact):List Int:=sset (nulls f.2.1)
def nulI (x:TInst):List Int:=sset (x.2.1.flatMap fun f=>nulls f.2.1)
def vFact (l:List TRel) (f:TFact):Bool:=vRow vVal l f
def factAt (l:List TFact) (i:Nat):TFact:=l.getD i zFact
def factOk (x:TInst) (i:Nat):Bool:=vFact x.1 (factAt x.2.1 i)&&(i == 0||decide (cmpF (factAt x.2.1 (i - 1)) (factAt x.2.1 i)<0)) && !(srcAt x.1 (factAt x.2.1 i).1&&(nulF (factAt x.2.1 i)).length != 0)
def vInst (x:TInst):Bool:=vRels x.1&&decide (x.2.1.length≤30)&&(List.range x.2.1.length).all (factOk x)
theorem isNul_iff {v:Int}:isNul v=true↔-40≤v∧v≤-1:=inR_iff
theorem mem_nulls {l:List Int} {k:Int}:k∈nulls l↔0≤k∧k<40∧(-1 - k)∈l:=by
 unfold nulls
 rw[List.mem_map]
 constructor
 · rintro⟨v,hv,rfl⟩
   obtain⟨h1,h2⟩:=List.mem_filter.mp hv
   have:=isNul_iff.mp h2
   exact ⟨by omega, by omega, by have e : -1 - (-1 - v)=v:=by omega
                                 rw[e];exact h1⟩
 · rintro⟨h1,h2,h3⟩
   exact⟨-1 - k,List.mem_filter.mpr ⟨h3,isNul_iff.mpr ⟨by omega,by omega⟩⟩,by omega⟩
theorem nulls_append (l m:List Int):nulls (l++m)=nulls l++nulls m:=by unfold nulls;rw[List.filter_append,List.map_append]
theorem nulls_flat (l:List TFact):nulls (l.flatMap (·.2.1))=l.flatMap fun f=>nulls f.2.1:=by
 induction l with
 |nil=>rfl
 |cons a l ih=>simp only[List.flatMap_cons];rw[nulls_append,ih]
theorem nulls_range {l:List Int}:∀ k∈sset (nulls l),0≤k∧k<0+(40:Nat):=fun k hk=>by
 have:=mem_nulls.mp (mem_sset.mp hk);omega
theorem nulls_few {l:List Int}:(sset (nulls l)).length≤40:=srt_range (srt_sset _) nulls_range
theorem nulI_few (x:TInst):(nulI x).length≤40:=by unfold nulI;rw[←nulls_flat];exact nulls_few
theorem nulls_len (l:List Int):(nulls l).length≤l.length:=by unfold nulls;rw[List.length_map];exact List.length_filter_le _ _
theorem factAt_get {l:List TFact} {i:Nat} (h:i<l.length):factAt l i=l[i]:=getD_at h
theorem vInst_fact {x:TInst} (h:vInst x=true) {f:TFact} (hf:f∈x.2.1):vFact x.1 f=true:=by
 unfold vInst at h
 rw[Bool.and_eq_true]at h
 obtain⟨i,hi,rfl⟩:=List.mem_iff_getElem.mp hf
 have:=List.all_eq_true.mp h.2 i (List.mem_range.mpr hi)
 unfold factOk at this
 rw[Bool.and_eq_true,Bool.and_eq_true,factAt_get hi]at this
 exact this.1.1
theorem vInst_len {x:TInst} (h:vInst x=true):x.2.1.length≤30:=by unfold vInst at h;simp at h;exact h.1.2
theorem vInst_rels {x:TInst} (h:vInst x=true):vRels x.1=true:=by unfold vInst at h;simp at h;exact h.1.1
theorem vInst_no {x:TInst} {i:Nat} (hi:i<x.2.1.length) (h:factOk x i=false):vInst x=false:=by
 unfold vInst
 have:(List.range x.2.1.length).all (factOk x)=false:=by
  rw[Bool.eq_false_iff];intro hall
  have:=List.all_eq_true.mp hall i (List.mem_range.mpr hi);rw[h]at this;cases this
 rw[this];simp
theorem vInst_yes {x:TInst} (h1:∀ i,i<x.2.1.length→factOk x i=true):vInst x=(vRels x.1&&decide (x.2.1.length≤30)):=by
 unfold vInst
 rw[List.all_eq_true.mpr fun i hi=>h1 i (List.mem_range.mp hi)];simp
theorem nulNo_nonneg (v:Int):0≤nulNo v:=by
 unfold nulNo
 split
 · rename_i h;have:=isNul_iff.mp h;omega
 · omega
theorem g_sNullNumber {v:Int}:G_sNullNumber v (nulNo v) (isNul v):=R_sNullNumber fun hb=>M_sNullNumber _ _ _ (by
 have hb : -9223372036854775808≤v∧v≤9223372036854775807:=hb
 unfold S_sNullNumber
 have no:isNul v=false→(((0:Int),(false,())):Int×Bool×Unit)=(nulNo v,(isNul v,())):=fun h=>by unfold nulNo;rw[h];rfl
 refine bc_dec (fun h=>no ?_) (fun h=>⟨_,g_sl1In,?_⟩)
 · rw[Bool.eq_false_iff];intro h';have:=isNul_iff.mp h';omega
 · rw[w64_id (by omega) (by omega)]
   refine bc_not (fun h2=>no ?_) (fun h2=>?_)
   · rw[Bool.eq_false_iff]at h2 ⊢;intro h';have:=isNul_iff.mp h';exact h2 (inR_iff.mpr ⟨by omega,by omega⟩)
   · have:=inR_iff.mp h2
     have e:isNul v=true:=isNul_iff.mpr ⟨by omega,by omega⟩
     unfold nulNo;rw[e];rfl)
theorem g_iNullNumber {v:Int}:G_iNullNumber v (nulNo v) (isNul v):=R_iNullNumber fun hb=>M_iNullNumber _ _ _ (by
 have hb : -9223372036854775808≤v∧v≤9223372036854775807:=hb
 unfold S_iNullNumber
 have no:isNul v=false→(((0:Int),(false,())):Int×Bool×Unit)=(nulNo v,(isNul v,())):=fun h=>by unfold nulNo;rw[h];rfl
 rw[w64_id (by omega) (by omega)]
 refine⟨_,g_iwithin,bc_not (fun h2=>no ?_) (fun h2=>?_)⟩
 · rw[Bool.eq_false_iff]at h2 ⊢;intro h';have:=isNul_iff.mp h';exact h2 (inR_iff.mpr ⟨by omega,by omega⟩)
 · have:=inR_iff.mp h2
   have e:isNul v=true:=isNul_iff.mpr ⟨by omega,by omega⟩
   unfold nulNo;rw[e];rfl)
theorem g_sIsValidValue {v:Int}:G_sIsValidValue v (vVal v):=M_sIsValidValue _ _ (by
 unfold S_sIsValidValue
 refine⟨_,_,g_sNullNumber,bc_if (fun h=>?_) (fun h=>⟨_,g_sl1In,?_⟩)⟩
 · have:=isNul_iff.mp h
   have e:vVal v=true:=inR_iff.mpr ⟨by omega,by omega⟩
   rw[e]
 · have:inR v 0 9=vVal v:=by
    rw[Bool.eq_iff_iff]
    unfold vVal
    rw[inR_iff,inR_iff]
    constructor
    · omega
    · intro h'
      refine⟨?_,h'.2⟩
      rcases Int.lt_or_le v 0 with h0|h0
      · rw[isNul_iff.mpr ⟨by omega,by omega⟩]at h;cases h
      · exact h0
   rw[this])
theorem g_iIsValidValue {v:Int}:G_iIsValidValue v (vVal v):=M_iIsValidValue _ _ (by unfold S_iIsValidValue;exact⟨_,g_iwithin,rfl⟩)
theorem g_sNullsOfFact {f:TFact}:G_sNullsOfFact f (nulF f):=M_sNullsOfFact _ _ (by
 unfold S_sNullsOfFact
 refine loopP_of f.2.1.length (fun i=>((i:Int),(sset (nulls (f.2.1.take i)),()))) (by simp[nulls,sset]) ?_ ?_
 · intro i hi X hX
   refine lenI fun _=>bcI hi (inI hi ⟨_,_,g_sNullNumber,?_⟩)
   simp only
   rw[getI hi,w64_succ (by omega)]
   have e:nulls (f.2.1.take (i+1))=nulls (f.2.1.take i)++(if isNul f.2.1[i] then[-1 - f.2.1[i]] else[]):=by
    rw[take_succ_snoc hi,nulls_append];congr 1
    unfold nulls
    cases h:isNul f.2.1[i]<;>simp[h]
   rw[e]at hX
   have hf:=nulls_few (l:=f.2.1.take i)
   refine bc_if (fun h=>⟨_,g_sl4Put (by omega),?_⟩) (fun h=>?_)
   · rw[if_pos h]at hX
     have:nulNo f.2.1[i] = -1 - f.2.1[i]:=by unfold nulNo;rw[if_pos h]
     rw[this,sset_snoc];exact hX
   · rw[if_neg (by rw[h];simp),List.append_nil]at hX;exact hX
 · intro X
   refine lenI fun _=>bcN ?_
   simp only[List.take_length]
   rfl)
theorem g_inullsOf {l:List Int} (hl:l.length≤1073741824):G_inullsOf l (sset (nulls l)):=M_inullsOf _ _ (by
 unfold S_inullsOf
 refine lenI fun _=>loopP_of l.length (fun i=>((i:Int),(nulls (l.take i),()))) (by simp[nulls]) ?_ ?_
 · intro i hi X hX
   refine bcI hi (inI hi ⟨_,_,g_iNullNumber,?_⟩)
   simp only
   rw[getI hi,w64_succ (by omega)]
   have e:nulls (l.take (i+1))=nulls (l.take i)++(if isNul l[i] then[-1 - l[i]] else[]):=by
    rw[take_succ_snoc hi,nulls_append];congr 1
    unfold nulls
    cases h:isNul l[i]<;>simp[h]
   rw[e]at hX
   have hb:=nulls_len (l.take i)
   rw[List.length_take]at hb
   refine bc_if (fun h=>⟨by simp only[maxL,List.length_cons,List.length_nil];omega,?_⟩) (fun h=>?_)
   · rw[if_pos h]at hX
     have:nulNo l[i] = -1 - l[i]:=by unfold nulNo;rw[if_pos h]
     rw[this];exact hX
   · rw[if_neg (by rw[h];simp),List.append_nil]at hX;exact hX
 · intro X
   refine bcN ⟨_,g_slices_Sort_int_ooz ?_,_,g_slices_Compact_int_ooz,?_⟩
   · simp only[List.take_length];have:=nulls_len l;omega
   · simp only[List.take_length];rw[comp_sort])
theorem g_iNullsOfFact {f:TFact} (h:f.2.1.length≤1073741824):G_iNullsOfFact f (nulF f):=M_iNullsOfFact _ _ (by unfold S_iNullsOfFact;exact⟨_,g_inullsOf h,rfl⟩)
theorem g_sNullsOfInstance {x:TInst}:G_sNullsOfInstance x (nulI x):=M_sNullsOfInstance _ _ (by
 unfold S_sNullsOfInstance
 refine loopP_of x.2.1.length (fun i=>((i:Int),(sset ((x.2.1.take i).flatMap fun f=>nulls f.2.1),()))) (by simp[sset]) ?_ ?_
 · intro i hi X hX
   refine lenI fun _=>bcI hi (inI hi ⟨_,g_sNullsOfFact,?_⟩)
   simp only
   rw[getI hi]
   have hn:(nulF x.2.1[i]).length≤40:=nulls_few
   refine loopP_of (nulF x.2.1[i]).length (fun j=>(((nulF x.2.1[i]).take j).foldl ins (sset ((x.2.1.take i).flatMap fun f=>nulls f.2.1)),((j:Int),()))) (by simp) ?_ ?_
   · intro j hj Y hY
     refine lenI fun _=>bcI hj (inI hj ⟨_,g_sl4Put ?_,?_⟩)
     · have h1:(sset ((x.2.1.take i).flatMap fun f=>nulls f.2.1)).length≤40:=by rw[←nulls_flat];exact nulls_few
       have:∀(l s:List Int),(l.foldl ins s).length≤s.length+l.length:=by
        intro l
        induction l with
        |nil=>intro s;simp
        |cons a l ih=>intro s;have:=ih (ins s a);have:=put_len s a;simp only[List.foldl_cons,List.length_cons];omega
       have:=this ((nulF x.2.1[i]).take j) (sset ((x.2.1.take i).flatMap fun f=>nulls f.2.1))
       rw[List.length_take]at this
       simp only;omega
     · simp only
       rw[getI hj,w64_succ (by omega)]
       rw[take_succ_snoc hj,List.foldl_append]at hY
       exact hY
   · intro Y
     refine lenI fun _=>bcN ?_
     simp only[List.take_length]
     rw[w64_succ (by omega)]
     have:(nulF x.2.1[i]).foldl ins (sset ((x.2.1.take i).flatMap fun f=>nulls f.2.1))=sset ((x.2.1.take (i+1)).flatMap fun f=>nulls f.2.1):=by
      unfold nulF
      rw[foldput_sset,take_succ_snoc hi,List.flatMap_append];simp
     rw[this];exact hX
 · intro X
   refine lenI fun _=>bcN ?_
   simp only[List.take_length]
   rfl)
theorem g_iNullsOfInstance {x:TInst} (hl:(x.2.1.flatMap (·.2.1)).length≤1073741824):G_iNullsOfInstance x (nulI x):=M_iNullsOfInstance _ _ (by
 unfold S_iNullsOfInstance
 refine lenI fun _=>loopP_of x.2.1.length (fun i=>((i:Int),((x.2.1.take i).flatMap (·.2.1),()))) (by simp) ?_ ?_
 · intro i hi X hX
   have hs:=flat_split (fun f:TFact=>f.2.1) hi
   refine bcI hi (inI hi ⟨?_,?_⟩)
   · simp only[maxL];rw[getI hi];omega
   · simp only
     rw[getI hi,w64_succ (by omega)]
     rw[take_succ_snoc hi,List.flatMap_append]at hX
     simpa using hX
 · intro X
   refine bcN ⟨_,g_inullsOf ?_,?_⟩
   · simp only[List.take_length];exact hl
   · simp only[List.take_length]
     rw[nulls_flat];rfl)
theorem g_sIsValidFact {l:List TRel} {a:TFact}:G_sIsValidFact l a (vFact l a):=M_sIsValidFact _ _ _ (by
 unfold S_sIsValidFact vFact
 refine⟨_,g_sAreValidRelations,bc_not (fun h=>row_no1 h) (fun h1=>lenI fun hl=>⟨_,g_sl1In,bc_not (fun h=>row_no2 hl h) (fun h2=>lenI fun hl2=>⟨row_start h2 hl,bc_ne (fun h=>row_no3 h) (fun h3=>?_)⟩)⟩)⟩
 refine loop_any a.2.1 (fun t=>!vVal t) (fun i=>((i:Int),())) (KT:=((false,()):Bool×Unit)=(vRow vVal l a,())) (KF:=((true,()):Bool×Unit)=(vRow vVal l a,())) ?_ (fun X h=>lenI fun _=>bcN h) ?_ ?_
 · intro i hi X q1 q2
   refine lenI fun _=>bcI hi (inI hi ⟨_,g_sIsValidValue,?_⟩)
   simp only
   rw[getI hi,w64_succ (by omega)]
   exact bc_if (fun h=>q1 h) (fun h=>q2 h)
 · intro h;exact row_yes hl h1 h2 h3 (by rw[any_not]at h;exact(nt h).symm)
 · intro h;exact row_yes hl h1 h2 h3 (by rw[any_not]at h;exact(nf h).symm))
theorem g_iIsValidFact_1 {t:Int}:G_iIsValidFact_1 t (!vVal t):=M_iIsValidFact_1 _ _ (by unfold S_iIsValidFact_1;exact⟨_,g_iIsValidValue,rfl⟩)
theorem g_iIsValidFact {l:List TRel} {a:TFact}:G_iIsValidFact l a (vFact l a):=M_iIsValidFact _ _ _ (by
 unfold S_iIsValidFact vFact
 refine⟨_,g_iAreValidRelations,bc_not (fun h=>row_no1 h) (fun h1=>lenI fun hl=>⟨_,g_iwithin,bc_not (fun h=>row_no2 hl h) (fun h2=>lenI fun hl2=>⟨row_start h2 hl,bc_ne (fun h=>row_no3 h) (fun h3=>?_)⟩)⟩)⟩
 exact⟨_,g_slices_ContainsFunc_int_c_iIsValidFact_1 (fun t=>!vVal t) (fun _ _=>g_iIsValidFact_1),row_yes hl h1 h2 h3 (by rw[any_not];simp)⟩)
theorem fact_rel {x:TInst} {f:TFact} (h:vFact x.1 f=true):0≤f.1∧f.1<(x.1.length:Int):=by have:=vRow_spec h;exact⟨this.2.1,this.2.2.1⟩
theorem factOk_split {x:TInst} {i:Nat} (hi:i<x.2.1.length) (h1:vFact x.1 x.2.1[i]=true) (h2:0<i→cmpF (factAt x.2.1 (i - 1)) x.2.1[i]<0):factOk x i = !(srcAt x.1 x.2.1[i].1&&(nulF x.2.1[i]).length != 0):=by
 unfold factOk
 rw[factAt_get hi,h1]
 have:(i == 0||decide (cmpF (factAt x.2.1 (i - 1)) x.2.1[i]<0))=true:=by
  rcases Nat.eq_zero_or_pos i with h|h
  · simp[h]
  · rw[decide_eq_true (h2 h)];simp
 rw[this];rfl
theorem g_sIsValidInstance {x:TInst}:G_sIsValidInstance x (vInst x):=M_sIsValidInstance _ _ (by
 unfold S_sIsValidInstance
 have no:vInst x=false→((false,()):Bool×Unit)=(vInst x,()):=fun h=>by rw[h]
 refine loop_anyI x.2.1.length (fun i=>!factOk x i) (fun i=>((i:Int),())) (KT:=vInst x=false) (KF:=vInst x=(vRels x.1&&decide (x.2.1.length≤30))) ?_ ?_ ?_ ?_
 · intro i hi X hb q1 q2
   have qn:factOk x i=false→((false,()):Bool×Unit)=(vInst x,()):=fun h=>no (q1 (by rw[h];rfl))
   have qy:factOk x i=true→X (((i+1:Nat):Int),()):=fun h=>q2 (by rw[h];rfl)
   refine lenI fun hl=>bcI hi (inI hi ⟨_,g_sIsValidFact,?_⟩)
   simp only
   rw[getI hi,w64_succ (by omega)]
   refine bc_not (fun h=>qn (by unfold factOk;rw[factAt_get hi,h];simp)) (fun hv=>?_)
   have fin:factOk x i = !(srcAt x.1 x.2.1[i].1&&(nulF x.2.1[i]).length != 0)→((0≤x.2.1[i].1∧x.2.1[i].1<(x.1.length:Int))∧(bcase (((x.1.getD (Int.toNat x.2.1[i].1) zRel).2).2).1 (∃ y5:List Int,G_sNullsOfFact x.2.1[i] y5∧(lenA (List.length y5:Int) (bcase (decide ((List.length y5:Int) > (0:Int))) (((false,()):Bool×Unit)=(vInst x,())) (X (((i+1:Nat):Int),()))))) (X (((i+1:Nat):Int),())))):=by
    intro he
    refine⟨fact_rel hv,bc_if (fun hs=>⟨_,g_sNullsOfFact,lenI fun _=>bc_dec (fun h=>qn ?_) (fun h=>qy ?_)⟩) (fun hs=>qy ?_)⟩
    · have hs:srcAt x.1 x.2.1[i].1=true:=hs
      rw[he,hs];simp;intro e;rw[e]at h;simp at h
    · have:(nulF x.2.1[i]).length=0:=by omega
      rw[he,this];simp
    · have hs:srcAt x.1 x.2.1[i].1=false:=hs
      rw[he,hs];rfl
   refine bc_dec (fun h0=>?_) (fun h0=>fin (factOk_split hi hv (fun h=>by omega)))
   have hi':i - 1<x.2.1.length:=by omega
   have hw:w64 ((i:Int) - 1)=((i - 1:Nat):Int):=by rw[w64_id (by omega) (by omega)];omega
   rw[hw]
   refine inI hi' ⟨_,g_sCompareFacts,?_⟩
   rw[getI hi']
   refine bc_dec (fun h=>qn ?_) (fun h=>fin (factOk_split hi hv (fun _=>by rw[factAt_get hi'];omega)))
   unfold factOk
   rw[factAt_get hi,factAt_get hi',decide_eq_false (by omega)]
   have:(i == 0)=false:=by simp;omega
   rw[this];simp
 · intro X h
   refine lenI fun _=>bcN ⟨_,g_sAreValidRelations,bc_if (fun h1=>lenI fun _=>?_) (fun h1=>no (by rw[h,h1];rfl))⟩
   rw[h,h1]
   have:decide ((x.2.1.length:Int)≤30)=decide (x.2.1.length≤30):=decide_eq_decide.mpr (by omega)
   rw[this];rfl
 · rintro⟨i,hi,hp⟩;exact vInst_no hi (nt hp)
 · intro h;exact vInst_yes fun i hi=>nf (h i hi))
theorem g_iIsValidInstance {x:TInst}:G_iIsValidInstance x (vInst x):=M_iIsValidInstance _ _ (by
 unfold S_iIsValidInstance
 have no:vInst x=false→((false,()):Bool×Unit)=(vInst x,()):=fun h=>by rw[h]
 refine⟨_,g_iAreValidRelations,bc_not (fun h=>no (by unfold vInst;rw[h];simp)) (fun hr=>lenI fun _=>bc_dec (fun h=>no (by unfold vInst;rw[decide_eq_false (show ¬ x.2.1.length≤30 by omega)];simp)) (fun hlen=>lenI fun _=>?_))⟩
 refine loop_anyI x.2.1.length (fun i=>!factOk x i) (fun i=>((i:Int),())) (KT:=vInst x=false) (KF:=vInst x=(vRels x.1&&decide (x.2.1.length≤30))) ?_ ?_ ?_ ?_
 · intro i hi X hb q1 q2
   have qn:factOk x i=false→((false,()):Bool×Unit)=(vInst x,()):=fun h=>no (q1 (by rw[h];rfl))
   have qy:factOk x i=true→X (((i+1:Nat):Int),()):=fun h=>q2 (by rw[h];rfl)
   refine bcI hi (inI hi ⟨_,g_iIsValidFact,?_⟩)
   simp only
   rw[getI hi,w64_succ (by omega)]
   refine bc_not (fun h=>qn (by unfold factOk;rw[factAt_get hi,h];simp)) (fun hv=>?_)
   have hvl:=(vRow_spec hv).2.2.2.2.1
   have fin:factOk x i = !(srcAt x.1 x.2.1[i].1&&(nulF x.2.1[i]).length != 0)→((0≤x.2.1[i].1∧x.2.1[i].1<(x.1.length:Int))∧(bcase (((x.1.getD (Int.toNat x.2.1[i].1) zRel).2).2).1 (∃ y5:List Int,G_iNullsOfFact x.2.1[i] y5∧(lenA (List.length y5:Int) (bcase (decide ((List.length y5:Int) > (0:Int))) (((false,()):Bool×Unit)=(vInst x,())) (X (((i+1:Nat):Int),()))))) (X (((i+1:Nat):Int),())))):=by
    intro he
    refine⟨fact_rel hv,bc_if (fun hs=>⟨_,g_iNullsOfFact (by omega),lenI fun _=>bc_dec (fun h=>qn ?_) (fun h=>qy ?_)⟩) (fun hs=>qy ?_)⟩
    · have hs:srcAt x.1 x.2.1[i].1=true:=hs
      rw[he,hs];simp;intro e;rw[e]at h;simp at h
    · have:(nulF x.2.1[i]).length=0:=by omega
      rw[he,this];simp
    · have hs:srcAt x.1 x.2.1[i].1=false:=hs
      rw[he,hs];rfl
   refine bc_dec (fun h0=>?_) (fun h0=>fin (factOk_split hi hv (fun h=>by omega)))
   have hi':i - 1<x.2.1.length:=by omega
   have hw:w64 ((i:Int) - 1)=((i - 1:Nat):Int):=by rw[w64_id (by omega) (by omega)];omega
   rw[hw]
   refine inI hi' ⟨_,g_iCompareFacts,?_⟩
   rw[getI hi']
   refine bc_dec (fun h=>qn ?_) (fun h=>fin (factOk_split hi hv (fun _=>by rw[factAt_get hi'];omega)))
   unfold factOk
   rw[factAt_get hi,factAt_get hi',decide_eq_false (by omega)]
   have:(i == 0)=false:=by simp;omega
   rw[this];simp
 · intro X h
   refine bcN ?_
   rw[h,hr,decide_eq_true (show x.2.1.length≤30 by omega)];rfl
 · rintro⟨i,hi,hp⟩;exact vInst_no hi (nt hp)
 · intro h;exact vInst_yes fun i hi=>nf (h i hi))
theorem vInst_flat {x:TInst} (h:vInst x=true):(x.2.1.flatMap (·.2.1)).length≤90:=by
 have h1:=vInst_len h
 have:∀ l:List TFact,(∀ f∈l,vFact x.1 f=true)→(l.flatMap (·.2.1)).length≤3 * l.length:=by
  intro l
  induction l with
  |nil=>intro _;simp
  | cons a l ih=>
    intro hl
    have h1:=(vRow_spec (hl a (by simp))).2.2.2.2.1
    have:=ih fun f hf=>hl f (by simp[hf])
    simp only[List.flatMap_cons,List.length_append,List.length_cons];omega
 have:=this x.2.1 fun f hf=>vInst_fact h hf
 omega
def nextN (x:TInst):Int:=match (nulI x).getLast? with
 |some k=>k+1
 |none=>0
theorem nextN_le {x:TInst} {n:Nat}:nextN x≤n↔∀ k∈nulI x,k<n:=by
 unfold nextN
 have hs:srt (nulI x):=srt_sset _
 cases h:(nulI x).getLast? with
 | none=>
   have:nulI x=[]:=List.getLast?_eq_none_iff.mp h
   rw[this];simp
 | some m=>
   have hne:nulI x≠[]:=by intro e;rw[e]at h;simp at h
   have hm:(nulI x).getLast hne=m:=by rw[List.getLast?_eq_some_getLast hne]at h;exact Option.some.inj h
   have hlast:=srt_last hs hne
   constructor
   · intro h' k hk
     have:=hlast k hk;rw[hm]at this;simp only at h';omega
   · intro h'
     have:=h' m (by rw[←hm];exact List.getLast_mem hne)
     simp only;omega
theorem g_iNextNull {x:TInst} (hl:(x.2.1.flatMap (·.2.1)).length≤1073741824):G_iNextNull x (nextN x):=M_iNextNull _ _ (by
 unfold S_iNextNull
 have hf:=nulI_few x
 refine⟨_,g_iNullsOfInstance hl,lenI fun _=>bc_beq (fun h=>?_) (fun h=>lenI fun _=>?_)⟩
 · have:nulI x=[]:=List.length_eq_zero_iff.mp (by omega)
   unfold nextN;rw[this];rfl
 · have hw:w64 ((nulI x).length - 1:Int)=(((nulI x).length - 1:Nat):Int):=by rw[w64_id (by omega) (by omega)];omega
   rw[hw]
   have hlt:(nulI x).length - 1<(nulI x).length:=by omega
   refine inI hlt ?_
   rw[getI hlt]
   have hne:nulI x≠[]:=by intro e;rw[e]at h;simp at h
   have hr:0≤(nulI x)[(nulI x).length - 1]∧(nulI x)[(nulI x).length - 1]<0+(40:Nat):=by
    have:=nulls_range (l:=x.2.1.flatMap (·.2.1)) ((nulI x)[(nulI x).length - 1]) (by rw[nulls_flat];exact List.getElem_mem hlt)
    exact this
   rw[w64_id (by omega) (by omega)]
   unfold nextN
   rw[List.getLast?_eq_some_getLast hne,List.getLast_eq_getElem])
def mx (f:Int→Int) (l:List Int):Int:=l.foldl (fun m k=>maxI m (f k)) 0
theorem maxI_le {a b n:Int}:maxI a b≤n↔a≤n∧b≤n:=by unfold maxI;split<;>omega
theorem fold_mx {f:Int→Int} {n:Int}:∀ {l:List Int} {s:Int},l.foldl (fun m k=>maxI m (f k)) s≤n↔s≤n∧∀ k∈l,f k≤n
 |[],s=>by simp
 | a::l,s=>by
   rw[List.foldl_cons,fold_mx,maxI_le]
   simp only[List.mem_cons,forall_eq_or_imp,and_assoc]
theorem mx_le {f:Int→Int} {l:List Int} {n:Int}:mx f l≤n↔0≤n∧∀ k∈l,f k≤n:=fold_mx
theorem mx_nonneg (f:Int→Int) (l:List Int):0≤mx f l:=(mx_le.mp (Int.le_refl _)).1
theorem mx_congr {f:Int→Int} {l m:List Int} (h:∀ k,k∈l↔k∈m):mx f l=mx f m:=by
 have h1:mx f l≤mx f m:=mx_le.mpr ⟨mx_nonneg _ _,fun k hk=>(mx_le.mp (Int.le_refl (mx f m))).2 k ((h k).mp hk)⟩
 have h2:mx f m≤mx f l:=mx_le.mpr ⟨mx_nonneg _ _,fun k hk=>(mx_le.mp (Int.le_refl (mx f l))).2 k ((h k).mpr hk)⟩
 omega
theorem mx_snoc (f:Int→Int) (l:List Int) (k:Int):mx f (l++[k])=maxI (mx f l) (f k):=by unfold mx;rw[List.foldl_append];rfl
theorem maxI_comm_add (a b:Int):maxI (a+1) (b+1)=maxI a b+1:=by unfold maxI;split<;>split<;>omega
def depOf (out:List Int) (args:List Int):Int:=mx (fun k=>out.getD k.toNat 0) (nulls args)+1
def deps_ (ts:List TTerm):List Int:=ts.foldl (fun out t=>out++[depOf out t.2.2.1]) []
theorem deps_snoc (ts:List TTerm) (t:TTerm):deps_ (ts++[t])=deps_ ts++[depOf (deps_ ts) t.2.2.1]:=by unfold deps_;rw[List.foldl_append];rfl
theorem dps_len (ts:List TTerm):(deps_ ts).length=ts.length:=by
 have:∀(l:List TTerm) (s:List Int),(l.foldl (fun out t=>out++[depOf out t.2.2.1]) s).length=s.length+l.length:=by
  intro l
  induction l with
  |nil=>intro s;simp
  |cons a l ih=>intro s;rw[List.foldl_cons,ih];simp;omega
 have:=this ts []
 simpa [deps_]using this
def termAt_ (ts:List TTerm) (i:Nat):TTerm:=ts.getD i zTerm
theorem termAt_get {ts:List TTerm} {i:Nat} (h:i<ts.length):termAt_ ts i=ts[i]:=getD_at h
def argOk (k:Nat) (v:Int):Bool:=vVal v && !(isNul v&&decide ((k:Int)≤nulNo v))
def termOk (ts:List TTerm) (k:Nat):Bool:=inR (termAt_ ts k).1 0 4&&inR (termAt_ ts k).2.1 0 4&&decide ((termAt_ ts k).2.2.1.length≤5)&&(termAt_ ts k).2.2.1.all (argOk k) && !(ts.take k).any (fun t=>decide (t=termAt_ ts k))
def areT (ts:List TTerm):Bool:=decide (ts.length≤30)&&(List.range ts.length).all (termOk ts)&&(deps_ ts).all fun d=>decide (d≤8)
def vSk (s:TSk):Bool:=vInst s.1&&decide (nextN s.1≤s.2.1.length)&&areT s.2.1
theorem args_nulls {k:Nat} {args:List Int} (h:args.all (argOk k)=true):∀ n∈nulls args,0≤n∧n<k:=by
 intro n hn
 obtain⟨h1,h2,h3⟩:=mem_nulls.mp hn
 have:=List.all_eq_true.mp h _ h3
 unfold argOk at this
 rw[Bool.and_eq_true]at this
 have hi:isNul (-1 - n)=true:=isNul_iff.mpr ⟨by omega,by omega⟩
 have he:nulNo (-1 - n)=n:=by unfold nulNo;rw[if_pos hi];omega
 rw[hi,Bool.true_and,he]at this
 have h4:=this.2
 simp at h4
 exact⟨h1,h4⟩
theorem areT_term {ts:List TTerm} (h:areT ts=true) {k:Nat} (hk:k<ts.length):termOk ts k=true:=by
 unfold areT at h
 simp only[Bool.and_eq_true]at h
 exact List.all_eq_true.mp h.1.2 k (List.mem_range.mpr hk)
theorem vSk_parts {s:TSk} (h:vSk s=true):vInst s.1=true∧nextN s.1≤s.2.1.length∧areT s.2.1=true:=by
 unfold vSk at h;simp at h;exact⟨h.1.1,h.1.2,h.2⟩
theorem areT_len {ts:List TTerm} (h:areT ts=true):ts.length≤30:=by unfold areT at h;simp at h;exact h.1.1
theorem fold_nulls {g:Int→Int}:∀ {l:List Int} {s:Int},0≤s→l.foldl (fun m v=>maxI m (if isNul v then g (nulNo v)else 0)) s=(nulls l).foldl (fun m k=>maxI m (g k)) s
 |[],_,_=>rfl
 | a::l,s,h=>by
   have hs:0≤maxI s (g (nulNo a)):=by unfold maxI;split<;>omega
   have h0:maxI s 0=s:=by unfold maxI;split<;>omega
   rw[List.foldl_cons]
   cases hn:isNul a with
   | true=>
     have hno:nulNo a = -1 - a:=by unfold nulNo;rw[if_pos hn]
     have e:nulls (a::l)=(-1 - a)::nulls l:=by unfold nulls;simp[hn]
     rw[e,List.foldl_cons,if_pos rfl,fold_nulls hs,hno]
   | false=>
     have e:nulls (a::l)=nulls l:=by unfold nulls;simp[hn]
     rw[e,if_neg (by simp),h0];exact fold_nulls h
theorem g_sIsValidSkolemState {s:TSk}:G_sIsValidSkolemState s (vSk s):=M_sIsValidSkolemState _ _ (by
 unfold S_sIsValidSkolemState
 have no:vSk s=false→((false,()):Bool×Unit)=(vSk s,()):=fun h=>by rw[h]
 have na:areT s.2.1=false→((false,()):Bool×Unit)=(vSk s,()):=fun h=>no (by unfold vSk;rw[h];simp)
 refine loopP_down (fun k a=>∃ i:Nat,i+k=s.2.1.length∧a=((i:Int),(deps_ (s.2.1.take i),()))∧i≤30∧(∀ j,j<i→termOk s.2.1 j=true)∧∀ d∈deps_ (s.2.1.take i),d≤8) ?_ ?_ (n:=s.2.1.length) ⟨0,by omega,by simp[deps_],by omega,fun j hj=>by omega,by simp[deps_]⟩
 · rintro a ⟨i,hi,rfl,hi30,hok,hd⟩ X
   obtain rfl:i=s.2.1.length:=by omega
   rw[List.take_length]at hd
   refine lenI fun _=>bcN ?_
   have hT:areT s.2.1=true:=by
    unfold areT
    rw[decide_eq_true hi30,List.all_eq_true.mpr fun i hi=>hok i (List.mem_range.mp hi),List.all_eq_true.mpr fun d h=>decide_eq_true (hd d h)];rfl
   have hf:=nulI_few s.1
   refine⟨_,g_sNullsOfInstance,_,g_sIsValidInstance,bc_if (fun hv=>lenI fun _=>bc_dec (fun _=>lenI fun _=>?_) (fun h=>by omega)) (fun hv=>no (by unfold vSk;rw[hv];simp))⟩
   have ev:vSk s=decide (nextN s.1≤s.2.1.length):=by unfold vSk;rw[hv,hT];simp
   rw[ev]
   refine bc_beq (fun h=>?_) (fun h=>lenI fun _=>?_)
   · have:nulI s.1=[]:=List.length_eq_zero_iff.mp (by omega)
     rw[decide_eq_true (nextN_le.mpr (by rw[this];simp))]
   · have hw:w64 ((nulI s.1).length - 1:Int)=(((nulI s.1).length - 1:Nat):Int):=by rw[w64_id (by omega) (by omega)];omega
     rw[hw]
     have hlt:(nulI s.1).length - 1<(nulI s.1).length:=by omega
     refine inI hlt (lenI fun _=>?_)
     rw[getI hlt]
     have hne:nulI s.1≠[]:=by intro e;rw[e]at h;simp at h
     have e1:nextN s.1=(nulI s.1)[(nulI s.1).length - 1]+1:=by unfold nextN;rw[List.getLast?_eq_some_getLast hne,List.getLast_eq_getElem]
     rw[e1]
     exact congrArg (fun b=>(b,())) (decide_eq_decide.mpr (by omega))
 · rintro k a ⟨i,hi,rfl,hi30,hok,hd⟩ X hX
   have hlt:i<s.2.1.length:=by omega
   have hdl:(deps_ (s.2.1.take i)).length=i:=by rw[dps_len,List.length_take];omega
   have nt':termOk s.2.1 i=false→((false,()):Bool×Unit)=(vSk s,()):=fun h=>na (by
    unfold areT
    have:(List.range s.2.1.length).all (termOk s.2.1)=false:=by
     rw[Bool.eq_false_iff];intro hall
     have:=List.all_eq_true.mp hall i (List.mem_range.mpr hlt);rw[h]at this;cases this
    rw[this];simp)
   have hta:=termAt_get hlt
   refine lenI fun hl=>bcI hlt ?_
   simp only
   rw[getI hlt]
   refine loopP_down (fun k a=>∃ j:Nat,j+k=s.2.1[i].2.2.1.length∧a=(mx (fun k=>(deps_ (s.2.1.take i)).getD k.toNat 0) (nulls (s.2.1[i].2.2.1.take j)),((j:Int),()))∧(s.2.1[i].2.2.1.take j).all (argOk i)=true) ?_ ?_ (n:=s.2.1[i].2.2.1.length) ⟨0,by omega,by simp[nulls,mx],by simp⟩
   rotate_left
   · rintro k a ⟨j,hj,rfl,hall⟩ Y hY
     have hjl:j<s.2.1[i].2.2.1.length:=by omega
     refine inI hlt (lenI fun _=>bcI hjl (inI hlt (inI hjl ?_)))
     simp only
     rw[getI hjl,w64_succ (by omega)]
     have bad:argOk i s.2.1[i].2.2.1[j]=false→((false,()):Bool×Unit)=(vSk s,()):=fun h=>nt' (by
      unfold termOk
      rw[hta]
      have:s.2.1[i].2.2.1.all (argOk i)=false:=by
       rw[Bool.eq_false_iff];intro hall
       have:=List.all_eq_true.mp hall _ (List.getElem_mem hjl);rw[h]at this;cases this
      rw[this];simp)
     have hnl:nulls (s.2.1[i].2.2.1.take (j+1))=nulls (s.2.1[i].2.2.1.take j)++(if isNul s.2.1[i].2.2.1[j] then[-1 - s.2.1[i].2.2.1[j]] else[]):=by
      rw[take_succ_snoc hjl,nulls_append];congr 1
      unfold nulls
      cases h:isNul s.2.1[i].2.2.1[j]<;>simp[h]
     refine⟨_,_,g_sNullNumber,_,g_sIsValidValue,bc_not (fun h=>bad (by unfold argOk;rw[h];rfl)) (fun hv=>?_)⟩
     have hnext:argOk i s.2.1[i].2.2.1[j]=true→(s.2.1[i].2.2.1.take (j+1)).all (argOk i)=true:=fun h=>by
      rw[take_succ_snoc hjl,List.all_append,hall];simp[h]
     refine bc_if (fun hn=>?_) (fun hn=>?_)
     · have hno:nulNo s.2.1[i].2.2.1[j] = -1 - s.2.1[i].2.2.1[j]:=by unfold nulNo;rw[if_pos hn]
       have hr:=isNul_iff.mp hn
       refine bc_dec (fun h=>bad ?_) (fun h=>?_)
       · unfold argOk;rw[hv,hn,decide_eq_true (show(i:Int)≤nulNo s.2.1[i].2.2.1[j] from h)];rfl
       · rw[hn]
         refine bcT ⟨⟨by rw[hno];omega,by rw[hdl];omega⟩,hY _ ⟨j+1,by omega,?_,hnext ?_⟩⟩
         · rw[hnl,if_pos hn,mx_snoc,hno]
         · unfold argOk;rw[hv,hn,decide_eq_false (show ¬ (i:Int)≤nulNo s.2.1[i].2.2.1[j] by omega)];rfl
     · rw[hn]
       refine bcF (hY _ ⟨j+1,by omega,?_,hnext ?_⟩)
       · rw[hnl,if_neg (by rw[hn];simp),List.append_nil]
       · unfold argOk;rw[hv,hn];rfl
   rintro a ⟨j,hj,rfl,hall⟩ Y
   obtain rfl:j=s.2.1[i].2.2.1.length:=by omega
   refine inI hlt (lenI fun _=>bcN ?_)
   simp only[List.take_length]at hall ⊢
   have hmx:=mx_nonneg (fun k=>(deps_ (s.2.1.take i)).getD k.toNat 0) (nulls s.2.1[i].2.2.1)
   have hmx8:mx (fun k=>(deps_ (s.2.1.take i)).getD k.toNat 0) (nulls s.2.1[i].2.2.1)≤8:=mx_le.mpr ⟨by omega,fun k hk=>by
    have hr:=args_nulls hall k hk
    have hkl:k.toNat<(deps_ (s.2.1.take i)).length:=by omega
    rw[getD_at hkl];exact hd _ (List.getElem_mem hkl)⟩
   have hw:w64 (mx (fun k=>(deps_ (s.2.1.take i)).getD k.toNat 0) (nulls s.2.1[i].2.2.1)+1)=depOf (deps_ (s.2.1.take i)) s.2.1[i].2.2.1:=by rw[w64_id (by omega) (by omega)];rfl
   rw[hw]
   refine⟨by simp only[maxL,List.length_cons,List.length_nil];omega,?_⟩
   have hsn:deps_ (s.2.1.take i)++[depOf (deps_ (s.2.1.take i)) s.2.1[i].2.2.1]=deps_ (s.2.1.take (i+1)):=by rw[take_succ_snoc hlt,deps_snoc]
   have hmem:depOf (deps_ (s.2.1.take i)) s.2.1[i].2.2.1∈deps_ s.2.1:=by
    have:∀(l m:List TTerm),∃ r,deps_ (l++m)=deps_ l++r:=by
     intro l m
     induction m generalizing l with
     |nil=>exact⟨[],by simp⟩
     | cons a m ih=>
       obtain⟨r,hr⟩:=ih (l++[a])
       rw[List.append_assoc,deps_snoc,List.append_assoc]at hr
       exact⟨_,hr⟩
    obtain⟨r,hr⟩:=this (s.2.1.take (i+1)) (s.2.1.drop (i+1))
    rw[List.take_append_drop,←hsn]at hr
    rw[hr];simp
   refine bc_dec (fun h=>na ?_) (fun h8=>inI hlt (lenI fun _=>bc_dec (fun h=>nt' ?_) (fun h5=>bc_dec (fun h=>na ?_) (fun h30=>?_))))
   · unfold areT
     have:((deps_ s.2.1).all fun d=>decide (d≤8))=false:=by
      rw[Bool.eq_false_iff];intro hall'
      have:=List.all_eq_true.mp hall' _ hmem
      have:depOf (deps_ (s.2.1.take i)) s.2.1[i].2.2.1≤8:=by simpa using this
      unfold depOf at this;omega
     rw[this];simp
   · unfold termOk;rw[hta,decide_eq_false (show ¬ s.2.1[i].2.2.1.length≤5 by omega)];simp
   · unfold areT;rw[decide_eq_false (show ¬ s.2.1.length≤30 by omega)];simp
   · refine loop_anyI i (fun j=>decide (termAt_ s.2.1 j=s.2.1[i])) (fun j=>((j:Int),())) (KT:=(s.2.1.take i).any (fun t=>decide (t=s.2.1[i]))=true) (KF:=(s.2.1.take i).any (fun t=>decide (t=s.2.1[i]))=false) ?_ ?_ ?_ ?_
     · intro j hj Z _ q1 q2
       have hjl:j<s.2.1.length:=by omega
       have bad:s.2.1[j]=s.2.1[i]→((false,()):Bool×Unit)=(vSk s,()):=fun h=>nt' (by
        have:=q1 (by rw[termAt_get hjl];exact decide_eq_true h)
        unfold termOk;rw[hta,this];simp)
       have good:s.2.1[j]≠s.2.1[i]→Z (((j+1:Nat):Int),()):=fun h=>q2 (by rw[termAt_get hjl];exact decide_eq_false h)
       refine bcI hj (inI hjl (inI hlt ?_))
       simp only
       rw[getI hjl,w64_succ (by omega)]
       refine bc_beq (fun h1=>inI hjl (inI hlt (bc_beq (fun h2=>inI hjl (inI hlt ⟨_,g_sl4Ints,bc_beq (fun h3=>bad (Prod.ext h1 (Prod.ext h2 (Prod.ext (cmpL_zero.mp h3) rfl)))) (fun h3=>good fun e=>h3 (cmpL_zero.mpr (by rw[e])))⟩)) (fun h=>good fun e=>h (by rw[e]))))) (fun h=>good fun e=>h (by rw[e]))
     · intro Z hany
       refine bcN (inI hlt ⟨_,g_sl1In,bc_not (fun h=>nt' (by unfold termOk;rw[hta,h];simp)) (fun hd1=>inI hlt ⟨_,g_sl1In,bc_not (fun h=>nt' (by unfold termOk;rw[hta,h];simp)) (fun hd2=>?_)⟩)⟩)
       rw[w64_succ (by omega)]
       refine hX _ ⟨i+1,by omega,by rw[hsn],by omega,fun j hj=>?_,fun d hdm=>?_⟩
       · by_cases hji:j=i
         · subst hji
           unfold termOk
           rw[hta,hd1,hd2,hall,hany,decide_eq_true (show s.2.1[j].2.2.1.length≤5 by omega)];rfl
         · exact hok j (by omega)
       · rw[←hsn]at hdm
         rcases List.mem_append.mp hdm with hdm|hdm
         · exact hd d hdm
         · have:d=depOf (deps_ (s.2.1.take i)) s.2.1[i].2.2.1:=by simpa using hdm
           rw[this];unfold depOf;omega
     · rintro⟨j,hj,hp⟩
       have hjl:j<s.2.1.length:=by omega
       rw[termAt_get hjl]at hp
       refine List.any_eq_true.mpr ⟨s.2.1[j],?_,hp⟩
       have hjt:j<(s.2.1.take i).length:=by rw[List.length_take];omega
       have:(s.2.1.take i)[j]=s.2.1[j]:=by simp
       rw[←this];exact List.getElem_mem hjt
     · intro h
       rw[Bool.eq_false_iff];intro hany
       obtain⟨t,ht,hp⟩:=List.any_eq_true.mp hany
       obtain⟨j,hj,rfl⟩:=List.mem_iff_getElem.mp ht
       rw[List.length_take]at hj
       have:=h j (by omega)
       rw[termAt_get (by omega)]at this
       have e:(s.2.1.take i)[j]'(by rw[List.length_take];omega)=s.2.1[j]'(by omega):=by simp
       rw[e]at hp
       rw[hp]at this;cases this)
theorem g_iisTermOf_1 {v:Int} {k:Nat}:G_iisTermOf_1 v k (!argOk k v):=M_iisTermOf_1 _ _ _ (by
 unfold S_iisTermOf_1
 refine⟨_,_,g_iNullNumber,_,g_iIsValidValue,bc_not (fun h=>by unfold argOk;rw[h];rfl) (fun hv=>bc_if (fun hn=>?_) (fun hn=>by unfold argOk;rw[hv,hn];rfl))⟩
 unfold argOk
 rw[hv,hn]
 simp)
theorem g_iisTermOf {t:TTerm} {k:Nat}:G_iisTermOf t k (inR t.1 0 4&&inR t.2.1 0 4&&decide (t.2.2.1.length≤5)&&t.2.2.1.all (argOk k)):=M_iisTermOf _ _ _ (by
 unfold S_iisTermOf
 refine⟨_,g_iwithin,bc_not (fun h=>by rw[h];rfl) (fun h1=>⟨_,g_iwithin,bc_not (fun h=>by rw[h];simp) (fun h2=>lenI fun _=>bc_dec (fun h=>?_) (fun h3=>⟨_,g_slices_ContainsFunc_int_c_iisTermOf_1 (fun v=>!argOk k v) (fun _ _=>g_iisTermOf_1),?_⟩))⟩)⟩
 · rw[decide_eq_false (show ¬ t.2.2.1.length≤5 by omega)];simp
 · rw[h1,h2,decide_eq_true (show t.2.2.1.length≤5 by omega),any_not];simp)
theorem g_itermAt_1 {x y:TTerm}:G_itermAt_1 x y (decide (x=y)):=M_itermAt_1 _ _ _ (by
 unfold S_itermAt_1
 have no:¬ x=y→((false,()):Bool×Unit)=(decide (x=y),()):=fun h=>by rw[decide_eq_false h]
 refine bc_beq (fun h1=>bc_beq (fun h2=>⟨_,g_slices_Equal_int,?_⟩) (fun h=>no fun e=>h (by rw[e]))) (fun h=>no fun e=>h (by rw[e]))
 obtain⟨a,b,c,_⟩:=x;obtain⟨a',b',c',_⟩:=y
 simp only at h1 h2;simp[h1,h2])
def termIx (ts:List TTerm) (t:TTerm):Int:=if firstAt (fun x=>decide (x=t)) ts<ts.length then(firstAt (fun x=>decide (x=t)) ts:Int)else -1
theorem g_itermAt {ts:List TTerm} {t:TTerm}:G_itermAt ts t (termIx ts t):=M_itermAt _ _ _ (by
 unfold S_itermAt
 exact⟨_,g_slices_IndexFunc_SkolemTerm_c_itermAt_1 (fun x=>decide (x=t)) (fun _ _=>g_itermAt_1),rfl⟩)
theorem firstAt_take {α:Type} {p:α→Bool} {l:List α} {i:Nat} (h:i<l.length) (hp:p l[i]=true):firstAt p l=i↔(l.take i).any p=false:=by
 constructor
 · intro he
   rw[Bool.eq_false_iff];intro hany
   obtain⟨t,ht,hpt⟩:=List.any_eq_true.mp hany
   obtain⟨j,hj,rfl⟩:=List.mem_iff_getElem.mp ht
   rw[List.length_take]at hj
   have:=firstAt_lt (p:=p) (l:=l) (i:=j) (by omega) (by omega)
   have e:(l.take i)[j]'(by rw[List.length_take];omega)=l[j]'(by omega):=by simp
   rw[e]at hpt;rw[this]at hpt;cases hpt
 · intro hany
   rcases Nat.lt_trichotomy (firstAt p l) i with h1|h1|h1
   · have h2:=firstAt_at (p:=p) (l:=l) (by omega)
     have:(l.take i).any p=true:=List.any_eq_true.mpr ⟨l[firstAt p l],by
      have hj:firstAt p l<(l.take i).length:=by rw[List.length_take];omega
      have e:(l.take i)[firstAt p l]=l[firstAt p l]'(by omega):=by simp
      rw[←e];exact List.getElem_mem hj,h2⟩
     rw[hany]at this;cases this
   · exact h1
   · have:=firstAt_lt (p:=p) h h1;rw[hp]at this;cases this
theorem g_idepths {ts:List TTerm} (hl:ts.length≤30) (ha:∀ k (h:k<ts.length),ts[k].2.2.1.all (argOk k)=true∧ts[k].2.2.1.length≤5):G_idepths ts (deps_ ts):=M_idepths _ _ (by
 unfold S_idepths
 refine lenI fun _=>?_
 have hbnd0:∀(n:Nat) (l:List TTerm),l.length=n→∀ d∈deps_ l,1≤d∧d≤l.length:=by
  intro n
  induction n with
  |zero=>intro l hl;obtain rfl:=List.length_eq_zero_iff.mp hl;simp[deps_]
  | succ n ih0=>
    intro l0 hl d hd
    have hne:l0≠[]:=by intro e;rw[e]at hl;simp at hl
    obtain⟨l,t,rfl⟩:∃ l t,l0=l++[t]:=⟨_,_,(List.dropLast_concat_getLast hne).symm⟩
    have ih:=ih0 l (by simpa using hl)
    rw[deps_snoc]at hd
    rw[List.length_append]
    rcases List.mem_append.mp hd with hd|hd
    · have:=ih d hd;simp;omega
    · have e:d=depOf (deps_ l) t.2.2.1:=by simpa using hd
      rw[e]
      unfold depOf
      have h0:=mx_nonneg (fun k=>(deps_ l).getD k.toNat 0) (nulls t.2.2.1)
      have:mx (fun k=>(deps_ l).getD k.toNat 0) (nulls t.2.2.1)≤l.length:=mx_le.mpr ⟨by omega,fun k _=>by
       by_cases hk:k.toNat<(deps_ l).length
       · rw[getD_at hk];exact(ih _ (List.getElem_mem hk)).2
       · rw[List.getD_eq_getElem?_getD,List.getElem?_eq_none (by omega)];simp⟩
      simp only[List.length_cons,List.length_nil];omega
 have hbnd:=fun l=>hbnd0 _ l rfl
 refine loopP_of ts.length (fun i=>((i:Int),(deps_ (ts.take i),()))) (by simp[deps_]) ?_ ?_
 · intro i hi X hX
   have hdl:(deps_ (ts.take i)).length=i:=by rw[dps_len,List.length_take];omega
   have hai:=ha i hi
   refine bcI hi (inI hi ⟨_,g_inullsOf (by simp only;rw[getI hi];omega),lenI fun hsl=>?_⟩)
   simp only at hsl ⊢
   rw[getI hi]at hsl ⊢
   refine loopP_of (sset (nulls ts[i].2.2.1)).length (fun j=>(((sset (nulls ts[i].2.2.1)).take j).foldl (fun m k=>maxI m ((deps_ (ts.take i)).getD k.toNat 0)) 0+1,((j:Int),()))) (by simp) ?_ ?_
   · intro j hj Y hY
     have hm:=mem_sset.mp (List.getElem_mem hj)
     have hr:=args_nulls hai.1 _ hm
     have hkl:(sset (nulls ts[i].2.2.1))[j].toNat<(deps_ (ts.take i)).length:=by omega
     refine bcI hj (inI hj ?_)
     simp only
     rw[getI hj,w64_succ (by omega)]
     refine⟨⟨hr.1,by rw[hdl];exact hr.2⟩,?_⟩
     have hb:=hbnd (ts.take i) _ (List.getElem_mem hkl)
     rw[List.length_take]at hb
     have e:(deps_ (ts.take i)).getD (sset (nulls ts[i].2.2.1))[j].toNat 0=(deps_ (ts.take i))[(sset (nulls ts[i].2.2.1))[j].toNat]:=getD_at hkl
     rw[w64_id (by rw[e];omega) (by rw[e];omega)]
     rw[take_succ_snoc hj,List.foldl_append]at hY
     rw[maxI_comm_add]
     exact hY
   · intro Y
     refine bcN ?_
     simp only[List.take_length]
     have hmx:(sset (nulls ts[i].2.2.1)).foldl (fun m k=>maxI m ((deps_ (ts.take i)).getD k.toNat 0)) 0+1=depOf (deps_ (ts.take i)) ts[i].2.2.1:=by
      unfold depOf
      have:=mx_congr (f:=fun k=>(deps_ (ts.take i)).getD k.toNat 0) (l:=sset (nulls ts[i].2.2.1)) (m:=nulls ts[i].2.2.1) (fun k=>mem_sset)
      rw[←this];rfl
     rw[hmx,w64_succ (by omega)]
     refine⟨by simp only[maxL,List.length_cons,List.length_nil];omega,?_⟩
     rw[take_succ_snoc hi,deps_snoc]at hX
     exact hX
 · intro X
   refine bcN ?_
   simp only[List.take_length])
theorem g_iareTerms_1 {d:Int}:G_iareTerms_1 d (decide (d > 8)):=M_iareTerms_1 _ _ (by unfold S_iareTerms_1;rfl)
theorem g_iareTerms {ts:List TTerm}:G_iareTerms ts (areT ts):=M_iareTerms _ _ (by
 unfold S_iareTerms
 have no:areT ts=false→((false,()):Bool×Unit)=(areT ts,()):=fun h=>by rw[h]
 refine lenI fun _=>bc_dec (fun h=>no (by unfold areT;rw[decide_eq_false (show ¬ ts.length≤30 by omega)];simp)) (fun hl=>lenI fun _=>?_)
 have tOk:∀ k (h:k<ts.length),termOk ts k=((inR ts[k].1 0 4&&inR ts[k].2.1 0 4&&decide (ts[k].2.2.1.length≤5)&&ts[k].2.2.1.all (argOk k))&&decide (termIx ts ts[k]=k)):=by
  intro k h
  have e:(!(ts.take k).any (fun t=>decide (t=ts[k])))=decide (termIx ts ts[k]=k):=by
   have hf:=firstAt_take (p:=fun t=>decide (t=ts[k])) h (by simp)
   cases hany:(ts.take k).any (fun t=>decide (t=ts[k]))with
   | false=>
     have:=hf.mpr hany
     unfold termIx
     rw[this,if_pos h];simp
   | true=>
     have hne:firstAt (fun t=>decide (t=ts[k])) ts≠k:=fun e=>by rw[hf.mp e]at hany;cases hany
     unfold termIx
     split
     · rw[decide_eq_false (by omega)];rfl
     · rw[decide_eq_false (by omega)];rfl
  unfold termOk
  rw[termAt_get h,e]
 refine loop_anyI ts.length (fun k=>!termOk ts k) (fun k=>((k:Int),())) (KT:=areT ts=false) (KF:=∀ k,k<ts.length→termOk ts k=true) ?_ ?_ ?_ ?_
 · intro i hi X _ q1 q2
   refine bcI hi (inI hi ⟨_,g_iisTermOf,?_⟩)
   simp only
   rw[getI hi,w64_succ (by omega)]
   rw[tOk i hi]at q1 q2
   refine bc_not (fun h=>no (q1 (by rw[h];rfl))) (fun h=>⟨_,g_itermAt,bc_ne (fun h2=>no (q1 (by rw[decide_eq_false h2];simp))) (fun h2=>q2 (by rw[h,decide_eq_true h2];rfl))⟩)
 · intro X hall
   refine bcN ⟨_,g_idepths (by omega) (fun k hk=>?_),_,g_slices_ContainsFunc_int_c_iareTerms_1 (fun d=>decide (d > 8)) (fun _ _=>g_iareTerms_1),?_⟩
   · have:=hall k hk
     rw[tOk k hk]at this
     simp only[Bool.and_eq_true,decide_eq_true_eq]at this
     exact⟨this.1.2,this.1.1.2⟩
   · have e:(!(deps_ ts).any fun d=>decide (d > 8))=(deps_ ts).all fun d=>decide (d≤8):=by
      have h1:=any_not (p:=fun d:Int=>decide (d≤8)) (l:=deps_ ts)
      have h2:(fun d:Int=>!decide (d≤8))=fun d=>decide (d > 8):=by funext d;by_cases h:d≤8<;>simp[h]<;>omega
      rw[h2]at h1;rw[h1];simp
     rw[e]
     unfold areT
     rw[decide_eq_true (show ts.length≤30 by omega),List.all_eq_true.mpr fun k hk=>hall k (List.mem_range.mp hk)];rfl
 · rintro⟨k,hk,hp⟩
   unfold areT
   have:(List.range ts.length).all (termOk ts)=false:=by
    rw[Bool.eq_false_iff];intro hall
    have:=List.all_eq_true.mp hall k (List.mem_range.mpr hk);rw[nt hp]at this;cases this
   rw[this];simp
 · intro h k hk;exact nf (h k hk))
theorem g_iIsValidSkolemState {s:TSk}:G_iIsValidSkolemState s (vSk s):=M_iIsValidSkolemState _ _ (by
 unfold S_iIsValidSkolemState
 refine⟨_,g_iIsValidInstance,bc_if (fun h1=>lenI fun _=>⟨_,g_iNextNull (by have:=vInst_flat h1;omega),bc_dec (fun h2=>⟨_,g_iareTerms,?_⟩) (fun h2=>?_)⟩) (fun h1=>?_)⟩
 · unfold vSk;rw[h1,decide_eq_true h2];rfl
 · unfold vSk;rw[decide_eq_false h2];simp
 · unfold vSk;rw[h1];rfl)
theorem g_sFrontierVariables {d:TDep} (h1:(d.1.flatMap (·.2.1)).length≤1073741824) (h2:(d.2.1.flatMap (·.2.1)).length≤1073741824):G_sFrontierVariables d (frV d):=M_sFrontierVariables _ _ (by
 unfold S_sFrontierVariables
 have hv:=vars_len d.2.1
 refine⟨_,g_sVariables h1,_,g_sVariables h2,?_⟩
 refine loopP_of (vars d.2.1).length (fun i=>((i:Int),(((vars d.2.1).take i).filter (fun v=>decide (v∈vars d.1)),()))) (by simp) ?_ ?_
 · intro i hi X hX
   refine lenI fun _=>bcI hi (inI hi ⟨_,g_sl4Has,?_⟩)
   simp only
   rw[getI hi,w64_succ (by omega)]
   have e:((vars d.2.1).take (i+1)).filter (fun v=>decide (v∈vars d.1))=((vars d.2.1).take i).filter (fun v=>decide (v∈vars d.1))++(if (vars d.2.1)[i]∈vars d.1 then[(vars d.2.1)[i]] else[]):=by
    rw[take_succ_snoc hi,List.filter_append]
    by_cases h:(vars d.2.1)[i]∈vars d.1<;>simp[h]
   rw[e]at hX
   have hb:=List.length_filter_le (fun v=>decide (v∈vars d.1)) ((vars d.2.1).take i)
   rw[List.length_take]at hb
   refine bc_if (fun h=>inI hi ⟨by simp only[maxL,List.length_cons,List.length_nil];omega,?_⟩) (fun h=>?_)
   · have h:(vars d.2.1)[i]∈vars d.1:=by simpa using h
     rw[if_pos h]at hX;exact hX
   · have h:¬ (vars d.2.1)[i]∈vars d.1:=by simpa using h
     rw[if_neg h,List.append_nil]at hX;exact hX
 · intro X
   refine lenI fun _=>bcN ?_
   simp only[List.take_length]
   rfl)
theorem g_iFrontierVariables {d:TDep} (h1:(d.1.flatMap (·.2.1)).length≤1073741824) (h2:(d.2.1.flatMap (·.2.1)).length≤1073741824):G_iFrontierVariables d (frV d):=M_iFrontierVariables _ _ (by
 unfold S_iFrontierVariables
 exact⟨_,g_iheadVariables h1 h2,by rw[hdV_true]⟩)
theorem fold_len {α σ:Type} {μ:σ→Nat} {g:σ→α→σ} {c:Nat}:∀ {l:List α} {s:σ},(∀ s,∀ a∈l,μ (g s a)≤μ s+c)→μ (l.foldl g s)≤μ s+l.length * c
 |[],s,_=>by simp
 | a::l,s,h=>by
   have h1:=h s a (by simp)
   have h2:=fold_len (s:=g s a) fun s b (hb:b∈l)=>h s b (by simp[hb])
   rw[List.foldl_cons,List.length_cons,Nat.add_mul];omega
theorem loop_foldB {α σ τ:Type} {B:(τ→Prop)→τ→Prop} (l:List α) (g:σ→α→σ) (s0:σ) (e:Nat→σ→τ) (μ:σ→Nat) (c N:Nat) (hN:l.length≤N) (hg:∀ s,∀ a∈l,μ (g s a)≤μ s+c)
  (hs:∀ i (h:i<l.length) (s:σ) (X:τ→Prop),μ s≤μ s0+N * c→X (e (i+1) (g s l[i]))→B X (e i s))
  (hf:∀ X:τ→Prop,μ (l.foldl g s0)≤μ s0+N * c→B X (e l.length (l.foldl g s0))):LoopP B (e 0 s0):=by
 have hb:∀ i,i≤l.length→μ ((l.take i).foldl g s0)≤μ s0+N * c:=fun i hi=>by
  have h1:=fold_len (μ:=μ) (g:=g) (c:=c) (l:=l.take i) (s:=s0) fun s a ha=>hg s a (List.mem_of_mem_take ha)
  rw[List.length_take,Nat.min_eq_left hi]at h1
  have:i * c≤N * c:=Nat.mul_le_mul_right c (by omega)
  omega
 refine loop_fold l g s0 e (fun i hi X hX=>hs i hi _ X (hb i (by omega)) hX) (fun X=>hf X ?_)
 have:=hb l.length (Nat.le_refl _)
 rwa [List.take_length]at this
def small (d:TDep):Prop:=(d.1.flatMap (·.2.1)).length≤6∧(d.2.1.flatMap (·.2.1)).length≤6
theorem small_of {l:List TRel} {d:TDep} (h:vDep l d=true):small d:=by
 have:=vDep_spec h;exact⟨this.2.2.2.2.2.1,this.2.2.2.2.2.2⟩
theorem exV_len {d:TDep} (h:small d):(exV d).length≤6:=Nat.le_trans (List.length_filter_le _ _) (Nat.le_trans (vars_len _) h.2)
theorem frV_len {d:TDep} (h:small d):(frV d).length≤6:=Nat.le_trans (List.length_filter_le _ _) (Nat.le_trans (vars_len _) h.2)
theorem getD_set {α:Type} {l:List α} {i j:Nat} {x d:α} (h:i<l.length):(l.set i x).getD j d=if j=i then x else l.getD j d:=by
 by_cases hj:j<l.length
 · rw[getD_at (by simpa using hj),getD_at hj,List.getElem_set]
   by_cases hij:i=j
   · subst hij;simp
   · rw[if_neg hij,if_neg (Ne.symm hij)]
 · have:j≠i:=by omega
   rw[if_neg this,List.getD_eq_getElem?_getD,List.getD_eq_getElem?_getD,List.getElem?_eq_none (by simpa using hj),List.getElem?_eq_none (by omega)]
def plainD (l:List TRel) (ds:List TDep):Bool:=vDeps l ds && !ds.any fun d=>d.2.2.1
theorem g_sl23Plain {l:List TRel} {ds:List TDep}:G_sl23Plain l ds (plainD l ds):=M_sl23Plain _ _ _ (by
 unfold S_sl23Plain
 refine loop_any ds (fun d=>d.2.2.1) (fun i=>((i:Int),())) (KT:=ds.any (fun d=>d.2.2.1)=true) (KF:=ds.any (fun d=>d.2.2.1)=false) ?_ ?_ id id
 · intro i hi X h1 h2
   refine lenI fun _=>bcI hi (inI hi ?_)
   simp only
   rw[getI hi,w64_succ (by omega)]
   refine bc_if (fun h=>?_) (fun h=>h2 h)
   unfold plainD;rw[h1 h];simp
 · intro X h
   refine lenI fun _=>bcN ⟨_,g_sAreValidDependencies,?_⟩
   unfold plainD;rw[h];simp)
theorem g_iarePlain_1 {d:TDep}:G_iarePlain_1 d d.2.2.1:=M_iarePlain_1 _ _ (by unfold S_iarePlain_1;rfl)
theorem g_iarePlain {l:List TRel} {ds:List TDep}:G_iarePlain l ds (plainD l ds):=M_iarePlain _ _ _ (by
 unfold S_iarePlain plainD
 refine⟨_,g_iAreValidDependencies,bc_if (fun h=>⟨_,g_slices_ContainsFunc_Dependency_c_iarePlain_1 (fun d=>d.2.2.1) (fun _ _=>g_iarePlain_1),by rw[h];rfl⟩) (fun h=>by rw[h];rfl)⟩)
theorem g_slices_Clone_int {l:List Int} (h:l.length≤1099511627776):G_slices_Clone_int l l:=M_slices_Clone_int _ _ (by
 unfold S_slices_Clone_int
 refine bc_if (fun he=>⟨?_,by simp only[maxL,List.length_nil];omega,by rw[List.nil_append]⟩) (fun _=>⟨by simp only[maxL,List.length_nil];omega,by rw[List.nil_append]⟩)
 have:l=[]:=List.isEmpty_iff.mp he
 rw[this])
theorem g_slices_Clone_Relation {l:List TRel} (h:l.length≤1099511627776):G_slices_Clone_Relation l l:=M_slices_Clone_Relation _ _ (by
 unfold S_slices_Clone_Relation
 refine bc_if (fun he=>⟨?_,by simp only[maxL,List.length_nil];omega,by rw[List.nil_append]⟩) (fun _=>⟨by simp only[maxL,List.length_nil];omega,by rw[List.nil_append]⟩)
 have:l=[]:=List.isEmpty_iff.mp he
 rw[this])
theorem g_sl5Fact {f:TFact} (h:f.2.1.length≤1099511627776):G_sl5Fact f f:=M_sl5Fact _ _ (by
 unfold S_sl5Fact
 try refine⟨trivial,?_⟩
 exact⟨by simp only[maxL,List.length_nil];omega,by rw[List.nil_append]⟩)
theorem g_ifactCopy {f:TFact} (h:f.2.1.length≤1099511627776):G_ifactCopy f f:=M_ifactCopy _ _ (by
 unfold S_ifactCopy
 exact⟨_,g_slices_Clone_int h,rfl⟩)
theorem loop_copy {α τ:Type} {B:(τ→Prop)→τ→Prop} (l:List α) (e:Nat→List α→τ) (hl:l.length≤1073741824)
  (hs:∀ i (h:i<l.length) (s:List α) (X:τ→Prop),s.length≤1073741824→X (e (i+1) (s++[l[i]]))→B X (e i s))
  (hf:∀ X:τ→Prop,B X (e l.length l)):LoopP B (e 0 []):=by
 refine loopP_of l.length (fun i=>e i (l.take i)) (by simp) ?_ ?_
 · intro i hi X hX
   rw[take_succ_snoc hi]at hX
   exact hs i hi _ X (by rw[List.length_take];omega) hX
 · intro X;rw[List.take_length];exact hf X
theorem g_ifactsCopy {l:List TFact} (hl:l.length≤1073741824) (h:∀ f∈l,f.2.1.length≤1099511627776):G_ifactsCopy l l:=M_ifactsCopy _ _ (by
 unfold S_ifactsCopy
 refine lenI fun _=>loop_copy l (fun i s=>((i:Int),(s,()))) hl ?_ ?_
 · intro i hi s X hs hX
   refine bcI hi (inI hi ⟨l[i],?_,⟨by simp only[maxL,List.length_cons,List.length_nil];omega,?_⟩⟩)
   · simp only;rw[getI hi];exact g_ifactCopy (h _ (List.getElem_mem hi))
   · simp only;rw[w64_succ (by omega)];exact hX
 · intro X;exact bcN rfl)
theorem g_math_bits_Mul64_5:G_math_bits_Mul64 1 5 0 5:=M_math_bits_Mul64 _ _ _ _ (by
 unfold S_math_bits_Mul64
 decide)
abbrev blank:List Int:=[10,10,10,10,10]
theorem g_slices_Repeat_int_5:G_slices_Repeat_int [10] 5 blank:=M_slices_Repeat_int _ _ _ (by
 unfold S_slices_Repeat_int
 refine bcF (lenI fun _=>⟨0,5,M_math_bits_Mul _ _ _ _ ⟨0,5,g_math_bits_Mul64_5,rfl⟩,bcF (bcF ⟨by decide,by decide,?_⟩)⟩)
 refine loopP_of 3 (fun i=>match i with
  |0=>((1:Int),(([10,0,0,0,0]:List Int),()))
  |1=>((2:Int),(([10,10,0,0,0]:List Int),()))
  |2=>((4:Int),(([10,10,10,10,0]:List Int),()))
  |_=>((5:Int),(([10,10,10,10,10]:List Int),()))) (by decide) ?_ ?_
 · intro i hi X hX
   rcases i with _|_|_|i
   · exact lenI fun _=>bcT ⟨by decide,by decide,by decide,by rw[show ∀ z,w64 z=IntKind.i64.wrap z from fun _=>rfl];exact hX⟩
   · exact lenI fun _=>bcT ⟨by decide,by decide,by decide,by rw[show ∀ z,w64 z=IntKind.i64.wrap z from fun _=>rfl];exact hX⟩
   · exact lenI fun _=>bcT ⟨by decide,by decide,by decide,by rw[show ∀ z,w64 z=IntKind.i64.wrap z from fun _=>rfl];exact hX⟩
   · omega
 · intro X
   exact lenI fun _=>bcF rfl)
theorem g_iunboundBinding:G_iunboundBinding blank:=M_iunboundBinding _ (by unfold S_iunboundBinding;exact⟨_,g_slices_Repeat_int_5,rfl⟩)
theorem g_sl11None:G_sl11None 10:=M_sl11None _ (by unfold S_sl11None;rfl)
theorem g_sl11Blank:G_sl11Blank [10,10,10,10,10]:=M_sl11Blank _ (by
 unfold S_sl11Blank
 refine loopP_of 5 (fun i=>(List.replicate i (10:Int),())) rfl ?_ ?_
 · intro i hi X hX
   refine lenI fun _=>bc_dec (fun _=>⟨_,g_sl11None,by simp only[maxL,List.length_replicate,List.length_cons,List.length_nil];omega,?_⟩) (fun h=>by simp only[List.length_replicate]at h;omega)
   rw[List.replicate_succ']at hX;exact hX
 · intro X
   exact lenI fun _=>bcF rfl)
def fitP:List Int→List Int→List Int→List Int×Bool
 |[],_,b=>(b,true)
 | t::ts,v::vs,b=>if t<0 then(if -1 - t=v then fitP ts vs b else(b,false))
   else if b.getD t.toNat 0=10∨b.getD t.toNat 0=v then fitP ts vs (b.set t.toNat v)else(b,false)
 |_::_,[],b=>(b,false)
theorem fitP_cons {t:Int} {ts:List Int} {v:Int} {vs b:List Int}:fitP (t::ts) (v::vs) b=if t<0 then(if -1 - t=v then fitP ts vs b else(b,false))
 else if b.getD t.toNat 0=10∨b.getD t.toNat 0=v then fitP ts vs (b.set t.toNat v)else(b,false):=rfl
theorem fitP_len:∀ {ts vs b:List Int},(fitP ts vs b).1.length=b.length
 |[],vs,b=>by simp[fitP]
 |t::ts,[],b=>by simp[fitP]
 | t::ts,v::vs,b=>by
   unfold fitP
   split
   · split
     · exact fitP_len
     · rfl
   · split
     · rw[fitP_len,List.length_set]
     · rfl
theorem set_same {l:List Int} {i:Nat} {v:Int} (h:i<l.length) (hv:l.getD i 0=v):l.set i v=l:=by
 rw[getD_at h]at hv
 subst hv
 exact List.set_getElem_self h
theorem g_sl11Fit {a f:TFact} {b:List Int} (hl:a.2.1.length≤1000) (hb:b.length≤1000) (ht:∀ t∈a.2.1,-10≤t∧t<b.length) :
  G_sl11Fit a f b (if a.1=f.1∧a.2.1.length=f.2.1.length then(fitP a.2.1 f.2.1 b).1 else b) (decide (a.1=f.1∧a.2.1.length=f.2.1.length)&&(fitP a.2.1 f.2.1 b).2):=M_sl11Fit _ _ _ _ _ (by
 unfold S_sl11Fit
 refine⟨by simp only[maxL,List.length_nil];omega,bc_ne (fun h=>by rw[if_neg (fun h'=>h h'.1)];simp[h]) (fun h1=>lenI fun _=>lenI fun _=>bc_ne (fun h=>?_) (fun h2=>?_))⟩
 · have h:¬ a.2.1.length=f.2.1.length:=by omega
   rw[if_neg (fun h'=>h h'.2)];simp[h]
 · have h2:a.2.1.length=f.2.1.length:=by omega
   rw[if_pos ⟨h1,h2⟩,decide_eq_true (And.intro h1 h2),Bool.true_and,List.nil_append]
   refine loopP_down (fun k s=>∃(i:Nat) (c:List Int),i+k=a.2.1.length∧s=((i:Int),(c,()))∧c.length=b.length∧fitP (a.2.1.drop i) (f.2.1.drop i) c=fitP a.2.1 f.2.1 b) ?_ ?_ (n:=a.2.1.length) ⟨0,b,by omega,rfl,rfl,by simp⟩
   · rintro s ⟨i,c,hi,rfl,hc,hf⟩ X
     obtain rfl:i=a.2.1.length:=by omega
     refine lenI fun _=>bcN ?_
     rw[←hf];simp[fitP]
   · rintro k s ⟨i,c,hi,rfl,hc,hf⟩ X hX
     have hlt:i<a.2.1.length:=by omega
     have hlt':i<f.2.1.length:=by omega
     rw[drop_cons hlt,drop_cons hlt']at hf
     have htr:=ht _ (List.getElem_mem hlt)
     refine lenI fun _=>bcI hlt (inI hlt ?_)
     simp only
     rw[getI hlt,getI hlt',w64_succ (by omega)]
     rw[fitP_cons]at hf
     refine bc_dec (fun h3=>inI hlt' ?_) (fun h3=>?_)
     · rw[if_pos h3]at hf
       rw[w64_id (by omega) (by omega)]
       refine bc_ne (fun h4=>?_) (fun h4=>?_)
       · rw[if_neg h4]at hf;rw[←hf]
       · rw[if_pos h4]at hf;exact hX _ ⟨i+1,c,by omega,rfl,hc,hf⟩
     · rw[if_neg h3]at hf
       have hin:a.2.1[i].toNat<c.length:=by omega
       refine⟨⟨by omega,by omega⟩,_,g_sl11None,bc_ne (fun h4=>⟨⟨by omega,by omega⟩,inI hlt' (bc_ne (fun h5=>?_) (fun h5=>inI hlt' ⟨⟨by omega,by omega⟩,?_⟩))⟩) (fun h4=>inI hlt' ⟨⟨by omega,by omega⟩,?_⟩)⟩
       · rw[if_neg (by rintro (h|h);exact h4 h;exact h5 h)]at hf;rw[←hf]
       · rw[if_pos (.inr h5)]at hf;exact hX _ ⟨i+1,_,by omega,rfl,by rw[List.length_set];exact hc,hf⟩
       · rw[if_pos (.inl h4)]at hf;exact hX _ ⟨i+1,_,by omega,rfl,by rw[List.length_set];exact hc,hf⟩)
theorem g_ibind {a f:TFact} {b:List Int} (hl:a.2.1.length≤1000) (hb:b.length≤1000) (ht:∀ t∈a.2.1,-10≤t∧t<b.length) (hr:a.1=f.1→a.2.1.length=f.2.1.length) :
  G_ibind b a f (if a.1=f.1∧(fitP a.2.1 f.2.1 b).2 then(fitP a.2.1 f.2.1 b).1 else[]) (decide (a.1=f.1)&&(fitP a.2.1 f.2.1 b).2):=M_ibind _ _ _ _ _ (by
 unfold S_ibind
 refine bc_ne (fun h=>by rw[if_neg (fun h'=>h h'.1)];simp[h]) (fun h1=>⟨_,g_slices_Clone_int (by omega),lenI fun _=>?_⟩)
 have h2:=hr h1
 rw[decide_eq_true h1,Bool.true_and]
 refine loopP_down (fun k s=>∃(i:Nat) (c:List Int),i+k=a.2.1.length∧s=((i:Int),(c,()))∧c.length=b.length∧fitP (a.2.1.drop i) (f.2.1.drop i) c=fitP a.2.1 f.2.1 b) ?_ ?_ (n:=a.2.1.length) ⟨0,b,by omega,rfl,rfl,by simp⟩
 · rintro s ⟨i,c,hi,rfl,hc,hf⟩ X
   obtain rfl:i=a.2.1.length:=by omega
   refine bcN ?_
   rw[←hf];simp[fitP,h1]
 · rintro k s ⟨i,c,hi,rfl,hc,hf⟩ X hX
   have hlt:i<a.2.1.length:=by omega
   have hlt':i<f.2.1.length:=by omega
   rw[drop_cons hlt,drop_cons hlt']at hf
   have htr:=ht _ (List.getElem_mem hlt)
   refine bcI hlt (inI hlt (inI hlt' ?_))
   simp only
   rw[getI hlt,getI hlt',w64_succ (by omega)]
   rw[fitP_cons]at hf
   refine bc_dec (fun h3=>?_) (fun h3=>?_)
   · rw[if_pos h3]at hf
     rw[w64_id (by omega) (by omega)]
     refine bc_ne (fun h4=>?_) (fun h4=>?_)
     · rw[if_neg (fun h=>h4 h.symm)]at hf;rw[←hf];simp
     · rw[if_pos h4.symm]at hf;exact hX _ ⟨i+1,c,by omega,rfl,hc,hf⟩
   · rw[if_neg h3]at hf
     have hin:a.2.1[i].toNat<c.length:=by omega
     refine⟨⟨by omega,by omega⟩,bc_beq (fun h4=>⟨⟨by omega,by omega⟩,?_⟩) (fun h4=>⟨⟨by omega,by omega⟩,bc_ne (fun h5=>?_) (fun h5=>?_)⟩)⟩
     · rw[if_pos (.inl h4)]at hf;exact hX _ ⟨i+1,_,by omega,rfl,by rw[List.length_set];exact hc,hf⟩
     · rw[if_neg (by rintro (h|h);exact h4 h;exact h5 h)]at hf;rw[←hf];simp
     · rw[if_pos (.inr h5),set_same hin h5]at hf;exact hX _ ⟨i+1,c,by omega,rfl,hc,hf⟩)
def walkG (fs:List TFact) (w:List Int→List (List Int)) (a:TFact) (b:List Int) (out:List (List Int)) (f:TFact):List (List Int):=if a.1=f.1∧(fitP a.2.1 f.2.1 b).2=true then out++w (fitP a.2.1 f.2.1 b).1 else out
def walk (fs:List TFact):List TFact→List Int→List (List Int)
 |[],b=>[b]
 |a::ats,b=>fs.foldl (walkG fs (walk fs ats) a b) []
structure WOk (fs ats:List TFact):Prop where
 few:fs.length≤30
 row:∀ a∈ats,a.2.1.length≤3∧∀ t∈a.2.1,-10≤t∧t<5
 fit:∀ a∈ats,∀ f∈fs,a.1=f.1→a.2.1.length=f.2.1.length
theorem WOk.tail {fs ats:List TFact} {a:TFact} (h:WOk fs (a::ats)):WOk fs ats:=⟨h.few,fun x hx=>h.row x (by simp[hx]),fun x hx=>h.fit x (by simp[hx])⟩
theorem walkG_len {fs ats:List TFact} {a:TFact} {b:List Int} {n:Nat} (hw:∀ c,(walk fs ats c).length≤n) (out:List (List Int)) (f:TFact):(walkG fs (walk fs ats) a b out f).length≤out.length+n:=by
 unfold walkG
 split
 · rw[List.length_append];have:=hw (fitP a.2.1 f.2.1 b).1;omega
 · omega
theorem walk_len {fs:List TFact} (h:fs.length≤30):∀ {ats:List TFact} {b:List Int},(walk fs ats b).length≤30 ^ ats.length
 |[],b=>by simp[walk]
 | a::ats,b=>by
   have:=fold_len (l:=fs) (g:=walkG fs (walk fs ats) a b) (s:=[]) (μ:=List.length) (c:=30 ^ ats.length) fun s f _=>walkG_len (fun c=>walk_len h) s f
   simp only[List.length_nil,Nat.zero_add]at this
   rw[List.length_cons,Nat.pow_succ,Nat.mul_comm]
   exact Nat.le_trans this (Nat.mul_le_mul_right _ h)
theorem walk_mem {fs ats:List TFact} {b c:List Int} (h:c∈walk fs ats b):c.length=b.length:=by
 induction ats generalizing b c with
 |nil=>simp[walk]at h;rw[h]
 | cons a ats ih=>
   have:∀(l:List TFact) (out:List (List Int)),(∀ c∈out,c.length=b.length)→∀ c∈l.foldl (walkG fs (walk fs ats) a b) out,c.length=b.length:=by
    intro l
    induction l with
    |nil=>intro out ho;exact ho
    | cons f l ihl=>
      intro out ho
      rw[List.foldl_cons]
      refine ihl _ fun c hc=>?_
      unfold walkG at hc
      split at hc
      · rcases List.mem_append.mp hc with hc|hc
        · exact ho c hc
        · rw[ih hc,fitP_len]
      · exact ho c hc
   exact this fs [] (by simp) c h
def mOk (x:TInst) (l:List TFact):Bool:=l.all (vAtom x.1)&&(vInst x&&decide (l.length≤3))
theorem mOk_wok {x:TInst} {l:List TFact} (h:mOk x l=true):WOk x.2.1 l∧l.length≤3:=by
 unfold mOk at h
 simp only[Bool.and_eq_true,decide_eq_true_eq]at h
 obtain⟨h1,h2,h3⟩:=h
 refine⟨⟨vInst_len h2,fun a ha=>?_,fun a ha f hf he=>?_⟩,h3⟩
 · have:=vRow_spec (List.all_eq_true.mp h1 a ha)
   exact⟨this.2.2.2.2.1,fun t ht=>by have:=inR_iff.mp (this.2.2.2.2.2 t ht);omega⟩
 · have e1:=vRow_spec (List.all_eq_true.mp h1 a ha)
   have e2:=vRow_spec (vInst_fact h2 hf)
   have:=e1.2.2.2.1
   have:=e2.2.2.2.1
   rw[he]at *
   omega
def dedG (out:List (List Int)) (b:List Int):List (List Int):=if b∈out then out else out++[b]
def finds (x:TInst) (l:List TFact):List (List Int):=if mOk x l then(walk x.2.1 l blank).foldl dedG [] else[]
theorem dedG_len (out:List (List Int)) (b:List Int):(dedG out b).length≤out.length+1:=by unfold dedG;split<;>simp
theorem dedF_mem:∀ {l:List (List Int)} {out:List (List Int)} {b:List Int},b∈l.foldl dedG out→b∈out∨b∈l
 |[],out,b,h=>.inl h
 | c::l,out,b,h=>by
   rw[List.foldl_cons]at h
   rcases dedF_mem h with h|h
   · unfold dedG at h
     split at h
     · exact .inl h
     · rcases List.mem_append.mp h with h|h
       · exact .inl h
       · simp at h;exact .inr (by simp[h])
   · exact .inr (by simp[h])
theorem finds_len5 {x:TInst} {l:List TFact} {b:List Int} (h:b∈finds x l):b.length=5:=by
 unfold finds at h
 split at h
 · rcases dedF_mem h with h|h
   · simp at h
   · rw[walk_mem h];rfl
 · simp at h
theorem pow30 {n:Nat} (h:n≤3):30 ^ n≤27000:=Nat.le_trans (Nat.pow_le_pow_right (by omega) h) (by decide)
theorem finds_len {x:TInst} {l:List TFact}:(finds x l).length≤27000:=by
 unfold finds
 split
 · rename_i h
   have:=fold_len (l:=walk x.2.1 l blank) (g:=dedG) (s:=[]) (μ:=List.length) (c:=1) fun s f _=>dedG_len s f
   have h2:=walk_len (mOk_wok h).1.few (ats:=l) (b:=blank)
   have:=pow30 (mOk_wok h).2
   simp at *
   omega
 · exact Nat.zero_le _
theorem g_sl11Ok {x:TInst} {l:List TFact}:G_sl11Ok x l (mOk x l):=M_sl11Ok _ _ _ (by
 unfold S_sl11Ok
 refine loop_any l (fun a=>!vAtom x.1 a) (fun i=>((i:Int),())) (KT:=((false,()):Bool×Unit)=(mOk x l,())) (KF:=l.any (fun a=>!vAtom x.1 a)=false) ?_ ?_ ?_ (fun h=>h)
 · intro i hi X h1 h2
   refine lenI fun _=>bcI hi (inI hi ⟨_,g_sIsValidAtom,?_⟩)
   simp only
   rw[getI hi,w64_succ (by omega)]
   exact bc_if h1 h2
 · intro X h
   refine lenI fun _=>bcN ⟨_,g_sIsValidInstance,?_⟩
   rw[any_not]at h
   refine bc_if (fun h1=>lenI fun _=>?_) (fun h1=>?_)
   · unfold mOk;rw[nf h,h1];simp;omega
   · unfold mOk;rw[h1];simp
 · intro h
   rw[any_not]at h
   unfold mOk;rw[nt h];rfl)
theorem g_iareMatchable {x:TInst} {l:List TFact}:G_iareMatchable x l (mOk x l):=M_iareMatchable _ _ _ (by
 unfold S_iareMatchable
 refine⟨_,g_iIsValidInstance,bc_if (fun h1=>lenI fun _=>bc_beq (fun h2=>?_) (fun h2=>⟨_,g_iareAtoms,?_⟩)) (fun h1=>by unfold mOk;rw[h1];simp)⟩
 · have:l=[]:=List.eq_nil_of_length_eq_zero (by omega)
   unfold mOk;rw[this,h1];rfl
 · have:mOk x l=(inR l.length 1 3&&l.all (vAtom x.1)):=by
    unfold mOk
    rw[h1,Bool.true_and,Bool.and_comm]
    congr 1
    have h0:1≤l.length:=by omega
    unfold inR
    rw[decide_eq_true (show(1:Int)≤(l.length:Int) by omega),Bool.true_and]
    exact decide_eq_decide.mpr (by omega)
   rw[this])
theorem g_sl11Walk {x:TInst} {l:List TFact} (h:WOk x.2.1 l) (hl:l.length≤3):∀(k n:Nat) (b:List Int),n+k=l.length→b.length=5→G_sl11Walk x l n b (walk x.2.1 (l.drop n) b)
 | 0,n,b,hn,hb=>M_sl11Walk _ _ _ _ _ (by
   unfold S_sl11Walk
   obtain rfl:n=l.length:=by omega
   refine lenI fun _=>bc_beq (fun _=>⟨by simp only[maxL,List.length_nil];omega,by rw[List.drop_length];rfl⟩) (fun h=>absurd rfl h))
 | k+1,n,b,hn,hb=>M_sl11Walk _ _ _ _ _ (by
   unfold S_sl11Walk
   have hlt:n<l.length:=by omega
   refine lenI fun _=>bc_beq (fun h=>by omega) (fun _=>?_)
   rw[drop_cons hlt]
   have hrow:=h.row _ (List.getElem_mem hlt)
   refine loop_foldB x.2.1 (walkG x.2.1 (walk x.2.1 (l.drop (n+1))) l[n] b) [] (fun i s=>((i:Int),(s,()))) List.length 27000 30 h.few (fun s f _=>walkG_len (fun c=>Nat.le_trans (walk_len h.few) (pow30 (by rw[List.length_drop];omega))) s f) ?_ ?_
   · intro i hi s X hs hX
     have hfew:=h.few
     refine lenI fun _=>bcI hi (inI hlt (inI hi ⟨_,_,g_sl11Fit (a:=l.getD (Int.toNat (n:Int)) zFact) (f:=x.2.1.getD (Int.toNat (i:Int)) zFact) (b:=b) ?_ (by omega) ?_,?_⟩))
     · rw[getI hlt];omega
     · rw[getI hlt];intro t ht;have:=hrow.2 t ht;omega
     · simp only
       rw[getI hlt,getI hi,w64_succ (by omega),w64_succ (by omega)]
       have hfit:=h.fit _ (List.getElem_mem hlt) _ (List.getElem_mem hi)
       unfold walkG at hX
       by_cases hc:l[n].1=x.2.1[i].1
       · rw[if_pos ⟨hc,hfit hc⟩,decide_eq_true (And.intro hc (hfit hc)),Bool.true_and]
         refine bc_if (fun h4=>⟨_,g_sl11Walk h hl k (n+1) _ (by omega) (by rw[fitP_len];exact hb),?_,?_⟩) (fun h4=>?_)
         · have h5:(walk x.2.1 (l.drop (n+1)) (fitP l[n].2.1 x.2.1[i].2.1 b).1).length≤27000:=Nat.le_trans (walk_len h.few) (pow30 (by rw[List.length_drop];omega))
           simp only[maxL,List.length_nil]at *
           omega
         · rw[if_pos ⟨hc,h4⟩]at hX;exact hX
         · rw[if_neg (by rintro⟨_,h5⟩;rw[h4]at h5;cases h5)]at hX;exact hX
       · rw[if_neg (fun h=>hc h.1),decide_eq_false (fun h=>hc h.1),Bool.false_and]
         rw[if_neg (fun h=>hc h.1)]at hX
         exact bcF hX
   · intro X _
     exact lenI fun _=>bcN rfl)
theorem g_imatches {fs:List TFact}:∀ {l:List TFact} (b:List Int),WOk fs l→l.length≤3→b.length=5→G_imatches fs l b (walk fs l b)
 |[],b,h,hl,hb=>M_imatches _ _ _ _ (by unfold S_imatches;exact lenI fun _=>bcT rfl)
 | a::l,b,h,hl,hb=>M_imatches _ _ _ _ (by
   unfold S_imatches
   have hrow:=h.row a (by simp)
   refine lenI fun _=>bc_beq (fun h=>by simp at h;omega) (fun _=>lenI fun _=>?_)
   have hd:List.drop (Int.toNat (1:Int)) (List.take (Int.toNat ((a::l).length:Int)) (a::l))=l:=by rw[Int.toNat_natCast,List.take_length];rfl
   rw[hd]
   refine loop_foldB fs (walkG fs (walk fs l) a b) [] (fun i s=>((i:Int),(s,()))) List.length 27000 30 h.few (fun s f _=>walkG_len (fun c=>Nat.le_trans (walk_len h.few) (pow30 (by simp at hl;omega))) s f) ?_ ?_
   · intro i hi s X hs hX
     have hfew:=h.few
     refine bcI hi (inI hi ⟨⟨by omega,by simp only[List.length_cons];omega⟩,_,_,g_ibind (a:=a) (f:=fs.getD (Int.toNat (i:Int)) zFact) (b:=b) (by omega) (by omega) (fun t ht=>by have:=hrow.2 t ht;omega) ?_,?_⟩)
     · rw[getI hi];exact h.fit a (by simp) _ (List.getElem_mem hi)
     · simp only
       rw[getI hi,w64_succ (by omega)]
       unfold walkG at hX
       by_cases hc:a.1=fs[i].1
       · rw[decide_eq_true hc,Bool.true_and]
         refine bc_if (fun h4=>⟨⟨by omega,by simp;omega,by omega⟩,_,g_imatches _ h.tail (by simp at hl;omega) (by rw[if_pos ⟨hc,h4⟩,fitP_len];exact hb),?_,?_⟩) (fun h4=>?_)
         · have h5:∀ c,(walk fs l c).length≤27000:=fun c=>Nat.le_trans (walk_len h.few) (pow30 (by simp at hl;omega))
           have:=h5 (if a.1=fs[i].1∧(fitP a.2.1 fs[i].2.1 b).2=true then(fitP a.2.1 fs[i].2.1 b).1 else[])
           simp only[maxL,List.length_nil]at *
           omega
         · rw[if_pos ⟨hc,h4⟩]at hX ⊢;exact hX
         · rw[if_neg (by rintro⟨_,h5⟩;rw[h4]at h5;cases h5)]at hX;exact hX
       · rw[decide_eq_false hc,Bool.false_and]
         rw[if_neg (fun h=>hc h.1)]at hX
         exact bcF hX
   · intro X _
     exact bcN rfl)
theorem g_ihasBinding {l:List (List Int)} {b:List Int}:G_ihasBinding l b (decide (b∈l)):=M_ihasBinding _ _ _ (by
 unfold S_ihasBinding
 refine⟨_,g_slices_ContainsFunc_Sint_c_ihasBinding_1 (fun t=>decide (t=b)) (fun t _=>M_ihasBinding_1 _ _ _ ⟨_,g_slices_Equal_int,rfl⟩),?_⟩
 have:(l.any fun t=>decide (t=b))=decide (b∈l):=by
  rw[←any_mem]
  congr 1;funext t
  by_cases h:t=b
  · simp[h]
  · have:¬ b=t:=fun e=>h e.symm
    simp[h,this]
 rw[this])
def mkd {α:Type} (w:List α) (i:Nat):List (Bool×α):=(w.take i).map (fun y=>(false,y))++(w.drop i).map (fun y=>(true,y))
theorem mkd_len {α:Type} {w:List α} {i:Nat}:(mkd w i).length=w.length:=by
 unfold mkd
 rw[List.length_append,List.length_map,List.length_map,←List.length_append,List.take_append_drop]
theorem mkd_get {α:Type} {w:List α} {i:Nat} (h:i<w.length) {d:Bool×α}:List.getD (mkd w i) i d=(true,w[i]):=by
 have hl:((w.take i).map (fun y=>(false,y))).length=i:=by simp;omega
 unfold mkd
 rw[List.getD_eq_getElem?_getD,List.getElem?_append_right (by omega),hl,Nat.sub_self,List.getElem?_map,List.getElem?_drop,Nat.add_zero,List.getElem?_eq_getElem h]
 rfl
theorem mkd_set {α:Type} {w:List α} {i:Nat} (h:i<w.length):List.set (mkd w i) i (false,w[i])=mkd w (i+1):=by
 have hl:((w.take i).map (fun y=>(false,y))).length=i:=by simp;omega
 unfold mkd
 rw[List.set_append,hl,if_neg (by omega),Nat.sub_self,List.drop_eq_getElem_cons h,List.map_cons,List.set_cons_zero,take_succ_snoc h,List.map_append,List.append_assoc]
 rfl
theorem g_iFindMatches {x:TInst} {l:List TFact}:G_iFindMatches x l (finds x l):=M_iFindMatches _ _ _ (by
 unfold S_iFindMatches
 refine⟨_,g_iareMatchable,bc_not (fun h=>by unfold finds;rw[h];rfl) (fun h=>?_)⟩
 obtain⟨hw,hl⟩:=mOk_wok h
 refine⟨_,g_iunboundBinding,_,g_imatches blank hw hl rfl,lenI fun _=>?_⟩
 have hlen:(walk x.2.1 l blank).length≤27000:=Nat.le_trans (walk_len hw.few) (pow30 hl)
 unfold finds
 rw[h,if_pos rfl]
 rw[show List.map (fun y=>(true,y)) (walk x.2.1 l blank)=mkd (walk x.2.1 l blank) 0 from rfl]
 refine loop_foldB (walk x.2.1 l blank) dedG [] (fun i s=>((i:Int),(s,(mkd (walk x.2.1 l blank) i,())))) List.length 1 27000 hlen (fun s f _=>dedG_len s f) ?_ ?_
 · intro i hi s X hs hX
   refine bcI hi (inI (by rw[mkd_len];exact hi) ?_)
   simp only[Int.toNat_natCast]
   rw[mkd_get hi]
   refine⟨rfl,_,g_ihasBinding,?_⟩
   simp only
   rw[mkd_set hi,w64_succ (by omega)]
   unfold dedG at hX
   refine bc_nd (fun h4=>⟨by simp only[maxL,List.length_nil,List.length_cons]at *;omega,?_⟩) (fun h4=>?_)
   · rw[if_neg h4]at hX;exact hX
   · rw[if_pos h4]at hX;exact hX
 · intro X _
   exact bcN rfl)
theorem g_sFindMatches {x:TInst} {l:List TFact}:G_sFindMatches x l (finds x l):=M_sFindMatches _ _ _ (by
 unfold S_sFindMatches
 refine⟨_,g_sl11Ok,bc_not (fun h=>by unfold finds;rw[h];rfl) (fun h=>?_)⟩
 obtain⟨hw,hl⟩:=mOk_wok h
 refine⟨_,g_sl11Blank,_,g_sl11Walk hw hl l.length 0 blank (by omega) rfl,?_⟩
 rw[List.drop_zero]
 have hlen:(walk x.2.1 l blank).length≤27000:=Nat.le_trans (walk_len hw.few) (pow30 hl)
 unfold finds
 rw[h,if_pos rfl]
 refine loop_foldB (walk x.2.1 l blank) dedG [] (fun i s=>((i:Int),(s,(walk x.2.1 l blank,())))) List.length 1 27000 hlen (fun s f _=>dedG_len s f) ?_ ?_
 · intro i hi s X hs hX
   refine lenI fun _=>bcI hi ?_
   simp only
   rw[w64_succ (by omega)]
   refine loop_fold s (fun(m:Bool) c=>m||decide (c=(walk x.2.1 l blank)[i])) false (fun j m=>(m,((j:Int),()))) ?_ ?_
   · intro j hj Y hY
     refine lenI fun _=>bcI hj ?_
     simp only
     rw[w64_succ (by simp at hs;omega)]
     generalize (s.take j).foldl (fun(m:Bool) c=>m||decide (c=(walk x.2.1 l blank)[i])) false=m at hY ⊢
     cases m with
     |true=>exact bcT hY
     | false=>
       refine bcF (inI hj (inI hi ⟨_,g_sl4Ints,?_⟩))
       rw[getI hj,getI hi]
       have:(cmpL s[j] (walk x.2.1 l blank)[i] == (0:Int))=decide (s[j]=(walk x.2.1 l blank)[i]):=by
        by_cases he:s[j]=(walk x.2.1 l blank)[i]
        · rw[cmpL_zero.mpr he];simp[he]
        · have:cmpL s[j] (walk x.2.1 l blank)[i]≠0:=fun e=>he (cmpL_zero.mp e)
          simp[he,this]
       rw[this];simpa using hY
   · intro Y
     refine lenI fun _=>bcN ?_
     simp only
     have hm:∀(s:List (List Int)) (m:Bool),s.foldl (fun(m:Bool) c=>m||decide (c=(walk x.2.1 l blank)[i])) m=(m||decide ((walk x.2.1 l blank)[i]∈s)):=by
      intro s
      induction s with
      |nil=>intro m;simp
      | cons c s ih=>
        intro m
        rw[List.foldl_cons,ih,Bool.or_assoc]
        congr 1
        by_cases he:c=(walk x.2.1 l blank)[i]
        · simp[he]
        · have:¬ (walk x.2.1 l blank)[i]=c:=fun e=>he e.symm
          simp[he,this]
     rw[hm,Bool.false_or]
     unfold dedG at hX
     refine bc_nd (fun h4=>inI hi ⟨by simp only[maxL,List.length_nil,List.length_cons]at *;omega,?_⟩) (fun h4=>?_)
     · rw[getI hi];rw[if_neg h4]at hX;exact hX
     · rw[if_pos h4]at hX;exact hX
 · intro X _
   exact lenI fun _=>bcN rfl)
def instG (b:List Int) (t:Int):Option Int:=if 0≤t then(if (b.length:Int)≤t then none else if vVal (b.getD t.toNat 0)then some (b.getD t.toNat 0)else none)else(if vVal (-1 - t)then some (-1 - t)else none)
def instS (b:List Int) (s:List Int) (t:Int):Unit ⊕ List Int:=match instG b t with
 |none=>.inl ()
 |some v=>.inr (s++[v])
def inst (a:TFact) (b:List Int):TFact:=match runE (instS b) a.2.1 []with
 |.inl _=>zFact
 |.inr s=>(a.1,(s,()))
def instOk (a:TFact) (b:List Int):Bool:=match runE (instS b) a.2.1 []with
 |.inl _=>false
 |.inr _=>true
theorem instS_len {b:List Int}:∀ {l:List Int} {s s':List Int},runE (instS b) l s = .inr s'→s'.length=s.length+l.length
 |[],s,s',h=>by simp only[runE,Sum.inr.injEq]at h;subst h;simp
 | t::l,s,s',h=>by
   simp only[runE]at h
   unfold instS at h
   cases e:instG b t with
   |none=>rw[e]at h;simp at h
   | some v=>
     rw[e]at h
     have:=instS_len (b:=b) (l:=l) h
     simp at this ⊢
     omega
theorem inst_len {a:TFact} {b:List Int}:(inst a b).2.1.length≤a.2.1.length:=by
 unfold inst
 cases e:runE (instS b) a.2.1 []with
 |inl _=>simp
 |inr s=>have:=instS_len e;simp at this ⊢;omega
theorem inst_no {a:TFact} {b:List Int} {r:Unit} (h:runE (instS b) a.2.1 [] = .inl r):((zFact,(false,())):TFact×Bool×Unit)=(inst a b,(instOk a b,())):=by unfold inst instOk;rw[h]
theorem inst_yes {a:TFact} {b s:List Int} (h:runE (instS b) a.2.1 [] = .inr s):(((a.1,(s,())),(true,())):TFact×Bool×Unit)=(inst a b,(instOk a b,())):=by unfold inst instOk;rw[h]
theorem g_iInstantiate {a:TFact} {b:List Int} (hl:a.2.1.length≤1000) (hb:b.length≤1000) (ht:∀ t∈a.2.1,-10≤t∧t<5):G_iInstantiate a b (inst a b) (instOk a b):=M_iInstantiate _ _ _ _ (by
 unfold S_iInstantiate
 refine lenI fun _=>loop_run a.2.1 (instS b) [] (fun i s=>((i:Int),(zFact,((a.1,(s,())),())))) (KR:=fun _=>((zFact,(false,())):TFact×Bool×Unit)=(inst a b,(instOk a b,()))) ?_ ?_ (fun r hr=>inst_no hr)
 · intro i hi s X hr h1 h2
   have hs:=instS_len hr
   have htr:=ht _ (List.getElem_mem hi)
   refine bcI hi (inI hi ?_)
   simp only
   rw[getI hi,w64_succ (by omega)]
   unfold instS instG at h1 h2
   rw[List.length_take,List.length_nil]at hs
   refine bc_dec (fun h3=>lenI fun _=>bc_dec (fun h4=>?_) (fun h4=>⟨⟨by omega,by omega⟩,_,g_iIsValidValue,bc_not (fun h5=>?_) (fun h5=>⟨by simp only[maxL,List.length_cons,List.length_nil];omega,?_⟩)⟩)) (fun h3=>⟨_,g_iIsValidValue,?_⟩)
   · exact h1 () (by rw[if_pos (by omega),if_pos (by omega)])
   · exact h1 () (by rw[if_pos (by omega),if_neg (by omega),h5];rfl)
   · exact h2 _ (by rw[if_pos (by omega),if_neg (by omega),h5];rfl)
   · rw[w64_id (by omega) (by omega)]
     refine bc_not (fun h5=>?_) (fun h5=>⟨by simp only[maxL,List.length_cons,List.length_nil];omega,?_⟩)
     · exact h1 () (by rw[if_neg (by omega),h5];rfl)
     · exact h2 _ (by rw[if_neg (by omega),h5];rfl)
 · intro s X hr
   exact bcN (inst_yes hr))
theorem g_sInstantiate {a:TFact} {b:List Int} (hl:a.2.1.length≤1000) (hb:b.length≤1000) (ht:∀ t∈a.2.1,-10≤t∧t<5):G_sInstantiate a b (inst a b) (instOk a b):=M_sInstantiate _ _ _ _ (by
 unfold S_sInstantiate
 refine loop_run a.2.1 (instS b) [] (fun i s=>((i:Int),(zFact,((a.1,(s,())),())))) (KR:=fun _=>((zFact,(false,())):TFact×Bool×Unit)=(inst a b,(instOk a b,()))) ?_ ?_ (fun r hr=>inst_no hr)
 · intro i hi s X hr h1 h2
   have hs:=instS_len hr
   have htr:=ht _ (List.getElem_mem hi)
   refine lenI fun _=>bcI hi (inI hi (inI hi ?_))
   simp only
   rw[getI hi,w64_succ (by omega)]
   unfold instS instG at h1 h2
   rw[List.length_take,List.length_nil]at hs
   refine bc_dec (fun h3=>inI hi (lenI fun _=>bc_dec (fun h4=>?_) (fun h4=>inI hi ⟨⟨by omega,by omega⟩,_,g_sIsValidValue,bc_not (fun h5=>?_) (fun h5=>inI hi (bc_dec (fun h6=>by omega) (fun h6=>⟨by simp only[maxL,List.length_cons,List.length_nil];omega,?_⟩)))⟩))) (fun h3=>⟨_,g_sIsValidValue,?_⟩)
   · exact h1 () (by rw[if_pos (by omega),if_pos (by omega)])
   · exact h1 () (by rw[if_pos (by omega),if_neg (by omega),h5];rfl)
   · exact h2 _ (by rw[if_pos (by omega),if_neg (by omega),h5];rfl)
   · rw[w64_id (by omega) (by omega)]
     refine bc_not (fun h5=>?_) (fun h5=>inI hi (bc_dec (fun _=>bc_dec (fun h6=>by omega) (fun _=>⟨by simp only[maxL,List.length_cons,List.length_nil];omega,?_⟩)) (fun h6=>by omega)))
     · exact h1 () (by rw[if_neg (by omega),h5];rfl)
     · exact h2 _ (by rw[if_neg (by omega),h5];rfl)
 · intro s X hr
   exact lenI fun _=>bcN (inst_yes hr))
theorem g_iNullValue {k:Int} (h0:0≤k) (h1:k≤1000000):G_iNullValue k (-1 - k):=M_iNullValue _ _ (by unfold S_iNullValue;rw[w64_id (by omega) (by omega)])
theorem g_sNullValue {k:Int} (h0:0≤k) (h1:k≤1000000):G_sNullValue k (-1 - k):=M_sNullValue _ _ (by unfold S_sNullValue;rw[w64_id (by omega) (by omega)])
theorem any_dec {α:Type} [BEq α] [LawfulBEq α] [DecidableEq α] {l:List α} {b:α}:(l.any fun t=>decide (t=b))=decide (b∈l):=by
 rw[←any_mem]
 congr 1;funext t
 by_cases h:t=b
 · simp[h]
 · have:¬ b=t:=fun e=>h e.symm
   simp[h,this]
theorem g_ihasFact {l:List TFact} {f:TFact}:G_ihasFact l f (decide (f∈l)):=M_ihasFact _ _ _ (by
 unfold S_ihasFact
 refine⟨_,g_slices_ContainsFunc_Fact_c_ihasFact_1 (fun t=>decide (t=f)) (fun t _=>M_ihasFact_1 _ _ _ ⟨_,g_isameFact,rfl⟩),?_⟩
 rw[any_dec])
def place (l:List TFact) (f:TFact):Int:=if firstAt (fun x=>decide (x=f)) l<l.length then(firstAt (fun x=>decide (x=f)) l:Int)else -1
theorem place_ge {l:List TFact} {f:TFact}:decide (place l f≥0)=decide (f∈l):=by
 have:=idx_ge (fun x=>decide (x=f)) l
 rw[any_dec]at this
 exact this
theorem cmp_dec {x f:TFact}:(cmpF x f == (0:Int))=decide (x=f):=by
 by_cases h:x=f
 · rw[cmpF_zero.mpr h];simp[h]
 · have:cmpF x f≠0:=fun e=>h (cmpF_zero.mp e)
   simp[h,this]
theorem g_sl5Place {x:TInst} {f:TFact}:G_sl5Place x f (place x.2.1 f):=M_sl5Place _ _ _ (by
 unfold S_sl5Place
 refine loop_first x.2.1 (fun t=>decide (t=f)) (fun i=>((i:Int),())) (KT:=fun i=>(((i:Int),()):Int×Unit)=(place x.2.1 f,())) (KF:=(((-1:Int),()):Int×Unit)=(place x.2.1 f,())) ?_ ?_ ?_ ?_
 · intro i hi X h1 h2
   refine lenI fun _=>bcI hi (inI hi ⟨_,g_sCompareFacts,?_⟩)
   simp only
   rw[getI hi,cmp_dec,w64_succ (by omega)]
   exact bc_if h1 h2
 · intro X h;exact lenI fun _=>bcN h
 · intro h;unfold place;rw[if_pos h]
 · intro h;unfold place;rw[if_neg (by omega)])
theorem cmpL_trans:∀ {x y z:List Int},cmpL x y<0→cmpL y z<0→cmpL x z<0
 |[],[],z,h,_=>by simp[cmpL]at h
 |[],b::y,[],_,h=>by simp[cmpL]at h
 |[],b::y,c::z,_,_=>by simp[cmpL]
 |a::x,[],z,h,_=>by simp[cmpL]at h
 |a::x,b::y,[],_,h=>by simp[cmpL]at h
 | a::x,b::y,c::z,h1,h2=>by
   simp only[cmpL]at h1 h2 ⊢
   have ih:=cmpL_trans (x:=x) (y:=y) (z:=z)
   split at h1
   · split at h2
     · rw[if_pos (by omega)];omega
     · split at h2
       · omega
       · rw[if_pos (by omega)];omega
   · split at h1
     · omega
     · split at h2
       · rw[if_pos (by omega)];omega
       · split at h2
         · omega
         · rw[if_neg (by omega),if_neg (by omega)];exact ih h1 h2
theorem cmpF_trans {x y z:TFact} (h1:cmpF x y<0) (h2:cmpF y z<0):cmpF x z<0:=by
 unfold cmpF at *
 split at h1
 · split at h2
   · rw[if_pos (by omega)];omega
   · split at h2
     · omega
     · rw[if_pos (by omega)];omega
 · split at h1
   · omega
   · split at h2
     · rw[if_pos (by omega)];omega
     · split at h2
       · omega
       · rw[if_neg (by omega),if_neg (by omega)];exact cmpL_trans h1 h2
def asc (l:List TFact):Prop:=∀ i j (hj:j<l.length) (hij:i<j),cmpF (l[i]'(by omega)) l[j]<0
theorem vInst_asc {x:TInst} (h:vInst x=true):asc x.2.1:=by
 have step:∀ i (hi:i+1<x.2.1.length),cmpF (x.2.1[i]'(by omega)) x.2.1[i+1]<0:=by
  intro i hi
  unfold vInst at h
  simp only[Bool.and_eq_true]at h
  have:=List.all_eq_true.mp h.2 (i+1) (by simpa using hi)
  unfold factOk at this
  simp only[Bool.and_eq_true]at this
  have:=this.1.2
  rw[show(i+1 == 0)=false by simp,Bool.false_or]at this
  have h:=of_decide_eq_true this
  rw[Nat.add_sub_cancel,factAt_get (by omega),factAt_get hi]at h
  exact h
 have all:∀ k i (hk:i+1+k<x.2.1.length),cmpF (x.2.1[i]'(by omega)) x.2.1[i+1+k]<0:=by
  intro k
  induction k with
  |zero=>intro i hk;exact step i hk
  |succ k ih=>intro i hk;exact cmpF_trans (ih i (by omega)) (step (i+1+k) hk)
 intro i j hj hij
 obtain⟨k,rfl⟩:∃ k,j=i+1+k:=⟨j - i - 1,by omega⟩
 exact all k i hj
theorem vars_in {l:List TRel} {ats:List TFact} (h:∀ a∈ats,vAtom l a=true) {v:Int} (hv:v∈vars ats):0≤v∧v<5:=by
 unfold vars at hv
 rw[mem_sset,List.mem_filter]at hv
 obtain⟨h1,h2⟩:=hv
 obtain⟨a,ha,h3⟩:=List.mem_flatMap.mp h1
 have:=inR_iff.mp ((vRow_spec (h a ha)).2.2.2.2.2 v h3)
 have:0≤v:=by simpa using h2
 omega
structure DOk (d:TDep):Prop where
 sm:small d
 ex:∀ v∈exV d,0≤v∧v<5
 fr:∀ v∈frV d,0≤v∧v<5
 hd:d.2.1.length≤2∧∀ a∈d.2.1,a.2.1.length≤3∧∀ t∈a.2.1,-10≤t∧t<5
 bd:d.1.length≤2∧∀ a∈d.1,a.2.1.length≤3∧∀ t∈a.2.1,-10≤t∧t<5
theorem dOk_of {l:List TRel} {d:TDep} (h:vDep l d=true):DOk d:=by
 have hs:=vDep_spec h
 have row:∀ ats:List TFact,(∀ a∈ats,vAtom l a=true)→∀ a∈ats,a.2.1.length≤3∧∀ t∈a.2.1,-10≤t∧t<5:=fun ats h a ha=>by
  have:=vRow_spec (h a ha)
  exact⟨this.2.2.2.2.1,fun t ht=>by have:=inR_iff.mp (this.2.2.2.2.2 t ht);omega⟩
 exact⟨small_of h,fun v hv=>vars_in hs.2.2.2.2.1 (List.mem_filter.mp hv).1,fun v hv=>vars_in hs.2.2.2.2.1 (List.mem_filter.mp hv).1,⟨hs.2.2.2.1,row _ hs.2.2.2.2.1⟩,⟨hs.2.1,row _ hs.2.2.1⟩⟩
def frArgs (d:TDep) (b:List Int):List Int:=(frV d).foldl (fun s v=>s++[b.getD v.toNat 0]) []
theorem frArgs_len {d:TDep} (h:small d) (b:List Int):(frArgs d b).length≤6:=by
 have:=fold_len (l:=frV d) (g:=fun s v=>s++[b.getD v.toNat 0]) (s:=[]) (μ:=List.length) (c:=1) fun s v _=>by simp
 have:=frV_len h
 unfold frArgs
 simp at *
 omega
def tmOf (d:TDep) (i:Int) (b:List Int) (v:Int):TTerm:=(i,(v,(frArgs d b,())))
theorem termIx_in {ts:List TTerm} {t:TTerm} (h:t∈ts):0≤termIx ts t∧termIx ts t<ts.length:=by
 have h1:firstAt (fun x=>decide (x=t)) ts<ts.length:=firstAt_any.mpr (by rw[any_dec];simpa using h)
 unfold termIx
 rw[if_pos h1];omega
theorem termIx_out {ts:List TTerm} {t:TTerm} (h:t∉ts):termIx ts t = -1:=by
 unfold termIx
 rw[if_neg]
 intro h1
 have:=firstAt_any.mp h1
 rw[any_dec]at this
 exact h (by simpa using this)
def hdG (d:TDep) (i:Int) (b:List Int) (s:List TTerm×List Int) (v:Int):List TTerm×List Int:=
 if tmOf d i b v∈s.1 then(s.1,s.2.set v.toNat (-1 - termIx s.1 (tmOf d i b v)))else(s.1++[tmOf d i b v],s.2.set v.toNat (-1 - (s.1.length:Int)))
def hdS (ts:List TTerm) (d:TDep) (i:Int) (b:List Int):List TTerm×List Int:=(exV d).foldl (hdG d i b) (ts,b)
theorem hdF_ge {d:TDep} {i:Int} {b:List Int}:∀ {l:List Int} {s:List TTerm×List Int},s.1.length≤(l.foldl (hdG d i b) s).1.length
 |[],s=>Nat.le_refl _
 | v::l,s=>by
   rw[List.foldl_cons]
   refine Nat.le_trans ?_ hdF_ge
   unfold hdG
   split<;>simp
theorem hdG_vlen (d:TDep) (i:Int) (b:List Int) (s:List TTerm×List Int) (v:Int):(hdG d i b s v).2.length=s.2.length:=by unfold hdG;split<;>simp
theorem hdG_tlen (d:TDep) (i:Int) (b:List Int) (s:List TTerm×List Int) (v:Int):(hdG d i b s v).1.length≤s.1.length+1:=by unfold hdG;split<;>simp
def hdFacts (d:TDep) (vs:List Int):List TFact:=d.2.1.foldl (fun out a=>out++[inst a vs]) []
theorem foldl_snoc {α β:Type} (f:α→β):∀(l:List α) (s:List β),l.foldl (fun out a=>out++[f a]) s=s++l.map f
 |[],s=>by simp
 |a::l,s=>by rw[List.foldl_cons,foldl_snoc f l];simp
theorem g_slices_Clone_SkolemTerm {l:List TTerm} (h:l.length≤1099511627776):G_slices_Clone_SkolemTerm l l:=M_slices_Clone_SkolemTerm _ _ (by
 unfold S_slices_Clone_SkolemTerm
 refine bc_if (fun he=>⟨?_,by simp only[maxL,List.length_nil];omega,by rw[List.nil_append]⟩) (fun _=>⟨by simp only[maxL,List.length_nil];omega,by rw[List.nil_append]⟩)
 have:l=[]:=List.isEmpty_iff.mp he
 rw[this])
theorem g_iheadFacts {ts:List TTerm} {ds:List TDep} {i:Nat} {b:List Int} (hi:i<ds.length) (hd:DOk ds[i]) (hts:ts.length≤30) (hb:b.length=5) :
  G_iheadFacts ts ds i b (hdFacts ds[i] (hdS ts ds[i] i b).2) (hdS ts ds[i] i b).1:=M_iheadFacts _ _ _ _ _ _ (by
 unfold S_iheadFacts
 obtain⟨hs1,hs2⟩:=hd.sm
 have hfl:=frV_len hd.sm
 have hel:=exV_len hd.sm
 have hal:=frArgs_len hd.sm b
 refine inI hi ⟨_,g_slices_Clone_int (by omega),_,g_iFrontierVariables (d:=ds.getD (Int.toNat (i:Int)) zDep) (by rw[getI hi];omega) (by rw[getI hi];omega),?_⟩
 rw[getI hi]
 refine lenI fun _=>loop_foldB (frV ds[i]) (fun s v=>s++[b.getD v.toNat 0]) [] (fun j s=>((j:Int),(s,()))) List.length 1 6 hfl (fun s v _=>by simp) ?_ ?_
 · intro j hj s X hs hX
   have hv:=hd.fr _ (List.getElem_mem hj)
   refine bcI hj (inI hj ?_)
   simp only
   rw[getI hj,w64_succ (by omega)]
   exact⟨⟨by omega,by omega⟩,by simp only[maxL,List.length_cons,List.length_nil]at *;omega,hX⟩
 · intro X _
   refine bcN ⟨_,g_slices_Clone_SkolemTerm (by omega),_,g_iExistentialVariables (by omega) (by omega),lenI fun _=>?_⟩
   refine loop_foldB (exV ds[i]) (hdG ds[i] i b) (ts,b) (fun j s=>((j:Int),(s.1,(s.2,())))) (fun s=>s.1.length+(if s.2.length=5 then 0 else 1000000)) 1 6 hel (fun s v _=>by rw[hdG_vlen];have:=hdG_tlen ds[i] i b s v;omega) ?_ ?_
   · intro j hj s Y hs hY
     have hv:=hd.ex _ (List.getElem_mem hj)
     have h5:s.2.length=5∧s.1.length≤36:=by
      rw[if_pos hb]at hs
      by_cases h:s.2.length=5
      · rw[if_pos h]at hs;simp only at hs;omega
      · rw[if_neg h]at hs;simp only at hs;omega
     refine bcI hj (inI hj ⟨_,g_slices_Clone_int (by show(frArgs ds[i] b).length≤_;omega),_,g_itermAt,?_⟩)
     simp only
     rw[getI hj,w64_succ (by omega)]
     have e:(((i:Int),((exV ds[i])[j],((frV ds[i]).foldl (fun s v=>s++[b.getD v.toNat 0]) [],()))):TTerm)=tmOf ds[i] i b (exV ds[i])[j]:=rfl
     rw[e]
     unfold hdG at hY
     by_cases hm:tmOf ds[i] i b (exV ds[i])[j]∈s.1
     · have h6:=termIx_in hm
       rw[if_pos hm]at hY
       refine bc_dec (fun h=>by omega) (fun _=>⟨_,g_iNullValue h6.1 (by omega),⟨by omega,by omega⟩,hY⟩)
     · rw[termIx_out hm]
       rw[if_neg hm]at hY
       refine bc_dec (fun _=>lenI fun _=>⟨by simp only[maxL,List.length_cons,List.length_nil];omega,_,g_iNullValue (by omega) (by omega),⟨by omega,by omega⟩,hY⟩) (fun h=>by omega)
   · intro Y hs
     have h5:(hdS ts ds[i] i b).2.length=5:=by
      rw[if_pos hb]at hs
      by_cases h:(hdS ts ds[i] i b).2.length=5
      · exact h
      · unfold hdS at h;rw[if_neg h]at hs;simp only at hs;omega
     refine bcN (lenI fun _=>?_)
     refine loop_foldB ds[i].2.1 (fun out a=>out++[inst a (hdS ts ds[i] i b).2]) [] (fun j s=>((j:Int),(s,()))) List.length 1 2 hd.hd.1 (fun s a _=>by simp) ?_ ?_
     · intro j hj s Z hs hZ
       have ha:=hd.hd.2 _ (List.getElem_mem hj)
       refine bcI hj (inI hj ⟨_,_,g_iInstantiate (a:=(ds[i].2.1).getD (Int.toNat (j:Int)) zFact) (b:=(hdS ts ds[i] i b).2) (by rw[getI hj];omega) (by omega) (by rw[getI hj];exact ha.2),?_⟩)
       simp only
       rw[getI hj,w64_succ (by omega)]
       exact⟨by simp only[maxL,List.length_cons,List.length_nil]at *;omega,hZ⟩
     · intro Z _
       exact bcN rfl)
def deepG (dp:List Int) (m v:Int):Int:=if isNul v then(if nulNo v<(dp.length:Int)then maxI m (dp.getD (nulNo v).toNat 0)else m)else m
def deepS (dp:List Int) (t:TTerm):List Int:=dp++[w64 (t.2.2.1.foldl (deepG dp) 0+1)]
theorem deepS_len:∀(l:List TTerm) (s:List Int),(l.foldl deepS s).length=s.length+l.length
 |[],s=>by simp
 |t::l,s=>by rw[List.foldl_cons,deepS_len];simp[deepS];omega
theorem g_sl23Deep_v {s:TSk} {t:TTerm} (hl:s.2.1.length≤30):G_sl23Deep s t (((s.2.1++[t]).foldl deepS []).getD s.2.1.length 0):=by
 refine M_sl23Deep _ _ _ ?_
 unfold S_sl23Deep
 refine loopP_of (s.2.1.length+1) (fun i=>((i:Int),(((s.2.1++[t]).take i).foldl deepS [],()))) rfl ?_ ?_
 · intro i hi X hX
   have hlen:=deepS_len ((s.2.1++[t]).take i) []
   have hin:i<(s.2.1++[t]).length:=by simp;omega
   rw[take_succ_snoc hin,List.foldl_append]at hX
   simp only[List.foldl_cons,List.foldl_nil]at hX
   rw[List.length_take,List.length_nil,Nat.min_eq_left (by omega)]at hlen
   simp only
   generalize ((s.2.1++[t]).take i).foldl deepS []=dp at hX hlen ⊢
   refine lenI fun _=>bc_dec (fun _=>lenI fun _=>bc_dec (fun h=>?_) (fun h=>?_)) (fun h=>by omega)
   · have hi':i<s.2.1.length:=by omega
     rw[List.getElem_append_left hi']at hX
     refine inI hi' ?_
     rw[getI hi',w64_succ (by omega)]
     refine loop_fold s.2.1[i].2.2.1 (deepG dp) 0 (fun j m=>(m,((j:Int),()))) ?_ ?_
     · intro j hj Y hY
       refine lenI fun _=>bcI hj (inI hj ⟨_,_,g_sNullNumber,?_⟩)
       simp only
       rw[getI hj,w64_succ (by omega)]
       generalize (s.2.1[i].2.2.1.take j).foldl (deepG dp) 0=m at hY ⊢
       unfold deepG at hY
       refine bc_if (fun h=>lenI fun _=>bc_dec (fun h2=>⟨⟨nulNo_nonneg _,h2⟩,?_⟩) (fun h2=>?_)) (fun h=>?_)
       · rw[if_pos h,if_pos h2]at hY;exact hY
       · rw[if_pos h,if_neg h2]at hY;exact hY
       · rw[h]at hY;simpa using hY
     · intro Y
       exact lenI fun _=>bcN ⟨by simp only[maxL,List.length_cons,List.length_nil];omega,hX⟩
   · obtain rfl:i=s.2.1.length:=by omega
     rw[show(s.2.1++[t])[s.2.1.length]=t by simp]at hX
     rw[w64_succ (by omega)]
     refine loop_fold t.2.2.1 (deepG dp) 0 (fun j m=>(m,((j:Int),()))) ?_ ?_
     · intro j hj Y hY
       refine lenI fun _=>bcI hj (inI hj ⟨_,_,g_sNullNumber,?_⟩)
       simp only
       rw[getI hj,w64_succ (by omega)]
       generalize (t.2.2.1.take j).foldl (deepG dp) 0=m at hY ⊢
       unfold deepG at hY
       refine bc_if (fun h=>lenI fun _=>bc_dec (fun h2=>⟨⟨nulNo_nonneg _,h2⟩,?_⟩) (fun h2=>?_)) (fun h=>?_)
       · rw[if_pos h,if_pos h2]at hY;exact hY
       · rw[if_pos h,if_neg h2]at hY;exact hY
       · rw[h]at hY;simpa using hY
     · intro Y
       exact lenI fun _=>bcN ⟨by simp only[maxL,List.length_cons,List.length_nil];omega,hX⟩
 · intro X
   have hlen:=deepS_len (s.2.1++[t]) []
   simp only[List.length_append,List.length_cons,List.length_nil]at hlen
   refine lenI fun _=>bc_dec (fun h=>by simp only at h;omega) (fun _=>lenI fun _=>?_)
   have e:(s.2.1++[t]).take (s.2.1.length+1)=s.2.1++[t]:=List.take_of_length_le (by simp)
   simp only[e,Int.toNat_natCast]
   exact⟨⟨by omega,by omega⟩,trivial⟩
theorem term_eq (x y:TTerm):(x=y)↔x.1=y.1∧x.2.1=y.2.1∧x.2.2.1=y.2.2.1:=by
 obtain⟨a,b,c,u⟩:=x;obtain⟨a',b',c',u'⟩:=y
 simp
def tmTail (s:TSk) (t:TTerm) (K:TSk×Int×Bool×Unit→Prop):Prop:=lenA (s.2.1.length:Int) (bcase ((s.2.1.length:Int) == (30:Int)) (K (s,((0:Int),(false,())))) (∃ y5:Int,G_sl23Deep s t y5∧
 bcase (decide (y5 > (8:Int))) (K (s,((0:Int),(false,())))) (True∧True∧([]:List TTerm).length+s.2.1.length≤maxL∧(([]:List TTerm)++s.2.1).length+([t]:List TTerm).length≤maxL∧
  lenA (List.length ((([]:List TTerm)++s.2.1)++([t]:List TTerm)):Int) (∃ y6:Int,G_sNullValue (w64 ((List.length ((([]:List TTerm)++s.2.1)++([t]:List TTerm)):Int) - (1:Int))) y6∧
   K ((s.1,((([]:List TTerm)++s.2.1)++([t]:List TTerm),s.2.2)),(y6,(true,())))))))
theorem sl23Term_main {s:TSk} {t:TTerm} (hl:s.2.1.length≤30) (y1:TSk) (y2:Int) (y3:Bool) (h1:t∈s.2.1→y1=s∧y2 = -1 - termIx s.2.1 t∧y3=true) (h2:t∉s.2.1→tmTail s t fun r=>r=(y1,(y2,(y3,())))):G_sl23Term s t y1 y2 y3:=by
 refine M_sl23Term _ _ _ _ _ ?_
 unfold S_sl23Term
 refine loop_first s.2.1 (fun x=>decide (x=t)) (fun i=>((i:Int),(((([]:List TRel),(([]:List TFact),())),(([]:List TTerm),())),()))) (KT:=fun i=>((s,(-1 - (i:Int),(true,()))):TSk×Int×Bool×Unit)=(y1,(y2,(y3,())))) (KF:=t∉s.2.1) ?_ ?_ ?_ ?_
 · intro i hi X g1 g2
   refine lenI fun _=>bcI hi (inI hi ?_)
   simp only
   rw[getI hi,w64_succ (by omega)]
   have no:¬ s.2.1[i]=t→X (((i+1:Nat):Int),(((([]:List TRel),(([]:List TFact),())),(([]:List TTerm),())),())):=fun h=>g2 (by simpa using h)
   refine bc_beq (fun e1=>inI hi (bc_beq (fun e2=>inI hi ⟨_,g_sl4Ints,bc_beq (fun e3=>⟨_,g_sNullValue (by omega) (by omega),?_⟩) (fun e3=>no fun h=>e3 (by rw[h];exact cmpL_zero.mpr rfl))⟩) (fun e2=>no fun h=>e2 (by rw[h])))) (fun e1=>no fun h=>e1 (by rw[h]))
   exact g1 (by simpa using (term_eq _ _).mpr ⟨e1,e2,cmpL_zero.mp e3⟩)
 · intro X h
   refine lenI fun _=>bcN ?_
   exact h2 h
 · intro h
   have hm:t∈s.2.1:=by
    have:=firstAt_any.mp h
    rw[any_dec]at this
    simpa using this
   obtain⟨rfl,rfl,rfl⟩:=h1 hm
   unfold termIx;rw[if_pos h]
 · intro h hm
   have:=firstAt_any (p:=fun x=>decide (x=t)).mpr (by rw[any_dec];simpa using hm)
   omega
theorem vSk_inst {s:TSk} (h:vSk s=true):vInst s.1=true∧s.2.1.length≤30:=⟨(vSk_parts h).1,areT_len (vSk_parts h).2.2⟩
theorem flat_le {f:TFact}:∀ {l:List TFact},f∈l→f.2.1.length≤(l.flatMap (·.2.1)).length
 | a::l,h=>by
   rw[List.flatMap_cons,List.length_append]
   rcases List.mem_cons.mp h with rfl|h
   · omega
   · have:=flat_le h;omega
theorem vSk_args {s:TSk} (h:vSk s=true) {i:Nat} (hi:i<s.2.1.length):s.2.1[i].2.2.1.length≤5:=by
 have:=areT_term (vSk_parts h).2.2 hi
 unfold termOk at this
 rw[termAt_get hi]at this
 simp only[Bool.and_eq_true,decide_eq_true_eq]at this
 exact this.1.1.2
theorem g_sl5Copy {x:TInst} (h1:x.1.length≤1099511627776) (hl:x.2.1.length≤1073741824) (h:∀ f∈x.2.1,f.2.1.length≤1099511627776):G_sl5Copy x x:=M_sl5Copy _ _ (by
 unfold S_sl5Copy
 refine⟨by simp only[maxL,List.length_nil];omega,?_⟩
 rw[List.nil_append]
 refine loop_copy x.2.1 (fun i s=>((i:Int),((x.1,(s,())),()))) hl ?_ ?_
 · intro i hi s X hs hX
   refine lenI fun _=>bcI hi (inI hi ⟨x.2.1[i],?_,⟨by simp only[maxL,List.length_cons,List.length_nil];omega,?_⟩⟩)
   · simp only;rw[getI hi];exact g_sl5Fact (h _ (List.getElem_mem hi))
   · simp only;rw[w64_succ (by omega)];exact hX
 · intro X;exact lenI fun _=>bcN rfl)
structure SmS (s:TSk):Prop where
 rels:s.1.1.length≤1048576
 few:s.1.2.1.length≤1048576
 row:∀ f∈s.1.2.1,f.2.1.length≤1048576
 terms:s.2.1.length≤1048576
 args:∀ t∈s.2.1,t.2.2.1.length≤1048576
theorem SmS.of {s:TSk} (h:vSk s=true):SmS s:=by
 have hi:=vSk_inst h
 have hr:=vRels_len (vInst_rels hi.1)
 have hf:=vInst_len hi.1
 refine⟨by omega,by omega,fun f hm=>?_,by omega,fun t ht=>?_⟩
 · have h1:=vInst_flat hi.1
   have h2:=flat_le hm
   omega
 · obtain⟨i,hi,rfl⟩:=List.mem_iff_getElem.mp ht
   have:=vSk_args h hi
   omega
theorem g_sl23Copy_b {s:TSk} (h:SmS s):G_sl23Copy s s:=M_sl23Copy _ _ (by
 unfold S_sl23Copy
 have h1:=h.rels
 have h2:=h.few
 have h3:=h.terms
 refine⟨s.1,g_sl5Copy (by omega) (by omega) (fun f hf=>by have:=h.row f hf;omega),?_⟩
 refine loop_copy s.2.1 (fun i t=>((i:Int),(((s.1.1,(s.1.2.1,s.1.2.2)),(t,())),()))) (by omega) ?_ ?_
 · intro i hi t X hs hX
   have ha:=h.args _ (List.getElem_mem hi)
   refine lenI fun _=>bcI hi (inI hi (inI hi (inI hi ?_)))
   simp only
   rw[getI hi,w64_succ (by omega),List.nil_append]
   exact⟨by simp only[maxL,List.length_nil];omega,by simp only[maxL,List.length_cons,List.length_nil];omega,hX⟩
 · intro X;exact lenI fun _=>bcN rfl)
theorem g_itermCopy {t:TTerm} (h:t.2.2.1.length≤1099511627776):G_itermCopy t t:=M_itermCopy _ _ (by
 unfold S_itermCopy
 exact⟨_,g_slices_Clone_int h,rfl⟩)
theorem g_iinstanceCopy {x:TInst} (h1:x.1.length≤1099511627776) (hl:x.2.1.length≤1073741824) (h:∀ f∈x.2.1,f.2.1.length≤1099511627776):G_iinstanceCopy x x:=M_iinstanceCopy _ _ (by
 unfold S_iinstanceCopy
 exact⟨_,g_slices_Clone_Relation h1,_,g_ifactsCopy hl h,rfl⟩)
theorem g_istateCopy_b {s:TSk} (h:SmS s):G_istateCopy s s:=M_istateCopy _ _ (by
 unfold S_istateCopy
 have h1:=h.rels
 have h2:=h.few
 have h3:=h.terms
 refine⟨s.1,g_iinstanceCopy (by omega) (by omega) (fun f hf=>by have:=h.row f hf;omega),lenI fun _=>?_⟩
 refine loop_copy s.2.1 (fun i t=>((i:Int),(((s.1.1,(s.1.2.1,s.1.2.2)),(t,())),()))) (by omega) ?_ ?_
 · intro i hi t X hs hX
   have ha:=h.args _ (List.getElem_mem hi)
   refine bcI hi (inI hi ⟨s.2.1[i],?_,⟨by simp only[maxL,List.length_cons,List.length_nil];omega,?_⟩⟩)
   · simp only;rw[getI hi];exact g_itermCopy (by omega)
   · simp only;rw[w64_succ (by omega)];exact hX
 · intro X;exact bcN rfl)
theorem g_istateCopy {s:TSk} (h:vSk s=true):G_istateCopy s s:=g_istateCopy_b (.of h)
def iAt (l:List Int) (i:Nat):Int:=l.getD i 0
theorem iAt_get {l:List Int} {i:Nat} (h:i<l.length):iAt l i=l[i]:=getD_at h
theorem cmpL_anti:∀ {x y:List Int},cmpL y x = - cmpL x y
 |[],[]=>rfl
 |[],b::y=>rfl
 |a::x,[]=>rfl
 | a::x,b::y=>by
   simp only[cmpL]
   have:=cmpL_anti (x:=x) (y:=y)
   split<;>split<;>first|omega|(rw[this])|skip
theorem cmpF_anti {x y:TFact}:cmpF y x = - cmpF x y:=by
 unfold cmpF
 have:=cmpL_anti (x:=x.2.1) (y:=y.2.1)
 split<;>split<;>first|omega|(rw[this])|skip
theorem asc_pw {l:List TFact}:asc l↔l.Pairwise fun a b=>cmpF a b<0:=by
 rw[List.pairwise_iff_getElem]
 exact⟨fun h i j hi hj hij=>h i j hj hij,fun h i j hj hij=>h i j (by omega) hj hij⟩
theorem pw_ext:∀ {a b:List TFact},(a.Pairwise fun a b=>cmpF a b<0)→(b.Pairwise fun a b=>cmpF a b<0)→(∀ y,y∈a↔y∈b)→a=b
 |[],[],_,_,_=>rfl
 |[],b::m,_,_,h=>absurd ((h b).mpr (by simp)) (by simp)
 |a::l,[],_,_,h=>absurd ((h a).mp (by simp)) (by simp)
 | a::l,b::m,h1,h2,h=>by
   rw[List.pairwise_cons]at h1 h2
   have hab:a=b:=by
    have ha:=(h a).mp (by simp)
    have hb:=(h b).mpr (by simp)
    rcases List.mem_cons.mp ha with e|ha
    · exact e
    · rcases List.mem_cons.mp hb with e|hb
      · exact e.symm
      · have q1:=h2.1 a ha
        have q2:=h1.1 b hb
        rw[cmpF_anti]at q1
        omega
   subst hab
   congr 1
   refine pw_ext h1.2 h2.2 fun y=>⟨fun hy=>?_,fun hy=>?_⟩
   · rcases List.mem_cons.mp ((h y).mp (by simp[hy]))with e|h'
     · subst e;have:=h1.1 y hy;rw[cmpF_zero.mpr rfl]at this;omega
     · exact h'
   · rcases List.mem_cons.mp ((h y).mpr (by simp[hy]))with e|h'
     · subst e;have:=h2.1 y hy;rw[cmpF_zero.mpr rfl]at this;omega
     · exact h'
theorem asc_ext {a b:List TFact} (h1:asc a) (h2:asc b) (h:∀ y,y∈a↔y∈b):a=b:=pw_ext (asc_pw.mp h1) (asc_pw.mp h2) h
def putK (l:List TFact) (f:TFact):Nat:=firstAt (fun t=>!decide (cmpF t f<0)) l
def putF (l:List TFact) (f:TFact):List TFact:=if f∈l then l else l.take (putK l f)++f::l.drop (putK l f)
theorem putF_mem {l:List TFact} {f y:TFact}:y∈putF l f↔y∈l∨y=f:=by
 unfold putF
 split
 · rename_i h
   exact⟨.inl,fun h'=>h'.elim id fun e=>e ▸ h⟩
 · have:y∈l↔y∈l.take (putK l f)∨y∈l.drop (putK l f):=by rw[←List.mem_append,List.take_append_drop]
   rw[this,List.mem_append,List.mem_cons]
   constructor
   · rintro (h|h|h)
     · exact .inl (.inl h)
     · exact .inr h
     · exact .inl (.inr h)
   · rintro ((h|h)|h)
     · exact .inl h
     · exact .inr (.inr h)
     · exact .inr (.inl h)
theorem putF_len {l:List TFact} {f:TFact}:(putF l f).length≤l.length+1:=by
 unfold putF
 split
 · omega
 · simp only[List.length_append,List.length_cons,List.length_take,List.length_drop];omega
theorem putF_asc {l:List TFact} {f:TFact} (h:asc l):asc (putF l f):=by
 unfold putF
 split
 · exact h
 rename_i hn
 have hp:=asc_pw.mp h
 rw[asc_pw]
 have e:l=l.take (putK l f)++l.drop (putK l f):=(List.take_append_drop _ _).symm
 rw[e]at hp
 rw[List.pairwise_append]at hp ⊢
 have h1:∀ a∈l.take (putK l f),cmpF a f<0:=by
  intro a ha
  obtain⟨i,hi,rfl⟩:=List.mem_iff_getElem.mp ha
  rw[List.length_take]at hi
  have:=firstAt_lt (p:=fun t=>!decide (cmpF t f<0)) (l:=l) (i:=i) (by omega) (show i<putK l f by omega)
  rw[List.getElem_take]
  simpa using this
 have h2:∀ a∈l.drop (putK l f),cmpF f a<0:=by
  intro a ha
  have hin:putK l f<l.length:=by
   rcases Nat.lt_or_ge (putK l f) l.length with h'|h'
   · exact h'
   · rw[List.drop_of_length_le h']at ha;simp at ha
  have h3:cmpF f l[putK l f]<0:=by
   have h4:=firstAt_at (p:=fun t=>!decide (cmpF t f<0)) (l:=l) hin
   have h4:¬ cmpF l[putK l f] f<0:=by have h4:(!decide (cmpF l[putK l f] f<0))=true:=h4;simpa using h4
   have h5:cmpF l[putK l f] f≠0:=fun e=>hn ((cmpF_zero.mp e) ▸ List.getElem_mem hin)
   rw[cmpF_anti];omega
  obtain⟨i,hi,rfl⟩:=List.mem_iff_getElem.mp ha
  rw[List.getElem_drop]
  rcases Nat.eq_zero_or_pos i with rfl|h0
  · simpa using h3
  · rw[List.length_drop]at hi
    exact cmpF_trans h3 (h _ _ (by omega) (by omega))
 refine⟨hp.1,List.pairwise_cons.mpr ⟨h2,hp.2.1⟩,fun a ha b hb=>?_⟩
 rcases List.mem_cons.mp hb with rfl|hb
 · exact h1 a ha
 · exact hp.2.2 a ha b hb
def facS (l:List TFact):List TFact:=l.foldl putF []
theorem foldF_asc:∀ {l m:List TFact},asc m→asc (l.foldl putF m)
 |[],m,h=>h
 |a::l,m,h=>foldF_asc (l:=l) (putF_asc h)
theorem foldF_mem:∀ {l m:List TFact} {y:TFact},y∈l.foldl putF m↔y∈m∨y∈l
 |[],m,y=>by simp
 | a::l,m,y=>by
   rw[List.foldl_cons,foldF_mem (l:=l),putF_mem,List.mem_cons]
   constructor
   · rintro ((h|h)|h)
     · exact .inl h
     · exact .inr (.inl h)
     · exact .inr (.inr h)
   · rintro (h|h|h)
     · exact .inl (.inl h)
     · exact .inl (.inr h)
     · exact .inr h
theorem foldF_len:∀ {l m:List TFact},(l.foldl putF m).length≤m.length+l.length
 |[],m=>by simp
 | a::l,m=>by
   have:=foldF_len (l:=l) (m:=putF m a)
   have:=putF_len (l:=m) (f:=a)
   rw[List.foldl_cons,List.length_cons];omega
theorem asc_nil:asc []:=fun i j hj _=>by simp at hj
theorem facS_asc (l:List TFact):asc (facS l):=foldF_asc asc_nil
theorem facS_mem {l:List TFact} {y:TFact}:y∈facS l↔y∈l:=by unfold facS;rw[foldF_mem];simp
theorem facS_of {a l:List TFact} (h1:asc a) (h2:∀ y,y∈a↔y∈l):a=facS l:=asc_ext h1 (facS_asc l) fun y=>by rw[h2,facS_mem]
theorem facS_app {l m:List TFact} (h:asc l):m.foldl putF l=facS (l++m):=facS_of (foldF_asc h) fun y=>by rw[foldF_mem,List.mem_append]
def ddF (l:List TFact):Nat→List TFact
 |0=>[]
 |n+1=>if n=0∨factAt l n≠factAt l (n - 1)then ddF l n++[factAt l n] else ddF l n
theorem ddF_set {l:List TFact} (hs:l.Pairwise fun a b=>cmpF a b≤0):∀ {n:Nat},n≤l.length→asc (ddF l n)∧∀ y,y∈ddF l n↔y∈l.take n
 |0,_=>⟨asc_nil,fun y=>by simp[ddF]⟩
 | n+1,h=>by
   obtain⟨h1,h2⟩:=ddF_set hs (n:=n) (by omega)
   have hn:n<l.length:=by omega
   unfold ddF
   rw[take_succ_snoc hn,factAt_get hn]
   have hle:∀ i j (hj:j<l.length) (hij:i<j),cmpF (l[i]'(by omega)) l[j]≤0:=fun i j hj hij=>List.pairwise_iff_getElem.mp hs i j (by omega) hj hij
   split
   · rename_i hc
     refine⟨?_,fun y=>by rw[List.mem_append,List.mem_append,h2]⟩
     rw[asc_pw,List.pairwise_append]
     refine⟨asc_pw.mp h1,by simp,fun a ha b hb=>?_⟩
     obtain rfl:b=l[n]:=by simpa using hb
     obtain⟨i,hi,rfl⟩:=List.mem_iff_getElem.mp ((h2 a).mp ha)
     rw[List.length_take]at hi
     rw[List.getElem_take]
     rcases hc with hc|hc
     · omega
     · rw[factAt_get (by omega)]at hc
       have g1:=hle (n - 1) n hn (by omega)
       have g2:cmpF l[n - 1] l[n]≠0:=fun e=>hc (cmpF_zero.mp e).symm
       rcases Nat.lt_or_ge i (n - 1)with h'|h'
       · have g3:=hle i (n - 1) (by omega) h'
         by_cases h0:cmpF l[i] l[n - 1]=0
         · rw[cmpF_zero.mp h0];omega
         · exact cmpF_trans (by omega:cmpF l[i] l[n - 1]<0) (by omega)
       · have:i=n - 1:=by omega
         subst this;omega
   · rename_i hc
     refine⟨h1,fun y=>?_⟩
     rw[h2,List.mem_append]
     refine⟨.inl,fun h'=>h'.elim id fun e=>?_⟩
     have h0:n≠0:=fun e=>hc (.inl e)
     have he:l[n]=factAt l (n - 1):=Classical.byContradiction fun h=>hc (.inr h)
     rw[factAt_get (by omega)]at he
     have:y=l[n - 1]:=by simpa [he]using e
     subst this
     exact List.mem_iff_getElem.mpr ⟨n - 1,by rw[List.length_take];omega,by rw[List.getElem_take]⟩
theorem g_sl5Put {x:TInst} {f:TFact} (h1:x.2.1.length≤1000) (h2:f.2.1.length≤1000):G_sl5Put x f (x.1,(putF x.2.1 f,())):=M_sl5Put _ _ _ (by
 unfold S_sl5Put
 refine⟨_,g_sl5Place,?_⟩
 rw[place_ge]
 refine bc_dec (fun h=>by unfold putF;rw[if_pos h]) (fun hn=>?_)
 have hle:putK x.2.1 f≤x.2.1.length:=firstAt_le _ _
 have key:∀ i:Nat,i=putK x.2.1 f→((0:Int)≤(i:Int)∧(i:Int)≤(x.2.1.length:Int)∧(x.2.1.length:Int)≤(x.2.1.length:Int))∧((([f]:List TFact)).length+(List.drop (Int.toNat (i:Int)) (List.take (Int.toNat (x.2.1.length:Int)) x.2.1)).length≤maxL)∧
   (([]:List TFact)++List.drop (Int.toNat (0:Int)) (List.take (Int.toNat (i:Int)) x.2.1))++([f]++List.drop (Int.toNat (i:Int)) (List.take (Int.toNat (x.2.1.length:Int)) x.2.1))=putF x.2.1 f∧
   ([]:List TFact).length+(List.drop (Int.toNat (0:Int)) (List.take (Int.toNat (i:Int)) x.2.1)).length≤maxL∧
   (([]:List TFact)++List.drop (Int.toNat (0:Int)) (List.take (Int.toNat (i:Int)) x.2.1)).length+([f]++List.drop (Int.toNat (i:Int)) (List.take (Int.toNat (x.2.1.length:Int)) x.2.1)).length≤maxL:=by
  rintro i rfl
  simp only[Int.toNat_natCast,Int.toNat_zero,List.drop_zero,List.nil_append,List.take_length,maxL,List.length_cons,List.length_nil,List.length_append,List.length_drop,List.length_take]
  refine⟨⟨by omega,by omega,by omega⟩,by omega,?_,by omega,by omega⟩
  unfold putF
  rw[if_neg hn];rfl
 refine loop_first x.2.1 (fun t=>!decide (cmpF t f<0)) (fun i=>((i:Int),())) (KT:=fun i=>i=putK x.2.1 f) (KF:=putK x.2.1 f=x.2.1.length) ?_ ?_ (fun _=>rfl) (fun h=>by unfold putK;have:=firstAt_le (fun t=>!decide (cmpF t f<0)) x.2.1;omega)
 · intro i hi X q1 q2
   refine lenI fun _=>bcI hi (inI hi ⟨_,g_sCompareFacts,?_⟩)
   simp only
   rw[getI hi,w64_succ (by omega)]
   refine bc_dec (fun h=>q2 (by rw[decide_eq_true h];rfl)) (fun h=>?_)
   obtain⟨k1,k2,k3,k4,k5⟩:=key i (q1 (by rw[decide_eq_false h];rfl))
   refine⟨k1,f,g_sl5Fact (by omega),k2,⟨by omega,by omega,by omega⟩,k4,k5,?_⟩
   show((x.1,((([]:List TFact)++List.drop (Int.toNat (0:Int)) (List.take (Int.toNat (i:Int)) x.2.1))++([f]++List.drop (Int.toNat (i:Int)) (List.take (Int.toNat (x.2.1.length:Int)) x.2.1)),())),())=((x.1,(putF x.2.1 f,())),())
   rw[k3]
 · intro X h
   obtain⟨k1,k2,k3,k4,k5⟩:=key x.2.1.length h.symm
   refine lenI fun _=>bcN ⟨k1,f,g_sl5Fact (by omega),k2,⟨by omega,by simp only;omega,by simp only;omega⟩,k4,k5,?_⟩
   show((x.1,((([]:List TFact)++List.drop (Int.toNat (0:Int)) (List.take (Int.toNat (x.2.1.length:Int)) x.2.1))++([f]++List.drop (Int.toNat (x.2.1.length:Int)) (List.take (Int.toNat (x.2.1.length:Int)) x.2.1)),())),())=((x.1,(putF x.2.1 f,())),())
   rw[k3])
abbrev zTF:TTok TFact:=zTk (zcells (.pair (.int .i64) (.pair (.sl 3 (.int .i64)) .unit))) zFact
def tkAt (l:List (TTok TFact)) (i:Nat):TTok TFact:=l.getD i zTF
theorem tkAt_get {l:List (TTok TFact)} {i:Nat} (h:i<l.length):tkAt l i=l[i]:=getD_at h
def ddT (l:List (TTok TFact)):Nat→List (TTok TFact)
 |0=>[]
 |n+1=>if n=0∨(tkAt l n).2≠(tkAt l (n - 1)).2 then ddT l n++[tkAt l n] else ddT l n
theorem ddT_all {l:List (TTok TFact)}:∀ {n:Nat},n≤l.length→(∀ i,1≤i→i<n→(tkAt l i).2≠(tkAt l (i - 1)).2)→ddT l n=l.take n
 |0,_,_=>by simp[ddT]
 | n+1,h,hi=>by
   unfold ddT
   rw[ddT_all (n:=n) (by omega) fun i h1 h2=>hi i h1 (by omega),take_succ_snoc (by omega)]
   rw[if_pos,tkAt_get (by omega)]
   rcases Nat.eq_zero_or_pos n with h0|h0
   · exact .inl h0
   · exact .inr (hi n (by omega) (by omega))
theorem ddT_sub {l:List (TTok TFact)}:∀ {n:Nat},n≤l.length→(ddT l n).Sublist (l.take n)
 |0,_=>by simp[ddT]
 | n+1,h=>by
   have:=ddT_sub (l:=l) (n:=n) (by omega)
   unfold ddT
   rw[take_succ_snoc (by omega)]
   split
   · rw[tkAt_get (by omega)];exact this.append_right _
   · exact this.trans (List.sublist_append_left _ _)
theorem tkAt_map {l:List (TTok TFact)} {i:Nat}:factAt (l.map (·.2)) i=(tkAt l i).2:=by
 unfold factAt tkAt
 rw[List.getD_eq_getElem?_getD,List.getD_eq_getElem?_getD,List.getElem?_map]
 cases l[i]?<;>rfl
theorem ddT_map {l:List (TTok TFact)}:∀ {n:Nat},(ddT l n).map (·.2)=ddF (l.map (·.2)) n
 |0=>rfl
 | n+1=>by
   unfold ddT ddF
   rw[tkAt_map,tkAt_map]
   split
   · rw[List.map_append,ddT_map];rfl
   · exact ddT_map
theorem g_tcomp {l:List (TTok TFact)} (hl:l.length≤1000):G_slices_CompactFunc_Fact_tok_c_isameFact l () (ddT l l.length):=M_slices_CompactFunc_Fact_tok_c_isameFact _ _ _ (by
 unfold S_slices_CompactFunc_Fact_tok_c_isameFact
 refine lenI fun _=>bc_dec (fun h=>?_) (fun h=>?_)
 · rw[ddT_all (Nat.le_refl _) (fun i h1 h2=>by omega),List.take_length]
 refine loopP_down (fun k a=>∃ i:Nat,i+k=l.length∧1≤i∧a=((i:Int),(l,()))∧∀ j,1≤j→j<i→(tkAt l j).2≠(tkAt l (j - 1)).2) ?_ ?_ (n:=l.length - 1) ⟨1,by omega,by omega,rfl,fun j h1 h2=>by omega⟩
 · rintro a ⟨i,hi,h1,rfl,hn⟩ X
   obtain rfl:i=l.length:=by omega
   refine lenI fun _=>bcN ?_
   rw[ddT_all (Nat.le_refl _) hn,List.take_length]
 · rintro k a ⟨i,hi,h1,rfl,hn⟩ X hX
   have hlt:i<l.length:=by omega
   have hw:w64 ((i:Int) - 1)=((i - 1:Nat):Int):=by rw[w64_id (by omega) (by omega)];omega
   have hj:i - 1<l.length:=by omega
   refine lenI fun _=>bcI hlt (inI hlt ?_)
   simp only
   rw[hw]
   refine inI hj ⟨_,K_isameFact_tok _ _ _ g_isameFact,?_⟩
   rw[getI hlt,getI hj,w64_succ (by omega)]
   refine bc_dec (fun h=>?_) (fun h=>hX _ ⟨i+1,by omega,by omega,rfl,fun j q1 q2=>?_⟩)
   · refine⟨⟨by omega,by omega,by omega,by omega⟩,?_⟩
     have hbase:ddT l (i+1)=l.take i:=by
      unfold ddT
      rw[if_neg,ddT_all (by omega) hn]
      rw[tkAt_get hlt,tkAt_get hj,h]
      rintro (h|h)
      · omega
      · exact h rfl
     simp only[Int.toNat_natCast]
     refine loopP_down (fun k a=>∃(p q:Nat) (L:List (TTok TFact)),q+k=l.length - i∧1≤q∧a=((p:Int),((q:Int),(L,())))∧L.length=l.length∧p+1≤i+q∧L.take p=ddT l (i+q)∧L.drop (i+q - 1)=l.drop (i+q - 1)) ?_ ?_ (n:=l.length - i - 1) ⟨i,1,l,by omega,by omega,rfl,rfl,by omega,hbase.symm,rfl⟩
     · rintro a ⟨p,q,L,hq,hq1,rfl,hL,hp,e1,e2⟩ Y
       obtain rfl:q=l.length - i:=by omega
       rw[show i+(l.length - i)=l.length by omega]at e1
       have ht:(L.take p).length=p:=by rw[List.length_take];omega
       refine lenI fun _=>bcN ⟨⟨by omega,by simp only;omega,by omega,by simp only;omega⟩,by simp only[Int.toNat_natCast];omega,⟨by omega,by omega,?_,?_⟩,?_⟩
       · simp only[List.length_append,Int.toNat_natCast,ht];omega
       · simp only[List.length_append,List.length_replicate,Int.toNat_natCast,ht];omega
       · rw[Int.toNat_natCast,List.take_left' ht,e1]
     · rintro k a ⟨p,q,L,hq,hq1,rfl,hL,hp,e1,e2⟩ Y hY
       have hlq:i+q<l.length:=by omega
       have hg:∀ j,i+q - 1≤j→j<l.length→L.getD j zTF=tkAt l j:=by
        intro j g1 g2
        have e3:=congrArg (fun m=>m.getD (j - (i+q - 1)) zTF) e2
        simp only[List.getD_eq_getElem?_getD,List.getElem?_drop]at e3
        rw[show i+q - 1+(j - (i+q - 1))=j by omega]at e3
        unfold tkAt
        simpa [List.getD_eq_getElem?_getD]using e3
       have hwq:w64 ((q:Int) - 1)=((q - 1:Nat):Int):=by rw[w64_id (by omega) (by omega)];omega
       have hdd:L.drop (i+q)=l.drop (i+q):=by
        have:=congrArg (List.drop 1) e2
        rw[List.drop_drop,List.drop_drop,show i+q - 1+1=i+q by omega]at this
        exact this
       refine lenI fun _=>bcI (by omega) (inI (by omega) ?_)
       simp only
       rw[hwq]
       refine inI (by omega) ⟨_,K_isameFact_tok _ _ _ g_isameFact,?_⟩
       rw[Int.toNat_natCast,Int.toNat_natCast,hg (i+q) (by omega) hlq,show i+(q - 1)=i+q - 1 by omega,hg (i+q - 1) (by omega) (by omega),w64_succ (by omega),w64_succ (by omega)]
       refine bc_nd (fun h5=>inI (by omega) ⟨⟨by omega,by omega⟩,?_⟩) (fun h5=>?_)
       · refine hY _ ⟨p+1,q+1,_,by omega,by omega,rfl,by rw[List.length_set];exact hL,by omega,?_,?_⟩
         · rw[show i+(q+1)=(i+q)+1 by omega]
           unfold ddT
           rw[if_pos (.inr h5),←e1,Int.toNat_natCast,List.take_set,take_succ_snoc (show p<L.length by omega),List.set_append]
           simp[List.length_take,Nat.min_eq_left (show p≤L.length by omega)]
         · rw[show i+(q+1) - 1=i+q by omega,←hdd,Int.toNat_natCast,List.drop_set_of_lt (by omega)]
       · refine hY _ ⟨p,q+1,L,by omega,by omega,rfl,hL,by omega,?_,by rw[show i+(q+1) - 1=i+q by omega];exact hdd⟩
         rw[show i+(q+1)=(i+q)+1 by omega]
         unfold ddT
         rw[if_neg,e1]
         rintro (h6|h6)
         · omega
         · exact h6 h5
   · by_cases hji:j=i
     · subst hji;rw[tkAt_get hlt,tkAt_get hj];exact h
     · exact hn j q1 (by omega))
theorem g_icompF {l:List TFact} (hl:l.length≤1000):G_slices_CompactFunc_Fact_oopzpozz_c_isameFact l () (ddF l l.length):=K_slices_CompactFunc_Fact_oopzpozz_c_isameFact _ _ _ fun xs hx=>by
 subst hx
 rw[List.length_map]at hl ⊢
 refine⟨ddT xs xs.length,?_,ddT_map,g_tcomp hl⟩
 have:=ddT_sub (l:=xs) (Nat.le_refl _)
 rwa [List.take_length]at this
theorem ltF {x y:TFact}:Go.Proofs.ltOf cmpF x y=decide (cmpF x y<0):=rfl
theorem swoF:Go.Sort.SWO (Go.Proofs.ltOf cmpF):=by
 refine⟨fun x=>?_,fun x y z h1 h2=>?_,fun x y z h1 h2=>?_⟩
 · rw[ltF,cmpF_zero.mpr rfl];rfl
 · rw[ltF,decide_eq_true_eq]at h1 h2 ⊢;exact cmpF_trans h1 h2
 · rw[ltF,decide_eq_false_iff_not]at h1 h2 ⊢
   intro h3
   by_cases h4:cmpF x y=0
   · obtain rfl:=cmpF_zero.mp h4
     exact h2 h3
   · have h5:cmpF y x<0:=by rw[cmpF_anti];omega
     exact h2 (cmpF_trans h5 h3)
theorem totF {x y:TFact} (h1:Go.Proofs.ltOf cmpF x y=false) (h2:Go.Proofs.ltOf cmpF y x=false):x=y:=by
 rw[ltF,decide_eq_false_iff_not]at h1 h2
 rw[cmpF_anti]at h2
 exact cmpF_zero.mp (by omega)
theorem g_isortF {l:List TFact} (h:l.length≤1000):G_slices_SortFunc_Fact_oopzpozz_c_iCompareFacts l () (sortL cmpF l):=prim_sortF (fun a b=>g_iCompareFacts) swoF (fun _ _=>totF) (by omega)
theorem sortF_pw (l:List TFact):(sortL cmpF l).Pairwise fun a b=>cmpF a b≤0:=by
 have:=List.pairwise_mergeSort (le:=fun a b=>!(decide (cmpF b a<0))) (fun a b c h1 h2=>by
  simp only[Bool.not_eq_true',decide_eq_false_iff_not]at h1 h2 ⊢
  intro h3
  rw[cmpF_anti]at h1 h2
  by_cases h4:cmpF a b=0
  · rw[cmpF_zero.mp h4]at h3;rw[cmpF_anti]at h3;omega
  · have:=cmpF_trans h3 (by omega:cmpF a b<0);rw[cmpF_anti]at this;omega) (fun a b=>by
  rw[cmpF_anti (x:=a) (y:=b)]
  simp
  omega) l
 refine List.Pairwise.imp (fun h=>?_) this
 simp only[Bool.not_eq_true',decide_eq_false_iff_not]at h
 rw[cmpF_anti]at h;omega
theorem dd_sort {l:List TFact}:ddF (sortL cmpF l) l.length=facS l:=by
 have hl:(sortL cmpF l).length=l.length:=by simp[sortL]
 obtain⟨h1,h2⟩:=ddF_set (sortF_pw l) (n:=l.length) (by omega)
 refine facS_of h1 fun y=>?_
 rw[h2,List.take_of_length_le (by omega)]
 simp[sortL]
theorem g_ifactsSet {l:List TFact} (hl:l.length≤1000) (h:∀ f∈l,f.2.1.length≤1000):G_ifactsSet l (facS l):=M_ifactsSet _ _ (by
 unfold S_ifactsSet
 have hs:(sortL cmpF l).length=l.length:=by simp[sortL]
 refine⟨l,g_ifactsCopy (by omega) (fun f hf=>by have:=h f hf;omega),_,g_isortF hl,_,g_icompF (by omega),?_⟩
 rw[hs,dd_sort])
def trigB (d:TDep) (b:List Int):Bool:=(List.range b.length).all fun k=>decide ((k:Int)∈vars d.1) == !(iAt b k == 10)
def trigF (x:TInst) (d:TDep) (b:List Int):Bool:=d.1.all fun a=>instOk a b&&decide (inst a b∈x.2.1)
def isTrig (x:TInst) (d:TDep) (b:List Int):Bool:=vInst x&&(vDep x.1 d&&((b.length == 5)&&(trigB d b&&trigF x d b)))
theorem vars_range {l:List TRel} {ats:List TFact} (h:∀ a∈ats,vAtom l a=true) {v:Int} (hv:v∈vars ats):0≤v∧v<5:=by
 unfold vars at hv
 have hv:=mem_sset.mp hv
 obtain⟨h1,h2⟩:=List.mem_filter.mp hv
 obtain⟨a,ha,hva⟩:=List.mem_flatMap.mp h1
 have:=inR_iff.mp ((vRow_spec (h a ha)).2.2.2.2.2 v hva)
 have:0≤v:=by simpa using h2
 omega
theorem bb2:∀ u v:Bool,(!((!v) == u)) = !(u == !v):=by decide
theorem term_row {l:List TRel} {a:TFact} (h:vAtom l a=true):a.2.1.length≤3∧∀ t∈a.2.1,-10≤t∧t<5:=by
 have:=vRow_spec h
 exact⟨this.2.2.2.2.1,fun t ht=>by have:=inR_iff.mp (this.2.2.2.2.2 t ht);omega⟩
theorem nextN_range (x:TInst):0≤nextN x∧nextN x≤40:=by
 have hk:∀ k∈nulI x,0≤k∧k<40:=fun k hk=>by
  have:=nulls_range (l:=x.2.1.flatMap (·.2.1)) k (by rw[nulls_flat];exact hk)
  omega
 refine⟨?_,nextN_le (n:=40) |>.mpr fun k h=>(hk k h).2⟩
 unfold nextN
 cases h:(nulI x).getLast? with
 |none=>exact Int.le_refl 0
 |some m=>have:=hk m (List.mem_of_getLast? h);simp only;omega
theorem exV_le6 {l:List TRel} {d:TDep} (h:vDep l d=true):(exV d).length≤6:=by
 have hd:=vDep_spec h
 have h1:(exV d).length≤(vars d.2.1).length:=by unfold exV;exact List.length_filter_le _ _
 have h2:=vars_len d.2.1
 omega
theorem exV_range {l:List TRel} {d:TDep} (h:vDep l d=true) {v:Int} (hv:v∈exV d):0≤v∧v<5:=by
 have hd:=vDep_spec h
 unfold exV at hv
 exact vars_range hd.2.2.2.2.1 (List.mem_filter.mp hv).1
theorem heads_asc {x:TInst} (h:vInst x=true) (l:List TFact):l.foldl putF x.2.1=facS (x.2.1++l):=facS_app (vInst_asc h)
theorem g_iIsTrigger {x:TInst} {d:TDep} {b:List Int}:G_iIsTrigger x d b (isTrig x d b):=M_iIsTrigger _ _ _ _ (by
 unfold S_iIsTrigger
 refine⟨_,g_iIsValidInstance,bc_not (fun h=>by unfold isTrig;rw[h];rfl) (fun h1=>⟨_,g_iIsValidDependency,bc_not (fun h=>by unfold isTrig;rw[h1,h];rfl) (fun h2=>lenI fun _=>bc_ne (fun h=>?_) (fun h3=>?_))⟩)⟩
 · unfold isTrig
   rw[show(b.length == 5)=false from beq_eq_false_iff_ne.mpr (by omega),h1,h2];rfl
 have h3:b.length=5:=by omega
 have hd:=vDep_spec h2
 have e:isTrig x d b=(trigB d b&&trigF x d b):=by unfold isTrig;rw[h1,h2,h3];rfl
 rw[e]
 refine⟨_,g_iVariables (by omega),lenI fun _=>?_⟩
 refine loop_anyI b.length (fun k=>!(decide ((k:Int)∈vars d.1) == !(iAt b k == 10))) (fun i=>((i:Int),())) (KT:=trigB d b=false) (KF:=trigB d b=true) ?_ ?_ ?_ ?_
 · intro i hi X _ q1 q2
   refine bcI hi (inI hi ⟨_,g_slices_Contains_int,?_⟩)
   simp only
   rw[getI hi,←iAt_get hi,w64_succ (by omega)]
   show bcase (!((!(iAt b i == 10)) == _)) _ _
   rw[bb2]
   exact bc_if (fun h=>by rw[q1 h];rfl) q2
 · intro X hB
   refine bcN (lenI fun _=>?_)
   rw[hB,Bool.true_and]
   refine loop_any d.1 (fun a=>!(instOk a b&&decide (inst a b∈x.2.1))) (fun i=>((i:Int),())) (KT:=trigF x d b=false) (KF:=trigF x d b=true) ?_ ?_ ?_ ?_
   · intro i hi X q1 q2
     have hr:=term_row (hd.2.2.1 _ (List.getElem_mem hi))
     refine bcI hi (inI hi ⟨inst d.1[i] b,instOk d.1[i] b,?_,?_⟩)
     · simp only;rw[getI hi];exact g_iInstantiate (by omega) (by omega) hr.2
     · rw[w64_succ (by omega)]
       refine bc_not (fun h=>by rw[q1 (by rw[h];rfl)]) (fun h=>⟨_,g_ihasFact,bc_not (fun h4=>?_) (fun h4=>?_)⟩)
       · have h4:inst d.1[i] b∉x.2.1:=of_decide_eq_false h4
         rw[q1 (by rw[h];simpa using h4)]
       · have h4:inst d.1[i] b∈x.2.1:=of_decide_eq_true h4
         exact q2 (by rw[h];simpa using h4)
   · intro X h;exact bcN (by rw[h])
   · intro h;rw[any_not]at h;unfold trigF;exact nt h
   · intro h;rw[any_not]at h;unfold trigF;exact nf h
 · rintro⟨i,hi,hp⟩
   unfold trigB
   rw[Bool.eq_false_iff]
   intro h
   have:=List.all_eq_true.mp h i (List.mem_range.mpr hi)
   rw[this]at hp;cases hp
 · intro h
   unfold trigB
   exact List.all_eq_true.mpr fun i hi=>nf (h i (List.mem_range.mp hi)))
theorem iAt_set {l:List Int} {i j:Nat} {v:Int} (h:i<l.length):iAt (l.set i v) j=if j=i then v else iAt l j:=getD_set h
def goesOn (b c:List Int):Prop:=c.length=b.length∧∀ k,iAt b k≠10→iAt c k=iAt b k
theorem goesOn_refl (b:List Int):goesOn b b:=⟨rfl,fun _ _=>rfl⟩
theorem goesOn_trans {a b c:List Int} (h1:goesOn a b) (h2:goesOn b c):goesOn a c:=⟨h2.1.trans h1.1,fun k hk=>by
 have e:=h1.2 k hk
 rw[h2.2 k (by rw[e];exact hk),e]⟩
def termV (c:List Int) (p:Int×Int):Prop:=if p.1<0 then p.2 = -1 - p.1 else iAt c p.1.toNat=p.2
theorem fitP_ok:∀ {ts vs b:List Int},(fitP ts vs b).2=true→(∀ t∈ts,t<b.length)→(∀ v∈vs,v≠10)→ts.length=vs.length→
  goesOn b (fitP ts vs b).1∧(∀ p∈ts.zip vs,termV (fitP ts vs b).1 p)∧∀ k:Nat,k<b.length→(iAt (fitP ts vs b).1 k≠10↔iAt b k≠10∨(k:Int)∈ts)
 |[],vs,b,_,_,_,_=>⟨goesOn_refl b,by simp,by simp[fitP]⟩
 |t::ts,[],b,h,_,_,hl=>by simp at hl
 | t::ts,v::vs,b,h,h1,h2,hl=>by
   rw[fitP_cons]at h ⊢
   have hv:v≠10:=h2 v (by simp)
   have hts:∀ t∈ts,t<b.length:=fun u hu=>h1 u (by simp[hu])
   have hvs:∀ v∈vs,v≠10:=fun u hu=>h2 u (by simp[hu])
   have hl':ts.length=vs.length:=by simpa using hl
   by_cases ht:t<0
   · rw [if_pos ht]at h ⊢
     by_cases hc : -1 - t=v
     · rw[if_pos hc]at h ⊢
       obtain⟨g1,g2,g3⟩:=fitP_ok h hts hvs hl'
       refine⟨g1,fun p hp=>?_,fun k hk=>?_⟩
       · rw[List.zip_cons_cons]at hp
         rcases List.mem_cons.mp hp with rfl|hp
         · unfold termV;rw[if_pos ht];exact hc.symm
         · exact g2 p hp
       · rw[g3 k hk,List.mem_cons]
         have:¬ (k:Int)=t:=by omega
         simp[this]
     · rw[if_neg hc]at h;simp at h
   · rw [if_neg ht]at h ⊢
     have htb:t.toNat<b.length:=by have:=h1 t (by simp);omega
     by_cases hc:b.getD t.toNat 0=10∨b.getD t.toNat 0=v
     · rw [if_pos hc]at h ⊢
       have hlen:(b.set t.toNat v).length=b.length:=by simp
       obtain⟨g1,g2,g3⟩:=fitP_ok h (by rw[hlen];exact hts) hvs hl'
       refine⟨⟨g1.1.trans hlen,fun k hk=>?_⟩,fun p hp=>?_,fun k hk=>?_⟩
       · by_cases hkt:k=t.toNat
         · subst hkt
           have hbv:iAt b t.toNat=v:=hc.resolve_left hk
           rw[g1.2 _ (by rw[iAt_set htb,if_pos rfl];exact hv),iAt_set htb,if_pos rfl,hbv]
         · have e:iAt (b.set t.toNat v) k=iAt b k:=by rw[iAt_set htb,if_neg hkt]
           rw[g1.2 k (by rw[e];exact hk),e]
       · rw[List.zip_cons_cons]at hp
         rcases List.mem_cons.mp hp with rfl|hp
         · unfold termV;rw[if_neg ht]
           have e:iAt (b.set t.toNat v) t.toNat=v:=by rw[iAt_set htb,if_pos rfl]
           rw[g1.2 _ (by rw[e];exact hv),e]
         · exact g2 p hp
       · rw[g3 k (by rw[hlen];exact hk),iAt_set htb,List.mem_cons]
         by_cases hkt:k=t.toNat
         · have:(k:Int)=t:=by omega
           simp[hkt,hv]
           omega
         · have:¬ (k:Int)=t:=by omega
           simp[hkt,this]
     · rw[if_neg hc]at h;simp at h
theorem termV_on {c c':List Int} {p:Int×Int} (hg:goesOn c c') (h:termV c p) (hv:p.2≠10):termV c' p:=by
 unfold termV at h ⊢
 split
 · rename_i ht;rw[if_pos ht]at h;exact h
 · rename_i ht;rw[if_neg ht]at h;rw[hg.2 _ (by rw[h];exact hv),h]
theorem vVal_ne {v:Int} (h:vVal v=true):v≠10:=by have:=inR_iff.mp h;omega
theorem inst_run:∀ {ts vs c s:List Int},ts.length=vs.length→(∀ p∈ts.zip vs,termV c p)→(∀ v∈vs,vVal v=true)→(∀ t∈ts,t<c.length)→runE (instS c) ts s = .inr (s++vs)
 |[],[],c,s,_,_,_,_=>by simp[runE]
 |[],v::vs,c,s,h,_,_,_=>by simp at h
 |t::ts,[],c,s,h,_,_,_=>by simp at h
 | t::ts,v::vs,c,s,h,h1,h2,h3=>by
   have hp:=h1 (t,v) (by simp)
   have hv:=h2 v (by simp)
   have e:instS c s t = .inr (s++[v]):=by
    unfold instS instG
    unfold termV at hp
    simp only at hp
    by_cases ht:t<0
    · rw[if_pos ht]at hp
      rw[if_neg (by omega),←hp,if_pos hv]
    · rw[if_neg ht]at hp
      have hlt:=h3 t (by simp)
      have hp:c.getD t.toNat 0=v:=hp
      rw[if_pos (by omega),if_neg (by omega),hp,if_pos hv]
   simp only[runE,e]
   rw[inst_run (by simpa using h) (fun p hp=>h1 p (by simp[hp])) (fun v hv=>h2 v (by simp[hv])) (fun t ht=>h3 t (by simp[ht]))]
   simp
theorem inst_fit {a f:TFact} {c:List Int} (h1:a.1=f.1) (hl:a.2.1.length=f.2.1.length) (hz:∀ p∈a.2.1.zip f.2.1,termV c p) (hv:∀ v∈f.2.1,vVal v=true) (ht:∀ t∈a.2.1,t<c.length):instOk a c=true∧inst a c=f:=by
 have:=inst_run (s:=[]) hl hz hv ht
 unfold instOk inst
 rw[this,List.nil_append,h1]
 exact⟨rfl,rfl⟩
theorem walkF_mem {fs:List TFact} {w:List Int→List (List Int)} {a:TFact} {b c:List Int}:∀ {l:List TFact} {out:List (List Int)},c∈l.foldl (walkG fs w a b) out→c∈out∨∃ f∈l,a.1=f.1∧(fitP a.2.1 f.2.1 b).2=true∧c∈w (fitP a.2.1 f.2.1 b).1
 |[],out,h=>.inl h
 | f::l,out,h=>by
   rw[List.foldl_cons]at h
   rcases walkF_mem h with h|⟨g,hg,h⟩
   · unfold walkG at h
     split at h
     · rename_i hc
       rcases List.mem_append.mp h with h|h
       · exact .inl h
       · exact .inr ⟨f,by simp,hc.1,hc.2,h⟩
     · exact .inl h
   · exact .inr ⟨g,by simp[hg],h⟩
theorem walk_ok {fs:List TFact} (hv:∀ f∈fs,∀ v∈f.2.1,vVal v=true):∀ {ats:List TFact} {b c:List Int},c∈walk fs ats b→WOk fs ats→b.length=5→
  goesOn b c∧(∀ a∈ats,instOk a c=true∧inst a c∈fs)∧∀ k:Nat,k<5→(iAt c k≠10↔iAt b k≠10∨∃ a∈ats,(k:Int)∈a.2.1)
 | [],b,c,h,_,_=>by
   have:c=b:=by simpa [walk]using h
   subst this
   exact⟨goesOn_refl _,by simp,by simp⟩
 | a::ats,b,c,h,hw,hb=>by
   rcases walkF_mem (show c∈fs.foldl (walkG fs (walk fs ats) a b) [] from h)with h|⟨f,hf,h1,h2,h3⟩
   · simp at h
   have hrow:=hw.row a (by simp)
   have hlen:=hw.fit a (by simp) f hf h1
   obtain⟨g1,g2,g3⟩:=fitP_ok h2 (fun t ht=>by have:=(hrow.2 t ht).2;omega) (fun v hv'=>vVal_ne (hv f hf v hv')) hlen
   obtain⟨k1,k2,k3⟩:=walk_ok hv h3 hw.tail (by rw[fitP_len];exact hb)
   have hcl:c.length=5:=by rw[k1.1,fitP_len];exact hb
   refine⟨goesOn_trans g1 k1,fun a' ha=>?_,fun k hk=>?_⟩
   · rcases List.mem_cons.mp ha with rfl|ha
     · obtain⟨m1,m2⟩:=inst_fit (c:=c) h1 hlen (fun p hp=>termV_on k1 (g2 p hp) (vVal_ne (hv f hf _ (List.of_mem_zip hp).2))) (hv f hf) (fun t ht=>by have:=(hrow.2 t ht).2;omega)
       exact⟨m1,m2 ▸ hf⟩
     · exact k2 a' ha
   · rw[k3 k hk,g3 k (by omega)]
     simp only[List.mem_cons,exists_eq_or_imp,or_assoc]
theorem vInst_vals {x:TInst} (h:vInst x=true):∀ f∈x.2.1,∀ v∈f.2.1,vVal v=true:=fun f hf=>(vRow_spec (vInst_fact h hf)).2.2.2.2.2
theorem mem_vars {ats:List TFact} {k:Nat}:(k:Int)∈vars ats↔∃ a∈ats,(k:Int)∈a.2.1:=by
 unfold vars
 rw[mem_sset,List.mem_filter,List.mem_flatMap]
 simp
theorem finds_trig {x:TInst} {d:TDep} {b:List Int} (h:b∈finds x d.1):b.length=5∧trigB d b=true∧trigF x d b=true:=by
 have hb:=finds_len5 h
 unfold finds at h
 split at h
 · rename_i hm
   have hw:=(mOk_wok hm).1
   have hx:vInst x=true:=by unfold mOk at hm;simp only[Bool.and_eq_true]at hm;exact hm.2.1
   rcases dedF_mem h with h|h
   · simp at h
   obtain⟨_,h2,h3⟩:=walk_ok (vInst_vals hx) h hw rfl
   refine⟨hb,?_,?_⟩
   · unfold trigB
     refine List.all_eq_true.mpr fun k hk=>?_
     have hk:k<5:=by rw[hb]at hk;exact List.mem_range.mp hk
     have e:=h3 k hk
     have hbl:iAt blank k=10:=by
      rcases k with _|_|_|_|_|k<;>first|rfl|omega
     rw[←mem_vars]at e
     simp only[hbl,ne_eq,not_true,false_or]at e
     by_cases hm:(k:Int)∈vars d.1
     · rw[decide_eq_true hm,show(iAt b k == 10)=false from beq_eq_false_iff_ne.mpr (e.mpr hm)];rfl
     · have:iAt b k=10:=Classical.byContradiction fun h'=>hm (e.mp h')
       rw[decide_eq_false hm,this];rfl
   · unfold trigF
     refine List.all_eq_true.mpr fun a ha=>?_
     obtain⟨m1,m2⟩:=h2 a ha
     rw[m1,decide_eq_true m2];rfl
 · simp at h
theorem trigF_mono {x y:TInst} {d:TDep} {b:List Int} (hxy:∀ f∈x.2.1,f∈y.2.1) (h:trigF x d b=true):trigF y d b=true:=by
 unfold trigF at h ⊢
 refine List.all_eq_true.mpr fun a ha=>?_
 have:=List.all_eq_true.mp h a ha
 rw[Bool.and_eq_true,decide_eq_true_eq]at this
 rw[this.1,decide_eq_true (hxy _ this.2)];rfl
theorem inst_vals {b:List Int}:∀ {ts s s':List Int},runE (instS b) ts s = .inr s'→s'=s++ts.map (fun t=>if 0≤t then iAt b t.toNat else -1 - t)∧(∀ t∈ts,vVal (if 0≤t then iAt b t.toNat else -1 - t)=true)
 |[],s,s',h=>by simp only[runE,Sum.inr.injEq]at h;subst h;simp
 | t::ts,s,s',h=>by
   simp only[runE]at h
   cases e:instS b s t with
   |inl _=>rw[e]at h;simp at h
   | inr s1=>
     rw[e]at h
     obtain⟨h1,h2⟩:=inst_vals h
     have h3:s1=s++[if 0≤t then iAt b t.toNat else -1 - t]∧vVal (if 0≤t then iAt b t.toNat else -1 - t)=true:=by
      unfold instS instG at e
      by_cases ht:0≤t
      · rw [if_pos ht]at e ⊢
        by_cases hl:(b.length:Int)≤t
        · rw[if_pos hl]at e;simp at e
        · rw[if_neg hl]at e
          by_cases hv:vVal (b.getD t.toNat 0)=true
          · rw[if_pos hv]at e
            simp only[Sum.inr.injEq]at e
            exact⟨e.symm,hv⟩
          · rw[if_neg hv]at e;simp at e
      · rw[if_neg ht]at e ⊢
        by_cases hv:vVal (-1 - t)=true
        · rw[if_pos hv]at e
          simp only[Sum.inr.injEq]at e
          exact⟨e.symm,hv⟩
        · rw[if_neg hv]at e;simp at e
     refine⟨by rw[h1,h3.1];simp,fun u hu=>?_⟩
     rcases List.mem_cons.mp hu with rfl|hu
     · exact h3.2
     · exact h2 u hu
theorem inst_at {a:TFact} {b:List Int} (h:instOk a b=true):(inst a b).1=a.1∧(inst a b).2.1=a.2.1.map (fun t=>if 0≤t then iAt b t.toNat else -1 - t)∧∀ t∈a.2.1,vVal (if 0≤t then iAt b t.toNat else -1 - t)=true:=by
 unfold instOk at h
 unfold inst
 cases e:runE (instS b) a.2.1 []with
 |inl r=>rw[e]at h;simp at h
 | inr s=>
   obtain⟨h1,h2⟩:=inst_vals e
   exact⟨rfl,by simpa using h1,h2⟩
theorem nulls_nextN {x:TInst} {f:TFact} (hf:f∈x.2.1) {v:Int} (hv:v∈f.2.1) (hn:isNul v=true):nulNo v<nextN x:=by
 have hr:=nextN_range x
 have hk:nulNo v∈nulI x:=by
  unfold nulI
  rw[mem_sset,List.mem_flatMap]
  refine⟨f,hf,mem_nulls.mpr ?_⟩
  have:=isNul_iff.mp hn
  have e:nulNo v = -1 - v:=by unfold nulNo;rw[if_pos hn]
  rw[e]
  exact⟨by omega,by omega,by rw[show -1 - (-1 - v)=v by omega];exact hv⟩
 have:=nextN_le (x:=x) (n:=(nextN x).toNat) |>.mp (by omega) _ hk
 omega
theorem trig_val {x:TInst} {d:TDep} {b:List Int} (hF:trigF x d b=true) {k:Nat} (hk:(k:Int)∈vars d.1):vVal (iAt b k)=true∧(isNul (iAt b k)=true→nulNo (iAt b k)<nextN x):=by
 obtain⟨a,ha,hka⟩:=mem_vars.mp hk
 have:=List.all_eq_true.mp hF a ha
 rw[Bool.and_eq_true,decide_eq_true_eq]at this
 obtain⟨_,h2,h3⟩:=inst_at this.1
 have e:(if (0:Int)≤(k:Int)then iAt b (k:Int).toNat else -1 - (k:Int))=iAt b k:=by rw[if_pos (by omega),Int.toNat_natCast]
 have h4:=h3 _ hka
 rw[e]at h4
 refine⟨h4,fun hn=>nulls_nextN this.2 ?_ hn⟩
 rw[h2]
 exact List.mem_map.mpr ⟨_,hka,e⟩
theorem maxI_zero {m:Int} (h:0≤m):maxI m 0=m:=by unfold maxI;split<;>omega
theorem maxI_ge {m n:Int}:m≤maxI m n:=by unfold maxI;split<;>omega
theorem deepG_eq {dp:List Int} {m v:Int} (h:0≤m):deepG dp m v=maxI m (if isNul v then dp.getD (nulNo v).toNat 0 else 0):=by
 unfold deepG
 have hn:=nulNo_nonneg v
 split
 · split
   · rfl
   · rename_i h2
     rw[List.getD_eq_getElem?_getD,List.getElem?_eq_none (by omega)]
     exact(maxI_zero h).symm
 · exact(maxI_zero h).symm
theorem deepF_fold {dp:List Int}:∀ {l:List Int} {m:Int},0≤m→l.foldl (deepG dp) m=l.foldl (fun m v=>maxI m (if isNul v then dp.getD (nulNo v).toNat 0 else 0)) m
 |[],m,_=>rfl
 | v::l,m,h=>by
   rw[List.foldl_cons,List.foldl_cons,deepG_eq h]
   exact deepF_fold (Int.le_trans h maxI_ge)
theorem deepF_eq {dp:List Int} {l:List Int}:l.foldl (deepG dp) 0+1=depOf dp l:=by
 rw[deepF_fold (Int.le_refl 0),fold_nulls (g:=fun k=>dp.getD k.toNat 0) (Int.le_refl 0)]
 rfl
theorem deps_app (l m:List TTerm):∃ r,deps_ (l++m)=deps_ l++r:=by
 induction m generalizing l with
 |nil=>exact⟨[],by simp⟩
 | cons a m ih=>
   obtain⟨r,hr⟩:=ih (l++[a])
   rw[List.append_assoc,deps_snoc,List.append_assoc]at hr
   exact⟨_,hr⟩
theorem depOf_bnd {out args:List Int} {n:Nat} (h:∀ d∈out,0≤d∧d≤n):0≤depOf out args∧depOf out args≤n+1:=by
 unfold depOf
 have h0:=mx_nonneg (fun k=>out.getD k.toNat 0) (nulls args)
 have:mx (fun k=>out.getD k.toNat 0) (nulls args)≤n:=mx_le.mpr ⟨by omega,fun k _=>by
  by_cases hk:k.toNat<out.length
  · rw[getD_at hk];exact(h _ (List.getElem_mem hk)).2
  · rw[List.getD_eq_getElem?_getD,List.getElem?_eq_none (by omega)];simp⟩
 omega
theorem deps_bnd (n:Nat):∀(l:List TTerm),l.length=n→∀ d∈deps_ l,0≤d∧d≤l.length:=by
 induction n with
 |zero=>intro l hl;obtain rfl:=List.length_eq_zero_iff.mp hl;simp[deps_]
 | succ n ih0=>
   intro l0 hl d hd
   have hne:l0≠[]:=by intro e;rw[e]at hl;simp at hl
   obtain⟨l,t,rfl⟩:∃ l t,l0=l++[t]:=⟨_,_,(List.dropLast_concat_getLast hne).symm⟩
   have ih:=ih0 l (by simpa using hl)
   rw[deps_snoc]at hd
   rw[List.length_append]
   simp only[List.length_cons,List.length_nil]
   rcases List.mem_append.mp hd with hd|hd
   · have:=ih d hd;omega
   · have e:d=depOf (deps_ l) t.2.2.1:=by simpa using hd
     rw[e]
     have:=depOf_bnd (args:=t.2.2.1) ih
     omega
theorem deepS_eq (n:Nat):∀(l:List TTerm),l.length=n→n≤1000→l.foldl deepS []=deps_ l:=by
 induction n with
 |zero=>intro l hl _;obtain rfl:=List.length_eq_zero_iff.mp hl;rfl
 | succ n ih0=>
   intro l0 hl h31
   have hne:l0≠[]:=by intro e;rw[e]at hl;simp at hl
   obtain⟨l,t,rfl⟩:∃ l t,l0=l++[t]:=⟨_,_,(List.dropLast_concat_getLast hne).symm⟩
   have hln:l.length=n:=by simpa using hl
   rw[List.foldl_append,ih0 l hln (by omega),deps_snoc]
   simp only[List.foldl_cons,List.foldl_nil]
   unfold deepS
   rw[deepF_eq]
   have:=depOf_bnd (args:=t.2.2.1) (deps_bnd _ l rfl)
   rw[w64_id (by omega) (by omega)]
theorem g_sl23Deep_x {s:TSk} {t:TTerm} (hl:s.2.1.length≤30):G_sl23Deep s t (depOf (deps_ s.2.1) t.2.2.1):=by
 have:=g_sl23Deep_v (s:=s) (t:=t) hl
 rw[deepS_eq _ _ rfl (by simp;omega),deps_snoc]at this
 have e:(deps_ s.2.1++[depOf (deps_ s.2.1) t.2.2.1]).getD s.2.1.length 0=depOf (deps_ s.2.1) t.2.2.1:=by
  have hd:=dps_len s.2.1
  rw[List.getD_eq_getElem?_getD,List.getElem?_append_right (by omega),hd]
  simp
 rw[e]at this
 exact this
def termR (s:TSk) (t:TTerm):TSk×Int×Bool:=if t∈s.2.1 then(s,-1 - termIx s.2.1 t,true)else if s.2.1.length=30∨8<depOf (deps_ s.2.1) t.2.2.1 then(s,0,false)else((s.1,(s.2.1++[t],s.2.2)),-1 - (s.2.1.length:Int),true)
theorem g_sl23Term_x {s:TSk} {t:TTerm} (hl:s.2.1.length≤30):G_sl23Term s t (termR s t).1 (termR s t).2.1 (termR s t).2.2:=by
 by_cases hm:t∈s.2.1
 · have e:termR s t=(s,-1 - termIx s.2.1 t,true):=by unfold termR;rw[if_pos hm]
   rw[e]
   exact sl23Term_main hl _ _ _ (fun _=>⟨rfl,rfl,rfl⟩) (fun h=>absurd hm h)
 · have hy:=g_sl23Deep_x (s:=s) (t:=t) hl
   by_cases h30:s.2.1.length=30
   · have e:termR s t=(s,0,false):=by unfold termR;rw[if_neg hm,if_pos (.inl h30)]
     rw[e]
     exact sl23Term_main hl _ _ _ (fun h=>absurd h hm) (fun _=>lenI fun _=>bc_beq (fun _=>rfl) (fun h=>by omega))
   · by_cases h8:depOf (deps_ s.2.1) t.2.2.1 > 8
     · have e:termR s t=(s,0,false):=by unfold termR;rw[if_neg hm,if_pos (.inr h8)]
       rw[e]
       exact sl23Term_main hl _ _ _ (fun h=>absurd h hm) (fun _=>lenI fun _=>bc_beq (fun h=>by omega) (fun _=>⟨_,hy,bc_dec (fun _=>rfl) (fun h=>absurd h8 h)⟩))
     · have e:termR s t=((s.1,(s.2.1++[t],s.2.2)),-1 - (s.2.1.length:Int),true):=by unfold termR;rw[if_neg hm,if_neg (by rintro (h|h);exact h30 h;exact h8 h)]
       rw[e]
       refine sl23Term_main hl _ _ _ (fun h=>absurd h hm) (fun _=>lenI fun _=>bc_beq (fun h=>by omega) (fun _=>⟨_,hy,bc_dec (fun h=>absurd h h8) (fun _=>⟨trivial,trivial,by simp only[maxL,List.length_nil];omega,by simp only[maxL,List.length_append,List.length_cons,List.length_nil];omega,lenI fun _=>⟨-1 - (s.2.1.length:Int),?_,rfl⟩⟩)⟩))
       have e:w64 ((List.length ((([]:List TTerm)++s.2.1)++([t]:List TTerm)):Int) - (1:Int))=(s.2.1.length:Int):=by
        rw[w64_id]<;>simp<;>omega
       rw[e]
       exact g_sNullValue (by omega) (by omega)
theorem termOk_left {l m:List TTerm} {k:Nat} (hk:k<l.length):termOk (l++m) k=termOk l k:=by
 have e:termAt_ (l++m) k=termAt_ l k:=by rw[termAt_get (by rw[List.length_append];omega),termAt_get hk,List.getElem_append_left hk]
 unfold termOk
 rw[e,List.take_append_of_le_length (by omega)]
theorem areT_snoc {ts:List TTerm} {t:TTerm} (h:areT ts=true) (hl:ts.length<30) (h1:inR t.1 0 4=true) (h2:inR t.2.1 0 4=true) (h3:t.2.2.1.length≤5) (h4:t.2.2.1.all (argOk ts.length)=true) (h5:t∉ts) (h8:depOf (deps_ ts) t.2.2.1≤8):areT (ts++[t])=true:=by
 unfold areT at h ⊢
 simp only[Bool.and_eq_true,decide_eq_true_eq]at h ⊢
 obtain⟨⟨_,g2⟩,g3⟩:=h
 refine⟨⟨by simp;omega,List.all_eq_true.mpr fun k hk=>?_⟩,?_⟩
 · have hk:k<ts.length+1:=by simpa using hk
   by_cases hkl:k<ts.length
   · rw[termOk_left hkl];exact List.all_eq_true.mp g2 k (List.mem_range.mpr hkl)
   · obtain rfl:k=ts.length:=by omega
     unfold termOk
     have e:termAt_ (ts++[t]) ts.length=t:=by rw[termAt_get (by simp)];simp
     rw[e,h1,h2,h4,decide_eq_true h3,List.take_append_of_le_length (Nat.le_refl _),List.take_length,any_dec,decide_eq_false h5];rfl
 · rw[deps_snoc,List.all_append,g3]
   simpa using h8
theorem hdF_app {d:TDep} {i:Int} {b:List Int}:∀ {l:List Int} {s:List TTerm×List Int},∃ r,(l.foldl (hdG d i b) s).1=s.1++r
 |[],s=>⟨[],by simp⟩
 | v::l,s=>by
   rw[List.foldl_cons]
   obtain⟨r,hr⟩:=hdF_app (d:=d) (i:=i) (b:=b) (l:=l) (s:=hdG d i b s v)
   rw[hr]
   unfold hdG
   split
   · exact⟨r,rfl⟩
   · exact⟨_,by rw[List.append_assoc]⟩
def fireE (d:TDep) (i:Int) (b:List Int) (st:List TTerm×List Int) (v:Int):Unit ⊕ (List TTerm×List Int):=
 if tmOf d i b v∈st.1 then .inr (hdG d i b st v)else if st.1.length=30∨8<depOf (deps_ st.1) (frArgs d b)then .inl ()else .inr (hdG d i b st v)
theorem fireE_inr {d:TDep} {i:Int} {b:List Int} {st st':List TTerm×List Int} {v:Int} (h:fireE d i b st v = .inr st'):st'=hdG d i b st v:=by
 unfold fireE at h
 split at h
 · exact(Sum.inr.inj h).symm
 · split at h
   · cases h
   · exact(Sum.inr.inj h).symm
theorem fireF_inr {d:TDep} {i:Int} {b:List Int}:∀ {l:List Int} {st st':List TTerm×List Int},runE (fireE d i b) l st = .inr st'→st'=l.foldl (hdG d i b) st
 |[],st,st',h=>by simp only[runE,Sum.inr.injEq]at h;exact h.symm
 | v::l,st,st',h=>by
   simp only[runE]at h
   cases e:fireE d i b st v with
   |inl _=>rw[e]at h;simp at h
   |inr s1=>rw[e]at h;rw[List.foldl_cons,←fireE_inr e];exact fireF_inr h
theorem fireF_ok {d:TDep} {i:Int} {b:List Int} (hi:inR i 0 4=true) (hfr:(frArgs d b).length≤5):∀ {l:List Int} {st st':List TTerm×List Int},(∀ v∈l,inR v 0 4=true)→(frArgs d b).all (argOk st.1.length)=true→areT st.1=true→runE (fireE d i b) l st = .inr st'→areT st'.1=true
 |[],st,st',_,_,h,hr=>by simp only[runE,Sum.inr.injEq]at hr;subst hr;exact h
 | v::l,st,st',hv,ha,h,hr=>by
   simp only[runE]at hr
   cases e:fireE d i b st v with
   |inl _=>rw[e]at hr;simp at hr
   | inr s1=>
     rw[e]at hr
     have e1:=fireE_inr e
     have hlt:=areT_len h
     have key:areT s1.1=true∧st.1.length≤s1.1.length:=by
      unfold fireE at e
      by_cases hm:tmOf d i b v∈st.1
      · have:s1.1=st.1:=by rw[e1];unfold hdG;rw[if_pos hm]
        rw[this];exact⟨h,Nat.le_refl _⟩
      · rw[if_neg hm]at e
        by_cases hc:st.1.length=30∨8<depOf (deps_ st.1) (frArgs d b)
        · rw[if_pos hc]at e;cases e
        · have:s1.1=st.1++[tmOf d i b v]:=by rw[e1];unfold hdG;rw[if_neg hm]
          rw[this]
          have h30:¬ st.1.length=30:=fun h'=>hc (.inl h')
          have h8:¬ 8<depOf (deps_ st.1) (frArgs d b):=fun h'=>hc (.inr h')
          exact⟨areT_snoc h (by omega) hi (hv v (by simp)) hfr ha hm (by unfold tmOf;simp only;omega),by simp⟩
     refine fireF_ok hi hfr (fun u hu=>hv u (by simp[hu])) (List.all_eq_true.mpr fun w hw=>?_) key.1 hr
     have:=List.all_eq_true.mp ha w hw
     unfold argOk at this ⊢
     rw[Bool.and_eq_true]at this
     rw[this.1,Bool.true_and]
     have h2:=this.2
     cases hn:isNul w with
     |false=>rfl
     | true=>
       rw[hn,Bool.true_and]at h2
       have h2:¬ (st.1.length:Int)≤nulNo w:=by simpa using h2
       have:¬ (s1.1.length:Int)≤nulNo w:=by omega
       simp[this]
theorem fireF_no {d:TDep} {i:Int} {b:List Int} {r:Unit}:∀ {l:List Int} {st:List TTerm×List Int},runE (fireE d i b) l st = .inl r→areT (l.foldl (hdG d i b) st).1=false
 |[],st,h=>by simp[runE]at h
 | v::l,st,h=>by
   simp only[runE]at h
   rw[List.foldl_cons]
   cases e:fireE d i b st v with
   |inr s1=>rw[e]at h;rw[←fireE_inr e];exact fireF_no h
   | inl _=>
     obtain⟨r',hr⟩:=hdF_app (d:=d) (i:=i) (b:=b) (l:=l) (s:=hdG d i b st v)
     rw[hr]
     unfold fireE at e
     by_cases hm:tmOf d i b v∈st.1
     · rw[if_pos hm]at e;cases e
     · rw [if_neg hm]at e
       by_cases hc:st.1.length=30∨8<depOf (deps_ st.1) (frArgs d b)
       · have:(hdG d i b st v).1=st.1++[tmOf d i b v]:=by unfold hdG;rw[if_neg hm]
         rw[this,Bool.eq_false_iff]
         intro ha
         rcases hc with hc|hc
         · have:=areT_len ha
           simp only[List.length_append,List.length_cons,List.length_nil]at this
           omega
         · unfold areT at ha
           simp only[Bool.and_eq_true]at ha
           obtain⟨r2,hr2⟩:=deps_app (st.1++[tmOf d i b v]) r'
           rw[hr2,deps_snoc]at ha
           have:=List.all_eq_true.mp ha.2 (depOf (deps_ st.1) (tmOf d i b v).2.2.1) (by simp)
           have:depOf (deps_ st.1) (frArgs d b)≤8:=of_decide_eq_true this
           omega
       · rw[if_neg hc]at e;cases e
theorem hdF_vals {d:TDep} {i:Int} {b:List Int}:∀ {l:List Int} {st:List TTerm×List Int},(∀ v∈l,0≤v∧v<5)→st.2.length=5→
  (l.foldl (hdG d i b) st).2.length=5∧∀ k:Nat,k<5→((k:Int)∈l→∃ n:Int,iAt (l.foldl (hdG d i b) st).2 k = -1 - n∧0≤n∧n<((l.foldl (hdG d i b) st).1.length:Int))∧((k:Int)∉l→iAt (l.foldl (hdG d i b) st).2 k=iAt st.2 k)
 |[],st,_,h5=>⟨h5,fun k _=>⟨by simp,by simp⟩⟩
 | v::l,st,hv,h5=>by
   rw[List.foldl_cons]
   have hvr:=hv v (by simp)
   have hset:∃ n:Int,(hdG d i b st v).2=st.2.set v.toNat (-1 - n)∧0≤n∧n<((hdG d i b st v).1.length:Int):=by
    unfold hdG
    split
    · rename_i hm
      have:=termIx_in hm
      exact⟨_,rfl,this.1,this.2⟩
    · exact⟨_,rfl,by omega,by simp;omega⟩
   obtain⟨n,e1,e2,e3⟩:=hset
   have h5':(hdG d i b st v).2.length=5:=by rw[hdG_vlen];exact h5
   obtain⟨g1,g2⟩:=hdF_vals (d:=d) (i:=i) (b:=b) (l:=l) (st:=hdG d i b st v) (fun u hu=>hv u (by simp[hu])) h5'
   have hge:=hdF_ge (d:=d) (i:=i) (b:=b) (l:=l) (s:=hdG d i b st v)
   refine⟨g1,fun k hk=>?_⟩
   obtain⟨q1,q2⟩:=g2 k hk
   refine⟨fun hm=>?_,fun hm=>?_⟩
   · by_cases hkl:(k:Int)∈l
     · exact q1 hkl
     · have hkv:(k:Int)=v:=(List.mem_cons.mp hm).resolve_right hkl
       refine⟨n,?_,e2,by omega⟩
       rw[q2 hkl,e1,iAt_set (by omega),if_pos (by omega)]
   · have hkl:(k:Int)∉l:=fun h=>hm (by simp[h])
     have hkv:¬ (k:Int)=v:=fun h=>hm (by simp[h])
     rw[q2 hkl,e1,iAt_set (by omega),if_neg (by omega)]
def nextS (s:TSk) (d:TDep) (i:Int) (b:List Int):TSk:=((s.1.1,(facS (s.1.2.1++hdFacts d (hdS s.2.1 d i b).2),())),((hdS s.2.1 d i b).1,()))
theorem hdFacts_map (d:TDep) (vs:List Int):hdFacts d vs=d.2.1.map fun a=>inst a vs:=by unfold hdFacts;rw[foldl_snoc,List.nil_append]
theorem vInst_mk {l:List TRel} {fs:List TFact} (h1:vRels l=true) (h2:asc fs) (h3:fs.length≤30) (h4:∀ f∈fs,vFact l f=true∧(srcAt l f.1=true→nulF f=[])):vInst (l,(fs,()))=true:=by
 rw[vInst_yes (x:=(l,(fs,()))) fun i hi=>?_]
 · simp only[h1,Bool.true_and];exact decide_eq_true h3
 · have hi:i<fs.length:=hi
   have hf:=h4 _ (List.getElem_mem hi)
   rw[factOk_split (x:=(l,(fs,()))) hi hf.1 (fun h0=>by simp only;rw[factAt_get (by omega)];exact h2 _ _ hi (by omega))]
   simp only
   cases hs:srcAt l fs[i].1 with
   |false=>rfl
   |true=>rw[hf.2 hs];rfl
theorem vInst_src {x:TInst} (h:vInst x=true) {f:TFact} (hf:f∈x.2.1) (hs:srcAt x.1 f.1=true):nulF f=[]:=by
 unfold vInst at h
 rw[Bool.and_eq_true]at h
 obtain⟨i,hi,rfl⟩:=List.mem_iff_getElem.mp hf
 have:=List.all_eq_true.mp h.2 i (List.mem_range.mpr hi)
 unfold factOk at this
 rw[Bool.and_eq_true,factAt_get hi,hs,Bool.true_and]at this
 have h2:=this.2
 simp at h2
 exact h2
theorem inst_mk {a:TFact} {c:List Int} (h:∀ t∈a.2.1,vVal (if 0≤t then iAt c t.toNat else -1 - t)=true) (ht:∀ t∈a.2.1,t<c.length):instOk a c=true∧inst a c=(a.1,(a.2.1.map (fun t=>if 0≤t then iAt c t.toNat else -1 - t),())):=by
 refine inst_fit (a:=a) (c:=c) (f:=(a.1,(a.2.1.map (fun t=>if 0≤t then iAt c t.toNat else -1 - t),()))) rfl (by simp) (fun p hp=>?_) (fun v hv=>?_) ht
 · simp only at hp
   obtain⟨j,hj,rfl⟩:=List.mem_iff_getElem.mp hp
   rw[List.getElem_zip,List.getElem_map]
   unfold termV
   simp only
   split
   · rename_i h0;rw[if_neg (by omega)]
   · rename_i h0;rw[if_pos (by omega)]
 · obtain⟨t,ht',rfl⟩:=List.mem_map.mp hv
   exact h t ht'
structure FireOk (s:TSk) (ds:List TDep) (d:TDep) (i:Nat) (b:List Int):Prop where
 sk:vSk s=true
 pl:plainD s.1.1 ds=true
 at_:ds[i]? = some d
 b5:b.length=5
 tB:trigB d b=true
 tF:trigF s.1 d b=true
theorem plain_dep {l:List TRel} {ds:List TDep} (h:plainD l ds=true) {d:TDep} (hd:d∈ds):vDep l d=true∧d.2.2.1=false∧ds.length≤5:=by
 unfold plainD at h
 rw[Bool.and_eq_true]at h
 refine⟨vDeps_mem h.1 hd,?_,vDeps_len h.1⟩
 cases he:d.2.2.1 with
 |false=>rfl
 | true=>
   have:(ds.any fun d=>d.2.2.1)=true:=List.any_eq_true.mpr ⟨d,hd,he⟩
   rw[this]at h;simp at h
theorem vDep_heads {l:List TRel} {d:TDep} (h:vDep l d=true) (he:d.2.2.1=false):∀ a∈d.2.1,vAtom l a=true∧srcAt l a.1=false:=by
 unfold vDep at h
 rw[he]at h
 simp only[Bool.and_eq_true,Bool.false_eq_true,if_false]at h
 intro a ha
 have:=List.all_eq_true.mp h.2.1.1.1 a ha
 rw[Bool.and_eq_true]at this
 exact⟨this.1,by simpa using this.2⟩
theorem srt_filter {l:List Int} (p:Int→Bool) (h:srt l):srt (l.filter p):=List.Pairwise.filter p h
theorem frV_len5 {l:List TRel} {d:TDep} (h:vDep l d=true):(frV d).length≤5:=by
 have hs:=vDep_spec h
 refine srt_range (a:=0) (n:=5) (srt_filter _ (srt_sset _)) fun y hy=>?_
 have:=vars_range hs.2.2.2.2.1 (List.mem_filter.mp hy).1
 omega
theorem frArgs_map (d:TDep) (b:List Int):frArgs d b=(frV d).map fun v=>b.getD v.toNat 0:=by unfold frArgs;rw[foldl_snoc,List.nil_append]
section
variable {s:TSk} {ds:List TDep} {d:TDep} {i:Nat} {b:List Int}
theorem FireOk.lt (h:FireOk s ds d i b):i<ds.length∧d∈ds:=by
 have:=h.at_
 obtain⟨hi,e⟩:=List.getElem?_eq_some_iff.mp this
 exact⟨hi,e ▸ List.getElem_mem hi⟩
theorem FireOk.args (h:FireOk s ds d i b):(frArgs d b).length≤5∧(frArgs d b).all (argOk s.2.1.length)=true:=by
 obtain⟨hd,_,_⟩:=plain_dep h.pl h.lt.2
 have hs:=vDep_spec hd
 rw[frArgs_map]
 refine⟨by rw[List.length_map];exact frV_len5 hd,List.all_eq_true.mpr fun w hw=>?_⟩
 obtain⟨v,hv,rfl⟩:=List.mem_map.mp hw
 have h1:=List.mem_filter.mp hv
 have h2:v∈vars d.1:=of_decide_eq_true h1.2
 have h3:=vars_range hs.2.2.1 h2
 have:=trig_val (k:=v.toNat) h.tF (by rw[show((v.toNat:Nat):Int)=v by omega];exact h2)
 have hn:=(vSk_parts h.sk).2.1
 show argOk s.2.1.length (iAt b v.toNat)=true
 unfold argOk
 rw[this.1,Bool.true_and]
 cases hz:isNul (iAt b v.toNat)with
 |false=>rfl
 | true=>
   have:=this.2 hz
   have:¬ (s.2.1.length:Int)≤nulNo (iAt b v.toNat):=by omega
   simp[this]
theorem FireOk.hdLen (h:FireOk s ds d i b):(hdS s.2.1 d i b).2.length=5∧(hdS s.2.1 d i b).1.length≤36∧s.2.1.length≤(hdS s.2.1 d i b).1.length:=by
 obtain⟨hd,_,_⟩:=plain_dep h.pl h.lt.2
 have h6:=exV_le6 hd
 have ht:=areT_len (vSk_parts h.sk).2.2
 have h1:=(hdF_vals (d:=d) (i:=i) (b:=b) (l:=exV d) (st:=(s.2.1,b)) (fun v hv=>exV_range hd hv) h.b5).1
 have h2:=fold_len (l:=exV d) (g:=hdG d i b) (s:=(s.2.1,b)) (μ:=fun st=>st.1.length) (c:=1) fun st v _=>hdG_tlen d i b st v
 have h3:=hdF_ge (d:=d) (i:=i) (b:=b) (l:=exV d) (s:=(s.2.1,b))
 simp only at h2 h3
 exact⟨h1,by unfold hdS;omega,h3⟩
theorem FireOk.vals (h:FireOk s ds d i b) {a:TFact} (ha:a∈d.2.1) {t:Int} (ht:t∈a.2.1) :
  vVal (if 0≤t then iAt (hdS s.2.1 d i b).2 t.toNat else -1 - t)=true∧(isNul (if 0≤t then iAt (hdS s.2.1 d i b).2 t.toNat else -1 - t)=true→nulNo (if 0≤t then iAt (hdS s.2.1 d i b).2 t.toNat else -1 - t)<(hdS s.2.1 d i b).1.length):=by
 obtain⟨hd,he,_⟩:=plain_dep h.pl h.lt.2
 have hs:=vDep_spec hd
 have hrow:=term_row (hs.2.2.2.2.1 a ha)
 have htr:=hrow.2 t ht
 obtain⟨_,hl2,hl3⟩:=h.hdLen
 by_cases h0:0≤t
 · rw[if_pos h0]
   obtain⟨g1,g2⟩:=(hdF_vals (d:=d) (i:=i) (b:=b) (l:=exV d) (st:=(s.2.1,b)) (fun v hv=>exV_range hd hv) h.b5).2 t.toNat (by omega)
   rw[show((t.toNat:Nat):Int)=t by omega]at g1 g2
   by_cases hx:t∈exV d
   · obtain⟨n,e1,e2,e3⟩:=g1 hx
     have e1:iAt (hdS s.2.1 d i b).2 t.toNat = -1 - n:=e1
     have e3:n<((hdS s.2.1 d i b).1.length:Int):=e3
     rw[e1]
     have hn:isNul (-1 - n)=true:=isNul_iff.mpr ⟨by omega,by omega⟩
     refine⟨inR_iff.mpr ⟨by omega,by omega⟩,fun _=>?_⟩
     unfold nulNo;rw[if_pos hn];omega
   · have e1:iAt (hdS s.2.1 d i b).2 t.toNat=iAt b t.toNat:=g2 hx
     rw[e1]
     have htv:t∈vars d.2.1:=by
      rw[show t=((t.toNat:Nat):Int) by omega,mem_vars]
      exact⟨a,ha,by rw[show((t.toNat:Nat):Int)=t by omega];exact ht⟩
     have htb:t∈vars d.1:=by
      refine Classical.byContradiction fun hn=>hx ?_
      unfold exV
      exact List.mem_filter.mpr ⟨htv,by simp[hn]⟩
     have:=trig_val (k:=t.toNat) h.tF (by rw[show((t.toNat:Nat):Int)=t by omega];exact htb)
     have hn:=(vSk_parts h.sk).2.1
     exact⟨this.1,fun hz=>by have:=this.2 hz;omega⟩
 · rw[if_neg h0]
   refine⟨inR_iff.mpr ⟨by omega,by omega⟩,fun hn=>?_⟩
   have:=isNul_iff.mp hn
   omega
theorem FireOk.head (h:FireOk s ds d i b) {f:TFact} (hf:f∈hdFacts d (hdS s.2.1 d i b).2):vFact s.1.1 f=true∧(srcAt s.1.1 f.1=true→nulF f=[])∧(∀ v∈f.2.1,isNul v=true→nulNo v<(hdS s.2.1 d i b).1.length)∧f.2.1.length≤3:=by
 obtain⟨hd,he,_⟩:=plain_dep h.pl h.lt.2
 rw[hdFacts_map]at hf
 obtain⟨a,ha,rfl⟩:=List.mem_map.mp hf
 obtain⟨hva,hsrc⟩:=vDep_heads hd he a ha
 have hrow:=term_row hva
 obtain⟨hl1,_,_⟩:=h.hdLen
 obtain⟨_,e⟩:=inst_mk (a:=a) (c:=(hdS s.2.1 d i b).2) (fun t ht=>(h.vals ha ht).1) (fun t ht=>by have:=(hrow.2 t ht).2;omega)
 rw[e]
 refine⟨?_,fun hs=>?_,fun v hv hn=>?_,by simpa using hrow.1⟩
 · unfold vFact vRow
   have hva':=hva
   unfold vAtom vRow at hva'
   simp only[Bool.and_eq_true]at hva' ⊢
   refine⟨⟨⟨hva'.1.1.1,hva'.1.1.2⟩,by simpa using hva'.1.2⟩,List.all_eq_true.mpr fun v hv=>?_⟩
   obtain⟨t,ht,rfl⟩:=List.mem_map.mp hv
   exact(h.vals ha ht).1
 · rw[hsrc]at hs;cases hs
 · obtain⟨t,ht,rfl⟩:=List.mem_map.mp hv
   exact(h.vals ha ht).2 hn
theorem FireOk.inst (h:FireOk s ds d i b):vInst (nextS s d i b).1=decide ((nextS s d i b).1.2.1.length≤30)∧nextN (nextS s d i b).1≤(hdS s.2.1 d i b).1.length∧∀ f∈(nextS s d i b).1.2.1,f.2.1.length≤3:=by
 have hx:=(vSk_inst h.sk).1
 have hmem:∀ f∈(nextS s d i b).1.2.1,f∈s.1.2.1∨f∈hdFacts d (hdS s.2.1 d i b).2:=fun f hf=>List.mem_append.mp (facS_mem.mp hf)
 refine⟨?_,?_,fun f hf=>?_⟩
 · by_cases hl:(nextS s d i b).1.2.1.length≤30
   · rw[decide_eq_true hl]
     refine vInst_mk (vInst_rels hx) (facS_asc _) hl fun f hf=>?_
     rcases hmem f hf with hf|hf
     · exact⟨vInst_fact hx hf,vInst_src hx hf⟩
     · exact⟨(h.head hf).1,(h.head hf).2.1⟩
   · rw[decide_eq_false hl,Bool.eq_false_iff]
     exact fun h'=>hl (vInst_len h')
 · refine nextN_le.mpr fun k hk=>?_
   unfold nulI at hk
   rw[mem_sset,List.mem_flatMap]at hk
   obtain⟨f,hf,hk⟩:=hk
   obtain⟨k1,k2,k3⟩:=mem_nulls.mp hk
   have hn:isNul (-1 - k)=true:=isNul_iff.mpr ⟨by omega,by omega⟩
   have hno:nulNo (-1 - k)=k:=by unfold nulNo;rw[if_pos hn];omega
   rcases hmem f hf with hf|hf
   · have h1:=nulls_nextN hf k3 hn
     have h2:=(vSk_parts h.sk).2.1
     have h3:=h.hdLen.2.2
     omega
   · have:=(h.head hf).2.2.1 _ k3 hn
     omega
 · rcases hmem f hf with hf|hf
   · exact(vRow_spec (vInst_fact hx hf)).2.2.2.2.1
   · exact(h.head hf).2.2.2
theorem FireOk.next (h:FireOk s ds d i b):vSk (nextS s d i b)=(areT (hdS s.2.1 d i b).1&&decide ((nextS s d i b).1.2.1.length≤30)):=by
 obtain⟨h1,h2,_⟩:=h.inst
 unfold vSk
 have e:(nextS s d i b).2.1=(hdS s.2.1 d i b).1:=rfl
 rw[h1,e,decide_eq_true h2,Bool.and_true,Bool.and_comm]
theorem FireOk.run (h:FireOk s ds d i b):(∀ st,runE (fireE d i b) (exV d) (s.2.1,b) = .inr st→st=hdS s.2.1 d i b∧areT (hdS s.2.1 d i b).1=true)∧(∀ r,runE (fireE d i b) (exV d) (s.2.1,b) = .inl r→areT (hdS s.2.1 d i b).1=false):=by
 obtain⟨hd,_,h5⟩:=plain_dep h.pl h.lt.2
 have hi:=h.lt.1
 refine⟨fun st hr=>?_,fun r hr=>fireF_no hr⟩
 have e:=fireF_inr hr
 refine⟨e,?_⟩
 have:=fireF_ok (inR_iff.mpr ⟨by omega,by omega⟩) h.args.1 (fun v hv=>by have:=exV_range hd hv;exact inR_iff.mpr ⟨by omega,by omega⟩) h.args.2 (vSk_parts h.sk).2.2 hr
 rw[e]at this
 exact this
end
def fireR (s:TSk) (d:TDep) (i:Nat) (b:List Int):TSk×Bool:=if areT (hdS s.2.1 d i b).1 then(nextS s d i b,decide ((nextS s d i b).1.2.1.length≤30))else(s,false)
section
variable {s:TSk} {ds:List TDep} {d:TDep} {i:Nat} {b:List Int}
theorem FireOk.res (h:FireOk s ds d i b):(fireR s d i b).2=vSk (nextS s d i b)∧(vSk (nextS s d i b)=true→(fireR s d i b).1=nextS s d i b):=by
 rw[h.next]
 unfold fireR
 cases areT (hdS s.2.1 d i b).1 with
 |true=>exact⟨rfl,fun _=>rfl⟩
 |false=>exact⟨rfl,fun h=>by cases h⟩
theorem FireOk.getD_ (h:FireOk s ds d i b):ds.getD (Int.toNat (i:Int)) zDep=d:=by
 rw[Int.toNat_natCast,List.getD_eq_getElem?_getD,h.at_];rfl
theorem g_sl23Fire (h:FireOk s ds d i b):G_sl23Fire s ds i b (fireR s d i b).1 (fireR s d i b).2:=M_sl23Fire _ _ _ _ _ _ (by
 unfold S_sl23Fire
 obtain⟨hd,he,_⟩:=plain_dep h.pl h.lt.2
 have hs:=vDep_spec hd
 have hil:=h.lt.1
 have hb:=h.b5
 have hts:=areT_len (vSk_parts h.sk).2.2
 have hfl:=frV_len5 hd
 have hx:=(vSk_inst h.sk).1
 have hxl:=vInst_len hx
 rw[h.getD_]
 refine inI hil ⟨_,g_sFrontierVariables (by omega) (by omega),?_⟩
 refine loop_foldB (frV d) (fun s v=>s++[b.getD v.toNat 0]) [] (fun j s=>((j:Int),(s,()))) List.length 1 5 hfl (fun s v _=>by simp) ?_ ?_
 · intro j hj a X hs' hX
   have hv:=vars_range hs.2.2.2.2.1 (List.mem_filter.mp (List.getElem_mem hj)).1
   refine lenI fun _=>bcI hj (inI hj ?_)
   simp only
   rw[getI hj,w64_succ (by omega)]
   exact⟨⟨by omega,by omega⟩,by simp only[maxL,List.length_cons,List.length_nil]at *;omega,hX⟩
 · intro X _
   have efr:(frV d).foldl (fun s v=>s++[b.getD v.toNat 0]) []=frArgs d b:=rfl
   rw[efr]
   have hal:=h.args.1
   refine lenI fun _=>bcN ⟨by simp only[maxL,List.length_nil];omega,?_⟩
   refine inI hil ⟨_,g_sExistentialVariables (by omega) (by omega),?_⟩
   simp only[List.nil_append]
   refine loop_run (exV d) (fireE d i b) (s.2.1,b) (fun j st=>((j:Int),(((([]:List TRel),(([]:List TFact),())),(([]:List TTerm),())),((s.1,(st.1,())),(st.2,()))))) (KR:=fun _=>((s,(false,())):TSk×Bool×Unit)=((fireR s d i b).1,((fireR s d i b).2,()))) ?_ ?_ ?_
   · intro j hj st Y hr q1 q2
     have hv:=exV_range hd (List.getElem_mem hj)
     have e0:=fireF_inr hr
     have h5:st.2.length=5:=by
      rw[e0]
      exact(hdF_vals (d:=d) (i:=i) (b:=b) (l:=(exV d).take j) (st:=(s.2.1,b)) (fun v hv=>exV_range hd (List.mem_of_mem_take hv)) hb).1
     have hta:areT st.1=true:=fireF_ok (inR_iff.mpr ⟨by omega,by have:=(plain_dep h.pl h.lt.2).2.2;omega⟩) hal (fun v hv=>by have:=exV_range hd (List.mem_of_mem_take hv);exact inR_iff.mpr ⟨by omega,by omega⟩) h.args.2 (vSk_parts h.sk).2.2 hr
     have htl:=areT_len hta
     refine lenI fun _=>bcI hj (inI hj ⟨trivial,trivial,by simp only[maxL,List.length_nil];omega,?_⟩)
     simp only
     rw[getI hj,w64_succ (by omega)]
     have et:(((i:Int),((exV d)[j],(frArgs d b,()))):TTerm)=tmOf d i b (exV d)[j]:=rfl
     rw[et]
     refine⟨_,_,_,g_sl23Term_x htl,?_⟩
     unfold termR
     simp only
     by_cases hm:tmOf d i b (exV d)[j]∈st.1
     · rw[if_pos hm]
       refine bc_not (fun h=>by cases h) (fun _=>inI hj ⟨⟨by omega,by omega⟩,?_⟩)
       have:=q2 (hdG d i b st (exV d)[j]) (by unfold fireE;rw[if_pos hm])
       unfold hdG at this
       rw[if_pos hm]at this
       exact this
     · rw[if_neg hm]
       have ea:(tmOf d i b (exV d)[j]).2.2.1=frArgs d b:=rfl
       rw[ea]
       by_cases hc:st.1.length=30∨8<depOf (deps_ st.1) (frArgs d b)
       · rw[if_pos hc]
         exact bc_not (fun _=>q1 () (by unfold fireE;rw[if_neg hm,if_pos hc])) (fun h=>by cases h)
       · rw[if_neg hc]
         refine bc_not (fun h=>by cases h) (fun _=>inI hj ⟨⟨by omega,by omega⟩,?_⟩)
         have:=q2 (hdG d i b st (exV d)[j]) (by unfold fireE;rw[if_neg hm,if_neg hc])
         unfold hdG at this
         rw[if_neg hm]at this
         exact this
   · intro st Y hr
     obtain⟨rfl,hta⟩:=h.run.1 st hr
     refine lenI fun _=>bcN ?_
     obtain⟨hl1,hl2,hl3⟩:=h.hdLen
     simp only
     generalize hvs:(hdS s.2.1 d i b).2=vs at hl1 ⊢
     have hm:∀ k,(((d.2.1.take k).map fun a=>inst a vs).foldl putF s.1.2.1).length≤32:=fun k=>by
      have:=foldF_len (l:=(d.2.1.take k).map fun a=>inst a vs) (m:=s.1.2.1)
      rw[List.length_map,List.length_take]at this
      omega
     refine loopP_of d.2.1.length (fun k=>((k:Int),(((s.1.1,(((d.2.1.take k).map fun a=>inst a vs).foldl putF s.1.2.1,())),((hdS s.2.1 d i b).1,())),()))) (by simp) ?_ ?_
     · intro k hk Z hZ
       have hr:=term_row (hs.2.2.2.2.1 _ (List.getElem_mem hk))
       have hmk:=hm k
       have hil2:=inst_len (a:=d.2.1[k]) (b:=vs)
       refine inI hil (lenI fun _=>bcI hk (inI hil (inI hk ⟨inst d.2.1[k] vs,instOk d.2.1[k] vs,?_,_,g_sl5Put (by simp only;omega) (by simp only;omega),?_⟩)))
       · simp only;rw[getI hk];exact g_sInstantiate (by omega) (by omega) hr.2
       · simp only
         rw[w64_succ (by omega)]
         rw[take_succ_snoc hk,List.map_append,List.foldl_append]at hZ
         exact hZ
     · intro Z
       refine inI hil (lenI fun _=>bcN (lenI fun _=>?_))
       simp only[List.take_length]
       have e:(d.2.1.map fun a=>inst a vs).foldl putF s.1.2.1=facS (s.1.2.1++hdFacts d (hdS s.2.1 d i b).2):=by
        rw[hvs,hdFacts_map];exact heads_asc hx _
       rw[e]
       unfold fireR
       rw[hta,if_pos rfl]
       have e2:decide (((facS (s.1.2.1++hdFacts d (hdS s.2.1 d i b).2)).length:Int)≤30)=decide ((nextS s d i b).1.2.1.length≤30):=decide_eq_decide.mpr (by unfold nextS;simp only;omega)
       rw[e2];rfl
   · intro r hr
     have:=h.run.2 r hr
     unfold fireR
     rw[this];rfl)
end
theorem g_iApplySkolem {s:TSk} {ds:List TDep} {d:TDep} {i:Nat} {b:List Int} (h:FireOk s ds d i b):G_iApplySkolem s ds i b (if vSk (nextS s d i b)then nextS s d i b else s) (vSk (nextS s d i b)):=M_iApplySkolem _ _ _ _ _ _ (by
 unfold S_iApplySkolem
 obtain⟨hd,he,h5⟩:=plain_dep h.pl h.lt.2
 have hs:=vDep_spec hd
 have hil:=h.lt.1
 have hts:=areT_len (vSk_parts h.sk).2.2
 have hx:=(vSk_inst h.sk).1
 have hxl:=vInst_len hx
 have hcp:G_istateCopy s s:=g_istateCopy h.sk
 have hsm:=SmS.of h.sk
 have no:vSk (nextS s d i b)=false→((s,(false,())):TSk×Bool×Unit)=(if vSk (nextS s d i b)then nextS s d i b else s,(vSk (nextS s d i b),())):=fun h=>by rw[h];rfl
 refine⟨_,g_iIsValidSkolemState,bc_not (fun h'=>by rw[h.sk]at h';cases h') (fun _=>⟨_,g_iarePlain,bc_not (fun h'=>by rw[h.pl]at h';cases h') (fun _=>lenI fun hl=>?_)⟩)⟩
 rw[w64_id (n:=(ds.length:Int) - 1) (by omega) (by omega)]
 have hin:inR (i:Int) 0 ((ds.length:Int) - 1)=true:=inR_iff.mpr ⟨by omega,by omega⟩
 refine⟨_,g_iwithin,bc_not (fun h'=>by rw[hin]at h';cases h') (fun _=>inI hil ?_)⟩
 rw[h.getD_]
 have htr:isTrig s.1 d b=true:=by unfold isTrig;rw[hx,hd,h.tB,h.tF,h.b5];rfl
 refine⟨_,g_iIsTrigger,bc_not (fun h'=>by rw[htr]at h';cases h') (fun _=>?_)⟩
 have hdi:ds[i]=d:=by have:=h.at_;rw[List.getElem?_eq_getElem hil]at this;exact Option.some.inj this
 have hg:=g_iheadFacts (ts:=s.2.1) (b:=b) hil (by rw[hdi];exact dOk_of hd) hts h.b5
 rw[hdi]at hg
 refine⟨_,_,hg,?_⟩
 obtain⟨hl1,hl2,hl3⟩:=h.hdLen
 have hal:=h.args.1
 have hhl:(hdFacts d (hdS s.2.1 d i b).2).length≤2:=by rw[hdFacts_map,List.length_map];exact hs.2.2.2.1
 have hta:∀ t∈(hdS s.2.1 d i b).1,t.2.2.1.length≤1048576:=by
  have:∀(l:List Int) (st:List TTerm×List Int),(∀ t∈st.1,t.2.2.1.length≤1048576)→∀ t∈(l.foldl (hdG d i b) st).1,t.2.2.1.length≤1048576:=by
   intro l
   induction l with
   |nil=>intro st h;exact h
   | cons v l ih=>
     intro st hst
     rw[List.foldl_cons]
     refine ih _ fun t ht=>?_
     unfold hdG at ht
     split at ht
     · exact hst t ht
     · rcases List.mem_append.mp ht with ht|ht
       · exact hst t ht
       · obtain rfl:t=tmOf d i b v:=by simpa using ht
         show(frArgs d b).length≤_
         omega
  exact this (exV d) (s.2.1,b) hsm.args
 refine⟨_,g_istateCopy_b (s:=(s.1,((hdS s.2.1 d i b).1,()))) ⟨hsm.rels,hsm.few,hsm.row,by simp only;omega,hta⟩,by simp only[maxL];omega,_,g_ifactsSet (by simp only[List.length_append];omega) (fun f hf=>?_),_,g_iIsValidSkolemState,?_⟩
 · rcases List.mem_append.mp hf with hf|hf
   · have:=(vRow_spec (vInst_fact hx hf)).2.2.2.2.1;omega
   · have:=(h.head hf).2.2.2;omega
 · have e:(((s.1.1,(facS (s.1.2.1++hdFacts d (hdS s.2.1 d i b).2),s.1.2.2)),((hdS s.2.1 d i b).1,())):TSk)=nextS s d i b:=rfl
   simp only
   rw[e]
   exact bc_not (fun hv=>⟨s,hcp,no hv⟩) (fun hv=>by rw[hv];rfl))
def matchE (d:TDep) (i:Nat) (st:TSk) (b:List Int):Unit ⊕ TSk:=if vSk (nextS st d i b)then .inr (nextS st d i b)else .inl ()
def depE (ds:List TDep) (st:TSk) (i:Nat):Unit ⊕ TSk:=runE (matchE (ds.getD i zDep) i) (finds st.1 (ds.getD i zDep).1) st
def roundE (ds:List TDep) (st:TSk):Unit ⊕ TSk:=runE (depE ds) (List.range ds.length) st
def chaseK (ds:List TDep):Nat→TSk→Unit ⊕ TSk
 |0,st=>.inr st
 | n+1,st=>match roundE ds st with
   |.inl _=>.inl ()
   |.inr st'=>if st'.1.2.1.length=st.1.2.1.length then .inr st' else chaseK ds n st'
def skc (s:TSk) (ds:List TDep):TSk×Bool:=if vSk s&&plainD s.1.1 ds then(match chaseK ds 31 s with
 |.inl _=>(s,false)
 |.inr y=>(y,true))else(s,false)
structure Goes (a b:TSk):Prop where
 sk:vSk b=true
 rels:b.1.1=a.1.1
 sub:∀ f∈a.1.2.1,f∈b.1.2.1
 len:a.1.2.1.length≤b.1.2.1.length
theorem Goes.refl {a:TSk} (h:vSk a=true):Goes a a:=⟨h,rfl,fun _ h=>h,Nat.le_refl _⟩
theorem Goes.trans {a b c:TSk} (h1:Goes a b) (h2:Goes b c):Goes a c:=⟨h2.sk,h2.rels.trans h1.rels,fun f hf=>h2.sub f (h1.sub f hf),Nat.le_trans h1.len h2.len⟩
theorem putF_ge {l:List TFact} {f:TFact}:l.length≤(putF l f).length:=by
 unfold putF
 split
 · exact Nat.le_refl _
 · simp only[List.length_append,List.length_cons,List.length_take,List.length_drop];omega
theorem foldF_ge:∀ {l m:List TFact},m.length≤(l.foldl putF m).length
 |[],m=>Nat.le_refl _
 |a::l,m=>by rw[List.foldl_cons];exact Nat.le_trans putF_ge (foldF_ge (l:=l))
theorem matchE_goes {d:TDep} {i:Nat} {st st':TSk} {b:List Int} (hv:vSk st=true) (h:matchE d i st b = .inr st'):Goes st st':=by
 unfold matchE at h
 split at h
 · rename_i hn
   obtain rfl:=Sum.inr.inj h
   refine⟨hn,rfl,fun f hf=>facS_mem.mpr (List.mem_append_left _ hf),?_⟩
   show st.1.2.1.length≤(facS (st.1.2.1++_)).length
   rw[←heads_asc (vSk_inst hv).1]
   exact foldF_ge
 · cases h
theorem runG_goes {α:Type} {g:TSk→α→Unit ⊕ TSk} (hg:∀ st a st',vSk st=true→g st a = .inr st'→Goes st st'):∀ {l:List α} {st st':TSk},vSk st=true→runE g l st = .inr st'→Goes st st'
 |[],st,st',hv,h=>by simp only[runE,Sum.inr.injEq]at h;subst h;exact .refl hv
 | a::l,st,st',hv,h=>by
   simp only[runE]at h
   cases e:g st a with
   |inl _=>rw[e]at h;simp at h
   | inr s1=>
     rw[e]at h
     have h1:=hg st a s1 hv e
     exact h1.trans (runG_goes hg h1.sk h)
theorem depE_goes {ds:List TDep} {st st':TSk} {i:Nat} (hv:vSk st=true) (h:depE ds st i = .inr st'):Goes st st':=runG_goes (fun st b st' hv h=>matchE_goes hv h) hv h
theorem roundE_goes {ds:List TDep} {st st':TSk} (hv:vSk st=true) (h:roundE ds st = .inr st'):Goes st st':=runG_goes (fun st b st' hv h=>depE_goes hv h) hv h
theorem fire_at {ds:List TDep} {st0 st:TSk} {i:Nat} (hi:i<ds.length) (hp:plainD st0.1.1 ds=true) (hg:Goes st0 st) {b:List Int} (hb:b∈finds st0.1 (ds.getD i zDep).1):FireOk st ds (ds.getD i zDep) i b:=by
 obtain⟨h5,hB,hF⟩:=finds_trig hb
 exact⟨hg.sk,by rw[hg.rels];exact hp,by rw[List.getD_eq_getElem?_getD,List.getElem?_eq_getElem hi];rfl,h5,hB,trigF_mono hg.sub hF⟩
theorem few_of {s:TSk} (h:vSk s=true):s.1.2.1.length≤30:=vInst_len (vSk_inst h).1
theorem skc_no {s:TSk} {ds:List TDep} (h:(vSk s&&plainD s.1.1 ds)=false):skc s ds=(s,false):=by unfold skc;rw[h];rfl
theorem skc_inl {s:TSk} {ds:List TDep} {r:Unit} (h:(vSk s&&plainD s.1.1 ds)=true) (hr:chaseK ds 31 s = .inl r):skc s ds=(s,false):=by unfold skc;rw[h,hr];rfl
theorem skc_inr {s y:TSk} {ds:List TDep} (h:(vSk s&&plainD s.1.1 ds)=true) (hr:chaseK ds 31 s = .inr y):skc s ds=(y,true):=by unfold skc;rw[h,hr];rfl
theorem g_sSkolemChase {s:TSk} {ds:List TDep} (hsm:SmS s):G_sSkolemChase s ds (skc s ds).1 (skc s ds).2:=M_sSkolemChase _ _ _ _ (by
 unfold S_sSkolemChase
 have hcp:G_sl23Copy s s:=g_sl23Copy_b hsm
 refine⟨s,hcp,_,g_sIsValidSkolemState,bc_not (fun h=>by rw[skc_no (by rw[h];rfl)]) (fun h1=>⟨_,g_sl23Plain,bc_not (fun h=>by rw[skc_no (by rw[h1,h];rfl)]) (fun h2=>?_)⟩)⟩
 have h12:(vSk s&&plainD s.1.1 ds)=true:=by rw[h1,h2];rfl
 have h5:ds.length≤5:=by have h3:=h2;unfold plainD at h3;rw[Bool.and_eq_true]at h3;exact vDeps_len h3.1
 refine loopP_down (fun k a=>∃ st:TSk,a=(st,(((([]:List TRel),(([]:List TFact),())),(([]:List TTerm),())),()))∧Goes s st∧30<st.1.2.1.length+k∧chaseK ds k st=chaseK ds 31 s) ?_ ?_ (n:=31) ⟨s,rfl,.refl h1,by omega,rfl⟩
 · rintro a ⟨st,rfl,hg,hk,_⟩ X
   have:=few_of hg.sk
   omega
 · rintro k a ⟨st,rfl,hg,hk,hc⟩ X hX
   have hpl:plainD st.1.1 ds=true:=by rw[hg.rels];exact h2
   have bad:∀ r:Unit,roundE ds st = .inl r→((s,(false,())):TSk×Bool×Unit)=((skc s ds).1,((skc s ds).2,())):=fun r hr=>by rw[skc_inl (r:=()) h12 (by rw[←hc,chaseK,hr])]
   refine lenI fun _=>?_
   simp only
   refine loop_run (List.range ds.length) (depE ds) st (fun i q=>((i:Int),(((([]:List TRel),(([]:List TFact),())),(([]:List TTerm),())),(q,())))) (KR:=fun _=>((s,(false,())):TSk×Bool×Unit)=((skc s ds).1,((skc s ds).2,()))) ?_ ?_ bad
   · intro i hi q Y hr q1 q2
     have hi:i<ds.length:=by simpa using hi
     rw[List.getElem_range]at q1 q2
     have hq:Goes st q:=runG_goes (fun st b st' hv h=>depE_goes hv h) hg.sk hr
     have hpq:plainD q.1.1 ds=true:=by rw[hq.rels];exact hpl
     refine lenI fun _=>bcI hi (inI hi ⟨_,g_sFindMatches,?_⟩)
     simp only
     rw[Int.toNat_natCast,w64_succ (by omega)]
     have hM:=finds_len (x:=q.1) (l:=(ds.getD i zDep).1)
     refine loop_run (finds q.1 (ds.getD i zDep).1) (matchE (ds.getD i zDep) i) q (fun j p=>((j:Int),(((([]:List TRel),(([]:List TFact),())),(([]:List TTerm),())),(p,())))) (KR:=fun _=>((s,(false,())):TSk×Bool×Unit)=((skc s ds).1,((skc s ds).2,()))) ?_ ?_ q1
     · intro j hj p Z hr2 p1 p2
       have hp:Goes q p:=runG_goes (fun st b st' hv h=>matchE_goes hv h) hq.sk hr2
       have hf:=fire_at hi hpq hp (List.getElem_mem hj)
       obtain⟨r1,r2⟩:=hf.res
       refine lenI fun _=>bcI hj (inI hj ⟨trivial,(fireR p (ds.getD i zDep) i (finds q.1 (ds.getD i zDep).1)[j]).1,(fireR p (ds.getD i zDep) i (finds q.1 (ds.getD i zDep).1)[j]).2,?_,?_⟩)
       · simp only
         rw[getI hj]
         exact g_sl23Fire hf
       · simp only
         rw[w64_succ (by omega),r1]
         refine bc_not (fun hv=>⟨s,hcp,p1 () (by unfold matchE;rw[hv];rfl)⟩) (fun hv=>?_)
         rw[r2 hv]
         exact p2 _ (by unfold matchE;rw[hv];rfl)
     · intro p Z hr2
       exact lenI fun _=>bcN (q2 p hr2)
   · intro q Y hr
     have hr:roundE ds st = .inr q:=hr
     have hq:Goes st q:=roundE_goes hg.sk hr
     simp only[List.length_range]
     refine lenI fun _=>bcN (lenI fun _=>bc_beq (fun h=>?_) (fun h=>?_))
     · have h:q.1.2.1.length=st.1.2.1.length:=by omega
       rw[skc_inr (y:=q) h12 (by rw[←hc,chaseK,hr];simp only;rw[if_pos h])]
     · have h:¬ q.1.2.1.length=st.1.2.1.length:=by omega
       have:=hq.len
       exact hX _ ⟨q,rfl,hg.trans hq,by omega,by rw[←hc,chaseK,hr];simp only;rw[if_neg h]⟩)
theorem g_iSkolemChase {s:TSk} {ds:List TDep} (hsm:SmS s):G_iSkolemChase s ds (skc s ds).1 (skc s ds).2:=M_iSkolemChase _ _ _ _ (by
 unfold S_iSkolemChase
 have hcp:G_istateCopy s s:=g_istateCopy_b hsm
 refine⟨_,g_iIsValidSkolemState,bc_not (fun h=>⟨s,hcp,by rw[skc_no (by rw[h];rfl)]⟩) (fun h1=>⟨_,g_iarePlain,bc_not (fun h=>⟨s,hcp,by rw[skc_no (by rw[h1,h];rfl)]⟩) (fun h2=>⟨s,hcp,?_⟩)⟩)⟩
 have h12:(vSk s&&plainD s.1.1 ds)=true:=by rw[h1,h2];rfl
 have h5:ds.length≤5:=by have h3:=h2;unfold plainD at h3;rw[Bool.and_eq_true]at h3;exact vDeps_len h3.1
 refine loopP_down (fun k a=>∃(st:TSk) (b:Int),a=(b,(st,(((([]:List TRel),(([]:List TFact),())),(([]:List TTerm),())),())))∧Goes s st∧((b=(st.1.2.1.length:Int)∧chaseK ds 31 s = .inr st)∨(b≠(st.1.2.1.length:Int)∧30<st.1.2.1.length+k∧chaseK ds k st=chaseK ds 31 s))) ?_ ?_ (n:=31) ⟨s,-1,rfl,.refl h1,.inr ⟨by omega,by omega,rfl⟩⟩
 · rintro a ⟨st,b,rfl,hg,hk⟩ X
   have:=few_of hg.sk
   rcases hk with⟨hb,hc⟩|⟨hb,hk,_⟩
   · refine lenI fun _=>bc_ne (fun h=>absurd hb h) (fun _=>?_)
     rw[skc_inr h12 hc]
   · omega
 · rintro k a ⟨st,b,rfl,hg,hk⟩ X hX
   rcases hk with⟨hb,hc⟩|⟨hb,hk,hc⟩
   · refine lenI fun _=>bc_ne (fun h=>absurd hb h) (fun _=>?_)
     rw[skc_inr h12 hc]
   have hpl:plainD st.1.1 ds=true:=by rw[hg.rels];exact h2
   have bad:∀ r:Unit,roundE ds st = .inl r→((s,(false,())):TSk×Bool×Unit)=((skc s ds).1,((skc s ds).2,())):=fun r hr=>by rw[skc_inl (r:=()) h12 (by rw[←hc,chaseK,hr])]
   refine lenI fun _=>bc_ne (fun _=>lenI fun _=>lenI fun _=>?_) (fun h=>absurd h hb)
   simp only
   refine loop_run (List.range ds.length) (depE ds) st (fun i q=>((i:Int),(q,(((([]:List TRel),(([]:List TFact),())),(([]:List TTerm),())),())))) (KR:=fun _=>((s,(false,())):TSk×Bool×Unit)=((skc s ds).1,((skc s ds).2,()))) ?_ ?_ bad
   · intro i hi q Y hr q1 q2
     have hi:i<ds.length:=by simpa using hi
     rw[List.getElem_range]at q1 q2
     have hq:Goes st q:=runG_goes (fun st b st' hv h=>depE_goes hv h) hg.sk hr
     have hpq:plainD q.1.1 ds=true:=by rw[hq.rels];exact hpl
     refine bcI hi (inI hi ⟨_,g_iFindMatches,lenI fun _=>?_⟩)
     simp only
     rw[Int.toNat_natCast,w64_succ (by omega)]
     have hM:=finds_len (x:=q.1) (l:=(ds.getD i zDep).1)
     refine loop_run (finds q.1 (ds.getD i zDep).1) (matchE (ds.getD i zDep) i) q (fun j p=>((j:Int),(p,(((([]:List TRel),(([]:List TFact),())),(([]:List TTerm),())),())))) (KR:=fun _=>((s,(false,())):TSk×Bool×Unit)=((skc s ds).1,((skc s ds).2,()))) ?_ ?_ q1
     · intro j hj p Z hr2 p1 p2
       have hp:Goes q p:=runG_goes (fun st b st' hv h=>matchE_goes hv h) hq.sk hr2
       have hf:=fire_at hi hpq hp (List.getElem_mem hj)
       refine bcI hj (inI hj ⟨if vSk (nextS p (ds.getD i zDep) i (finds q.1 (ds.getD i zDep).1)[j])then nextS p (ds.getD i zDep) i (finds q.1 (ds.getD i zDep).1)[j] else p,vSk (nextS p (ds.getD i zDep) i (finds q.1 (ds.getD i zDep).1)[j]),?_,?_⟩)
       · simp only
         rw[getI hj]
         exact g_iApplySkolem hf
       · simp only
         rw[w64_succ (by omega)]
         refine bc_not (fun hv=>⟨s,hcp,p1 () (by unfold matchE;rw[hv];rfl)⟩) (fun hv=>?_)
         rw[if_pos hv]
         exact p2 _ (by unfold matchE;rw[hv];rfl)
     · intro p Z hr2
       exact bcN (q2 p hr2)
   · intro q Y hr
     have hr:roundE ds st = .inr q:=hr
     have hq:Goes st q:=roundE_goes hg.sk hr
     simp only[List.length_range]
     refine bcN (hX _ ⟨q,_,rfl,hg.trans hq,?_⟩)
     by_cases h:q.1.2.1.length=st.1.2.1.length
     · exact .inl ⟨by omega,by rw[←hc,chaseK,hr];simp only;rw[if_pos h]⟩
     · have:=hq.len
       exact .inr ⟨by omega,by omega,by rw[←hc,chaseK,hr];simp only;rw[if_neg h]⟩)
theorem mem_sum {α:Type} {f:α→Nat}:∀ {l:List α} {a:α},a∈l→f a≤(l.map f).sum
 | b::l,a,h=>by
   rw[List.map_cons,List.sum_cons]
   rcases List.mem_cons.mp h with rfl|h
   · omega
   · have:=mem_sum (f:=f) h;omega
theorem sk_small {s:TSk} (h:bulk (.pair (.pair (.sl 0 (.pair .str (.pair (.int .i64) (.pair .bool .unit)))) (.pair (.sl 0 (.pair (.int .i64) (.pair (.sl 0 (.int .i64)) .unit))) .unit)) (.pair (.sl 0 (.pair (.int .i64) (.pair (.int .i64) (.pair (.sl 0 (.int .i64)) .unit)))) .unit)) s≤1048576):SmS s:=by
 have h:((List.length s.1.1+(s.1.1.map (bulk (.pair .str (.pair (.int .i64) (.pair .bool .unit))))).sum)+((List.length s.1.2.1+(s.1.2.1.map (bulk (.pair (.int .i64) (.pair (.sl 0 (.int .i64)) .unit)))).sum)+0))+((List.length s.2.1+(s.2.1.map (bulk (.pair (.int .i64) (.pair (.int .i64) (.pair (.sl 0 (.int .i64)) .unit))))).sum)+0)≤1048576:=h
 refine⟨by omega,by omega,fun f hf=>?_,by omega,fun t ht=>?_⟩
 · have h1:=mem_sum (f:=bulk (.pair (.int .i64) (.pair (.sl 0 (.int .i64)) .unit))) hf
   have h2:f.2.1.length≤bulk (.pair (.int .i64) (.pair (.sl 0 (.int .i64)) .unit)) f:=by
    show f.2.1.length≤0+((f.2.1.length+_)+0)
    omega
   omega
 · have h1:=mem_sum (f:=bulk (.pair (.int .i64) (.pair (.int .i64) (.pair (.sl 0 (.int .i64)) .unit)))) ht
   have h2:t.2.2.1.length≤bulk (.pair (.int .i64) (.pair (.int .i64) (.pair (.sl 0 (.int .i64)) .unit))) t:=by
    show t.2.2.1.length≤0+(0+((t.2.2.1.length+_)+0))
    omega
   omega
abbrev qFact:Sh:=.pair (.int .i64) (.pair (.sl 0 (.int .i64)) .unit)
abbrev qTerm:Sh:=.pair (.int .i64) (.pair (.int .i64) (.pair (.sl 0 (.int .i64)) .unit))
abbrev qRels:Sh:=.sl 0 (.pair .str (.pair (.int .i64) (.pair .bool .unit)))
abbrev qSk:Sh:=.pair (.pair qRels (.pair (.sl 0 qFact) .unit)) (.pair (.sl 0 qTerm) .unit)
theorem sum_le_of {α:Type} {f:α→Nat} {c:Nat}:∀ {l:List α},(∀ a∈l,f a≤c)→(l.map f).sum≤l.length * c
 |[],_=>by simp
 | a::l,h=>by
   have h1:=h a (by simp)
   have h2:=sum_le_of (l:=l) fun b hb=>h b (by simp[hb])
   rw[List.map_cons,List.sum_cons,List.length_cons,Nat.succ_mul]
   omega
theorem bulk_ints (l:List Int):bulk (.sl 0 (.int .i64)) l=l.length:=by
 have h:∀ l:List (Sh.den (.int .i64)),(l.map (bulk (.int .i64))).sum=0:=by
  intro l
  induction l with
  |nil=>rfl
  |cons a l ih=>rw[List.map_cons,List.sum_cons,ih];rfl
 exact congrArg (l.length + ·) (h l)
theorem bulk_fact (f:TFact):bulk qFact f=f.2.1.length:=by
 have h:=bulk_ints f.2.1
 have e:bulk qFact f=0+(bulk (.sl 0 (.int .i64)) f.2.1+0):=rfl
 omega
theorem bulk_term (t:TTerm):bulk qTerm t=t.2.2.1.length:=by
 have h:=bulk_ints t.2.2.1
 have e:bulk qTerm t=0+(0+(bulk (.sl 0 (.int .i64)) t.2.2.1+0)):=rfl
 omega
theorem bulk_facts {l:List TFact} {c:Nat} (h:∀ f∈l,f.2.1.length≤c):bulk (.sl 0 qFact) l≤l.length+l.length * c:=
 Nat.add_le_add_left (sum_le_of (f:=bulk qFact) (c:=c) (l:=l) fun f hf=>Nat.le_trans (Nat.le_of_eq (bulk_fact f)) (h f hf)) _
theorem bulk_terms {l:List TTerm} {c:Nat} (h:∀ f∈l,f.2.2.1.length≤c):bulk (.sl 0 qTerm) l≤l.length+l.length * c:=
 Nat.add_le_add_left (sum_le_of (f:=bulk qTerm) (c:=c) (l:=l) fun f hf=>Nat.le_trans (Nat.le_of_eq (bulk_term f)) (h f hf)) _
theorem vSk_bulk {a b:TSk} (h:vSk b=true) (hr:b.1.1=a.1.1):bulk qSk b≤bulk qSk a+400:=by
 have hf:=few_of h
 have ht:=areT_len (vSk_parts h).2.2
 have h1:=bulk_facts (l:=b.1.2.1) (c:=3) fun f hf=>(vRow_spec (vInst_fact (vSk_inst h).1 hf)).2.2.2.2.1
 have h2:=bulk_terms (l:=b.2.1) (c:=5) fun t hm=>by
  obtain⟨i,hi,rfl⟩:=List.mem_iff_getElem.mp hm
  exact vSk_args h hi
 have e1:bulk qSk b=(bulk qRels b.1.1+(bulk (.sl 0 qFact) b.1.2.1+0))+(bulk (.sl 0 qTerm) b.2.1+0):=rfl
 have e2:bulk qSk a=(bulk qRels a.1.1+(bulk (.sl 0 qFact) a.1.2.1+0))+(bulk (.sl 0 qTerm) a.2.1+0):=rfl
 rw[hr]at e1
 omega
theorem chaseK_goes {ds:List TDep}:∀ {n:Nat} {st st':TSk},vSk st=true→chaseK ds n st = .inr st'→Goes st st'
 |0,st,st',hv,h=>by simp only[chaseK,Sum.inr.injEq]at h;subst h;exact .refl hv
 | n+1,st,st',hv,h=>by
   simp only[chaseK]at h
   cases e:roundE ds st with
   |inl _=>rw[e]at h;simp at h
   | inr s1=>
     rw[e]at h
     have h1:=roundE_goes hv e
     simp only at h
     split at h
     · obtain rfl:=Sum.inr.inj h;exact h1
     · exact h1.trans (chaseK_goes h1.sk h)
theorem skc_bulk {s:TSk} {ds:List TDep}:bulk qSk (skc s ds).1≤bulk qSk s+400:=by
 by_cases h:(vSk s&&plainD s.1.1 ds)=true
 · cases e:chaseK ds 31 s with
   |inl r=>rw[skc_inl h e];exact Nat.le_add_right _ _
   | inr y=>
     rw[skc_inr h e]
     have hv:vSk s=true:=by rw[Bool.and_eq_true]at h;exact h.1
     have hg:=chaseK_goes hv e
     exact vSk_bulk hg.sk hg.rels
 · rw[skc_no (by simpa using h)];exact Nat.le_add_right _ _
theorem law {x0:TSk} {x1:List TDep} (_:Bnd (h18) x0) (_:Bnd (h25) x1):G_lFnExactSkolemChase x0 x1 true:=M_lFnExactSkolemChase _ _ _ (by
 unfold S_lFnExactSkolemChase
 refine⟨_,g_lszSkolemState (by omega) (by omega),bc_fits (by omega) (fun _=>rfl) fun h1=>?_⟩
 try rw[fits_of_ge h1]
 have hB0:bulk k13 x0≤1099511627776:=by omega
 have hS0:bulk k13 x0≤1048576:=by omega
 refine⟨_,g_lszDependencyS (by omega) (by omega),bc_fits (by omega) (fun _=>rfl) fun h2=>?_⟩
 try rw[fits_of_ge h2]
 have hB1:bulk k19 x1≤1099511627776:=by omega
 have hS1:bulk k19 x1≤1048576:=by omega
 have hn:bulk k13 (skc x0 x1).1≤bulk k13 x0+400:=skc_bulk
 refine⟨_,g_ltoSkolemState (hB0),?_⟩
 refine⟨_,g_ltoDependencyS (hB1),?_⟩
 refine⟨_,_,(g_sSkolemChase (sk_small hS0)),?_⟩
 refine⟨_,g_ltoSkolemState (hB0),?_⟩
 refine⟨_,g_ltoDependencyS (hB1),?_⟩
 refine⟨_,_,(g_iSkolemChase (sk_small hS0)),?_⟩
 refine⟨_,g_leqSkolemState,bc_nd (fun h=>absurd rfl h) fun _=>?_⟩
 refine bc_nb (fun h=>absurd rfl h) fun _=>?_
 refine⟨_,g_ltoSkolemState (hB0),?_⟩
 refine⟨_,g_leqSkolemState,bc_nd (fun h=>absurd rfl h) fun _=>?_⟩
 refine⟨_,g_ltoDependencyS (hB1),?_⟩
 refine⟨_,g_leqDependencyS,bc_nd (fun h=>absurd rfl h) fun _=>?_⟩
 have w0:=wt_le k13 x0
 have q0:scal k13=8:=rfl
 rw[q0]at w0
 have p0_0:bulk k13 x0=((bulk k3 x0.1.1+(bulk k7 x0.1.2.1+0))+(bulk k11 x0.2.1+0)):=rfl
 have p0_1:wt k13 x0=((wt k3 x0.1.1+(wt k7 x0.1.2.1+0))+(wt k11 x0.2.1+0)):=rfl
 have r0_0:bulk k9 x0.1=(bulk k3 x0.1.1+(bulk k7 x0.1.2.1+0)):=rfl
 have r0_1:wt k9 x0.1=(wt k3 x0.1.1+(wt k7 x0.1.2.1+0)):=rfl
 refine⟨_,_,g_lmarkSkolemState_oppozpopzpozzzpopzpzpozzz (x0:=x0) (x1:=1) (by omega) (by omega) (by omega),?_⟩
 have w1:=wt_le k19 x1
 have q1:scal k19=7:=rfl
 rw[q1]at w1
 have p1_0:bulk k19 x1=x1.length+(x1.map (bulk k18)).sum:=rfl
 refine⟨_,_,g_lmarkDependencyS_oopopzpozzpopzpozzz (x0:=x1) (x1:=_) (by omega) (by omega) (by omega),?_⟩
 rw[bc_neg (by omega)]
 refine⟨_,g_leqSkolemState,bc_nd (fun h=>absurd rfl h) fun _=>?_⟩
 refine bc_nb (fun h=>absurd rfl h) fun _=>?_
 have w2:=wt_le k13 (skc x0 x1).1
 have q2:scal k13=8:=rfl
 rw[q2]at w2
 have p2_0:bulk k13 (skc x0 x1).1=((bulk k3 (skc x0 x1).1.1.1+(bulk k7 (skc x0 x1).1.1.2.1+0))+(bulk k11 (skc x0 x1).1.2.1+0)):=rfl
 have p2_1:wt k13 (skc x0 x1).1=((wt k3 (skc x0 x1).1.1.1+(wt k7 (skc x0 x1).1.1.2.1+0))+(wt k11 (skc x0 x1).1.2.1+0)):=rfl
 have r2_0:bulk k9 (skc x0 x1).1.1=(bulk k3 (skc x0 x1).1.1.1+(bulk k7 (skc x0 x1).1.1.2.1+0)):=rfl
 have r2_1:wt k9 (skc x0 x1).1.1=(wt k3 (skc x0 x1).1.1.1+(wt k7 (skc x0 x1).1.1.2.1+0)):=rfl
 refine⟨_,_,g_lmarkSkolemState_oppozpopzpozzzpopzpzpozzz (x0:=(skc x0 x1).1) (x1:=1) (by omega) (by omega) (by omega),?_⟩
 refine⟨_,g_lheldSkolemState (x0:=(skc x0 x1).1) (x1:=1) (by omega) (by omega) (by omega),?_⟩
 rw[bc_neg (by omega)]
 refine bc_ne (fun h=>absurd rfl h) fun _=>?_
 refine⟨_,g_ltoSkolemState (hB0),?_⟩
 refine⟨_,g_ltoDependencyS (hB1),?_⟩
 refine⟨_,_,(g_iSkolemChase (sk_small hS0)),?_⟩
 refine⟨_,g_leqSkolemState,bc_nd (fun h=>absurd rfl h) fun _=>?_⟩
 refine bc_nb (fun h=>absurd rfl h) fun _=>?_
 refine⟨_,g_lheldSkolemState (x0:=(skc x0 x1).1) (x1:=1) (by omega) (by omega) (by omega),?_⟩
 rw[bc_neg (by omega)]
 refine bc_ne (fun h=>absurd rfl h) fun _=>?_
 rfl)
end Go.V

